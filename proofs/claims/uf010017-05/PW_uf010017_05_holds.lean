import PyProof.Rows.All
import Wide.All
import OpenK.AllK
import Wide.FinOn
import PyProof.Claim2
import PyProof.AutoSeq1
import PyProof.Cells
import PyProof.CompFree
import PyProof.MeetsSeq
import PyProof.DictTruth
import PyProof.DictStraight
import PyProof.DictRoadsH
import PyProof.EnumMake
import PyProof.IsRules
import PyProof.NeData
import PyProof.IsiBase
import PyProof.ExcClass2
import PyProof.ExcAttrAll.ValueError
import PyProof.StationsW
import PyProof.StrOps2
import PyProof.IsInstance
import PyProof.IsiNone
import PyProof.ListTruth
import PyProof.RulesAs
import PyProof.P3In
import PyProof.Rows.IntRules
import PyProof.Rows.Nodes
import PyProof.Rows.RuleU_int
import PyProof.Rows.RuleB_mul
import PyProof.Rows.RuleB_pow
import PyProof.Rows.RuleB_floordiv
import PyProof.Rows.RuleB_mod
import PyProof.Rows.RuleC_int
import PyProof.Rows.InDataRows
import PyProof.Rows.TupTab
import OpenK.KCall
import OpenK.KLine
import KE.KEqDict
import KE.KSortTup
import PySem.Challenge.RW_uf010017_05
set_option Elab.async false
set_option genSizeOf false
set_option genInjectivity false
set_option backward.eqns.nonrecursive false
set_option linter.all false
/-! Level 1: the abstract machine (own work) -/
namespace Fl
open PySem (Str)

inductive V where
  | none
  | bool (b : Bool)
  | int (i : Int)
  | tup (xs : List V)
  | list (xs : List V)
  | obj (c : String) (fs : List V)
  | range (lo hi : Int)
  | str (s : String)
  | edict
  | exc (c : String)
  deriving Inhabited

inductive A where
  | v (x : V)
  | ref (i : Nat)
  | inst (c : String) (i : Nat)
  deriving Inhabited

inductive O where
  | list (xs : List V)
  | refs (is : List Nat)
  | keys (ks : List (Int × Int))
  | fields (fs : List (String × V))
  | dead
  deriving Inhabited

noncomputable def oL : O → Option (List V)
  | .list xs => some xs
  | _ => Option.none
noncomputable def oR : O → Option (List Nat)
  | .refs is => some is
  | _ => Option.none
noncomputable def oK : O → Option (List (Int × Int))
  | .keys ks => some ks
  | _ => Option.none
/-- a list's items, what they may be -/
noncomputable def oA : O → Option (List A)
  | .list xs => some (xs.map A.v)
  | .refs is => some (is.map A.ref)
  | _ => Option.none
abbrev H := List O
abbrev Loc := String → Option A

noncomputable def Loc.set (m : Loc) (x : String) (a : A) : Loc := fun y => if y = x then some a else m y

noncomputable def b2i (b : Bool) : Int := if b then 1 else 0

noncomputable def isNoneV : V → Bool
  | .none => true
  | _ => false
noncomputable def peqB (a : Bool) : V → Bool
  | .bool b => a == b
  | .int i => decide (b2i a = i)
  | _ => false
noncomputable def peqI (i : Int) : V → Bool
  | .bool a => decide (i = b2i a)
  | .int j => decide (i = j)
  | _ => false
noncomputable def vT : V → Option (List V)
  | .tup xs => some xs
  | _ => Option.none
noncomputable def vL : V → Option (List V)
  | .list xs => some xs
  | _ => Option.none
noncomputable def peqS (s : String) : V → Bool
  | .str t => decide (s = t)
  | _ => false
mutual
noncomputable def peq : V → V → Bool
  | .none, y => isNoneV y
  | .bool a, y => peqB a y
  | .int i, y => peqI i y
  | .tup xs, y => (match vT y with | some ys => peqL xs ys | Option.none => false)
  | .list xs, y => (match vL y with | some ys => peqL xs ys | Option.none => false)
  | .obj _ _, _ => false
  | .range _ _, _ => false
  | .str s, y => peqS s y
  | .edict, _ => false
  | .exc _, _ => false
noncomputable def peqL : List V → List V → Bool
  | [], ys => ys.isEmpty
  | x :: xs, ys => (match ys with | [] => false | y :: ys => peq x y && peqL xs ys)
end

/-- the texts that are met -/
noncomputable def knownS (s : String) : Bool := ["", "web value", "point value", "turns value", "0", "01", "3", "turns"].contains s
/-- values that == is followed upon (to a depth) -/
noncomputable def flatOk : V → Bool
  | .none => true
  | .bool _ => true
  | .int _ => true
  | .str s => knownS s
  | _ => false
noncomputable def eqOkN : Nat → V → Bool
  | 0, v => flatOk v
  | n + 1, v => (match vT v with
    | some xs => xs.all (eqOkN n)
    | Option.none => (match vL v with
      | some xs => xs.all (eqOkN n)
      | Option.none => flatOk v))
noncomputable def eqOk (v : V) : Bool := eqOkN 8 v

/-- ints and tuples of ints: what is ordered, and what may be a key -/
noncomputable def isInt : V → Bool
  | .int _ => true
  | _ => false
noncomputable def isIntTup : V → Bool
  | .tup xs => xs.all isInt
  | _ => false
noncomputable def intOf : V → Int
  | .int i => i
  | _ => 0
noncomputable def tupOf : V → List V
  | .tup xs => xs
  | _ => []
noncomputable def ltL : List Int → List Int → Bool
  | [], [] => false
  | [], _ :: _ => true
  | _ :: _, [] => false
  | a :: as, b :: bs => decide (a < b) || (decide (a = b) && ltL as bs)
theorem ltL_0 : ltL [] [] = false := rfl
theorem ltL_1 (b bs) : ltL [] (b :: bs) = true := rfl
theorem ltL_2 (a as) : ltL (a :: as) [] = false := rfl
theorem ltL_3 (a as b bs) : ltL (a :: as) (b :: bs) = (decide (a < b) || (decide (a = b) && ltL as bs)) := rfl
noncomputable def keyInts : V → List Int
  | .int i => [i]
  | .tup xs => xs.map intOf
  | _ => []
/-- the order on ints, on tuples of ints -/
noncomputable def vlt (a b : V) : Bool := ltL (keyInts a) (keyInts b)
noncomputable def vle (a b : V) : Bool := !vlt b a
/-- all ints, or all tuples of ints -/
noncomputable def sortable (xs : List V) : Bool := xs.all isInt || xs.all fun v => isIntTup v && !(tupOf v).isEmpty
noncomputable def vsort (xs : List V) : List V := xs.mergeSort vle
noncomputable def vS : V → Option (List V)
  | .list xs => some xs
  | .tup xs => some xs
  | _ => Option.none
noncomputable def rngL (lo hi : Int) : List V := (List.range (hi - lo).toNat).map fun (k : Nat) => V.int (lo + (k : Int))
/-- the items of a list, a tuple, a range -/
noncomputable def vIt : V → Option (List V)
  | .list xs => some xs
  | .tup xs => some xs
  | .range lo hi => some (rngL lo hi)
  | _ => Option.none
/-- a key put in -/
noncomputable def kadd (ks : List (Int × Int)) (k : Int × Int) : List (Int × Int) := if k ∈ ks then ks else ks ++ [k]
/-- what a loop takes -/
noncomputable def items (σ : H) : A → Option (List A)
  | .v x => (vIt x).map (·.map A.v)
  | .ref i => (σ[i]?).bind oA
  | .inst _ _ => Option.none
/-- a list (its items), not a tuple nor a dict -/
noncomputable def listV (σ : H) : A → Option (List V)
  | .v x => vL x
  | .ref i => (σ[i]?).bind oL
  | .inst _ _ => Option.none
/-- what list(..) takes -/
noncomputable def vRg : V → Option (List V)
  | .list xs => some xs
  | .range lo hi => some (rngL lo hi)
  | _ => Option.none
noncomputable def seqV (σ : H) : A → Option (List V)
  | .v x => vRg x
  | .ref i => (σ[i]?).bind oL
  | .inst _ _ => Option.none
noncomputable def lenA (σ : H) : A → Option Nat
  | .v x => (vS x).map List.length
  | .ref i => ((σ[i]?).bind oA).map List.length
  | .inst _ _ => Option.none

noncomputable def listsAt (σ : H) : List Nat → Option (List V)
  | [] => some []
  | i :: r => ((σ[i]?).bind oL).bind fun xs => (listsAt σ r).map (V.list xs :: ·)
theorem listsAt_0 (σ) : listsAt σ [] = some [] := rfl
theorem listsAt_1 (σ i r) : listsAt σ (i :: r) = ((σ[i]?).bind oL).bind fun xs => (listsAt σ r).map (V.list xs :: ·) := rfl
/-- the value of an answer, refs read through -/
noncomputable def valO (σ : H) : O → Option V
  | .list xs => some (.list xs)
  | .refs is => (listsAt σ is).map V.list
  | _ => Option.none
noncomputable def valOf (σ : H) : A → Option V
  | .v x => some x
  | .ref i => (σ[i]?).bind (valO σ)
  | .inst _ _ => Option.none


inductive Op where | add | sub | mul | fdiv | mod | pow
  deriving DecidableEq
inductive Cmp where | eq | ne | lt | le | gt | isin | notin | isn
  deriving DecidableEq
inductive Bi where | len | min | max | range | int | tuple
  deriving DecidableEq
inductive Lm where | append | pop
  deriving DecidableEq
inductive Cl where | int | bool | list | tuple
  deriving DecidableEq
inductive Tgt where
  | one (x : String)
  deriving DecidableEq

mutual
inductive E where
  | c (v : V)
  | x (n : String)
  | g (n : String) (i : Int)
  | bin (o : Op) (a b : E)
  | not (a : E)
  | neg (a : E)
  | and (es : List E)
  | or (es : List E)
  | cmp (a : E) (o : Cmp) (b : E)
  | cmp2 (a : E) (o : Cmp) (b : E) (o' : Cmp) (c : E)
  | ite (c a b : E)
  | tup (es : List E)
  | fz (l : L)
  | mu (l : L)
  | mur
  | dict0
  | fdict0
  | item (a i : E)
  | attr (a : E) (f : String)
  | call (f : String) (es : List E)
  | meth (a : E) (f : String) (es : List E)
  | new (c : String) (es : List E)
  | isi (a : E) (c : Cl)
  | isx (a : E) (c : String)
  | smul (w : String) (a : E)
  | sadd (a b : E)
  | bi (f : Bi) (es : List E)
  | lm (a : E) (f : Lm) (es : List E)
  | frz (e : E)
inductive L where
  | disp (es : List E)
  | comp (elt : E) (t : Tgt) (it : E) (ifs : List E)
  | copy (e : E)
  | slice (a : E) (lo hi : Option E)
  | sorted (e : E)
  | concat (a b : E)
end

inductive S where
  | asg (x : String) (e : E)
  | setA (x f : String) (e : E)
  | setI (a i e : E)
  | ex (e : E)
  | ite (c : E) (t f : List S)
  | for_ (t : Tgt) (e : E) (b : List S)
  | whl (c : E) (b : List S)
  | forEnum (x y : String) (e : E) (b : List S)
  | ret (e : E)
  | raise (c : String) (msg : String)
  | asgC (x f : String) (es : List E)
  | exN (c : String) (es : List E)
  | exM (a : E) (f : String) (es : List E)
  | exC (f : String) (es : List E)
  | tryW (b : List S) (x : String) (e : E)
  | never

inductive Fw where
  | next | brk | cont
  | ret (a : A)

/-! the meanings -/
noncomputable def get {α : Type} : Option α → (α → Prop) → Prop
  | some x, k => k x
  | Option.none, _ => False

noncomputable def idx (n : Nat) (k : Int) : Option Nat :=
  if 0 ≤ k then (if k < n then some k.toNat else Option.none) else if 0 ≤ k + n then some (k + n).toNat else Option.none
noncomputable def cut (n : Nat) (k : Int) : Nat := if k < 0 then (k + n).toNat else min k.toNat n
noncomputable def loN (n : Nat) : Option Int → Nat
  | some k => cut n k
  | Option.none => 0
noncomputable def hiN (n : Nat) : Option Int → Nat
  | some k => cut n k
  | Option.none => n
noncomputable def sliceV {α : Type} (xs : List α) (lo hi : Option Int) : List α := (xs.take (hiN xs.length hi)).drop (loN xs.length lo)

noncomputable def vI : V → Option Int
  | .int i => some i
  | _ => Option.none
noncomputable def vB : V → Option Bool
  | .bool b => some b
  | _ => Option.none
noncomputable def asV : A → Option V
  | .v x => some x
  | _ => Option.none
noncomputable def asI (a : A) : Option Int := (asV a).bind vI
noncomputable def vO : V → Option (String × List V)
  | .obj c fs => some (c, fs)
  | _ => Option.none
noncomputable def asO (a : A) : Option (String × List V) := (asV a).bind vO
noncomputable def asT (a : A) : Option (List V) := (asV a).bind vT
noncomputable def asR : A → Option Nat
  | .ref i => some i
  | _ => Option.none
noncomputable def asN : A → Option Nat
  | .inst _ i => some i
  | _ => Option.none
noncomputable def oF : O → Option (List (String × V))
  | .fields fs => some fs
  | _ => Option.none
noncomputable def asB (a : A) : Option Bool := (asV a).bind vB
/-- truths alone are asked -/
noncomputable def truthy (_ : H) (a : A) : Option Bool := asB a
noncomputable def asLv (a : A) : Option (List V) := (asV a).bind vL
noncomputable def one1 {α : Type} : List α → Option α
  | [x] => some x
  | _ => Option.none
noncomputable def two2 {α : Type} : List α → Option (α × α)
  | [x, y] => some (x, y)
  | _ => Option.none
noncomputable def binI : Op → Int → Int → (V → Prop) → Prop
  | .add, i, j, K => K (.int (i + j))
  | .sub, i, j, K => K (.int (i - j))
  | .mul, i, j, K => i.natAbs < 2 ^ 40 ∧ j.natAbs < 2 ^ 40 ∧ K (.int (i * j))
  | .fdiv, i, j, K => j ≠ 0 ∧ j.natAbs < 2 ^ 40 ∧ K (.int (Int.fdiv i j))
  | .mod, i, j, K => j ≠ 0 ∧ K (.int (Int.fmod i j))
  | .pow, i, j, K => i = 10 ∧ j = 12 ∧ K (.int 1000000000000)
noncomputable def binSem (o : Op) (a b : A) (K : V → Prop) : Prop := get (asI a) fun i => get (asI b) fun j => binI o i j K

noncomputable def isNoneA (a : A) : Bool := match asV a with
  | some x => isNoneV x
  | Option.none => false
noncomputable def ordOk (a b : V) : Bool := isInt a && isInt b
/-- a pair of ints -/
noncomputable def vP (x : V) : Option (Int × Int) := (vT x).bind fun xs => (two2 xs).bind fun p => (vI p.1).bind fun a => (vI p.2).map fun b => (a, b)

noncomputable def isPr (x : V) : Bool := (vP x).isSome
noncomputable def inL (x : V) (xs : List V) : Option Bool := if eqOk x && xs.all eqOk then some (xs.any fun k => peq k x) else Option.none
noncomputable def inO (x : V) : O → Option Bool
  | .list xs => inL x xs
  | .keys ks => (vP x).map fun k => decide (k ∈ ks)
  | _ => Option.none
noncomputable def inB (σ : H) (x : V) : A → Option Bool
  | .v y => (vS y).bind (inL x)
  | .ref i => (σ[i]?).bind (inO x)
  | _ => Option.none
noncomputable def inSem (σ : H) (a b : A) : Option Bool := (asV a).bind fun x => inB σ x b

noncomputable def isEd : V → Bool
  | .edict => true
  | _ => false
/-- the same, where a dict may stand -/
noncomputable def same0 (x y : V) : Bool := (eqOk x && eqOk y && peq x y) || (isEd x && isEd y)
noncomputable def sameL : List V → List V → Bool
  | [], ys => ys.isEmpty
  | x :: xs, ys => (match ys with | [] => false | y :: ys => same0 x y && sameL xs ys)
noncomputable def same1 (x y : V) : Bool := same0 x y || (match vL x with | some xs => (match vL y with | some ys => sameL xs ys | Option.none => false) | Option.none => false)
noncomputable def eqV (x y : V) : Option Bool := if eqOk x && eqOk y then some (peq x y) else Option.none
noncomputable def eqF (x y : V) : Option Bool := if same1 x y then some true else Option.none
noncomputable def isnSem (a b : A) : Option Bool := (asB a).bind fun x => (asB b).map fun y => x != y
noncomputable def eqSem (σ : H) (a b : A) : Option Bool := ((valOf σ a).bind fun x => (valOf σ b).bind fun y => eqV x y).or ((asV a).bind fun x => (asV b).bind fun y => eqF x y)
noncomputable def ordV (f : V → V → Bool) (x y : V) : Option Bool := if ordOk x y then some (f x y) else Option.none
noncomputable def ordSem (f : V → V → Bool) (a b : A) : Option Bool := (asV a).bind fun x => (asV b).bind fun y => ordV f x y
noncomputable def cmpSem (σ : H) : Cmp → A → A → Option Bool
  | .eq, a, b => eqSem σ a b
  | .ne, a, b => (eqSem σ a b).map (!·)
  | .lt, a, b => ordSem vlt a b
  | .le, a, b => ordSem (fun x y => !vlt y x) a b
  | .gt, a, b => ordSem (fun x y => vlt y x) a b
  | .isin, a, b => inSem σ a b
  | .notin, a, b => (inSem σ a b).map (!·)
  | .isn, a, b => isnSem a b

noncomputable def fieldNames : String → List String
  | "Web" => ["many", "pairs", "rows"]
  | _ => []
noncomputable def fieldAt : List String → List V → String → Option V
  | n :: ns, v :: vs, f => if n = f then some v else fieldAt ns vs f
  | _, _, _ => Option.none
theorem fieldAt_0 (n ns v vs f) : fieldAt (n :: ns) (v :: vs) f = (if n = f then some v else fieldAt ns vs f) := rfl
theorem fieldAt_1 (vs f) : fieldAt [] vs f = Option.none := rfl
theorem fieldAt_2 (n ns f) : fieldAt (n :: ns) [] f = Option.none := rfl
noncomputable def fieldOf : List (String × V) → String → Option V
  | [], _ => Option.none
  | (n, v) :: r, f => if n = f then some v else fieldOf r f
theorem fieldOf_0 (f) : fieldOf [] f = Option.none := rfl
theorem fieldOf_1 (n v r f) : fieldOf ((n, v) :: r) f = (if n = f then some v else fieldOf r f) := rfl
noncomputable def fieldPut : List (String × V) → String → V → List (String × V)
  | [], f, x => [(f, x)]
  | (n, v) :: r, f, x => if n = f then (n, x) :: r else (n, v) :: fieldPut r f x
theorem fieldPut_0 (f x) : fieldPut [] f x = [(f, x)] := rfl
theorem fieldPut_1 (n v r f x) : fieldPut ((n, v) :: r) f x = (if n = f then (n, x) :: r else (n, v) :: fieldPut r f x) := rfl

noncomputable def attrSem (a : A) (f : String) : Option V := (asO a).bind fun p => fieldAt (fieldNames p.1) p.2 f

/-- isinstance, where it is asked -/
noncomputable def iI : Cl → Option Bool
  | .int => some true
  | _ => some false
noncomputable def iB : Cl → Option Bool
  | .int => some true
  | .bool => some true
  | _ => some false
noncomputable def iT : Cl → Option Bool
  | .tuple => some true
  | _ => some false
noncomputable def iL : Cl → Option Bool
  | .list => some true
  | _ => some false
noncomputable def isiV : V → Cl → Option Bool
  | .int _, c => iI c
  | .bool _, c => iB c
  | .tup _, c => iT c
  | .list _, c => iL c
  | .none, _ => some false
  | .str _, _ => some false
  | .edict, _ => some false
  | _, _ => Option.none
noncomputable def isiSem (σ : H) (a : A) (c : Cl) : Option Bool := match a with
  | .v x => isiV x c
  | .ref i => ((σ[i]?).bind oA).bind fun _ => iL c
  | .inst _ _ => Option.none

noncomputable def bindT : Tgt → A → Loc → Option Loc
  | .one x, a, m => some (m.set x a)

noncomputable def Stay (σ : H) (src : A) (its : List A) : Prop := match src with
  | .ref _ => items σ src = some its
  | _ => True

noncomputable def compLoop (ft : Loc → H → (Bool → H → Prop) → Prop) (fe : Loc → H → (A → H → Prop) → Prop) (t : Tgt) (src : A) (its : List A) (m : Loc) :
    List A → H → List V → (List V → H → Prop) → Prop
  | [], σ, acc, K => K acc σ
  | a :: r, σ, acc, K => get (bindT t a m) fun m' => ft m' σ fun b σ' => if b = true then
      (fe m' σ' fun va σ'' => get (asV va) fun x => Stay σ'' src its ∧ compLoop ft fe t src its m r σ'' (acc ++ [x]) K)
    else Stay σ' src its ∧ compLoop ft fe t src its m r σ' acc K
theorem compLoop_0 (ft fe t src its m σ acc K) : compLoop ft fe t src its m [] σ acc K = K acc σ := rfl
theorem compLoop_1 (ft fe t src its m a r σ acc K) : compLoop ft fe t src its m (a :: r) σ acc K = (get (bindT t a m) fun m' => ft m' σ fun b σ' => if b = true then
      (fe m' σ' fun va σ'' => get (asV va) fun x => Stay σ'' src its ∧ compLoop ft fe t src its m r σ'' (acc ++ [x]) K)
    else Stay σ' src its ∧ compLoop ft fe t src its m r σ' acc K) := rfl

noncomputable def forLoop {β : Type} (bd : β → Loc → Option Loc) (fb : Loc → H → (Fw → Loc → H → Prop) → Prop) (st : H → Prop) : List β → Loc → H → (Fw → Loc → H → Prop) → Prop
  | [], m, σ, K => K .next m σ
  | a :: r, m, σ, K => get (bd a m) fun m' => fb m' σ fun fl m'' σ' => match fl with
    | .next => st σ' ∧ forLoop bd fb st r m'' σ' K
    | .cont => st σ' ∧ forLoop bd fb st r m'' σ' K
    | .brk => K .next m'' σ'
    | .ret v => K (.ret v) m'' σ'
theorem forLoop_0 {β : Type} (bd : β → Loc → Option Loc) (fb st m σ K) : forLoop bd fb st [] m σ K = K .next m σ := rfl
theorem forLoop_1 {β : Type} (bd : β → Loc → Option Loc) (fb st a r m σ K) : forLoop bd fb st (a :: r) m σ K = (get (bd a m) fun m' => fb m' σ fun fl m'' σ' => match fl with
    | .next => st σ' ∧ forLoop bd fb st r m'' σ' K
    | .cont => st σ' ∧ forLoop bd fb st r m'' σ' K
    | .brk => K .next m'' σ'
    | .ret v => K (.ret v) m'' σ') := rfl

noncomputable def whileN (ft : Loc → H → (Bool → H → Prop) → Prop) (fb : Loc → H → (Fw → Loc → H → Prop) → Prop) (K : Fw → Loc → H → Prop) : Nat → Loc → H → Prop
  | 0, _, _ => False
  | n + 1, m, σ => ft m σ fun b σ' => if b = true then
      (fb m σ' fun fl m' σ'' => match fl with
      | .next => whileN ft fb K n m' σ''
      | .cont => whileN ft fb K n m' σ''
      | .brk => K .next m' σ''
      | .ret v => K (.ret v) m' σ'')
    else K .next m σ'
theorem whileN_0 (ft fb K m σ) : whileN ft fb K 0 m σ = False := rfl
theorem whileN_1 (ft fb K n m σ) : whileN ft fb K (n + 1) m σ = (ft m σ fun b σ' => if b = true then
      (fb m σ' fun fl m' σ'' => match fl with
      | .next => whileN ft fb K n m' σ''
      | .cont => whileN ft fb K n m' σ''
      | .brk => K .next m' σ''
      | .ret v => K (.ret v) m' σ'')
    else K .next m σ') := rfl

noncomputable def lstPut (σ : H) (a : A) (f : List V → Option (List V × V)) (K : A → H → Prop) : Prop := get (asR a) fun i => get ((σ[i]?).bind oL) fun xs => get (f xs) fun r => r.1.length < 2 ^ 20 ∧ K (.v r.2) (σ.set i (.list r.1))

noncomputable def appR (σ : H) (a : A) (j : Nat) (K : A → H → Prop) : Prop := get (asR a) fun i => get ((σ[i]?).bind oR) fun is => is.length < 2 ^ 20 ∧ K (.v .none) (σ.set i (.refs (is ++ [j])))
noncomputable def appSem (σ : H) (a : A) (K : A → H → Prop) : A → Prop
  | .v x => lstPut σ a (fun xs => some (xs ++ [x], .none)) K
  | .ref j => appR σ a j K
  | .inst _ _ => False
/-- methods of lists and dicts -/
noncomputable def lmSem (σ : H) (a : A) (K : A → H → Prop) : Lm → List A → Prop
  | .append, as => get (one1 as) (appSem σ a K)
  | .pop, as => get (one1 as) fun k => get (asI k) fun k => lstPut σ a (fun xs => (idx xs.length k).bind fun j => xs[j]?.map fun x => (xs.eraseIdx j, x)) K

/-- a list, by itself -/
noncomputable def isLst (σ : H) : A → Bool
  | .v x => (vL x).isSome
  | .ref i => ((σ[i]?).bind oA).isSome
  | .inst _ _ => false

noncomputable def isB : V → Bool
  | .bool _ => true
  | _ => false
noncomputable def boolOf : V → Bool
  | .bool b => b
  | _ => false
noncomputable def mmSem (mx : Bool) (K : A → Prop) : List A → Prop
  | [a] => get (asT a) fun xs => get (two2 xs) fun p => get (vI p.1) fun i => get (vI p.2) fun j => K (.v (.int (if mx then max i j else min i j)))
  | [a, b] => get (asI a) fun i => get (asI b) fun j => K (.v (.int (if mx then max i j else min i j)))
  | _ => False
/-- built-in functions upon values -/
noncomputable def biSem (σ : H) (K : A → Prop) : Bi → List A → Prop
  | .len, as => get (one1 as) fun a => get (lenA σ a) fun n => K (.v (.int n))
  | .min, as => mmSem false K as
  | .max, as => mmSem true K as
  | .range, as => get (one1 as) fun a => get (asI a) fun n => n < 2 ^ 20 ∧ -(2 ^ 20) < n ∧ K (.v (.range 0 n))
  | .int, as => get (one1 as) fun a => get (asB a) fun b => K (.v (.int (b2i b)))
  | .tuple, as => get (one1 as) fun a => get (asLv a) fun xs => xs.length < 2 ^ 20 ∧ K (.v (.tup xs))

noncomputable def itemL {α : Type} (xs : List α) (f : α → A) (i : A) : Option A := (asI i).bind fun k => (idx xs.length k).bind fun j => xs[j]?.map f
noncomputable def itemSem (σ : H) (a : A) (i : A) : Option A := match a with
  | .v x => (vS x).bind fun xs => itemL xs A.v i
  | .ref r => ((σ[r]?).bind oA).bind fun its => itemL its id i
  | .inst _ _ => Option.none

noncomputable def allV : List A → Option (List V)
  | [] => some []
  | .v x :: r => (allV r).map (x :: ·)
  | _ :: _ => Option.none
theorem YO : allV [] = some [] := rfl
theorem YP (x r) : allV (.v x :: r) = (allV r).map (x :: ·) := rfl
theorem YQ (i r) : allV (.ref i :: r) = Option.none := rfl
theorem YR (c i r) : allV (.inst c i :: r) = Option.none := rfl

noncomputable def frzSem (σ : H) (a : A) (K : A → H → Prop) : Prop := get (asR a) fun i => get ((σ[i]?).bind oL) fun xs => K (.v (.list xs)) (σ.set i .dead)

noncomputable def small {α : Type} (xs : List α) : Prop := xs.length < 2 ^ 20

/-- what a class gives when its __init__ is done -/
noncomputable def newK (c : String) (n : Nat) (K : A → H → Prop) (r : A) (σ' : H) : Prop := isNoneA r = true ∧ get ((σ'[n]?).bind oF) fun fs => fs.map (·.1) = fieldNames c ∧ K (.v (.obj c (fs.map (·.2)))) (σ'.set n .dead)
/-- what follows a statement -/
noncomputable def seqF (N : Loc → H → Prop) (K : Fw → Loc → H → Prop) : Fw → Loc → H → Prop
  | .next, m, σ => N m σ
  | .brk, m, σ => K .brk m σ
  | .cont, m, σ => K .cont m σ
  | .ret a, m, σ => K (.ret a) m σ
/-- what a body gives back -/
noncomputable def retF (K : A → H → Prop) : Fw → Loc → H → Prop
  | .next, _, σ => K (.v .none) σ
  | .brk, _, _ => False
  | .cont, _, _ => False
  | .ret a, _, σ => K a σ

abbrev CallSem := String → List A → H → (A → H → Prop) → (String → H → Prop) → Prop

noncomputable def wordOf : String → Option String
  | "NoWeb" => some "web value"
  | "NoPoint" => some "point value"
  | "NoTurns" => some "turns value"
  | _ => Option.none
noncomputable def vX : V → Option String
  | .exc c => some c
  | _ => Option.none
noncomputable def vStr : V → Option String
  | .str s => some s
  | _ => Option.none
noncomputable def asX (a : A) : Option String := (asV a).bind vX
noncomputable def asS (a : A) : Option String := (asV a).bind vStr
/-- isinstance of what is raised -/
noncomputable def isxB (d c : String) : Option Bool := if (wordOf d).isSome && ((wordOf c).isSome || c == "ValueError") then some (c == "ValueError" || d == c) else Option.none
section
variable (C : CallSem)
mutual
noncomputable def xE : E → Loc → H → (A → H → Prop) → (String → H → Prop) → Prop
  | .c v, _, σ, K, _ => K (.v v) σ
  | .x n, m, σ, K, _ => get (m n) fun a => K a σ
  | .g _ i, _, σ, K, _ => K (.v (.int i)) σ
  | .bin o a b, m, σ, K, X => xE a m σ (fun va σ => xE b m σ (fun vb σ => binSem o va vb fun r => K (.v r) σ) X) X
  | .not a, m, σ, K, X => xE a m σ (fun va σ => get (truthy σ va) fun b => K (.v (.bool (!b))) σ) X
  | .neg a, m, σ, K, X => xE a m σ (fun va σ => get (asI va) fun i => K (.v (.int (-i))) σ) X
  | .and es, m, σ, K, X => xBs true es m σ K X
  | .or es, m, σ, K, X => xBs false es m σ K X
  | .cmp a o b, m, σ, K, X => xE a m σ (fun va σ => xE b m σ (fun vb σ => get (cmpSem σ o va vb) fun r => K (.v (.bool r)) σ) X) X
  | .cmp2 a o b o' c, m, σ, K, X => xE a m σ (fun va σ => xE b m σ (fun vb σ => get (cmpSem σ o va vb) fun r => if r = true then
      xE c m σ (fun vc σ => get (cmpSem σ o' vb vc) fun r => K (.v (.bool r)) σ) X else K (.v (.bool false)) σ) X) X
  | .ite c a b, m, σ, K, X => xT c m σ (fun r σ => if r = true then xE a m σ K X else xE b m σ K X) X
  | .tup es, m, σ, K, X => xEs es m σ (fun as σ => get (allV as) fun vs => K (.v (.tup vs)) σ) X
  | .fz l, m, σ, K, X => xL l m σ (fun vs σ => small vs ∧ K (.v (.list vs)) σ) X
  | .mu l, m, σ, K, X => xL l m σ (fun vs σ => small vs ∧ K (.ref σ.length) (σ ++ [.list vs])) X
  | .mur, _, σ, K, _ => K (.ref σ.length) (σ ++ [.refs []])
  | .dict0, _, σ, K, _ => K (.ref σ.length) (σ ++ [.keys []])
  | .fdict0, _, σ, K, _ => K (.v .edict) σ
  | .item a i, m, σ, K, X => xE a m σ (fun va σ => xE i m σ (fun vi σ => get (itemSem σ va vi) fun r => K r σ) X) X
  | .attr a f, m, σ, K, X => xE a m σ (fun va σ => get (attrSem va f) fun r => K (.v r) σ) X
  | .call f es, m, σ, K, X => xEs es m σ (fun as σ => C f as σ K X) X
  | .meth a f es, m, σ, K, X => xE a m σ (fun va σ => get (asO va) fun p => xEs es m σ (fun as σ => C (p.1 ++ "." ++ f) (va :: as) σ K X) X) X
  | .new c es, m, σ, K, X => xEs es m σ (fun as σ => C (c ++ ".__init__") (.inst c σ.length :: as) (σ ++ [.fields []]) (newK c σ.length K) X) X
  | .isi a c, m, σ, K, X => xE a m σ (fun va σ => get (isiSem σ va c) fun r => K (.v (.bool r)) σ) X
  | .isx a c, m, σ, K, X => xE a m σ (fun va σ => get (asX va) fun d => get (isxB d c) fun r => K (.v (.bool r)) σ) X
  | .smul w a, m, σ, K, X => xE a m σ (fun va σ => get (asI va) fun i => (i = 0 ∨ i = 1) ∧ K (.v (.str (if i = 1 then w else ""))) σ) X
  | .sadd a b, m, σ, K, X => xE a m σ (fun va σ => xE b m σ (fun vb σ => get (asS va) fun x => get (asS vb) fun y => x.length + y.length < 1000 ∧ K (.v (.str (x ++ y))) σ) X) X
  | .bi f es, m, σ, K, X => xEs es m σ (fun as σ => biSem σ (fun r => K r σ) f as) X
  | .lm a f es, m, σ, K, X => xE a m σ (fun va σ => isLst σ va = true ∧ xEs es m σ (fun as σ => lmSem σ va K f as) X) X
  | .frz e, m, σ, K, X => xE e m σ (fun va σ => frzSem σ va K) X
noncomputable def xT : E → Loc → H → (Bool → H → Prop) → (String → H → Prop) → Prop
  | .not a, m, σ, K, X => xT a m σ (fun b σ => K (!b) σ) X
  | .and es, m, σ, K, X => xTs true es m σ K X
  | .or es, m, σ, K, X => xTs false es m σ K X
  | .cmp a o b, m, σ, K, X => xE a m σ (fun va σ => xE b m σ (fun vb σ => get (cmpSem σ o va vb) fun r => K r σ) X) X
  | .cmp2 a o b o' c, m, σ, K, X => xE a m σ (fun va σ => xE b m σ (fun vb σ => get (cmpSem σ o va vb) fun r => if r = true then
      xE c m σ (fun vc σ => get (cmpSem σ o' vb vc) fun r => K r σ) X else K false σ) X) X
  | .call f es, m, σ, K, X => xEs es m σ (fun as σ => C f as σ (fun a σ => get (truthy σ a) fun b => K b σ) X) X
  | .isi a c, m, σ, K, X => xE a m σ (fun va σ => get (isiSem σ va c) fun r => K r σ) X
  | .bi f es, m, σ, K, X => xEs es m σ (fun as σ => biSem σ (fun r => get (truthy σ r) fun b => K b σ) f as) X
  | _, _, _, _, _ => False
noncomputable def xBs : Bool → List E → Loc → H → (A → H → Prop) → (String → H → Prop) → Prop
  | _, [], _, _, _, _ => False
  | _, [e], m, σ, K, X => xE e m σ K X
  | u, e :: r, m, σ, K, X => xE e m σ (fun a σ => get (truthy σ a) fun b => if b = u then xBs u r m σ K X else K a σ) X
noncomputable def xTs : Bool → List E → Loc → H → (Bool → H → Prop) → (String → H → Prop) → Prop
  | u, [], _, σ, K, _ => K u σ
  | u, e :: r, m, σ, K, X => xT e m σ (fun b σ => if b = u then xTs u r m σ K X else K b σ) X
noncomputable def xEs : List E → Loc → H → (List A → H → Prop) → (String → H → Prop) → Prop
  | [], _, σ, K, _ => K [] σ
  | e :: r, m, σ, K, X => xE e m σ (fun a σ => xEs r m σ (fun as σ => K (a :: as) σ) X) X
noncomputable def xO : Option E → Loc → H → (Option Int → H → Prop) → (String → H → Prop) → Prop
  | Option.none, _, σ, K, _ => K Option.none σ
  | some e, m, σ, K, X => xE e m σ (fun a σ => get (asI a) fun i => K (some i) σ) X
noncomputable def xL : L → Loc → H → (List V → H → Prop) → (String → H → Prop) → Prop
  | .disp es, m, σ, K, X => xEs es m σ (fun as σ => get (allV as) fun vs => K vs σ) X
  | .comp elt t it ifs, m, σ, K, X => xE it m σ (fun va σ => get (items σ va) fun its =>
      compLoop (fun m σ K => xTs true ifs m σ K X) (fun m σ K => xE elt m σ K X) t va its m its σ [] K) X
  | .copy e, m, σ, K, X => xE e m σ (fun va σ => get (seqV σ va) fun xs => K xs σ) X
  | .slice a lo hi, m, σ, K, X => xE a m σ (fun va σ => xO lo m σ (fun l σ => xO hi m σ (fun h σ => get (listV σ va) fun xs => K (sliceV xs l h) σ) X) X) X
  | .sorted e, m, σ, K, X => xE e m σ (fun va σ => get (listV σ va) fun xs => sortable xs = true ∧ xs.length < 64 ∧ K (vsort xs) σ) X
  | .concat a b, m, σ, K, X => xE a m σ (fun va σ => xE b m σ (fun vb σ => get (listV σ va) fun xs => get (listV σ vb) fun ys => K (xs ++ ys) σ) X) X
end

abbrev NX : String → H → Prop := fun _ _ => False
mutual
noncomputable def xS : S → Loc → H → (Fw → Loc → H → Prop) → (String → Loc → H → Prop) → Prop
  | .asg x e, m, σ, K, X => xE C e m σ (fun a σ => K .next (m.set x a) σ) NX
  | .setA x f e, m, σ, K, X => xE C e m σ (fun a σ => get (asV a) fun v => get ((m x).bind asN) fun i => get ((σ[i]?).bind oF) fun fs => fs.length < 100 ∧ K .next m (σ.set i (.fields (fieldPut fs f v)))) NX
  | .setI a i e, m, σ, K, X => xE C e m σ (fun v σ => xE C a m σ (fun va σ => xE C i m σ (fun vi σ => get (asB v) fun y => y = true ∧ get (asR va) fun r => get ((asV vi).bind vP) fun k => get ((σ[r]?).bind oK) fun ks => ks.length < 2 ^ 20 ∧ K .next m (σ.set r (.keys (kadd ks k)))) NX) NX) NX
  | .ex e, m, σ, K, X => xE C e m σ (fun _ σ => K .next m σ) NX
  | .ite c t f, m, σ, K, X => xT C c m σ (fun b σ => if b = true then xSs t m σ K X else xSs f m σ K X) NX
  | .for_ t e b, m, σ, K, X => xE C e m σ (fun a σ => get (items σ a) fun its => forLoop (bindT t) (fun m σ K => xSs b m σ K X) (fun σ => Stay σ a its) its m σ K) NX
  | .whl c b, m, σ, K, X => ∃ n, whileN (fun m σ K => xT C c m σ K NX) (fun m σ K => xSs b m σ K X) K n m σ
  | .forEnum x y e b, m, σ, K, X => xE C e m σ (fun a σ => isLst σ a = true ∧ get (items σ a) fun its =>
      forLoop (fun (p : A × Nat) m => some ((m.set x (.v (.int p.2))).set y p.1)) (fun m σ K => xSs b m σ K X) (fun σ => Stay σ a its) its.zipIdx m σ K) NX
  | .ret e, m, σ, K, X => xE C e m σ (fun a σ => K (.ret a) m σ) NX
  | .raise c _, m, σ, _, X => X c m σ
  | .asgC x f es, m, σ, K, X => xEs C es m σ (fun as σ => C f as σ (fun a σ => K .next (m.set x a) σ) (fun c σ => X c m σ)) NX
  | .exC f es, m, σ, K, X => xEs C es m σ (fun as σ => C f as σ (fun _ σ => K .next m σ) (fun c σ => X c m σ)) NX
  | .exN c es, m, σ, K, X => xEs C es m σ (fun as σ => C (c ++ ".__init__") (.inst c σ.length :: as) (σ ++ [.fields []]) (newK c σ.length (fun _ σ => K .next m σ)) (fun c σ => X c m σ)) NX
  | .exM a f es, m, σ, K, X => xE C a m σ (fun va σ => get (asO va) fun p => xEs C es m σ (fun as σ => C (p.1 ++ "." ++ f) (va :: as) σ (fun _ σ => K .next m σ) (fun c σ => X c m σ)) NX) NX
  | .tryW b x e, m, σ, K, _ => xSs b m σ K (fun c m σ => xE C e (m.set x (.v (.exc c))) σ (fun a σ => K (.ret a) (fun _ => Option.none) σ) NX)
  | .never, _, _, _, _ => False
noncomputable def xSs : List S → Loc → H → (Fw → Loc → H → Prop) → (String → Loc → H → Prop) → Prop
  | [], m, σ, K, _ => K .next m σ
  | s :: r, m, σ, K, X => xS s m σ (seqF (fun m σ => xSs r m σ K X) K) X
end

/-- parameters bound -/
noncomputable def bindP : List String → List A → Loc
  | x :: xs, a :: as => (bindP xs as).set x a
  | _, _ => fun _ => Option.none
theorem bindP_0 (x xs a as) : bindP (x :: xs) (a :: as) = (bindP xs as).set x a := rfl
theorem bindP_1 (as) : bindP [] as = fun _ => Option.none := rfl
theorem bindP_2 (x xs) : bindP (x :: xs) [] = fun _ => Option.none := rfl

structure Fn where
  ps : List String
  body : List S

/-- a call by its body -/
noncomputable def Fn.run (f : Fn) (as : List A) (σ : H) (K : A → H → Prop) (X : String → H → Prop) : Prop :=
  as.length = f.ps.length ∧ xSs C f.body (bindP f.ps as) σ (retF K) (fun c _ σ => X c σ)
end

/-- what a call predicate must do: take every body of the table -/
noncomputable def Closed (C : CallSem) (tab : List (String × Fn)) : Prop :=
  ∀ f d, (f, d) ∈ tab → ∀ as σ K X, d.run C as σ K X → C f as σ K X

end Fl

namespace Fl
open PySem (Str)

set_option linter.unusedVariables false
/-! the meanings, word by word -/
theorem yy (C : CallSem) (v) (w1) (σ) (K) (w2) : xE C (.c v) w1 σ K w2 = (K (.v v) σ) := rfl
theorem yz (C : CallSem) (n) (m) (σ) (K) (w1) : xE C (.x n) m σ K w1 = (get (m n) fun a => K a σ) := rfl
theorem yA (C : CallSem) (w1) (i) (w2) (σ) (K) (w3) : xE C (.g w1 i) w2 σ K w3 = (K (.v (.int i)) σ) := rfl
theorem yB (C : CallSem) (o) (a) (b) (m) (σ) (K) (X) : xE C (.bin o a b) m σ K X = (xE C a m σ (fun va σ => xE C b m σ (fun vb σ => binSem o va vb fun r => K (.v r) σ) X) X) := rfl
theorem yC (C : CallSem) (a) (m) (σ) (K) (X) : xE C (.neg a) m σ K X = (xE C a m σ (fun va σ => get (asI va) fun i => K (.v (.int (-i))) σ) X) := rfl
theorem yD (C : CallSem) (a) (m) (σ) (K) (X) : xE C (.not a) m σ K X = (xE C a m σ (fun va σ => get (truthy σ va) fun b => K (.v (.bool (!b))) σ) X) := rfl
theorem yE (C : CallSem) (es) (m) (σ) (K) (X) : xE C (.and es) m σ K X = (xBs C true es m σ K X) := rfl
theorem yF (C : CallSem) (es) (m) (σ) (K) (X) : xE C (.or es) m σ K X = (xBs C false es m σ K X) := rfl
theorem yG (C : CallSem) (a) (o) (b) (m) (σ) (K) (X) : xE C (.cmp a o b) m σ K X = (xE C a m σ (fun va σ => xE C b m σ (fun vb σ => get (cmpSem σ o va vb) fun r => K (.v (.bool r)) σ) X) X) := rfl
theorem yH (C : CallSem) (a) (o) (b) (o') (c) (m) (σ) (K) (X) : xE C (.cmp2 a o b o' c) m σ K X = (xE C a m σ (fun va σ => xE C b m σ (fun vb σ => get (cmpSem σ o va vb) fun r => if r = true then
      xE C c m σ (fun vc σ => get (cmpSem σ o' vb vc) fun r => K (.v (.bool r)) σ) X else K (.v (.bool false)) σ) X) X) := rfl
theorem yI (C : CallSem) (c) (a) (b) (m) (σ) (K) (X) : xE C (.ite c a b) m σ K X = (xT C c m σ (fun r σ => if r = true then xE C a m σ K X else xE C b m σ K X) X) := rfl
theorem yJ (C : CallSem) (es) (m) (σ) (K) (X) : xE C (.tup es) m σ K X = (xEs C es m σ (fun as σ => get (allV as) fun vs => K (.v (.tup vs)) σ) X) := rfl
theorem yK (C : CallSem) (l) (m) (σ) (K) (X) : xE C (.fz l) m σ K X = (xL C l m σ (fun vs σ => small vs ∧ K (.v (.list vs)) σ) X) := rfl
theorem yL (C : CallSem) (l) (m) (σ) (K) (X) : xE C (.mu l) m σ K X = (xL C l m σ (fun vs σ => small vs ∧ K (.ref σ.length) (σ ++ [.list vs])) X) := rfl
theorem xE_mur (C : CallSem) (w1) (σ) (K) (w2) : xE C .mur w1 σ K w2 = (K (.ref σ.length) (σ ++ [.refs []])) := rfl
theorem xE_dict0 (C : CallSem) (w1) (σ) (K) (w2) : xE C .dict0 w1 σ K w2 = (K (.ref σ.length) (σ ++ [.keys []])) := rfl
theorem Yk (C : CallSem) (m) (σ) (K) (X) : xE C .fdict0 m σ K X = (K (.v .edict) σ) := rfl
theorem yM (C : CallSem) (a) (i) (m) (σ) (K) (X) : xE C (.item a i) m σ K X = (xE C a m σ (fun va σ => xE C i m σ (fun vi σ => get (itemSem σ va vi) fun r => K r σ) X) X) := rfl
theorem yN (C : CallSem) (a) (f) (m) (σ) (K) (X) : xE C (.attr a f) m σ K X = (xE C a m σ (fun va σ => get (attrSem va f) fun r => K (.v r) σ) X) := rfl
theorem yO (C : CallSem) (f) (es) (m) (σ) (K) (X) : xE C (.call f es) m σ K X = (xEs C es m σ (fun as σ => C f as σ K X) X) := rfl
theorem yP (C : CallSem) (a) (f) (es) (m) (σ) (K) (X) : xE C (.meth a f es) m σ K X = (xE C a m σ (fun va σ => get (asO va) fun p => xEs C es m σ (fun as σ => C (p.1 ++ "." ++ f) (va :: as) σ K X) X) X) := rfl
theorem yQ (C : CallSem) (c) (es) (m) (σ) (K) (X) : xE C (.new c es) m σ K X = (xEs C es m σ (fun as σ => C (c ++ ".__init__") (.inst c σ.length :: as) (σ ++ [.fields []]) (newK c σ.length K) X) X) := rfl
theorem yR (C : CallSem) (a) (c) (m) (σ) (K) (X) : xE C (.isi a c) m σ K X = (xE C a m σ (fun va σ => get (isiSem σ va c) fun r => K (.v (.bool r)) σ) X) := rfl
theorem xE_isx (C : CallSem) (a) (c) (m) (σ) (K) (X) : xE C (.isx a c) m σ K X = (xE C a m σ (fun va σ => get (asX va) fun d => get (isxB d c) fun r => K (.v (.bool r)) σ) X) := rfl
theorem xE_smul (C : CallSem) (w) (a) (m) (σ) (K) (X) : xE C (.smul w a) m σ K X = (xE C a m σ (fun va σ => get (asI va) fun i => (i = 0 ∨ i = 1) ∧ K (.v (.str (if i = 1 then w else ""))) σ) X) := rfl
theorem xE_sadd (C : CallSem) (a) (b) (m) (σ) (K) (X) : xE C (.sadd a b) m σ K X = (xE C a m σ (fun va σ => xE C b m σ (fun vb σ => get (asS va) fun x => get (asS vb) fun y => x.length + y.length < 1000 ∧ K (.v (.str (x ++ y))) σ) X) X) := rfl
theorem yS (C : CallSem) (f) (es) (m) (σ) (K) (X) : xE C (.bi f es) m σ K X = (xEs C es m σ (fun as σ => biSem σ (fun r => K r σ) f as) X) := rfl
theorem yT (C : CallSem) (a) (f) (es) (m) (σ) (K) (X) : xE C (.lm a f es) m σ K X = (xE C a m σ (fun va σ => isLst σ va = true ∧ xEs C es m σ (fun as σ => lmSem σ va K f as) X) X) := rfl
theorem yU (C : CallSem) (e) (m) (σ) (K) (X) : xE C (.frz e) m σ K X = (xE C e m σ (fun va σ => frzSem σ va K) X) := rfl
theorem yp (C : CallSem) (a) (m) (σ) (K) (X) : xT C (.not a) m σ K X = (xT C a m σ (fun b σ => K (!b) σ) X) := rfl
theorem yq (C : CallSem) (es) (m) (σ) (K) (X) : xT C (.and es) m σ K X = (xTs C true es m σ K X) := rfl
theorem yr (C : CallSem) (es) (m) (σ) (K) (X) : xT C (.or es) m σ K X = (xTs C false es m σ K X) := rfl
theorem yt (C : CallSem) (a) (o) (b) (m) (σ) (K) (X) : xT C (.cmp a o b) m σ K X = (xE C a m σ (fun va σ => xE C b m σ (fun vb σ => get (cmpSem σ o va vb) fun r => K r σ) X) X) := rfl
theorem yu (C : CallSem) (a) (o) (b) (o') (c) (m) (σ) (K) (X) : xT C (.cmp2 a o b o' c) m σ K X = (xE C a m σ (fun va σ => xE C b m σ (fun vb σ => get (cmpSem σ o va vb) fun r => if r = true then
      xE C c m σ (fun vc σ => get (cmpSem σ o' vb vc) fun r => K r σ) X else K false σ) X) X) := rfl
theorem yv (C : CallSem) (f) (es) (m) (σ) (K) (X) : xT C (.call f es) m σ K X = (xEs C es m σ (fun as σ => C f as σ (fun a σ => get (truthy σ a) fun b => K b σ) X) X) := rfl
theorem yw (C : CallSem) (a) (c) (m) (σ) (K) (X) : xT C (.isi a c) m σ K X = (xE C a m σ (fun va σ => get (isiSem σ va c) fun r => K r σ) X) := rfl
theorem yx (C : CallSem) (f) (es) (m) (σ) (K) (X) : xT C (.bi f es) m σ K X = (xEs C es m σ (fun as σ => biSem σ (fun r => get (truthy σ r) fun b => K b σ) f as) X) := rfl
theorem y8 (C : CallSem) (w1) (e) (m) (σ) (K) (X) : xBs C w1 [e] m σ K X = (xE C e m σ K X) := rfl
theorem y9 (C : CallSem) (u) (e) (e') (r) (m) (σ) (K) (X) : xBs C u (e :: e' :: r) m σ K X = (xE C e m σ (fun a σ => get (truthy σ a) fun b => if b = u then xBs C u (e' :: r) m σ K X else K a σ) X) := rfl
theorem Yb (C : CallSem) (u) (w1) (σ) (K) (w2) : xTs C u [] w1 σ K w2 = (K u σ) := rfl
theorem Yc (C : CallSem) (u) (e) (r) (m) (σ) (K) (X) : xTs C u (e :: r) m σ K X = (xT C e m σ (fun b σ => if b = u then xTs C u r m σ K X else K b σ) X) := rfl
theorem yV (C : CallSem) (w1) (σ) (K) (w2) : xEs C [] w1 σ K w2 = (K [] σ) := rfl
theorem yW (C : CallSem) (e) (r) (m) (σ) (K) (X) : xEs C (e :: r) m σ K X = (xE C e m σ (fun a σ => xEs C r m σ (fun as σ => K (a :: as) σ) X) X) := rfl
theorem y6 (C : CallSem) (w1) (σ) (K) (w2) : xO C Option.none w1 σ K w2 = (K Option.none σ) := rfl
theorem y7 (C : CallSem) (e) (m) (σ) (K) (X) : xO C (some e) m σ K X = (xE C e m σ (fun a σ => get (asI a) fun i => K (some i) σ) X) := rfl
theorem yX (C : CallSem) (es) (m) (σ) (K) (X) : xL C (.disp es) m σ K X = (xEs C es m σ (fun as σ => get (allV as) fun vs => K vs σ) X) := rfl
theorem yY (C : CallSem) (elt) (t) (it) (ifs) (m) (σ) (K) (X) : xL C (.comp elt t it ifs) m σ K X = (xE C it m σ (fun va σ => get (items σ va) fun its =>
      compLoop (fun m σ K => xTs C true ifs m σ K X) (fun m σ K => xE C elt m σ K X) t va its m its σ [] K) X) := rfl
theorem yZ (C : CallSem) (e) (m) (σ) (K) (X) : xL C (.copy e) m σ K X = (xE C e m σ (fun va σ => get (seqV σ va) fun xs => K xs σ) X) := rfl
theorem y0 (C : CallSem) (a) (lo) (hi) (m) (σ) (K) (X) : xL C (.slice a lo hi) m σ K X = (xE C a m σ (fun va σ => xO C lo m σ (fun l σ => xO C hi m σ (fun h σ => get (listV σ va) fun xs => K (sliceV xs l h) σ) X) X) X) := rfl
theorem y4 (C : CallSem) (e) (m) (σ) (K) (X) : xL C (.sorted e) m σ K X = (xE C e m σ (fun va σ => get (listV σ va) fun xs => sortable xs = true ∧ xs.length < 64 ∧ K (vsort xs) σ) X) := rfl
theorem y5 (C : CallSem) (a) (b) (m) (σ) (K) (X) : xL C (.concat a b) m σ K X = (xE C a m σ (fun va σ => xE C b m σ (fun vb σ => get (listV σ va) fun xs => get (listV σ vb) fun ys => K (xs ++ ys) σ) X) X) := rfl
theorem yh (C : CallSem) (x) (e) (m) (σ) (K) (X) : xS C (.asg x e) m σ K X = (xE C e m σ (fun a σ => K .next (m.set x a) σ) NX) := rfl
theorem yi (C : CallSem) (x) (f) (e) (m) (σ) (K) (X) : xS C (.setA x f e) m σ K X = (xE C e m σ (fun a σ => get (asV a) fun v => get ((m x).bind asN) fun i => get ((σ[i]?).bind oF) fun fs => fs.length < 100 ∧ K .next m (σ.set i (.fields (fieldPut fs f v)))) NX) := rfl
theorem xS_setI (C : CallSem) (a) (i) (e) (m) (σ) (K) (X) : xS C (.setI a i e) m σ K X = (xE C e m σ (fun v σ => xE C a m σ (fun va σ => xE C i m σ (fun vi σ => get (asB v) fun y => y = true ∧ get (asR va) fun r => get ((asV vi).bind vP) fun k => get ((σ[r]?).bind oK) fun ks => ks.length < 2 ^ 20 ∧ K .next m (σ.set r (.keys (kadd ks k)))) NX) NX) NX) := rfl
theorem yj (C : CallSem) (e) (m) (σ) (K) (X) : xS C (.ex e) m σ K X = (xE C e m σ (fun _ σ => K .next m σ) NX) := rfl
theorem yk (C : CallSem) (c) (t) (f) (m) (σ) (K) (X) : xS C (.ite c t f) m σ K X = (xT C c m σ (fun b σ => if b = true then xSs C t m σ K X else xSs C f m σ K X) NX) := rfl
theorem yl (C : CallSem) (t) (e) (b) (m) (σ) (K) (X) : xS C (.for_ t e b) m σ K X = (xE C e m σ (fun a σ => get (items σ a) fun its => forLoop (bindT t) (fun m σ K => xSs C b m σ K X) (fun σ => Stay σ a its) its m σ K) NX) := rfl
theorem yn (C : CallSem) (c) (b) (m) (σ) (K) (X) : xS C (.whl c b) m σ K X = (∃ n, whileN (fun m σ K => xT C c m σ K NX) (fun m σ K => xSs C b m σ K X) K n m σ) := rfl
theorem ym (C : CallSem) (x) (y) (e) (b) (m) (σ) (K) (X) : xS C (.forEnum x y e b) m σ K X = (xE C e m σ (fun a σ => isLst σ a = true ∧ get (items σ a) fun its =>
      forLoop (fun (p : A × Nat) m => some ((m.set x (.v (.int p.2))).set y p.1)) (fun m σ K => xSs C b m σ K X) (fun σ => Stay σ a its) its.zipIdx m σ K) NX) := rfl
theorem yo (C : CallSem) (e) (m) (σ) (K) (X) : xS C (.ret e) m σ K X = (xE C e m σ (fun a σ => K (.ret a) m σ) NX) := rfl
theorem Yd (C : CallSem) (c) (w1) (m) (σ) (w2) (X) : xS C (.raise c w1) m σ w2 X = (X c m σ) := rfl
theorem Ye (C : CallSem) (x f) (es) (m) (σ) (K) (X) : xS C (.asgC x f es) m σ K X = (xEs C es m σ (fun as σ => C f as σ (fun a σ => K .next (m.set x a) σ) (fun c σ => X c m σ)) NX) := rfl
theorem Yg (C : CallSem) (f) (es) (m) (σ) (K) (X) : xS C (.exC f es) m σ K X = (xEs C es m σ (fun as σ => C f as σ (fun _ σ => K .next m σ) (fun c σ => X c m σ)) NX) := rfl
theorem xS_exN (C : CallSem) (c) (es) (m) (σ) (K) (X) : xS C (.exN c es) m σ K X = (xEs C es m σ (fun as σ => C (c ++ ".__init__") (.inst c σ.length :: as) (σ ++ [.fields []]) (newK c σ.length (fun _ σ => K .next m σ)) (fun c σ => X c m σ)) NX) := rfl
theorem Yh (C : CallSem) (a) (f) (es) (m) (σ) (K) (X) : xS C (.exM a f es) m σ K X = (xE C a m σ (fun va σ => get (asO va) fun p => xEs C es m σ (fun as σ => C (p.1 ++ "." ++ f) (va :: as) σ (fun _ σ => K .next m σ) (fun c σ => X c m σ)) NX) NX) := rfl
theorem Yi (C : CallSem) (b x e) (m) (σ) (K) (X) : xS C (.tryW b x e) m σ K X = (xSs C b m σ K (fun c m σ => xE C e (m.set x (.v (.exc c))) σ (fun a σ => K (.ret a) (fun _ => Option.none) σ) NX)) := rfl
theorem Yj (C : CallSem) (m) (σ) (K) (X) : xS C .never m σ K X = False := rfl
theorem ya (C : CallSem) (m) (σ) (K) (w1) : xSs C [] m σ K w1 = (K .next m σ) := rfl
theorem xSs_cons (C : CallSem) (s) (r) (m) (σ) (K) (X) : xSs C (s :: r) m σ K X = (xS C s m σ (seqF (fun m σ => xSs C r m σ K X) K) X) := rfl

theorem Yo {α : Type} (x : α) (k : α → Prop) : get (some x) k = k x := rfl
theorem Yn (m : Loc) (x : String) (a : A) (y : String) : (m.set x a) y = if y = x then some a else m y := rfl
theorem call_of {C : CallSem} {tab : List (String × Fn)} (hC : Closed C tab) {f : String} {d : Fn} (hf : (f, d) ∈ tab) {as σ K X} (h : d.run C as σ K X) : C f as σ K X := hC f d hf as σ K X h

theorem Yp (i j : Int) (K) : binSem .add (.v (.int i)) (.v (.int j)) K = K (.int (i + j)) := rfl
theorem Yq (i j : Int) (K) : binSem .sub (.v (.int i)) (.v (.int j)) K = K (.int (i - j)) := rfl
theorem Yr (i j : Int) (K) : binSem .mul (.v (.int i)) (.v (.int j)) K = (i.natAbs < 2 ^ 40 ∧ j.natAbs < 2 ^ 40 ∧ K (.int (i * j))) := rfl
theorem Ys (i j : Int) (K) : binSem .fdiv (.v (.int i)) (.v (.int j)) K = (j ≠ 0 ∧ j.natAbs < 2 ^ 40 ∧ K (.int (Int.fdiv i j))) := rfl
theorem Yt (i j : Int) (K) : binSem .mod (.v (.int i)) (.v (.int j)) K = (j ≠ 0 ∧ K (.int (Int.fmod i j))) := rfl
theorem b_pow (i j : Int) (K) : binSem .pow (.v (.int i)) (.v (.int j)) K = (i = 10 ∧ j = 12 ∧ K (.int 1000000000000)) := rfl
theorem ltL_one (a b : Int) : ltL [a] [b] = decide (a < b) := by simp [ltL_0, ltL_1, ltL_2, ltL_3]
theorem ltL_two (a b c d : Int) : ltL [a, b] [c, d] = decide (a < c ∨ (a = c ∧ b < d)) := by
  simp [ltL_0, ltL_1, ltL_2, ltL_3]
theorem vlt_int (a b : Int) : vlt (.int a) (.int b) = decide (a < b) := ltL_one a b
theorem not_lt_int (i j : Int) : (!vlt (.int j) (.int i)) = decide (i ≤ j) := by
  rw [vlt_int]
  by_cases h : i ≤ j
  · rw [decide_eq_true h, decide_eq_false (by omega)]; rfl
  · rw [decide_eq_false h, decide_eq_true (by omega)]; rfl

theorem Yu (σ : H) (i j : Int) : cmpSem σ .lt (.v (.int i)) (.v (.int j)) = some (decide (i < j)) := congrArg some (vlt_int i j)
theorem Yv (σ : H) (i j : Int) : cmpSem σ .gt (.v (.int i)) (.v (.int j)) = some (decide (j < i)) := congrArg some (vlt_int j i)
theorem Yw (σ : H) (i j : Int) : cmpSem σ .le (.v (.int i)) (.v (.int j)) = some (decide (i ≤ j)) := congrArg some (not_lt_int i j)
theorem Yx (σ : H) (i j : Int) : cmpSem σ .eq (.v (.int i)) (.v (.int j)) = some (decide (i = j)) := rfl
theorem Yy (σ : H) (i j : Int) : cmpSem σ .ne (.v (.int i)) (.v (.int j)) = some (decide (i ≠ j)) := by
  show some (!decide (i = j)) = _
  rw [decide_not]
theorem Yz (σ : H) (a b : A) : cmpSem σ .isin a b = inSem σ a b := rfl
theorem YA (σ : H) (a b : A) : cmpSem σ .notin a b = (inSem σ a b).map (!·) := rfl

theorem YB (σ : H) (a : A) (K) : biSem σ K .len [a] = get (lenA σ a) fun n => K (.v (.int n)) := rfl
theorem YC (σ : H) (i j : Int) (K) : biSem σ K .min [.v (.int i), .v (.int j)] = K (.v (.int (min i j))) := rfl
theorem YD (σ : H) (i j : Int) (K) : biSem σ K .max [.v (.int i), .v (.int j)] = K (.v (.int (max i j))) := rfl
theorem frz_at {σ : H} {i : Nat} {xs : List V} {K} (h : σ[i]? = some (.list xs)) (hK : K (.v (.list xs)) (σ.set i .dead)) : frzSem σ (.ref i) K := by
  show get ((σ[i]?).bind oL) _
  rw [h]; exact hK
theorem YE (σ : H) (n : Int) (K) : biSem σ K .range [.v (.int n)] = (n < 2 ^ 20 ∧ -(2 ^ 20) < n ∧ K (.v (.range 0 n))) := rfl
theorem Y2 (σ : H) (b : Bool) (K) : biSem σ K .int [.v (.bool b)] = K (.v (.int (b2i b))) := rfl
theorem Y3 (σ : H) (a : A) (K) (x : V) : lmSem σ a K .append [.v x] = lstPut σ a (fun xs => some (xs ++ [x], .none)) K := rfl
theorem lm_appR (σ : H) (a : A) (K) (j : Nat) : lmSem σ a K .append [.ref j] = appR σ a j K := rfl
theorem Y4 (σ : H) (a : A) (K) (k : Int) : lmSem σ a K .pop [.v (.int k)] = lstPut σ a (fun xs => (idx xs.length k).bind fun j => xs[j]?.map fun x => (xs.eraseIdx j, x)) K := rfl
theorem vP_tup (a b : Int) : vP (.tup [.int a, .int b]) = some (a, b) := rfl
theorem asB_b (b : Bool) : asB (.v (.bool b)) = some b := rfl
theorem YX (x : V) : asV (.v x) = some x := rfl
theorem YY (i : Int) : asI (.v (.int i)) = some i := rfl
theorem YZ (c : String) (fs : List V) : asO (.v (.obj c fs)) = some (c, fs) := rfl
theorem Y0 (i : Nat) : asR (.ref i) = some i := rfl
theorem Y1 (c : String) (i : Nat) : asN (.inst c i) = some i := rfl
theorem yb (N K m σ) : seqF N K .next m σ = N m σ := rfl
theorem yc (N K a m σ) : seqF N K (.ret a) m σ = K (.ret a) m σ := rfl
theorem yd (N K m σ) : seqF N K .brk m σ = K .brk m σ := rfl
theorem ye (N K m σ) : seqF N K .cont m σ = K .cont m σ := rfl
theorem yf (K m σ) : retF K .next m σ = K (.v .none) σ := rfl
theorem yg (K a m σ) : retF K (.ret a) m σ = K a σ := rfl
theorem oF_f (fs : List (String × V)) : oF (.fields fs) = some fs := rfl
theorem oL_l (xs : List V) : oL (.list xs) = some xs := rfl
theorem oR_r (is : List Nat) : oR (.refs is) = some is := rfl
theorem oK_k (ks : List (Int × Int)) : oK (.keys ks) = some ks := rfl
theorem peq_ii (i j : Int) : peq (.int i) (.int j) = decide (i = j) := rfl

theorem YW (σ : H) (xs : List V) : listV σ (.v (.list xs)) = some xs := rfl
theorem seqV_list (σ : H) (xs : List V) : seqV σ (.v (.list xs)) = some xs := rfl
theorem YV (σ : H) (xs : List V) : items σ (.v (.list xs)) = some (xs.map A.v) := rfl
theorem YU (σ : H) (xs : List V) : items σ (.v (.tup xs)) = some (xs.map A.v) := rfl
theorem YT (σ : H) (xs : List V) : lenA σ (.v (.list xs)) = some xs.length := rfl
theorem YS (σ : H) (xs : List V) : lenA σ (.v (.tup xs)) = some xs.length := rfl
/-! back from the answers -/
theorem get_of {α : Type} {o : Option α} {k : α → Prop} (h : get o k) : ∃ x, o = some x ∧ k x := by
  cases o with
  | none => exact h.elim
  | some x => exact ⟨x, rfl, h⟩
theorem nons {α : Type} {x : α} {P : Prop} (h : (Option.none : Option α) = some x) : P := nomatch h
theorem asV_of {a : A} {x : V} (h : asV a = some x) : a = .v x := by
  cases a <;> first | exact nons h | exact congrArg A.v (Option.some.inj h)
theorem vI_of {x : V} {i : Int} (h : vI x = some i) : x = .int i := by
  cases x <;> first | exact nons h | exact congrArg V.int (Option.some.inj h)
theorem vB_of {x : V} {i : Bool} (h : vB x = some i) : x = .bool i := by
  cases x <;> first | exact nons h | exact congrArg V.bool (Option.some.inj h)
theorem vL_of {x : V} {i : List V} (h : vL x = some i) : x = .list i := by
  cases x <;> first | exact nons h | exact congrArg V.list (Option.some.inj h)
theorem vT_of {x : V} {i : List V} (h : vT x = some i) : x = .tup i := by
  cases x <;> first | exact nons h | exact congrArg V.tup (Option.some.inj h)
theorem vS_of {x : V} {i : List V} (h : vS x = some i) : x = .list i ∨ x = .tup i := by
  cases x <;> first | exact nons h | exact .inl (congrArg V.list (Option.some.inj h)) | exact .inr (congrArg V.tup (Option.some.inj h))
theorem vO_of {x : V} {i : String × List V} (h : vO x = some i) : x = .obj i.1 i.2 := by
  cases x <;> first | exact nons h | (cases h; rfl)
theorem bindO_of {α β : Type} {o : Option α} {k : α → Option β} {y : β} (h : o.bind k = some y) : ∃ x, o = some x ∧ k x = some y := Option.bind_eq_some_iff.mp h
theorem asI_of {a : A} {i : Int} (h : asI a = some i) : a = .v (.int i) := by
  obtain ⟨x, h1, h2⟩ := bindO_of h
  rw [asV_of h1, vI_of h2]
theorem asB_of {a : A} {i : Bool} (h : asB a = some i) : a = .v (.bool i) := by
  obtain ⟨x, h1, h2⟩ := bindO_of h
  rw [asV_of h1, vB_of h2]
theorem asLv_of {a : A} {i : List V} (h : asLv a = some i) : a = .v (.list i) := by
  obtain ⟨x, h1, h2⟩ := bindO_of h
  rw [asV_of h1, vL_of h2]
theorem asT_of {a : A} {i : List V} (h : asT a = some i) : a = .v (.tup i) := by
  obtain ⟨x, h1, h2⟩ := bindO_of h
  rw [asV_of h1, vT_of h2]
theorem asO_of {a : A} {i : String × List V} (h : asO a = some i) : a = .v (.obj i.1 i.2) := by
  obtain ⟨x, h1, h2⟩ := bindO_of h
  rw [asV_of h1, vO_of h2]
theorem asR_of {a : A} {i : Nat} (h : asR a = some i) : a = .ref i := by
  cases a <;> first | exact nons h | exact congrArg A.ref (Option.some.inj h)
theorem asN_of {a : A} {i : Nat} (h : asN a = some i) : ∃ c, a = .inst c i := by
  cases a <;> first | exact nons h | exact ⟨_, congrArg _ (Option.some.inj h)⟩
theorem oF_of {o : O} {fs : List (String × V)} (h : oF o = some fs) : o = .fields fs := by
  cases o <;> first | exact nons h | exact congrArg O.fields (Option.some.inj h)
theorem oL_of {o : O} {fs : List V} (h : oL o = some fs) : o = .list fs := by
  cases o <;> first | exact nons h | exact congrArg O.list (Option.some.inj h)
theorem oR_of {o : O} {fs : List Nat} (h : oR o = some fs) : o = .refs fs := by
  cases o <;> first | exact nons h | exact congrArg O.refs (Option.some.inj h)
theorem oK_of {o : O} {fs : List (Int × Int)} (h : oK o = some fs) : o = .keys fs := by
  cases o <;> first | exact nons h | exact congrArg O.keys (Option.some.inj h)
theorem one1_of {α : Type} {l : List α} {x : α} (h : one1 l = some x) : l = [x] := by
  match l, h with
  | [_], h => rw [Option.some.inj h]
theorem two2_of {α : Type} {l : List α} {x : α × α} (h : two2 l = some x) : l = [x.1, x.2] := by
  match l, h with
  | [_, _], h => cases h; rfl
theorem vP_of {x : V} {p : Int × Int} (h : vP x = some p) : x = .tup [.int p.1, .int p.2] := by
  obtain ⟨xs, h1, h⟩ := bindO_of h
  obtain ⟨q, h2, h⟩ := bindO_of h
  obtain ⟨a, h3, h⟩ := bindO_of h
  obtain ⟨b, h4, h⟩ := Option.map_eq_some_iff.mp h
  rw [vT_of h1, two2_of h2, vI_of h3, vI_of h4, ← h]

/-- a list answer is a list, or a reference to one -/
theorem listV_of {σ : H} {a : A} {xs : List V} (h : listV σ a = some xs) : a = .v (.list xs) ∨ ∃ i, a = .ref i ∧ σ[i]? = some (.list xs) := by
  cases a with
  | v x => rw [vL_of h]; exact .inl rfl
  | ref i =>
    obtain ⟨o, ho, h⟩ := bindO_of h
    rw [oL_of h] at ho
    exact .inr ⟨i, rfl, ho⟩
  | inst _ _ => exact nons h
theorem seqV_of_list {σ : H} {a : A} {xs : List V} (h : listV σ a = some xs) : seqV σ a = some xs := by
  rcases listV_of h with rfl | ⟨i, rfl, hx⟩
  · rfl
  · exact h
theorem itemsR {σ : H} {i : Nat} {o : O} {its : List A} (hx : σ[i]? = some o) (h : oA o = some its) : items σ (.ref i) = some its := by
  show (σ[i]?).bind oA = _
  rw [hx]; exact h
theorem lenA_of_list {σ : H} {a : A} {xs : List V} (h : listV σ a = some xs) : lenA σ a = some xs.length := by
  rcases listV_of h with rfl | ⟨i, rfl, hx⟩
  · rfl
  · show ((σ[i]?).bind oA).map List.length = _
    rw [hx]; exact congrArg some (List.length_map ..)
theorem items_of_list {σ : H} {a : A} {xs : List V} (h : listV σ a = some xs) : items σ a = some (xs.map A.v) := by
  rcases listV_of h with rfl | ⟨i, rfl, hx⟩
  · rfl
  · exact itemsR hx rfl
theorem isi_of_list {σ : H} {a : A} {xs : List V} (h : listV σ a = some xs) (c : Cl) (hc : c = .list := by rfl) : isiSem σ a c = some true := by
  subst hc
  rcases listV_of h with rfl | ⟨i, rfl, hx⟩
  · rfl
  · show ((σ[i]?).bind oA).bind _ = _
    rw [hx]; rfl
theorem itemL_at {α : Type} {xs : List α} {f : α → A} {k : Int} {x : α} {j : Nat} (hj : idx xs.length k = some j) (hx : xs[j]? = some x) : itemL xs f (.v (.int k)) = some (f x) := by
  show (idx xs.length k).bind _ = _
  rw [hj]
  show (xs[j]?).map f = _
  rw [hx]; rfl
theorem item_of_list {σ : H} {a : A} {xs : List V} (h : listV σ a = some xs) {k : Int} {x : V} {j : Nat} (hj : idx xs.length k = some j) (hx : xs[j]? = some x) : itemSem σ a (.v (.int k)) = some (.v x) := by
  rcases listV_of h with rfl | ⟨i, rfl, hy⟩
  · exact itemL_at hj hx
  · show ((σ[i]?).bind oA).bind _ = _
    rw [hy]
    exact itemL_at (f := id) (by rw [List.length_map]; exact hj) (by rw [List.getElem?_map, hx]; rfl)
theorem idx_nat {n k : Nat} (h : k < n) : idx n (k : Int) = some k := by
  unfold idx
  rw [if_pos (by omega), if_pos (by omega)]; simp
theorem idx_int {n : Nat} {k : Int} (h0 : 0 ≤ k) (h : k < n) : idx n k = some k.toNat := by
  unfold idx
  rw [if_pos h0, if_pos h]


end Fl

/-! order (own work) -/
namespace Fl
open PySem (Str)
set_option linter.unusedSimpArgs false

theorem isInt_of {v : V} (h : isInt v = true) : v = .int (intOf v) := by cases v <;> simp [isInt] at h; rfl
theorem isIntTup_of {v : V} (h : isIntTup v = true) : v = .tup (tupOf v) ∧ (tupOf v).all isInt = true := by cases v <;> simp [isIntTup] at h; exact ⟨rfl, by simpa [tupOf] using h⟩

/-! the order on ints and on tuples of ints -/
theorem ltL_irr : ∀ a : List Int, ltL a a = false
  | [] => rfl
  | a :: as => by simp [ltL_0, ltL_1, ltL_2, ltL_3, ltL_irr as]
theorem ltL_asy : ∀ a b : List Int, ltL a b = true → ltL b a = false
  | [], [], _ => rfl
  | [], _ :: _, _ => rfl
  | _ :: _, [], h => by simp [ltL_0, ltL_1, ltL_2, ltL_3] at h
  | a :: as, b :: bs, h => by
    simp only [ltL_0, ltL_1, ltL_2, ltL_3, Bool.or_eq_true, Bool.and_eq_true, decide_eq_true_eq] at h
    simp only [ltL_0, ltL_1, ltL_2, ltL_3, Bool.or_eq_false_iff, Bool.and_eq_false_iff, decide_eq_false_iff_not]
    rcases h with h | ⟨h, h'⟩
    · exact ⟨by omega, .inl (by omega)⟩
    · exact ⟨by omega, .inr (ltL_asy as bs h')⟩
theorem ltL_tr : ∀ a b c : List Int, ltL b a = false → ltL c b = false → ltL c a = false
  | a, b, [], h1, h2 => by
    cases a with
    | nil => rfl
    | cons x xs =>
      cases b with
      | nil => simp [ltL_0, ltL_1, ltL_2, ltL_3] at h1
      | cons y ys => simp [ltL_0, ltL_1, ltL_2, ltL_3] at h2
  | [], b, c :: cs, h1, h2 => by simp [ltL_0, ltL_1, ltL_2, ltL_3]
  | a :: as, [], c :: cs, h1, h2 => by simp [ltL_0, ltL_1, ltL_2, ltL_3] at h1
  | a :: as, b :: bs, c :: cs, h1, h2 => by
    simp only [ltL_0, ltL_1, ltL_2, ltL_3, Bool.or_eq_false_iff, Bool.and_eq_false_iff, decide_eq_false_iff_not] at h1 h2 ⊢
    refine ⟨by omega, ?_⟩
    by_cases hca : c = a
    · right
      have hb : b = a := by omega
      have hc : c = b := by omega
      exact ltL_tr as bs cs (h1.2.resolve_left (fun h => h hb)) (h2.2.resolve_left (fun h => h hc))
    · exact .inl hca
theorem ltL_tot : ∀ a b : List Int, ltL a b = false → ltL b a = false → a = b
  | [], [], _, _ => rfl
  | [], _ :: _, h, _ => by simp [ltL_0, ltL_1, ltL_2, ltL_3] at h
  | _ :: _, [], _, h => by simp [ltL_0, ltL_1, ltL_2, ltL_3] at h
  | a :: as, b :: bs, h1, h2 => by
    simp only [ltL_0, ltL_1, ltL_2, ltL_3, Bool.or_eq_false_iff, Bool.and_eq_false_iff, decide_eq_false_iff_not] at h1 h2
    have hab : a = b := by omega
    subst hab
    rw [ltL_tot as bs (h1.2.resolve_left (fun h => h rfl)) (h2.2.resolve_left (fun h => h rfl))]

theorem vle_tr (a b c : V) (h1 : vle a b = true) (h2 : vle b c = true) : vle a c = true := by
  simp only [vle, vlt, Bool.not_eq_true'] at *
  exact ltL_tr _ _ _ h1 h2
theorem vle_total (a b : V) : (vle a b || vle b a) = true := by
  simp only [vle, vlt]
  cases h : ltL (keyInts b) (keyInts a) with
  | false => simp
  | true => simp [ltL_asy _ _ h]

theorem key_inj {xs : List V} (hs : sortable xs = true) {a b : V} (ha : a ∈ xs) (hb : b ∈ xs) (h : keyInts a = keyInts b) : a = b := by
  simp only [sortable, Bool.or_eq_true] at hs
  rcases hs with hs | hs
  · have h1 := isInt_of (List.all_eq_true.mp hs a ha)
    have h2 := isInt_of (List.all_eq_true.mp hs b hb)
    rw [h1, h2] at h ⊢
    simp only [keyInts, List.cons.injEq, and_true] at h
    rw [h]
  · have h1 := List.all_eq_true.mp hs a ha
    have h2 := List.all_eq_true.mp hs b hb
    simp only [Bool.and_eq_true] at h1 h2
    obtain ⟨e1, i1⟩ := isIntTup_of h1.1
    obtain ⟨e2, i2⟩ := isIntTup_of h2.1
    rw [e1, e2] at h ⊢
    simp only [keyInts] at h
    congr 1
    have inj : ∀ {as bs : List V}, as.all isInt = true → bs.all isInt = true → as.map intOf = bs.map intOf → as = bs := by
      intro as
      induction as with
      | nil => intro bs _ _ h; cases bs <;> simp at h ⊢
      | cons a as ih =>
        intro bs ha hb h
        cases bs with
        | nil => simp at h
        | cons b bs =>
          simp only [List.all_cons, Bool.and_eq_true] at ha hb
          simp only [List.map_cons, List.cons.injEq] at h
          rw [isInt_of ha.1, isInt_of hb.1, h.1, ih ha.2 hb.2 h.2]
    exact inj i1 i2 h

/-- a sorted rearrangement is the sorted list -/
theorem vsort_uniq {xs ys : List V} (hs : sortable xs = true) (hp : ys.Perm xs) (ho : ys.Pairwise (fun a b => vle a b = true)) : ys = vsort xs := by
  have h1 : (vsort xs).Pairwise (fun a b => vle a b = true) := List.pairwise_mergeSort (le := vle) (fun a b c => vle_tr a b c) (fun a b => by simpa using vle_total a b) xs
  have h2 : (vsort xs).Perm xs := List.mergeSort_perm xs vle
  have uniq : ∀ {l l' : List V}, (∀ a ∈ l, ∀ b ∈ l, keyInts a = keyInts b → a = b) → l.Perm l' → l.Pairwise (fun a b => vle a b = true) → l'.Pairwise (fun a b => vle a b = true) → l = l' := by
    intro l l' hk hp h1 h2
    refine List.Perm.eq_of_pairwise (le := fun a b => vle a b = true) ?_ h1 h2 hp
    intro a b ha hb hab hba
    refine hk a ha b (hp.mem_iff.mpr hb) ?_
    simp only [vle, vlt, Bool.not_eq_true'] at hab hba
    exact ltL_tot _ _ hba hab
  exact uniq (fun a ha b hb h => key_inj hs (hp.mem_iff.mp ha) (hp.mem_iff.mp hb) h) (hp.trans h2.symm) ho h1
end Fl

/-! loops (own work) -/
namespace Fl
open PySem (Str)
set_option linter.unusedSimpArgs false

theorem compLoop_filter {α : Type} {ft : Loc → H → (Bool → H → Prop) → Prop} {fe : Loc → H → (A → H → Prop) → Prop} {y : String} {src : A} {its : List A} {m : Loc} {σ : H} {K : List V → H → Prop} (g : α → A) (f : α → V) (p : α → Bool) (hS : Stay σ src its) :
    ∀ (xs : List α) (acc : List V), (∀ x ∈ xs, ∀ K : Bool → H → Prop, K (p x) σ → ft (m.set y (g x)) σ K) → (∀ x ∈ xs, p x = true → ∀ K : A → H → Prop, K (.v (f x)) σ → fe (m.set y (g x)) σ K) → K (acc ++ (xs.filter p).map f) σ →
    compLoop ft fe (.one y) src its m (xs.map g) σ acc K := by
  intro xs
  induction xs with
  | nil => intro acc _ _ hK; simpa [compLoop_0, compLoop_1] using hK
  | cons x xs ih =>
    intro acc h1 h2 hK
    simp only [List.map_cons, compLoop_0, compLoop_1, bindT, get]
    refine h1 x List.mem_cons_self _ ?_
    by_cases hp : p x = true
    · simp only [hp, if_true]
      refine h2 x List.mem_cons_self hp _ ?_
      refine ⟨hS, ih _ (fun z hz => h1 z (List.mem_cons_of_mem _ hz)) (fun z hz => h2 z (List.mem_cons_of_mem _ hz)) ?_⟩
      simpa [hp] using hK
    · simp only [hp, if_false]
      refine ⟨hS, ih _ (fun z hz => h1 z (List.mem_cons_of_mem _ hz)) (fun z hz => h2 z (List.mem_cons_of_mem _ hz)) ?_⟩
      simpa [hp] using hK

theorem compLoop_map {α : Type} {ft : Loc → H → (Bool → H → Prop) → Prop} {fe : Loc → H → (A → H → Prop) → Prop} {y : String} {src : A} {its : List A} {m : Loc} {σ : H} {K : List V → H → Prop} (g : α → A) (f : α → V) (hS : Stay σ src its)
    (xs : List α) (acc : List V) (hft : ∀ m (K : Bool → H → Prop), K true σ → ft m σ K) (hfe : ∀ x ∈ xs, ∀ K : A → H → Prop, K (.v (f x)) σ → fe (m.set y (g x)) σ K) (hK : K (acc ++ xs.map f) σ) :
    compLoop ft fe (.one y) src its m (xs.map g) σ acc K := by
  refine compLoop_filter g f (fun _ => true) hS xs acc (fun _ _ K h => hft _ K h) (fun x hx _ => hfe x hx) ?_
  rw [List.filter_eq_self.mpr (by simp)]; exact hK

/-- a loop by what holds ahead of each round: what is done, what is left -/
theorem forLoop_items {α β : Type} {bd : β → Loc → Option Loc} {fb : Loc → H → (Fw → Loc → H → Prop) → Prop} {st : H → Prop} {K : Fw → Loc → H → Prop} (g : α → β) (I : List α → List α → Loc → H → Prop)
    (hst : ∀ p r m σ, I p r m σ → st σ)
    (hstep : ∀ p a r m σ (K' : Fw → Loc → H → Prop), I p (a :: r) m σ → (∀ m σ, I (p ++ [a]) r m σ → K' .next m σ) → (∀ m σ, I (p ++ [a]) r m σ → K' .cont m σ) → (∀ m σ, K .next m σ → K' .brk m σ) → (∀ v m σ, K (.ret v) m σ → K' (.ret v) m σ) → get (bd (g a) m) fun m' => fb m' σ K')
    (hend : ∀ p m σ, I p [] m σ → K .next m σ) :
    ∀ (r p : List α) (m : Loc) (σ : H), I p r m σ → forLoop bd fb st (r.map g) m σ K := by
  intro r
  induction r with
  | nil => intro p m σ h; exact hend p m σ h
  | cons a r ih =>
    intro p m σ h
    simp only [List.map_cons, forLoop_0, forLoop_1]
    refine hstep p a r m σ _ h ?_ ?_ ?_ ?_
    · intro m σ h; exact ⟨hst _ _ _ _ h, ih _ m σ h⟩
    · intro m σ h; exact ⟨hst _ _ _ _ h, ih _ m σ h⟩
    · intro m σ h; exact h
    · intro v m σ h; exact h

/-- a loop over a range -/
theorem forLoop_range {N : Nat} {y : String} {fb : Loc → H → (Fw → Loc → H → Prop) → Prop} {st : H → Prop} {K : Fw → Loc → H → Prop} (I : Nat → Loc → H → Prop)
    (hst : ∀ k m σ, I k m σ → st σ)
    (hstep : ∀ k m σ (K' : Fw → Loc → H → Prop), k < N → I k m σ → (∀ m σ, I (k + 1) m σ → K' .next m σ) → (∀ m σ, I (k + 1) m σ → K' .cont m σ) → (∀ m σ, K .next m σ → K' .brk m σ) → (∀ v m σ, K (.ret v) m σ → K' (.ret v) m σ) → fb (m.set y (.v (.int k))) σ K')
    (hend : ∀ m σ, I N m σ → K .next m σ) (m : Loc) (σ : H) (h0 : I 0 m σ) :
    forLoop (bindT (.one y)) fb st ((List.range N).map fun (k : Nat) => A.v (.int k)) m σ K := by
  refine forLoop_items (bd := bindT (.one y)) (fun (k : Nat) => A.v (.int k)) (fun p r m σ => I p.length m σ ∧ p ++ r = List.range N) ?_ ?_ ?_ _ [] _ _ ⟨h0, rfl⟩
  · intro p r m σ h; exact hst _ _ _ h.1
  · intro p a r m σ K' h h1 h2 h3 h4
    simp only [bindT, get]
    have e : a = p.length ∧ a < N := by
      have h1 : (p ++ a :: r)[p.length]? = some a := by simp
      rw [h.2] at h1
      have h2 := (List.getElem?_eq_some_iff.mp h1)
      obtain ⟨h3, h4⟩ := h2
      simp at h4 h3
      omega
    rw [e.1]
    refine hstep p.length m σ K' (by omega) h.1 (fun m σ hI => h1 m σ ?_) (fun m σ hI => h2 m σ ?_) h3 h4
    · refine ⟨by simpa using hI, by rw [← h.2]; simp⟩
    · refine ⟨by simpa using hI, by rw [← h.2]; simp⟩
  · intro p m σ h
    refine hend m σ ?_
    have : p.length = N := by
      have := congrArg List.length h.2
      simpa using this
    rw [← this]; exact h.1

theorem peqL_refl : ∀ {xs : List V}, (∀ x ∈ xs, peq x x = true) → peqL xs xs = true
  | [], _ => rfl
  | x :: xs, h => (Bool.and_eq_true _ _).mpr ⟨h x List.mem_cons_self, peqL_refl fun y hy => h y (List.mem_cons_of_mem _ hy)⟩
theorem peq_refl : ∀ (n : Nat) {x : V}, eqOkN n x = true → peq x x = true := by
  have fl : ∀ {x : V}, flatOk x = true → peq x x = true := by
    intro x h
    cases x with
    | none => rfl
    | bool b => exact beq_self_eq_true b
    | int i => exact decide_eq_true rfl
    | str s => exact decide_eq_true rfl
    | _ => exact absurd h (fun e => nomatch e)
  intro n
  induction n with
  | zero => intro x h; exact fl h
  | succ n ih =>
    intro x h
    cases x with
    | tup xs => exact peqL_refl fun y hy => ih (List.all_eq_true.mp h y hy)
    | list xs => exact peqL_refl fun y hy => ih (List.all_eq_true.mp h y hy)
    | _ => exact fl h
theorem eqSem_same {σ : H} {a b : A} {x : V} (ha : valOf σ a = some x) (hb : valOf σ b = some x) (h : eqOk x = true) : eqSem σ a b = some true := by
  unfold eqSem
  rw [ha, hb]
  show (if (eqOk x && eqOk x) = true then some (peq x x) else Option.none).or _ = _
  rw [h, peq_refl 8 h]; rfl
theorem c_ne_same {σ : H} {a b : A} {x : V} (ha : valOf σ a = some x) (hb : valOf σ b = some x) (h : eqOk x = true) : cmpSem σ .ne a b = some false := by
  show (eqSem σ a b).map _ = _
  rw [eqSem_same ha hb h]; rfl
theorem c_eq_same {σ : H} {a b : A} {x : V} (ha : valOf σ a = some x) (hb : valOf σ b = some x) (h : eqOk x = true) : cmpSem σ .eq a b = some true := eqSem_same ha hb h

theorem in_range {n : Int} {σ : H} : items σ (.v (.range 0 n)) = some ((List.range n.toNat).map fun (k : Nat) => A.v (.int k)) := by
  simp [items, vIt, rngL]
/-- while, by a measure -/
theorem whileN_inv {ft : Loc → H → (Bool → H → Prop) → Prop} {fb : Loc → H → (Fw → Loc → H → Prop) → Prop} {K : Fw → Loc → H → Prop} (I : Nat → Loc → H → Prop)
    (hstep : ∀ k m σ (K₁ : Bool → H → Prop), I k m σ → (∀ σ', (K .next m σ') → K₁ false σ') →
      (∀ σ', (∀ K' : Fw → Loc → H → Prop, (∀ j m' σ'', j < k → I j m' σ'' → K' .next m' σ'') → (∀ j m' σ'', j < k → I j m' σ'' → K' .cont m' σ'') → (∀ m' σ'', K .next m' σ'' → K' .brk m' σ'') → (∀ v m' σ'', K (.ret v) m' σ'' → K' (.ret v) m' σ'') → fb m σ' K') → K₁ true σ') → ft m σ K₁) :
    ∀ k m σ, I k m σ → ∃ n, whileN ft fb K n m σ := by
  have main : ∀ k m σ, I k m σ → ∀ n, k < n → whileN ft fb K n m σ := by
    intro k
    induction k using Nat.strongRecOn with
    | ind k ih =>
      intro m σ h n hn
      obtain ⟨n, rfl⟩ : ∃ n', n = n' + 1 := ⟨n - 1, by omega⟩
      simp only [whileN_0, whileN_1]
      refine hstep k m σ _ h ?_ ?_
      · intro σ' h'
        rw [if_neg (by simp)]; exact h'
      · intro σ' h'
        rw [if_pos rfl]
        refine h' _ ?_ ?_ ?_ ?_
        · intro j m' σ'' hj hI; exact ih j hj m' σ'' hI n (by omega)
        · intro j m' σ'' hj hI; exact ih j hj m' σ'' hI n (by omega)
        · intro m' σ'' h; exact h
        · intro v m' σ'' h; exact h
  intro k m σ h
  exact ⟨k + 1, main k m σ h _ (by omega)⟩

end Fl

/-! steps on the abstract machine (own work) -/
namespace Fl
open PySem (Str)
set_option linter.unusedSimpArgs false

theorem YH (σ : H) (i : Int) : isiSem σ (.v (.int i)) .int = some true := rfl
theorem YJ (σ : H) (i : Int) : isiSem σ (.v (.int i)) .bool = some false := rfl
theorem YI (σ : H) (xs : List V) : isiSem σ (.v (.tup xs)) .tuple = some true := rfl
theorem YK (σ : H) (b : Bool) : truthy σ (.v (.bool b)) = some b := rfl
theorem YL (σ : H) (xs : List V) (k : Int) : itemSem σ (.v (.tup xs)) (.v (.int k)) = (idx xs.length k).bind fun j => xs[j]?.map A.v := rfl
theorem YM : idx 2 0 = some 0 := rfl
theorem YN : idx 2 1 = some 1 := rfl
theorem YF (σ : H) (i j : Int) (K) : biSem σ K .min [.v (.tup [.int i, .int j])] = K (.v (.int (min i j))) := rfl
theorem YG (σ : H) (i j : Int) (K) : biSem σ K .max [.v (.tup [.int i, .int j])] = K (.v (.int (max i j))) := rfl
theorem Yl (x : String) (xs : List String) (a : A) (as : List A) : bindP (x :: xs) (a :: as) = (bindP xs as).set x a := rfl
theorem Ym : bindP [] [] = fun _ => Option.none := rfl


/-- one statement, what follows it unseen -/
theorem nx {C : CallSem} {s : S} {r : List S} {m σ K X} (h : ∀ k : Fw → Loc → H → Prop, (∀ m σ, xSs C r m σ K X → k .next m σ) → (∀ a m σ, K (.ret a) m σ → k (.ret a) m σ) → (∀ m σ, K .cont m σ → k .cont m σ) → (∀ m σ, K .brk m σ → k .brk m σ) → xS C s m σ k X) : xSs C (s :: r) m σ K X :=
  h (seqF (fun m σ => xSs C r m σ K X) K) (fun _ _ h => h) (fun _ _ _ h => h) (fun _ _ h => h) (fun _ _ h => h)

theorem run_of {C : CallSem} {tab : List (String × Fn)} (hC : Closed C tab) {f : String} {d : Fn} (hf : (f, d) ∈ tab) {as σ K X} (hl : as.length = d.ps.length) (h : xSs C d.body (bindP d.ps as) σ (retF K) (fun c _ σ => X c σ)) : C f as σ K X :=
  hC f d hf as σ K X ⟨hl, h⟩

abbrev iv (i : Int) : A := .v (.int i)
noncomputable def tV (p : Int × Int) : V := .tup [.int p.1, .int p.2]

theorem pre_new (σ : H) (o : O) : σ <+: σ ++ [o] := List.prefix_append _ _

theorem eqOk_int (i : Int) : eqOk (.int i) = true := rfl
theorem eqOk_tV (p : Int × Int) : eqOk (tV p) = true := rfl
theorem all_map {α : Type} {f : α → V} {p : V → Bool} (h : ∀ x, p (f x) = true) (l : List α) : (l.map f).all p = true := by
  rw [List.all_map, List.all_eq_true]; intro x _; exact h x
theorem peq_tV (p q : Int × Int) : peq (tV p) (tV q) = decide (p = q) := by
  obtain ⟨a, b⟩ := p; obtain ⟨c, d⟩ := q
  show (decide (a = c) && (decide (b = d) && true)) = _
  rw [Bool.and_true, ← Bool.decide_and]
  exact decide_eq_decide.mpr (by rw [Prod.mk.injEq])
theorem any_mem {α : Type} [DecidableEq α] {f : α → V} (hf : ∀ x y, peq (f x) (f y) = decide (x = y)) (l : List α) (x : α) : ((l.map f).any fun k => peq k (f x)) = decide (x ∈ l) := by
  induction l with
  | nil => simp
  | cons y l ih =>
    simp only [List.map_cons, List.any_cons, ih, hf, List.mem_cons]
    by_cases h : y = x
    · subst h; simp
    · simp [h, Ne.symm h]
theorem eqOk_ints (l : List Int) : eqOk (.list (l.map V.int)) = true := all_map (p := eqOkN 7) (fun _ => rfl) l
theorem eqOk_tups (l : List (Int × Int)) : eqOk (.list (l.map tV)) = true := all_map (p := eqOkN 7) (fun _ => rfl) l
theorem eqOk_bool (b : Bool) : eqOk (.bool b) = true := rfl
theorem inSem_list {σ : H} {a : A} {xs : List V} {x : V} (h : listV σ a = some xs) (h1 : eqOk x = true) (h2 : xs.all eqOk = true) : inSem σ (.v x) a = some (xs.any fun k => peq k x) := by
  have key : inL x xs = some (xs.any fun k => peq k x) := by unfold inL; rw [h1, h2]; rfl
  rcases listV_of h with rfl | ⟨i, rfl, hx⟩
  · exact key
  · show (σ[i]?).bind _ = _
    rw [hx]; exact key
theorem in_ints {σ : H} {a : A} {row : List Int} (h : listV σ a = some (row.map V.int)) (j : Int) : inSem σ (iv j) a = some (decide (j ∈ row)) := by
  rw [inSem_list h (eqOk_int j) (all_map eqOk_int row), any_mem peq_ii]
theorem in_tups {σ : H} {a : A} {ts : List (Int × Int)} (h : listV σ a = some (ts.map tV)) (p : Int × Int) : inSem σ (.v (tV p)) a = some (decide (p ∈ ts)) := by
  rw [inSem_list h (eqOk_tV p) (all_map eqOk_tV ts), any_mem peq_tV]
  exact congrArg some (decide_eq_decide.mpr Iff.rfl)
theorem get_mono {σ σ' : H} (hp : σ <+: σ') {i : Nat} {o : O} (h : σ[i]? = some o) : σ'[i]? = some o := by
  obtain ⟨t, rfl⟩ := hp
  rw [List.getElem?_append_left (List.getElem?_eq_some_iff.mp h).1, h]
theorem listV_ref {σ : H} {i : Nat} {xs : List V} (h : σ[i]? = some (.list xs)) : listV σ (.ref i) = some xs := by
  show (σ[i]?).bind oL = _
  rw [h]; rfl
theorem listV_mono {σ σ' : H} (hp : σ <+: σ') {a : A} {xs : List V} (h : listV σ a = some xs) : listV σ' a = some xs := by
  rcases listV_of h with rfl | ⟨i, rfl, hx⟩
  · rfl
  · exact listV_ref (get_mono hp hx)
/-- a list written -/
theorem put_at {σ : H} {i : Nat} {xs ys : List V} {x : V} {f K} (hx : σ[i]? = some (.list xs)) (hf : f xs = some (ys, x)) (hl : ys.length < 2 ^ 20) (hK : K (.v x) (σ.set i (.list ys))) : lstPut σ (.ref i) f K := by
  show get ((σ[i]?).bind oL) _
  rw [hx]
  show get (f xs) _
  rw [hf]; exact ⟨hl, hK⟩
theorem isL_of {σ : H} {i : Nat} {o : O} {its : List A} (hx : σ[i]? = some o) (h : oA o = some its) : isLst σ (.ref i) = true := by
  show ((σ[i]?).bind oA).isSome = true
  rw [hx]
  show (oA o).isSome = true
  rw [h]; rfl
theorem isL_l {σ : H} {i : Nat} {xs : List V} (hx : σ[i]? = some (.list xs)) : isLst σ (.ref i) = true := isL_of hx rfl
theorem isL_r {σ : H} {i : Nat} {is : List Nat} (hx : σ[i]? = some (.refs is)) : isLst σ (.ref i) = true := isL_of hx rfl
theorem app_put {σ : H} {i : Nat} {xs : List V} {x : V} {K} (hx : σ[i]? = some (.list xs)) (hl : xs.length + 1 < 2 ^ 20) (hK : K (.v .none) (σ.set i (.list (xs ++ [x])))) : lmSem σ (.ref i) K .append [.v x] :=
  put_at (f := fun xs => some (xs ++ [x], .none)) hx rfl (by rw [List.length_append]; exact hl) hK

end Fl

/-! the text of the webs (printed by gen.py, then turned) -/
namespace Fl
noncomputable def f_is_whole : Fn := ⟨["thing"], [.ret (.and [.isi (.x "thing") .int, .not (.isi (.x "thing") .bool)])]⟩
noncomputable def f_tie_of : Fn := ⟨["thing", "many"], [.ite (.or [.not (.isi (.x "thing") .tuple), .cmp (.bi .len [.x "thing"]) .ne (.c (.int 2))]) [.raise "NoWeb" "a tie is a tuple of two points"] [],
    .for_ (.one "point") (.x "thing") [.ite (.or [.not (.call "is_whole" [.x "point"]), .not (.cmp2 (.c (.int 0)) .le (.x "point") .lt (.x "many"))]) [.raise "NoWeb" "a tie leads between points of the web"] []],
    .ite (.cmp (.item (.x "thing") (.c (.int 0))) .eq (.item (.x "thing") (.c (.int 1)))) [.raise "NoWeb" "a tie leads to another point"] [],
    .ret (.tup [.bi .min [.x "thing"], .bi .max [.x "thing"]])]⟩
noncomputable def f_Web_init : Fn := ⟨["self", "many", "ties"], [.ite (.or [.not (.call "is_whole" [.x "many"]), .not (.cmp2 (.c (.int 1)) .le (.x "many") .le (.g "MOST_POINTS" 16))]) [.raise "NoWeb" "1 to 16 points are wanted"] [],
    .ite (.or [.not (.isi (.x "ties") .list), .cmp (.bi .len [.x "ties"]) .gt (.g "MOST_TIES" 40)]) [.raise "NoWeb" "a list of up to 40 ties is wanted"] [],
    .asg "found" (.mu (.disp [])),
    .for_ (.one "thing") (.x "ties") [.asgC "tie" "tie_of" [.x "thing", .x "many"],
    .ite (.cmp (.x "tie") .isin (.x "found")) [.raise "NoWeb" "two points are tied once"] [],
    .ex (.lm (.x "found") .append [.x "tie"])],
    .setA "self" "many" (.x "many"),
    .setA "self" "pairs" (.fz (.sorted (.x "found"))),
    .setA "self" "rows" (.fz (.comp (.call "neighbours" [.x "found", .x "point"]) (.one "point") (.bi .range [.x "many"]) []))]⟩
noncomputable def f_Web_need_point : Fn := ⟨["self", "thing"], [.ite (.or [.not (.call "is_whole" [.x "thing"]), .not (.cmp2 (.c (.int 0)) .le (.x "thing") .lt (.attr (.x "self") "many"))]) [.raise "NoPoint" "no point of the web"] []]⟩
noncomputable def f_Web_beside : Fn := ⟨["self", "point"], [.exM (.x "self") "need_point" [.x "point"],
    .ret (.fz (.copy (.item (.attr (.x "self") "rows") (.x "point"))))]⟩

noncomputable def f_neighbours : Fn := ⟨["ties", "point"], [.asg "found" (.mu (.disp [])),
    .for_ (.one "tie") (.x "ties") [.ite (.cmp (.item (.x "tie") (.c (.int 0))) .eq (.x "point")) [.ex (.lm (.x "found") .append [.item (.x "tie") (.c (.int 1))])] [],
    .ite (.cmp (.item (.x "tie") (.c (.int 1))) .eq (.x "point")) [.ex (.lm (.x "found") .append [.item (.x "tie") (.c (.int 0))])] []],
    .ret (.fz (.sorted (.x "found")))]⟩
noncomputable def f__law_cell_at : Fn := ⟨["_law_script", "_law_k"], [.ite (.cmp (.x "_law_k") .lt (.bi .len [.x "_law_script"])) [.ret (.item (.x "_law_script") (.x "_law_k"))] [],
    .ret (.c (.int 0))]⟩
noncomputable def f__law_whole : Fn := ⟨["_law_seen"], [.ret (.and [.isi (.x "_law_seen") .int, .not (.isi (.x "_law_seen") .bool)])]⟩
noncomputable def wtab : List (String × Fn) := [("is_whole", f_is_whole), ("tie_of", f_tie_of), ("Web.__init__", f_Web_init), ("Web.need_point", f_Web_need_point), ("Web.beside", f_Web_beside), ("neighbours", f_neighbours), ("_law_cell_at", f__law_cell_at), ("_law_whole", f__law_whole)]
theorem Closed.sub {C : CallSem} {t tab : List (String × Fn)} (hC : Closed C tab) (h : ∀ x ∈ t, x ∈ tab) : Closed C t := fun f d hf => hC f d (h _ hf)
end Fl

/-! the webs on the abstract machine (own work) -/
namespace Fl
open PySem (Str)
set_option linter.unusedSimpArgs false
set_option linter.unusedSectionVars false

/-- a web -/
noncomputable def webV (n : Int) (ps rows : List V) : V := .obj "Web" [.int n, .list ps, .list rows]
theorem web_many (n : Int) (ps rows : List V) : attrSem (.v (webV n ps rows)) "many" = some (.int n) := rfl
theorem web_pairs (n : Int) (ps rows : List V) : attrSem (.v (webV n ps rows)) "pairs" = some (.list ps) := rfl
theorem web_rows (n : Int) (ps rows : List V) : attrSem (.v (webV n ps rows)) "rows" = some (.list rows) := rfl
theorem asO_web (n : Int) (ps rows : List V) : asO (.v (webV n ps rows)) = some ("Web", [.int n, .list ps, .list rows]) := rfl

section
variable {C : CallSem} (hC : Closed C wtab)
include hC

theorem whole_ok {σ : H} {i : Int} {K X} (h : K (.v (.bool true)) σ) : C "is_whole" [iv i] σ K X := by
  refine run_of hC (d := f_is_whole) (by repeat (first | exact List.Mem.head _ | apply List.Mem.tail)) rfl ?_
  unfold f_is_whole
  dsimp only
  refine nx fun k kn kr _ _ => ?_
  simp only [ya, yb, yc, yd, ye, yf, yg, yh, yi, yj, yk, yl, ym, yn, yo, yp, yq, yr, yt, yu, yv, yw, yx, yy, yz, yA, yB, yC, yD, yE, yF, yG, yH, yI, yJ, yK, yL, yM, yN, yO, yP, yQ, yR, yS, yT, yU, yV, yW, yX, yY, yZ, y0, y4, y5, y6, y7, y8, y9, Yb, Yc, Yd, Ye, Yg, Yh, Yi, Yj, Yk, Yl, Ym, Yn, Yo, String.reduceEq, if_true, if_false, reduceIte, ↓reduceIte, Yp, Yq, Yr, Ys, Yt, Yu, Yv, Yw, Yx, Yy, Yz, YA, YB, YC, YD, YE, YF, YG, YH, YI, YJ, YK, YL, YM, YN, YO, YP, YQ, YR, YS, YT, YU, YV, YW, Option.map_some, Option.bind_some, List.map_cons, List.map_nil, List.getElem?_cons_zero, List.getElem?_cons_succ, decide_eq_true_eq, List.length_cons, List.length_nil, Nat.reduceAdd, ne_eq, true_and, and_true, not_false_eq_true, not_true_eq_false, Int.reduceEq, Int.reduceNeg, Int.reduceAdd, Int.reduceLT, Int.reduceLE, reduceCtorEq, or_false, false_or, or_true, decide_true, decide_false, Bool.not_true, Bool.not_false, Bool.false_eq_true, Bool.true_eq_false, YX, YY, YZ, Y0, Y1, Y2, Y3, Y4]
  exact kr _ _ _ h
theorem lwhole_ok {σ : H} {i : Int} {K X} (h : K (.v (.bool true)) σ) : C "_law_whole" [iv i] σ K X := by
  refine run_of hC (d := f__law_whole) (by repeat (first | exact List.Mem.head _ | apply List.Mem.tail)) rfl ?_
  unfold f__law_whole
  dsimp only
  refine nx fun k kn kr _ _ => ?_
  simp only [ya, yb, yc, yd, ye, yf, yg, yh, yi, yj, yk, yl, ym, yn, yo, yp, yq, yr, yt, yu, yv, yw, yx, yy, yz, yA, yB, yC, yD, yE, yF, yG, yH, yI, yJ, yK, yL, yM, yN, yO, yP, yQ, yR, yS, yT, yU, yV, yW, yX, yY, yZ, y0, y4, y5, y6, y7, y8, y9, Yb, Yc, Yd, Ye, Yg, Yh, Yi, Yj, Yk, Yl, Ym, Yn, Yo, String.reduceEq, if_true, if_false, reduceIte, ↓reduceIte, Yp, Yq, Yr, Ys, Yt, Yu, Yv, Yw, Yx, Yy, Yz, YA, YB, YC, YD, YE, YF, YG, YH, YI, YJ, YK, YL, YM, YN, YO, YP, YQ, YR, YS, YT, YU, YV, YW, Option.map_some, Option.bind_some, List.map_cons, List.map_nil, List.getElem?_cons_zero, List.getElem?_cons_succ, decide_eq_true_eq, List.length_cons, List.length_nil, Nat.reduceAdd, ne_eq, true_and, and_true, not_false_eq_true, not_true_eq_false, Int.reduceEq, Int.reduceNeg, Int.reduceAdd, Int.reduceLT, Int.reduceLE, reduceCtorEq, or_false, false_or, or_true, decide_true, decide_false, Bool.not_true, Bool.not_false, Bool.false_eq_true, Bool.true_eq_false, YX, YY, YZ, Y0, Y1, Y2, Y3, Y4]
  exact kr _ _ _ h

theorem tie_of_ok {σ : H} {n : Int} {p : Int × Int} {K X} (h1 : 0 ≤ p.1) (h2 : p.1 < n) (h3 : 0 ≤ p.2) (h4 : p.2 < n) (h5 : p.1 ≠ p.2) (h : K (.v (tV (min p.1 p.2, max p.1 p.2))) σ) : C "tie_of" [.v (tV p), iv n] σ K X := by
  refine run_of hC (d := f_tie_of) (by repeat (first | exact List.Mem.head _ | apply List.Mem.tail)) rfl ?_
  unfold f_tie_of tV
  dsimp only
  refine nx fun k kn kr _ _ => ?_
  simp only [ya, yb, yc, yd, ye, yf, yg, yh, yi, yj, yk, yl, ym, yn, yo, yp, yq, yr, yt, yu, yv, yw, yx, yy, yz, yA, yB, yC, yD, yE, yF, yG, yH, yI, yJ, yK, yL, yM, yN, yO, yP, yQ, yR, yS, yT, yU, yV, yW, yX, yY, yZ, y0, y4, y5, y6, y7, y8, y9, Yb, Yc, Yd, Ye, Yg, Yh, Yi, Yj, Yk, Yl, Ym, Yn, Yo, String.reduceEq, if_true, if_false, reduceIte, ↓reduceIte, Yp, Yq, Yr, Ys, Yt, Yu, Yv, Yw, Yx, Yy, Yz, YA, YB, YC, YD, YE, YF, YG, YH, YI, YJ, YK, YL, YM, YN, YO, YP, YQ, YR, YS, YT, YU, YV, YW, Option.map_some, Option.bind_some, List.map_cons, List.map_nil, List.getElem?_cons_zero, List.getElem?_cons_succ, decide_eq_true_eq, List.length_cons, List.length_nil, Nat.reduceAdd, ne_eq, true_and, and_true, not_false_eq_true, not_true_eq_false, Int.reduceEq, Int.reduceNeg, Int.reduceAdd, Int.reduceLT, Int.reduceLE, reduceCtorEq, or_false, false_or, or_true, decide_true, decide_false, Bool.not_true, Bool.not_false, Bool.false_eq_true, Bool.true_eq_false, YX, YY, YZ, Y0, Y1, Y2, Y3, Y4]
  have e2 : ((2 : Nat) : Int) = 2 := rfl
  simp only [e2, not_true_eq_false, decide_false, if_true]
  refine kn _ _ ?_
  refine nx fun k kn kr _ _ => ?_
  simp only [ya, yb, yc, yd, ye, yf, yg, yh, yi, yj, yk, yl, ym, yn, yo, yp, yq, yr, yt, yu, yv, yw, yx, yy, yz, yA, yB, yC, yD, yE, yF, yG, yH, yI, yJ, yK, yL, yM, yN, yO, yP, yQ, yR, yS, yT, yU, yV, yW, yX, yY, yZ, y0, y4, y5, y6, y7, y8, y9, Yb, Yc, Yd, Ye, Yg, Yh, Yi, Yj, Yk, Yl, Ym, Yn, Yo, String.reduceEq, if_true, if_false, reduceIte, ↓reduceIte, Yp, Yq, Yr, Ys, Yt, Yu, Yv, Yw, Yx, Yy, Yz, YA, YB, YC, YD, YE, YF, YG, YH, YI, YJ, YK, YL, YM, YN, YO, YP, YQ, YR, YS, YT, YU, YV, YW, Option.map_some, Option.bind_some, List.map_cons, List.map_nil, List.getElem?_cons_zero, List.getElem?_cons_succ, decide_eq_true_eq, List.length_cons, List.length_nil, Nat.reduceAdd, ne_eq, true_and, and_true, not_false_eq_true, not_true_eq_false, Int.reduceEq, Int.reduceNeg, Int.reduceAdd, Int.reduceLT, Int.reduceLE, reduceCtorEq, or_false, false_or, or_true, decide_true, decide_false, Bool.not_true, Bool.not_false, Bool.false_eq_true, Bool.true_eq_false, YX, YY, YZ, Y0, Y1, Y2, Y3, Y4]
  refine forLoop_items (α := Int) (A.v ∘ V.int) (fun _ r m' σ' => σ' = σ ∧ (∀ x ∈ r, 0 ≤ x ∧ x < n) ∧ m' "many" = some (iv n) ∧ m' "thing" = some (.v (.tup [.int p.1, .int p.2]))) (fun _ _ _ _ _ => True.intro) ?_ ?_ [p.1, p.2] [] _ _ ⟨rfl, ?_, rfl, rfl⟩
  · rintro _ x r m' σ' K' ⟨rfl, hx, m1, m2⟩ hK' _ _ _
    simp only [bindT, Yo, Function.comp_apply]
    obtain ⟨a, b⟩ := hx x List.mem_cons_self
    refine nx fun k kn kr _ _ => ?_
    simp only [ya, yb, yc, yd, ye, yf, yg, yh, yi, yj, yk, yl, ym, yn, yo, yp, yq, yr, yt, yu, yv, yw, yx, yy, yz, yA, yB, yC, yD, yE, yF, yG, yH, yI, yJ, yK, yL, yM, yN, yO, yP, yQ, yR, yS, yT, yU, yV, yW, yX, yY, yZ, y0, y4, y5, y6, y7, y8, y9, Yb, Yc, Yd, Ye, Yg, Yh, Yi, Yj, Yk, Yl, Ym, Yn, Yo, String.reduceEq, if_true, if_false, reduceIte, ↓reduceIte, Yp, Yq, Yr, Ys, Yt, Yu, Yv, Yw, Yx, Yy, Yz, YA, YB, YC, YD, YE, YF, YG, YH, YI, YJ, YK, YL, YM, YN, YO, YP, YQ, YR, YS, YT, YU, YV, YW, Option.map_some, Option.bind_some, List.map_cons, List.map_nil, List.getElem?_cons_zero, List.getElem?_cons_succ, decide_eq_true_eq, List.length_cons, List.length_nil, Nat.reduceAdd, ne_eq, true_and, and_true, not_false_eq_true, not_true_eq_false, Int.reduceEq, Int.reduceNeg, Int.reduceAdd, Int.reduceLT, Int.reduceLE, reduceCtorEq, or_false, false_or, or_true, decide_true, decide_false, Bool.not_true, Bool.not_false, Bool.false_eq_true, Bool.true_eq_false, YX, YY, YZ, Y0, Y1, Y2, Y3, Y4]
    refine whole_ok hC ?_
    simp only [ya, yb, yc, yd, ye, yf, yg, yh, yi, yj, yk, yl, ym, yn, yo, yp, yq, yr, yt, yu, yv, yw, yx, yy, yz, yA, yB, yC, yD, yE, yF, yG, yH, yI, yJ, yK, yL, yM, yN, yO, yP, yQ, yR, yS, yT, yU, yV, yW, yX, yY, yZ, y0, y4, y5, y6, y7, y8, y9, Yb, Yc, Yd, Ye, Yg, Yh, Yi, Yj, Yk, Yl, Ym, Yn, Yo, String.reduceEq, if_true, if_false, reduceIte, ↓reduceIte, Yp, Yq, Yr, Ys, Yt, Yu, Yv, Yw, Yx, Yy, Yz, YA, YB, YC, YD, YE, YF, YG, YH, YI, YJ, YK, YL, YM, YN, YO, YP, YQ, YR, YS, YT, YU, YV, YW, Option.map_some, Option.bind_some, List.map_cons, List.map_nil, List.getElem?_cons_zero, List.getElem?_cons_succ, decide_eq_true_eq, List.length_cons, List.length_nil, Nat.reduceAdd, ne_eq, true_and, and_true, not_false_eq_true, not_true_eq_false, Int.reduceEq, Int.reduceNeg, Int.reduceAdd, Int.reduceLT, Int.reduceLE, reduceCtorEq, or_false, false_or, or_true, decide_true, decide_false, Bool.not_true, Bool.not_false, Bool.false_eq_true, Bool.true_eq_false, YX, YY, YZ, Y0, Y1, Y2, Y3, Y4]
    simp only [m1, Yo, a, if_true]
    simp only [ya, yb, yc, yd, ye, yf, yg, yh, yi, yj, yk, yl, ym, yn, yo, yp, yq, yr, yt, yu, yv, yw, yx, yy, yz, yA, yB, yC, yD, yE, yF, yG, yH, yI, yJ, yK, yL, yM, yN, yO, yP, yQ, yR, yS, yT, yU, yV, yW, yX, yY, yZ, y0, y4, y5, y6, y7, y8, y9, Yb, Yc, Yd, Ye, Yg, Yh, Yi, Yj, Yk, Yl, Ym, Yn, Yo, String.reduceEq, if_true, if_false, reduceIte, ↓reduceIte, Yp, Yq, Yr, Ys, Yt, Yu, Yv, Yw, Yx, Yy, Yz, YA, YB, YC, YD, YE, YF, YG, YH, YI, YJ, YK, YL, YM, YN, YO, YP, YQ, YR, YS, YT, YU, YV, YW, Option.map_some, Option.bind_some, List.map_cons, List.map_nil, List.getElem?_cons_zero, List.getElem?_cons_succ, decide_eq_true_eq, List.length_cons, List.length_nil, Nat.reduceAdd, ne_eq, true_and, and_true, not_false_eq_true, not_true_eq_false, Int.reduceEq, Int.reduceNeg, Int.reduceAdd, Int.reduceLT, Int.reduceLE, reduceCtorEq, or_false, false_or, or_true, decide_true, decide_false, Bool.not_true, Bool.not_false, Bool.false_eq_true, Bool.true_eq_false, YX, YY, YZ, Y0, Y1, Y2, Y3, Y4]
    simp only [b, decide_true, Bool.not_true, if_true]
    refine kn _ _ ?_
    rw [ya]
    exact hK' _ _ ⟨rfl, fun y hy => hx y (List.mem_cons_of_mem _ hy), m1, m2⟩
  · rintro _ m' σ' ⟨rfl, _, m1, m2⟩
    refine kn _ _ ?_
    refine nx fun k kn kr _ _ => ?_
    simp only [ya, yb, yc, yd, ye, yf, yg, yh, yi, yj, yk, yl, ym, yn, yo, yp, yq, yr, yt, yu, yv, yw, yx, yy, yz, yA, yB, yC, yD, yE, yF, yG, yH, yI, yJ, yK, yL, yM, yN, yO, yP, yQ, yR, yS, yT, yU, yV, yW, yX, yY, yZ, y0, y4, y5, y6, y7, y8, y9, Yb, Yc, Yd, Ye, Yg, Yh, Yi, Yj, Yk, Yl, Ym, Yn, Yo, String.reduceEq, if_true, if_false, reduceIte, ↓reduceIte, Yp, Yq, Yr, Ys, Yt, Yu, Yv, Yw, Yx, Yy, Yz, YA, YB, YC, YD, YE, YF, YG, YH, YI, YJ, YK, YL, YM, YN, YO, YP, YQ, YR, YS, YT, YU, YV, YW, Option.map_some, Option.bind_some, List.map_cons, List.map_nil, List.getElem?_cons_zero, List.getElem?_cons_succ, decide_eq_true_eq, List.length_cons, List.length_nil, Nat.reduceAdd, ne_eq, true_and, and_true, not_false_eq_true, not_true_eq_false, Int.reduceEq, Int.reduceNeg, Int.reduceAdd, Int.reduceLT, Int.reduceLE, reduceCtorEq, or_false, false_or, or_true, decide_true, decide_false, Bool.not_true, Bool.not_false, Bool.false_eq_true, Bool.true_eq_false, YX, YY, YZ, Y0, Y1, Y2, Y3, Y4]
    simp only [m2, Yo]
    simp only [ya, yb, yc, yd, ye, yf, yg, yh, yi, yj, yk, yl, ym, yn, yo, yp, yq, yr, yt, yu, yv, yw, yx, yy, yz, yA, yB, yC, yD, yE, yF, yG, yH, yI, yJ, yK, yL, yM, yN, yO, yP, yQ, yR, yS, yT, yU, yV, yW, yX, yY, yZ, y0, y4, y5, y6, y7, y8, y9, Yb, Yc, Yd, Ye, Yg, Yh, Yi, Yj, Yk, Yl, Ym, Yn, Yo, String.reduceEq, if_true, if_false, reduceIte, ↓reduceIte, Yp, Yq, Yr, Ys, Yt, Yu, Yv, Yw, Yx, Yy, Yz, YA, YB, YC, YD, YE, YF, YG, YH, YI, YJ, YK, YL, YM, YN, YO, YP, YQ, YR, YS, YT, YU, YV, YW, Option.map_some, Option.bind_some, List.map_cons, List.map_nil, List.getElem?_cons_zero, List.getElem?_cons_succ, decide_eq_true_eq, List.length_cons, List.length_nil, Nat.reduceAdd, ne_eq, true_and, and_true, not_false_eq_true, not_true_eq_false, Int.reduceEq, Int.reduceNeg, Int.reduceAdd, Int.reduceLT, Int.reduceLE, reduceCtorEq, or_false, false_or, or_true, decide_true, decide_false, Bool.not_true, Bool.not_false, Bool.false_eq_true, Bool.true_eq_false, YX, YY, YZ, Y0, Y1, Y2, Y3, Y4]
    simp only [h5, if_false]
    refine kn _ _ ?_
    refine nx fun k kn kr _ _ => ?_
    simp only [ya, yb, yc, yd, ye, yf, yg, yh, yi, yj, yk, yl, ym, yn, yo, yp, yq, yr, yt, yu, yv, yw, yx, yy, yz, yA, yB, yC, yD, yE, yF, yG, yH, yI, yJ, yK, yL, yM, yN, yO, yP, yQ, yR, yS, yT, yU, yV, yW, yX, yY, yZ, y0, y4, y5, y6, y7, y8, y9, Yb, Yc, Yd, Ye, Yg, Yh, Yi, Yj, Yk, Yl, Ym, Yn, Yo, String.reduceEq, if_true, if_false, reduceIte, ↓reduceIte, Yp, Yq, Yr, Ys, Yt, Yu, Yv, Yw, Yx, Yy, Yz, YA, YB, YC, YD, YE, YF, YG, YH, YI, YJ, YK, YL, YM, YN, YO, YP, YQ, YR, YS, YT, YU, YV, YW, Option.map_some, Option.bind_some, List.map_cons, List.map_nil, List.getElem?_cons_zero, List.getElem?_cons_succ, decide_eq_true_eq, List.length_cons, List.length_nil, Nat.reduceAdd, ne_eq, true_and, and_true, not_false_eq_true, not_true_eq_false, Int.reduceEq, Int.reduceNeg, Int.reduceAdd, Int.reduceLT, Int.reduceLE, reduceCtorEq, or_false, false_or, or_true, decide_true, decide_false, Bool.not_true, Bool.not_false, Bool.false_eq_true, Bool.true_eq_false, YX, YY, YZ, Y0, Y1, Y2, Y3, Y4]
    simp only [m2, Yo]
    simp only [ya, yb, yc, yd, ye, yf, yg, yh, yi, yj, yk, yl, ym, yn, yo, yp, yq, yr, yt, yu, yv, yw, yx, yy, yz, yA, yB, yC, yD, yE, yF, yG, yH, yI, yJ, yK, yL, yM, yN, yO, yP, yQ, yR, yS, yT, yU, yV, yW, yX, yY, yZ, y0, y4, y5, y6, y7, y8, y9, Yb, Yc, Yd, Ye, Yg, Yh, Yi, Yj, Yk, Yl, Ym, Yn, Yo, String.reduceEq, if_true, if_false, reduceIte, ↓reduceIte, Yp, Yq, Yr, Ys, Yt, Yu, Yv, Yw, Yx, Yy, Yz, YA, YB, YC, YD, YE, YF, YG, YH, YI, YJ, YK, YL, YM, YN, YO, YP, YQ, YR, YS, YT, YU, YV, YW, Option.map_some, Option.bind_some, List.map_cons, List.map_nil, List.getElem?_cons_zero, List.getElem?_cons_succ, decide_eq_true_eq, List.length_cons, List.length_nil, Nat.reduceAdd, ne_eq, true_and, and_true, not_false_eq_true, not_true_eq_false, Int.reduceEq, Int.reduceNeg, Int.reduceAdd, Int.reduceLT, Int.reduceLE, reduceCtorEq, or_false, false_or, or_true, decide_true, decide_false, Bool.not_true, Bool.not_false, Bool.false_eq_true, Bool.true_eq_false, YX, YY, YZ, Y0, Y1, Y2, Y3, Y4]
    exact kr _ _ _ h
  · intro x hx
    simp only [List.mem_cons, List.not_mem_nil, or_false] at hx
    rcases hx with rfl | rfl
    · exact ⟨h1, h2⟩
    · exact ⟨h3, h4⟩

theorem need_ok {σ : H} {n i : Int} {ps rows : List V} {K X} (h1 : 0 ≤ i) (h2 : i < n) (h : K (.v .none) σ) : C "Web.need_point" [.v (webV n ps rows), iv i] σ K X := by
  refine run_of hC (d := f_Web_need_point) (by repeat (first | exact List.Mem.head _ | apply List.Mem.tail)) rfl ?_
  unfold f_Web_need_point
  dsimp only
  refine nx fun k kn kr _ _ => ?_
  simp only [ya, yb, yc, yd, ye, yf, yg, yh, yi, yj, yk, yl, ym, yn, yo, yp, yq, yr, yt, yu, yv, yw, yx, yy, yz, yA, yB, yC, yD, yE, yF, yG, yH, yI, yJ, yK, yL, yM, yN, yO, yP, yQ, yR, yS, yT, yU, yV, yW, yX, yY, yZ, y0, y4, y5, y6, y7, y8, y9, Yb, Yc, Yd, Ye, Yg, Yh, Yi, Yj, Yk, Yl, Ym, Yn, Yo, String.reduceEq, if_true, if_false, reduceIte, ↓reduceIte, Yp, Yq, Yr, Ys, Yt, Yu, Yv, Yw, Yx, Yy, Yz, YA, YB, YC, YD, YE, YF, YG, YH, YI, YJ, YK, YL, YM, YN, YO, YP, YQ, YR, YS, YT, YU, YV, YW, Option.map_some, Option.bind_some, List.map_cons, List.map_nil, List.getElem?_cons_zero, List.getElem?_cons_succ, decide_eq_true_eq, List.length_cons, List.length_nil, Nat.reduceAdd, ne_eq, true_and, and_true, not_false_eq_true, not_true_eq_false, Int.reduceEq, Int.reduceNeg, Int.reduceAdd, Int.reduceLT, Int.reduceLE, reduceCtorEq, or_false, false_or, or_true, decide_true, decide_false, Bool.not_true, Bool.not_false, Bool.false_eq_true, Bool.true_eq_false, YX, YY, YZ, Y0, Y1, Y2, Y3, Y4]
  refine whole_ok hC ?_
  simp only [ya, yb, yc, yd, ye, yf, yg, yh, yi, yj, yk, yl, ym, yn, yo, yp, yq, yr, yt, yu, yv, yw, yx, yy, yz, yA, yB, yC, yD, yE, yF, yG, yH, yI, yJ, yK, yL, yM, yN, yO, yP, yQ, yR, yS, yT, yU, yV, yW, yX, yY, yZ, y0, y4, y5, y6, y7, y8, y9, Yb, Yc, Yd, Ye, Yg, Yh, Yi, Yj, Yk, Yl, Ym, Yn, Yo, String.reduceEq, if_true, if_false, reduceIte, ↓reduceIte, Yp, Yq, Yr, Ys, Yt, Yu, Yv, Yw, Yx, Yy, Yz, YA, YB, YC, YD, YE, YF, YG, YH, YI, YJ, YK, YL, YM, YN, YO, YP, YQ, YR, YS, YT, YU, YV, YW, Option.map_some, Option.bind_some, List.map_cons, List.map_nil, List.getElem?_cons_zero, List.getElem?_cons_succ, decide_eq_true_eq, List.length_cons, List.length_nil, Nat.reduceAdd, ne_eq, true_and, and_true, not_false_eq_true, not_true_eq_false, Int.reduceEq, Int.reduceNeg, Int.reduceAdd, Int.reduceLT, Int.reduceLE, reduceCtorEq, or_false, false_or, or_true, decide_true, decide_false, Bool.not_true, Bool.not_false, Bool.false_eq_true, Bool.true_eq_false, YX, YY, YZ, Y0, Y1, Y2, Y3, Y4]
  simp only [web_many, Yo, h1, if_true]
  simp only [ya, yb, yc, yd, ye, yf, yg, yh, yi, yj, yk, yl, ym, yn, yo, yp, yq, yr, yt, yu, yv, yw, yx, yy, yz, yA, yB, yC, yD, yE, yF, yG, yH, yI, yJ, yK, yL, yM, yN, yO, yP, yQ, yR, yS, yT, yU, yV, yW, yX, yY, yZ, y0, y4, y5, y6, y7, y8, y9, Yb, Yc, Yd, Ye, Yg, Yh, Yi, Yj, Yk, Yl, Ym, Yn, Yo, String.reduceEq, if_true, if_false, reduceIte, ↓reduceIte, Yp, Yq, Yr, Ys, Yt, Yu, Yv, Yw, Yx, Yy, Yz, YA, YB, YC, YD, YE, YF, YG, YH, YI, YJ, YK, YL, YM, YN, YO, YP, YQ, YR, YS, YT, YU, YV, YW, Option.map_some, Option.bind_some, List.map_cons, List.map_nil, List.getElem?_cons_zero, List.getElem?_cons_succ, decide_eq_true_eq, List.length_cons, List.length_nil, Nat.reduceAdd, ne_eq, true_and, and_true, not_false_eq_true, not_true_eq_false, Int.reduceEq, Int.reduceNeg, Int.reduceAdd, Int.reduceLT, Int.reduceLE, reduceCtorEq, or_false, false_or, or_true, decide_true, decide_false, Bool.not_true, Bool.not_false, Bool.false_eq_true, Bool.true_eq_false, YX, YY, YZ, Y0, Y1, Y2, Y3, Y4]
  simp only [h2, decide_true, Bool.not_true, if_true]
  exact kn _ _ h

noncomputable def nbrOf (i : Int) : List (Int × Int) → List Int
  | [] => []
  | p :: r => (if p.1 = i then [p.2] else []) ++ (if p.2 = i then [p.1] else []) ++ nbrOf i r
omit hC in
theorem nbrOf_0 (i) : nbrOf i [] = [] := rfl
omit hC in
theorem nbrOf_1 (i p r) : nbrOf i (p :: r) = (if p.1 = i then [p.2] else []) ++ (if p.2 = i then [p.1] else []) ++ nbrOf i r := rfl
omit hC in
theorem nbr_app (i : Int) : ∀ l r : List (Int × Int), nbrOf i (l ++ r) = nbrOf i l ++ nbrOf i r
  | [], _ => rfl
  | p :: l, r => by simp only [List.cons_append, nbrOf_0, nbrOf_1, nbr_app i l r, List.append_assoc]
omit hC in
theorem nbr_len (i : Int) : ∀ ts : List (Int × Int), (nbrOf i ts).length ≤ 2 * ts.length
  | [] => Nat.le_refl _
  | p :: ts => by
    have := nbr_len i ts
    simp only [nbrOf_0, nbrOf_1, List.length_append, List.length_cons]
    by_cases a : p.1 = i <;> by_cases b : p.2 = i <;> simp [a, b] <;> omega

omit hC in
theorem app_at {σ₀ : H} {xs : List V} {x : V} {K} (hl : xs.length < 2 ^ 19) (h : K (.v .none) (σ₀ ++ [.list (xs ++ [x])])) : lstPut (σ₀ ++ [.list xs]) (.ref σ₀.length) (fun xs => some (xs ++ [x], .none)) K := by
  refine put_at (List.getElem?_concat_length) rfl (by simp; omega) ?_
  rw [List.set_append_right _ _ (Nat.le_refl _)]
  simpa using h
omit hC in
theorem isL_at {σ₀ : H} {xs : List V} : isLst (σ₀ ++ [.list xs]) (.ref σ₀.length) = true := isL_of List.getElem?_concat_length rfl

theorem neighbours_ok {σ : H} {ties : A} {ts : List (Int × Int)} {i : Int} {K X} (ht : listV σ ties = some (ts.map tV)) (hl : ts.length < 1000) (h64 : (nbrOf i ts).length < 64) (h : ∀ σ', σ <+: σ' → K (.v (.list (vsort ((nbrOf i ts).map V.int)))) σ') : C "neighbours" [ties, iv i] σ K X := by
  refine run_of hC (d := f_neighbours) (by repeat (first | exact List.Mem.head _ | apply List.Mem.tail)) rfl ?_
  unfold f_neighbours
  dsimp only
  refine nx fun k kn kr _ _ => ?_
  simp only [ya, yb, yc, yd, ye, yf, yg, yh, yi, yj, yk, yl, ym, yn, yo, yp, yq, yr, yt, yu, yv, yw, yx, yy, yz, yA, yB, yC, yD, yE, yF, yG, yH, yI, yJ, yK, yL, yM, yN, yO, yP, yQ, yR, yS, yT, yU, yV, yW, yX, yY, yZ, y0, y4, y5, y6, y7, y8, y9, Yb, Yc, Yd, Ye, Yg, Yh, Yi, Yj, Yk, Yl, Ym, Yn, Yo, String.reduceEq, if_true, if_false, reduceIte, ↓reduceIte, Yp, Yq, Yr, Ys, Yt, Yu, Yv, Yw, Yx, Yy, Yz, YA, YB, YC, YD, YE, YF, YG, YH, YI, YJ, YK, YL, YM, YN, YO, YP, YQ, YR, YS, YT, YU, YV, YW, Option.map_some, Option.bind_some, List.map_cons, List.map_nil, List.getElem?_cons_zero, List.getElem?_cons_succ, decide_eq_true_eq, List.length_cons, List.length_nil, Nat.reduceAdd, ne_eq, true_and, and_true, not_false_eq_true, not_true_eq_false, Int.reduceEq, Int.reduceNeg, Int.reduceAdd, Int.reduceLT, Int.reduceLE, reduceCtorEq, or_false, false_or, or_true, decide_true, decide_false, Bool.not_true, Bool.not_false, Bool.false_eq_true, Bool.true_eq_false, YX, YY, YZ, Y0, Y1, Y2, Y3, Y4]
  simp only [small, List.length_nil]
  refine ⟨by decide, kn _ _ ?_⟩
  refine nx fun k kn kr _ _ => ?_
  simp only [ya, yb, yc, yd, ye, yf, yg, yh, yi, yj, yk, yl, ym, yn, yo, yp, yq, yr, yt, yu, yv, yw, yx, yy, yz, yA, yB, yC, yD, yE, yF, yG, yH, yI, yJ, yK, yL, yM, yN, yO, yP, yQ, yR, yS, yT, yU, yV, yW, yX, yY, yZ, y0, y4, y5, y6, y7, y8, y9, Yb, Yc, Yd, Ye, Yg, Yh, Yi, Yj, Yk, Yl, Ym, Yn, Yo, String.reduceEq, if_true, if_false, reduceIte, ↓reduceIte, Yp, Yq, Yr, Ys, Yt, Yu, Yv, Yw, Yx, Yy, Yz, YA, YB, YC, YD, YE, YF, YG, YH, YI, YJ, YK, YL, YM, YN, YO, YP, YQ, YR, YS, YT, YU, YV, YW, Option.map_some, Option.bind_some, List.map_cons, List.map_nil, List.getElem?_cons_zero, List.getElem?_cons_succ, decide_eq_true_eq, List.length_cons, List.length_nil, Nat.reduceAdd, ne_eq, true_and, and_true, not_false_eq_true, not_true_eq_false, Int.reduceEq, Int.reduceNeg, Int.reduceAdd, Int.reduceLT, Int.reduceLE, reduceCtorEq, or_false, false_or, or_true, decide_true, decide_false, Bool.not_true, Bool.not_false, Bool.false_eq_true, Bool.true_eq_false, YX, YY, YZ, Y0, Y1, Y2, Y3, Y4]
  have hti : ∀ xs : List V, items (σ ++ [.list xs]) ties = some ((ts.map tV).map A.v) := fun xs => items_of_list (listV_mono (pre_new _ _) ht)
  rw [hti]
  simp only [ya, yb, yc, yd, ye, yf, yg, yh, yi, yj, yk, yl, ym, yn, yo, yp, yq, yr, yt, yu, yv, yw, yx, yy, yz, yA, yB, yC, yD, yE, yF, yG, yH, yI, yJ, yK, yL, yM, yN, yO, yP, yQ, yR, yS, yT, yU, yV, yW, yX, yY, yZ, y0, y4, y5, y6, y7, y8, y9, Yb, Yc, Yd, Ye, Yg, Yh, Yi, Yj, Yk, Yl, Ym, Yn, Yo, String.reduceEq, if_true, if_false, reduceIte, ↓reduceIte, Yp, Yq, Yr, Ys, Yt, Yu, Yv, Yw, Yx, Yy, Yz, YA, YB, YC, YD, YE, YF, YG, YH, YI, YJ, YK, YL, YM, YN, YO, YP, YQ, YR, YS, YT, YU, YV, YW, Option.map_some, Option.bind_some, List.map_cons, List.map_nil, List.getElem?_cons_zero, List.getElem?_cons_succ, decide_eq_true_eq, List.length_cons, List.length_nil, Nat.reduceAdd, ne_eq, true_and, and_true, not_false_eq_true, not_true_eq_false, Int.reduceEq, Int.reduceNeg, Int.reduceAdd, Int.reduceLT, Int.reduceLE, reduceCtorEq, or_false, false_or, or_true, decide_true, decide_false, Bool.not_true, Bool.not_false, Bool.false_eq_true, Bool.true_eq_false, YX, YY, YZ, Y0, Y1, Y2, Y3, Y4]
  rw [List.map_map]
  refine forLoop_items (A.v ∘ tV) (fun dn r m' σ' => dn ++ r = ts ∧ σ' = σ ++ [.list ((nbrOf i dn).map V.int)] ∧ m' "found" = some (.ref σ.length) ∧ m' "point" = some (iv i)) ?_ ?_ ?_ _ [] _ _ ⟨rfl, rfl, rfl, rfl⟩
  · rintro dn r m' σ' ⟨_, rfl, _⟩
    cases ties with
    | v x => exact True.intro
    | ref k => exact (hti _).trans (by rw [List.map_map])
    | inst _ _ => exact True.intro
  · rintro dn p r m' σ' K' ⟨hd, rfl, m1, m2⟩ hK' _ _ _
    have hnl := nbr_len i dn
    have hdl : dn.length < 1000 := by have := congrArg List.length hd; simp at this; omega
    have hd' : dn ++ [p] ++ r = ts := by simpa using hd
    have fin : ∀ m'' σ'', σ'' = σ ++ [.list ((nbrOf i (dn ++ [p])).map V.int)] → m'' "found" = some (.ref σ.length) → m'' "point" = some (iv i) → K' .next m'' σ'' := fun m'' σ'' e a b => hK' _ _ ⟨hd', e, a, b⟩
    simp only [bindT, Yo, Function.comp_apply, tV]
    have two : ∀ (xs : List Int) (m'' : Loc), xs = nbrOf i dn ++ (if p.1 = i then [p.2] else []) → m'' "found" = some (.ref σ.length) → m'' "point" = some (iv i) → m'' "tie" = some (.v (.tup [.int p.1, .int p.2])) →
        xSs C [.ite (.cmp (.item (.x "tie") (.c (.int 1))) .eq (.x "point")) [.ex (.lm (.x "found") .append [.item (.x "tie") (.c (.int 0))])] []] m'' (σ ++ [.list (xs.map V.int)]) K' (fun c _ σ => X c σ) := by
      intro xs m'' hxs a b c
      have hxl : xs.length < 2 ^ 18 := by rw [hxs]; split <;> simp <;> omega
      refine nx fun k kn kr _ _ => ?_
      simp only [ya, yb, yc, yd, ye, yf, yg, yh, yi, yj, yk, yl, ym, yn, yo, yp, yq, yr, yt, yu, yv, yw, yx, yy, yz, yA, yB, yC, yD, yE, yF, yG, yH, yI, yJ, yK, yL, yM, yN, yO, yP, yQ, yR, yS, yT, yU, yV, yW, yX, yY, yZ, y0, y4, y5, y6, y7, y8, y9, Yb, Yc, Yd, Ye, Yg, Yh, Yi, Yj, Yk, Yl, Ym, Yn, Yo, String.reduceEq, if_true, if_false, reduceIte, ↓reduceIte, Yp, Yq, Yr, Ys, Yt, Yu, Yv, Yw, Yx, Yy, Yz, YA, YB, YC, YD, YE, YF, YG, YH, YI, YJ, YK, YL, YM, YN, YO, YP, YQ, YR, YS, YT, YU, YV, YW, Option.map_some, Option.bind_some, List.map_cons, List.map_nil, List.getElem?_cons_zero, List.getElem?_cons_succ, decide_eq_true_eq, List.length_cons, List.length_nil, Nat.reduceAdd, ne_eq, true_and, and_true, not_false_eq_true, not_true_eq_false, Int.reduceEq, Int.reduceNeg, Int.reduceAdd, Int.reduceLT, Int.reduceLE, reduceCtorEq, or_false, false_or, or_true, decide_true, decide_false, Bool.not_true, Bool.not_false, Bool.false_eq_true, Bool.true_eq_false, YX, YY, YZ, Y0, Y1, Y2, Y3, Y4]
      simp only [a, b, c, Yo]
      simp only [ya, yb, yc, yd, ye, yf, yg, yh, yi, yj, yk, yl, ym, yn, yo, yp, yq, yr, yt, yu, yv, yw, yx, yy, yz, yA, yB, yC, yD, yE, yF, yG, yH, yI, yJ, yK, yL, yM, yN, yO, yP, yQ, yR, yS, yT, yU, yV, yW, yX, yY, yZ, y0, y4, y5, y6, y7, y8, y9, Yb, Yc, Yd, Ye, Yg, Yh, Yi, Yj, Yk, Yl, Ym, Yn, Yo, String.reduceEq, if_true, if_false, reduceIte, ↓reduceIte, Yp, Yq, Yr, Ys, Yt, Yu, Yv, Yw, Yx, Yy, Yz, YA, YB, YC, YD, YE, YF, YG, YH, YI, YJ, YK, YL, YM, YN, YO, YP, YQ, YR, YS, YT, YU, YV, YW, Option.map_some, Option.bind_some, List.map_cons, List.map_nil, List.getElem?_cons_zero, List.getElem?_cons_succ, decide_eq_true_eq, List.length_cons, List.length_nil, Nat.reduceAdd, ne_eq, true_and, and_true, not_false_eq_true, not_true_eq_false, Int.reduceEq, Int.reduceNeg, Int.reduceAdd, Int.reduceLT, Int.reduceLE, reduceCtorEq, or_false, false_or, or_true, decide_true, decide_false, Bool.not_true, Bool.not_false, Bool.false_eq_true, Bool.true_eq_false, YX, YY, YZ, Y0, Y1, Y2, Y3, Y4]
      by_cases q : p.2 = i
      · rw [if_pos q]
        refine nx fun k kn' kr _ _ => ?_
        simp only [ya, yb, yc, yd, ye, yf, yg, yh, yi, yj, yk, yl, ym, yn, yo, yp, yq, yr, yt, yu, yv, yw, yx, yy, yz, yA, yB, yC, yD, yE, yF, yG, yH, yI, yJ, yK, yL, yM, yN, yO, yP, yQ, yR, yS, yT, yU, yV, yW, yX, yY, yZ, y0, y4, y5, y6, y7, y8, y9, Yb, Yc, Yd, Ye, Yg, Yh, Yi, Yj, Yk, Yl, Ym, Yn, Yo, String.reduceEq, if_true, if_false, reduceIte, ↓reduceIte, Yp, Yq, Yr, Ys, Yt, Yu, Yv, Yw, Yx, Yy, Yz, YA, YB, YC, YD, YE, YF, YG, YH, YI, YJ, YK, YL, YM, YN, YO, YP, YQ, YR, YS, YT, YU, YV, YW, Option.map_some, Option.bind_some, List.map_cons, List.map_nil, List.getElem?_cons_zero, List.getElem?_cons_succ, decide_eq_true_eq, List.length_cons, List.length_nil, Nat.reduceAdd, ne_eq, true_and, and_true, not_false_eq_true, not_true_eq_false, Int.reduceEq, Int.reduceNeg, Int.reduceAdd, Int.reduceLT, Int.reduceLE, reduceCtorEq, or_false, false_or, or_true, decide_true, decide_false, Bool.not_true, Bool.not_false, Bool.false_eq_true, Bool.true_eq_false, YX, YY, YZ, Y0, Y1, Y2, Y3, Y4]
        simp only [a, c, Yo]
        simp only [ya, yb, yc, yd, ye, yf, yg, yh, yi, yj, yk, yl, ym, yn, yo, yp, yq, yr, yt, yu, yv, yw, yx, yy, yz, yA, yB, yC, yD, yE, yF, yG, yH, yI, yJ, yK, yL, yM, yN, yO, yP, yQ, yR, yS, yT, yU, yV, yW, yX, yY, yZ, y0, y4, y5, y6, y7, y8, y9, Yb, Yc, Yd, Ye, Yg, Yh, Yi, Yj, Yk, Yl, Ym, Yn, Yo, String.reduceEq, if_true, if_false, reduceIte, ↓reduceIte, Yp, Yq, Yr, Ys, Yt, Yu, Yv, Yw, Yx, Yy, Yz, YA, YB, YC, YD, YE, YF, YG, YH, YI, YJ, YK, YL, YM, YN, YO, YP, YQ, YR, YS, YT, YU, YV, YW, Option.map_some, Option.bind_some, List.map_cons, List.map_nil, List.getElem?_cons_zero, List.getElem?_cons_succ, decide_eq_true_eq, List.length_cons, List.length_nil, Nat.reduceAdd, ne_eq, true_and, and_true, not_false_eq_true, not_true_eq_false, Int.reduceEq, Int.reduceNeg, Int.reduceAdd, Int.reduceLT, Int.reduceLE, reduceCtorEq, or_false, false_or, or_true, decide_true, decide_false, Bool.not_true, Bool.not_false, Bool.false_eq_true, Bool.true_eq_false, YX, YY, YZ, Y0, Y1, Y2, Y3, Y4]
        refine ⟨isL_at, app_at (by simp; omega) (kn' _ _ (kn _ _ (fin _ _ ?_ a b)))⟩
        rw [nbr_app, hxs]; simp [nbrOf_0, nbrOf_1, q]
      · rw [if_neg q]
        refine kn _ _ (fin _ _ ?_ a b)
        rw [nbr_app, hxs]; simp [nbrOf_0, nbrOf_1, q]
    refine nx fun k kn kr _ _ => ?_
    simp only [ya, yb, yc, yd, ye, yf, yg, yh, yi, yj, yk, yl, ym, yn, yo, yp, yq, yr, yt, yu, yv, yw, yx, yy, yz, yA, yB, yC, yD, yE, yF, yG, yH, yI, yJ, yK, yL, yM, yN, yO, yP, yQ, yR, yS, yT, yU, yV, yW, yX, yY, yZ, y0, y4, y5, y6, y7, y8, y9, Yb, Yc, Yd, Ye, Yg, Yh, Yi, Yj, Yk, Yl, Ym, Yn, Yo, String.reduceEq, if_true, if_false, reduceIte, ↓reduceIte, Yp, Yq, Yr, Ys, Yt, Yu, Yv, Yw, Yx, Yy, Yz, YA, YB, YC, YD, YE, YF, YG, YH, YI, YJ, YK, YL, YM, YN, YO, YP, YQ, YR, YS, YT, YU, YV, YW, Option.map_some, Option.bind_some, List.map_cons, List.map_nil, List.getElem?_cons_zero, List.getElem?_cons_succ, decide_eq_true_eq, List.length_cons, List.length_nil, Nat.reduceAdd, ne_eq, true_and, and_true, not_false_eq_true, not_true_eq_false, Int.reduceEq, Int.reduceNeg, Int.reduceAdd, Int.reduceLT, Int.reduceLE, reduceCtorEq, or_false, false_or, or_true, decide_true, decide_false, Bool.not_true, Bool.not_false, Bool.false_eq_true, Bool.true_eq_false, YX, YY, YZ, Y0, Y1, Y2, Y3, Y4]
    simp only [m1, m2, Yo]
    simp only [ya, yb, yc, yd, ye, yf, yg, yh, yi, yj, yk, yl, ym, yn, yo, yp, yq, yr, yt, yu, yv, yw, yx, yy, yz, yA, yB, yC, yD, yE, yF, yG, yH, yI, yJ, yK, yL, yM, yN, yO, yP, yQ, yR, yS, yT, yU, yV, yW, yX, yY, yZ, y0, y4, y5, y6, y7, y8, y9, Yb, Yc, Yd, Ye, Yg, Yh, Yi, Yj, Yk, Yl, Ym, Yn, Yo, String.reduceEq, if_true, if_false, reduceIte, ↓reduceIte, Yp, Yq, Yr, Ys, Yt, Yu, Yv, Yw, Yx, Yy, Yz, YA, YB, YC, YD, YE, YF, YG, YH, YI, YJ, YK, YL, YM, YN, YO, YP, YQ, YR, YS, YT, YU, YV, YW, Option.map_some, Option.bind_some, List.map_cons, List.map_nil, List.getElem?_cons_zero, List.getElem?_cons_succ, decide_eq_true_eq, List.length_cons, List.length_nil, Nat.reduceAdd, ne_eq, true_and, and_true, not_false_eq_true, not_true_eq_false, Int.reduceEq, Int.reduceNeg, Int.reduceAdd, Int.reduceLT, Int.reduceLE, reduceCtorEq, or_false, false_or, or_true, decide_true, decide_false, Bool.not_true, Bool.not_false, Bool.false_eq_true, Bool.true_eq_false, YX, YY, YZ, Y0, Y1, Y2, Y3, Y4]
    by_cases q : p.1 = i
    · rw [if_pos q]
      refine nx fun k kn' kr _ _ => ?_
      simp only [ya, yb, yc, yd, ye, yf, yg, yh, yi, yj, yk, yl, ym, yn, yo, yp, yq, yr, yt, yu, yv, yw, yx, yy, yz, yA, yB, yC, yD, yE, yF, yG, yH, yI, yJ, yK, yL, yM, yN, yO, yP, yQ, yR, yS, yT, yU, yV, yW, yX, yY, yZ, y0, y4, y5, y6, y7, y8, y9, Yb, Yc, Yd, Ye, Yg, Yh, Yi, Yj, Yk, Yl, Ym, Yn, Yo, String.reduceEq, if_true, if_false, reduceIte, ↓reduceIte, Yp, Yq, Yr, Ys, Yt, Yu, Yv, Yw, Yx, Yy, Yz, YA, YB, YC, YD, YE, YF, YG, YH, YI, YJ, YK, YL, YM, YN, YO, YP, YQ, YR, YS, YT, YU, YV, YW, Option.map_some, Option.bind_some, List.map_cons, List.map_nil, List.getElem?_cons_zero, List.getElem?_cons_succ, decide_eq_true_eq, List.length_cons, List.length_nil, Nat.reduceAdd, ne_eq, true_and, and_true, not_false_eq_true, not_true_eq_false, Int.reduceEq, Int.reduceNeg, Int.reduceAdd, Int.reduceLT, Int.reduceLE, reduceCtorEq, or_false, false_or, or_true, decide_true, decide_false, Bool.not_true, Bool.not_false, Bool.false_eq_true, Bool.true_eq_false, YX, YY, YZ, Y0, Y1, Y2, Y3, Y4]
      simp only [m1, Yo]
      refine ⟨isL_at, app_at (by simp; omega) (kn' _ _ (kn _ _ ?_))⟩
      have e1 : (nbrOf i dn).map V.int ++ [V.int p.2] = (nbrOf i dn ++ [p.2]).map V.int := by simp
      rw [e1]
      exact two _ _ (by rw [if_pos q]) m1 m2 rfl
    · rw [if_neg q]
      refine kn _ _ (two _ _ (by rw [if_neg q, List.append_nil]) m1 m2 rfl)
  · rintro dn m' σ' ⟨hd, rfl, m1, m2⟩
    rw [List.append_nil] at hd
    subst hd
    refine kn _ _ ?_
    refine nx fun k kn kr _ _ => ?_
    simp only [ya, yb, yc, yd, ye, yf, yg, yh, yi, yj, yk, yl, ym, yn, yo, yp, yq, yr, yt, yu, yv, yw, yx, yy, yz, yA, yB, yC, yD, yE, yF, yG, yH, yI, yJ, yK, yL, yM, yN, yO, yP, yQ, yR, yS, yT, yU, yV, yW, yX, yY, yZ, y0, y4, y5, y6, y7, y8, y9, Yb, Yc, Yd, Ye, Yg, Yh, Yi, Yj, Yk, Yl, Ym, Yn, Yo, String.reduceEq, if_true, if_false, reduceIte, ↓reduceIte, Yp, Yq, Yr, Ys, Yt, Yu, Yv, Yw, Yx, Yy, Yz, YA, YB, YC, YD, YE, YF, YG, YH, YI, YJ, YK, YL, YM, YN, YO, YP, YQ, YR, YS, YT, YU, YV, YW, Option.map_some, Option.bind_some, List.map_cons, List.map_nil, List.getElem?_cons_zero, List.getElem?_cons_succ, decide_eq_true_eq, List.length_cons, List.length_nil, Nat.reduceAdd, ne_eq, true_and, and_true, not_false_eq_true, not_true_eq_false, Int.reduceEq, Int.reduceNeg, Int.reduceAdd, Int.reduceLT, Int.reduceLE, reduceCtorEq, or_false, false_or, or_true, decide_true, decide_false, Bool.not_true, Bool.not_false, Bool.false_eq_true, Bool.true_eq_false, YX, YY, YZ, Y0, Y1, Y2, Y3, Y4]
    have e : listV (σ ++ [O.list ((nbrOf i dn).map V.int)]) (.ref σ.length) = some ((nbrOf i dn).map V.int) := listV_ref (by simp)
    simp only [m1, Yo, e]
    refine ⟨?_, by simpa using h64, ?_, kr _ _ _ (h _ (pre_new _ _))⟩
    · simp [sortable, List.all_map, isInt]
    · unfold vsort; rw [small, List.length_mergeSort]; simp; omega

noncomputable def nm (p : Int × Int) : Int × Int := (min p.1 p.2, max p.1 p.2)
structure GoodT (n : Int) (ts : List (Int × Int)) : Prop where
  rng : ∀ p ∈ ts, 0 ≤ p.1 ∧ p.1 < n ∧ 0 ≤ p.2 ∧ p.2 < n ∧ p.1 ≠ p.2
  nd : (ts.map nm).Nodup
  len : ts.length ≤ 40

noncomputable def rowV (ts : List (Int × Int)) (i : Int) : V := .list (vsort ((nbrOf i ts).map V.int))
noncomputable def webOf (n : Int) (ts : List (Int × Int)) : V := webV n (vsort ((ts.map nm).map tV)) ((List.range n.toNat).map fun (k : Nat) => rowV (ts.map nm) (k : Int))

theorem rows_loop {ties : Nat} {ts : List (Int × Int)} {m : Loc} {src : A} {its : List A} {X} {K} (hm : m "found" = some (.ref ties)) (hl : ts.length < 1000) (h64 : ∀ i, (nbrOf i ts).length < 64) (hsrc : ∀ σ, Stay σ src its) :
    ∀ (r : List Int) (σ : H) (acc : List V), σ[ties]? = some (.list (ts.map tV)) → (∀ σ', σ <+: σ' → K (acc ++ r.map (rowV ts)) σ') →
    compLoop (fun m σ K => xTs C true [] m σ K X) (fun m σ K => xE C (.call "neighbours" [.x "found", .x "point"]) m σ K X) (.one "point") src its m (r.map iv) σ acc K := by
  intro r
  induction r with
  | nil => intro σ acc hσ hK; simp only [List.map_nil, compLoop_0, compLoop_1]; simpa using hK σ (List.prefix_refl _)
  | cons i r ih =>
    intro σ acc hσ hK
    simp only [List.map_cons, compLoop_0, compLoop_1, bindT, Yo, Yb, if_true]
    simp only [ya, yb, yc, yd, ye, yf, yg, yh, yi, yj, yk, yl, ym, yn, yo, yp, yq, yr, yt, yu, yv, yw, yx, yy, yz, yA, yB, yC, yD, yE, yF, yG, yH, yI, yJ, yK, yL, yM, yN, yO, yP, yQ, yR, yS, yT, yU, yV, yW, yX, yY, yZ, y0, y4, y5, y6, y7, y8, y9, Yb, Yc, Yd, Ye, Yg, Yh, Yi, Yj, Yk, Yl, Ym, Yn, Yo, String.reduceEq, if_true, if_false, reduceIte, ↓reduceIte, Yp, Yq, Yr, Ys, Yt, Yu, Yv, Yw, Yx, Yy, Yz, YA, YB, YC, YD, YE, YF, YG, YH, YI, YJ, YK, YL, YM, YN, YO, YP, YQ, YR, YS, YT, YU, YV, YW, Option.map_some, Option.bind_some, List.map_cons, List.map_nil, List.getElem?_cons_zero, List.getElem?_cons_succ, decide_eq_true_eq, List.length_cons, List.length_nil, Nat.reduceAdd, ne_eq, true_and, and_true, not_false_eq_true, not_true_eq_false, Int.reduceEq, Int.reduceNeg, Int.reduceAdd, Int.reduceLT, Int.reduceLE, reduceCtorEq, or_false, false_or, or_true, decide_true, decide_false, Bool.not_true, Bool.not_false, Bool.false_eq_true, Bool.true_eq_false, YX, YY, YZ, Y0, Y1, Y2, Y3, Y4]
    simp only [hm, Yo]
    refine neighbours_ok hC (listV_ref hσ) hl (h64 i) fun σ' hp => ?_
    refine ⟨hsrc _, ih σ' _ (get_mono hp hσ) fun σ'' hp' => ?_⟩
    have := hK σ'' (hp.trans hp')
    simpa [rowV] using this

theorem init_ok {σ₁ : H} {n : Int} {ties : A} {ts : List (Int × Int)} {K X} (hn : 1 ≤ n) (hn' : n ≤ 16) (ht : listV (σ₁ ++ [.fields []]) ties = some (ts.map tV)) (G : GoodT n ts) (h64 : ∀ i, (nbrOf i (ts.map nm)).length < 64)
    (h : ∀ rest, K (.v .none) (σ₁ ++ .fields [("many", .int n), ("pairs", .list (vsort ((ts.map nm).map tV))), ("rows", .list ((List.range n.toNat).map fun (k : Nat) => rowV (ts.map nm) (k : Int)))] :: rest)) :
    C "Web.__init__" [.inst "Web" σ₁.length, iv n, ties] (σ₁ ++ [.fields []]) K X := by
  refine run_of hC (d := f_Web_init) (by repeat (first | exact List.Mem.head _ | apply List.Mem.tail)) rfl ?_
  unfold f_Web_init
  dsimp only
  have hgl := G.len
  refine nx fun k kn kr _ _ => ?_
  simp only [ya, yb, yc, yd, ye, yf, yg, yh, yi, yj, yk, yl, ym, yn, yo, yp, yq, yr, yt, yu, yv, yw, yx, yy, yz, yA, yB, yC, yD, yE, yF, yG, yH, yI, yJ, yK, yL, yM, yN, yO, yP, yQ, yR, yS, yT, yU, yV, yW, yX, yY, yZ, y0, y4, y5, y6, y7, y8, y9, Yb, Yc, Yd, Ye, Yg, Yh, Yi, Yj, Yk, Yl, Ym, Yn, Yo, String.reduceEq, if_true, if_false, reduceIte, ↓reduceIte, Yp, Yq, Yr, Ys, Yt, Yu, Yv, Yw, Yx, Yy, Yz, YA, YB, YC, YD, YE, YF, YG, YH, YI, YJ, YK, YL, YM, YN, YO, YP, YQ, YR, YS, YT, YU, YV, YW, Option.map_some, Option.bind_some, List.map_cons, List.map_nil, List.getElem?_cons_zero, List.getElem?_cons_succ, decide_eq_true_eq, List.length_cons, List.length_nil, Nat.reduceAdd, ne_eq, true_and, and_true, not_false_eq_true, not_true_eq_false, Int.reduceEq, Int.reduceNeg, Int.reduceAdd, Int.reduceLT, Int.reduceLE, reduceCtorEq, or_false, false_or, or_true, decide_true, decide_false, Bool.not_true, Bool.not_false, Bool.false_eq_true, Bool.true_eq_false, YX, YY, YZ, Y0, Y1, Y2, Y3, Y4]
  refine whole_ok hC ?_
  simp only [ya, yb, yc, yd, ye, yf, yg, yh, yi, yj, yk, yl, ym, yn, yo, yp, yq, yr, yt, yu, yv, yw, yx, yy, yz, yA, yB, yC, yD, yE, yF, yG, yH, yI, yJ, yK, yL, yM, yN, yO, yP, yQ, yR, yS, yT, yU, yV, yW, yX, yY, yZ, y0, y4, y5, y6, y7, y8, y9, Yb, Yc, Yd, Ye, Yg, Yh, Yi, Yj, Yk, Yl, Ym, Yn, Yo, String.reduceEq, if_true, if_false, reduceIte, ↓reduceIte, Yp, Yq, Yr, Ys, Yt, Yu, Yv, Yw, Yx, Yy, Yz, YA, YB, YC, YD, YE, YF, YG, YH, YI, YJ, YK, YL, YM, YN, YO, YP, YQ, YR, YS, YT, YU, YV, YW, Option.map_some, Option.bind_some, List.map_cons, List.map_nil, List.getElem?_cons_zero, List.getElem?_cons_succ, decide_eq_true_eq, List.length_cons, List.length_nil, Nat.reduceAdd, ne_eq, true_and, and_true, not_false_eq_true, not_true_eq_false, Int.reduceEq, Int.reduceNeg, Int.reduceAdd, Int.reduceLT, Int.reduceLE, reduceCtorEq, or_false, false_or, or_true, decide_true, decide_false, Bool.not_true, Bool.not_false, Bool.false_eq_true, Bool.true_eq_false, YX, YY, YZ, Y0, Y1, Y2, Y3, Y4]
  simp only [hn, hn', decide_true, Bool.not_true, if_true]
  refine kn _ _ ?_
  refine nx fun k kn kr _ _ => ?_
  simp only [ya, yb, yc, yd, ye, yf, yg, yh, yi, yj, yk, yl, ym, yn, yo, yp, yq, yr, yt, yu, yv, yw, yx, yy, yz, yA, yB, yC, yD, yE, yF, yG, yH, yI, yJ, yK, yL, yM, yN, yO, yP, yQ, yR, yS, yT, yU, yV, yW, yX, yY, yZ, y0, y4, y5, y6, y7, y8, y9, Yb, Yc, Yd, Ye, Yg, Yh, Yi, Yj, Yk, Yl, Ym, Yn, Yo, String.reduceEq, if_true, if_false, reduceIte, ↓reduceIte, Yp, Yq, Yr, Ys, Yt, Yu, Yv, Yw, Yx, Yy, Yz, YA, YB, YC, YD, YE, YF, YG, YH, YI, YJ, YK, YL, YM, YN, YO, YP, YQ, YR, YS, YT, YU, YV, YW, Option.map_some, Option.bind_some, List.map_cons, List.map_nil, List.getElem?_cons_zero, List.getElem?_cons_succ, decide_eq_true_eq, List.length_cons, List.length_nil, Nat.reduceAdd, ne_eq, true_and, and_true, not_false_eq_true, not_true_eq_false, Int.reduceEq, Int.reduceNeg, Int.reduceAdd, Int.reduceLT, Int.reduceLE, reduceCtorEq, or_false, false_or, or_true, decide_true, decide_false, Bool.not_true, Bool.not_false, Bool.false_eq_true, Bool.true_eq_false, YX, YY, YZ, Y0, Y1, Y2, Y3, Y4]
  rw [isi_of_list ht .list]
  simp only [ya, yb, yc, yd, ye, yf, yg, yh, yi, yj, yk, yl, ym, yn, yo, yp, yq, yr, yt, yu, yv, yw, yx, yy, yz, yA, yB, yC, yD, yE, yF, yG, yH, yI, yJ, yK, yL, yM, yN, yO, yP, yQ, yR, yS, yT, yU, yV, yW, yX, yY, yZ, y0, y4, y5, y6, y7, y8, y9, Yb, Yc, Yd, Ye, Yg, Yh, Yi, Yj, Yk, Yl, Ym, Yn, Yo, String.reduceEq, if_true, if_false, reduceIte, ↓reduceIte, Yp, Yq, Yr, Ys, Yt, Yu, Yv, Yw, Yx, Yy, Yz, YA, YB, YC, YD, YE, YF, YG, YH, YI, YJ, YK, YL, YM, YN, YO, YP, YQ, YR, YS, YT, YU, YV, YW, Option.map_some, Option.bind_some, List.map_cons, List.map_nil, List.getElem?_cons_zero, List.getElem?_cons_succ, decide_eq_true_eq, List.length_cons, List.length_nil, Nat.reduceAdd, ne_eq, true_and, and_true, not_false_eq_true, not_true_eq_false, Int.reduceEq, Int.reduceNeg, Int.reduceAdd, Int.reduceLT, Int.reduceLE, reduceCtorEq, or_false, false_or, or_true, decide_true, decide_false, Bool.not_true, Bool.not_false, Bool.false_eq_true, Bool.true_eq_false, YX, YY, YZ, Y0, Y1, Y2, Y3, Y4]
  rw [lenA_of_list ht]
  simp only [ya, yb, yc, yd, ye, yf, yg, yh, yi, yj, yk, yl, ym, yn, yo, yp, yq, yr, yt, yu, yv, yw, yx, yy, yz, yA, yB, yC, yD, yE, yF, yG, yH, yI, yJ, yK, yL, yM, yN, yO, yP, yQ, yR, yS, yT, yU, yV, yW, yX, yY, yZ, y0, y4, y5, y6, y7, y8, y9, Yb, Yc, Yd, Ye, Yg, Yh, Yi, Yj, Yk, Yl, Ym, Yn, Yo, String.reduceEq, if_true, if_false, reduceIte, ↓reduceIte, Yp, Yq, Yr, Ys, Yt, Yu, Yv, Yw, Yx, Yy, Yz, YA, YB, YC, YD, YE, YF, YG, YH, YI, YJ, YK, YL, YM, YN, YO, YP, YQ, YR, YS, YT, YU, YV, YW, Option.map_some, Option.bind_some, List.map_cons, List.map_nil, List.getElem?_cons_zero, List.getElem?_cons_succ, decide_eq_true_eq, List.length_cons, List.length_nil, Nat.reduceAdd, ne_eq, true_and, and_true, not_false_eq_true, not_true_eq_false, Int.reduceEq, Int.reduceNeg, Int.reduceAdd, Int.reduceLT, Int.reduceLE, reduceCtorEq, or_false, false_or, or_true, decide_true, decide_false, Bool.not_true, Bool.not_false, Bool.false_eq_true, Bool.true_eq_false, YX, YY, YZ, Y0, Y1, Y2, Y3, Y4]
  have h40 : ¬ (40 : Int) < ((ts.map tV).length : Nat) := by simp; omega
  simp only [h40, decide_false, if_true]
  refine kn _ _ ?_
  refine nx fun k kn kr _ _ => ?_
  simp only [ya, yb, yc, yd, ye, yf, yg, yh, yi, yj, yk, yl, ym, yn, yo, yp, yq, yr, yt, yu, yv, yw, yx, yy, yz, yA, yB, yC, yD, yE, yF, yG, yH, yI, yJ, yK, yL, yM, yN, yO, yP, yQ, yR, yS, yT, yU, yV, yW, yX, yY, yZ, y0, y4, y5, y6, y7, y8, y9, Yb, Yc, Yd, Ye, Yg, Yh, Yi, Yj, Yk, Yl, Ym, Yn, Yo, String.reduceEq, if_true, if_false, reduceIte, ↓reduceIte, Yp, Yq, Yr, Ys, Yt, Yu, Yv, Yw, Yx, Yy, Yz, YA, YB, YC, YD, YE, YF, YG, YH, YI, YJ, YK, YL, YM, YN, YO, YP, YQ, YR, YS, YT, YU, YV, YW, Option.map_some, Option.bind_some, List.map_cons, List.map_nil, List.getElem?_cons_zero, List.getElem?_cons_succ, decide_eq_true_eq, List.length_cons, List.length_nil, Nat.reduceAdd, ne_eq, true_and, and_true, not_false_eq_true, not_true_eq_false, Int.reduceEq, Int.reduceNeg, Int.reduceAdd, Int.reduceLT, Int.reduceLE, reduceCtorEq, or_false, false_or, or_true, decide_true, decide_false, Bool.not_true, Bool.not_false, Bool.false_eq_true, Bool.true_eq_false, YX, YY, YZ, Y0, Y1, Y2, Y3, Y4]
  simp only [small, List.length_nil]
  refine ⟨by decide, kn _ _ ?_⟩
  have hlen : (σ₁ ++ [O.fields []]).length = σ₁.length + 1 := by simp
  rw [hlen]
  refine nx fun k kn kr _ _ => ?_
  simp only [ya, yb, yc, yd, ye, yf, yg, yh, yi, yj, yk, yl, ym, yn, yo, yp, yq, yr, yt, yu, yv, yw, yx, yy, yz, yA, yB, yC, yD, yE, yF, yG, yH, yI, yJ, yK, yL, yM, yN, yO, yP, yQ, yR, yS, yT, yU, yV, yW, yX, yY, yZ, y0, y4, y5, y6, y7, y8, y9, Yb, Yc, Yd, Ye, Yg, Yh, Yi, Yj, Yk, Yl, Ym, Yn, Yo, String.reduceEq, if_true, if_false, reduceIte, ↓reduceIte, Yp, Yq, Yr, Ys, Yt, Yu, Yv, Yw, Yx, Yy, Yz, YA, YB, YC, YD, YE, YF, YG, YH, YI, YJ, YK, YL, YM, YN, YO, YP, YQ, YR, YS, YT, YU, YV, YW, Option.map_some, Option.bind_some, List.map_cons, List.map_nil, List.getElem?_cons_zero, List.getElem?_cons_succ, decide_eq_true_eq, List.length_cons, List.length_nil, Nat.reduceAdd, ne_eq, true_and, and_true, not_false_eq_true, not_true_eq_false, Int.reduceEq, Int.reduceNeg, Int.reduceAdd, Int.reduceLT, Int.reduceLE, reduceCtorEq, or_false, false_or, or_true, decide_true, decide_false, Bool.not_true, Bool.not_false, Bool.false_eq_true, Bool.true_eq_false, YX, YY, YZ, Y0, Y1, Y2, Y3, Y4]
  have hti : ∀ xs : List V, items (σ₁ ++ [.fields []] ++ [.list xs]) ties = some ((ts.map tV).map A.v) := fun xs => items_of_list (listV_mono (pre_new _ _) ht)
  rw [hti]
  simp only [ya, yb, yc, yd, ye, yf, yg, yh, yi, yj, yk, yl, ym, yn, yo, yp, yq, yr, yt, yu, yv, yw, yx, yy, yz, yA, yB, yC, yD, yE, yF, yG, yH, yI, yJ, yK, yL, yM, yN, yO, yP, yQ, yR, yS, yT, yU, yV, yW, yX, yY, yZ, y0, y4, y5, y6, y7, y8, y9, Yb, Yc, Yd, Ye, Yg, Yh, Yi, Yj, Yk, Yl, Ym, Yn, Yo, String.reduceEq, if_true, if_false, reduceIte, ↓reduceIte, Yp, Yq, Yr, Ys, Yt, Yu, Yv, Yw, Yx, Yy, Yz, YA, YB, YC, YD, YE, YF, YG, YH, YI, YJ, YK, YL, YM, YN, YO, YP, YQ, YR, YS, YT, YU, YV, YW, Option.map_some, Option.bind_some, List.map_cons, List.map_nil, List.getElem?_cons_zero, List.getElem?_cons_succ, decide_eq_true_eq, List.length_cons, List.length_nil, Nat.reduceAdd, ne_eq, true_and, and_true, not_false_eq_true, not_true_eq_false, Int.reduceEq, Int.reduceNeg, Int.reduceAdd, Int.reduceLT, Int.reduceLE, reduceCtorEq, or_false, false_or, or_true, decide_true, decide_false, Bool.not_true, Bool.not_false, Bool.false_eq_true, Bool.true_eq_false, YX, YY, YZ, Y0, Y1, Y2, Y3, Y4]
  rw [List.map_map]
  have hat : ∀ xs : List V, (σ₁ ++ [.fields []] ++ [.list xs])[σ₁.length + 1]? = some (.list xs) := fun xs => by simp
  refine forLoop_items (A.v ∘ tV) (fun dn r m' σ' => dn ++ r = ts ∧ σ' = σ₁ ++ [.fields []] ++ [.list ((dn.map nm).map tV)] ∧ m' "found" = some (.ref (σ₁.length + 1)) ∧ m' "many" = some (iv n) ∧ m' "self" = some (.inst "Web" σ₁.length)) ?_ ?_ ?_ _ [] _ _ ⟨rfl, rfl, rfl, rfl, rfl⟩
  · rintro dn r m' σ' ⟨_, rfl, _⟩
    cases ties with
    | v x => exact True.intro
    | ref k => exact (hti _).trans (by rw [List.map_map])
    | inst _ _ => exact True.intro
  · rintro dn p r m' σ' K' ⟨hd, rfl, m1, m2, m3⟩ hK' _ _ _
    obtain ⟨q1, q2, q3, q4, q5⟩ := G.rng p (by rw [← hd]; simp)
    have hdl : dn.length ≤ 40 := by have := congrArg List.length hd; simp at this; omega
    simp only [bindT, Yo, Function.comp_apply]
    refine nx fun k kn kr _ _ => ?_
    simp only [ya, yb, yc, yd, ye, yf, yg, yh, yi, yj, yk, yl, ym, yn, yo, yp, yq, yr, yt, yu, yv, yw, yx, yy, yz, yA, yB, yC, yD, yE, yF, yG, yH, yI, yJ, yK, yL, yM, yN, yO, yP, yQ, yR, yS, yT, yU, yV, yW, yX, yY, yZ, y0, y4, y5, y6, y7, y8, y9, Yb, Yc, Yd, Ye, Yg, Yh, Yi, Yj, Yk, Yl, Ym, Yn, Yo, String.reduceEq, if_true, if_false, reduceIte, ↓reduceIte, Yp, Yq, Yr, Ys, Yt, Yu, Yv, Yw, Yx, Yy, Yz, YA, YB, YC, YD, YE, YF, YG, YH, YI, YJ, YK, YL, YM, YN, YO, YP, YQ, YR, YS, YT, YU, YV, YW, Option.map_some, Option.bind_some, List.map_cons, List.map_nil, List.getElem?_cons_zero, List.getElem?_cons_succ, decide_eq_true_eq, List.length_cons, List.length_nil, Nat.reduceAdd, ne_eq, true_and, and_true, not_false_eq_true, not_true_eq_false, Int.reduceEq, Int.reduceNeg, Int.reduceAdd, Int.reduceLT, Int.reduceLE, reduceCtorEq, or_false, false_or, or_true, decide_true, decide_false, Bool.not_true, Bool.not_false, Bool.false_eq_true, Bool.true_eq_false, YX, YY, YZ, Y0, Y1, Y2, Y3, Y4]
    simp only [m2, Yo]
    refine tie_of_ok hC q1 q2 q3 q4 q5 ?_
    refine kn _ _ ?_
    refine nx fun k kn kr _ _ => ?_
    simp only [ya, yb, yc, yd, ye, yf, yg, yh, yi, yj, yk, yl, ym, yn, yo, yp, yq, yr, yt, yu, yv, yw, yx, yy, yz, yA, yB, yC, yD, yE, yF, yG, yH, yI, yJ, yK, yL, yM, yN, yO, yP, yQ, yR, yS, yT, yU, yV, yW, yX, yY, yZ, y0, y4, y5, y6, y7, y8, y9, Yb, Yc, Yd, Ye, Yg, Yh, Yi, Yj, Yk, Yl, Ym, Yn, Yo, String.reduceEq, if_true, if_false, reduceIte, ↓reduceIte, Yp, Yq, Yr, Ys, Yt, Yu, Yv, Yw, Yx, Yy, Yz, YA, YB, YC, YD, YE, YF, YG, YH, YI, YJ, YK, YL, YM, YN, YO, YP, YQ, YR, YS, YT, YU, YV, YW, Option.map_some, Option.bind_some, List.map_cons, List.map_nil, List.getElem?_cons_zero, List.getElem?_cons_succ, decide_eq_true_eq, List.length_cons, List.length_nil, Nat.reduceAdd, ne_eq, true_and, and_true, not_false_eq_true, not_true_eq_false, Int.reduceEq, Int.reduceNeg, Int.reduceAdd, Int.reduceLT, Int.reduceLE, reduceCtorEq, or_false, false_or, or_true, decide_true, decide_false, Bool.not_true, Bool.not_false, Bool.false_eq_true, Bool.true_eq_false, YX, YY, YZ, Y0, Y1, Y2, Y3, Y4]
    simp only [m1, Yo]
    have hno : nm p ∉ dn.map nm := by
      have := G.nd
      rw [← hd, List.map_append, List.map_cons, List.nodup_append] at this
      exact fun hm => this.2.2 _ hm _ List.mem_cons_self rfl
    have hin := in_tups (listV_ref (hat ((dn.map nm).map tV))) (nm p)
    rw [show (tV (min p.1 p.2, max p.1 p.2)) = tV (nm p) from rfl, hin]
    simp only [Yo, hno, decide_false, Bool.false_eq_true, if_false]
    refine kn _ _ ?_
    refine nx fun k kn kr _ _ => ?_
    simp only [ya, yb, yc, yd, ye, yf, yg, yh, yi, yj, yk, yl, ym, yn, yo, yp, yq, yr, yt, yu, yv, yw, yx, yy, yz, yA, yB, yC, yD, yE, yF, yG, yH, yI, yJ, yK, yL, yM, yN, yO, yP, yQ, yR, yS, yT, yU, yV, yW, yX, yY, yZ, y0, y4, y5, y6, y7, y8, y9, Yb, Yc, Yd, Ye, Yg, Yh, Yi, Yj, Yk, Yl, Ym, Yn, Yo, String.reduceEq, if_true, if_false, reduceIte, ↓reduceIte, Yp, Yq, Yr, Ys, Yt, Yu, Yv, Yw, Yx, Yy, Yz, YA, YB, YC, YD, YE, YF, YG, YH, YI, YJ, YK, YL, YM, YN, YO, YP, YQ, YR, YS, YT, YU, YV, YW, Option.map_some, Option.bind_some, List.map_cons, List.map_nil, List.getElem?_cons_zero, List.getElem?_cons_succ, decide_eq_true_eq, List.length_cons, List.length_nil, Nat.reduceAdd, ne_eq, true_and, and_true, not_false_eq_true, not_true_eq_false, Int.reduceEq, Int.reduceNeg, Int.reduceAdd, Int.reduceLT, Int.reduceLE, reduceCtorEq, or_false, false_or, or_true, decide_true, decide_false, Bool.not_true, Bool.not_false, Bool.false_eq_true, Bool.true_eq_false, YX, YY, YZ, Y0, Y1, Y2, Y3, Y4]
    simp only [m1, Yo, isL_l (hat _), true_and]
    have hl2 : σ₁.length + 1 = (σ₁ ++ [O.fields []]).length := by simp
    have e : (dn.map nm).map tV ++ [tV (nm p)] = ((dn ++ [p]).map nm).map tV := by simp
    rw [hl2]
    refine app_at (by simp; omega) (kn _ _ ?_)
    rw [e]
    exact hK' _ _ ⟨by simpa using hd, rfl, m1, m2, m3⟩
  · rintro dn m' σ' ⟨hd, rfl, m3, m1, m2⟩
    rw [List.append_nil] at hd
    subst hd
    refine kn _ _ ?_
    have a1 : ∀ (F : O) (L : O), (σ₁ ++ [F] ++ [L])[σ₁.length]? = some F := fun F L => by simp
    have a2 : ∀ (F F' : O) (L : O), List.set (σ₁ ++ [F] ++ [L]) σ₁.length F' = σ₁ ++ [F'] ++ [L] := fun F F' L => by simp [List.set_append]
    have a3 : ∀ (F : O) (L : O), (σ₁ ++ [F] ++ [L])[σ₁.length + 1]? = some L := fun F L => by simp
    have a4 : ∀ (F : O) (xs : List V), listV (σ₁ ++ [F] ++ [.list xs]) (.ref (σ₁.length + 1)) = some xs := fun F xs => listV_ref (by simp)
    refine nx fun k kn kr _ _ => ?_
    simp only [ya, yb, yc, yd, ye, yf, yg, yh, yi, yj, yk, yl, ym, yn, yo, yp, yq, yr, yt, yu, yv, yw, yx, yy, yz, yA, yB, yC, yD, yE, yF, yG, yH, yI, yJ, yK, yL, yM, yN, yO, yP, yQ, yR, yS, yT, yU, yV, yW, yX, yY, yZ, y0, y4, y5, y6, y7, y8, y9, Yb, Yc, Yd, Ye, Yg, Yh, Yi, Yj, Yk, Yl, Ym, Yn, Yo, String.reduceEq, if_true, if_false, reduceIte, ↓reduceIte, Yp, Yq, Yr, Ys, Yt, Yu, Yv, Yw, Yx, Yy, Yz, YA, YB, YC, YD, YE, YF, YG, YH, YI, YJ, YK, YL, YM, YN, YO, YP, YQ, YR, YS, YT, YU, YV, YW, Option.map_some, Option.bind_some, List.map_cons, List.map_nil, List.getElem?_cons_zero, List.getElem?_cons_succ, decide_eq_true_eq, List.length_cons, List.length_nil, Nat.reduceAdd, ne_eq, true_and, and_true, not_false_eq_true, not_true_eq_false, Int.reduceEq, Int.reduceNeg, Int.reduceAdd, Int.reduceLT, Int.reduceLE, reduceCtorEq, or_false, false_or, or_true, decide_true, decide_false, Bool.not_true, Bool.not_false, Bool.false_eq_true, Bool.true_eq_false, YX, YY, YZ, Y0, Y1, Y2, Y3, Y4]
    simp only [m1, m2, Yo, Option.bind_some, Y1, a1, oF_f, a2, fieldPut_0, fieldPut_1]
    refine ⟨by decide, kn _ _ ?_⟩
    refine nx fun k kn kr _ _ => ?_
    simp only [ya, yb, yc, yd, ye, yf, yg, yh, yi, yj, yk, yl, ym, yn, yo, yp, yq, yr, yt, yu, yv, yw, yx, yy, yz, yA, yB, yC, yD, yE, yF, yG, yH, yI, yJ, yK, yL, yM, yN, yO, yP, yQ, yR, yS, yT, yU, yV, yW, yX, yY, yZ, y0, y4, y5, y6, y7, y8, y9, Yb, Yc, Yd, Ye, Yg, Yh, Yi, Yj, Yk, Yl, Ym, Yn, Yo, String.reduceEq, if_true, if_false, reduceIte, ↓reduceIte, Yp, Yq, Yr, Ys, Yt, Yu, Yv, Yw, Yx, Yy, Yz, YA, YB, YC, YD, YE, YF, YG, YH, YI, YJ, YK, YL, YM, YN, YO, YP, YQ, YR, YS, YT, YU, YV, YW, Option.map_some, Option.bind_some, List.map_cons, List.map_nil, List.getElem?_cons_zero, List.getElem?_cons_succ, decide_eq_true_eq, List.length_cons, List.length_nil, Nat.reduceAdd, ne_eq, true_and, and_true, not_false_eq_true, not_true_eq_false, Int.reduceEq, Int.reduceNeg, Int.reduceAdd, Int.reduceLT, Int.reduceLE, reduceCtorEq, or_false, false_or, or_true, decide_true, decide_false, Bool.not_true, Bool.not_false, Bool.false_eq_true, Bool.true_eq_false, YX, YY, YZ, Y0, Y1, Y2, Y3, Y4]
    simp only [m2, m3, Yo, a4, Option.bind_some, Y1, a1, oF_f, a2]
    have hlen : (vsort ((dn.map nm).map tV)).length = dn.length := by unfold vsort; rw [List.length_mergeSort]; simp
    refine ⟨?_, by simp; omega, by rw [small, hlen]; omega, by simp, kn _ _ ?_⟩
    · simp only [sortable, Bool.or_eq_true]
      right
      rw [List.all_map, List.all_eq_true]
      intro p _
      rfl
    · refine nx fun k kn kr _ _ => ?_
      simp only [ya, yb, yc, yd, ye, yf, yg, yh, yi, yj, yk, yl, ym, yn, yo, yp, yq, yr, yt, yu, yv, yw, yx, yy, yz, yA, yB, yC, yD, yE, yF, yG, yH, yI, yJ, yK, yL, yM, yN, yO, yP, yQ, yR, yS, yT, yU, yV, yW, yX, yY, yZ, y0, y4, y5, y6, y7, y8, y9, Yb, Yc, Yd, Ye, Yg, Yh, Yi, Yj, Yk, Yl, Ym, Yn, Yo, String.reduceEq, if_true, if_false, reduceIte, ↓reduceIte, Yp, Yq, Yr, Ys, Yt, Yu, Yv, Yw, Yx, Yy, Yz, YA, YB, YC, YD, YE, YF, YG, YH, YI, YJ, YK, YL, YM, YN, YO, YP, YQ, YR, YS, YT, YU, YV, YW, Option.map_some, Option.bind_some, List.map_cons, List.map_nil, List.getElem?_cons_zero, List.getElem?_cons_succ, decide_eq_true_eq, List.length_cons, List.length_nil, Nat.reduceAdd, ne_eq, true_and, and_true, not_false_eq_true, not_true_eq_false, Int.reduceEq, Int.reduceNeg, Int.reduceAdd, Int.reduceLT, Int.reduceLE, reduceCtorEq, or_false, false_or, or_true, decide_true, decide_false, Bool.not_true, Bool.not_false, Bool.false_eq_true, Bool.true_eq_false, YX, YY, YZ, Y0, Y1, Y2, Y3, Y4]
      simp only [m1, Yo]
      simp only [ya, yb, yc, yd, ye, yf, yg, yh, yi, yj, yk, yl, ym, yn, yo, yp, yq, yr, yt, yu, yv, yw, yx, yy, yz, yA, yB, yC, yD, yE, yF, yG, yH, yI, yJ, yK, yL, yM, yN, yO, yP, yQ, yR, yS, yT, yU, yV, yW, yX, yY, yZ, y0, y4, y5, y6, y7, y8, y9, Yb, Yc, Yd, Ye, Yg, Yh, Yi, Yj, Yk, Yl, Ym, Yn, Yo, String.reduceEq, if_true, if_false, reduceIte, ↓reduceIte, Yp, Yq, Yr, Ys, Yt, Yu, Yv, Yw, Yx, Yy, Yz, YA, YB, YC, YD, YE, YF, YG, YH, YI, YJ, YK, YL, YM, YN, YO, YP, YQ, YR, YS, YT, YU, YV, YW, Option.map_some, Option.bind_some, List.map_cons, List.map_nil, List.getElem?_cons_zero, List.getElem?_cons_succ, decide_eq_true_eq, List.length_cons, List.length_nil, Nat.reduceAdd, ne_eq, true_and, and_true, not_false_eq_true, not_true_eq_false, Int.reduceEq, Int.reduceNeg, Int.reduceAdd, Int.reduceLT, Int.reduceLE, reduceCtorEq, or_false, false_or, or_true, decide_true, decide_false, Bool.not_true, Bool.not_false, Bool.false_eq_true, Bool.true_eq_false, YX, YY, YZ, Y0, Y1, Y2, Y3, Y4]
      refine ⟨by omega, by omega, ?_⟩
      have hit : ∀ σ, items σ (.v (.range 0 n)) = some (((List.range n.toNat).map fun (k : Nat) => (k : Int)).map iv) := fun σ => by simp [items, vIt, rngL]
      rw [hit]
      simp only [Yo]
      refine rows_loop hC (X := NX) (ties := σ₁.length + 1) (ts := dn.map nm) m3 (by simp; omega) h64 (src := .v (.range 0 n)) (fun _ => trivial) _ _ [] (a3 _ _) fun σ' hp => ?_
      obtain ⟨rest, rfl⟩ := hp
      have e1 : ([] : List V) ++ ((List.range n.toNat).map fun (k : Nat) => (k : Int)).map (rowV (dn.map nm)) = (List.range n.toNat).map fun (k : Nat) => rowV (dn.map nm) (k : Int) := by simp [Function.comp_def]
      rw [e1]
      refine ⟨by simp [small]; omega, ?_⟩
      have b1 : ∀ (F L : O), (σ₁ ++ [F] ++ [L] ++ rest)[σ₁.length]? = some F := fun F L => by simp
      have b2 : ∀ (F F' L : O), List.set (σ₁ ++ [F] ++ [L] ++ rest) σ₁.length F' = σ₁ ++ F' :: L :: rest := fun F F' L => by simp [List.set_append]
      simp only [m2, Option.bind_some, Y1, b1, oF_f, Yo, b2]
      refine ⟨by simp [fieldPut_0, fieldPut_1], kn _ _ ?_⟩
      exact h _

theorem new_ok {σ : H} {n : Int} {ties : A} {ts : List (Int × Int)} {K : A → H → Prop} {X} (hn : 1 ≤ n) (hn' : n ≤ 16) (ht : listV σ ties = some (ts.map tV)) (G : GoodT n ts) (h64 : ∀ i, (nbrOf i (ts.map nm)).length < 64)
    (h : ∀ σ', σ <+: σ' → K (.v (webOf n ts)) σ') :
    C "Web.__init__" [.inst "Web" σ.length, iv n, ties] (σ ++ [.fields []]) (newK "Web" σ.length K) X := by
  refine init_ok hC hn hn' (listV_mono (pre_new _ _) ht) G h64 fun rest => ?_
  have b1 : ∀ F : O, (σ ++ F :: rest)[σ.length]? = some F := fun F => by simp
  refine ⟨rfl, ?_⟩
  rw [b1]
  refine ⟨rfl, ?_⟩
  have := h (σ ++ .dead :: rest) (List.prefix_append _ _)
  rw [List.set_append_right _ _ (Nat.le_refl _), Nat.sub_self]
  exact this

noncomputable def cellAt (ns : List Int) (k : Nat) : Int := ns.getD k 0

theorem cell_at_ok {σ : H} {sc : A} {ns : List Int} (hs : listV σ sc = some (ns.map V.int)) {q : Int} (hk : 0 ≤ q) {K X} (h : K (iv (cellAt ns q.toNat)) σ) : C "_law_cell_at" [sc, iv q] σ K X := by
  refine run_of hC (d := f__law_cell_at) (by repeat (first | exact List.Mem.head _ | apply List.Mem.tail)) rfl ?_
  unfold f__law_cell_at
  dsimp only
  refine nx fun k kn kr _ _ => ?_
  simp only [ya, yb, yc, yd, ye, yf, yg, yh, yi, yj, yk, yl, ym, yn, yo, yp, yq, yr, yt, yu, yv, yw, yx, yy, yz, yA, yB, yC, yD, yE, yF, yG, yH, yI, yJ, yK, yL, yM, yN, yO, yP, yQ, yR, yS, yT, yU, yV, yW, yX, yY, yZ, y0, y4, y5, y6, y7, y8, y9, Yb, Yc, Yd, Ye, Yg, Yh, Yi, Yj, Yk, Yl, Ym, Yn, Yo, String.reduceEq, if_true, if_false, reduceIte, ↓reduceIte, Yp, Yq, Yr, Ys, Yt, Yu, Yv, Yw, Yx, Yy, Yz, YA, YB, YC, YD, YE, YF, YG, YH, YI, YJ, YK, YL, YM, YN, YO, YP, YQ, YR, YS, YT, YU, YV, YW, Option.map_some, Option.bind_some, List.map_cons, List.map_nil, List.getElem?_cons_zero, List.getElem?_cons_succ, decide_eq_true_eq, List.length_cons, List.length_nil, Nat.reduceAdd, ne_eq, true_and, and_true, not_false_eq_true, not_true_eq_false, Int.reduceEq, Int.reduceNeg, Int.reduceAdd, Int.reduceLT, Int.reduceLE, reduceCtorEq, or_false, false_or, or_true, decide_true, decide_false, Bool.not_true, Bool.not_false, Bool.false_eq_true, Bool.true_eq_false, YX, YY, YZ, Y0, Y1, Y2, Y3, Y4]
  rw [lenA_of_list hs]
  simp only [ya, yb, yc, yd, ye, yf, yg, yh, yi, yj, yk, yl, ym, yn, yo, yp, yq, yr, yt, yu, yv, yw, yx, yy, yz, yA, yB, yC, yD, yE, yF, yG, yH, yI, yJ, yK, yL, yM, yN, yO, yP, yQ, yR, yS, yT, yU, yV, yW, yX, yY, yZ, y0, y4, y5, y6, y7, y8, y9, Yb, Yc, Yd, Ye, Yg, Yh, Yi, Yj, Yk, Yl, Ym, Yn, Yo, String.reduceEq, if_true, if_false, reduceIte, ↓reduceIte, Yp, Yq, Yr, Ys, Yt, Yu, Yv, Yw, Yx, Yy, Yz, YA, YB, YC, YD, YE, YF, YG, YH, YI, YJ, YK, YL, YM, YN, YO, YP, YQ, YR, YS, YT, YU, YV, YW, Option.map_some, Option.bind_some, List.map_cons, List.map_nil, List.getElem?_cons_zero, List.getElem?_cons_succ, decide_eq_true_eq, List.length_cons, List.length_nil, Nat.reduceAdd, ne_eq, true_and, and_true, not_false_eq_true, not_true_eq_false, Int.reduceEq, Int.reduceNeg, Int.reduceAdd, Int.reduceLT, Int.reduceLE, reduceCtorEq, or_false, false_or, or_true, decide_true, decide_false, Bool.not_true, Bool.not_false, Bool.false_eq_true, Bool.true_eq_false, YX, YY, YZ, Y0, Y1, Y2, Y3, Y4]
  simp only [List.length_map]
  by_cases hlt : q < (ns.length : Nat)
  · rw [if_pos hlt]
    refine nx fun k kn kr' _ _ => ?_
    simp only [ya, yb, yc, yd, ye, yf, yg, yh, yi, yj, yk, yl, ym, yn, yo, yp, yq, yr, yt, yu, yv, yw, yx, yy, yz, yA, yB, yC, yD, yE, yF, yG, yH, yI, yJ, yK, yL, yM, yN, yO, yP, yQ, yR, yS, yT, yU, yV, yW, yX, yY, yZ, y0, y4, y5, y6, y7, y8, y9, Yb, Yc, Yd, Ye, Yg, Yh, Yi, Yj, Yk, Yl, Ym, Yn, Yo, String.reduceEq, if_true, if_false, reduceIte, ↓reduceIte, Yp, Yq, Yr, Ys, Yt, Yu, Yv, Yw, Yx, Yy, Yz, YA, YB, YC, YD, YE, YF, YG, YH, YI, YJ, YK, YL, YM, YN, YO, YP, YQ, YR, YS, YT, YU, YV, YW, Option.map_some, Option.bind_some, List.map_cons, List.map_nil, List.getElem?_cons_zero, List.getElem?_cons_succ, decide_eq_true_eq, List.length_cons, List.length_nil, Nat.reduceAdd, ne_eq, true_and, and_true, not_false_eq_true, not_true_eq_false, Int.reduceEq, Int.reduceNeg, Int.reduceAdd, Int.reduceLT, Int.reduceLE, reduceCtorEq, or_false, false_or, or_true, decide_true, decide_false, Bool.not_true, Bool.not_false, Bool.false_eq_true, Bool.true_eq_false, YX, YY, YZ, Y0, Y1, Y2, Y3, Y4]
    have hlt' : q.toNat < ns.length := by omega
    rw [item_of_list hs (idx_int hk (by simpa using hlt)) (x := .int (cellAt ns q.toNat)) (by simp [cellAt, hlt'])]
    exact kr' _ _ _ (kr _ _ _ h)
  · rw [if_neg hlt]
    refine kn _ _ ?_
    refine nx fun k kn kr' _ _ => ?_
    simp only [ya, yb, yc, yd, ye, yf, yg, yh, yi, yj, yk, yl, ym, yn, yo, yp, yq, yr, yt, yu, yv, yw, yx, yy, yz, yA, yB, yC, yD, yE, yF, yG, yH, yI, yJ, yK, yL, yM, yN, yO, yP, yQ, yR, yS, yT, yU, yV, yW, yX, yY, yZ, y0, y4, y5, y6, y7, y8, y9, Yb, Yc, Yd, Ye, Yg, Yh, Yi, Yj, Yk, Yl, Ym, Yn, Yo, String.reduceEq, if_true, if_false, reduceIte, ↓reduceIte, Yp, Yq, Yr, Ys, Yt, Yu, Yv, Yw, Yx, Yy, Yz, YA, YB, YC, YD, YE, YF, YG, YH, YI, YJ, YK, YL, YM, YN, YO, YP, YQ, YR, YS, YT, YU, YV, YW, Option.map_some, Option.bind_some, List.map_cons, List.map_nil, List.getElem?_cons_zero, List.getElem?_cons_succ, decide_eq_true_eq, List.length_cons, List.length_nil, Nat.reduceAdd, ne_eq, true_and, and_true, not_false_eq_true, not_true_eq_false, Int.reduceEq, Int.reduceNeg, Int.reduceAdd, Int.reduceLT, Int.reduceLE, reduceCtorEq, or_false, false_or, or_true, decide_true, decide_false, Bool.not_true, Bool.not_false, Bool.false_eq_true, Bool.true_eq_false, YX, YY, YZ, Y0, Y1, Y2, Y3, Y4]
    have : cellAt ns q.toNat = 0 := by
      unfold cellAt
      rw [List.getD_eq_getElem?_getD, List.getElem?_eq_none (by omega)]; rfl
    rw [this] at h
    exact kr' _ _ _ h

omit hC in
theorem fm {a n : Int} (h : 0 < n) : 0 ≤ Int.fmod a n ∧ Int.fmod a n < n := ⟨Int.fmod_nonneg_of_pos a h, Int.fmod_lt_of_pos a h⟩
omit hC in
theorem nm_eq {a b c d : Int} (h : nm (a, b) = nm (c, d)) : (a = c ∧ b = d) ∨ (a = d ∧ b = c) := by
  have h1 : min a b = min c d := congrArg Prod.fst h
  have h2 : max a b = max c d := congrArg Prod.snd h
  rcases Int.le_total a b with p | p <;> rcases Int.le_total c d with q | q
  · rw [Int.min_eq_left p, Int.min_eq_left q] at h1; rw [Int.max_eq_right p, Int.max_eq_right q] at h2; exact .inl ⟨h1, h2⟩
  · rw [Int.min_eq_left p, Int.min_eq_right q] at h1; rw [Int.max_eq_right p, Int.max_eq_left q] at h2; exact .inr ⟨h1, h2⟩
  · rw [Int.min_eq_right p, Int.min_eq_left q] at h1; rw [Int.max_eq_left p, Int.max_eq_right q] at h2; exact .inr ⟨h2, h1⟩
  · rw [Int.min_eq_right p, Int.min_eq_right q] at h1; rw [Int.max_eq_left p, Int.max_eq_left q] at h2; exact .inl ⟨h2, h1⟩

theorem ties_loop {σ₀ : H} {n : Int} {src : A} {all : List A} {K X} (hn : 1 ≤ n) (hn' : n ≤ 16) (hS : ∀ σ, Stay σ src all) (cs : List Int) (m : Loc) (h1 : m "_law_made" = some (.ref σ₀.length)) (h2 : m "_law_many_here" = some (iv n)) (hl : cs.length ≤ 40)
    (hK : ∀ ts m', GoodT n ts → m' "_law_made" = some (.ref σ₀.length) → K .next m' (σ₀ ++ [.list (ts.map tV)])) :
    forLoop (bindT (.one "_law_cell")) (fun m σ K => xSs C [.asg "_law_one" (.bin .mod (.x "_law_cell") (.x "_law_many_here")),
    .asg "_law_other" (.bin .mod (.bin .add (.bin .add (.x "_law_one") (.c (.int 1))) (.bin .mod (.bin .fdiv (.x "_law_cell") (.x "_law_many_here")) (.bi .max [.c (.int 1), .bin .sub (.x "_law_many_here") (.c (.int 1))]))) (.x "_law_many_here")),
    .ite (.and [.cmp (.x "_law_one") .ne (.x "_law_other"), .cmp (.tup [.x "_law_one", .x "_law_other"]) .notin (.x "_law_made"), .cmp (.tup [.x "_law_other", .x "_law_one"]) .notin (.x "_law_made")]) [.ex (.lm (.x "_law_made") .append [.tup [.x "_law_one", .x "_law_other"]])] []] m σ K X) (fun σ => Stay σ src all) ((cs.map V.int).map A.v) m (σ₀ ++ [.list []]) K := by
  rw [List.map_map]
  refine forLoop_items (A.v ∘ V.int) (fun _ r m' σ' => m' "_law_made" = some (.ref σ₀.length) ∧ m' "_law_many_here" = some (iv n) ∧ ∃ ts : List (Int × Int), σ' = σ₀ ++ [.list (ts.map tV)] ∧ ts.length + r.length ≤ 40 ∧ (∀ p ∈ ts, 0 ≤ p.1 ∧ p.1 < n ∧ 0 ≤ p.2 ∧ p.2 < n ∧ p.1 ≠ p.2) ∧ (ts.map nm).Nodup) (fun _ _ _ _ _ => hS _) ?_ ?_ _ [] _ _ ⟨h1, h2, [], rfl, by simpa using hl, by simp, by simp⟩
  · rintro _ c r m' σ' K' ⟨m1, m2, ts, rfl, hle, hr, hnd⟩ hK' _ _ _
    simp only [bindT, Yo, Function.comp_apply]
    simp only [List.length_cons] at hle
    have hn0 : ¬ n = 0 := by omega
    have hmax : ¬ max 1 (n - 1) = 0 := by omega
    have f1 := fm (a := c) (n := n) (by omega)
    refine nx fun k kn kr _ _ => ?_
    simp only [ya, yb, yc, yd, ye, yf, yg, yh, yi, yj, yk, yl, ym, yn, yo, yp, yq, yr, yt, yu, yv, yw, yx, yy, yz, yA, yB, yC, yD, yE, yF, yG, yH, yI, yJ, yK, yL, yM, yN, yO, yP, yQ, yR, yS, yT, yU, yV, yW, yX, yY, yZ, y0, y4, y5, y6, y7, y8, y9, Yb, Yc, Yd, Ye, Yg, Yh, Yi, Yj, Yk, Yl, Ym, Yn, Yo, String.reduceEq, if_true, if_false, reduceIte, ↓reduceIte, Yp, Yq, Yr, Ys, Yt, Yu, Yv, Yw, Yx, Yy, Yz, YA, YB, YC, YD, YE, YF, YG, YH, YI, YJ, YK, YL, YM, YN, YO, YP, YQ, YR, YS, YT, YU, YV, YW, Option.map_some, Option.bind_some, List.map_cons, List.map_nil, List.getElem?_cons_zero, List.getElem?_cons_succ, decide_eq_true_eq, List.length_cons, List.length_nil, Nat.reduceAdd, ne_eq, true_and, and_true, not_false_eq_true, not_true_eq_false, Int.reduceEq, Int.reduceNeg, Int.reduceAdd, Int.reduceLT, Int.reduceLE, reduceCtorEq, or_false, false_or, or_true, decide_true, decide_false, Bool.not_true, Bool.not_false, Bool.false_eq_true, Bool.true_eq_false, YX, YY, YZ, Y0, Y1, Y2, Y3, Y4]
    simp only [m2, Yo]
    simp only [ya, yb, yc, yd, ye, yf, yg, yh, yi, yj, yk, yl, ym, yn, yo, yp, yq, yr, yt, yu, yv, yw, yx, yy, yz, yA, yB, yC, yD, yE, yF, yG, yH, yI, yJ, yK, yL, yM, yN, yO, yP, yQ, yR, yS, yT, yU, yV, yW, yX, yY, yZ, y0, y4, y5, y6, y7, y8, y9, Yb, Yc, Yd, Ye, Yg, Yh, Yi, Yj, Yk, Yl, Ym, Yn, Yo, String.reduceEq, if_true, if_false, reduceIte, ↓reduceIte, Yp, Yq, Yr, Ys, Yt, Yu, Yv, Yw, Yx, Yy, Yz, YA, YB, YC, YD, YE, YF, YG, YH, YI, YJ, YK, YL, YM, YN, YO, YP, YQ, YR, YS, YT, YU, YV, YW, Option.map_some, Option.bind_some, List.map_cons, List.map_nil, List.getElem?_cons_zero, List.getElem?_cons_succ, decide_eq_true_eq, List.length_cons, List.length_nil, Nat.reduceAdd, ne_eq, true_and, and_true, not_false_eq_true, not_true_eq_false, Int.reduceEq, Int.reduceNeg, Int.reduceAdd, Int.reduceLT, Int.reduceLE, reduceCtorEq, or_false, false_or, or_true, decide_true, decide_false, Bool.not_true, Bool.not_false, Bool.false_eq_true, Bool.true_eq_false, YX, YY, YZ, Y0, Y1, Y2, Y3, Y4]
    refine ⟨hn0, kn _ _ ?_⟩
    generalize c.fmod n = one at *
    have f2 := fm (a := one + 1 + (c.fdiv n).fmod (max 1 (n - 1))) (n := n) (by omega)
    refine nx fun k kn kr _ _ => ?_
    simp only [ya, yb, yc, yd, ye, yf, yg, yh, yi, yj, yk, yl, ym, yn, yo, yp, yq, yr, yt, yu, yv, yw, yx, yy, yz, yA, yB, yC, yD, yE, yF, yG, yH, yI, yJ, yK, yL, yM, yN, yO, yP, yQ, yR, yS, yT, yU, yV, yW, yX, yY, yZ, y0, y4, y5, y6, y7, y8, y9, Yb, Yc, Yd, Ye, Yg, Yh, Yi, Yj, Yk, Yl, Ym, Yn, Yo, String.reduceEq, if_true, if_false, reduceIte, ↓reduceIte, Yp, Yq, Yr, Ys, Yt, Yu, Yv, Yw, Yx, Yy, Yz, YA, YB, YC, YD, YE, YF, YG, YH, YI, YJ, YK, YL, YM, YN, YO, YP, YQ, YR, YS, YT, YU, YV, YW, Option.map_some, Option.bind_some, List.map_cons, List.map_nil, List.getElem?_cons_zero, List.getElem?_cons_succ, decide_eq_true_eq, List.length_cons, List.length_nil, Nat.reduceAdd, ne_eq, true_and, and_true, not_false_eq_true, not_true_eq_false, Int.reduceEq, Int.reduceNeg, Int.reduceAdd, Int.reduceLT, Int.reduceLE, reduceCtorEq, or_false, false_or, or_true, decide_true, decide_false, Bool.not_true, Bool.not_false, Bool.false_eq_true, Bool.true_eq_false, YX, YY, YZ, Y0, Y1, Y2, Y3, Y4]
    simp only [m2, Yo]
    simp only [ya, yb, yc, yd, ye, yf, yg, yh, yi, yj, yk, yl, ym, yn, yo, yp, yq, yr, yt, yu, yv, yw, yx, yy, yz, yA, yB, yC, yD, yE, yF, yG, yH, yI, yJ, yK, yL, yM, yN, yO, yP, yQ, yR, yS, yT, yU, yV, yW, yX, yY, yZ, y0, y4, y5, y6, y7, y8, y9, Yb, Yc, Yd, Ye, Yg, Yh, Yi, Yj, Yk, Yl, Ym, Yn, Yo, String.reduceEq, if_true, if_false, reduceIte, ↓reduceIte, Yp, Yq, Yr, Ys, Yt, Yu, Yv, Yw, Yx, Yy, Yz, YA, YB, YC, YD, YE, YF, YG, YH, YI, YJ, YK, YL, YM, YN, YO, YP, YQ, YR, YS, YT, YU, YV, YW, Option.map_some, Option.bind_some, List.map_cons, List.map_nil, List.getElem?_cons_zero, List.getElem?_cons_succ, decide_eq_true_eq, List.length_cons, List.length_nil, Nat.reduceAdd, ne_eq, true_and, and_true, not_false_eq_true, not_true_eq_false, Int.reduceEq, Int.reduceNeg, Int.reduceAdd, Int.reduceLT, Int.reduceLE, reduceCtorEq, or_false, false_or, or_true, decide_true, decide_false, Bool.not_true, Bool.not_false, Bool.false_eq_true, Bool.true_eq_false, YX, YY, YZ, Y0, Y1, Y2, Y3, Y4]
    refine ⟨hn0, by omega, hmax, hn0, kn _ _ ?_⟩
    generalize (one + 1 + (c.fdiv n).fmod (max 1 (n - 1))).fmod n = other at *
    have hin : ∀ p : Int × Int, inSem (σ₀ ++ [O.list (ts.map tV)]) (.v (tV p)) (.ref σ₀.length) = some (decide (p ∈ ts)) := fun p => in_tups (listV_ref (by simp)) _
    have e1 : inSem (σ₀ ++ [O.list (ts.map tV)]) (.v (.tup [.int one, .int other])) (.ref σ₀.length) = some (decide ((one, other) ∈ ts)) := hin (one, other)
    have e2 : inSem (σ₀ ++ [O.list (ts.map tV)]) (.v (.tup [.int other, .int one])) (.ref σ₀.length) = some (decide ((other, one) ∈ ts)) := hin (other, one)
    have skip : ∀ m'', m'' "_law_made" = some (.ref σ₀.length) → m'' "_law_many_here" = some (iv n) → K' .next m'' (σ₀ ++ [O.list (ts.map tV)]) := fun m'' a b => hK' _ _ ⟨a, b, ts, rfl, by omega, hr, hnd⟩
    refine nx fun k kn kr _ _ => ?_
    simp only [ya, yb, yc, yd, ye, yf, yg, yh, yi, yj, yk, yl, ym, yn, yo, yp, yq, yr, yt, yu, yv, yw, yx, yy, yz, yA, yB, yC, yD, yE, yF, yG, yH, yI, yJ, yK, yL, yM, yN, yO, yP, yQ, yR, yS, yT, yU, yV, yW, yX, yY, yZ, y0, y4, y5, y6, y7, y8, y9, Yb, Yc, Yd, Ye, Yg, Yh, Yi, Yj, Yk, Yl, Ym, Yn, Yo, String.reduceEq, if_true, if_false, reduceIte, ↓reduceIte, Yp, Yq, Yr, Ys, Yt, Yu, Yv, Yw, Yx, Yy, Yz, YA, YB, YC, YD, YE, YF, YG, YH, YI, YJ, YK, YL, YM, YN, YO, YP, YQ, YR, YS, YT, YU, YV, YW, Option.map_some, Option.bind_some, List.map_cons, List.map_nil, List.getElem?_cons_zero, List.getElem?_cons_succ, decide_eq_true_eq, List.length_cons, List.length_nil, Nat.reduceAdd, ne_eq, true_and, and_true, not_false_eq_true, not_true_eq_false, Int.reduceEq, Int.reduceNeg, Int.reduceAdd, Int.reduceLT, Int.reduceLE, reduceCtorEq, or_false, false_or, or_true, decide_true, decide_false, Bool.not_true, Bool.not_false, Bool.false_eq_true, Bool.true_eq_false, YX, YY, YZ, Y0, Y1, Y2, Y3, Y4]
    simp only [m1, Yo, e1, e2, Option.map_some]
    by_cases q1 : one = other
    · simp only [q1, not_true_eq_false, decide_false, Bool.false_eq_true, if_false]
      exact kn _ _ (skip _ m1 m2)
    · simp only [q1, not_false_eq_true, if_true]
      by_cases q2 : (one, other) ∈ ts
      · simp only [q2, decide_true, Bool.not_true, Bool.false_eq_true, if_false]
        exact kn _ _ (skip _ m1 m2)
      · simp only [q2, decide_false, Bool.not_false, if_true]
        by_cases q3 : (other, one) ∈ ts
        · simp only [q3, decide_true, Bool.not_true, Bool.false_eq_true, if_false]
          exact kn _ _ (skip _ m1 m2)
        · simp only [q3, decide_false, Bool.not_false, if_true]
          refine nx fun k kn' kr _ _ => ?_
          simp only [ya, yb, yc, yd, ye, yf, yg, yh, yi, yj, yk, yl, ym, yn, yo, yp, yq, yr, yt, yu, yv, yw, yx, yy, yz, yA, yB, yC, yD, yE, yF, yG, yH, yI, yJ, yK, yL, yM, yN, yO, yP, yQ, yR, yS, yT, yU, yV, yW, yX, yY, yZ, y0, y4, y5, y6, y7, y8, y9, Yb, Yc, Yd, Ye, Yg, Yh, Yi, Yj, Yk, Yl, Ym, Yn, Yo, String.reduceEq, if_true, if_false, reduceIte, ↓reduceIte, Yp, Yq, Yr, Ys, Yt, Yu, Yv, Yw, Yx, Yy, Yz, YA, YB, YC, YD, YE, YF, YG, YH, YI, YJ, YK, YL, YM, YN, YO, YP, YQ, YR, YS, YT, YU, YV, YW, Option.map_some, Option.bind_some, List.map_cons, List.map_nil, List.getElem?_cons_zero, List.getElem?_cons_succ, decide_eq_true_eq, List.length_cons, List.length_nil, Nat.reduceAdd, ne_eq, true_and, and_true, not_false_eq_true, not_true_eq_false, Int.reduceEq, Int.reduceNeg, Int.reduceAdd, Int.reduceLT, Int.reduceLE, reduceCtorEq, or_false, false_or, or_true, decide_true, decide_false, Bool.not_true, Bool.not_false, Bool.false_eq_true, Bool.true_eq_false, YX, YY, YZ, Y0, Y1, Y2, Y3, Y4]
          simp only [m1, Yo]
          refine ⟨isL_at, app_at (by simp; omega) (kn' _ _ (kn _ _ ?_))⟩
          have e : ts.map tV ++ [V.tup [.int one, .int other]] = (ts ++ [(one, other)]).map tV := by simp [tV]
          rw [e]
          refine hK' _ _ ⟨m1, m2, _, rfl, by simp; omega, fun p hp => ?_, ?_⟩
          · rcases List.mem_append.mp hp with hp | hp
            · exact hr p hp
            · rw [List.mem_singleton.mp hp]; exact ⟨f1.1, f1.2, f2.1, f2.2, q1⟩
          · rw [List.map_append, List.nodup_append]
            refine ⟨hnd, by simp, fun a ha b hb e => ?_⟩
            simp only [List.map_cons, List.map_nil, List.mem_singleton] at hb
            subst hb
            obtain ⟨⟨x, y⟩, hp, rfl⟩ := List.mem_map.mp ha
            rcases nm_eq e with ⟨rfl, rfl⟩ | ⟨rfl, rfl⟩
            · exact q2 hp
            · exact q3 hp
  · rintro _ m' σ' ⟨m1, m2, ts, rfl, hle, hr, hnd⟩
    exact hK ts m' ⟨hr, hnd, by simpa using hle⟩ m1

omit hC in
theorem nbr_mem {i j : Int} : ∀ {us : List (Int × Int)}, j ∈ nbrOf i us ↔ (i, j) ∈ us ∨ (j, i) ∈ us
  | [] => by simp [nbrOf_0, nbrOf_1]
  | (a, b) :: us => by
    have ih := nbr_mem (i := i) (j := j) (us := us)
    simp only [nbrOf_0, nbrOf_1, List.mem_append, ih, List.mem_cons, Prod.mk.injEq]
    constructor
    · rintro ((h | h) | h)
      · by_cases q : a = i
        · simp [q] at h; exact .inl (.inl ⟨q.symm, h⟩)
        · simp [q] at h
      · by_cases q : b = i
        · simp [q] at h; exact .inr (.inl ⟨h, q.symm⟩)
        · simp [q] at h
      · rcases h with h | h
        · exact .inl (.inr h)
        · exact .inr (.inr h)
    · rintro ((⟨h1, h2⟩ | h) | (⟨h1, h2⟩ | h))
      · left; left; simp [← h1, h2]
      · exact .inr (.inl h)
      · left; right; simp [← h2, h1]
      · exact .inr (.inr h)

omit hC in
theorem nbr_nodup {i : Int} : ∀ {us : List (Int × Int)}, us.Nodup → (∀ p ∈ us, p.1 < p.2) → (nbrOf i us).Nodup
  | [], _, _ => by simp [nbrOf_0, nbrOf_1]
  | (a, b) :: us, hnd, hlt => by
    rw [List.nodup_cons] at hnd
    have hab := hlt (a, b) List.mem_cons_self
    have ih := nbr_nodup (i := i) hnd.2 (fun p hp => hlt p (List.mem_cons_of_mem _ hp))
    simp only [nbrOf_0, nbrOf_1]
    simp only at hab
    by_cases q : a = i
    · have q' : ¬ b = i := by omega
      simp only [q, q', if_true, if_false, List.append_nil, List.cons_append, List.nil_append, List.nodup_cons]
      refine ⟨fun hm => ?_, ih⟩
      rcases nbr_mem.mp hm with h | h
      · rw [q] at hnd; exact hnd.1 h
      · have := hlt _ (List.mem_cons_of_mem _ h); simp only at this; omega
    · simp only [q, if_false, List.nil_append]
      by_cases q' : b = i
      · simp only [q', if_true, List.cons_append, List.nil_append, List.nodup_cons]
        refine ⟨fun hm => ?_, ih⟩
        rcases nbr_mem.mp hm with h | h
        · have := hlt _ (List.mem_cons_of_mem _ h); simp only at this; omega
        · rw [q'] at hnd; exact hnd.1 h
      · simpa [q'] using ih

noncomputable def rngI (n : Int) : List Int := (List.range n.toNat).map fun (k : Nat) => (k : Int)
noncomputable def adj (ts : List (Int × Int)) (i j : Int) : Bool := decide ((i, j) ∈ ts) || decide ((j, i) ∈ ts)
noncomputable def ownI (n : Int) (ts : List (Int × Int)) (i : Int) : List Int := (rngI n).filter (adj ts i)

omit hC in
theorem rngI_mem {n j : Int} : j ∈ rngI n ↔ 0 ≤ j ∧ j < n := by
  unfold rngI
  simp only [List.mem_map, List.mem_range]
  constructor
  · rintro ⟨k, hk, rfl⟩; omega
  · rintro ⟨h1, h2⟩; exact ⟨j.toNat, by omega, by omega⟩
omit hC in
theorem rngI_lt (n : Int) : (rngI n).Pairwise (· < ·) := by
  unfold rngI
  rw [List.pairwise_map]
  exact List.pairwise_lt_range.imp fun h => by omega

omit hC in
theorem perm_of {α : Type} [DecidableEq α] {l l' : List α} (h1 : l.Nodup) (h2 : l'.Nodup) (h : ∀ a, a ∈ l ↔ a ∈ l') : l.Perm l' := by
  rw [List.perm_iff_count]
  intro a
  rw [h1.count, h2.count]
  simp [h a]

omit hC in
theorem nm_or (p : Int × Int) : nm p = p ∨ nm p = (p.2, p.1) := by
  rcases Int.le_total p.1 p.2 with h | h
  · left; unfold nm; rw [Int.min_eq_left h, Int.max_eq_right h]
  · right; unfold nm; rw [Int.min_eq_right h, Int.max_eq_left h]
omit hC in
theorem nm_mem {ts : List (Int × Int)} {i j : Int} : ((i, j) ∈ ts.map nm ∨ (j, i) ∈ ts.map nm) ↔ ((i, j) ∈ ts ∨ (j, i) ∈ ts) := by
  have fwd : ∀ {a b : Int}, (a, b) ∈ ts.map nm → (a, b) ∈ ts ∨ (b, a) ∈ ts := by
    intro a b h
    obtain ⟨⟨c, d⟩, hp, e⟩ := List.mem_map.mp h
    rcases nm_or (c, d) with q | q
    · rw [q] at e; exact .inl (e ▸ hp)
    · rw [q] at e; cases e; exact .inr hp
  have bwd : ∀ {a b : Int}, (a, b) ∈ ts → (a, b) ∈ ts.map nm ∨ (b, a) ∈ ts.map nm := by
    intro a b h
    have hm := List.mem_map_of_mem (f := nm) h
    rcases nm_or (a, b) with q | q
    · rw [q] at hm; exact .inl hm
    · rw [q] at hm; exact .inr hm
  exact ⟨fun h => h.elim fwd fun h => (fwd h).symm, fun h => h.elim bwd fun h => (bwd h).symm⟩
omit hC in
theorem rngI_nd (n : Int) : (rngI n).Nodup := (rngI_lt n).imp fun h => Int.ne_of_lt h
omit hC in
theorem row_is {n : Int} {ts : List (Int × Int)} (G : GoodT n ts) (i : Int) : (ownI n ts i).Perm (nbrOf i (ts.map nm)) := by
  refine perm_of ((rngI_nd n).filter _) ?_ fun j => ?_
  · refine nbr_nodup G.nd fun p hp => ?_
    obtain ⟨q, hq, rfl⟩ := List.mem_map.mp hp
    have h5 := (G.rng q hq).2.2.2.2
    rcases Int.lt_or_gt_of_ne h5 with h | h
    · unfold nm; rw [Int.min_eq_left (Int.le_of_lt h), Int.max_eq_right (Int.le_of_lt h)]; exact h
    · unfold nm; rw [Int.min_eq_right (Int.le_of_lt h), Int.max_eq_left (Int.le_of_lt h)]; exact h
  · rw [nbr_mem, nm_mem]
    unfold ownI adj
    rw [List.mem_filter, rngI_mem, Bool.or_eq_true, decide_eq_true_eq, decide_eq_true_eq]
    refine ⟨fun h => h.2, fun h => ⟨?_, h⟩⟩
    rcases h with h | h
    · have := G.rng _ h; exact ⟨this.2.2.1, this.2.2.2.1⟩
    · have := G.rng _ h; exact ⟨this.1, this.2.1⟩

omit hC in
theorem row_eq {n : Int} {ts : List (Int × Int)} (G : GoodT n ts) (i : Int) : rowV (ts.map nm) i = .list ((ownI n ts i).map V.int) := by
  unfold rowV
  congr 1
  symm
  refine vsort_uniq ?_ ((row_is G i).map _) ?_
  · simp [sortable, List.all_map, isInt]
  · rw [List.pairwise_map]
    have : (ownI n ts i).Pairwise (· < ·) := (rngI_lt n).filter _
    refine this.imp fun {a b} h => ?_
    simp only [vle, vlt_int, Bool.not_eq_true', decide_eq_false_iff_not]
    omega
omit hC in
theorem row_len {n : Int} {ts : List (Int × Int)} (hn : n ≤ 16) (G : GoodT n ts) (i : Int) : (nbrOf i (ts.map nm)).length < 64 := by
  rw [← (row_is G i).length_eq]
  have := List.length_filter_le (adj ts i) (rngI n)
  unfold ownI
  unfold rngI at this ⊢
  simp at this ⊢
  omega
end
end Fl

/-! sorted ints (own work) -/
namespace Fl
set_option linter.unusedSimpArgs false

theorem nodup_len {ks : List Int} {n : Int} (h : ks.Nodup) (hr : ∀ k ∈ ks, 0 ≤ k ∧ k < n) : ks.length ≤ n.toNat := by
  have : ks.Perm ((rngI n).filter (· ∈ ks)) := by
    refine perm_of h (((rngI_lt n).imp fun h => by omega : (rngI n).Nodup).filter _) fun a => ?_
    simp only [List.mem_filter, rngI_mem, decide_eq_true_eq]
    exact ⟨fun h => ⟨hr a h, h⟩, fun h => h.2⟩
  rw [this.length_eq]
  refine Nat.le_trans (List.length_filter_le _ _) ?_
  simp [rngI]

theorem ints_of : ∀ {l : List V}, (∀ x ∈ l, ∃ p, x = V.int p) → ∃ ps : List Int, l = ps.map V.int
  | [], _ => ⟨[], rfl⟩
  | x :: l, h => by
    obtain ⟨p, hp⟩ := h x List.mem_cons_self
    obtain ⟨ps, hps⟩ := ints_of (l := l) fun y hy => h y (List.mem_cons_of_mem _ hy)
    exact ⟨p :: ps, by rw [hp, hps]; rfl⟩
theorem vsort_ints (us : List Int) : ∃ ps : List Int, vsort (us.map V.int) = ps.map V.int ∧ ps.Perm us ∧ ps.Pairwise (· ≤ ·) := by
  have hp0 := List.mergeSort_perm (us.map V.int) vle
  obtain ⟨ps, h⟩ := ints_of (l := vsort (us.map V.int)) fun x hx => by
    have := hp0.mem_iff.mp hx
    obtain ⟨p, _, rfl⟩ := List.mem_map.mp this
    exact ⟨p, rfl⟩
  refine ⟨ps, h, ?_, ?_⟩
  · have h1 : (ps.map V.int).Perm (us.map V.int) := by rw [← h]; exact hp0
    have h2 := h1.map intOf
    rw [List.map_map, List.map_map] at h2
    have e : intOf ∘ V.int = id := rfl
    rw [e, List.map_id, List.map_id] at h2
    exact h2
  · have h1 : (vsort (us.map V.int)).Pairwise (fun a b => vle a b = true) := List.pairwise_mergeSort (le := vle) (fun a b c => vle_tr a b c) (fun a b => by simpa using vle_total a b) _
    rw [h, List.pairwise_map] at h1
    refine h1.imp fun {a b} h => ?_
    simp only [vle, vlt_int, Bool.not_eq_true', decide_eq_false_iff_not] at h
    omega
theorem sortable_ints (us : List Int) : sortable (us.map V.int) = true := by simp [sortable, List.all_map, isInt]

theorem kadd_new {ks : List (Int × Int)} {k : Int × Int} (h : k ∉ ks) : kadd ks k = ks ++ [k] := if_neg h
theorem kadd_old {ks : List (Int × Int)} {k : Int × Int} (h : k ∈ ks) : kadd ks k = ks := if_pos h

theorem sorted_uniq {l l' : List Int} (h1 : l.Pairwise (· < ·)) (h2 : l'.Pairwise (· < ·)) (h : ∀ a, a ∈ l ↔ a ∈ l') : l = l' := by
  have hp : l.Perm l' := perm_of (h1.imp fun h => by omega) (h2.imp fun h => by omega) h
  exact List.Perm.eq_of_pairwise (le := (· < ·)) (fun a b _ _ h1 h2 => by omega) h1 h2 hp
theorem rngI_succ (k : Nat) : rngI ((k : Int) + 1) = rngI k ++ [(k : Int)] := by
  unfold rngI
  have : ((k : Int) + 1).toNat = k + 1 := by omega
  rw [this, List.range_succ]; simp
end Fl

/-! the text of 05 (printed by gen.py, then turned) -/
namespace Fl
noncomputable def f_are_turns : Fn := ⟨["web", "turns"], [.ite (.or [.not (.isi (.x "turns") .list), .cmp (.bi .len [.x "turns"]) .ne (.attr (.x "web") "many")]) [.ret (.c (.bool false))] [],
    .forEnum "point" "turn" (.x "turns") [.ite (.not (.isi (.x "turn") .list)) [.ret (.c (.bool false))] [],
    .for_ (.one "one") (.x "turn") [.ite (.not (.call "is_whole" [.x "one"])) [.ret (.c (.bool false))] []],
    .ite (.cmp (.fz (.sorted (.x "turn"))) .ne (.meth (.x "web") "beside" [.x "point"])) [.ret (.c (.bool false))] []],
    .ret (.c (.bool true))]⟩
noncomputable def f_walks : Fn := ⟨["web", "turns"], [.ite (.not (.call "are_turns" [.x "web", .x "turns"])) [.raise "NoTurns" "these are no turns of the web"] [],
    .never, .never, .never, .never]⟩
noncomputable def f_flat : Fn := ⟨["web", "turns"], [.asgC "all_walks" "walks" [.x "web", .x "turns"],
    .never, .never]⟩
noncomputable def f__law_many : Fn := ⟨["_law_script"], [.ite (.cmp (.bin .mod (.call "_law_cell_at" [.x "_law_script", .c (.int 0)]) (.c (.int 6))) .eq (.c (.int 5))) [.ret (.bin .add (.c (.int 9)) (.bin .mod (.bin .fdiv (.call "_law_cell_at" [.x "_law_script", .c (.int 0)]) (.c (.int 6))) (.c (.int 8))))] [],
    .ret (.bin .add (.c (.int 1)) (.bin .mod (.bin .fdiv (.call "_law_cell_at" [.x "_law_script", .c (.int 0)]) (.c (.int 6))) (.c (.int 8))))]⟩
noncomputable def f__law_ties : Fn := ⟨["_law_script", "_law_many_here"], [.asg "_law_made" (.mu (.disp [])),
    .for_ (.one "_law_cell") (.fz (.slice (.x "_law_script") (some (.c (.int 4))) (some (.bin .add (.c (.int 4)) (.bin .mod (.call "_law_cell_at" [.x "_law_script", .c (.int 1)]) (.c (.int 17))))))) [.asg "_law_one" (.bin .mod (.x "_law_cell") (.x "_law_many_here")),
    .asg "_law_other" (.bin .mod (.bin .add (.bin .add (.x "_law_one") (.c (.int 1))) (.bin .mod (.bin .fdiv (.x "_law_cell") (.x "_law_many_here")) (.bi .max [.c (.int 1), .bin .sub (.x "_law_many_here") (.c (.int 1))]))) (.x "_law_many_here")),
    .ite (.and [.cmp (.x "_law_one") .ne (.x "_law_other"), .cmp (.tup [.x "_law_one", .x "_law_other"]) .notin (.x "_law_made"), .cmp (.tup [.x "_law_other", .x "_law_one"]) .notin (.x "_law_made")]) [.ex (.lm (.x "_law_made") .append [.tup [.x "_law_one", .x "_law_other"]])] []],
    .ret (.frz (.x "_law_made"))]⟩
noncomputable def f__law_order_by : Fn := ⟨["_law_cell", "_law_row"], [.asg "_law_left" (.mu (.copy (.x "_law_row"))),
    .asg "_law_made" (.mu (.disp [])),
    .whl (.cmp (.x "_law_left") .ne (.fz (.disp []))) [.ex (.lm (.x "_law_made") .append [.lm (.x "_law_left") .pop [.bin .mod (.x "_law_cell") (.bi .len [.x "_law_left"])]]),
    .asg "_law_cell" (.bin .fdiv (.x "_law_cell") (.bin .add (.bi .len [.x "_law_left"]) (.c (.int 1))))],
    .ret (.frz (.x "_law_made"))]⟩
noncomputable def f__law_turns_by : Fn := ⟨["_law_script", "_law_many_here", "_law_ties_here"], [.asg "_law_turns" (.mu (.disp [])),
    .for_ (.one "_law_point") (.bi .range [.x "_law_many_here"]) [.asg "_law_own" (.fz (.comp (.bin .sub (.bin .add (.item (.x "_law_tie") (.c (.int 0))) (.item (.x "_law_tie") (.c (.int 1)))) (.x "_law_point")) (.one "_law_tie") (.x "_law_ties_here") [.cmp (.x "_law_point") .isin (.x "_law_tie")])),
    .ex (.lm (.x "_law_turns") .append [.call "_law_order_by" [.bin .add (.bin .fdiv (.call "_law_cell_at" [.x "_law_script", .c (.int 2)]) (.bin .add (.c (.int 1)) (.bin .mul (.c (.int 3)) (.x "_law_point")))) (.bin .mul (.c (.int 31)) (.x "_law_point")), .fz (.sorted (.x "_law_own"))]])],
    .ret (.frz (.x "_law_turns"))]⟩
noncomputable def f__law_spoilt : Fn := ⟨["_law_turns", "_law_cell", "_law_point"], [.asg "_law_own" (.item (.x "_law_turns") (.x "_law_point")),
    .asg "_law_at" (.bin .mod (.bin .fdiv (.x "_law_cell") (.c (.int 16))) (.bin .add (.bi .len [.x "_law_own"]) (.c (.int 1)))),
    .asg "_law_odd" (.fz (.disp [.fz (.concat (.fz (.concat (.fz (.slice (.x "_law_own") Option.none (some (.x "_law_at")))) (.fz (.disp [.x "_law_point"])))) (.fz (.slice (.x "_law_own") (some (.x "_law_at")) Option.none))), .fz (.concat (.fz (.concat (.fz (.concat (.fz (.slice (.x "_law_own") Option.none (some (.x "_law_at")))) (.fz (.slice (.x "_law_own") Option.none (some (.c (.int 1))))))) (.fz (.slice (.x "_law_own") (some (.x "_law_at")) Option.none)))) (.fz (.slice (.x "_law_own") (some (.c (.int 1))) (some (.c (.int 2)))))), .fz (.concat (.fz (.slice (.x "_law_own") Option.none (some (.neg (.c (.int 1)))))) (.fz (.disp [.c (.bool true)])))])),
    .asg "_law_odd" (.fz (.concat (.x "_law_odd") (.fz (.disp [.fz (.concat (.x "_law_own") (.fz (.disp [.bi .len [.x "_law_turns"]]))), .fz (.concat (.x "_law_own") (.fz (.disp [.neg (.c (.int 1))]))), .fz (.concat (.fz (.slice (.x "_law_own") (some (.c (.int 1))) Option.none)) (.fz (.disp [.c (.str "0")]))), .fz (.concat (.x "_law_own") (.fz (.disp [.c .none]))), .bi .tuple [.x "_law_own"], .c .none, .fz (.concat (.x "_law_own") (.fz (.disp [.x "_law_own"]))), .fdict0])))),
    .ite (.cmp (.x "_law_own") .ne (.fz (.disp []))) [.asg "_law_odd" (.fz (.concat (.x "_law_odd") (.fz (.disp [.fz (.slice (.x "_law_own") (some (.c (.int 1))) Option.none), .fz (.slice (.x "_law_own") Option.none (some (.neg (.c (.int 1))))), .fz (.concat (.fz (.slice (.x "_law_own") Option.none (some (.neg (.c (.int 1)))))) (.fz (.slice (.x "_law_own") Option.none (some (.c (.int 1)))))), .fz (.comp (.ite (.cmp (.x "_law_one") .eq (.c (.int 1))) (.c (.bool true)) (.x "_law_one")) (.one "_law_one") (.x "_law_own") [])])))),
    .asg "_law_odd" (.fz (.concat (.x "_law_odd") (.fz (.disp [.fz (.comp (.ite (.cmp (.x "_law_one") .eq (.c (.int 0))) (.c (.bool false)) (.x "_law_one")) (.one "_law_one") (.x "_law_own") []), .fz (.concat (.fz (.slice (.x "_law_own") (some (.neg (.c (.int 1)))) Option.none)) (.fz (.slice (.x "_law_own") (some (.c (.int 1))) Option.none)))]))))] [],
    .asg "_law_made" (.fz (.concat (.fz (.concat (.fz (.slice (.x "_law_turns") Option.none (some (.x "_law_point")))) (.fz (.disp [.item (.x "_law_odd") (.bin .mod (.x "_law_cell") (.bi .len [.x "_law_odd"]))])))) (.fz (.slice (.x "_law_turns") (some (.bin .add (.x "_law_point") (.c (.int 1)))) Option.none)))),
    .ret (.x "_law_made")]⟩
noncomputable def f__law_is_right : Fn := ⟨["_law_turns", "_law_thing"], [.ite (.or [.not (.isi (.x "_law_thing") .list), .cmp (.bi .len [.x "_law_thing"]) .ne (.bi .len [.x "_law_turns"])]) [.ret (.c (.bool false))] [],
    .for_ (.one "_law_k") (.bi .range [.bi .len [.x "_law_turns"]]) [.ite (.or [.not (.isi (.item (.x "_law_thing") (.x "_law_k")) .list), .cmp (.bi .len [.item (.x "_law_thing") (.x "_law_k")]) .ne (.bi .len [.item (.x "_law_turns") (.x "_law_k")])]) [.ret (.c (.bool false))] [],
    .for_ (.one "_law_point") (.item (.x "_law_turns") (.x "_law_k")) [.ite (.cmp (.bi .len [.fz (.comp (.x "_law_one") (.one "_law_one") (.item (.x "_law_thing") (.x "_law_k")) [.and [.call "_law_whole" [.x "_law_one"], .cmp (.x "_law_one") .eq (.x "_law_point")]])]) .ne (.c (.int 1))) [.ret (.c (.bool false))] []]],
    .ret (.c (.bool true))]⟩
noncomputable def f__law_word : Fn := ⟨["_law_e"], [.asg "_law_word_here" (.sadd (.smul "web " (.bi .int [.isx (.x "_law_e") "NoWeb"])) (.smul "point " (.bi .int [.isx (.x "_law_e") "NoPoint"]))),
    .ret (.sadd (.sadd (.x "_law_word_here") (.smul "turns " (.bi .int [.isx (.x "_law_e") "NoTurns"]))) (.smul "value" (.bi .int [.isx (.x "_law_e") "ValueError"])))]⟩
noncomputable def f__law_refused : Fn := ⟨["_law_web", "_law_thing", "_law_way"], [.tryW [.ite (.cmp (.x "_law_way") .eq (.c (.int 0))) [.exC "walks" [.x "_law_web", .x "_law_thing"]] [.exC "flat" [.x "_law_web", .x "_law_thing"]]] "_law_e" (.cmp (.call "_law_word" [.x "_law_e"]) .eq (.c (.str "turns value"))),
    .ret (.c (.bool false))]⟩
noncomputable def f_law : Fn := ⟨["_law_script"], [.asg "_law_many_here" (.call "_law_many" [.x "_law_script"]),
    .asg "_law_ties_here" (.call "_law_ties" [.x "_law_script", .x "_law_many_here"]),
    .asg "_law_turns" (.call "_law_turns_by" [.x "_law_script", .x "_law_many_here", .x "_law_ties_here"]),
    .asg "_law_web" (.new "Web" [.x "_law_many_here", .fz (.copy (.x "_law_ties_here"))]),
    .asg "_law_cell" (.call "_law_cell_at" [.x "_law_script", .c (.int 3)]),
    .asg "_law_thing" (.fz (.comp (.fz (.copy (.x "_law_turn"))) (.one "_law_turn") (.x "_law_turns") [])),
    .ite (.cmp (.bin .mod (.x "_law_cell") (.c (.int 3))) .eq (.c (.int 1))) [.asg "_law_thing" (.call "_law_spoilt" [.x "_law_thing", .bin .fdiv (.x "_law_cell") (.c (.int 3)), .bin .mod (.bin .fdiv (.x "_law_cell") (.c (.int 48))) (.x "_law_many_here")])] [],
    .ite (.cmp (.bin .mod (.x "_law_cell") (.c (.int 3))) .eq (.c (.int 2))) [.asg "_law_odd" (.fz (.disp [.fz (.slice (.x "_law_turns") Option.none (some (.neg (.c (.int 1))))), .fz (.concat (.x "_law_turns") (.fz (.disp [.fz (.disp [])]))), .bi .tuple [.x "_law_turns"], .c .none, .c (.str "turns"), .c (.int 7), .fdict0, .fz (.disp []), .c (.bool true)])),
    .asg "_law_thing" (.item (.x "_law_odd") (.bin .mod (.bin .fdiv (.x "_law_cell") (.c (.int 3))) (.c (.int 9))))] [],
    .asg "_law_kept" (.x "_law_thing"),
    .ite (.isi (.x "_law_thing") .list) [.asg "_law_kept" (.fz (.copy (.x "_law_thing")))] [],
    .asg "_law_due" (.call "_law_is_right" [.x "_law_turns", .x "_law_thing"]),
    .ite (.cmp (.call "are_turns" [.x "_law_web", .fz (.comp (.fz (.copy (.x "_law_turn"))) (.one "_law_turn") (.x "_law_turns") [])]) .isn (.c (.bool true))) [.ret (.c (.bool false))] [],
    .asg "_law_seen" (.call "are_turns" [.x "_law_web", .x "_law_thing"]),
    .ite (.or [.not (.isi (.x "_law_seen") .bool), .cmp (.x "_law_seen") .ne (.x "_law_due"), .cmp (.x "_law_thing") .ne (.x "_law_kept")]) [.ret (.c (.bool false))] [],
    .ret (.or [.x "_law_due", .and [.call "_law_refused" [.x "_law_web", .x "_law_thing", .c (.int 0)], .call "_law_refused" [.x "_law_web", .x "_law_thing", .c (.int 1)]]])]⟩
noncomputable def ltab : List (String × Fn) := [("are_turns", f_are_turns), ("walks", f_walks), ("flat", f_flat), ("_law_many", f__law_many), ("_law_ties", f__law_ties), ("_law_order_by", f__law_order_by), ("_law_turns_by", f__law_turns_by), ("_law_spoilt", f__law_spoilt), ("_law_is_right", f__law_is_right), ("_law_word", f__law_word), ("_law_refused", f__law_refused), ("law", f_law)]
noncomputable def tab : List (String × Fn) := wtab ++ ltab
end Fl

/-! turns (own work) -/
namespace Fl
open PySem (Str)
set_option linter.unusedSimpArgs false
set_option linter.unusedSectionVars false

noncomputable def lV (l : List Int) : V := .list (l.map V.int)
noncomputable def lsV (ls : List (List Int)) : V := .list (ls.map lV)
theorem eqOk_lV (l : List Int) : eqOk (lV l) = true := eqOk_ints l
theorem eq_nil {σ : H} {a : A} {l : List Int} (h : valOf σ a = some (lV l)) : cmpSem σ .eq a (.v (.list [])) = some l.isEmpty := by
  show ((valOf σ a).bind _).or _ = _
  rw [h]
  show (eqV (lV l) (.list [])).or _ = _
  unfold eqV
  rw [eqOk_lV, show eqOk (V.list []) = true from rfl]
  cases l <;> rfl
theorem ne_nil {σ : H} {a : A} {l : List Int} (h : valOf σ a = some (lV l)) : cmpSem σ .ne a (.v (.list [])) = some (!l.isEmpty) := by
  show (cmpSem σ .eq a (.v (.list []))).map _ = _
  rw [eq_nil h]; rfl
theorem valOf_ref {σ : H} {i : Nat} {xs : List V} (h : σ[i]? = some (.list xs)) : valOf σ (.ref i) = some (.list xs) := by
  show (σ[i]?).bind _ = _
  rw [h]; rfl

theorem erase_map : ∀ (L : List Int) (j : Nat), (L.map V.int).eraseIdx j = (L.eraseIdx j).map V.int
  | [], _ => rfl
  | _ :: _, 0 => rfl
  | _ :: L, j + 1 => by simp [erase_map L j]

theorem erase_perm : ∀ (L : List Int) (j : Nat) (h : j < L.length), (L[j] :: L.eraseIdx j).Perm L
  | [], _, h => by simp at h
  | _ :: _, 0, _ => .refl _
  | x :: L, j + 1, h => by
    have ih := erase_perm L j (by simpa using h)
    simp only [List.getElem_cons_succ, List.eraseIdx_cons_succ]
    exact (List.Perm.swap _ _ _).trans (ih.cons x)

theorem order_by_ok {C : CallSem} {tab : List (String × Fn)} (hC : Closed C tab) (hf : ("_law_order_by", f__law_order_by) ∈ tab) {σ : H} {c : Int} {row : List Int} {K X} (hl : row.length < 1000)
    (h : ∀ T σ', T.Perm row → σ <+: σ' → K (.v (lV T)) σ') : C "_law_order_by" [iv c, .v (lV row)] σ K X := by
  refine run_of hC hf rfl ?_
  unfold f__law_order_by lV
  dsimp only
  refine nx fun k kn kr _ _ => ?_
  simp only [ya, yb, yc, yd, ye, yf, yg, yh, yi, yj, yk, yl, ym, yn, yo, yp, yq, yr, yt, yu, yv, yw, yx, yy, yz, yA, yB, yC, yD, yE, yF, yG, yH, yI, yJ, yK, yL, yM, yN, yO, yP, yQ, yR, yS, yT, yU, yV, yW, yX, yY, yZ, y0, y4, y5, y6, y7, y8, y9, Yb, Yc, Yd, Ye, Yg, Yh, Yi, Yj, Yk, Yl, Ym, Yn, Yo, String.reduceEq, if_true, if_false, reduceIte, ↓reduceIte, Yp, Yq, Yr, Ys, Yt, Yu, Yv, Yw, Yx, Yy, Yz, YA, YB, YC, YD, YE, YF, YG, YH, YI, YJ, YK, YL, YM, YN, YO, YP, YQ, YR, YS, YT, YU, YV, YW, Option.map_some, Option.bind_some, List.map_cons, List.map_nil, List.getElem?_cons_zero, List.getElem?_cons_succ, decide_eq_true_eq, List.length_cons, List.length_nil, Nat.reduceAdd, ne_eq, true_and, and_true, not_false_eq_true, not_true_eq_false, Int.reduceEq, Int.reduceNeg, Int.reduceAdd, Int.reduceLT, Int.reduceLE, reduceCtorEq, or_false, false_or, or_true, decide_true, decide_false, Bool.not_true, Bool.not_false, Bool.false_eq_true, Bool.true_eq_false, YX, YY, YZ, Y0, Y1, Y2, Y3, Y4]
  simp only [seqV_list, Yo, small, List.length_map]
  refine ⟨by omega, kn _ _ ?_⟩
  refine nx fun k kn kr _ _ => ?_
  simp only [ya, yb, yc, yd, ye, yf, yg, yh, yi, yj, yk, yl, ym, yn, yo, yp, yq, yr, yt, yu, yv, yw, yx, yy, yz, yA, yB, yC, yD, yE, yF, yG, yH, yI, yJ, yK, yL, yM, yN, yO, yP, yQ, yR, yS, yT, yU, yV, yW, yX, yY, yZ, y0, y4, y5, y6, y7, y8, y9, Yb, Yc, Yd, Ye, Yg, Yh, Yi, Yj, Yk, Yl, Ym, Yn, Yo, String.reduceEq, if_true, if_false, reduceIte, ↓reduceIte, Yp, Yq, Yr, Ys, Yt, Yu, Yv, Yw, Yx, Yy, Yz, YA, YB, YC, YD, YE, YF, YG, YH, YI, YJ, YK, YL, YM, YN, YO, YP, YQ, YR, YS, YT, YU, YV, YW, Option.map_some, Option.bind_some, List.map_cons, List.map_nil, List.getElem?_cons_zero, List.getElem?_cons_succ, decide_eq_true_eq, List.length_cons, List.length_nil, Nat.reduceAdd, ne_eq, true_and, and_true, not_false_eq_true, not_true_eq_false, Int.reduceEq, Int.reduceNeg, Int.reduceAdd, Int.reduceLT, Int.reduceLE, reduceCtorEq, or_false, false_or, or_true, decide_true, decide_false, Bool.not_true, Bool.not_false, Bool.false_eq_true, Bool.true_eq_false, YX, YY, YZ, Y0, Y1, Y2, Y3, Y4]
  simp only [small, List.length_nil]
  refine ⟨by decide, kn _ _ ?_⟩
  refine nx fun k kn kr _ _ => ?_
  simp only [ya, yb, yc, yd, ye, yf, yg, yh, yi, yj, yk, yl, ym, yn, yo, yp, yq, yr, yt, yu, yv, yw, yx, yy, yz, yA, yB, yC, yD, yE, yF, yG, yH, yI, yJ, yK, yL, yM, yN, yO, yP, yQ, yR, yS, yT, yU, yV, yW, yX, yY, yZ, y0, y4, y5, y6, y7, y8, y9, Yb, Yc, Yd, Ye, Yg, Yh, Yi, Yj, Yk, Yl, Ym, Yn, Yo, String.reduceEq, if_true, if_false, reduceIte, ↓reduceIte, Yp, Yq, Yr, Ys, Yt, Yu, Yv, Yw, Yx, Yy, Yz, YA, YB, YC, YD, YE, YF, YG, YH, YI, YJ, YK, YL, YM, YN, YO, YP, YQ, YR, YS, YT, YU, YV, YW, Option.map_some, Option.bind_some, List.map_cons, List.map_nil, List.getElem?_cons_zero, List.getElem?_cons_succ, decide_eq_true_eq, List.length_cons, List.length_nil, Nat.reduceAdd, ne_eq, true_and, and_true, not_false_eq_true, not_true_eq_false, Int.reduceEq, Int.reduceNeg, Int.reduceAdd, Int.reduceLT, Int.reduceLE, reduceCtorEq, or_false, false_or, or_true, decide_true, decide_false, Bool.not_true, Bool.not_false, Bool.false_eq_true, Bool.true_eq_false, YX, YY, YZ, Y0, Y1, Y2, Y3, Y4]
  have hlen : ∀ (o : O), (σ ++ [o]).length = σ.length + 1 := fun o => by simp
  have a1 : ∀ (o o' : O), (σ ++ [o] ++ [o'])[σ.length]? = some o := fun o o' => by simp
  have a2 : ∀ (o o' : O), (σ ++ [o] ++ [o'])[σ.length + 1]? = some o' := fun o o' => by simp
  have s1 : ∀ (o o' p : O), List.set (σ ++ [o] ++ [o']) σ.length p = σ ++ [p] ++ [o'] := fun o o' p => by simp [List.set_append]
  have s2 : ∀ (o o' p : O), List.set (σ ++ [o] ++ [o']) (σ.length + 1) p = σ ++ [o] ++ [p] := fun o o' p => by simp [List.set_append]
  have hpre : ∀ (o o' : O), σ <+: σ ++ [o] ++ [o'] := fun o o' => by rw [List.append_assoc]; exact List.prefix_append _ _
  rw [hlen]
  refine whileN_inv (fun q m σ' => m "_law_left" = some (.ref σ.length) ∧ m "_law_made" = some (.ref (σ.length + 1)) ∧ ∃ (left made : List Int) (c : Int), m "_law_cell" = some (iv c) ∧ σ' = σ ++ [.list (left.map V.int)] ++ [.list (made.map V.int)] ∧ (made ++ left).Perm row ∧ q = left.length) ?_ row.length _ _ ⟨by simp [Yn], by simp [Yn], row, [], c, by simp [Yn], rfl, .refl _, rfl⟩
  rintro q m σ' K₁ ⟨m1, m2, left, made, c, m3, rfl, hp, hq⟩ hend hbody
  simp only [m1, Yo, small, List.length_nil]
  refine ⟨by decide, ?_⟩
  rw [ne_nil (l := left) (by rw [valOf_ref (a1 _ _)]; rfl)]
  simp only [Yo]
  have hpl := hp.length_eq
  simp only [List.length_append] at hpl
  cases left with
  | nil =>
    refine hend _ (kn _ _ ?_)
    refine nx fun k kn kr _ _ => ?_
    simp only [ya, yb, yc, yd, ye, yf, yg, yh, yi, yj, yk, yl, ym, yn, yo, yp, yq, yr, yt, yu, yv, yw, yx, yy, yz, yA, yB, yC, yD, yE, yF, yG, yH, yI, yJ, yK, yL, yM, yN, yO, yP, yQ, yR, yS, yT, yU, yV, yW, yX, yY, yZ, y0, y4, y5, y6, y7, y8, y9, Yb, Yc, Yd, Ye, Yg, Yh, Yi, Yj, Yk, Yl, Ym, Yn, Yo, String.reduceEq, if_true, if_false, reduceIte, ↓reduceIte, Yp, Yq, Yr, Ys, Yt, Yu, Yv, Yw, Yx, Yy, Yz, YA, YB, YC, YD, YE, YF, YG, YH, YI, YJ, YK, YL, YM, YN, YO, YP, YQ, YR, YS, YT, YU, YV, YW, Option.map_some, Option.bind_some, List.map_cons, List.map_nil, List.getElem?_cons_zero, List.getElem?_cons_succ, decide_eq_true_eq, List.length_cons, List.length_nil, Nat.reduceAdd, ne_eq, true_and, and_true, not_false_eq_true, not_true_eq_false, Int.reduceEq, Int.reduceNeg, Int.reduceAdd, Int.reduceLT, Int.reduceLE, reduceCtorEq, or_false, false_or, or_true, decide_true, decide_false, Bool.not_true, Bool.not_false, Bool.false_eq_true, Bool.true_eq_false, YX, YY, YZ, Y0, Y1, Y2, Y3, Y4]
    simp only [m2, Yo]
    refine frz_at (a2 _ _) (kr _ _ _ (h made _ (by simpa using hp) ?_))
    rw [s2]; exact hpre _ _
  | cons x left =>
    refine hbody _ fun K' hn1 _ _ _ => ?_
    generalize hL : x :: left = L at *
    have hLl : 0 < L.length := by rw [← hL]; simp
    have hlw : lenA (σ ++ [.list (L.map V.int)] ++ [.list (made.map V.int)]) (.ref σ.length) = some L.length := by rw [lenA_of_list (listV_ref (a1 _ _)), List.length_map]
    refine nx fun k kn kr _ _ => ?_
    simp only [ya, yb, yc, yd, ye, yf, yg, yh, yi, yj, yk, yl, ym, yn, yo, yp, yq, yr, yt, yu, yv, yw, yx, yy, yz, yA, yB, yC, yD, yE, yF, yG, yH, yI, yJ, yK, yL, yM, yN, yO, yP, yQ, yR, yS, yT, yU, yV, yW, yX, yY, yZ, y0, y4, y5, y6, y7, y8, y9, Yb, Yc, Yd, Ye, Yg, Yh, Yi, Yj, Yk, Yl, Ym, Yn, Yo, String.reduceEq, if_true, if_false, reduceIte, ↓reduceIte, Yp, Yq, Yr, Ys, Yt, Yu, Yv, Yw, Yx, Yy, Yz, YA, YB, YC, YD, YE, YF, YG, YH, YI, YJ, YK, YL, YM, YN, YO, YP, YQ, YR, YS, YT, YU, YV, YW, Option.map_some, Option.bind_some, List.map_cons, List.map_nil, List.getElem?_cons_zero, List.getElem?_cons_succ, decide_eq_true_eq, List.length_cons, List.length_nil, Nat.reduceAdd, ne_eq, true_and, and_true, not_false_eq_true, not_true_eq_false, Int.reduceEq, Int.reduceNeg, Int.reduceAdd, Int.reduceLT, Int.reduceLE, reduceCtorEq, or_false, false_or, or_true, decide_true, decide_false, Bool.not_true, Bool.not_false, Bool.false_eq_true, Bool.true_eq_false, YX, YY, YZ, Y0, Y1, Y2, Y3, Y4]
    simp only [m1, m2, m3, Yo, isL_l (a1 _ _), isL_l (a2 _ _), true_and, hlw]
    simp only [ya, yb, yc, yd, ye, yf, yg, yh, yi, yj, yk, yl, ym, yn, yo, yp, yq, yr, yt, yu, yv, yw, yx, yy, yz, yA, yB, yC, yD, yE, yF, yG, yH, yI, yJ, yK, yL, yM, yN, yO, yP, yQ, yR, yS, yT, yU, yV, yW, yX, yY, yZ, y0, y4, y5, y6, y7, y8, y9, Yb, Yc, Yd, Ye, Yg, Yh, Yi, Yj, Yk, Yl, Ym, Yn, Yo, String.reduceEq, if_true, if_false, reduceIte, ↓reduceIte, Yp, Yq, Yr, Ys, Yt, Yu, Yv, Yw, Yx, Yy, Yz, YA, YB, YC, YD, YE, YF, YG, YH, YI, YJ, YK, YL, YM, YN, YO, YP, YQ, YR, YS, YT, YU, YV, YW, Option.map_some, Option.bind_some, List.map_cons, List.map_nil, List.getElem?_cons_zero, List.getElem?_cons_succ, decide_eq_true_eq, List.length_cons, List.length_nil, Nat.reduceAdd, ne_eq, true_and, and_true, not_false_eq_true, not_true_eq_false, Int.reduceEq, Int.reduceNeg, Int.reduceAdd, Int.reduceLT, Int.reduceLE, reduceCtorEq, or_false, false_or, or_true, decide_true, decide_false, Bool.not_true, Bool.not_false, Bool.false_eq_true, Bool.true_eq_false, YX, YY, YZ, Y0, Y1, Y2, Y3, Y4]
    refine ⟨by omega, ?_⟩
    have hf := fm (a := c) (n := (L.length : Int)) (by omega)
    generalize hj : (c.fmod L.length).toNat = j at *
    have hjl : j < L.length := by omega
    have hix : idx (L.map V.int).length (c.fmod L.length) = some j := by
      rw [idx_int hf.1 (by simp; omega), hj]
    have hgj : (L.map V.int)[j]? = some (.int L[j]) := by simp [hjl]
    have hle := List.length_eraseIdx_le (L.map V.int) j
    rw [List.length_map] at hle
    refine put_at (ys := (L.map V.int).eraseIdx j) (x := .int L[j]) (a1 _ _) (by rw [hix, Option.bind_some, hgj]; rfl) (by omega) ?_
    rw [s1]
    refine app_put (a2 _ _) (by rw [List.length_map]; omega) ?_
    rw [s2]
    refine kn _ _ ?_
    have ee : (L.map V.int).eraseIdx j = (L.eraseIdx j).map V.int := erase_map L j
    have em : made.map V.int ++ [V.int L[j]] = (made ++ [L[j]]).map V.int := by simp
    rw [ee, em]
    refine nx fun k kn kr _ _ => ?_
    simp only [ya, yb, yc, yd, ye, yf, yg, yh, yi, yj, yk, yl, ym, yn, yo, yp, yq, yr, yt, yu, yv, yw, yx, yy, yz, yA, yB, yC, yD, yE, yF, yG, yH, yI, yJ, yK, yL, yM, yN, yO, yP, yQ, yR, yS, yT, yU, yV, yW, yX, yY, yZ, y0, y4, y5, y6, y7, y8, y9, Yb, Yc, Yd, Ye, Yg, Yh, Yi, Yj, Yk, Yl, Ym, Yn, Yo, String.reduceEq, if_true, if_false, reduceIte, ↓reduceIte, Yp, Yq, Yr, Ys, Yt, Yu, Yv, Yw, Yx, Yy, Yz, YA, YB, YC, YD, YE, YF, YG, YH, YI, YJ, YK, YL, YM, YN, YO, YP, YQ, YR, YS, YT, YU, YV, YW, Option.map_some, Option.bind_some, List.map_cons, List.map_nil, List.getElem?_cons_zero, List.getElem?_cons_succ, decide_eq_true_eq, List.length_cons, List.length_nil, Nat.reduceAdd, ne_eq, true_and, and_true, not_false_eq_true, not_true_eq_false, Int.reduceEq, Int.reduceNeg, Int.reduceAdd, Int.reduceLT, Int.reduceLE, reduceCtorEq, or_false, false_or, or_true, decide_true, decide_false, Bool.not_true, Bool.not_false, Bool.false_eq_true, Bool.true_eq_false, YX, YY, YZ, Y0, Y1, Y2, Y3, Y4]
    have hel : (L.eraseIdx j).length = L.length - 1 := List.length_eraseIdx_of_lt hjl
    have hlw' : lenA (σ ++ [.list ((L.eraseIdx j).map V.int)] ++ [.list ((made ++ [L[j]]).map V.int)]) (.ref σ.length) = some (L.eraseIdx j).length := by rw [lenA_of_list (listV_ref (a1 _ _)), List.length_map]
    simp only [m1, m3, Yo, hlw']
    simp only [ya, yb, yc, yd, ye, yf, yg, yh, yi, yj, yk, yl, ym, yn, yo, yp, yq, yr, yt, yu, yv, yw, yx, yy, yz, yA, yB, yC, yD, yE, yF, yG, yH, yI, yJ, yK, yL, yM, yN, yO, yP, yQ, yR, yS, yT, yU, yV, yW, yX, yY, yZ, y0, y4, y5, y6, y7, y8, y9, Yb, Yc, Yd, Ye, Yg, Yh, Yi, Yj, Yk, Yl, Ym, Yn, Yo, String.reduceEq, if_true, if_false, reduceIte, ↓reduceIte, Yp, Yq, Yr, Ys, Yt, Yu, Yv, Yw, Yx, Yy, Yz, YA, YB, YC, YD, YE, YF, YG, YH, YI, YJ, YK, YL, YM, YN, YO, YP, YQ, YR, YS, YT, YU, YV, YW, Option.map_some, Option.bind_some, List.map_cons, List.map_nil, List.getElem?_cons_zero, List.getElem?_cons_succ, decide_eq_true_eq, List.length_cons, List.length_nil, Nat.reduceAdd, ne_eq, true_and, and_true, not_false_eq_true, not_true_eq_false, Int.reduceEq, Int.reduceNeg, Int.reduceAdd, Int.reduceLT, Int.reduceLE, reduceCtorEq, or_false, false_or, or_true, decide_true, decide_false, Bool.not_true, Bool.not_false, Bool.false_eq_true, Bool.true_eq_false, YX, YY, YZ, Y0, Y1, Y2, Y3, Y4]
    refine ⟨by omega, by omega, kn _ _ ?_⟩
    simp only [ya, yb, yc, yd, ye, yf, yg, yh, yi, yj, yk, yl, ym, yn, yo, yp, yq, yr, yt, yu, yv, yw, yx, yy, yz, yA, yB, yC, yD, yE, yF, yG, yH, yI, yJ, yK, yL, yM, yN, yO, yP, yQ, yR, yS, yT, yU, yV, yW, yX, yY, yZ, y0, y4, y5, y6, y7, y8, y9, Yb, Yc, Yd, Ye, Yg, Yh, Yi, Yj, Yk, Yl, Ym, Yn, Yo, String.reduceEq, if_true, if_false, reduceIte, ↓reduceIte, Yp, Yq, Yr, Ys, Yt, Yu, Yv, Yw, Yx, Yy, Yz, YA, YB, YC, YD, YE, YF, YG, YH, YI, YJ, YK, YL, YM, YN, YO, YP, YQ, YR, YS, YT, YU, YV, YW, Option.map_some, Option.bind_some, List.map_cons, List.map_nil, List.getElem?_cons_zero, List.getElem?_cons_succ, decide_eq_true_eq, List.length_cons, List.length_nil, Nat.reduceAdd, ne_eq, true_and, and_true, not_false_eq_true, not_true_eq_false, Int.reduceEq, Int.reduceNeg, Int.reduceAdd, Int.reduceLT, Int.reduceLE, reduceCtorEq, or_false, false_or, or_true, decide_true, decide_false, Bool.not_true, Bool.not_false, Bool.false_eq_true, Bool.true_eq_false, YX, YY, YZ, Y0, Y1, Y2, Y3, Y4]
    refine hn1 (L.eraseIdx j).length _ _ (by omega) ⟨by simp [Yn, m1], by simp [Yn, m2], L.eraseIdx j, made ++ [L[j]], c.fdiv ((L.eraseIdx j).length + 1), by simp [Yn], rfl, ?_, rfl⟩
    refine List.Perm.trans ?_ hp
    rw [List.append_assoc]
    refine List.Perm.append_left _ ?_
    show (L[j] :: L.eraseIdx j).Perm L
    exact erase_perm L j hjl

/-- what the law tells of a point: the other ends of its ties -/
noncomputable def othI (ts : List (Int × Int)) (i : Int) : List Int := (ts.filter fun p => decide (i = p.1 ∨ i = p.2)).map fun p => p.1 + p.2 - i

theorem oth_mem {ts : List (Int × Int)} {i j : Int} : j ∈ othI ts i ↔ (i, j) ∈ ts ∨ (j, i) ∈ ts := by
  unfold othI
  simp only [List.mem_map, List.mem_filter, decide_eq_true_eq]
  constructor
  · rintro ⟨⟨a, b⟩, ⟨h, h' | h'⟩, e⟩
    · simp only at h' e; subst h'
      left; rw [show j = b by omega]; exact h
    · simp only at h' e; subst h'
      right; rw [show j = a by omega]; exact h
  · rintro (h | h)
    · exact ⟨_, ⟨h, .inl rfl⟩, by simp only; omega⟩
    · exact ⟨_, ⟨h, .inr rfl⟩, by simp only; omega⟩
theorem oth_perm {n : Int} {ts : List (Int × Int)} (G : GoodT n ts) (i : Int) : (othI ts i).Perm (ownI n ts i) := by
  refine perm_of ?_ (((rngI_lt n).imp fun h => by omega : (rngI n).Nodup).filter _) fun j => ?_
  · unfold othI
    have hnd : (ts.map nm).Nodup := G.nd
    have hf : ((ts.filter fun p => decide (i = p.1 ∨ i = p.2)).map nm).Nodup := hnd.sublist (List.filter_sublist.map _)
    unfold List.Nodup at hf ⊢
    rw [List.pairwise_map] at hf ⊢
    refine hf.imp_of_mem fun {p q} hp hq h e => h ?_
    have hp := (List.mem_filter.mp hp).2
    have hq := (List.mem_filter.mp hq).2
    simp only [decide_eq_true_eq] at hp hq
    simp only [nm, Prod.mk.injEq]
    omega
  · rw [oth_mem]
    unfold ownI
    rw [List.mem_filter, rngI_mem]
    unfold adj
    simp only [Bool.or_eq_true, decide_eq_true_eq]
    refine ⟨fun h => ⟨?_, h⟩, fun h => h.2⟩
    rcases h with h | h
    · have := G.rng _ h; simp only at this; omega
    · have := G.rng _ h; simp only at this; omega
theorem own_len {n : Int} (hn : n ≤ 16) (ts : List (Int × Int)) (i : Int) : (ownI n ts i).length ≤ 16 := by
  have := List.length_filter_le (adj ts i) (rngI n)
  unfold ownI
  unfold rngI at this ⊢
  simp at this ⊢
  omega

/-- turns: for each point its neighbours in some order -/
structure Turns (n : Int) (ts : List (Int × Int)) (Ts : List (List Int)) : Prop where
  len : Ts.length = n.toNat
  perm : ∀ i : Nat, ∀ T, Ts[i]? = some T → T.Perm (ownI n ts i)

theorem in_tup2 (σ : H) (i a b : Int) : inSem σ (iv i) (.v (.tup [.int a, .int b])) = some (decide (i = a ∨ i = b)) := by
  have h : inSem σ (iv i) (.v (.tup [.int a, .int b])) = some (([V.int a, V.int b]).any fun k => peq k (.int i)) := by
    rfl
  rw [h]
  simp only [List.any_cons, List.any_nil, peq_ii, Bool.or_false]
  congr 1
  by_cases q1 : a = i <;> by_cases q2 : b = i <;> simp [q1, q2] <;> omega

theorem oth_comp {C : CallSem} {σ : H} {ts : List (Int × Int)} {i : Int} {m : Loc} {src : A} {its : List A} {K : List V → H → Prop} {X} (hm : m "_law_point" = some (iv i)) (hS : Stay σ src its) (hK : K ((othI ts i).map V.int) σ) :
    compLoop (fun m σ K => xTs C true [.cmp (.x "_law_point") .isin (.x "_law_tie")] m σ K X) (fun m σ K => xE C (.bin .sub (.bin .add (.item (.x "_law_tie") (.c (.int 0))) (.item (.x "_law_tie") (.c (.int 1)))) (.x "_law_point")) m σ K X) (.one "_law_tie") src its m (ts.map fun p => A.v (tV p)) σ [] K := by
  refine compLoop_filter (fun p => A.v (tV p)) (fun p => V.int (p.1 + p.2 - i)) (fun p => decide (i = p.1 ∨ i = p.2)) hS ts [] (fun p _ K h => ?_) (fun p _ _ K h => ?_) ?_
  · unfold tV
    simp only [ya, yb, yc, yd, ye, yf, yg, yh, yi, yj, yk, yl, ym, yn, yo, yp, yq, yr, yt, yu, yv, yw, yx, yy, yz, yA, yB, yC, yD, yE, yF, yG, yH, yI, yJ, yK, yL, yM, yN, yO, yP, yQ, yR, yS, yT, yU, yV, yW, yX, yY, yZ, y0, y4, y5, y6, y7, y8, y9, Yb, Yc, Yd, Ye, Yg, Yh, Yi, Yj, Yk, Yl, Ym, Yn, Yo, String.reduceEq, if_true, if_false, reduceIte, ↓reduceIte, Yp, Yq, Yr, Ys, Yt, Yu, Yv, Yw, Yx, Yy, Yz, YA, YB, YC, YD, YE, YF, YG, YH, YI, YJ, YK, YL, YM, YN, YO, YP, YQ, YR, YS, YT, YU, YV, YW, Option.map_some, Option.bind_some, List.map_cons, List.map_nil, List.getElem?_cons_zero, List.getElem?_cons_succ, decide_eq_true_eq, List.length_cons, List.length_nil, Nat.reduceAdd, ne_eq, true_and, and_true, not_false_eq_true, not_true_eq_false, Int.reduceEq, Int.reduceNeg, Int.reduceAdd, Int.reduceLT, Int.reduceLE, reduceCtorEq, or_false, false_or, or_true, decide_true, decide_false, Bool.not_true, Bool.not_false, Bool.false_eq_true, Bool.true_eq_false, YX, YY, YZ, Y0, Y1, Y2, Y3, Y4]
    simp only [hm, Yo, in_tup2]
    by_cases q : i = p.1 ∨ i = p.2
    · simpa [q] using h
    · simpa [q] using h
  · unfold tV
    simp only [ya, yb, yc, yd, ye, yf, yg, yh, yi, yj, yk, yl, ym, yn, yo, yp, yq, yr, yt, yu, yv, yw, yx, yy, yz, yA, yB, yC, yD, yE, yF, yG, yH, yI, yJ, yK, yL, yM, yN, yO, yP, yQ, yR, yS, yT, yU, yV, yW, yX, yY, yZ, y0, y4, y5, y6, y7, y8, y9, Yb, Yc, Yd, Ye, Yg, Yh, Yi, Yj, Yk, Yl, Ym, Yn, Yo, String.reduceEq, if_true, if_false, reduceIte, ↓reduceIte, Yp, Yq, Yr, Ys, Yt, Yu, Yv, Yw, Yx, Yy, Yz, YA, YB, YC, YD, YE, YF, YG, YH, YI, YJ, YK, YL, YM, YN, YO, YP, YQ, YR, YS, YT, YU, YV, YW, Option.map_some, Option.bind_some, List.map_cons, List.map_nil, List.getElem?_cons_zero, List.getElem?_cons_succ, decide_eq_true_eq, List.length_cons, List.length_nil, Nat.reduceAdd, ne_eq, true_and, and_true, not_false_eq_true, not_true_eq_false, Int.reduceEq, Int.reduceNeg, Int.reduceAdd, Int.reduceLT, Int.reduceLE, reduceCtorEq, or_false, false_or, or_true, decide_true, decide_false, Bool.not_true, Bool.not_false, Bool.false_eq_true, Bool.true_eq_false, YX, YY, YZ, Y0, Y1, Y2, Y3, Y4]
    simp only [hm, Yo]
    simp only [ya, yb, yc, yd, ye, yf, yg, yh, yi, yj, yk, yl, ym, yn, yo, yp, yq, yr, yt, yu, yv, yw, yx, yy, yz, yA, yB, yC, yD, yE, yF, yG, yH, yI, yJ, yK, yL, yM, yN, yO, yP, yQ, yR, yS, yT, yU, yV, yW, yX, yY, yZ, y0, y4, y5, y6, y7, y8, y9, Yb, Yc, Yd, Ye, Yg, Yh, Yi, Yj, Yk, Yl, Ym, Yn, Yo, String.reduceEq, if_true, if_false, reduceIte, ↓reduceIte, Yp, Yq, Yr, Ys, Yt, Yu, Yv, Yw, Yx, Yy, Yz, YA, YB, YC, YD, YE, YF, YG, YH, YI, YJ, YK, YL, YM, YN, YO, YP, YQ, YR, YS, YT, YU, YV, YW, Option.map_some, Option.bind_some, List.map_cons, List.map_nil, List.getElem?_cons_zero, List.getElem?_cons_succ, decide_eq_true_eq, List.length_cons, List.length_nil, Nat.reduceAdd, ne_eq, true_and, and_true, not_false_eq_true, not_true_eq_false, Int.reduceEq, Int.reduceNeg, Int.reduceAdd, Int.reduceLT, Int.reduceLE, reduceCtorEq, or_false, false_or, or_true, decide_true, decide_false, Bool.not_true, Bool.not_false, Bool.false_eq_true, Bool.true_eq_false, YX, YY, YZ, Y0, Y1, Y2, Y3, Y4]
    exact h
  · unfold othI at hK
    simpa [Function.comp_def] using hK

theorem turns_by_ok {C : CallSem} {tab : List (String × Fn)} (hC : Closed C tab) (hW : Closed C wtab) (hf : ("_law_turns_by", f__law_turns_by) ∈ tab) (hf' : ("_law_order_by", f__law_order_by) ∈ tab) {σ : H} {n : Int} {ns : List Int} {ts : List (Int × Int)} {K X} (hn : 1 ≤ n) (hn' : n ≤ 16) (G : GoodT n ts)
    (h : ∀ Ts σ', Turns n ts Ts → σ <+: σ' → K (.v (lsV Ts)) σ') : C "_law_turns_by" [.v (.list (ns.map V.int)), iv n, .v (.list (ts.map tV))] σ K X := by
  refine run_of hC hf rfl ?_
  unfold f__law_turns_by
  dsimp only
  refine nx fun k kn kr _ _ => ?_
  simp only [ya, yb, yc, yd, ye, yf, yg, yh, yi, yj, yk, yl, ym, yn, yo, yp, yq, yr, yt, yu, yv, yw, yx, yy, yz, yA, yB, yC, yD, yE, yF, yG, yH, yI, yJ, yK, yL, yM, yN, yO, yP, yQ, yR, yS, yT, yU, yV, yW, yX, yY, yZ, y0, y4, y5, y6, y7, y8, y9, Yb, Yc, Yd, Ye, Yg, Yh, Yi, Yj, Yk, Yl, Ym, Yn, Yo, String.reduceEq, if_true, if_false, reduceIte, ↓reduceIte, Yp, Yq, Yr, Ys, Yt, Yu, Yv, Yw, Yx, Yy, Yz, YA, YB, YC, YD, YE, YF, YG, YH, YI, YJ, YK, YL, YM, YN, YO, YP, YQ, YR, YS, YT, YU, YV, YW, Option.map_some, Option.bind_some, List.map_cons, List.map_nil, List.getElem?_cons_zero, List.getElem?_cons_succ, decide_eq_true_eq, List.length_cons, List.length_nil, Nat.reduceAdd, ne_eq, true_and, and_true, not_false_eq_true, not_true_eq_false, Int.reduceEq, Int.reduceNeg, Int.reduceAdd, Int.reduceLT, Int.reduceLE, reduceCtorEq, or_false, false_or, or_true, decide_true, decide_false, Bool.not_true, Bool.not_false, Bool.false_eq_true, Bool.true_eq_false, YX, YY, YZ, Y0, Y1, Y2, Y3, Y4]
  simp only [small, List.length_nil]
  refine ⟨by decide, kn _ _ ?_⟩
  refine nx fun k kn kr _ _ => ?_
  simp only [ya, yb, yc, yd, ye, yf, yg, yh, yi, yj, yk, yl, ym, yn, yo, yp, yq, yr, yt, yu, yv, yw, yx, yy, yz, yA, yB, yC, yD, yE, yF, yG, yH, yI, yJ, yK, yL, yM, yN, yO, yP, yQ, yR, yS, yT, yU, yV, yW, yX, yY, yZ, y0, y4, y5, y6, y7, y8, y9, Yb, Yc, Yd, Ye, Yg, Yh, Yi, Yj, Yk, Yl, Ym, Yn, Yo, String.reduceEq, if_true, if_false, reduceIte, ↓reduceIte, Yp, Yq, Yr, Ys, Yt, Yu, Yv, Yw, Yx, Yy, Yz, YA, YB, YC, YD, YE, YF, YG, YH, YI, YJ, YK, YL, YM, YN, YO, YP, YQ, YR, YS, YT, YU, YV, YW, Option.map_some, Option.bind_some, List.map_cons, List.map_nil, List.getElem?_cons_zero, List.getElem?_cons_succ, decide_eq_true_eq, List.length_cons, List.length_nil, Nat.reduceAdd, ne_eq, true_and, and_true, not_false_eq_true, not_true_eq_false, Int.reduceEq, Int.reduceNeg, Int.reduceAdd, Int.reduceLT, Int.reduceLE, reduceCtorEq, or_false, false_or, or_true, decide_true, decide_false, Bool.not_true, Bool.not_false, Bool.false_eq_true, Bool.true_eq_false, YX, YY, YZ, Y0, Y1, Y2, Y3, Y4]
  refine ⟨by omega, by omega, ?_⟩
  rw [in_range]
  simp only [ya, yb, yc, yd, ye, yf, yg, yh, yi, yj, yk, yl, ym, yn, yo, yp, yq, yr, yt, yu, yv, yw, yx, yy, yz, yA, yB, yC, yD, yE, yF, yG, yH, yI, yJ, yK, yL, yM, yN, yO, yP, yQ, yR, yS, yT, yU, yV, yW, yX, yY, yZ, y0, y4, y5, y6, y7, y8, y9, Yb, Yc, Yd, Ye, Yg, Yh, Yi, Yj, Yk, Yl, Ym, Yn, Yo, String.reduceEq, if_true, if_false, reduceIte, ↓reduceIte, Yp, Yq, Yr, Ys, Yt, Yu, Yv, Yw, Yx, Yy, Yz, YA, YB, YC, YD, YE, YF, YG, YH, YI, YJ, YK, YL, YM, YN, YO, YP, YQ, YR, YS, YT, YU, YV, YW, Option.map_some, Option.bind_some, List.map_cons, List.map_nil, List.getElem?_cons_zero, List.getElem?_cons_succ, decide_eq_true_eq, List.length_cons, List.length_nil, Nat.reduceAdd, ne_eq, true_and, and_true, not_false_eq_true, not_true_eq_false, Int.reduceEq, Int.reduceNeg, Int.reduceAdd, Int.reduceLT, Int.reduceLE, reduceCtorEq, or_false, false_or, or_true, decide_true, decide_false, Bool.not_true, Bool.not_false, Bool.false_eq_true, Bool.true_eq_false, YX, YY, YZ, Y0, Y1, Y2, Y3, Y4]
  refine forLoop_range (fun q m σ' => m "_law_script" = some (.v (.list (ns.map V.int))) ∧ m "_law_ties_here" = some (.v (.list (ts.map tV))) ∧ m "_law_turns" = some (.ref σ.length) ∧ ∃ Ts tl, σ' = σ ++ [.list (Ts.map lV)] ++ tl ∧ Ts.length = q ∧ ∀ i : Nat, ∀ T, Ts[i]? = some T → T.Perm (ownI n ts i)) (fun _ _ _ _ => True.intro) ?_ ?_ _ _ ⟨by simp [Yn], by simp [Yn], by simp [Yn], [], [], by simp, rfl, by simp⟩
  · rintro i m σ' K' hi ⟨m1, m2, m3, Ts, tl, rfl, hTl, hTp⟩ hK' _ _ _
    refine nx fun k kn kr _ _ => ?_
    simp only [ya, yb, yc, yd, ye, yf, yg, yh, yi, yj, yk, yl, ym, yn, yo, yp, yq, yr, yt, yu, yv, yw, yx, yy, yz, yA, yB, yC, yD, yE, yF, yG, yH, yI, yJ, yK, yL, yM, yN, yO, yP, yQ, yR, yS, yT, yU, yV, yW, yX, yY, yZ, y0, y4, y5, y6, y7, y8, y9, Yb, Yc, Yd, Ye, Yg, Yh, Yi, Yj, Yk, Yl, Ym, Yn, Yo, String.reduceEq, if_true, if_false, reduceIte, ↓reduceIte, Yp, Yq, Yr, Ys, Yt, Yu, Yv, Yw, Yx, Yy, Yz, YA, YB, YC, YD, YE, YF, YG, YH, YI, YJ, YK, YL, YM, YN, YO, YP, YQ, YR, YS, YT, YU, YV, YW, Option.map_some, Option.bind_some, List.map_cons, List.map_nil, List.getElem?_cons_zero, List.getElem?_cons_succ, decide_eq_true_eq, List.length_cons, List.length_nil, Nat.reduceAdd, ne_eq, true_and, and_true, not_false_eq_true, not_true_eq_false, Int.reduceEq, Int.reduceNeg, Int.reduceAdd, Int.reduceLT, Int.reduceLE, reduceCtorEq, or_false, false_or, or_true, decide_true, decide_false, Bool.not_true, Bool.not_false, Bool.false_eq_true, Bool.true_eq_false, YX, YY, YZ, Y0, Y1, Y2, Y3, Y4]
    simp only [m2, Yo]
    simp only [ya, yb, yc, yd, ye, yf, yg, yh, yi, yj, yk, yl, ym, yn, yo, yp, yq, yr, yt, yu, yv, yw, yx, yy, yz, yA, yB, yC, yD, yE, yF, yG, yH, yI, yJ, yK, yL, yM, yN, yO, yP, yQ, yR, yS, yT, yU, yV, yW, yX, yY, yZ, y0, y4, y5, y6, y7, y8, y9, Yb, Yc, Yd, Ye, Yg, Yh, Yi, Yj, Yk, Yl, Ym, Yn, Yo, String.reduceEq, if_true, if_false, reduceIte, ↓reduceIte, Yp, Yq, Yr, Ys, Yt, Yu, Yv, Yw, Yx, Yy, Yz, YA, YB, YC, YD, YE, YF, YG, YH, YI, YJ, YK, YL, YM, YN, YO, YP, YQ, YR, YS, YT, YU, YV, YW, Option.map_some, Option.bind_some, List.map_cons, List.map_nil, List.getElem?_cons_zero, List.getElem?_cons_succ, decide_eq_true_eq, List.length_cons, List.length_nil, Nat.reduceAdd, ne_eq, true_and, and_true, not_false_eq_true, not_true_eq_false, Int.reduceEq, Int.reduceNeg, Int.reduceAdd, Int.reduceLT, Int.reduceLE, reduceCtorEq, or_false, false_or, or_true, decide_true, decide_false, Bool.not_true, Bool.not_false, Bool.false_eq_true, Bool.true_eq_false, YX, YY, YZ, Y0, Y1, Y2, Y3, Y4]
    have e1 : (ts.map tV).map A.v = ts.map fun p => A.v (tV p) := by simp
    rw [e1]
    refine oth_comp (C := C) (X := fun c σ => X c σ) (i := i) (by simp [Yn]) (by exact True.intro) ?_
    have hgl := G.len
    have hol : (othI ts i).length ≤ 40 := by unfold othI; have := List.length_filter_le (fun p => decide ((i : Int) = p.1 ∨ (i : Int) = p.2)) ts; simp only [List.length_map]; omega
    refine ⟨by simp [small]; omega, kn _ _ ?_⟩
    refine nx fun k kn kr _ _ => ?_
    simp only [ya, yb, yc, yd, ye, yf, yg, yh, yi, yj, yk, yl, ym, yn, yo, yp, yq, yr, yt, yu, yv, yw, yx, yy, yz, yA, yB, yC, yD, yE, yF, yG, yH, yI, yJ, yK, yL, yM, yN, yO, yP, yQ, yR, yS, yT, yU, yV, yW, yX, yY, yZ, y0, y4, y5, y6, y7, y8, y9, Yb, Yc, Yd, Ye, Yg, Yh, Yi, Yj, Yk, Yl, Ym, Yn, Yo, String.reduceEq, if_true, if_false, reduceIte, ↓reduceIte, Yp, Yq, Yr, Ys, Yt, Yu, Yv, Yw, Yx, Yy, Yz, YA, YB, YC, YD, YE, YF, YG, YH, YI, YJ, YK, YL, YM, YN, YO, YP, YQ, YR, YS, YT, YU, YV, YW, Option.map_some, Option.bind_some, List.map_cons, List.map_nil, List.getElem?_cons_zero, List.getElem?_cons_succ, decide_eq_true_eq, List.length_cons, List.length_nil, Nat.reduceAdd, ne_eq, true_and, and_true, not_false_eq_true, not_true_eq_false, Int.reduceEq, Int.reduceNeg, Int.reduceAdd, Int.reduceLT, Int.reduceLE, reduceCtorEq, or_false, false_or, or_true, decide_true, decide_false, Bool.not_true, Bool.not_false, Bool.false_eq_true, Bool.true_eq_false, YX, YY, YZ, Y0, Y1, Y2, Y3, Y4]
    simp only [m1, m3, Yo]
    have a1 : ∀ o tl, (σ ++ [o] ++ tl)[σ.length]? = some o := fun o tl => by simp
    have hil : isLst (σ ++ [.list (Ts.map lV)] ++ tl) (.ref σ.length) = true := isL_l (a1 _ _)
    rw [hil]
    refine ⟨rfl, ?_⟩
    refine cell_at_ok hW (YW _ _) (by omega) ?_
    simp only [ya, yb, yc, yd, ye, yf, yg, yh, yi, yj, yk, yl, ym, yn, yo, yp, yq, yr, yt, yu, yv, yw, yx, yy, yz, yA, yB, yC, yD, yE, yF, yG, yH, yI, yJ, yK, yL, yM, yN, yO, yP, yQ, yR, yS, yT, yU, yV, yW, yX, yY, yZ, y0, y4, y5, y6, y7, y8, y9, Yb, Yc, Yd, Ye, Yg, Yh, Yi, Yj, Yk, Yl, Ym, Yn, Yo, String.reduceEq, if_true, if_false, reduceIte, ↓reduceIte, Yp, Yq, Yr, Ys, Yt, Yu, Yv, Yw, Yx, Yy, Yz, YA, YB, YC, YD, YE, YF, YG, YH, YI, YJ, YK, YL, YM, YN, YO, YP, YQ, YR, YS, YT, YU, YV, YW, Option.map_some, Option.bind_some, List.map_cons, List.map_nil, List.getElem?_cons_zero, List.getElem?_cons_succ, decide_eq_true_eq, List.length_cons, List.length_nil, Nat.reduceAdd, ne_eq, true_and, and_true, not_false_eq_true, not_true_eq_false, Int.reduceEq, Int.reduceNeg, Int.reduceAdd, Int.reduceLT, Int.reduceLE, reduceCtorEq, or_false, false_or, or_true, decide_true, decide_false, Bool.not_true, Bool.not_false, Bool.false_eq_true, Bool.true_eq_false, YX, YY, YZ, Y0, Y1, Y2, Y3, Y4]
    refine ⟨by decide, by omega, by omega, by omega, by decide, by omega, ?_⟩
    obtain ⟨ps, hps, hpp, _⟩ := vsort_ints (othI ts i)
    have hpl := hpp.length_eq
    simp only [YW, Yo, hps]
    refine ⟨sortable_ints _, by simp; omega, by simp [small]; omega, ?_⟩
    refine order_by_ok hC hf' (row := ps) (by omega) fun T σ'' hT hp => ?_
    obtain ⟨rest, rfl⟩ := hp
    rw [List.append_assoc _ tl rest]
    have s1 : ∀ (o p : O) tl, List.set (σ ++ [o] ++ tl) σ.length p = σ ++ [p] ++ tl := fun o p tl => by simp [List.set_append]
    refine app_put (a1 _ _) (by rw [List.length_map]; omega) ?_
    rw [s1]
    refine kn _ _ ?_
    simp only [ya, yb, yc, yd, ye, yf, yg, yh, yi, yj, yk, yl, ym, yn, yo, yp, yq, yr, yt, yu, yv, yw, yx, yy, yz, yA, yB, yC, yD, yE, yF, yG, yH, yI, yJ, yK, yL, yM, yN, yO, yP, yQ, yR, yS, yT, yU, yV, yW, yX, yY, yZ, y0, y4, y5, y6, y7, y8, y9, Yb, Yc, Yd, Ye, Yg, Yh, Yi, Yj, Yk, Yl, Ym, Yn, Yo, String.reduceEq, if_true, if_false, reduceIte, ↓reduceIte, Yp, Yq, Yr, Ys, Yt, Yu, Yv, Yw, Yx, Yy, Yz, YA, YB, YC, YD, YE, YF, YG, YH, YI, YJ, YK, YL, YM, YN, YO, YP, YQ, YR, YS, YT, YU, YV, YW, Option.map_some, Option.bind_some, List.map_cons, List.map_nil, List.getElem?_cons_zero, List.getElem?_cons_succ, decide_eq_true_eq, List.length_cons, List.length_nil, Nat.reduceAdd, ne_eq, true_and, and_true, not_false_eq_true, not_true_eq_false, Int.reduceEq, Int.reduceNeg, Int.reduceAdd, Int.reduceLT, Int.reduceLE, reduceCtorEq, or_false, false_or, or_true, decide_true, decide_false, Bool.not_true, Bool.not_false, Bool.false_eq_true, Bool.true_eq_false, YX, YY, YZ, Y0, Y1, Y2, Y3, Y4]
    refine hK' _ _ ⟨by simp [Yn, m1], by simp [Yn, m2], by simp [Yn, m3], Ts ++ [T], tl ++ rest, by simp, by simp [hTl], fun j T' hj => ?_⟩
    by_cases q : j < Ts.length
    · rw [List.getElem?_append_left q] at hj
      exact hTp j T' hj
    · rw [List.getElem?_append_right (by omega)] at hj
      have : j - Ts.length = 0 := by
        rcases Nat.eq_zero_or_pos (j - Ts.length) with h | h
        · exact h
        · rw [List.getElem?_eq_none (by simp; omega)] at hj; cases hj
      rw [this] at hj
      simp only [List.getElem?_cons_zero, Option.some.injEq] at hj
      subst hj
      rw [show j = i by omega]
      exact hT.trans (hpp.trans (oth_perm G i))
  · rintro m σ' ⟨m1, m2, m3, Ts, tl, rfl, hTl, hTp⟩
    refine kn _ _ ?_
    refine nx fun k kn kr _ _ => ?_
    simp only [ya, yb, yc, yd, ye, yf, yg, yh, yi, yj, yk, yl, ym, yn, yo, yp, yq, yr, yt, yu, yv, yw, yx, yy, yz, yA, yB, yC, yD, yE, yF, yG, yH, yI, yJ, yK, yL, yM, yN, yO, yP, yQ, yR, yS, yT, yU, yV, yW, yX, yY, yZ, y0, y4, y5, y6, y7, y8, y9, Yb, Yc, Yd, Ye, Yg, Yh, Yi, Yj, Yk, Yl, Ym, Yn, Yo, String.reduceEq, if_true, if_false, reduceIte, ↓reduceIte, Yp, Yq, Yr, Ys, Yt, Yu, Yv, Yw, Yx, Yy, Yz, YA, YB, YC, YD, YE, YF, YG, YH, YI, YJ, YK, YL, YM, YN, YO, YP, YQ, YR, YS, YT, YU, YV, YW, Option.map_some, Option.bind_some, List.map_cons, List.map_nil, List.getElem?_cons_zero, List.getElem?_cons_succ, decide_eq_true_eq, List.length_cons, List.length_nil, Nat.reduceAdd, ne_eq, true_and, and_true, not_false_eq_true, not_true_eq_false, Int.reduceEq, Int.reduceNeg, Int.reduceAdd, Int.reduceLT, Int.reduceLE, reduceCtorEq, or_false, false_or, or_true, decide_true, decide_false, Bool.not_true, Bool.not_false, Bool.false_eq_true, Bool.true_eq_false, YX, YY, YZ, Y0, Y1, Y2, Y3, Y4]
    have a1 : ∀ o tl, (σ ++ [o] ++ tl)[σ.length]? = some o := fun o tl => by simp
    simp only [m3, Yo]
    refine frz_at (a1 _ _) (kr _ _ _ (h Ts _ ⟨hTl, hTp⟩ ?_))
    rw [List.append_assoc, List.set_append_right _ _ (Nat.le_refl _)]
    exact List.prefix_append _ _

theorem forLoop_list {β : Type} {bd : β → Loc → Option Loc} {fb : Loc → H → (Fw → Loc → H → Prop) → Prop} {st : H → Prop} {K : Fw → Loc → H → Prop} (I : List β → List β → Loc → H → Prop)
    (hst : ∀ p r m σ, I p r m σ → st σ)
    (hstep : ∀ p a r m σ (K' : Fw → Loc → H → Prop), I p (a :: r) m σ → (∀ m σ, I (p ++ [a]) r m σ → K' .next m σ) → (∀ m σ, I (p ++ [a]) r m σ → K' .cont m σ) → (∀ m σ, K .next m σ → K' .brk m σ) → (∀ v m σ, K (.ret v) m σ → K' (.ret v) m σ) → get (bd a m) fun m' => fb m' σ K')
    (hend : ∀ p m σ, I p [] m σ → K .next m σ) (r : List β) (m : Loc) (σ : H) (h : I [] r m σ) : forLoop bd fb st r m σ K := by
  have := forLoop_items (bd := bd) id I hst hstep hend r [] m σ h
  rwa [List.map_id] at this

theorem zip_at {α : Type} {l : List α} {p : List (α × Nat)} {a : α} {i : Nat} {r : List (α × Nat)} (h : p ++ (a, i) :: r = l.zipIdx) : i = p.length ∧ l[i]? = some a := by
  have h1 : (p ++ (a, i) :: r)[p.length]? = some (a, i) := by simp
  rw [h, List.getElem?_zipIdx] at h1
  simp only [Nat.zero_add, Option.map_eq_some_iff, Prod.mk.injEq] at h1
  obtain ⟨x, hx, rfl, rfl⟩ := h1
  exact ⟨rfl, hx⟩

theorem Turns.rowLen {n : Int} {ts : List (Int × Int)} {Ts : List (List Int)} (hn : n ≤ 16) (hT : Turns n ts Ts) {i : Nat} {T : List Int} (h : Ts[i]? = some T) : T.length ≤ 16 := by
  rw [(hT.perm i T h).length_eq]; exact own_len hn ts i

end Fl

/-! what is right, what is tame (own work) -/
namespace Fl
open PySem (Str)
set_option linter.unusedSimpArgs false
set_option linter.unusedSectionVars false

noncomputable def plain : V → Bool
  | .obj _ _ => false
  | .range _ _ => false
  | .exc _ => false
  | _ => true
noncomputable def isIV (p : Int) (v : V) : Bool := (match vI v with | some i => decide (i = p) | Option.none => false)
theorem isIV_int (p i : Int) : isIV p (.int i) = decide (i = p) := rfl
theorem isIV_of {p : Int} {v : V} (h : isIV p v = true) : v = .int p := by
  unfold isIV at h
  split at h
  · next i hi => rw [vI_of hi, of_decide_eq_true h]
  · cases h

noncomputable def rightRow (T : List Int) (v : V) : Prop := ∃ l : List Int, v = lV l ∧ l.Perm T
noncomputable def Right (Ts : List (List Int)) (t : V) : Prop := ∃ xs, t = .list xs ∧ xs.length = Ts.length ∧ ∀ (i : Nat) T x, Ts[i]? = some T → xs[i]? = some x → rightRow T x

/-- each once, and no more: a rearrangement -/
theorem once_perm : ∀ {T : List Int} {ys : List V}, T.Nodup → ys.length = T.length → (∀ p ∈ T, (ys.filter (isIV p)).length = 1) → ∃ l : List Int, ys = l.map V.int ∧ l.Perm T
  | [], ys, _, hl, _ => by
    have : ys = [] := List.length_eq_zero_iff.mp hl
    exact ⟨[], by rw [this]; rfl, .refl _⟩
  | p :: T, ys, hn, hl, h => by
    rw [List.nodup_cons] at hn
    have h1 := h p List.mem_cons_self
    have hm : V.int p ∈ ys := by
      obtain ⟨v, hv⟩ := List.length_pos_iff_exists_mem.mp (show 0 < (ys.filter (isIV p)).length by omega)
      obtain ⟨hv1, hv2⟩ := List.mem_filter.mp hv
      rw [isIV_of hv2] at hv1; exact hv1
    obtain ⟨a, b, rfl⟩ := List.append_of_mem hm
    have hl' : (a ++ b).length = T.length := by simp at hl ⊢; omega
    have h' : ∀ q ∈ T, ((a ++ b).filter (isIV q)).length = 1 := fun q hq => by
      have h2 := h q (List.mem_cons_of_mem _ hq)
      have hpq : ¬ p = q := fun e => hn.1 (e ▸ hq)
      rw [List.filter_append, List.filter_cons, isIV_int, decide_eq_false hpq] at h2
      rw [List.filter_append]; simpa using h2
    obtain ⟨l, hl1, hl2⟩ := once_perm hn.2 hl' h'
    refine ⟨l.take a.length ++ p :: l.drop a.length, ?_, ?_⟩
    · have ha : a = (l.take a.length).map V.int := by rw [List.map_take, ← hl1]; simp
      have hb : b = (l.drop a.length).map V.int := by rw [List.map_drop, ← hl1]; simp
      rw [List.map_append, List.map_cons, ← ha, ← hb]
    · refine List.perm_middle.trans (List.Perm.cons _ ?_)
      rw [List.take_append_drop]; exact hl2
theorem perm_once {T l : List Int} (hn : T.Nodup) (hp : l.Perm T) {p : Int} (h : p ∈ T) : ((l.map V.int).filter (isIV p)).length = 1 := by
  rw [List.filter_map, List.length_map]
  have e : isIV p ∘ V.int = fun i => i == p := by funext i; show decide (i = p) = _; by_cases q : i = p <;> simp [q]
  rw [e, ← List.countP_eq_length_filter, ← List.count, hp.count_eq, hn.count, if_pos h]

theorem peqL_ints : ∀ (a b : List Int), peqL (a.map V.int) (b.map V.int) = decide (a = b)
  | [], [] => rfl
  | [], _ :: _ => rfl
  | _ :: _, [] => rfl
  | x :: a, y :: b => by
    show (peq (.int x) (.int y) && peqL (a.map V.int) (b.map V.int)) = _
    rw [peqL_ints a b, peq_ii, ← Bool.decide_and]
    exact decide_eq_decide.mpr (by rw [List.cons.injEq])
theorem ne_ints (σ : H) (a b : List Int) : cmpSem σ .ne (.v (.list (a.map V.int))) (.v (.list (b.map V.int))) = some (!decide (a = b)) := by
  show (((if (eqOk (lV a) && eqOk (lV b)) = true then some (peq (lV a) (lV b)) else Option.none) : Option Bool).or _).map _ = _
  rw [eqOk_lV, eqOk_lV, if_pos (by rfl)]
  show some (!peqL (a.map V.int) (b.map V.int)) = _
  rw [peqL_ints]

/-! tame things -/
noncomputable def PL (ys : List V) : Prop := ∀ y ∈ ys, plain y = true ∧ eqOkN 7 y = true
structure OddOk (x : V) : Prop where
  pl : plain x = true
  el : ∀ ys, x = .list ys → ys.length < 60 ∧ ∀ y ∈ ys, plain y = true
  sm : same0 x x = true
theorem PL_nil : PL [] := fun _ h => nomatch h
theorem PL_app {a b : List V} (ha : PL a) (hb : PL b) : PL (a ++ b) := fun y hy => (List.mem_append.mp hy).elim (ha y) (hb y)
theorem PL_one {y : V} (h : plain y = true) (h' : eqOkN 7 y = true) : PL [y] := fun z hz => by rw [List.mem_singleton.mp hz]; exact ⟨h, h'⟩
theorem PL_slice {a : List V} (ha : PL a) (lo hi : Option Int) : PL (sliceV a lo hi) := fun y hy => ha y (List.mem_of_mem_take (List.mem_of_mem_drop hy))
theorem PL_ints (l : List Int) : PL (l.map V.int) := fun y hy => by obtain ⟨i, _, rfl⟩ := List.mem_map.mp hy; exact ⟨rfl, rfl⟩
theorem slice_len (a : List V) (lo hi : Option Int) : (sliceV a lo hi).length ≤ a.length := by
  unfold sliceV; rw [List.length_drop, List.length_take]; omega
theorem same0_ok {x : V} (h : eqOk x = true) : same0 x x = true := by
  unfold same0; rw [h, peq_refl 8 h]; rfl
theorem odd_list {ys : List V} (h : PL ys) (hl : ys.length < 60) : OddOk (.list ys) where
  pl := rfl
  el := fun zs e => by cases e; exact ⟨hl, fun y hy => (h y hy).1⟩
  sm := same0_ok (show ys.all (eqOkN 7) = true from List.all_eq_true.mpr fun y hy => (h y hy).2)
theorem odd_tup {ys : List V} (h : PL ys) : OddOk (.tup ys) where
  pl := rfl
  el := fun zs e => nomatch e
  sm := same0_ok (show ys.all (eqOkN 7) = true from List.all_eq_true.mpr fun y hy => (h y hy).2)
theorem odd_none : OddOk .none := ⟨rfl, fun _ e => (nomatch e), rfl⟩
theorem odd_ed : OddOk .edict := ⟨rfl, fun _ e => (nomatch e), rfl⟩
theorem odd_row {l : List Int} (h : l.length < 60) : OddOk (lV l) := odd_list (PL_ints l) (by simpa using h)

structure Tame (t : V) : Prop where
  pl : plain t = true
  el : ∀ xs, t = .list xs → xs.length < 1000 ∧ ∀ x ∈ xs, OddOk x
  sm : same1 t t = true
theorem same1_of {x : V} (h : same0 x x = true) : same1 x x = true := by unfold same1; rw [h]; rfl
theorem sameL_refl : ∀ {xs : List V}, (∀ x ∈ xs, same0 x x = true) → sameL xs xs = true
  | [], _ => rfl
  | x :: xs, h => by
    show (same0 x x && sameL xs xs) = true
    rw [h x List.mem_cons_self, sameL_refl fun y hy => h y (List.mem_cons_of_mem _ hy)]; rfl
theorem tame_list {xs : List V} (h : ∀ x ∈ xs, OddOk x) (hl : xs.length < 1000) : Tame (.list xs) where
  pl := rfl
  el := fun zs e => by cases e; exact ⟨hl, h⟩
  sm := by
    show (same0 _ _ || sameL xs xs) = true
    rw [sameL_refl fun x hx => (h x hx).sm, Bool.or_true]
theorem tame_flat {x : V} (h1 : plain x = true) (h2 : vL x = Option.none) (h3 : same0 x x = true) : Tame x := ⟨h1, fun xs e => (by subst e; cases h2), same1_of h3⟩
theorem c_ne_self {σ : H} {x : V} (h : same1 x x = true) : cmpSem σ .ne (.v x) (.v x) = some false := by
  show ((eqV x x).or (eqF x x)).map _ = _
  unfold eqV eqF
  by_cases hc : eqOk x = true
  · rw [if_pos (by rw [hc]; rfl), peq_refl 8 hc]; rfl
  · rw [if_neg (by rw [Bool.and_eq_true]; exact fun e => hc e.1), if_pos h]; rfl

theorem isi_list {v : V} (σ : H) (h : plain v = true) : isiSem σ (.v v) .list = some (vL v).isSome := by cases v <;> first | rfl | cases h
noncomputable def isW : V → Bool
  | .int _ => true
  | _ => false
theorem isW_of {v : V} (h : isW v = true) : ∃ i, v = .int i := by cases v <;> first | exact ⟨_, rfl⟩ | cases h

theorem whole_gen {C : CallSem} {f : String} {p : String} (hr : ∀ {as σ K X}, as.length = 1 → xSs C [.ret (.and [.isi (.x p) .int, .not (.isi (.x p) .bool)])] (bindP [p] as) σ (retF K) (fun c _ σ => X c σ) → C f as σ K X) {σ : H} {v : V} (h : plain v = true) {K X} (hK : K (.v (.bool (isW v))) σ) : C f [.v v] σ K X := by
  have key : ∀ a b, isiSem σ (.v v) .int = some a → isiSem σ (.v v) .bool = some b → (if a = true then !b else false) = isW v → C f [.v v] σ K X := by
    intro a b h1 h2 h3
    refine hr rfl ?_
    refine nx fun k kn kr _ _ => ?_
    simp only [ya, yb, yc, yd, ye, yf, yg, yh, yi, yj, yk, yl, ym, yn, yo, yp, yq, yr, yt, yu, yv, yw, yx, yy, yz, yA, yB, yC, yD, yE, yF, yG, yH, yI, yJ, yK, yL, yM, yN, yO, yP, yQ, yR, yS, yT, yU, yV, yW, yX, yY, yZ, y0, y4, y5, y6, y7, y8, y9, Yb, Yc, Yd, Ye, Yg, Yh, Yi, Yj, Yk, Yl, Ym, Yn, Yo, String.reduceEq, if_true, if_false, reduceIte, ↓reduceIte, Yp, Yq, Yr, Ys, Yt, Yu, Yv, Yw, Yx, Yy, Yz, YA, YB, YC, YD, YE, YF, YG, YH, YI, YJ, YK, YL, YM, YN, YO, YP, YQ, YR, YS, YT, YU, YV, YW, Option.map_some, Option.bind_some, List.map_cons, List.map_nil, List.getElem?_cons_zero, List.getElem?_cons_succ, decide_eq_true_eq, List.length_cons, List.length_nil, Nat.reduceAdd, ne_eq, true_and, and_true, not_false_eq_true, not_true_eq_false, Int.reduceEq, Int.reduceNeg, Int.reduceAdd, Int.reduceLT, Int.reduceLE, reduceCtorEq, or_false, false_or, or_true, decide_true, decide_false, Bool.not_true, Bool.not_false, Bool.false_eq_true, Bool.true_eq_false, YX, YY, YZ, Y0, Y1, Y2, Y3, Y4]
    rw [h1]
    simp only [ya, yb, yc, yd, ye, yf, yg, yh, yi, yj, yk, yl, ym, yn, yo, yp, yq, yr, yt, yu, yv, yw, yx, yy, yz, yA, yB, yC, yD, yE, yF, yG, yH, yI, yJ, yK, yL, yM, yN, yO, yP, yQ, yR, yS, yT, yU, yV, yW, yX, yY, yZ, y0, y4, y5, y6, y7, y8, y9, Yb, Yc, Yd, Ye, Yg, Yh, Yi, Yj, Yk, Yl, Ym, Yn, Yo, String.reduceEq, if_true, if_false, reduceIte, ↓reduceIte, Yp, Yq, Yr, Ys, Yt, Yu, Yv, Yw, Yx, Yy, Yz, YA, YB, YC, YD, YE, YF, YG, YH, YI, YJ, YK, YL, YM, YN, YO, YP, YQ, YR, YS, YT, YU, YV, YW, Option.map_some, Option.bind_some, List.map_cons, List.map_nil, List.getElem?_cons_zero, List.getElem?_cons_succ, decide_eq_true_eq, List.length_cons, List.length_nil, Nat.reduceAdd, ne_eq, true_and, and_true, not_false_eq_true, not_true_eq_false, Int.reduceEq, Int.reduceNeg, Int.reduceAdd, Int.reduceLT, Int.reduceLE, reduceCtorEq, or_false, false_or, or_true, decide_true, decide_false, Bool.not_true, Bool.not_false, Bool.false_eq_true, Bool.true_eq_false, YX, YY, YZ, Y0, Y1, Y2, Y3, Y4]
    cases a with
    | false =>
      simp only [Bool.false_eq_true, if_false] at h3 ⊢
      rw [← h3] at hK
      exact kr _ _ _ hK
    | true =>
      simp only [if_true] at h3 ⊢
      rw [h2]
      simp only [ya, yb, yc, yd, ye, yf, yg, yh, yi, yj, yk, yl, ym, yn, yo, yp, yq, yr, yt, yu, yv, yw, yx, yy, yz, yA, yB, yC, yD, yE, yF, yG, yH, yI, yJ, yK, yL, yM, yN, yO, yP, yQ, yR, yS, yT, yU, yV, yW, yX, yY, yZ, y0, y4, y5, y6, y7, y8, y9, Yb, Yc, Yd, Ye, Yg, Yh, Yi, Yj, Yk, Yl, Ym, Yn, Yo, String.reduceEq, if_true, if_false, reduceIte, ↓reduceIte, Yp, Yq, Yr, Ys, Yt, Yu, Yv, Yw, Yx, Yy, Yz, YA, YB, YC, YD, YE, YF, YG, YH, YI, YJ, YK, YL, YM, YN, YO, YP, YQ, YR, YS, YT, YU, YV, YW, Option.map_some, Option.bind_some, List.map_cons, List.map_nil, List.getElem?_cons_zero, List.getElem?_cons_succ, decide_eq_true_eq, List.length_cons, List.length_nil, Nat.reduceAdd, ne_eq, true_and, and_true, not_false_eq_true, not_true_eq_false, Int.reduceEq, Int.reduceNeg, Int.reduceAdd, Int.reduceLT, Int.reduceLE, reduceCtorEq, or_false, false_or, or_true, decide_true, decide_false, Bool.not_true, Bool.not_false, Bool.false_eq_true, Bool.true_eq_false, YX, YY, YZ, Y0, Y1, Y2, Y3, Y4]
      rw [h3]
      exact kr _ _ _ hK
  cases v <;> first | exact key _ _ rfl rfl rfl | cases h
end Fl

/-! are_turns and what the law holds against it (own work) -/
namespace Fl
open PySem (Str)
set_option linter.unusedSimpArgs false
set_option linter.unusedSectionVars false

section
variable {C : CallSem} (hC : Closed C tab)
include hC

theorem hW : Closed C wtab := hC.sub fun _ h => List.mem_append_left _ h
theorem whole_v {σ : H} {v : V} (h : plain v = true) {K X} (hK : K (.v (.bool (isW v))) σ) : C "is_whole" [.v v] σ K X :=
  whole_gen (p := "thing") (fun hl hx => run_of (hW hC) (d := f_is_whole) (by repeat (first | exact List.Mem.head _ | apply List.Mem.tail)) hl hx) h hK
theorem lwhole_v {σ : H} {v : V} (h : plain v = true) {K X} (hK : K (.v (.bool (isW v))) σ) : C "_law_whole" [.v v] σ K X :=
  whole_gen (p := "_law_seen") (fun hl hx => run_of (hW hC) (d := f__law_whole) (by repeat (first | exact List.Mem.head _ | apply List.Mem.tail)) hl hx) h hK

theorem beside_ok {σ : H} {n : Int} {ps rows : List V} {i : Int} {row : List V} {K X} (h1 : 0 ≤ i) (h2 : i < n) (hr : rows[i.toNat]? = some (.list row)) (hs : row.length < 2 ^ 20) (h : K (.v (.list row)) σ) : C "Web.beside" [.v (webV n ps rows), iv i] σ K X := by
  refine run_of (hW hC) (d := f_Web_beside) (by repeat (first | exact List.Mem.head _ | apply List.Mem.tail)) rfl ?_
  unfold f_Web_beside
  dsimp only
  refine nx fun k kn kr _ _ => ?_
  simp only [ya, yb, yc, yd, ye, yf, yg, yh, yi, yj, yk, yl, ym, yn, yo, yp, yq, yr, yt, yu, yv, yw, yx, yy, yz, yA, yB, yC, yD, yE, yF, yG, yH, yI, yJ, yK, yL, yM, yN, yO, yP, yQ, yR, yS, yT, yU, yV, yW, yX, yY, yZ, y0, y4, y5, y6, y7, y8, y9, Yb, Yc, Yd, Ye, Yg, Yh, Yi, Yj, Yk, Yl, Ym, Yn, Yo, String.reduceEq, if_true, if_false, reduceIte, ↓reduceIte, Yp, Yq, Yr, Ys, Yt, Yu, Yv, Yw, Yx, Yy, Yz, YA, YB, YC, YD, YE, YF, YG, YH, YI, YJ, YK, YL, YM, YN, YO, YP, YQ, YR, YS, YT, YU, YV, YW, Option.map_some, Option.bind_some, List.map_cons, List.map_nil, List.getElem?_cons_zero, List.getElem?_cons_succ, decide_eq_true_eq, List.length_cons, List.length_nil, Nat.reduceAdd, ne_eq, true_and, and_true, not_false_eq_true, not_true_eq_false, Int.reduceEq, Int.reduceNeg, Int.reduceAdd, Int.reduceLT, Int.reduceLE, reduceCtorEq, or_false, false_or, or_true, decide_true, decide_false, Bool.not_true, Bool.not_false, Bool.false_eq_true, Bool.true_eq_false, YX, YY, YZ, Y0, Y1, Y2, Y3, Y4]
  simp only [asO_web, Yo]
  refine need_ok (hW hC) h1 h2 ?_
  refine kn _ _ ?_
  have hlt : i < rows.length := by
    have := (List.getElem?_eq_some_iff.mp hr).1
    omega
  refine nx fun k kn kr _ _ => ?_
  simp only [ya, yb, yc, yd, ye, yf, yg, yh, yi, yj, yk, yl, ym, yn, yo, yp, yq, yr, yt, yu, yv, yw, yx, yy, yz, yA, yB, yC, yD, yE, yF, yG, yH, yI, yJ, yK, yL, yM, yN, yO, yP, yQ, yR, yS, yT, yU, yV, yW, yX, yY, yZ, y0, y4, y5, y6, y7, y8, y9, Yb, Yc, Yd, Ye, Yg, Yh, Yi, Yj, Yk, Yl, Ym, Yn, Yo, String.reduceEq, if_true, if_false, reduceIte, ↓reduceIte, Yp, Yq, Yr, Ys, Yt, Yu, Yv, Yw, Yx, Yy, Yz, YA, YB, YC, YD, YE, YF, YG, YH, YI, YJ, YK, YL, YM, YN, YO, YP, YQ, YR, YS, YT, YU, YV, YW, Option.map_some, Option.bind_some, List.map_cons, List.map_nil, List.getElem?_cons_zero, List.getElem?_cons_succ, decide_eq_true_eq, List.length_cons, List.length_nil, Nat.reduceAdd, ne_eq, true_and, and_true, not_false_eq_true, not_true_eq_false, Int.reduceEq, Int.reduceNeg, Int.reduceAdd, Int.reduceLT, Int.reduceLE, reduceCtorEq, or_false, false_or, or_true, decide_true, decide_false, Bool.not_true, Bool.not_false, Bool.false_eq_true, Bool.true_eq_false, YX, YY, YZ, Y0, Y1, Y2, Y3, Y4]
  simp only [web_rows, Yo]
  rw [item_of_list (YW _ _) (idx_int h1 hlt) hr]
  simp only [Yo, seqV_list, small]
  exact ⟨hs, kr _ _ _ h⟩

omit hC in
theorem sorted_own {n : Int} {ts : List (Int × Int)} {i : Int} {l ps : List Int} (hp : ps.Perm l) (ho : ps.Pairwise (· ≤ ·)) : ps = ownI n ts i ↔ l.Perm (ownI n ts i) := by
  constructor
  · rintro rfl; exact hp.symm
  · intro h
    have hp2 : ps.Perm (ownI n ts i) := hp.trans h
    have hnd : (ownI n ts i).Nodup := (rngI_nd n).filter _
    have hlt : ps.Pairwise (· < ·) := (ho.and (hp2.nodup_iff.mpr hnd)).imp fun {a b} h => by have := h.1; have := h.2; omega
    have hlt' : (ownI n ts i).Pairwise (· < ·) := (rngI_lt n).filter _
    exact List.Perm.eq_of_pairwise (le := (· < ·)) (fun a b _ _ h1 h2 => by omega) hlt hlt' hp2
omit hC in
theorem ints_pre {l : List V} (h : ∀ y ∈ l, isW y = true) : ∃ ks : List Int, l = ks.map V.int := ints_of fun x hx => isW_of (h x hx)

theorem are_turns_gen {σ : H} {n : Int} {ts : List (Int × Int)} {Ts : List (List Int)} {t : V} {K X} (hn : 1 ≤ n) (hn' : n ≤ 16) (G : GoodT n ts) (hT : Turns n ts Ts) (ht : Tame t)
    (h : ∀ σ' b, (b = true ↔ Right Ts t) → K (.v (.bool b)) σ') : C "are_turns" [.v (webOf n ts), .v t] σ K X := by
  refine run_of hC (d := f_are_turns) (by repeat (first | exact List.Mem.head _ | apply List.Mem.tail)) rfl ?_
  unfold f_are_turns
  dsimp only
  have no : ∀ σ', ¬ Right Ts t → K (.v (.bool false)) σ' := fun σ' hr => h σ' false ⟨fun e => (nomatch e), fun e => (hr e).elim⟩
  refine nx fun k kn kr _ _ => ?_
  simp only [ya, yb, yc, yd, ye, yf, yg, yh, yi, yj, yk, yl, ym, yn, yo, yp, yq, yr, yt, yu, yv, yw, yx, yy, yz, yA, yB, yC, yD, yE, yF, yG, yH, yI, yJ, yK, yL, yM, yN, yO, yP, yQ, yR, yS, yT, yU, yV, yW, yX, yY, yZ, y0, y4, y5, y6, y7, y8, y9, Yb, Yc, Yd, Ye, Yg, Yh, Yi, Yj, Yk, Yl, Ym, Yn, Yo, String.reduceEq, if_true, if_false, reduceIte, ↓reduceIte, Yp, Yq, Yr, Ys, Yt, Yu, Yv, Yw, Yx, Yy, Yz, YA, YB, YC, YD, YE, YF, YG, YH, YI, YJ, YK, YL, YM, YN, YO, YP, YQ, YR, YS, YT, YU, YV, YW, Option.map_some, Option.bind_some, List.map_cons, List.map_nil, List.getElem?_cons_zero, List.getElem?_cons_succ, decide_eq_true_eq, List.length_cons, List.length_nil, Nat.reduceAdd, ne_eq, true_and, and_true, not_false_eq_true, not_true_eq_false, Int.reduceEq, Int.reduceNeg, Int.reduceAdd, Int.reduceLT, Int.reduceLE, reduceCtorEq, or_false, false_or, or_true, decide_true, decide_false, Bool.not_true, Bool.not_false, Bool.false_eq_true, Bool.true_eq_false, YX, YY, YZ, Y0, Y1, Y2, Y3, Y4]
  rw [isi_list _ ht.pl]
  cases hL : vL t with
  | none =>
    simp only [ya, yb, yc, yd, ye, yf, yg, yh, yi, yj, yk, yl, ym, yn, yo, yp, yq, yr, yt, yu, yv, yw, yx, yy, yz, yA, yB, yC, yD, yE, yF, yG, yH, yI, yJ, yK, yL, yM, yN, yO, yP, yQ, yR, yS, yT, yU, yV, yW, yX, yY, yZ, y0, y4, y5, y6, y7, y8, y9, Yb, Yc, Yd, Ye, Yg, Yh, Yi, Yj, Yk, Yl, Ym, Yn, Yo, String.reduceEq, if_true, if_false, reduceIte, ↓reduceIte, Yp, Yq, Yr, Ys, Yt, Yu, Yv, Yw, Yx, Yy, Yz, YA, YB, YC, YD, YE, YF, YG, YH, YI, YJ, YK, YL, YM, YN, YO, YP, YQ, YR, YS, YT, YU, YV, YW, Option.map_some, Option.bind_some, List.map_cons, List.map_nil, List.getElem?_cons_zero, List.getElem?_cons_succ, decide_eq_true_eq, List.length_cons, List.length_nil, Nat.reduceAdd, ne_eq, true_and, and_true, not_false_eq_true, not_true_eq_false, Int.reduceEq, Int.reduceNeg, Int.reduceAdd, Int.reduceLT, Int.reduceLE, reduceCtorEq, or_false, false_or, or_true, decide_true, decide_false, Bool.not_true, Bool.not_false, Bool.false_eq_true, Bool.true_eq_false, YX, YY, YZ, Y0, Y1, Y2, Y3, Y4]
    simp only [Option.isSome_none, Bool.not_false, Bool.true_eq_false, if_false, if_true]
    refine nx fun k kn' kr' _ _ => ?_
    simp only [ya, yb, yc, yd, ye, yf, yg, yh, yi, yj, yk, yl, ym, yn, yo, yp, yq, yr, yt, yu, yv, yw, yx, yy, yz, yA, yB, yC, yD, yE, yF, yG, yH, yI, yJ, yK, yL, yM, yN, yO, yP, yQ, yR, yS, yT, yU, yV, yW, yX, yY, yZ, y0, y4, y5, y6, y7, y8, y9, Yb, Yc, Yd, Ye, Yg, Yh, Yi, Yj, Yk, Yl, Ym, Yn, Yo, String.reduceEq, if_true, if_false, reduceIte, ↓reduceIte, Yp, Yq, Yr, Ys, Yt, Yu, Yv, Yw, Yx, Yy, Yz, YA, YB, YC, YD, YE, YF, YG, YH, YI, YJ, YK, YL, YM, YN, YO, YP, YQ, YR, YS, YT, YU, YV, YW, Option.map_some, Option.bind_some, List.map_cons, List.map_nil, List.getElem?_cons_zero, List.getElem?_cons_succ, decide_eq_true_eq, List.length_cons, List.length_nil, Nat.reduceAdd, ne_eq, true_and, and_true, not_false_eq_true, not_true_eq_false, Int.reduceEq, Int.reduceNeg, Int.reduceAdd, Int.reduceLT, Int.reduceLE, reduceCtorEq, or_false, false_or, or_true, decide_true, decide_false, Bool.not_true, Bool.not_false, Bool.false_eq_true, Bool.true_eq_false, YX, YY, YZ, Y0, Y1, Y2, Y3, Y4]
    refine kr' _ _ _ (kr _ _ _ (no _ ?_))
    rintro ⟨xs, rfl, _⟩
    cases hL
  | some xs =>
    obtain rfl := vL_of hL
    obtain ⟨hxl, hxo⟩ := ht.el xs rfl
    simp only [ya, yb, yc, yd, ye, yf, yg, yh, yi, yj, yk, yl, ym, yn, yo, yp, yq, yr, yt, yu, yv, yw, yx, yy, yz, yA, yB, yC, yD, yE, yF, yG, yH, yI, yJ, yK, yL, yM, yN, yO, yP, yQ, yR, yS, yT, yU, yV, yW, yX, yY, yZ, y0, y4, y5, y6, y7, y8, y9, Yb, Yc, Yd, Ye, Yg, Yh, Yi, Yj, Yk, Yl, Ym, Yn, Yo, String.reduceEq, if_true, if_false, reduceIte, ↓reduceIte, Yp, Yq, Yr, Ys, Yt, Yu, Yv, Yw, Yx, Yy, Yz, YA, YB, YC, YD, YE, YF, YG, YH, YI, YJ, YK, YL, YM, YN, YO, YP, YQ, YR, YS, YT, YU, YV, YW, Option.map_some, Option.bind_some, List.map_cons, List.map_nil, List.getElem?_cons_zero, List.getElem?_cons_succ, decide_eq_true_eq, List.length_cons, List.length_nil, Nat.reduceAdd, ne_eq, true_and, and_true, not_false_eq_true, not_true_eq_false, Int.reduceEq, Int.reduceNeg, Int.reduceAdd, Int.reduceLT, Int.reduceLE, reduceCtorEq, or_false, false_or, or_true, decide_true, decide_false, Bool.not_true, Bool.not_false, Bool.false_eq_true, Bool.true_eq_false, YX, YY, YZ, Y0, Y1, Y2, Y3, Y4]
    simp only [Option.isSome_some, Bool.not_true, if_true]
    unfold webOf
    rw [web_many]
    simp only [Yo]
    simp only [ya, yb, yc, yd, ye, yf, yg, yh, yi, yj, yk, yl, ym, yn, yo, yp, yq, yr, yt, yu, yv, yw, yx, yy, yz, yA, yB, yC, yD, yE, yF, yG, yH, yI, yJ, yK, yL, yM, yN, yO, yP, yQ, yR, yS, yT, yU, yV, yW, yX, yY, yZ, y0, y4, y5, y6, y7, y8, y9, Yb, Yc, Yd, Ye, Yg, Yh, Yi, Yj, Yk, Yl, Ym, Yn, Yo, String.reduceEq, if_true, if_false, reduceIte, ↓reduceIte, Yp, Yq, Yr, Ys, Yt, Yu, Yv, Yw, Yx, Yy, Yz, YA, YB, YC, YD, YE, YF, YG, YH, YI, YJ, YK, YL, YM, YN, YO, YP, YQ, YR, YS, YT, YU, YV, YW, Option.map_some, Option.bind_some, List.map_cons, List.map_nil, List.getElem?_cons_zero, List.getElem?_cons_succ, decide_eq_true_eq, List.length_cons, List.length_nil, Nat.reduceAdd, ne_eq, true_and, and_true, not_false_eq_true, not_true_eq_false, Int.reduceEq, Int.reduceNeg, Int.reduceAdd, Int.reduceLT, Int.reduceLE, reduceCtorEq, or_false, false_or, or_true, decide_true, decide_false, Bool.not_true, Bool.not_false, Bool.false_eq_true, Bool.true_eq_false, YX, YY, YZ, Y0, Y1, Y2, Y3, Y4]
    by_cases hlen : (xs.length : Int) = n
    case neg =>
      simp only [hlen, not_false_eq_true, decide_true, Bool.true_eq_false, if_false, if_true]
      refine nx fun k kn' kr' _ _ => ?_
      simp only [ya, yb, yc, yd, ye, yf, yg, yh, yi, yj, yk, yl, ym, yn, yo, yp, yq, yr, yt, yu, yv, yw, yx, yy, yz, yA, yB, yC, yD, yE, yF, yG, yH, yI, yJ, yK, yL, yM, yN, yO, yP, yQ, yR, yS, yT, yU, yV, yW, yX, yY, yZ, y0, y4, y5, y6, y7, y8, y9, Yb, Yc, Yd, Ye, Yg, Yh, Yi, Yj, Yk, Yl, Ym, Yn, Yo, String.reduceEq, if_true, if_false, reduceIte, ↓reduceIte, Yp, Yq, Yr, Ys, Yt, Yu, Yv, Yw, Yx, Yy, Yz, YA, YB, YC, YD, YE, YF, YG, YH, YI, YJ, YK, YL, YM, YN, YO, YP, YQ, YR, YS, YT, YU, YV, YW, Option.map_some, Option.bind_some, List.map_cons, List.map_nil, List.getElem?_cons_zero, List.getElem?_cons_succ, decide_eq_true_eq, List.length_cons, List.length_nil, Nat.reduceAdd, ne_eq, true_and, and_true, not_false_eq_true, not_true_eq_false, Int.reduceEq, Int.reduceNeg, Int.reduceAdd, Int.reduceLT, Int.reduceLE, reduceCtorEq, or_false, false_or, or_true, decide_true, decide_false, Bool.not_true, Bool.not_false, Bool.false_eq_true, Bool.true_eq_false, YX, YY, YZ, Y0, Y1, Y2, Y3, Y4]
      refine kr' _ _ _ (kr _ _ _ (no _ ?_))
      rintro ⟨xs', e, hl, _⟩
      cases e
      rw [hT.len] at hl
      omega
    case pos =>
    simp only [hlen, not_true_eq_false, decide_false, Bool.false_eq_true, if_false, if_true]
    have hlen' : xs.length = Ts.length := by rw [hT.len]; omega
    refine kn _ _ ?_
    refine nx fun k kn kr _ _ => ?_
    simp only [ya, yb, yc, yd, ye, yf, yg, yh, yi, yj, yk, yl, ym, yn, yo, yp, yq, yr, yt, yu, yv, yw, yx, yy, yz, yA, yB, yC, yD, yE, yF, yG, yH, yI, yJ, yK, yL, yM, yN, yO, yP, yQ, yR, yS, yT, yU, yV, yW, yX, yY, yZ, y0, y4, y5, y6, y7, y8, y9, Yb, Yc, Yd, Ye, Yg, Yh, Yi, Yj, Yk, Yl, Ym, Yn, Yo, String.reduceEq, if_true, if_false, reduceIte, ↓reduceIte, Yp, Yq, Yr, Ys, Yt, Yu, Yv, Yw, Yx, Yy, Yz, YA, YB, YC, YD, YE, YF, YG, YH, YI, YJ, YK, YL, YM, YN, YO, YP, YQ, YR, YS, YT, YU, YV, YW, Option.map_some, Option.bind_some, List.map_cons, List.map_nil, List.getElem?_cons_zero, List.getElem?_cons_succ, decide_eq_true_eq, List.length_cons, List.length_nil, Nat.reduceAdd, ne_eq, true_and, and_true, not_false_eq_true, not_true_eq_false, Int.reduceEq, Int.reduceNeg, Int.reduceAdd, Int.reduceLT, Int.reduceLE, reduceCtorEq, or_false, false_or, or_true, decide_true, decide_false, Bool.not_true, Bool.not_false, Bool.false_eq_true, Bool.true_eq_false, YX, YY, YZ, Y0, Y1, Y2, Y3, Y4]
    refine ⟨rfl, ?_⟩
    refine forLoop_list (fun p r m σ' => m "web" = some (.v (webOf n ts)) ∧ p ++ r = (xs.map A.v).zipIdx ∧ ∀ (i : Nat) T x, i < p.length → Ts[i]? = some T → xs[i]? = some x → rightRow T x) (fun _ _ _ _ _ => True.intro) ?_ ?_ _ _ _ ⟨rfl, rfl, fun i _ _ hi => (by simp at hi)⟩
    · rintro p ⟨a, i⟩ r m σ' K' ⟨m1, hz, hd⟩ hK' _ _ hr
      obtain ⟨hi, ha⟩ := zip_at hz
      rw [List.getElem?_map, Option.map_eq_some_iff] at ha
      obtain ⟨x, hxi, rfl⟩ := ha
      have hxm := hxo x (List.mem_of_getElem? hxi)
      have hil : i < xs.length := (List.getElem?_eq_some_iff.mp hxi).1
      obtain ⟨T, hTi⟩ : ∃ T, Ts[i]? = some T := ⟨Ts[i]'(by omega), List.getElem?_eq_getElem (by omega)⟩
      have hTp := hT.perm i T hTi
      have no' : ∀ σ' m, ¬ rightRow T x → K' (.ret (.v (.bool false))) m σ' := fun σ' m hq => hr _ _ _ (kr _ _ _ (no _ fun ⟨xs', e, _, hR⟩ => by cases e; exact hq (hR i T x hTi hxi)))
      simp only [Yo]
      refine nx fun k kn kr _ _ => ?_
      simp only [ya, yb, yc, yd, ye, yf, yg, yh, yi, yj, yk, yl, ym, yn, yo, yp, yq, yr, yt, yu, yv, yw, yx, yy, yz, yA, yB, yC, yD, yE, yF, yG, yH, yI, yJ, yK, yL, yM, yN, yO, yP, yQ, yR, yS, yT, yU, yV, yW, yX, yY, yZ, y0, y4, y5, y6, y7, y8, y9, Yb, Yc, Yd, Ye, Yg, Yh, Yi, Yj, Yk, Yl, Ym, Yn, Yo, String.reduceEq, if_true, if_false, reduceIte, ↓reduceIte, Yp, Yq, Yr, Ys, Yt, Yu, Yv, Yw, Yx, Yy, Yz, YA, YB, YC, YD, YE, YF, YG, YH, YI, YJ, YK, YL, YM, YN, YO, YP, YQ, YR, YS, YT, YU, YV, YW, Option.map_some, Option.bind_some, List.map_cons, List.map_nil, List.getElem?_cons_zero, List.getElem?_cons_succ, decide_eq_true_eq, List.length_cons, List.length_nil, Nat.reduceAdd, ne_eq, true_and, and_true, not_false_eq_true, not_true_eq_false, Int.reduceEq, Int.reduceNeg, Int.reduceAdd, Int.reduceLT, Int.reduceLE, reduceCtorEq, or_false, false_or, or_true, decide_true, decide_false, Bool.not_true, Bool.not_false, Bool.false_eq_true, Bool.true_eq_false, YX, YY, YZ, Y0, Y1, Y2, Y3, Y4]
      rw [isi_list _ hxm.pl]
      cases hxL : vL x with
      | none =>
        simp only [ya, yb, yc, yd, ye, yf, yg, yh, yi, yj, yk, yl, ym, yn, yo, yp, yq, yr, yt, yu, yv, yw, yx, yy, yz, yA, yB, yC, yD, yE, yF, yG, yH, yI, yJ, yK, yL, yM, yN, yO, yP, yQ, yR, yS, yT, yU, yV, yW, yX, yY, yZ, y0, y4, y5, y6, y7, y8, y9, Yb, Yc, Yd, Ye, Yg, Yh, Yi, Yj, Yk, Yl, Ym, Yn, Yo, String.reduceEq, if_true, if_false, reduceIte, ↓reduceIte, Yp, Yq, Yr, Ys, Yt, Yu, Yv, Yw, Yx, Yy, Yz, YA, YB, YC, YD, YE, YF, YG, YH, YI, YJ, YK, YL, YM, YN, YO, YP, YQ, YR, YS, YT, YU, YV, YW, Option.map_some, Option.bind_some, List.map_cons, List.map_nil, List.getElem?_cons_zero, List.getElem?_cons_succ, decide_eq_true_eq, List.length_cons, List.length_nil, Nat.reduceAdd, ne_eq, true_and, and_true, not_false_eq_true, not_true_eq_false, Int.reduceEq, Int.reduceNeg, Int.reduceAdd, Int.reduceLT, Int.reduceLE, reduceCtorEq, or_false, false_or, or_true, decide_true, decide_false, Bool.not_true, Bool.not_false, Bool.false_eq_true, Bool.true_eq_false, YX, YY, YZ, Y0, Y1, Y2, Y3, Y4]
        simp only [Option.isSome_none, Bool.not_false, if_true]
        refine nx fun k kn' kr' _ _ => ?_
        simp only [ya, yb, yc, yd, ye, yf, yg, yh, yi, yj, yk, yl, ym, yn, yo, yp, yq, yr, yt, yu, yv, yw, yx, yy, yz, yA, yB, yC, yD, yE, yF, yG, yH, yI, yJ, yK, yL, yM, yN, yO, yP, yQ, yR, yS, yT, yU, yV, yW, yX, yY, yZ, y0, y4, y5, y6, y7, y8, y9, Yb, Yc, Yd, Ye, Yg, Yh, Yi, Yj, Yk, Yl, Ym, Yn, Yo, String.reduceEq, if_true, if_false, reduceIte, ↓reduceIte, Yp, Yq, Yr, Ys, Yt, Yu, Yv, Yw, Yx, Yy, Yz, YA, YB, YC, YD, YE, YF, YG, YH, YI, YJ, YK, YL, YM, YN, YO, YP, YQ, YR, YS, YT, YU, YV, YW, Option.map_some, Option.bind_some, List.map_cons, List.map_nil, List.getElem?_cons_zero, List.getElem?_cons_succ, decide_eq_true_eq, List.length_cons, List.length_nil, Nat.reduceAdd, ne_eq, true_and, and_true, not_false_eq_true, not_true_eq_false, Int.reduceEq, Int.reduceNeg, Int.reduceAdd, Int.reduceLT, Int.reduceLE, reduceCtorEq, or_false, false_or, or_true, decide_true, decide_false, Bool.not_true, Bool.not_false, Bool.false_eq_true, Bool.true_eq_false, YX, YY, YZ, Y0, Y1, Y2, Y3, Y4]
        refine kr' _ _ _ (kr _ _ _ (no' _ _ ?_))
        rintro ⟨l, rfl, _⟩
        cases hxL
      | some ys =>
      obtain rfl := vL_of hxL
      obtain ⟨hyl, hyp⟩ := hxm.el ys rfl
      simp only [ya, yb, yc, yd, ye, yf, yg, yh, yi, yj, yk, yl, ym, yn, yo, yp, yq, yr, yt, yu, yv, yw, yx, yy, yz, yA, yB, yC, yD, yE, yF, yG, yH, yI, yJ, yK, yL, yM, yN, yO, yP, yQ, yR, yS, yT, yU, yV, yW, yX, yY, yZ, y0, y4, y5, y6, y7, y8, y9, Yb, Yc, Yd, Ye, Yg, Yh, Yi, Yj, Yk, Yl, Ym, Yn, Yo, String.reduceEq, if_true, if_false, reduceIte, ↓reduceIte, Yp, Yq, Yr, Ys, Yt, Yu, Yv, Yw, Yx, Yy, Yz, YA, YB, YC, YD, YE, YF, YG, YH, YI, YJ, YK, YL, YM, YN, YO, YP, YQ, YR, YS, YT, YU, YV, YW, Option.map_some, Option.bind_some, List.map_cons, List.map_nil, List.getElem?_cons_zero, List.getElem?_cons_succ, decide_eq_true_eq, List.length_cons, List.length_nil, Nat.reduceAdd, ne_eq, true_and, and_true, not_false_eq_true, not_true_eq_false, Int.reduceEq, Int.reduceNeg, Int.reduceAdd, Int.reduceLT, Int.reduceLE, reduceCtorEq, or_false, false_or, or_true, decide_true, decide_false, Bool.not_true, Bool.not_false, Bool.false_eq_true, Bool.true_eq_false, YX, YY, YZ, Y0, Y1, Y2, Y3, Y4]
      simp only [Option.isSome_some, Bool.not_true, Bool.false_eq_true, if_false]
      refine kn _ _ ?_
      refine nx fun k kn kr _ _ => ?_
      simp only [ya, yb, yc, yd, ye, yf, yg, yh, yi, yj, yk, yl, ym, yn, yo, yp, yq, yr, yt, yu, yv, yw, yx, yy, yz, yA, yB, yC, yD, yE, yF, yG, yH, yI, yJ, yK, yL, yM, yN, yO, yP, yQ, yR, yS, yT, yU, yV, yW, yX, yY, yZ, y0, y4, y5, y6, y7, y8, y9, Yb, Yc, Yd, Ye, Yg, Yh, Yi, Yj, Yk, Yl, Ym, Yn, Yo, String.reduceEq, if_true, if_false, reduceIte, ↓reduceIte, Yp, Yq, Yr, Ys, Yt, Yu, Yv, Yw, Yx, Yy, Yz, YA, YB, YC, YD, YE, YF, YG, YH, YI, YJ, YK, YL, YM, YN, YO, YP, YQ, YR, YS, YT, YU, YV, YW, Option.map_some, Option.bind_some, List.map_cons, List.map_nil, List.getElem?_cons_zero, List.getElem?_cons_succ, decide_eq_true_eq, List.length_cons, List.length_nil, Nat.reduceAdd, ne_eq, true_and, and_true, not_false_eq_true, not_true_eq_false, Int.reduceEq, Int.reduceNeg, Int.reduceAdd, Int.reduceLT, Int.reduceLE, reduceCtorEq, or_false, false_or, or_true, decide_true, decide_false, Bool.not_true, Bool.not_false, Bool.false_eq_true, Bool.true_eq_false, YX, YY, YZ, Y0, Y1, Y2, Y3, Y4]
      refine forLoop_items A.v (fun dn rs m' σ'' => m' "web" = some (.v (webOf n ts)) ∧ m' "turn" = some (.v (.list ys)) ∧ m' "point" = some (iv i) ∧ dn ++ rs = ys ∧ ∀ y ∈ dn, isW y = true) (fun _ _ _ _ _ => True.intro) ?_ ?_ _ [] _ _ ⟨by simp [Yn, m1], by simp [Yn], by simp [Yn], rfl, fun _ h => nomatch h⟩
      · rintro dn y rs m' σ'' K'' ⟨n1, n2, n3, hds, hdw⟩ hK'' _ _ hr''
        have hym : y ∈ ys := by rw [← hds]; simp
        simp only [bindT, Yo]
        refine nx fun k kn' kr' _ _ => ?_
        simp only [ya, yb, yc, yd, ye, yf, yg, yh, yi, yj, yk, yl, ym, yn, yo, yp, yq, yr, yt, yu, yv, yw, yx, yy, yz, yA, yB, yC, yD, yE, yF, yG, yH, yI, yJ, yK, yL, yM, yN, yO, yP, yQ, yR, yS, yT, yU, yV, yW, yX, yY, yZ, y0, y4, y5, y6, y7, y8, y9, Yb, Yc, Yd, Ye, Yg, Yh, Yi, Yj, Yk, Yl, Ym, Yn, Yo, String.reduceEq, if_true, if_false, reduceIte, ↓reduceIte, Yp, Yq, Yr, Ys, Yt, Yu, Yv, Yw, Yx, Yy, Yz, YA, YB, YC, YD, YE, YF, YG, YH, YI, YJ, YK, YL, YM, YN, YO, YP, YQ, YR, YS, YT, YU, YV, YW, Option.map_some, Option.bind_some, List.map_cons, List.map_nil, List.getElem?_cons_zero, List.getElem?_cons_succ, decide_eq_true_eq, List.length_cons, List.length_nil, Nat.reduceAdd, ne_eq, true_and, and_true, not_false_eq_true, not_true_eq_false, Int.reduceEq, Int.reduceNeg, Int.reduceAdd, Int.reduceLT, Int.reduceLE, reduceCtorEq, or_false, false_or, or_true, decide_true, decide_false, Bool.not_true, Bool.not_false, Bool.false_eq_true, Bool.true_eq_false, YX, YY, YZ, Y0, Y1, Y2, Y3, Y4]
        refine whole_v hC (hyp y hym) ?_
        simp only [ya, yb, yc, yd, ye, yf, yg, yh, yi, yj, yk, yl, ym, yn, yo, yp, yq, yr, yt, yu, yv, yw, yx, yy, yz, yA, yB, yC, yD, yE, yF, yG, yH, yI, yJ, yK, yL, yM, yN, yO, yP, yQ, yR, yS, yT, yU, yV, yW, yX, yY, yZ, y0, y4, y5, y6, y7, y8, y9, Yb, Yc, Yd, Ye, Yg, Yh, Yi, Yj, Yk, Yl, Ym, Yn, Yo, String.reduceEq, if_true, if_false, reduceIte, ↓reduceIte, Yp, Yq, Yr, Ys, Yt, Yu, Yv, Yw, Yx, Yy, Yz, YA, YB, YC, YD, YE, YF, YG, YH, YI, YJ, YK, YL, YM, YN, YO, YP, YQ, YR, YS, YT, YU, YV, YW, Option.map_some, Option.bind_some, List.map_cons, List.map_nil, List.getElem?_cons_zero, List.getElem?_cons_succ, decide_eq_true_eq, List.length_cons, List.length_nil, Nat.reduceAdd, ne_eq, true_and, and_true, not_false_eq_true, not_true_eq_false, Int.reduceEq, Int.reduceNeg, Int.reduceAdd, Int.reduceLT, Int.reduceLE, reduceCtorEq, or_false, false_or, or_true, decide_true, decide_false, Bool.not_true, Bool.not_false, Bool.false_eq_true, Bool.true_eq_false, YX, YY, YZ, Y0, Y1, Y2, Y3, Y4]
        cases hw : isW y with
        | false =>
          simp only [Bool.not_false, if_true]
          refine nx fun k kn' kr'' _ _ => ?_
          simp only [ya, yb, yc, yd, ye, yf, yg, yh, yi, yj, yk, yl, ym, yn, yo, yp, yq, yr, yt, yu, yv, yw, yx, yy, yz, yA, yB, yC, yD, yE, yF, yG, yH, yI, yJ, yK, yL, yM, yN, yO, yP, yQ, yR, yS, yT, yU, yV, yW, yX, yY, yZ, y0, y4, y5, y6, y7, y8, y9, Yb, Yc, Yd, Ye, Yg, Yh, Yi, Yj, Yk, Yl, Ym, Yn, Yo, String.reduceEq, if_true, if_false, reduceIte, ↓reduceIte, Yp, Yq, Yr, Ys, Yt, Yu, Yv, Yw, Yx, Yy, Yz, YA, YB, YC, YD, YE, YF, YG, YH, YI, YJ, YK, YL, YM, YN, YO, YP, YQ, YR, YS, YT, YU, YV, YW, Option.map_some, Option.bind_some, List.map_cons, List.map_nil, List.getElem?_cons_zero, List.getElem?_cons_succ, decide_eq_true_eq, List.length_cons, List.length_nil, Nat.reduceAdd, ne_eq, true_and, and_true, not_false_eq_true, not_true_eq_false, Int.reduceEq, Int.reduceNeg, Int.reduceAdd, Int.reduceLT, Int.reduceLE, reduceCtorEq, or_false, false_or, or_true, decide_true, decide_false, Bool.not_true, Bool.not_false, Bool.false_eq_true, Bool.true_eq_false, YX, YY, YZ, Y0, Y1, Y2, Y3, Y4]
          refine kr'' _ _ _ (kr' _ _ _ (hr'' _ _ _ (kr _ _ _ (no' _ _ ?_))))
          rintro ⟨l, e, _⟩
          injection e with e
          subst e
          obtain ⟨q, _, rfl⟩ := List.mem_map.mp hym
          cases hw
        | true =>
          simp only [Bool.not_true, Bool.false_eq_true, if_false]
          refine kn' _ _ ?_
          simp only [ya, yb, yc, yd, ye, yf, yg, yh, yi, yj, yk, yl, ym, yn, yo, yp, yq, yr, yt, yu, yv, yw, yx, yy, yz, yA, yB, yC, yD, yE, yF, yG, yH, yI, yJ, yK, yL, yM, yN, yO, yP, yQ, yR, yS, yT, yU, yV, yW, yX, yY, yZ, y0, y4, y5, y6, y7, y8, y9, Yb, Yc, Yd, Ye, Yg, Yh, Yi, Yj, Yk, Yl, Ym, Yn, Yo, String.reduceEq, if_true, if_false, reduceIte, ↓reduceIte, Yp, Yq, Yr, Ys, Yt, Yu, Yv, Yw, Yx, Yy, Yz, YA, YB, YC, YD, YE, YF, YG, YH, YI, YJ, YK, YL, YM, YN, YO, YP, YQ, YR, YS, YT, YU, YV, YW, Option.map_some, Option.bind_some, List.map_cons, List.map_nil, List.getElem?_cons_zero, List.getElem?_cons_succ, decide_eq_true_eq, List.length_cons, List.length_nil, Nat.reduceAdd, ne_eq, true_and, and_true, not_false_eq_true, not_true_eq_false, Int.reduceEq, Int.reduceNeg, Int.reduceAdd, Int.reduceLT, Int.reduceLE, reduceCtorEq, or_false, false_or, or_true, decide_true, decide_false, Bool.not_true, Bool.not_false, Bool.false_eq_true, Bool.true_eq_false, YX, YY, YZ, Y0, Y1, Y2, Y3, Y4]
          refine hK'' _ _ ⟨by simp [Yn, n1], by simp [Yn, n2], by simp [Yn, n3], by simpa using hds, fun z hz => ?_⟩
          rcases List.mem_append.mp hz with hz | hz
          · exact hdw z hz
          · rw [List.mem_singleton.mp hz]; exact hw
      · rintro dn m' σ'' ⟨n1, n2, n3, hds, hdw⟩
        rw [List.append_nil] at hds
        subst hds
        obtain ⟨l, rfl⟩ := ints_pre hdw
        simp only [List.length_map] at hyl
        refine kn _ _ ?_
        refine nx fun k kn kr _ _ => ?_
        simp only [ya, yb, yc, yd, ye, yf, yg, yh, yi, yj, yk, yl, ym, yn, yo, yp, yq, yr, yt, yu, yv, yw, yx, yy, yz, yA, yB, yC, yD, yE, yF, yG, yH, yI, yJ, yK, yL, yM, yN, yO, yP, yQ, yR, yS, yT, yU, yV, yW, yX, yY, yZ, y0, y4, y5, y6, y7, y8, y9, Yb, Yc, Yd, Ye, Yg, Yh, Yi, Yj, Yk, Yl, Ym, Yn, Yo, String.reduceEq, if_true, if_false, reduceIte, ↓reduceIte, Yp, Yq, Yr, Ys, Yt, Yu, Yv, Yw, Yx, Yy, Yz, YA, YB, YC, YD, YE, YF, YG, YH, YI, YJ, YK, YL, YM, YN, YO, YP, YQ, YR, YS, YT, YU, YV, YW, Option.map_some, Option.bind_some, List.map_cons, List.map_nil, List.getElem?_cons_zero, List.getElem?_cons_succ, decide_eq_true_eq, List.length_cons, List.length_nil, Nat.reduceAdd, ne_eq, true_and, and_true, not_false_eq_true, not_true_eq_false, Int.reduceEq, Int.reduceNeg, Int.reduceAdd, Int.reduceLT, Int.reduceLE, reduceCtorEq, or_false, false_or, or_true, decide_true, decide_false, Bool.not_true, Bool.not_false, Bool.false_eq_true, Bool.true_eq_false, YX, YY, YZ, Y0, Y1, Y2, Y3, Y4]
        simp only [n1, n2, n3, Yo]
        obtain ⟨ps, hps, hpp, hpo⟩ := vsort_ints l
        have hpl := hpp.length_eq
        simp only [YW, Yo, hps]
        refine ⟨sortable_ints _, by simp; omega, by simp [small]; omega, ?_⟩
        have hin : i < n.toNat := by omega
        have hrow : ((List.range n.toNat).map fun (k : Nat) => rowV (ts.map nm) (k : Int))[(i : Int).toNat]? = some (.list ((ownI n ts i).map V.int)) := by
          rw [← row_eq G]; simp [hin]
        unfold webOf
        rw [asO_web]
        refine beside_ok hC (by omega) (by omega) hrow (by have := own_len hn' ts i; simp; omega) ?_
        rw [ne_ints]
        simp only [Yo]
        by_cases q : ps = ownI n ts i
        · simp only [q, decide_true, Bool.not_true, Bool.false_eq_true, if_false]
          refine kn _ _ ?_
          simp only [ya, yb, yc, yd, ye, yf, yg, yh, yi, yj, yk, yl, ym, yn, yo, yp, yq, yr, yt, yu, yv, yw, yx, yy, yz, yA, yB, yC, yD, yE, yF, yG, yH, yI, yJ, yK, yL, yM, yN, yO, yP, yQ, yR, yS, yT, yU, yV, yW, yX, yY, yZ, y0, y4, y5, y6, y7, y8, y9, Yb, Yc, Yd, Ye, Yg, Yh, Yi, Yj, Yk, Yl, Ym, Yn, Yo, String.reduceEq, if_true, if_false, reduceIte, ↓reduceIte, Yp, Yq, Yr, Ys, Yt, Yu, Yv, Yw, Yx, Yy, Yz, YA, YB, YC, YD, YE, YF, YG, YH, YI, YJ, YK, YL, YM, YN, YO, YP, YQ, YR, YS, YT, YU, YV, YW, Option.map_some, Option.bind_some, List.map_cons, List.map_nil, List.getElem?_cons_zero, List.getElem?_cons_succ, decide_eq_true_eq, List.length_cons, List.length_nil, Nat.reduceAdd, ne_eq, true_and, and_true, not_false_eq_true, not_true_eq_false, Int.reduceEq, Int.reduceNeg, Int.reduceAdd, Int.reduceLT, Int.reduceLE, reduceCtorEq, or_false, false_or, or_true, decide_true, decide_false, Bool.not_true, Bool.not_false, Bool.false_eq_true, Bool.true_eq_false, YX, YY, YZ, Y0, Y1, Y2, Y3, Y4]
          refine hK' _ _ ⟨n1, by simpa using hz, fun j T' x' hj h1 h2 => ?_⟩
          rw [List.length_append, List.length_singleton] at hj
          by_cases qj : j < p.length
          · exact hd j T' x' qj h1 h2
          · have : j = i := by omega
            subst this
            rw [hTi] at h1; rw [hxi] at h2
            cases h1; cases h2
            exact ⟨l, rfl, ((sorted_own hpp hpo).mp q).trans hTp.symm⟩
        · simp only [q, decide_false, Bool.not_false, if_true]
          refine nx fun k kn' kr'' _ _ => ?_
          simp only [ya, yb, yc, yd, ye, yf, yg, yh, yi, yj, yk, yl, ym, yn, yo, yp, yq, yr, yt, yu, yv, yw, yx, yy, yz, yA, yB, yC, yD, yE, yF, yG, yH, yI, yJ, yK, yL, yM, yN, yO, yP, yQ, yR, yS, yT, yU, yV, yW, yX, yY, yZ, y0, y4, y5, y6, y7, y8, y9, Yb, Yc, Yd, Ye, Yg, Yh, Yi, Yj, Yk, Yl, Ym, Yn, Yo, String.reduceEq, if_true, if_false, reduceIte, ↓reduceIte, Yp, Yq, Yr, Ys, Yt, Yu, Yv, Yw, Yx, Yy, Yz, YA, YB, YC, YD, YE, YF, YG, YH, YI, YJ, YK, YL, YM, YN, YO, YP, YQ, YR, YS, YT, YU, YV, YW, Option.map_some, Option.bind_some, List.map_cons, List.map_nil, List.getElem?_cons_zero, List.getElem?_cons_succ, decide_eq_true_eq, List.length_cons, List.length_nil, Nat.reduceAdd, ne_eq, true_and, and_true, not_false_eq_true, not_true_eq_false, Int.reduceEq, Int.reduceNeg, Int.reduceAdd, Int.reduceLT, Int.reduceLE, reduceCtorEq, or_false, false_or, or_true, decide_true, decide_false, Bool.not_true, Bool.not_false, Bool.false_eq_true, Bool.true_eq_false, YX, YY, YZ, Y0, Y1, Y2, Y3, Y4]
          refine kr'' _ _ _ (kr _ _ _ (no' _ _ ?_))
          rintro ⟨l', e, hl'⟩
          injection e with e
          have : l = l' := by
            have := congrArg (List.map intOf) e
            rw [List.map_map, List.map_map] at this
            have e0 : intOf ∘ V.int = id := rfl
            rwa [e0, List.map_id, List.map_id] at this
          subst this
          exact q ((sorted_own hpp hpo).mpr (hl'.trans hTp))
    · rintro p m σ' ⟨_, hz, hd⟩
      refine kn _ _ ?_
      refine nx fun k kn kr _ _ => ?_
      simp only [ya, yb, yc, yd, ye, yf, yg, yh, yi, yj, yk, yl, ym, yn, yo, yp, yq, yr, yt, yu, yv, yw, yx, yy, yz, yA, yB, yC, yD, yE, yF, yG, yH, yI, yJ, yK, yL, yM, yN, yO, yP, yQ, yR, yS, yT, yU, yV, yW, yX, yY, yZ, y0, y4, y5, y6, y7, y8, y9, Yb, Yc, Yd, Ye, Yg, Yh, Yi, Yj, Yk, Yl, Ym, Yn, Yo, String.reduceEq, if_true, if_false, reduceIte, ↓reduceIte, Yp, Yq, Yr, Ys, Yt, Yu, Yv, Yw, Yx, Yy, Yz, YA, YB, YC, YD, YE, YF, YG, YH, YI, YJ, YK, YL, YM, YN, YO, YP, YQ, YR, YS, YT, YU, YV, YW, Option.map_some, Option.bind_some, List.map_cons, List.map_nil, List.getElem?_cons_zero, List.getElem?_cons_succ, decide_eq_true_eq, List.length_cons, List.length_nil, Nat.reduceAdd, ne_eq, true_and, and_true, not_false_eq_true, not_true_eq_false, Int.reduceEq, Int.reduceNeg, Int.reduceAdd, Int.reduceLT, Int.reduceLE, reduceCtorEq, or_false, false_or, or_true, decide_true, decide_false, Bool.not_true, Bool.not_false, Bool.false_eq_true, Bool.true_eq_false, YX, YY, YZ, Y0, Y1, Y2, Y3, Y4]
      refine kr _ _ _ (h _ true ⟨fun _ => ⟨xs, rfl, hlen', fun i T x h1 h2 => hd i T x ?_ h1 h2⟩, fun _ => rfl⟩)
      have : p.length = xs.length := by
        have := congrArg List.length hz
        simpa using this
      have := (List.getElem?_eq_some_iff.mp h2).1
      omega
end
end Fl

/-! what is handed, and what the law holds for right (own work) -/
namespace Fl
open PySem (Str)
set_option linter.unusedSimpArgs false
set_option linter.unusedSectionVars false

section
variable {C : CallSem} (hC : Closed C tab)
include hC

omit hC in
theorem lV_inj {a b : List Int} (e : a.map V.int = b.map V.int) : a = b := by
  have := congrArg (List.map intOf) e
  rw [List.map_map, List.map_map] at this
  have e0 : intOf ∘ V.int = id := rfl
  rwa [e0, List.map_id, List.map_id] at this

theorem right_gen {σ : H} {n : Int} {ts : List (Int × Int)} {Ts : List (List Int)} {t : V} {K X} (hn : 1 ≤ n) (hn' : n ≤ 16) (hT : Turns n ts Ts) (ht : Tame t)
    (h : ∀ b, (b = true ↔ Right Ts t) → K (.v (.bool b)) σ) : C "_law_is_right" [.v (lsV Ts), .v t] σ K X := by
  refine run_of hC (d := f__law_is_right) (by repeat (first | exact List.Mem.head _ | apply List.Mem.tail)) rfl ?_
  unfold f__law_is_right lsV
  dsimp only
  have no : ¬ Right Ts t → K (.v (.bool false)) σ := fun hr => h false ⟨fun e => (nomatch e), fun e => (hr e).elim⟩
  refine nx fun k kn kr _ _ => ?_
  simp only [ya, yb, yc, yd, ye, yf, yg, yh, yi, yj, yk, yl, ym, yn, yo, yp, yq, yr, yt, yu, yv, yw, yx, yy, yz, yA, yB, yC, yD, yE, yF, yG, yH, yI, yJ, yK, yL, yM, yN, yO, yP, yQ, yR, yS, yT, yU, yV, yW, yX, yY, yZ, y0, y4, y5, y6, y7, y8, y9, Yb, Yc, Yd, Ye, Yg, Yh, Yi, Yj, Yk, Yl, Ym, Yn, Yo, String.reduceEq, if_true, if_false, reduceIte, ↓reduceIte, Yp, Yq, Yr, Ys, Yt, Yu, Yv, Yw, Yx, Yy, Yz, YA, YB, YC, YD, YE, YF, YG, YH, YI, YJ, YK, YL, YM, YN, YO, YP, YQ, YR, YS, YT, YU, YV, YW, Option.map_some, Option.bind_some, List.map_cons, List.map_nil, List.getElem?_cons_zero, List.getElem?_cons_succ, decide_eq_true_eq, List.length_cons, List.length_nil, Nat.reduceAdd, ne_eq, true_and, and_true, not_false_eq_true, not_true_eq_false, Int.reduceEq, Int.reduceNeg, Int.reduceAdd, Int.reduceLT, Int.reduceLE, reduceCtorEq, or_false, false_or, or_true, decide_true, decide_false, Bool.not_true, Bool.not_false, Bool.false_eq_true, Bool.true_eq_false, YX, YY, YZ, Y0, Y1, Y2, Y3, Y4]
  rw [isi_list _ ht.pl]
  cases hL : vL t with
  | none =>
    simp only [ya, yb, yc, yd, ye, yf, yg, yh, yi, yj, yk, yl, ym, yn, yo, yp, yq, yr, yt, yu, yv, yw, yx, yy, yz, yA, yB, yC, yD, yE, yF, yG, yH, yI, yJ, yK, yL, yM, yN, yO, yP, yQ, yR, yS, yT, yU, yV, yW, yX, yY, yZ, y0, y4, y5, y6, y7, y8, y9, Yb, Yc, Yd, Ye, Yg, Yh, Yi, Yj, Yk, Yl, Ym, Yn, Yo, String.reduceEq, if_true, if_false, reduceIte, ↓reduceIte, Yp, Yq, Yr, Ys, Yt, Yu, Yv, Yw, Yx, Yy, Yz, YA, YB, YC, YD, YE, YF, YG, YH, YI, YJ, YK, YL, YM, YN, YO, YP, YQ, YR, YS, YT, YU, YV, YW, Option.map_some, Option.bind_some, List.map_cons, List.map_nil, List.getElem?_cons_zero, List.getElem?_cons_succ, decide_eq_true_eq, List.length_cons, List.length_nil, Nat.reduceAdd, ne_eq, true_and, and_true, not_false_eq_true, not_true_eq_false, Int.reduceEq, Int.reduceNeg, Int.reduceAdd, Int.reduceLT, Int.reduceLE, reduceCtorEq, or_false, false_or, or_true, decide_true, decide_false, Bool.not_true, Bool.not_false, Bool.false_eq_true, Bool.true_eq_false, YX, YY, YZ, Y0, Y1, Y2, Y3, Y4]
    simp only [Option.isSome_none, Bool.not_false, Bool.true_eq_false, if_false, if_true]
    refine nx fun k kn' kr' _ _ => ?_
    simp only [ya, yb, yc, yd, ye, yf, yg, yh, yi, yj, yk, yl, ym, yn, yo, yp, yq, yr, yt, yu, yv, yw, yx, yy, yz, yA, yB, yC, yD, yE, yF, yG, yH, yI, yJ, yK, yL, yM, yN, yO, yP, yQ, yR, yS, yT, yU, yV, yW, yX, yY, yZ, y0, y4, y5, y6, y7, y8, y9, Yb, Yc, Yd, Ye, Yg, Yh, Yi, Yj, Yk, Yl, Ym, Yn, Yo, String.reduceEq, if_true, if_false, reduceIte, ↓reduceIte, Yp, Yq, Yr, Ys, Yt, Yu, Yv, Yw, Yx, Yy, Yz, YA, YB, YC, YD, YE, YF, YG, YH, YI, YJ, YK, YL, YM, YN, YO, YP, YQ, YR, YS, YT, YU, YV, YW, Option.map_some, Option.bind_some, List.map_cons, List.map_nil, List.getElem?_cons_zero, List.getElem?_cons_succ, decide_eq_true_eq, List.length_cons, List.length_nil, Nat.reduceAdd, ne_eq, true_and, and_true, not_false_eq_true, not_true_eq_false, Int.reduceEq, Int.reduceNeg, Int.reduceAdd, Int.reduceLT, Int.reduceLE, reduceCtorEq, or_false, false_or, or_true, decide_true, decide_false, Bool.not_true, Bool.not_false, Bool.false_eq_true, Bool.true_eq_false, YX, YY, YZ, Y0, Y1, Y2, Y3, Y4]
    refine kr' _ _ _ (kr _ _ _ (no ?_))
    rintro ⟨xs, rfl, _⟩
    cases hL
  | some xs =>
    obtain rfl := vL_of hL
    obtain ⟨hxl, hxo⟩ := ht.el xs rfl
    simp only [ya, yb, yc, yd, ye, yf, yg, yh, yi, yj, yk, yl, ym, yn, yo, yp, yq, yr, yt, yu, yv, yw, yx, yy, yz, yA, yB, yC, yD, yE, yF, yG, yH, yI, yJ, yK, yL, yM, yN, yO, yP, yQ, yR, yS, yT, yU, yV, yW, yX, yY, yZ, y0, y4, y5, y6, y7, y8, y9, Yb, Yc, Yd, Ye, Yg, Yh, Yi, Yj, Yk, Yl, Ym, Yn, Yo, String.reduceEq, if_true, if_false, reduceIte, ↓reduceIte, Yp, Yq, Yr, Ys, Yt, Yu, Yv, Yw, Yx, Yy, Yz, YA, YB, YC, YD, YE, YF, YG, YH, YI, YJ, YK, YL, YM, YN, YO, YP, YQ, YR, YS, YT, YU, YV, YW, Option.map_some, Option.bind_some, List.map_cons, List.map_nil, List.getElem?_cons_zero, List.getElem?_cons_succ, decide_eq_true_eq, List.length_cons, List.length_nil, Nat.reduceAdd, ne_eq, true_and, and_true, not_false_eq_true, not_true_eq_false, Int.reduceEq, Int.reduceNeg, Int.reduceAdd, Int.reduceLT, Int.reduceLE, reduceCtorEq, or_false, false_or, or_true, decide_true, decide_false, Bool.not_true, Bool.not_false, Bool.false_eq_true, Bool.true_eq_false, YX, YY, YZ, Y0, Y1, Y2, Y3, Y4]
    simp only [Option.isSome_some, Bool.not_true, if_true, List.length_map]
    by_cases hlen : (xs.length : Int) = Ts.length
    case neg =>
      simp only [hlen, not_false_eq_true, decide_true, Bool.true_eq_false, if_false, if_true]
      refine nx fun k kn' kr' _ _ => ?_
      simp only [ya, yb, yc, yd, ye, yf, yg, yh, yi, yj, yk, yl, ym, yn, yo, yp, yq, yr, yt, yu, yv, yw, yx, yy, yz, yA, yB, yC, yD, yE, yF, yG, yH, yI, yJ, yK, yL, yM, yN, yO, yP, yQ, yR, yS, yT, yU, yV, yW, yX, yY, yZ, y0, y4, y5, y6, y7, y8, y9, Yb, Yc, Yd, Ye, Yg, Yh, Yi, Yj, Yk, Yl, Ym, Yn, Yo, String.reduceEq, if_true, if_false, reduceIte, ↓reduceIte, Yp, Yq, Yr, Ys, Yt, Yu, Yv, Yw, Yx, Yy, Yz, YA, YB, YC, YD, YE, YF, YG, YH, YI, YJ, YK, YL, YM, YN, YO, YP, YQ, YR, YS, YT, YU, YV, YW, Option.map_some, Option.bind_some, List.map_cons, List.map_nil, List.getElem?_cons_zero, List.getElem?_cons_succ, decide_eq_true_eq, List.length_cons, List.length_nil, Nat.reduceAdd, ne_eq, true_and, and_true, not_false_eq_true, not_true_eq_false, Int.reduceEq, Int.reduceNeg, Int.reduceAdd, Int.reduceLT, Int.reduceLE, reduceCtorEq, or_false, false_or, or_true, decide_true, decide_false, Bool.not_true, Bool.not_false, Bool.false_eq_true, Bool.true_eq_false, YX, YY, YZ, Y0, Y1, Y2, Y3, Y4]
      refine kr' _ _ _ (kr _ _ _ (no ?_))
      rintro ⟨xs', e, hl, _⟩
      cases e
      omega
    case pos =>
    simp only [hlen, not_true_eq_false, decide_false, Bool.false_eq_true, if_false, if_true]
    have hlen' : xs.length = Ts.length := by omega
    have hTl := hT.len
    refine kn _ _ ?_
    refine nx fun k kn kr _ _ => ?_
    simp only [ya, yb, yc, yd, ye, yf, yg, yh, yi, yj, yk, yl, ym, yn, yo, yp, yq, yr, yt, yu, yv, yw, yx, yy, yz, yA, yB, yC, yD, yE, yF, yG, yH, yI, yJ, yK, yL, yM, yN, yO, yP, yQ, yR, yS, yT, yU, yV, yW, yX, yY, yZ, y0, y4, y5, y6, y7, y8, y9, Yb, Yc, Yd, Ye, Yg, Yh, Yi, Yj, Yk, Yl, Ym, Yn, Yo, String.reduceEq, if_true, if_false, reduceIte, ↓reduceIte, Yp, Yq, Yr, Ys, Yt, Yu, Yv, Yw, Yx, Yy, Yz, YA, YB, YC, YD, YE, YF, YG, YH, YI, YJ, YK, YL, YM, YN, YO, YP, YQ, YR, YS, YT, YU, YV, YW, Option.map_some, Option.bind_some, List.map_cons, List.map_nil, List.getElem?_cons_zero, List.getElem?_cons_succ, decide_eq_true_eq, List.length_cons, List.length_nil, Nat.reduceAdd, ne_eq, true_and, and_true, not_false_eq_true, not_true_eq_false, Int.reduceEq, Int.reduceNeg, Int.reduceAdd, Int.reduceLT, Int.reduceLE, reduceCtorEq, or_false, false_or, or_true, decide_true, decide_false, Bool.not_true, Bool.not_false, Bool.false_eq_true, Bool.true_eq_false, YX, YY, YZ, Y0, Y1, Y2, Y3, Y4]
    simp only [List.length_map]
    refine ⟨by omega, by omega, ?_⟩
    rw [in_range]
    simp only [ya, yb, yc, yd, ye, yf, yg, yh, yi, yj, yk, yl, ym, yn, yo, yp, yq, yr, yt, yu, yv, yw, yx, yy, yz, yA, yB, yC, yD, yE, yF, yG, yH, yI, yJ, yK, yL, yM, yN, yO, yP, yQ, yR, yS, yT, yU, yV, yW, yX, yY, yZ, y0, y4, y5, y6, y7, y8, y9, Yb, Yc, Yd, Ye, Yg, Yh, Yi, Yj, Yk, Yl, Ym, Yn, Yo, String.reduceEq, if_true, if_false, reduceIte, ↓reduceIte, Yp, Yq, Yr, Ys, Yt, Yu, Yv, Yw, Yx, Yy, Yz, YA, YB, YC, YD, YE, YF, YG, YH, YI, YJ, YK, YL, YM, YN, YO, YP, YQ, YR, YS, YT, YU, YV, YW, Option.map_some, Option.bind_some, List.map_cons, List.map_nil, List.getElem?_cons_zero, List.getElem?_cons_succ, decide_eq_true_eq, List.length_cons, List.length_nil, Nat.reduceAdd, ne_eq, true_and, and_true, not_false_eq_true, not_true_eq_false, Int.reduceEq, Int.reduceNeg, Int.reduceAdd, Int.reduceLT, Int.reduceLE, reduceCtorEq, or_false, false_or, or_true, decide_true, decide_false, Bool.not_true, Bool.not_false, Bool.false_eq_true, Bool.true_eq_false, YX, YY, YZ, Y0, Y1, Y2, Y3, Y4]
    refine forLoop_range (fun q m σ' => σ' = σ ∧ m "_law_turns" = some (.v (.list (Ts.map lV))) ∧ m "_law_thing" = some (.v (.list xs)) ∧ ∀ (i : Nat) T x, i < q → Ts[i]? = some T → xs[i]? = some x → rightRow T x) (fun _ _ _ _ => True.intro) ?_ ?_ _ _ ⟨rfl, rfl, rfl, fun i _ _ hi => absurd hi (Nat.not_lt_zero _)⟩
    · rintro i m σ' K' hi ⟨rfl, m1, m2, hd⟩ hK' _ _ hr
      simp only [Int.toNat_natCast] at hi
      have hil : i < xs.length := by omega
      obtain ⟨x, hxi⟩ : ∃ x, xs[i]? = some x := ⟨xs[i], List.getElem?_eq_getElem hil⟩
      obtain ⟨T, hTi⟩ : ∃ T, Ts[i]? = some T := ⟨Ts[i], List.getElem?_eq_getElem hi⟩
      have hxm := hxo x (List.mem_of_getElem? hxi)
      have hTp := hT.perm i T hTi
      have hnd : T.Nodup := hTp.nodup_iff.mpr ((rngI_nd n).filter _)
      have no' : ∀ m, ¬ rightRow T x → K' (.ret (.v (.bool false))) m σ' := fun m hq => hr _ _ _ (kr _ _ _ (no fun ⟨xs', e, _, hR⟩ => by cases e; exact hq (hR i T x hTi hxi)))
      have it1 : itemSem σ' (.v (.list xs)) (.v (.int i)) = some (.v x) := item_of_list (YW _ _) (idx_nat hil) hxi
      have it2 : itemSem σ' (.v (.list (Ts.map lV))) (.v (.int i)) = some (.v (lV T)) := item_of_list (YW _ _) (idx_nat (by simpa using hi)) (by rw [List.getElem?_map, hTi]; rfl)
      refine nx fun k kn kr _ _ => ?_
      simp only [ya, yb, yc, yd, ye, yf, yg, yh, yi, yj, yk, yl, ym, yn, yo, yp, yq, yr, yt, yu, yv, yw, yx, yy, yz, yA, yB, yC, yD, yE, yF, yG, yH, yI, yJ, yK, yL, yM, yN, yO, yP, yQ, yR, yS, yT, yU, yV, yW, yX, yY, yZ, y0, y4, y5, y6, y7, y8, y9, Yb, Yc, Yd, Ye, Yg, Yh, Yi, Yj, Yk, Yl, Ym, Yn, Yo, String.reduceEq, if_true, if_false, reduceIte, ↓reduceIte, Yp, Yq, Yr, Ys, Yt, Yu, Yv, Yw, Yx, Yy, Yz, YA, YB, YC, YD, YE, YF, YG, YH, YI, YJ, YK, YL, YM, YN, YO, YP, YQ, YR, YS, YT, YU, YV, YW, Option.map_some, Option.bind_some, List.map_cons, List.map_nil, List.getElem?_cons_zero, List.getElem?_cons_succ, decide_eq_true_eq, List.length_cons, List.length_nil, Nat.reduceAdd, ne_eq, true_and, and_true, not_false_eq_true, not_true_eq_false, Int.reduceEq, Int.reduceNeg, Int.reduceAdd, Int.reduceLT, Int.reduceLE, reduceCtorEq, or_false, false_or, or_true, decide_true, decide_false, Bool.not_true, Bool.not_false, Bool.false_eq_true, Bool.true_eq_false, YX, YY, YZ, Y0, Y1, Y2, Y3, Y4]
      simp only [m1, m2, Yo, it1, it2]
      rw [isi_list _ hxm.pl]
      cases hxL : vL x with
      | none =>
        simp only [ya, yb, yc, yd, ye, yf, yg, yh, yi, yj, yk, yl, ym, yn, yo, yp, yq, yr, yt, yu, yv, yw, yx, yy, yz, yA, yB, yC, yD, yE, yF, yG, yH, yI, yJ, yK, yL, yM, yN, yO, yP, yQ, yR, yS, yT, yU, yV, yW, yX, yY, yZ, y0, y4, y5, y6, y7, y8, y9, Yb, Yc, Yd, Ye, Yg, Yh, Yi, Yj, Yk, Yl, Ym, Yn, Yo, String.reduceEq, if_true, if_false, reduceIte, ↓reduceIte, Yp, Yq, Yr, Ys, Yt, Yu, Yv, Yw, Yx, Yy, Yz, YA, YB, YC, YD, YE, YF, YG, YH, YI, YJ, YK, YL, YM, YN, YO, YP, YQ, YR, YS, YT, YU, YV, YW, Option.map_some, Option.bind_some, List.map_cons, List.map_nil, List.getElem?_cons_zero, List.getElem?_cons_succ, decide_eq_true_eq, List.length_cons, List.length_nil, Nat.reduceAdd, ne_eq, true_and, and_true, not_false_eq_true, not_true_eq_false, Int.reduceEq, Int.reduceNeg, Int.reduceAdd, Int.reduceLT, Int.reduceLE, reduceCtorEq, or_false, false_or, or_true, decide_true, decide_false, Bool.not_true, Bool.not_false, Bool.false_eq_true, Bool.true_eq_false, YX, YY, YZ, Y0, Y1, Y2, Y3, Y4]
        simp only [Option.isSome_none, Bool.not_false, Bool.true_eq_false, if_true, if_false]
        refine nx fun k kn' kr' _ _ => ?_
        simp only [ya, yb, yc, yd, ye, yf, yg, yh, yi, yj, yk, yl, ym, yn, yo, yp, yq, yr, yt, yu, yv, yw, yx, yy, yz, yA, yB, yC, yD, yE, yF, yG, yH, yI, yJ, yK, yL, yM, yN, yO, yP, yQ, yR, yS, yT, yU, yV, yW, yX, yY, yZ, y0, y4, y5, y6, y7, y8, y9, Yb, Yc, Yd, Ye, Yg, Yh, Yi, Yj, Yk, Yl, Ym, Yn, Yo, String.reduceEq, if_true, if_false, reduceIte, ↓reduceIte, Yp, Yq, Yr, Ys, Yt, Yu, Yv, Yw, Yx, Yy, Yz, YA, YB, YC, YD, YE, YF, YG, YH, YI, YJ, YK, YL, YM, YN, YO, YP, YQ, YR, YS, YT, YU, YV, YW, Option.map_some, Option.bind_some, List.map_cons, List.map_nil, List.getElem?_cons_zero, List.getElem?_cons_succ, decide_eq_true_eq, List.length_cons, List.length_nil, Nat.reduceAdd, ne_eq, true_and, and_true, not_false_eq_true, not_true_eq_false, Int.reduceEq, Int.reduceNeg, Int.reduceAdd, Int.reduceLT, Int.reduceLE, reduceCtorEq, or_false, false_or, or_true, decide_true, decide_false, Bool.not_true, Bool.not_false, Bool.false_eq_true, Bool.true_eq_false, YX, YY, YZ, Y0, Y1, Y2, Y3, Y4]
        refine kr' _ _ _ (kr _ _ _ (no' _ ?_))
        rintro ⟨l, rfl, _⟩
        cases hxL
      | some ys =>
      obtain rfl := vL_of hxL
      obtain ⟨hyl, hyp⟩ := hxm.el ys rfl
      unfold lV
      simp only [ya, yb, yc, yd, ye, yf, yg, yh, yi, yj, yk, yl, ym, yn, yo, yp, yq, yr, yt, yu, yv, yw, yx, yy, yz, yA, yB, yC, yD, yE, yF, yG, yH, yI, yJ, yK, yL, yM, yN, yO, yP, yQ, yR, yS, yT, yU, yV, yW, yX, yY, yZ, y0, y4, y5, y6, y7, y8, y9, Yb, Yc, Yd, Ye, Yg, Yh, Yi, Yj, Yk, Yl, Ym, Yn, Yo, String.reduceEq, if_true, if_false, reduceIte, ↓reduceIte, Yp, Yq, Yr, Ys, Yt, Yu, Yv, Yw, Yx, Yy, Yz, YA, YB, YC, YD, YE, YF, YG, YH, YI, YJ, YK, YL, YM, YN, YO, YP, YQ, YR, YS, YT, YU, YV, YW, Option.map_some, Option.bind_some, List.map_cons, List.map_nil, List.getElem?_cons_zero, List.getElem?_cons_succ, decide_eq_true_eq, List.length_cons, List.length_nil, Nat.reduceAdd, ne_eq, true_and, and_true, not_false_eq_true, not_true_eq_false, Int.reduceEq, Int.reduceNeg, Int.reduceAdd, Int.reduceLT, Int.reduceLE, reduceCtorEq, or_false, false_or, or_true, decide_true, decide_false, Bool.not_true, Bool.not_false, Bool.false_eq_true, Bool.true_eq_false, YX, YY, YZ, Y0, Y1, Y2, Y3, Y4]
      simp only [Option.isSome_some, Bool.not_true, if_true, List.length_map]
      by_cases hly : (ys.length : Int) = T.length
      case neg =>
        simp only [hly, not_false_eq_true, decide_true, Bool.true_eq_false, if_false, if_true]
        refine nx fun k kn' kr' _ _ => ?_
        simp only [ya, yb, yc, yd, ye, yf, yg, yh, yi, yj, yk, yl, ym, yn, yo, yp, yq, yr, yt, yu, yv, yw, yx, yy, yz, yA, yB, yC, yD, yE, yF, yG, yH, yI, yJ, yK, yL, yM, yN, yO, yP, yQ, yR, yS, yT, yU, yV, yW, yX, yY, yZ, y0, y4, y5, y6, y7, y8, y9, Yb, Yc, Yd, Ye, Yg, Yh, Yi, Yj, Yk, Yl, Ym, Yn, Yo, String.reduceEq, if_true, if_false, reduceIte, ↓reduceIte, Yp, Yq, Yr, Ys, Yt, Yu, Yv, Yw, Yx, Yy, Yz, YA, YB, YC, YD, YE, YF, YG, YH, YI, YJ, YK, YL, YM, YN, YO, YP, YQ, YR, YS, YT, YU, YV, YW, Option.map_some, Option.bind_some, List.map_cons, List.map_nil, List.getElem?_cons_zero, List.getElem?_cons_succ, decide_eq_true_eq, List.length_cons, List.length_nil, Nat.reduceAdd, ne_eq, true_and, and_true, not_false_eq_true, not_true_eq_false, Int.reduceEq, Int.reduceNeg, Int.reduceAdd, Int.reduceLT, Int.reduceLE, reduceCtorEq, or_false, false_or, or_true, decide_true, decide_false, Bool.not_true, Bool.not_false, Bool.false_eq_true, Bool.true_eq_false, YX, YY, YZ, Y0, Y1, Y2, Y3, Y4]
        refine kr' _ _ _ (kr _ _ _ (no' _ ?_))
        rintro ⟨l, e, hp⟩
        injection e with e
        subst e
        have := hp.length_eq
        rw [List.length_map] at hly
        omega
      case pos =>
      simp only [hly, not_true_eq_false, decide_false, Bool.false_eq_true, if_false, if_true]
      refine kn _ _ ?_
      refine nx fun k kn kr _ _ => ?_
      simp only [ya, yb, yc, yd, ye, yf, yg, yh, yi, yj, yk, yl, ym, yn, yo, yp, yq, yr, yt, yu, yv, yw, yx, yy, yz, yA, yB, yC, yD, yE, yF, yG, yH, yI, yJ, yK, yL, yM, yN, yO, yP, yQ, yR, yS, yT, yU, yV, yW, yX, yY, yZ, y0, y4, y5, y6, y7, y8, y9, Yb, Yc, Yd, Ye, Yg, Yh, Yi, Yj, Yk, Yl, Ym, Yn, Yo, String.reduceEq, if_true, if_false, reduceIte, ↓reduceIte, Yp, Yq, Yr, Ys, Yt, Yu, Yv, Yw, Yx, Yy, Yz, YA, YB, YC, YD, YE, YF, YG, YH, YI, YJ, YK, YL, YM, YN, YO, YP, YQ, YR, YS, YT, YU, YV, YW, Option.map_some, Option.bind_some, List.map_cons, List.map_nil, List.getElem?_cons_zero, List.getElem?_cons_succ, decide_eq_true_eq, List.length_cons, List.length_nil, Nat.reduceAdd, ne_eq, true_and, and_true, not_false_eq_true, not_true_eq_false, Int.reduceEq, Int.reduceNeg, Int.reduceAdd, Int.reduceLT, Int.reduceLE, reduceCtorEq, or_false, false_or, or_true, decide_true, decide_false, Bool.not_true, Bool.not_false, Bool.false_eq_true, Bool.true_eq_false, YX, YY, YZ, Y0, Y1, Y2, Y3, Y4]
      simp only [m1, Yo]
      rw [it2]
      unfold lV
      simp only [ya, yb, yc, yd, ye, yf, yg, yh, yi, yj, yk, yl, ym, yn, yo, yp, yq, yr, yt, yu, yv, yw, yx, yy, yz, yA, yB, yC, yD, yE, yF, yG, yH, yI, yJ, yK, yL, yM, yN, yO, yP, yQ, yR, yS, yT, yU, yV, yW, yX, yY, yZ, y0, y4, y5, y6, y7, y8, y9, Yb, Yc, Yd, Ye, Yg, Yh, Yi, Yj, Yk, Yl, Ym, Yn, Yo, String.reduceEq, if_true, if_false, reduceIte, ↓reduceIte, Yp, Yq, Yr, Ys, Yt, Yu, Yv, Yw, Yx, Yy, Yz, YA, YB, YC, YD, YE, YF, YG, YH, YI, YJ, YK, YL, YM, YN, YO, YP, YQ, YR, YS, YT, YU, YV, YW, Option.map_some, Option.bind_some, List.map_cons, List.map_nil, List.getElem?_cons_zero, List.getElem?_cons_succ, decide_eq_true_eq, List.length_cons, List.length_nil, Nat.reduceAdd, ne_eq, true_and, and_true, not_false_eq_true, not_true_eq_false, Int.reduceEq, Int.reduceNeg, Int.reduceAdd, Int.reduceLT, Int.reduceLE, reduceCtorEq, or_false, false_or, or_true, decide_true, decide_false, Bool.not_true, Bool.not_false, Bool.false_eq_true, Bool.true_eq_false, YX, YY, YZ, Y0, Y1, Y2, Y3, Y4]
      rw [List.map_map]
      refine forLoop_items (A.v ∘ V.int) (fun dn rs m' σ'' => σ'' = σ' ∧ m' "_law_turns" = some (.v (.list (Ts.map lV))) ∧ m' "_law_thing" = some (.v (.list xs)) ∧ m' "_law_k" = some (iv i) ∧ dn ++ rs = T ∧ ∀ p ∈ dn, (ys.filter (isIV p)).length = 1) (fun _ _ _ _ _ => True.intro) ?_ ?_ _ [] _ _ ⟨rfl, by simp [Yn, m1], by simp [Yn, m2], by simp [Yn], rfl, fun _ h => nomatch h⟩
      · rintro dn p rs m' σ'' K'' ⟨rfl, n1, n2, n3, hds, hdw⟩ hK'' _ _ hr''
        have hpT : p ∈ T := by rw [← hds]; simp
        simp only [bindT, Yo, Function.comp_apply]
        refine nx fun k kn' kr' _ _ => ?_
        simp only [ya, yb, yc, yd, ye, yf, yg, yh, yi, yj, yk, yl, ym, yn, yo, yp, yq, yr, yt, yu, yv, yw, yx, yy, yz, yA, yB, yC, yD, yE, yF, yG, yH, yI, yJ, yK, yL, yM, yN, yO, yP, yQ, yR, yS, yT, yU, yV, yW, yX, yY, yZ, y0, y4, y5, y6, y7, y8, y9, Yb, Yc, Yd, Ye, Yg, Yh, Yi, Yj, Yk, Yl, Ym, Yn, Yo, String.reduceEq, if_true, if_false, reduceIte, ↓reduceIte, Yp, Yq, Yr, Ys, Yt, Yu, Yv, Yw, Yx, Yy, Yz, YA, YB, YC, YD, YE, YF, YG, YH, YI, YJ, YK, YL, YM, YN, YO, YP, YQ, YR, YS, YT, YU, YV, YW, Option.map_some, Option.bind_some, List.map_cons, List.map_nil, List.getElem?_cons_zero, List.getElem?_cons_succ, decide_eq_true_eq, List.length_cons, List.length_nil, Nat.reduceAdd, ne_eq, true_and, and_true, not_false_eq_true, not_true_eq_false, Int.reduceEq, Int.reduceNeg, Int.reduceAdd, Int.reduceLT, Int.reduceLE, reduceCtorEq, or_false, false_or, or_true, decide_true, decide_false, Bool.not_true, Bool.not_false, Bool.false_eq_true, Bool.true_eq_false, YX, YY, YZ, Y0, Y1, Y2, Y3, Y4]
        simp only [n2, n3, Yo, it1]
        simp only [ya, yb, yc, yd, ye, yf, yg, yh, yi, yj, yk, yl, ym, yn, yo, yp, yq, yr, yt, yu, yv, yw, yx, yy, yz, yA, yB, yC, yD, yE, yF, yG, yH, yI, yJ, yK, yL, yM, yN, yO, yP, yQ, yR, yS, yT, yU, yV, yW, yX, yY, yZ, y0, y4, y5, y6, y7, y8, y9, Yb, Yc, Yd, Ye, Yg, Yh, Yi, Yj, Yk, Yl, Ym, Yn, Yo, String.reduceEq, if_true, if_false, reduceIte, ↓reduceIte, Yp, Yq, Yr, Ys, Yt, Yu, Yv, Yw, Yx, Yy, Yz, YA, YB, YC, YD, YE, YF, YG, YH, YI, YJ, YK, YL, YM, YN, YO, YP, YQ, YR, YS, YT, YU, YV, YW, Option.map_some, Option.bind_some, List.map_cons, List.map_nil, List.getElem?_cons_zero, List.getElem?_cons_succ, decide_eq_true_eq, List.length_cons, List.length_nil, Nat.reduceAdd, ne_eq, true_and, and_true, not_false_eq_true, not_true_eq_false, Int.reduceEq, Int.reduceNeg, Int.reduceAdd, Int.reduceLT, Int.reduceLE, reduceCtorEq, or_false, false_or, or_true, decide_true, decide_false, Bool.not_true, Bool.not_false, Bool.false_eq_true, Bool.true_eq_false, YX, YY, YZ, Y0, Y1, Y2, Y3, Y4]
        refine compLoop_filter A.v id (isIV p) (by exact True.intro) ys [] (fun y hy K h => ?_) (fun y hy _ K h => ?_) ?_
        · simp only [ya, yb, yc, yd, ye, yf, yg, yh, yi, yj, yk, yl, ym, yn, yo, yp, yq, yr, yt, yu, yv, yw, yx, yy, yz, yA, yB, yC, yD, yE, yF, yG, yH, yI, yJ, yK, yL, yM, yN, yO, yP, yQ, yR, yS, yT, yU, yV, yW, yX, yY, yZ, y0, y4, y5, y6, y7, y8, y9, Yb, Yc, Yd, Ye, Yg, Yh, Yi, Yj, Yk, Yl, Ym, Yn, Yo, String.reduceEq, if_true, if_false, reduceIte, ↓reduceIte, Yp, Yq, Yr, Ys, Yt, Yu, Yv, Yw, Yx, Yy, Yz, YA, YB, YC, YD, YE, YF, YG, YH, YI, YJ, YK, YL, YM, YN, YO, YP, YQ, YR, YS, YT, YU, YV, YW, Option.map_some, Option.bind_some, List.map_cons, List.map_nil, List.getElem?_cons_zero, List.getElem?_cons_succ, decide_eq_true_eq, List.length_cons, List.length_nil, Nat.reduceAdd, ne_eq, true_and, and_true, not_false_eq_true, not_true_eq_false, Int.reduceEq, Int.reduceNeg, Int.reduceAdd, Int.reduceLT, Int.reduceLE, reduceCtorEq, or_false, false_or, or_true, decide_true, decide_false, Bool.not_true, Bool.not_false, Bool.false_eq_true, Bool.true_eq_false, YX, YY, YZ, Y0, Y1, Y2, Y3, Y4]
          refine lwhole_v hC (hyp y hy) ?_
          simp only [ya, yb, yc, yd, ye, yf, yg, yh, yi, yj, yk, yl, ym, yn, yo, yp, yq, yr, yt, yu, yv, yw, yx, yy, yz, yA, yB, yC, yD, yE, yF, yG, yH, yI, yJ, yK, yL, yM, yN, yO, yP, yQ, yR, yS, yT, yU, yV, yW, yX, yY, yZ, y0, y4, y5, y6, y7, y8, y9, Yb, Yc, Yd, Ye, Yg, Yh, Yi, Yj, Yk, Yl, Ym, Yn, Yo, String.reduceEq, if_true, if_false, reduceIte, ↓reduceIte, Yp, Yq, Yr, Ys, Yt, Yu, Yv, Yw, Yx, Yy, Yz, YA, YB, YC, YD, YE, YF, YG, YH, YI, YJ, YK, YL, YM, YN, YO, YP, YQ, YR, YS, YT, YU, YV, YW, Option.map_some, Option.bind_some, List.map_cons, List.map_nil, List.getElem?_cons_zero, List.getElem?_cons_succ, decide_eq_true_eq, List.length_cons, List.length_nil, Nat.reduceAdd, ne_eq, true_and, and_true, not_false_eq_true, not_true_eq_false, Int.reduceEq, Int.reduceNeg, Int.reduceAdd, Int.reduceLT, Int.reduceLE, reduceCtorEq, or_false, false_or, or_true, decide_true, decide_false, Bool.not_true, Bool.not_false, Bool.false_eq_true, Bool.true_eq_false, YX, YY, YZ, Y0, Y1, Y2, Y3, Y4]
          cases hw : isW y with
          | false =>
            simp only [Bool.false_eq_true, if_false]
            have : isIV p y = false := by
              cases hq : isIV p y with
              | false => rfl
              | true => rw [isIV_of hq] at hw; cases hw
            rw [this] at h; exact h
          | true =>
            obtain ⟨q, rfl⟩ := isW_of hw
            simp only [if_true]
            simp only [ya, yb, yc, yd, ye, yf, yg, yh, yi, yj, yk, yl, ym, yn, yo, yp, yq, yr, yt, yu, yv, yw, yx, yy, yz, yA, yB, yC, yD, yE, yF, yG, yH, yI, yJ, yK, yL, yM, yN, yO, yP, yQ, yR, yS, yT, yU, yV, yW, yX, yY, yZ, y0, y4, y5, y6, y7, y8, y9, Yb, Yc, Yd, Ye, Yg, Yh, Yi, Yj, Yk, Yl, Ym, Yn, Yo, String.reduceEq, if_true, if_false, reduceIte, ↓reduceIte, Yp, Yq, Yr, Ys, Yt, Yu, Yv, Yw, Yx, Yy, Yz, YA, YB, YC, YD, YE, YF, YG, YH, YI, YJ, YK, YL, YM, YN, YO, YP, YQ, YR, YS, YT, YU, YV, YW, Option.map_some, Option.bind_some, List.map_cons, List.map_nil, List.getElem?_cons_zero, List.getElem?_cons_succ, decide_eq_true_eq, List.length_cons, List.length_nil, Nat.reduceAdd, ne_eq, true_and, and_true, not_false_eq_true, not_true_eq_false, Int.reduceEq, Int.reduceNeg, Int.reduceAdd, Int.reduceLT, Int.reduceLE, reduceCtorEq, or_false, false_or, or_true, decide_true, decide_false, Bool.not_true, Bool.not_false, Bool.false_eq_true, Bool.true_eq_false, YX, YY, YZ, Y0, Y1, Y2, Y3, Y4]
            rw [isIV_int] at h
            by_cases e : q = p <;> simpa [e] using h
        · simp only [ya, yb, yc, yd, ye, yf, yg, yh, yi, yj, yk, yl, ym, yn, yo, yp, yq, yr, yt, yu, yv, yw, yx, yy, yz, yA, yB, yC, yD, yE, yF, yG, yH, yI, yJ, yK, yL, yM, yN, yO, yP, yQ, yR, yS, yT, yU, yV, yW, yX, yY, yZ, y0, y4, y5, y6, y7, y8, y9, Yb, Yc, Yd, Ye, Yg, Yh, Yi, Yj, Yk, Yl, Ym, Yn, Yo, String.reduceEq, if_true, if_false, reduceIte, ↓reduceIte, Yp, Yq, Yr, Ys, Yt, Yu, Yv, Yw, Yx, Yy, Yz, YA, YB, YC, YD, YE, YF, YG, YH, YI, YJ, YK, YL, YM, YN, YO, YP, YQ, YR, YS, YT, YU, YV, YW, Option.map_some, Option.bind_some, List.map_cons, List.map_nil, List.getElem?_cons_zero, List.getElem?_cons_succ, decide_eq_true_eq, List.length_cons, List.length_nil, Nat.reduceAdd, ne_eq, true_and, and_true, not_false_eq_true, not_true_eq_false, Int.reduceEq, Int.reduceNeg, Int.reduceAdd, Int.reduceLT, Int.reduceLE, reduceCtorEq, or_false, false_or, or_true, decide_true, decide_false, Bool.not_true, Bool.not_false, Bool.false_eq_true, Bool.true_eq_false, YX, YY, YZ, Y0, Y1, Y2, Y3, Y4]
          exact h
        · simp only [List.nil_append, List.map_id]
          have hfl := List.length_filter_le (isIV p) ys
          refine ⟨by simp only [small]; omega, ?_⟩
          by_cases h1 : (ys.filter (isIV p)).length = 1
          · have h1' : (((ys.filter (isIV p)).length : Nat) : Int) = 1 := by omega
            simp only [h1', not_true_eq_false, decide_false, Bool.false_eq_true, if_false]
            refine kn' _ _ ?_
            simp only [ya, yb, yc, yd, ye, yf, yg, yh, yi, yj, yk, yl, ym, yn, yo, yp, yq, yr, yt, yu, yv, yw, yx, yy, yz, yA, yB, yC, yD, yE, yF, yG, yH, yI, yJ, yK, yL, yM, yN, yO, yP, yQ, yR, yS, yT, yU, yV, yW, yX, yY, yZ, y0, y4, y5, y6, y7, y8, y9, Yb, Yc, Yd, Ye, Yg, Yh, Yi, Yj, Yk, Yl, Ym, Yn, Yo, String.reduceEq, if_true, if_false, reduceIte, ↓reduceIte, Yp, Yq, Yr, Ys, Yt, Yu, Yv, Yw, Yx, Yy, Yz, YA, YB, YC, YD, YE, YF, YG, YH, YI, YJ, YK, YL, YM, YN, YO, YP, YQ, YR, YS, YT, YU, YV, YW, Option.map_some, Option.bind_some, List.map_cons, List.map_nil, List.getElem?_cons_zero, List.getElem?_cons_succ, decide_eq_true_eq, List.length_cons, List.length_nil, Nat.reduceAdd, ne_eq, true_and, and_true, not_false_eq_true, not_true_eq_false, Int.reduceEq, Int.reduceNeg, Int.reduceAdd, Int.reduceLT, Int.reduceLE, reduceCtorEq, or_false, false_or, or_true, decide_true, decide_false, Bool.not_true, Bool.not_false, Bool.false_eq_true, Bool.true_eq_false, YX, YY, YZ, Y0, Y1, Y2, Y3, Y4]
            refine hK'' _ _ ⟨rfl, by simp [Yn, n1], by simp [Yn, n2], by simp [Yn, n3], by simpa using hds, fun z hz => ?_⟩
            rcases List.mem_append.mp hz with hz | hz
            · exact hdw z hz
            · rw [List.mem_singleton.mp hz]; exact h1
          · have h1' : ¬ (((ys.filter (isIV p)).length : Nat) : Int) = 1 := by omega
            simp only [h1', not_false_eq_true, decide_true, if_true]
            refine nx fun k kn' kr'' _ _ => ?_
            simp only [ya, yb, yc, yd, ye, yf, yg, yh, yi, yj, yk, yl, ym, yn, yo, yp, yq, yr, yt, yu, yv, yw, yx, yy, yz, yA, yB, yC, yD, yE, yF, yG, yH, yI, yJ, yK, yL, yM, yN, yO, yP, yQ, yR, yS, yT, yU, yV, yW, yX, yY, yZ, y0, y4, y5, y6, y7, y8, y9, Yb, Yc, Yd, Ye, Yg, Yh, Yi, Yj, Yk, Yl, Ym, Yn, Yo, String.reduceEq, if_true, if_false, reduceIte, ↓reduceIte, Yp, Yq, Yr, Ys, Yt, Yu, Yv, Yw, Yx, Yy, Yz, YA, YB, YC, YD, YE, YF, YG, YH, YI, YJ, YK, YL, YM, YN, YO, YP, YQ, YR, YS, YT, YU, YV, YW, Option.map_some, Option.bind_some, List.map_cons, List.map_nil, List.getElem?_cons_zero, List.getElem?_cons_succ, decide_eq_true_eq, List.length_cons, List.length_nil, Nat.reduceAdd, ne_eq, true_and, and_true, not_false_eq_true, not_true_eq_false, Int.reduceEq, Int.reduceNeg, Int.reduceAdd, Int.reduceLT, Int.reduceLE, reduceCtorEq, or_false, false_or, or_true, decide_true, decide_false, Bool.not_true, Bool.not_false, Bool.false_eq_true, Bool.true_eq_false, YX, YY, YZ, Y0, Y1, Y2, Y3, Y4]
            refine kr'' _ _ _ (kr' _ _ _ (hr'' _ _ _ (kr _ _ _ (no' _ ?_))))
            rintro ⟨l, e, hp⟩
            injection e with e
            subst e
            exact h1 (perm_once hnd hp hpT)
      · rintro dn m' σ'' ⟨rfl, n1, n2, n3, hds, hdw⟩
        rw [List.append_nil] at hds
        subst hds
        refine kn _ _ ?_
        simp only [ya, yb, yc, yd, ye, yf, yg, yh, yi, yj, yk, yl, ym, yn, yo, yp, yq, yr, yt, yu, yv, yw, yx, yy, yz, yA, yB, yC, yD, yE, yF, yG, yH, yI, yJ, yK, yL, yM, yN, yO, yP, yQ, yR, yS, yT, yU, yV, yW, yX, yY, yZ, y0, y4, y5, y6, y7, y8, y9, Yb, Yc, Yd, Ye, Yg, Yh, Yi, Yj, Yk, Yl, Ym, Yn, Yo, String.reduceEq, if_true, if_false, reduceIte, ↓reduceIte, Yp, Yq, Yr, Ys, Yt, Yu, Yv, Yw, Yx, Yy, Yz, YA, YB, YC, YD, YE, YF, YG, YH, YI, YJ, YK, YL, YM, YN, YO, YP, YQ, YR, YS, YT, YU, YV, YW, Option.map_some, Option.bind_some, List.map_cons, List.map_nil, List.getElem?_cons_zero, List.getElem?_cons_succ, decide_eq_true_eq, List.length_cons, List.length_nil, Nat.reduceAdd, ne_eq, true_and, and_true, not_false_eq_true, not_true_eq_false, Int.reduceEq, Int.reduceNeg, Int.reduceAdd, Int.reduceLT, Int.reduceLE, reduceCtorEq, or_false, false_or, or_true, decide_true, decide_false, Bool.not_true, Bool.not_false, Bool.false_eq_true, Bool.true_eq_false, YX, YY, YZ, Y0, Y1, Y2, Y3, Y4]
        refine hK' _ _ ⟨rfl, n1, n2, fun j T' x' hj h1 h2 => ?_⟩
        by_cases qj : j < i
        · exact hd j T' x' qj h1 h2
        · have : j = i := by omega
          subst this
          rw [hTi] at h1; rw [hxi] at h2
          cases h1; cases h2
          obtain ⟨l, rfl, hl⟩ := once_perm hnd (by omega) hdw
          exact ⟨l, rfl, hl⟩
    · rintro m σ' ⟨rfl, _, _, hd⟩
      simp only [Int.toNat_natCast] at hd
      refine kn _ _ ?_
      refine nx fun k kn kr _ _ => ?_
      simp only [ya, yb, yc, yd, ye, yf, yg, yh, yi, yj, yk, yl, ym, yn, yo, yp, yq, yr, yt, yu, yv, yw, yx, yy, yz, yA, yB, yC, yD, yE, yF, yG, yH, yI, yJ, yK, yL, yM, yN, yO, yP, yQ, yR, yS, yT, yU, yV, yW, yX, yY, yZ, y0, y4, y5, y6, y7, y8, y9, Yb, Yc, Yd, Ye, Yg, Yh, Yi, Yj, Yk, Yl, Ym, Yn, Yo, String.reduceEq, if_true, if_false, reduceIte, ↓reduceIte, Yp, Yq, Yr, Ys, Yt, Yu, Yv, Yw, Yx, Yy, Yz, YA, YB, YC, YD, YE, YF, YG, YH, YI, YJ, YK, YL, YM, YN, YO, YP, YQ, YR, YS, YT, YU, YV, YW, Option.map_some, Option.bind_some, List.map_cons, List.map_nil, List.getElem?_cons_zero, List.getElem?_cons_succ, decide_eq_true_eq, List.length_cons, List.length_nil, Nat.reduceAdd, ne_eq, true_and, and_true, not_false_eq_true, not_true_eq_false, Int.reduceEq, Int.reduceNeg, Int.reduceAdd, Int.reduceLT, Int.reduceLE, reduceCtorEq, or_false, false_or, or_true, decide_true, decide_false, Bool.not_true, Bool.not_false, Bool.false_eq_true, Bool.true_eq_false, YX, YY, YZ, Y0, Y1, Y2, Y3, Y4]
      refine kr _ _ _ (h true ⟨fun _ => ⟨xs, rfl, hlen', fun i T x h1 h2 => hd i T x ?_ h1 h2⟩, fun _ => rfl⟩)
      exact (List.getElem?_eq_some_iff.mp h1).1
end
end Fl

/-! law 05 on the abstract machine (own work) -/
namespace Fl
open PySem (Str)
set_option linter.unusedSimpArgs false
set_option linter.unusedSectionVars false

theorem bd_small {α : Type} {k : Nat} {xs : List α} (h : xs.length ≤ k) (hk : Nat.ble k 1000 = true) : small xs := by
  have := Nat.le_of_ble_eq_true hk
  unfold small; omega
theorem bd_app {a b : List V} {i j : Nat} (h : a.length ≤ i) (h' : b.length ≤ j) : (a ++ b).length ≤ i + j := by rw [List.length_append]; exact Nat.add_le_add h h'
theorem bd_first (xs : List V) : (sliceV xs Option.none (some 1)).length ≤ 1 := by
  unfold sliceV hiN cut loN
  simp only [List.length_drop, List.length_take]
  rw [if_neg (by decide)]
  have : Int.toNat 1 = 1 := rfl
  omega
theorem o_nil : ∀ x ∈ ([] : List V), OddOk x := fun _ h => nomatch h
theorem o_cons {x : V} {l : List V} (h : OddOk x) (h' : ∀ y ∈ l, OddOk y) : ∀ y ∈ x :: l, OddOk y := fun y hy => by
  rcases List.mem_cons.mp hy with rfl | hy
  · exact h
  · exact h' y hy
theorem o_app {a b : List V} (h : ∀ y ∈ a, OddOk y) (h' : ∀ y ∈ b, OddOk y) : ∀ y ∈ a ++ b, OddOk y := fun y hy => (List.mem_append.mp hy).elim (h y) (h' y)
theorem item_mod {σ : H} {xs : List V} {c : Int} (h : 0 < xs.length) : ∃ x, x ∈ xs ∧ itemSem σ (.v (.list xs)) (iv (c.fmod xs.length)) = some (.v x) := by
  have f := fm (a := c) (n := (xs.length : Nat)) (by omega)
  have hlt : (c.fmod (xs.length : Nat)).toNat < xs.length := by omega
  exact ⟨xs[(c.fmod (xs.length : Nat)).toNat], List.getElem_mem hlt, item_of_list (YW _ _) (idx_int f.1 (by omega)) (List.getElem?_eq_getElem hlt)⟩
theorem bi_tuple (σ : H) (xs : List V) (K) : biSem σ K .tuple [.v (.list xs)] = (xs.length < 2 ^ 20 ∧ K (.v (.tup xs))) := rfl

section
variable {C : CallSem} (hC : Closed C tab)
include hC

theorem spoilt_end {σ : H} {m : Loc} {c i : Int} {odds rows : List V} {K : Fw → Loc → H → Prop} {X} (ho : ∀ x ∈ odds, OddOk x) (hr : ∀ x ∈ rows, OddOk x) (hrl : rows.length ≤ 16) (hne : 0 < odds.length) (m1 : m "_law_odd" = some (.v (.list odds))) (m2 : m "_law_turns" = some (.v (.list rows))) (m3 : m "_law_cell" = some (iv c)) (m4 : m "_law_point" = some (iv i))
    (h : ∀ m t, Tame t → K (.ret (.v t)) m σ) :
    xSs C [.asg "_law_made" (.fz (.concat (.fz (.concat (.fz (.slice (.x "_law_turns") Option.none (some (.x "_law_point")))) (.fz (.disp [.item (.x "_law_odd") (.bin .mod (.x "_law_cell") (.bi .len [.x "_law_odd"]))])))) (.fz (.slice (.x "_law_turns") (some (.bin .add (.x "_law_point") (.c (.int 1)))) Option.none)))),
    .ret (.x "_law_made")] m σ K X := by
  have hs : ∀ lo hi, (sliceV rows lo hi).length ≤ 16 := fun lo hi => Nat.le_trans (slice_len _ _ _) hrl
  refine nx fun k kn kr _ _ => ?_
  simp only [ya, yb, yc, yd, ye, yf, yg, yh, yi, yj, yk, yl, ym, yn, yo, yp, yq, yr, yt, yu, yv, yw, yx, yy, yz, yA, yB, yC, yD, yE, yF, yG, yH, yI, yJ, yK, yL, yM, yN, yO, yP, yQ, yR, yS, yT, yU, yV, yW, yX, yY, yZ, y0, y4, y5, y6, y7, y8, y9, Yb, Yc, Yd, Ye, Yg, Yh, Yi, Yj, Yk, Yl, Ym, Yn, Yo, String.reduceEq, if_true, if_false, reduceIte, ↓reduceIte, Yp, Yq, Yr, Ys, Yt, Yu, Yv, Yw, Yx, Yy, Yz, YA, YB, YC, YD, YE, YF, YG, YH, YI, YJ, YK, YL, YM, YN, YO, YP, YQ, YR, YS, YT, YU, YV, YW, Option.map_some, Option.bind_some, List.map_cons, List.map_nil, List.getElem?_cons_zero, List.getElem?_cons_succ, decide_eq_true_eq, List.length_cons, List.length_nil, Nat.reduceAdd, ne_eq, true_and, and_true, not_false_eq_true, not_true_eq_false, Int.reduceEq, Int.reduceNeg, Int.reduceAdd, Int.reduceLT, Int.reduceLE, reduceCtorEq, or_false, false_or, or_true, decide_true, decide_false, Bool.not_true, Bool.not_false, Bool.false_eq_true, Bool.true_eq_false, YX, YY, YZ, Y0, Y1, Y2, Y3, Y4]
  simp only [m1, m2, m3, m4, Yo]
  simp only [ya, yb, yc, yd, ye, yf, yg, yh, yi, yj, yk, yl, ym, yn, yo, yp, yq, yr, yt, yu, yv, yw, yx, yy, yz, yA, yB, yC, yD, yE, yF, yG, yH, yI, yJ, yK, yL, yM, yN, yO, yP, yQ, yR, yS, yT, yU, yV, yW, yX, yY, yZ, y0, y4, y5, y6, y7, y8, y9, Yb, Yc, Yd, Ye, Yg, Yh, Yi, Yj, Yk, Yl, Ym, Yn, Yo, String.reduceEq, if_true, if_false, reduceIte, ↓reduceIte, Yp, Yq, Yr, Ys, Yt, Yu, Yv, Yw, Yx, Yy, Yz, YA, YB, YC, YD, YE, YF, YG, YH, YI, YJ, YK, YL, YM, YN, YO, YP, YQ, YR, YS, YT, YU, YV, YW, Option.map_some, Option.bind_some, List.map_cons, List.map_nil, List.getElem?_cons_zero, List.getElem?_cons_succ, decide_eq_true_eq, List.length_cons, List.length_nil, Nat.reduceAdd, ne_eq, true_and, and_true, not_false_eq_true, not_true_eq_false, Int.reduceEq, Int.reduceNeg, Int.reduceAdd, Int.reduceLT, Int.reduceLE, reduceCtorEq, or_false, false_or, or_true, decide_true, decide_false, Bool.not_true, Bool.not_false, Bool.false_eq_true, Bool.true_eq_false, YX, YY, YZ, Y0, Y1, Y2, Y3, Y4]
  refine ⟨bd_small (hs _ _) rfl, by omega, ?_⟩
  obtain ⟨x, hx, hit⟩ := item_mod (σ := σ) (c := c) hne
  rw [hit]
  simp only [ya, yb, yc, yd, ye, yf, yg, yh, yi, yj, yk, yl, ym, yn, yo, yp, yq, yr, yt, yu, yv, yw, yx, yy, yz, yA, yB, yC, yD, yE, yF, yG, yH, yI, yJ, yK, yL, yM, yN, yO, yP, yQ, yR, yS, yT, yU, yV, yW, yX, yY, yZ, y0, y4, y5, y6, y7, y8, y9, Yb, Yc, Yd, Ye, Yg, Yh, Yi, Yj, Yk, Yl, Ym, Yn, Yo, String.reduceEq, if_true, if_false, reduceIte, ↓reduceIte, Yp, Yq, Yr, Ys, Yt, Yu, Yv, Yw, Yx, Yy, Yz, YA, YB, YC, YD, YE, YF, YG, YH, YI, YJ, YK, YL, YM, YN, YO, YP, YQ, YR, YS, YT, YU, YV, YW, Option.map_some, Option.bind_some, List.map_cons, List.map_nil, List.getElem?_cons_zero, List.getElem?_cons_succ, decide_eq_true_eq, List.length_cons, List.length_nil, Nat.reduceAdd, ne_eq, true_and, and_true, not_false_eq_true, not_true_eq_false, Int.reduceEq, Int.reduceNeg, Int.reduceAdd, Int.reduceLT, Int.reduceLE, reduceCtorEq, or_false, false_or, or_true, decide_true, decide_false, Bool.not_true, Bool.not_false, Bool.false_eq_true, Bool.true_eq_false, YX, YY, YZ, Y0, Y1, Y2, Y3, Y4]
  refine ⟨bd_small (Nat.le_refl _) rfl, bd_small (bd_app (hs _ _) (Nat.le_refl _)) rfl, bd_small (hs _ _) rfl, bd_small (bd_app (bd_app (hs _ _) (Nat.le_refl _)) (hs _ _)) rfl, kn _ _ ?_⟩
  refine nx fun k kn kr _ _ => ?_
  simp only [ya, yb, yc, yd, ye, yf, yg, yh, yi, yj, yk, yl, ym, yn, yo, yp, yq, yr, yt, yu, yv, yw, yx, yy, yz, yA, yB, yC, yD, yE, yF, yG, yH, yI, yJ, yK, yL, yM, yN, yO, yP, yQ, yR, yS, yT, yU, yV, yW, yX, yY, yZ, y0, y4, y5, y6, y7, y8, y9, Yb, Yc, Yd, Ye, Yg, Yh, Yi, Yj, Yk, Yl, Ym, Yn, Yo, String.reduceEq, if_true, if_false, reduceIte, ↓reduceIte, Yp, Yq, Yr, Ys, Yt, Yu, Yv, Yw, Yx, Yy, Yz, YA, YB, YC, YD, YE, YF, YG, YH, YI, YJ, YK, YL, YM, YN, YO, YP, YQ, YR, YS, YT, YU, YV, YW, Option.map_some, Option.bind_some, List.map_cons, List.map_nil, List.getElem?_cons_zero, List.getElem?_cons_succ, decide_eq_true_eq, List.length_cons, List.length_nil, Nat.reduceAdd, ne_eq, true_and, and_true, not_false_eq_true, not_true_eq_false, Int.reduceEq, Int.reduceNeg, Int.reduceAdd, Int.reduceLT, Int.reduceLE, reduceCtorEq, or_false, false_or, or_true, decide_true, decide_false, Bool.not_true, Bool.not_false, Bool.false_eq_true, Bool.true_eq_false, YX, YY, YZ, Y0, Y1, Y2, Y3, Y4]
  have hsl : ∀ lo hi, ∀ y ∈ sliceV rows lo hi, OddOk y := fun lo hi y hy => hr y (List.mem_of_mem_take (List.mem_of_mem_drop hy))
  refine kr _ _ _ (h _ _ (tame_list (o_app (o_app (hsl _ _) (o_cons (ho x hx) o_nil)) (hsl _ _)) ?_))
  have := bd_app (bd_app (hs Option.none (some i)) (Nat.le_refl ([x] : List V).length)) (hs (some (i + 1)) Option.none)
  simp only [List.length_cons, List.length_nil] at this
  omega

theorem comp_flip {σ : H} {T : List Int} {q : Int} {b : Bool} {m : Loc} {src : A} {its : List A} {K : List V → H → Prop} {X} (hS : Stay σ src its) (hK : K (T.map fun x => if x = q then V.bool b else V.int x) σ) :
    compLoop (fun m σ K => xTs C true [] m σ K X) (fun m σ K => xE C (.ite (.cmp (.x "_law_one") .eq (.c (.int q))) (.c (.bool b)) (.x "_law_one")) m σ K X) (.one "_law_one") src its m ((T.map V.int).map A.v) σ [] K := by
  rw [List.map_map]
  refine compLoop_map (A.v ∘ V.int) (fun x => if x = q then V.bool b else V.int x) hS T [] (fun m K h => by simp only [ya, yb, yc, yd, ye, yf, yg, yh, yi, yj, yk, yl, ym, yn, yo, yp, yq, yr, yt, yu, yv, yw, yx, yy, yz, yA, yB, yC, yD, yE, yF, yG, yH, yI, yJ, yK, yL, yM, yN, yO, yP, yQ, yR, yS, yT, yU, yV, yW, yX, yY, yZ, y0, y4, y5, y6, y7, y8, y9, Yb, Yc, Yd, Ye, Yg, Yh, Yi, Yj, Yk, Yl, Ym, Yn, Yo, String.reduceEq, if_true, if_false, reduceIte, ↓reduceIte, Yp, Yq, Yr, Ys, Yt, Yu, Yv, Yw, Yx, Yy, Yz, YA, YB, YC, YD, YE, YF, YG, YH, YI, YJ, YK, YL, YM, YN, YO, YP, YQ, YR, YS, YT, YU, YV, YW, Option.map_some, Option.bind_some, List.map_cons, List.map_nil, List.getElem?_cons_zero, List.getElem?_cons_succ, decide_eq_true_eq, List.length_cons, List.length_nil, Nat.reduceAdd, ne_eq, true_and, and_true, not_false_eq_true, not_true_eq_false, Int.reduceEq, Int.reduceNeg, Int.reduceAdd, Int.reduceLT, Int.reduceLE, reduceCtorEq, or_false, false_or, or_true, decide_true, decide_false, Bool.not_true, Bool.not_false, Bool.false_eq_true, Bool.true_eq_false, YX, YY, YZ, Y0, Y1, Y2, Y3, Y4]; exact h) (fun x _ K h => ?_) (by simpa using hK)
  simp only [ya, yb, yc, yd, ye, yf, yg, yh, yi, yj, yk, yl, ym, yn, yo, yp, yq, yr, yt, yu, yv, yw, yx, yy, yz, yA, yB, yC, yD, yE, yF, yG, yH, yI, yJ, yK, yL, yM, yN, yO, yP, yQ, yR, yS, yT, yU, yV, yW, yX, yY, yZ, y0, y4, y5, y6, y7, y8, y9, Yb, Yc, Yd, Ye, Yg, Yh, Yi, Yj, Yk, Yl, Ym, Yn, Yo, String.reduceEq, if_true, if_false, reduceIte, ↓reduceIte, Yp, Yq, Yr, Ys, Yt, Yu, Yv, Yw, Yx, Yy, Yz, YA, YB, YC, YD, YE, YF, YG, YH, YI, YJ, YK, YL, YM, YN, YO, YP, YQ, YR, YS, YT, YU, YV, YW, Option.map_some, Option.bind_some, List.map_cons, List.map_nil, List.getElem?_cons_zero, List.getElem?_cons_succ, decide_eq_true_eq, List.length_cons, List.length_nil, Nat.reduceAdd, ne_eq, true_and, and_true, not_false_eq_true, not_true_eq_false, Int.reduceEq, Int.reduceNeg, Int.reduceAdd, Int.reduceLT, Int.reduceLE, reduceCtorEq, or_false, false_or, or_true, decide_true, decide_false, Bool.not_true, Bool.not_false, Bool.false_eq_true, Bool.true_eq_false, YX, YY, YZ, Y0, Y1, Y2, Y3, Y4]
  simp only [Function.comp_apply]
  simp only [ya, yb, yc, yd, ye, yf, yg, yh, yi, yj, yk, yl, ym, yn, yo, yp, yq, yr, yt, yu, yv, yw, yx, yy, yz, yA, yB, yC, yD, yE, yF, yG, yH, yI, yJ, yK, yL, yM, yN, yO, yP, yQ, yR, yS, yT, yU, yV, yW, yX, yY, yZ, y0, y4, y5, y6, y7, y8, y9, Yb, Yc, Yd, Ye, Yg, Yh, Yi, Yj, Yk, Yl, Ym, Yn, Yo, String.reduceEq, if_true, if_false, reduceIte, ↓reduceIte, Yp, Yq, Yr, Ys, Yt, Yu, Yv, Yw, Yx, Yy, Yz, YA, YB, YC, YD, YE, YF, YG, YH, YI, YJ, YK, YL, YM, YN, YO, YP, YQ, YR, YS, YT, YU, YV, YW, Option.map_some, Option.bind_some, List.map_cons, List.map_nil, List.getElem?_cons_zero, List.getElem?_cons_succ, decide_eq_true_eq, List.length_cons, List.length_nil, Nat.reduceAdd, ne_eq, true_and, and_true, not_false_eq_true, not_true_eq_false, Int.reduceEq, Int.reduceNeg, Int.reduceAdd, Int.reduceLT, Int.reduceLE, reduceCtorEq, or_false, false_or, or_true, decide_true, decide_false, Bool.not_true, Bool.not_false, Bool.false_eq_true, Bool.true_eq_false, YX, YY, YZ, Y0, Y1, Y2, Y3, Y4]
  by_cases e : x = q
  · simpa [e] using h
  · simpa [e] using h
omit hC in
theorem PL_flip (T : List Int) (q : Int) (b : Bool) : PL (T.map fun x => if x = q then V.bool b else V.int x) := fun y hy => by
  obtain ⟨x, _, rfl⟩ := List.mem_map.mp hy
  by_cases e : x = q
  · simp only [if_pos e]; exact ⟨rfl, rfl⟩
  · simp only [if_neg e]; exact ⟨rfl, rfl⟩

theorem spoilt_ok {σ : H} {n : Int} {ts : List (Int × Int)} {Ts : List (List Int)} {c i : Int} {K X} (hn' : n ≤ 16) (hT : Turns n ts Ts) (h1 : 0 ≤ i) (h2 : i < n) (h : ∀ t, Tame t → K (.v t) σ) : C "_law_spoilt" [.v (lsV Ts), iv c, iv i] σ K X := by
  refine run_of hC (d := f__law_spoilt) (by repeat (first | exact List.Mem.head _ | apply List.Mem.tail)) rfl ?_
  unfold f__law_spoilt lsV
  dsimp only
  have hTl := hT.len
  obtain ⟨T, hTi⟩ : ∃ T, Ts[i.toNat]? = some T := ⟨Ts[i.toNat]'(by omega), List.getElem?_eq_getElem (by omega)⟩
  have hTl16 := hT.rowLen hn' hTi
  have hown : (T.map V.int).length ≤ 16 := by simpa using hTl16
  have hs : ∀ lo hi, (sliceV (T.map V.int) lo hi).length ≤ 16 := fun lo hi => Nat.le_trans (slice_len _ _ _) hown
  have hp : ∀ lo hi, PL (sliceV (T.map V.int) lo hi) := fun lo hi => PL_slice (PL_ints T) lo hi
  have hrows : ∀ x ∈ Ts.map lV, OddOk x := fun x hx => by
    obtain ⟨T', hT', rfl⟩ := List.mem_map.mp hx
    obtain ⟨j, hj⟩ := List.mem_iff_getElem?.mp hT'
    have := hT.rowLen hn' hj
    exact odd_row (by omega)
  have hrl : (Ts.map lV).length ≤ 16 := by simp; omega
  have it : itemSem σ (.v (.list (Ts.map lV))) (iv i) = some (.v (.list (T.map V.int))) := item_of_list (YW _ _) (idx_int h1 (by simp; omega)) (by rw [List.getElem?_map, hTi]; rfl)
  refine nx fun k kn kr _ _ => ?_
  simp only [ya, yb, yc, yd, ye, yf, yg, yh, yi, yj, yk, yl, ym, yn, yo, yp, yq, yr, yt, yu, yv, yw, yx, yy, yz, yA, yB, yC, yD, yE, yF, yG, yH, yI, yJ, yK, yL, yM, yN, yO, yP, yQ, yR, yS, yT, yU, yV, yW, yX, yY, yZ, y0, y4, y5, y6, y7, y8, y9, Yb, Yc, Yd, Ye, Yg, Yh, Yi, Yj, Yk, Yl, Ym, Yn, Yo, String.reduceEq, if_true, if_false, reduceIte, ↓reduceIte, Yp, Yq, Yr, Ys, Yt, Yu, Yv, Yw, Yx, Yy, Yz, YA, YB, YC, YD, YE, YF, YG, YH, YI, YJ, YK, YL, YM, YN, YO, YP, YQ, YR, YS, YT, YU, YV, YW, Option.map_some, Option.bind_some, List.map_cons, List.map_nil, List.getElem?_cons_zero, List.getElem?_cons_succ, decide_eq_true_eq, List.length_cons, List.length_nil, Nat.reduceAdd, ne_eq, true_and, and_true, not_false_eq_true, not_true_eq_false, Int.reduceEq, Int.reduceNeg, Int.reduceAdd, Int.reduceLT, Int.reduceLE, reduceCtorEq, or_false, false_or, or_true, decide_true, decide_false, Bool.not_true, Bool.not_false, Bool.false_eq_true, Bool.true_eq_false, YX, YY, YZ, Y0, Y1, Y2, Y3, Y4]
  simp only [it, Yo]
  refine kn _ _ ?_
  refine nx fun k kn kr _ _ => ?_
  simp only [ya, yb, yc, yd, ye, yf, yg, yh, yi, yj, yk, yl, ym, yn, yo, yp, yq, yr, yt, yu, yv, yw, yx, yy, yz, yA, yB, yC, yD, yE, yF, yG, yH, yI, yJ, yK, yL, yM, yN, yO, yP, yQ, yR, yS, yT, yU, yV, yW, yX, yY, yZ, y0, y4, y5, y6, y7, y8, y9, Yb, Yc, Yd, Ye, Yg, Yh, Yi, Yj, Yk, Yl, Ym, Yn, Yo, String.reduceEq, if_true, if_false, reduceIte, ↓reduceIte, Yp, Yq, Yr, Ys, Yt, Yu, Yv, Yw, Yx, Yy, Yz, YA, YB, YC, YD, YE, YF, YG, YH, YI, YJ, YK, YL, YM, YN, YO, YP, YQ, YR, YS, YT, YU, YV, YW, Option.map_some, Option.bind_some, List.map_cons, List.map_nil, List.getElem?_cons_zero, List.getElem?_cons_succ, decide_eq_true_eq, List.length_cons, List.length_nil, Nat.reduceAdd, ne_eq, true_and, and_true, not_false_eq_true, not_true_eq_false, Int.reduceEq, Int.reduceNeg, Int.reduceAdd, Int.reduceLT, Int.reduceLE, reduceCtorEq, or_false, false_or, or_true, decide_true, decide_false, Bool.not_true, Bool.not_false, Bool.false_eq_true, Bool.true_eq_false, YX, YY, YZ, Y0, Y1, Y2, Y3, Y4]
  refine ⟨by decide, by omega, kn _ _ ?_⟩
  generalize (c.fdiv 16).fmod (((T.map V.int).length : Nat) + 1 : Int) = at_
  refine nx fun k kn kr _ _ => ?_
  simp only [ya, yb, yc, yd, ye, yf, yg, yh, yi, yj, yk, yl, ym, yn, yo, yp, yq, yr, yt, yu, yv, yw, yx, yy, yz, yA, yB, yC, yD, yE, yF, yG, yH, yI, yJ, yK, yL, yM, yN, yO, yP, yQ, yR, yS, yT, yU, yV, yW, yX, yY, yZ, y0, y4, y5, y6, y7, y8, y9, Yb, Yc, Yd, Ye, Yg, Yh, Yi, Yj, Yk, Yl, Ym, Yn, Yo, String.reduceEq, if_true, if_false, reduceIte, ↓reduceIte, Yp, Yq, Yr, Ys, Yt, Yu, Yv, Yw, Yx, Yy, Yz, YA, YB, YC, YD, YE, YF, YG, YH, YI, YJ, YK, YL, YM, YN, YO, YP, YQ, YR, YS, YT, YU, YV, YW, Option.map_some, Option.bind_some, List.map_cons, List.map_nil, List.getElem?_cons_zero, List.getElem?_cons_succ, decide_eq_true_eq, List.length_cons, List.length_nil, Nat.reduceAdd, ne_eq, true_and, and_true, not_false_eq_true, not_true_eq_false, Int.reduceEq, Int.reduceNeg, Int.reduceAdd, Int.reduceLT, Int.reduceLE, reduceCtorEq, or_false, false_or, or_true, decide_true, decide_false, Bool.not_true, Bool.not_false, Bool.false_eq_true, Bool.true_eq_false, YX, YY, YZ, Y0, Y1, Y2, Y3, Y4]
  refine ⟨bd_small (hs _ _) rfl, bd_small (Nat.le_refl _) rfl, bd_small (bd_app (hs _ _) (Nat.le_refl _)) rfl, bd_small (hs _ _) rfl, bd_small (bd_app (bd_app (hs _ _) (Nat.le_refl _)) (hs _ _)) rfl, ?_⟩
  refine ⟨bd_small (hs _ _) rfl, bd_small (hs _ _) rfl, bd_small (bd_app (hs _ _) (hs _ _)) rfl, bd_small (hs _ _) rfl, bd_small (bd_app (bd_app (hs _ _) (hs _ _)) (hs _ _)) rfl, bd_small (hs _ _) rfl, bd_small (bd_app (bd_app (bd_app (hs _ _) (hs _ _)) (hs _ _)) (hs _ _)) rfl, ?_⟩
  refine ⟨bd_small (hs _ _) rfl, bd_small (Nat.le_refl _) rfl, bd_small (bd_app (hs _ _) (Nat.le_refl _)) rfl, bd_small (Nat.le_refl _) rfl, kn _ _ ?_⟩
  refine nx fun k kn kr _ _ => ?_
  simp only [ya, yb, yc, yd, ye, yf, yg, yh, yi, yj, yk, yl, ym, yn, yo, yp, yq, yr, yt, yu, yv, yw, yx, yy, yz, yA, yB, yC, yD, yE, yF, yG, yH, yI, yJ, yK, yL, yM, yN, yO, yP, yQ, yR, yS, yT, yU, yV, yW, yX, yY, yZ, y0, y4, y5, y6, y7, y8, y9, Yb, Yc, Yd, Ye, Yg, Yh, Yi, Yj, Yk, Yl, Ym, Yn, Yo, String.reduceEq, if_true, if_false, reduceIte, ↓reduceIte, Yp, Yq, Yr, Ys, Yt, Yu, Yv, Yw, Yx, Yy, Yz, YA, YB, YC, YD, YE, YF, YG, YH, YI, YJ, YK, YL, YM, YN, YO, YP, YQ, YR, YS, YT, YU, YV, YW, Option.map_some, Option.bind_some, List.map_cons, List.map_nil, List.getElem?_cons_zero, List.getElem?_cons_succ, decide_eq_true_eq, List.length_cons, List.length_nil, Nat.reduceAdd, ne_eq, true_and, and_true, not_false_eq_true, not_true_eq_false, Int.reduceEq, Int.reduceNeg, Int.reduceAdd, Int.reduceLT, Int.reduceLE, reduceCtorEq, or_false, false_or, or_true, decide_true, decide_false, Bool.not_true, Bool.not_false, Bool.false_eq_true, Bool.true_eq_false, YX, YY, YZ, Y0, Y1, Y2, Y3, Y4]
  simp only [bi_tuple]
  refine ⟨bd_small (Nat.le_refl _) rfl, bd_small (bd_app hown (Nat.le_refl _)) rfl, bd_small (Nat.le_refl _) rfl, bd_small (bd_app hown (Nat.le_refl _)) rfl, ?_⟩
  refine ⟨bd_small (hs _ _) rfl, bd_small (Nat.le_refl _) rfl, bd_small (bd_app (hs _ _) (Nat.le_refl _)) rfl, bd_small (Nat.le_refl _) rfl, bd_small (bd_app hown (Nat.le_refl _)) rfl, ?_⟩
  refine ⟨by omega, ?_⟩
  refine ⟨bd_small (Nat.le_refl _) rfl, bd_small (bd_app hown (Nat.le_refl _)) rfl, bd_small (Nat.le_refl _) rfl, bd_small (Nat.le_refl _) rfl, kn _ _ ?_⟩
  have l1 : ∀ {ys : List V} {k : Nat}, PL ys → ys.length ≤ k → Nat.ble k 59 = true → OddOk (.list ys) := fun hp hl hk => odd_list hp (by have := Nat.le_of_ble_eq_true hk; omega)
  have one : ∀ {y : V}, plain y = true → eqOkN 7 y = true → PL [y] := PL_one
  have hT7 : eqOkN 7 (.list (T.map V.int)) = true := all_map (p := eqOkN 6) (fun _ => rfl) T
  have base := o_app
    (o_cons (l1 (PL_app (PL_app (hp Option.none (some at_)) (one (y := .int i) rfl rfl)) (hp (some at_) Option.none)) (bd_app (bd_app (hs _ _) (Nat.le_refl _)) (hs _ _)) rfl)
    (o_cons (l1 (PL_app (PL_app (PL_app (hp Option.none (some at_)) (hp Option.none (some 1))) (hp (some at_) Option.none)) (hp (some 1) (some 2))) (bd_app (bd_app (bd_app (hs _ _) (bd_first _)) (hs _ _)) (hs _ _)) rfl)
    (o_cons (l1 (PL_app (hp Option.none (some (-1))) (one (y := .bool true) rfl rfl)) (bd_app (hs _ _) (Nat.le_refl _)) rfl) o_nil)))
    (o_cons (l1 (PL_app (PL_ints T) (one (y := .int ((Ts.map lV).length : Nat)) rfl rfl)) (bd_app hown (Nat.le_refl _)) rfl)
    (o_cons (l1 (PL_app (PL_ints T) (one (y := .int (-1)) rfl rfl)) (bd_app hown (Nat.le_refl _)) rfl)
    (o_cons (l1 (PL_app (hp (some 1) Option.none) (one (y := .str "0") rfl rfl)) (bd_app (hs _ _) (Nat.le_refl _)) rfl)
    (o_cons (l1 (PL_app (PL_ints T) (one (y := .none) rfl rfl)) (bd_app hown (Nat.le_refl _)) rfl)
    (o_cons (odd_tup (PL_ints T))
    (o_cons odd_none
    (o_cons (l1 (PL_app (PL_ints T) (one (y := .list (T.map V.int)) rfl hT7)) (bd_app hown (Nat.le_refl _)) rfl)
    (o_cons odd_ed o_nil))))))))
  refine nx fun k kn kr _ _ => ?_
  simp only [ya, yb, yc, yd, ye, yf, yg, yh, yi, yj, yk, yl, ym, yn, yo, yp, yq, yr, yt, yu, yv, yw, yx, yy, yz, yA, yB, yC, yD, yE, yF, yG, yH, yI, yJ, yK, yL, yM, yN, yO, yP, yQ, yR, yS, yT, yU, yV, yW, yX, yY, yZ, y0, y4, y5, y6, y7, y8, y9, Yb, Yc, Yd, Ye, Yg, Yh, Yi, Yj, Yk, Yl, Ym, Yn, Yo, String.reduceEq, if_true, if_false, reduceIte, ↓reduceIte, Yp, Yq, Yr, Ys, Yt, Yu, Yv, Yw, Yx, Yy, Yz, YA, YB, YC, YD, YE, YF, YG, YH, YI, YJ, YK, YL, YM, YN, YO, YP, YQ, YR, YS, YT, YU, YV, YW, Option.map_some, Option.bind_some, List.map_cons, List.map_nil, List.getElem?_cons_zero, List.getElem?_cons_succ, decide_eq_true_eq, List.length_cons, List.length_nil, Nat.reduceAdd, ne_eq, true_and, and_true, not_false_eq_true, not_true_eq_false, Int.reduceEq, Int.reduceNeg, Int.reduceAdd, Int.reduceLT, Int.reduceLE, reduceCtorEq, or_false, false_or, or_true, decide_true, decide_false, Bool.not_true, Bool.not_false, Bool.false_eq_true, Bool.true_eq_false, YX, YY, YZ, Y0, Y1, Y2, Y3, Y4]
  rw [ne_nil (l := T) rfl]
  cases hTe : T.isEmpty with
  | true =>
    simp only [ya, yb, yc, yd, ye, yf, yg, yh, yi, yj, yk, yl, ym, yn, yo, yp, yq, yr, yt, yu, yv, yw, yx, yy, yz, yA, yB, yC, yD, yE, yF, yG, yH, yI, yJ, yK, yL, yM, yN, yO, yP, yQ, yR, yS, yT, yU, yV, yW, yX, yY, yZ, y0, y4, y5, y6, y7, y8, y9, Yb, Yc, Yd, Ye, Yg, Yh, Yi, Yj, Yk, Yl, Ym, Yn, Yo, String.reduceEq, if_true, if_false, reduceIte, ↓reduceIte, Yp, Yq, Yr, Ys, Yt, Yu, Yv, Yw, Yx, Yy, Yz, YA, YB, YC, YD, YE, YF, YG, YH, YI, YJ, YK, YL, YM, YN, YO, YP, YQ, YR, YS, YT, YU, YV, YW, Option.map_some, Option.bind_some, List.map_cons, List.map_nil, List.getElem?_cons_zero, List.getElem?_cons_succ, decide_eq_true_eq, List.length_cons, List.length_nil, Nat.reduceAdd, ne_eq, true_and, and_true, not_false_eq_true, not_true_eq_false, Int.reduceEq, Int.reduceNeg, Int.reduceAdd, Int.reduceLT, Int.reduceLE, reduceCtorEq, or_false, false_or, or_true, decide_true, decide_false, Bool.not_true, Bool.not_false, Bool.false_eq_true, Bool.true_eq_false, YX, YY, YZ, Y0, Y1, Y2, Y3, Y4]
    refine ⟨bd_small (Nat.le_refl _) rfl, kn _ _ ?_⟩
    exact spoilt_end hC base hrows hrl (Nat.zero_lt_succ _) rfl rfl rfl rfl fun m t ht => h t ht
  | false =>
    simp only [ya, yb, yc, yd, ye, yf, yg, yh, yi, yj, yk, yl, ym, yn, yo, yp, yq, yr, yt, yu, yv, yw, yx, yy, yz, yA, yB, yC, yD, yE, yF, yG, yH, yI, yJ, yK, yL, yM, yN, yO, yP, yQ, yR, yS, yT, yU, yV, yW, yX, yY, yZ, y0, y4, y5, y6, y7, y8, y9, Yb, Yc, Yd, Ye, Yg, Yh, Yi, Yj, Yk, Yl, Ym, Yn, Yo, String.reduceEq, if_true, if_false, reduceIte, ↓reduceIte, Yp, Yq, Yr, Ys, Yt, Yu, Yv, Yw, Yx, Yy, Yz, YA, YB, YC, YD, YE, YF, YG, YH, YI, YJ, YK, YL, YM, YN, YO, YP, YQ, YR, YS, YT, YU, YV, YW, Option.map_some, Option.bind_some, List.map_cons, List.map_nil, List.getElem?_cons_zero, List.getElem?_cons_succ, decide_eq_true_eq, List.length_cons, List.length_nil, Nat.reduceAdd, ne_eq, true_and, and_true, not_false_eq_true, not_true_eq_false, Int.reduceEq, Int.reduceNeg, Int.reduceAdd, Int.reduceLT, Int.reduceLE, reduceCtorEq, or_false, false_or, or_true, decide_true, decide_false, Bool.not_true, Bool.not_false, Bool.false_eq_true, Bool.true_eq_false, YX, YY, YZ, Y0, Y1, Y2, Y3, Y4]
    refine ⟨bd_small (Nat.le_refl _) rfl, ?_⟩
    refine nx fun k kn' kr _ _ => ?_
    simp only [ya, yb, yc, yd, ye, yf, yg, yh, yi, yj, yk, yl, ym, yn, yo, yp, yq, yr, yt, yu, yv, yw, yx, yy, yz, yA, yB, yC, yD, yE, yF, yG, yH, yI, yJ, yK, yL, yM, yN, yO, yP, yQ, yR, yS, yT, yU, yV, yW, yX, yY, yZ, y0, y4, y5, y6, y7, y8, y9, Yb, Yc, Yd, Ye, Yg, Yh, Yi, Yj, Yk, Yl, Ym, Yn, Yo, String.reduceEq, if_true, if_false, reduceIte, ↓reduceIte, Yp, Yq, Yr, Ys, Yt, Yu, Yv, Yw, Yx, Yy, Yz, YA, YB, YC, YD, YE, YF, YG, YH, YI, YJ, YK, YL, YM, YN, YO, YP, YQ, YR, YS, YT, YU, YV, YW, Option.map_some, Option.bind_some, List.map_cons, List.map_nil, List.getElem?_cons_zero, List.getElem?_cons_succ, decide_eq_true_eq, List.length_cons, List.length_nil, Nat.reduceAdd, ne_eq, true_and, and_true, not_false_eq_true, not_true_eq_false, Int.reduceEq, Int.reduceNeg, Int.reduceAdd, Int.reduceLT, Int.reduceLE, reduceCtorEq, or_false, false_or, or_true, decide_true, decide_false, Bool.not_true, Bool.not_false, Bool.false_eq_true, Bool.true_eq_false, YX, YY, YZ, Y0, Y1, Y2, Y3, Y4]
    refine ⟨bd_small (hs _ _) rfl, bd_small (hs _ _) rfl, bd_small (hs _ _) rfl, bd_small (hs _ _) rfl, bd_small (bd_app (hs _ _) (hs _ _)) rfl, ?_⟩
    refine comp_flip hC (X := NX) trivial ?_
    refine ⟨by simp [small]; omega, bd_small (Nat.le_refl _) rfl, bd_small (Nat.le_refl _) rfl, kn' _ _ ?_⟩
    refine nx fun k kn' kr _ _ => ?_
    simp only [ya, yb, yc, yd, ye, yf, yg, yh, yi, yj, yk, yl, ym, yn, yo, yp, yq, yr, yt, yu, yv, yw, yx, yy, yz, yA, yB, yC, yD, yE, yF, yG, yH, yI, yJ, yK, yL, yM, yN, yO, yP, yQ, yR, yS, yT, yU, yV, yW, yX, yY, yZ, y0, y4, y5, y6, y7, y8, y9, Yb, Yc, Yd, Ye, Yg, Yh, Yi, Yj, Yk, Yl, Ym, Yn, Yo, String.reduceEq, if_true, if_false, reduceIte, ↓reduceIte, Yp, Yq, Yr, Ys, Yt, Yu, Yv, Yw, Yx, Yy, Yz, YA, YB, YC, YD, YE, YF, YG, YH, YI, YJ, YK, YL, YM, YN, YO, YP, YQ, YR, YS, YT, YU, YV, YW, Option.map_some, Option.bind_some, List.map_cons, List.map_nil, List.getElem?_cons_zero, List.getElem?_cons_succ, decide_eq_true_eq, List.length_cons, List.length_nil, Nat.reduceAdd, ne_eq, true_and, and_true, not_false_eq_true, not_true_eq_false, Int.reduceEq, Int.reduceNeg, Int.reduceAdd, Int.reduceLT, Int.reduceLE, reduceCtorEq, or_false, false_or, or_true, decide_true, decide_false, Bool.not_true, Bool.not_false, Bool.false_eq_true, Bool.true_eq_false, YX, YY, YZ, Y0, Y1, Y2, Y3, Y4]
    refine comp_flip hC (X := NX) trivial ?_
    refine ⟨by simp [small]; omega, ?_⟩
    refine ⟨bd_small (hs _ _) rfl, bd_small (hs _ _) rfl, bd_small (bd_app (hs _ _) (hs _ _)) rfl, bd_small (Nat.le_refl _) rfl, bd_small (Nat.le_refl _) rfl, kn' _ _ ?_⟩
    refine kn _ _ ?_
    refine spoilt_end hC (o_app (o_app base ?_) ?_) hrows hrl (Nat.zero_lt_succ _) rfl rfl rfl rfl fun m t ht => h t ht
    · exact o_cons (l1 (hp _ _) (hs _ _) rfl) (o_cons (l1 (hp _ _) (hs _ _) rfl) (o_cons (l1 (PL_app (hp _ _) (hp _ _)) (bd_app (hs _ _) (hs _ _)) rfl) (o_cons (l1 (PL_flip T 1 true) (k := 16) (by simpa using hTl16) rfl) o_nil)))
    · exact o_cons (l1 (PL_flip T 0 false) (k := 16) (by simpa using hTl16) rfl) (o_cons (l1 (PL_app (hp _ _) (hp _ _)) (bd_app (hs _ _) (hs _ _)) rfl) o_nil)
end
end Fl

/-! law 05 on the abstract machine, the whole (own work) -/
namespace Fl
open PySem (Str)
set_option linter.unusedSimpArgs false
set_option linter.unusedSectionVars false

section
variable {C : CallSem} (hC : Closed C tab)
include hC

omit hC in
theorem asX_exc (c : String) : asX (.v (.exc c)) = some c := rfl
omit hC in
theorem asS_str (s : String) : asS (.v (.str s)) = some s := rfl
theorem word_ok {σ : H} {c w : String} {K X} (hw : wordOf c = some w) (h : K (.v (.str w)) σ) : C "_law_word" [.v (.exc c)] σ K X := by
  refine run_of hC (d := f__law_word) (by repeat (first | exact List.Mem.head _ | apply List.Mem.tail)) rfl ?_
  unfold f__law_word
  dsimp only
  have i1 : ∀ b : Bool, b2i b = 0 ∨ b2i b = 1 := fun b => by cases b <;> simp [b2i]
  have gen : ∀ b1 b2 b3 b4 : Bool, isxB c "NoWeb" = some b1 → isxB c "NoPoint" = some b2 → isxB c "NoTurns" = some b3 → isxB c "ValueError" = some b4 → (((if b2i b1 = 1 then "web " else "") ++ (if b2i b2 = 1 then "point " else "")) ++ (if b2i b3 = 1 then "turns " else "")) ++ (if b2i b4 = 1 then "value" else "") = w →
      xSs C [.asg "_law_word_here" (.sadd (.smul "web " (.bi .int [.isx (.x "_law_e") "NoWeb"])) (.smul "point " (.bi .int [.isx (.x "_law_e") "NoPoint"]))), .ret (.sadd (.sadd (.x "_law_word_here") (.smul "turns " (.bi .int [.isx (.x "_law_e") "NoTurns"]))) (.smul "value" (.bi .int [.isx (.x "_law_e") "ValueError"])))] (bindP ["_law_e"] [.v (.exc c)]) σ (retF K) (fun c _ σ => X c σ) := by
    intro b1 b2 b3 b4 h1 h2 h3 h4 hr
    refine nx fun k kn kr _ _ => ?_
    simp only [ya, yb, yc, yd, ye, yf, yg, yh, yi, yj, yk, yl, ym, yn, yo, yp, yq, yr, yt, yu, yv, yw, yx, yy, yz, yA, yB, yC, yD, yE, yF, yG, yH, yI, yJ, yK, yL, yM, yN, yO, yP, yQ, yR, yS, yT, yU, yV, yW, yX, yY, yZ, y0, y4, y5, y6, y7, y8, y9, Yb, Yc, Yd, Ye, Yg, Yh, Yi, Yj, Yk, Yl, Ym, Yn, Yo, String.reduceEq, if_true, if_false, reduceIte, ↓reduceIte, Yp, Yq, Yr, Ys, Yt, Yu, Yv, Yw, Yx, Yy, Yz, YA, YB, YC, YD, YE, YF, YG, YH, YI, YJ, YK, YL, YM, YN, YO, YP, YQ, YR, YS, YT, YU, YV, YW, Option.map_some, Option.bind_some, List.map_cons, List.map_nil, List.getElem?_cons_zero, List.getElem?_cons_succ, decide_eq_true_eq, List.length_cons, List.length_nil, Nat.reduceAdd, ne_eq, true_and, and_true, not_false_eq_true, not_true_eq_false, Int.reduceEq, Int.reduceNeg, Int.reduceAdd, Int.reduceLT, Int.reduceLE, reduceCtorEq, or_false, false_or, or_true, decide_true, decide_false, Bool.not_true, Bool.not_false, Bool.false_eq_true, Bool.true_eq_false, YX, YY, YZ, Y0, Y1, Y2, Y3, Y4]
    simp only [xE_sadd, xE_smul, xE_isx, yS, yz, yV, yW, Yn, Yl, Yo, asX_exc, h1, h2, if_true, Y2, YY, asS_str]
    refine ⟨i1 _, i1 _, by cases b1 <;> cases b2 <;> decide +kernel, kn _ _ ?_⟩
    refine nx fun k kn kr _ _ => ?_
    simp only [ya, yb, yc, yd, ye, yf, yg, yh, yi, yj, yk, yl, ym, yn, yo, yp, yq, yr, yt, yu, yv, yw, yx, yy, yz, yA, yB, yC, yD, yE, yF, yG, yH, yI, yJ, yK, yL, yM, yN, yO, yP, yQ, yR, yS, yT, yU, yV, yW, yX, yY, yZ, y0, y4, y5, y6, y7, y8, y9, Yb, Yc, Yd, Ye, Yg, Yh, Yi, Yj, Yk, Yl, Ym, Yn, Yo, String.reduceEq, if_true, if_false, reduceIte, ↓reduceIte, Yp, Yq, Yr, Ys, Yt, Yu, Yv, Yw, Yx, Yy, Yz, YA, YB, YC, YD, YE, YF, YG, YH, YI, YJ, YK, YL, YM, YN, YO, YP, YQ, YR, YS, YT, YU, YV, YW, Option.map_some, Option.bind_some, List.map_cons, List.map_nil, List.getElem?_cons_zero, List.getElem?_cons_succ, decide_eq_true_eq, List.length_cons, List.length_nil, Nat.reduceAdd, ne_eq, true_and, and_true, not_false_eq_true, not_true_eq_false, Int.reduceEq, Int.reduceNeg, Int.reduceAdd, Int.reduceLT, Int.reduceLE, reduceCtorEq, or_false, false_or, or_true, decide_true, decide_false, Bool.not_true, Bool.not_false, Bool.false_eq_true, Bool.true_eq_false, YX, YY, YZ, Y0, Y1, Y2, Y3, Y4]
    simp only [xE_sadd, xE_smul, xE_isx, yS, yz, yV, yW, Yn, Yl, Yo, asX_exc, h3, h4, if_true, Y2, YY, asS_str, String.reduceEq, if_false, reduceIte]
    refine ⟨i1 _, by cases b1 <;> cases b2 <;> cases b3 <;> decide +kernel, i1 _, by cases b1 <;> cases b2 <;> cases b3 <;> cases b4 <;> decide +kernel, kr _ _ _ ?_⟩
    rw [hr]; exact h
  unfold wordOf at hw
  split at hw
  · cases hw; exact gen true false false true rfl rfl rfl rfl (by decide +kernel)
  · cases hw; exact gen false true false true rfl rfl rfl rfl (by decide +kernel)
  · cases hw; exact gen false false true true rfl rfl rfl rfl (by decide +kernel)
  · cases hw

theorem many_ok {σ : H} {sc : A} {ns : List Int} (hs : listV σ sc = some (ns.map V.int)) {K X} (h : ∀ n : Int, 1 ≤ n → n ≤ 16 → K (iv n) σ) : C "_law_many" [sc] σ K X := by
  refine run_of hC (d := f__law_many) (by repeat (first | exact List.Mem.head _ | apply List.Mem.tail)) rfl ?_
  unfold f__law_many
  dsimp only
  refine nx fun k kn kr _ _ => ?_
  simp only [ya, yb, yc, yd, ye, yf, yg, yh, yi, yj, yk, yl, ym, yn, yo, yp, yq, yr, yt, yu, yv, yw, yx, yy, yz, yA, yB, yC, yD, yE, yF, yG, yH, yI, yJ, yK, yL, yM, yN, yO, yP, yQ, yR, yS, yT, yU, yV, yW, yX, yY, yZ, y0, y4, y5, y6, y7, y8, y9, Yb, Yc, Yd, Ye, Yg, Yh, Yi, Yj, Yk, Yl, Ym, Yn, Yo, String.reduceEq, if_true, if_false, reduceIte, ↓reduceIte, Yp, Yq, Yr, Ys, Yt, Yu, Yv, Yw, Yx, Yy, Yz, YA, YB, YC, YD, YE, YF, YG, YH, YI, YJ, YK, YL, YM, YN, YO, YP, YQ, YR, YS, YT, YU, YV, YW, Option.map_some, Option.bind_some, List.map_cons, List.map_nil, List.getElem?_cons_zero, List.getElem?_cons_succ, decide_eq_true_eq, List.length_cons, List.length_nil, Nat.reduceAdd, ne_eq, true_and, and_true, not_false_eq_true, not_true_eq_false, Int.reduceEq, Int.reduceNeg, Int.reduceAdd, Int.reduceLT, Int.reduceLE, reduceCtorEq, or_false, false_or, or_true, decide_true, decide_false, Bool.not_true, Bool.not_false, Bool.false_eq_true, Bool.true_eq_false, YX, YY, YZ, Y0, Y1, Y2, Y3, Y4]
  refine cell_at_ok (hW hC) hs (by omega) ?_
  simp only [ya, yb, yc, yd, ye, yf, yg, yh, yi, yj, yk, yl, ym, yn, yo, yp, yq, yr, yt, yu, yv, yw, yx, yy, yz, yA, yB, yC, yD, yE, yF, yG, yH, yI, yJ, yK, yL, yM, yN, yO, yP, yQ, yR, yS, yT, yU, yV, yW, yX, yY, yZ, y0, y4, y5, y6, y7, y8, y9, Yb, Yc, Yd, Ye, Yg, Yh, Yi, Yj, Yk, Yl, Ym, Yn, Yo, String.reduceEq, if_true, if_false, reduceIte, ↓reduceIte, Yp, Yq, Yr, Ys, Yt, Yu, Yv, Yw, Yx, Yy, Yz, YA, YB, YC, YD, YE, YF, YG, YH, YI, YJ, YK, YL, YM, YN, YO, YP, YQ, YR, YS, YT, YU, YV, YW, Option.map_some, Option.bind_some, List.map_cons, List.map_nil, List.getElem?_cons_zero, List.getElem?_cons_succ, decide_eq_true_eq, List.length_cons, List.length_nil, Nat.reduceAdd, ne_eq, true_and, and_true, not_false_eq_true, not_true_eq_false, Int.reduceEq, Int.reduceNeg, Int.reduceAdd, Int.reduceLT, Int.reduceLE, reduceCtorEq, or_false, false_or, or_true, decide_true, decide_false, Bool.not_true, Bool.not_false, Bool.false_eq_true, Bool.true_eq_false, YX, YY, YZ, Y0, Y1, Y2, Y3, Y4]
  split
  · refine nx fun k kn kr' _ _ => ?_
    simp only [ya, yb, yc, yd, ye, yf, yg, yh, yi, yj, yk, yl, ym, yn, yo, yp, yq, yr, yt, yu, yv, yw, yx, yy, yz, yA, yB, yC, yD, yE, yF, yG, yH, yI, yJ, yK, yL, yM, yN, yO, yP, yQ, yR, yS, yT, yU, yV, yW, yX, yY, yZ, y0, y4, y5, y6, y7, y8, y9, Yb, Yc, Yd, Ye, Yg, Yh, Yi, Yj, Yk, Yl, Ym, Yn, Yo, String.reduceEq, if_true, if_false, reduceIte, ↓reduceIte, Yp, Yq, Yr, Ys, Yt, Yu, Yv, Yw, Yx, Yy, Yz, YA, YB, YC, YD, YE, YF, YG, YH, YI, YJ, YK, YL, YM, YN, YO, YP, YQ, YR, YS, YT, YU, YV, YW, Option.map_some, Option.bind_some, List.map_cons, List.map_nil, List.getElem?_cons_zero, List.getElem?_cons_succ, decide_eq_true_eq, List.length_cons, List.length_nil, Nat.reduceAdd, ne_eq, true_and, and_true, not_false_eq_true, not_true_eq_false, Int.reduceEq, Int.reduceNeg, Int.reduceAdd, Int.reduceLT, Int.reduceLE, reduceCtorEq, or_false, false_or, or_true, decide_true, decide_false, Bool.not_true, Bool.not_false, Bool.false_eq_true, Bool.true_eq_false, YX, YY, YZ, Y0, Y1, Y2, Y3, Y4]
    refine cell_at_ok (hW hC) hs (by omega) ?_
    simp only [ya, yb, yc, yd, ye, yf, yg, yh, yi, yj, yk, yl, ym, yn, yo, yp, yq, yr, yt, yu, yv, yw, yx, yy, yz, yA, yB, yC, yD, yE, yF, yG, yH, yI, yJ, yK, yL, yM, yN, yO, yP, yQ, yR, yS, yT, yU, yV, yW, yX, yY, yZ, y0, y4, y5, y6, y7, y8, y9, Yb, Yc, Yd, Ye, Yg, Yh, Yi, Yj, Yk, Yl, Ym, Yn, Yo, String.reduceEq, if_true, if_false, reduceIte, ↓reduceIte, Yp, Yq, Yr, Ys, Yt, Yu, Yv, Yw, Yx, Yy, Yz, YA, YB, YC, YD, YE, YF, YG, YH, YI, YJ, YK, YL, YM, YN, YO, YP, YQ, YR, YS, YT, YU, YV, YW, Option.map_some, Option.bind_some, List.map_cons, List.map_nil, List.getElem?_cons_zero, List.getElem?_cons_succ, decide_eq_true_eq, List.length_cons, List.length_nil, Nat.reduceAdd, ne_eq, true_and, and_true, not_false_eq_true, not_true_eq_false, Int.reduceEq, Int.reduceNeg, Int.reduceAdd, Int.reduceLT, Int.reduceLE, reduceCtorEq, or_false, false_or, or_true, decide_true, decide_false, Bool.not_true, Bool.not_false, Bool.false_eq_true, Bool.true_eq_false, YX, YY, YZ, Y0, Y1, Y2, Y3, Y4]
    have := fm (a := (cellAt ns (Int.toNat 0)).fdiv 6) (n := 8) (by omega)
    exact ⟨by decide, kr' _ _ _ (kr _ _ _ (h _ (by omega) (by omega)))⟩
  · refine kn _ _ ?_
    refine nx fun k kn kr' _ _ => ?_
    simp only [ya, yb, yc, yd, ye, yf, yg, yh, yi, yj, yk, yl, ym, yn, yo, yp, yq, yr, yt, yu, yv, yw, yx, yy, yz, yA, yB, yC, yD, yE, yF, yG, yH, yI, yJ, yK, yL, yM, yN, yO, yP, yQ, yR, yS, yT, yU, yV, yW, yX, yY, yZ, y0, y4, y5, y6, y7, y8, y9, Yb, Yc, Yd, Ye, Yg, Yh, Yi, Yj, Yk, Yl, Ym, Yn, Yo, String.reduceEq, if_true, if_false, reduceIte, ↓reduceIte, Yp, Yq, Yr, Ys, Yt, Yu, Yv, Yw, Yx, Yy, Yz, YA, YB, YC, YD, YE, YF, YG, YH, YI, YJ, YK, YL, YM, YN, YO, YP, YQ, YR, YS, YT, YU, YV, YW, Option.map_some, Option.bind_some, List.map_cons, List.map_nil, List.getElem?_cons_zero, List.getElem?_cons_succ, decide_eq_true_eq, List.length_cons, List.length_nil, Nat.reduceAdd, ne_eq, true_and, and_true, not_false_eq_true, not_true_eq_false, Int.reduceEq, Int.reduceNeg, Int.reduceAdd, Int.reduceLT, Int.reduceLE, reduceCtorEq, or_false, false_or, or_true, decide_true, decide_false, Bool.not_true, Bool.not_false, Bool.false_eq_true, Bool.true_eq_false, YX, YY, YZ, Y0, Y1, Y2, Y3, Y4]
    refine cell_at_ok (hW hC) hs (by omega) ?_
    simp only [ya, yb, yc, yd, ye, yf, yg, yh, yi, yj, yk, yl, ym, yn, yo, yp, yq, yr, yt, yu, yv, yw, yx, yy, yz, yA, yB, yC, yD, yE, yF, yG, yH, yI, yJ, yK, yL, yM, yN, yO, yP, yQ, yR, yS, yT, yU, yV, yW, yX, yY, yZ, y0, y4, y5, y6, y7, y8, y9, Yb, Yc, Yd, Ye, Yg, Yh, Yi, Yj, Yk, Yl, Ym, Yn, Yo, String.reduceEq, if_true, if_false, reduceIte, ↓reduceIte, Yp, Yq, Yr, Ys, Yt, Yu, Yv, Yw, Yx, Yy, Yz, YA, YB, YC, YD, YE, YF, YG, YH, YI, YJ, YK, YL, YM, YN, YO, YP, YQ, YR, YS, YT, YU, YV, YW, Option.map_some, Option.bind_some, List.map_cons, List.map_nil, List.getElem?_cons_zero, List.getElem?_cons_succ, decide_eq_true_eq, List.length_cons, List.length_nil, Nat.reduceAdd, ne_eq, true_and, and_true, not_false_eq_true, not_true_eq_false, Int.reduceEq, Int.reduceNeg, Int.reduceAdd, Int.reduceLT, Int.reduceLE, reduceCtorEq, or_false, false_or, or_true, decide_true, decide_false, Bool.not_true, Bool.not_false, Bool.false_eq_true, Bool.true_eq_false, YX, YY, YZ, Y0, Y1, Y2, Y3, Y4]
    have := fm (a := (cellAt ns (Int.toNat 0)).fdiv 6) (n := 8) (by omega)
    exact ⟨by decide, kr' _ _ _ (h _ (by omega) (by omega))⟩

omit hC in
/-- a slice of ints is ints, and no longer than its bounds -/
theorem slice_ints (ns : List Int) (a b : Int) (ha : 0 ≤ a) (hb : a ≤ b) : ∃ cs : List Int, sliceV (ns.map V.int) (some a) (some b) = cs.map V.int ∧ cs.length ≤ (b - a).toNat := by
  have hc : ∀ c : Int, 0 ≤ c → cut (ns.map V.int).length c = min c.toNat ns.length := fun c h => by
    unfold cut
    rw [if_neg (by omega)]; simp
  refine ⟨(ns.take (min b.toNat ns.length)).drop (min a.toNat ns.length), ?_, ?_⟩
  · unfold sliceV loN hiN
    simp only [hc a ha, hc b (by omega), List.map_drop, List.map_take]
  · simp; omega

theorem lties_ok {σ : H} {n : Int} {ns : List Int} {K X} (hn : 1 ≤ n) (hn' : n ≤ 16) (h : ∀ ts σ', GoodT n ts → σ <+: σ' → K (.v (.list (ts.map tV))) σ') : C "_law_ties" [.v (.list (ns.map V.int)), iv n] σ K X := by
  refine run_of hC (d := f__law_ties) (by repeat (first | exact List.Mem.head _ | apply List.Mem.tail)) rfl ?_
  unfold f__law_ties
  dsimp only
  refine nx fun k kn kr _ _ => ?_
  simp only [ya, yb, yc, yd, ye, yf, yg, yh, yi, yj, yk, yl, ym, yn, yo, yp, yq, yr, yt, yu, yv, yw, yx, yy, yz, yA, yB, yC, yD, yE, yF, yG, yH, yI, yJ, yK, yL, yM, yN, yO, yP, yQ, yR, yS, yT, yU, yV, yW, yX, yY, yZ, y0, y4, y5, y6, y7, y8, y9, Yb, Yc, Yd, Ye, Yg, Yh, Yi, Yj, Yk, Yl, Ym, Yn, Yo, String.reduceEq, if_true, if_false, reduceIte, ↓reduceIte, Yp, Yq, Yr, Ys, Yt, Yu, Yv, Yw, Yx, Yy, Yz, YA, YB, YC, YD, YE, YF, YG, YH, YI, YJ, YK, YL, YM, YN, YO, YP, YQ, YR, YS, YT, YU, YV, YW, Option.map_some, Option.bind_some, List.map_cons, List.map_nil, List.getElem?_cons_zero, List.getElem?_cons_succ, decide_eq_true_eq, List.length_cons, List.length_nil, Nat.reduceAdd, ne_eq, true_and, and_true, not_false_eq_true, not_true_eq_false, Int.reduceEq, Int.reduceNeg, Int.reduceAdd, Int.reduceLT, Int.reduceLE, reduceCtorEq, or_false, false_or, or_true, decide_true, decide_false, Bool.not_true, Bool.not_false, Bool.false_eq_true, Bool.true_eq_false, YX, YY, YZ, Y0, Y1, Y2, Y3, Y4]
  simp only [small, List.length_nil]
  refine ⟨by decide, kn _ _ ?_⟩
  refine nx fun k kn kr _ _ => ?_
  simp only [ya, yb, yc, yd, ye, yf, yg, yh, yi, yj, yk, yl, ym, yn, yo, yp, yq, yr, yt, yu, yv, yw, yx, yy, yz, yA, yB, yC, yD, yE, yF, yG, yH, yI, yJ, yK, yL, yM, yN, yO, yP, yQ, yR, yS, yT, yU, yV, yW, yX, yY, yZ, y0, y4, y5, y6, y7, y8, y9, Yb, Yc, Yd, Ye, Yg, Yh, Yi, Yj, Yk, Yl, Ym, Yn, Yo, String.reduceEq, if_true, if_false, reduceIte, ↓reduceIte, Yp, Yq, Yr, Ys, Yt, Yu, Yv, Yw, Yx, Yy, Yz, YA, YB, YC, YD, YE, YF, YG, YH, YI, YJ, YK, YL, YM, YN, YO, YP, YQ, YR, YS, YT, YU, YV, YW, Option.map_some, Option.bind_some, List.map_cons, List.map_nil, List.getElem?_cons_zero, List.getElem?_cons_succ, decide_eq_true_eq, List.length_cons, List.length_nil, Nat.reduceAdd, ne_eq, true_and, and_true, not_false_eq_true, not_true_eq_false, Int.reduceEq, Int.reduceNeg, Int.reduceAdd, Int.reduceLT, Int.reduceLE, reduceCtorEq, or_false, false_or, or_true, decide_true, decide_false, Bool.not_true, Bool.not_false, Bool.false_eq_true, Bool.true_eq_false, YX, YY, YZ, Y0, Y1, Y2, Y3, Y4]
  refine cell_at_ok (hW hC) (YW _ _) (by omega) ?_
  simp only [ya, yb, yc, yd, ye, yf, yg, yh, yi, yj, yk, yl, ym, yn, yo, yp, yq, yr, yt, yu, yv, yw, yx, yy, yz, yA, yB, yC, yD, yE, yF, yG, yH, yI, yJ, yK, yL, yM, yN, yO, yP, yQ, yR, yS, yT, yU, yV, yW, yX, yY, yZ, y0, y4, y5, y6, y7, y8, y9, Yb, Yc, Yd, Ye, Yg, Yh, Yi, Yj, Yk, Yl, Ym, Yn, Yo, String.reduceEq, if_true, if_false, reduceIte, ↓reduceIte, Yp, Yq, Yr, Ys, Yt, Yu, Yv, Yw, Yx, Yy, Yz, YA, YB, YC, YD, YE, YF, YG, YH, YI, YJ, YK, YL, YM, YN, YO, YP, YQ, YR, YS, YT, YU, YV, YW, Option.map_some, Option.bind_some, List.map_cons, List.map_nil, List.getElem?_cons_zero, List.getElem?_cons_succ, decide_eq_true_eq, List.length_cons, List.length_nil, Nat.reduceAdd, ne_eq, true_and, and_true, not_false_eq_true, not_true_eq_false, Int.reduceEq, Int.reduceNeg, Int.reduceAdd, Int.reduceLT, Int.reduceLE, reduceCtorEq, or_false, false_or, or_true, decide_true, decide_false, Bool.not_true, Bool.not_false, Bool.false_eq_true, Bool.true_eq_false, YX, YY, YZ, Y0, Y1, Y2, Y3, Y4]
  have hq := fm (a := cellAt ns (Int.toNat 1)) (n := 17) (by omega)
  obtain ⟨cs, hcs, hcl⟩ := slice_ints ns 4 (4 + (cellAt ns (Int.toNat 1)).fmod 17) (by omega) (by omega)
  rw [hcs]
  refine ⟨by simp [small]; omega, ?_⟩
  refine ties_loop (C := C) (hW hC) (X := fun c _ σ => X c σ) hn hn' (src := .v (.list (cs.map V.int))) (fun _ => trivial) cs _ rfl rfl (by omega) fun ts m' hg hm' => ?_
  refine kn _ _ ?_
  refine nx fun k kn kr _ _ => ?_
  simp only [ya, yb, yc, yd, ye, yf, yg, yh, yi, yj, yk, yl, ym, yn, yo, yp, yq, yr, yt, yu, yv, yw, yx, yy, yz, yA, yB, yC, yD, yE, yF, yG, yH, yI, yJ, yK, yL, yM, yN, yO, yP, yQ, yR, yS, yT, yU, yV, yW, yX, yY, yZ, y0, y4, y5, y6, y7, y8, y9, Yb, Yc, Yd, Ye, Yg, Yh, Yi, Yj, Yk, Yl, Ym, Yn, Yo, String.reduceEq, if_true, if_false, reduceIte, ↓reduceIte, Yp, Yq, Yr, Ys, Yt, Yu, Yv, Yw, Yx, Yy, Yz, YA, YB, YC, YD, YE, YF, YG, YH, YI, YJ, YK, YL, YM, YN, YO, YP, YQ, YR, YS, YT, YU, YV, YW, Option.map_some, Option.bind_some, List.map_cons, List.map_nil, List.getElem?_cons_zero, List.getElem?_cons_succ, decide_eq_true_eq, List.length_cons, List.length_nil, Nat.reduceAdd, ne_eq, true_and, and_true, not_false_eq_true, not_true_eq_false, Int.reduceEq, Int.reduceNeg, Int.reduceAdd, Int.reduceLT, Int.reduceLE, reduceCtorEq, or_false, false_or, or_true, decide_true, decide_false, Bool.not_true, Bool.not_false, Bool.false_eq_true, Bool.true_eq_false, YX, YY, YZ, Y0, Y1, Y2, Y3, Y4]
  simp only [hm', Yo]
  refine frz_at List.getElem?_concat_length (kr _ _ _ (h ts _ hg ?_))
  rw [List.set_append_right _ _ (Nat.le_refl _)]
  exact List.prefix_append _ _


omit hC in
theorem eq_t (σ : H) : cmpSem σ .eq (.v (.str "turns value")) (.v (.str "turns value")) = some true := c_eq_same rfl rfl rfl
theorem walks_no {σ : H} {n : Int} {ts : List (Int × Int)} {Ts : List (List Int)} {t : V} {K X} (hn : 1 ≤ n) (hn' : n ≤ 16) (G : GoodT n ts) (hT : Turns n ts Ts) (ht : Tame t) (hr : ¬ Right Ts t)
    (h : ∀ σ', X "NoTurns" σ') : C "walks" [.v (webOf n ts), .v t] σ K X := by
  refine run_of hC (d := f_walks) (by repeat (first | exact List.Mem.head _ | apply List.Mem.tail)) rfl ?_
  unfold f_walks
  dsimp only
  refine nx fun k kn kr _ _ => ?_
  simp only [ya, yb, yc, yd, ye, yf, yg, yh, yi, yj, yk, yl, ym, yn, yo, yp, yq, yr, yt, yu, yv, yw, yx, yy, yz, yA, yB, yC, yD, yE, yF, yG, yH, yI, yJ, yK, yL, yM, yN, yO, yP, yQ, yR, yS, yT, yU, yV, yW, yX, yY, yZ, y0, y4, y5, y6, y7, y8, y9, Yb, Yc, Yd, Ye, Yg, Yh, Yi, Yj, Yk, Yl, Ym, Yn, Yo, String.reduceEq, if_true, if_false, reduceIte, ↓reduceIte, Yp, Yq, Yr, Ys, Yt, Yu, Yv, Yw, Yx, Yy, Yz, YA, YB, YC, YD, YE, YF, YG, YH, YI, YJ, YK, YL, YM, YN, YO, YP, YQ, YR, YS, YT, YU, YV, YW, Option.map_some, Option.bind_some, List.map_cons, List.map_nil, List.getElem?_cons_zero, List.getElem?_cons_succ, decide_eq_true_eq, List.length_cons, List.length_nil, Nat.reduceAdd, ne_eq, true_and, and_true, not_false_eq_true, not_true_eq_false, Int.reduceEq, Int.reduceNeg, Int.reduceAdd, Int.reduceLT, Int.reduceLE, reduceCtorEq, or_false, false_or, or_true, decide_true, decide_false, Bool.not_true, Bool.not_false, Bool.false_eq_true, Bool.true_eq_false, YX, YY, YZ, Y0, Y1, Y2, Y3, Y4]
  refine are_turns_gen hC hn hn' G hT ht fun σ' b hb => ?_
  have : b = false := by cases b with
    | false => rfl
    | true => exact (hr (hb.mp rfl)).elim
  subst this
  simp only [ya, yb, yc, yd, ye, yf, yg, yh, yi, yj, yk, yl, ym, yn, yo, yp, yq, yr, yt, yu, yv, yw, yx, yy, yz, yA, yB, yC, yD, yE, yF, yG, yH, yI, yJ, yK, yL, yM, yN, yO, yP, yQ, yR, yS, yT, yU, yV, yW, yX, yY, yZ, y0, y4, y5, y6, y7, y8, y9, Yb, Yc, Yd, Ye, Yg, Yh, Yi, Yj, Yk, Yl, Ym, Yn, Yo, String.reduceEq, if_true, if_false, reduceIte, ↓reduceIte, Yp, Yq, Yr, Ys, Yt, Yu, Yv, Yw, Yx, Yy, Yz, YA, YB, YC, YD, YE, YF, YG, YH, YI, YJ, YK, YL, YM, YN, YO, YP, YQ, YR, YS, YT, YU, YV, YW, Option.map_some, Option.bind_some, List.map_cons, List.map_nil, List.getElem?_cons_zero, List.getElem?_cons_succ, decide_eq_true_eq, List.length_cons, List.length_nil, Nat.reduceAdd, ne_eq, true_and, and_true, not_false_eq_true, not_true_eq_false, Int.reduceEq, Int.reduceNeg, Int.reduceAdd, Int.reduceLT, Int.reduceLE, reduceCtorEq, or_false, false_or, or_true, decide_true, decide_false, Bool.not_true, Bool.not_false, Bool.false_eq_true, Bool.true_eq_false, YX, YY, YZ, Y0, Y1, Y2, Y3, Y4]
  refine nx fun k kn' kr' _ _ => ?_
  simp only [ya, yb, yc, yd, ye, yf, yg, yh, yi, yj, yk, yl, ym, yn, yo, yp, yq, yr, yt, yu, yv, yw, yx, yy, yz, yA, yB, yC, yD, yE, yF, yG, yH, yI, yJ, yK, yL, yM, yN, yO, yP, yQ, yR, yS, yT, yU, yV, yW, yX, yY, yZ, y0, y4, y5, y6, y7, y8, y9, Yb, Yc, Yd, Ye, Yg, Yh, Yi, Yj, Yk, Yl, Ym, Yn, Yo, String.reduceEq, if_true, if_false, reduceIte, ↓reduceIte, Yp, Yq, Yr, Ys, Yt, Yu, Yv, Yw, Yx, Yy, Yz, YA, YB, YC, YD, YE, YF, YG, YH, YI, YJ, YK, YL, YM, YN, YO, YP, YQ, YR, YS, YT, YU, YV, YW, Option.map_some, Option.bind_some, List.map_cons, List.map_nil, List.getElem?_cons_zero, List.getElem?_cons_succ, decide_eq_true_eq, List.length_cons, List.length_nil, Nat.reduceAdd, ne_eq, true_and, and_true, not_false_eq_true, not_true_eq_false, Int.reduceEq, Int.reduceNeg, Int.reduceAdd, Int.reduceLT, Int.reduceLE, reduceCtorEq, or_false, false_or, or_true, decide_true, decide_false, Bool.not_true, Bool.not_false, Bool.false_eq_true, Bool.true_eq_false, YX, YY, YZ, Y0, Y1, Y2, Y3, Y4]
  exact h _
theorem refused_ok {σ : H} {n : Int} {ts : List (Int × Int)} {Ts : List (List Int)} {t : V} {w : Int} {K X} (hn : 1 ≤ n) (hn' : n ≤ 16) (G : GoodT n ts) (hT : Turns n ts Ts) (ht : Tame t) (hr : ¬ Right Ts t)
    (h : ∀ σ', K (.v (.bool true)) σ') : C "_law_refused" [.v (webOf n ts), .v t, iv w] σ K X := by
  refine run_of hC (d := f__law_refused) (by repeat (first | exact List.Mem.head _ | apply List.Mem.tail)) rfl ?_
  unfold f__law_refused
  dsimp only
  refine nx fun k kn kr _ _ => ?_
  simp only [ya, yb, yc, yd, ye, yf, yg, yh, yi, yj, yk, yl, ym, yn, yo, yp, yq, yr, yt, yu, yv, yw, yx, yy, yz, yA, yB, yC, yD, yE, yF, yG, yH, yI, yJ, yK, yL, yM, yN, yO, yP, yQ, yR, yS, yT, yU, yV, yW, yX, yY, yZ, y0, y4, y5, y6, y7, y8, y9, Yb, Yc, Yd, Ye, Yg, Yh, Yi, Yj, Yk, Yl, Ym, Yn, Yo, String.reduceEq, if_true, if_false, reduceIte, ↓reduceIte, Yp, Yq, Yr, Ys, Yt, Yu, Yv, Yw, Yx, Yy, Yz, YA, YB, YC, YD, YE, YF, YG, YH, YI, YJ, YK, YL, YM, YN, YO, YP, YQ, YR, YS, YT, YU, YV, YW, Option.map_some, Option.bind_some, List.map_cons, List.map_nil, List.getElem?_cons_zero, List.getElem?_cons_succ, decide_eq_true_eq, List.length_cons, List.length_nil, Nat.reduceAdd, ne_eq, true_and, and_true, not_false_eq_true, not_true_eq_false, Int.reduceEq, Int.reduceNeg, Int.reduceAdd, Int.reduceLT, Int.reduceLE, reduceCtorEq, or_false, false_or, or_true, decide_true, decide_false, Bool.not_true, Bool.not_false, Bool.false_eq_true, Bool.true_eq_false, YX, YY, YZ, Y0, Y1, Y2, Y3, Y4]
  refine nx fun k kn' kr' _ _ => ?_
  simp only [ya, yb, yc, yd, ye, yf, yg, yh, yi, yj, yk, yl, ym, yn, yo, yp, yq, yr, yt, yu, yv, yw, yx, yy, yz, yA, yB, yC, yD, yE, yF, yG, yH, yI, yJ, yK, yL, yM, yN, yO, yP, yQ, yR, yS, yT, yU, yV, yW, yX, yY, yZ, y0, y4, y5, y6, y7, y8, y9, Yb, Yc, Yd, Ye, Yg, Yh, Yi, Yj, Yk, Yl, Ym, Yn, Yo, String.reduceEq, if_true, if_false, reduceIte, ↓reduceIte, Yp, Yq, Yr, Ys, Yt, Yu, Yv, Yw, Yx, Yy, Yz, YA, YB, YC, YD, YE, YF, YG, YH, YI, YJ, YK, YL, YM, YN, YO, YP, YQ, YR, YS, YT, YU, YV, YW, Option.map_some, Option.bind_some, List.map_cons, List.map_nil, List.getElem?_cons_zero, List.getElem?_cons_succ, decide_eq_true_eq, List.length_cons, List.length_nil, Nat.reduceAdd, ne_eq, true_and, and_true, not_false_eq_true, not_true_eq_false, Int.reduceEq, Int.reduceNeg, Int.reduceAdd, Int.reduceLT, Int.reduceLE, reduceCtorEq, or_false, false_or, or_true, decide_true, decide_false, Bool.not_true, Bool.not_false, Bool.false_eq_true, Bool.true_eq_false, YX, YY, YZ, Y0, Y1, Y2, Y3, Y4]
  by_cases h0 : w = 0
  · simp only [h0, decide_true, if_true]
    refine nx fun k kn' kr' _ _ => ?_
    simp only [ya, yb, yc, yd, ye, yf, yg, yh, yi, yj, yk, yl, ym, yn, yo, yp, yq, yr, yt, yu, yv, yw, yx, yy, yz, yA, yB, yC, yD, yE, yF, yG, yH, yI, yJ, yK, yL, yM, yN, yO, yP, yQ, yR, yS, yT, yU, yV, yW, yX, yY, yZ, y0, y4, y5, y6, y7, y8, y9, Yb, Yc, Yd, Ye, Yg, Yh, Yi, Yj, Yk, Yl, Ym, Yn, Yo, String.reduceEq, if_true, if_false, reduceIte, ↓reduceIte, Yp, Yq, Yr, Ys, Yt, Yu, Yv, Yw, Yx, Yy, Yz, YA, YB, YC, YD, YE, YF, YG, YH, YI, YJ, YK, YL, YM, YN, YO, YP, YQ, YR, YS, YT, YU, YV, YW, Option.map_some, Option.bind_some, List.map_cons, List.map_nil, List.getElem?_cons_zero, List.getElem?_cons_succ, decide_eq_true_eq, List.length_cons, List.length_nil, Nat.reduceAdd, ne_eq, true_and, and_true, not_false_eq_true, not_true_eq_false, Int.reduceEq, Int.reduceNeg, Int.reduceAdd, Int.reduceLT, Int.reduceLE, reduceCtorEq, or_false, false_or, or_true, decide_true, decide_false, Bool.not_true, Bool.not_false, Bool.false_eq_true, Bool.true_eq_false, YX, YY, YZ, Y0, Y1, Y2, Y3, Y4]
    exact walks_no hC hn hn' G hT ht hr fun σ' => word_ok hC rfl (by rw [eq_t]; exact kr _ _ _ (h _))
  · simp only [h0, decide_false, Bool.false_eq_true, if_false]
    refine nx fun k kn' kr' _ _ => ?_
    simp only [ya, yb, yc, yd, ye, yf, yg, yh, yi, yj, yk, yl, ym, yn, yo, yp, yq, yr, yt, yu, yv, yw, yx, yy, yz, yA, yB, yC, yD, yE, yF, yG, yH, yI, yJ, yK, yL, yM, yN, yO, yP, yQ, yR, yS, yT, yU, yV, yW, yX, yY, yZ, y0, y4, y5, y6, y7, y8, y9, Yb, Yc, Yd, Ye, Yg, Yh, Yi, Yj, Yk, Yl, Ym, Yn, Yo, String.reduceEq, if_true, if_false, reduceIte, ↓reduceIte, Yp, Yq, Yr, Ys, Yt, Yu, Yv, Yw, Yx, Yy, Yz, YA, YB, YC, YD, YE, YF, YG, YH, YI, YJ, YK, YL, YM, YN, YO, YP, YQ, YR, YS, YT, YU, YV, YW, Option.map_some, Option.bind_some, List.map_cons, List.map_nil, List.getElem?_cons_zero, List.getElem?_cons_succ, decide_eq_true_eq, List.length_cons, List.length_nil, Nat.reduceAdd, ne_eq, true_and, and_true, not_false_eq_true, not_true_eq_false, Int.reduceEq, Int.reduceNeg, Int.reduceAdd, Int.reduceLT, Int.reduceLE, reduceCtorEq, or_false, false_or, or_true, decide_true, decide_false, Bool.not_true, Bool.not_false, Bool.false_eq_true, Bool.true_eq_false, YX, YY, YZ, Y0, Y1, Y2, Y3, Y4]
    refine run_of hC (d := f_flat) (by repeat (first | exact List.Mem.head _ | apply List.Mem.tail)) rfl ?_
    unfold f_flat
    dsimp only
    refine nx fun k kn' kr' _ _ => ?_
    simp only [ya, yb, yc, yd, ye, yf, yg, yh, yi, yj, yk, yl, ym, yn, yo, yp, yq, yr, yt, yu, yv, yw, yx, yy, yz, yA, yB, yC, yD, yE, yF, yG, yH, yI, yJ, yK, yL, yM, yN, yO, yP, yQ, yR, yS, yT, yU, yV, yW, yX, yY, yZ, y0, y4, y5, y6, y7, y8, y9, Yb, Yc, Yd, Ye, Yg, Yh, Yi, Yj, Yk, Yl, Ym, Yn, Yo, String.reduceEq, if_true, if_false, reduceIte, ↓reduceIte, Yp, Yq, Yr, Ys, Yt, Yu, Yv, Yw, Yx, Yy, Yz, YA, YB, YC, YD, YE, YF, YG, YH, YI, YJ, YK, YL, YM, YN, YO, YP, YQ, YR, YS, YT, YU, YV, YW, Option.map_some, Option.bind_some, List.map_cons, List.map_nil, List.getElem?_cons_zero, List.getElem?_cons_succ, decide_eq_true_eq, List.length_cons, List.length_nil, Nat.reduceAdd, ne_eq, true_and, and_true, not_false_eq_true, not_true_eq_false, Int.reduceEq, Int.reduceNeg, Int.reduceAdd, Int.reduceLT, Int.reduceLE, reduceCtorEq, or_false, false_or, or_true, decide_true, decide_false, Bool.not_true, Bool.not_false, Bool.false_eq_true, Bool.true_eq_false, YX, YY, YZ, Y0, Y1, Y2, Y3, Y4]
    exact walks_no hC hn hn' G hT ht hr fun σ' => word_ok hC rfl (by rw [eq_t]; exact kr _ _ _ (h _))

omit hC in
theorem right_self {n : Int} {ts : List (Int × Int)} {Ts : List (List Int)} (hT : Turns n ts Ts) : Right Ts (lsV Ts) :=
  ⟨Ts.map lV, rfl, by simp, fun i T x h1 h2 => by
    rw [List.getElem?_map, h1] at h2
    cases h2
    exact ⟨T, rfl, .refl _⟩⟩

theorem copies {σ : H} {Ts : List (List Int)} {m : Loc} {src : A} {its : List A} {K : List V → H → Prop} {X} (hl : ∀ T ∈ Ts, T.length ≤ 16) (hS : Stay σ src its) (hK : K (Ts.map lV) σ) :
    compLoop (fun m σ K => xTs C true [] m σ K X) (fun m σ K => xE C (.fz (.copy (.x "_law_turn"))) m σ K X) (.one "_law_turn") src its m ((Ts.map lV).map A.v) σ [] K := by
  rw [List.map_map]
  refine compLoop_map (A.v ∘ lV) lV hS Ts [] (fun m K h => by simp only [ya, yb, yc, yd, ye, yf, yg, yh, yi, yj, yk, yl, ym, yn, yo, yp, yq, yr, yt, yu, yv, yw, yx, yy, yz, yA, yB, yC, yD, yE, yF, yG, yH, yI, yJ, yK, yL, yM, yN, yO, yP, yQ, yR, yS, yT, yU, yV, yW, yX, yY, yZ, y0, y4, y5, y6, y7, y8, y9, Yb, Yc, Yd, Ye, Yg, Yh, Yi, Yj, Yk, Yl, Ym, Yn, Yo, String.reduceEq, if_true, if_false, reduceIte, ↓reduceIte, Yp, Yq, Yr, Ys, Yt, Yu, Yv, Yw, Yx, Yy, Yz, YA, YB, YC, YD, YE, YF, YG, YH, YI, YJ, YK, YL, YM, YN, YO, YP, YQ, YR, YS, YT, YU, YV, YW, Option.map_some, Option.bind_some, List.map_cons, List.map_nil, List.getElem?_cons_zero, List.getElem?_cons_succ, decide_eq_true_eq, List.length_cons, List.length_nil, Nat.reduceAdd, ne_eq, true_and, and_true, not_false_eq_true, not_true_eq_false, Int.reduceEq, Int.reduceNeg, Int.reduceAdd, Int.reduceLT, Int.reduceLE, reduceCtorEq, or_false, false_or, or_true, decide_true, decide_false, Bool.not_true, Bool.not_false, Bool.false_eq_true, Bool.true_eq_false, YX, YY, YZ, Y0, Y1, Y2, Y3, Y4]; exact h) (fun T hT K h => ?_) (by simpa using hK)
  have := hl T hT
  simp only [ya, yb, yc, yd, ye, yf, yg, yh, yi, yj, yk, yl, ym, yn, yo, yp, yq, yr, yt, yu, yv, yw, yx, yy, yz, yA, yB, yC, yD, yE, yF, yG, yH, yI, yJ, yK, yL, yM, yN, yO, yP, yQ, yR, yS, yT, yU, yV, yW, yX, yY, yZ, y0, y4, y5, y6, y7, y8, y9, Yb, Yc, Yd, Ye, Yg, Yh, Yi, Yj, Yk, Yl, Ym, Yn, Yo, String.reduceEq, if_true, if_false, reduceIte, ↓reduceIte, Yp, Yq, Yr, Ys, Yt, Yu, Yv, Yw, Yx, Yy, Yz, YA, YB, YC, YD, YE, YF, YG, YH, YI, YJ, YK, YL, YM, YN, YO, YP, YQ, YR, YS, YT, YU, YV, YW, Option.map_some, Option.bind_some, List.map_cons, List.map_nil, List.getElem?_cons_zero, List.getElem?_cons_succ, decide_eq_true_eq, List.length_cons, List.length_nil, Nat.reduceAdd, ne_eq, true_and, and_true, not_false_eq_true, not_true_eq_false, Int.reduceEq, Int.reduceNeg, Int.reduceAdd, Int.reduceLT, Int.reduceLE, reduceCtorEq, or_false, false_or, or_true, decide_true, decide_false, Bool.not_true, Bool.not_false, Bool.false_eq_true, Bool.true_eq_false, YX, YY, YZ, Y0, Y1, Y2, Y3, Y4]
  simp only [Function.comp_apply, lV, seqV_list, Yo]
  exact ⟨by simp [small]; omega, h⟩

/-- what follows when the thing is there -/
theorem law_end {σ : H} {n : Int} {ts : List (Int × Int)} {Ts : List (List Int)} {t : V} {m : Loc} {K : A → H → Prop} {X} (hn : 1 ≤ n) (hn' : n ≤ 16) (G : GoodT n ts) (hT : Turns n ts Ts) (ht : Tame t) (hl : ∀ T ∈ Ts, T.length ≤ 16)
    (m1 : m "_law_turns" = some (.v (lsV Ts))) (m2 : m "_law_web" = some (.v (webOf n ts))) (m3 : m "_law_thing" = some (.v t)) (h : ∀ σ', K (.v (.bool true)) σ') :
    xSs C [.asg "_law_kept" (.x "_law_thing"),
    .ite (.isi (.x "_law_thing") .list) [.asg "_law_kept" (.fz (.copy (.x "_law_thing")))] [],
    .asg "_law_due" (.call "_law_is_right" [.x "_law_turns", .x "_law_thing"]),
    .ite (.cmp (.call "are_turns" [.x "_law_web", .fz (.comp (.fz (.copy (.x "_law_turn"))) (.one "_law_turn") (.x "_law_turns") [])]) .isn (.c (.bool true))) [.ret (.c (.bool false))] [],
    .asg "_law_seen" (.call "are_turns" [.x "_law_web", .x "_law_thing"]),
    .ite (.or [.not (.isi (.x "_law_seen") .bool), .cmp (.x "_law_seen") .ne (.x "_law_due"), .cmp (.x "_law_thing") .ne (.x "_law_kept")]) [.ret (.c (.bool false))] [],
    .ret (.or [.x "_law_due", .and [.call "_law_refused" [.x "_law_web", .x "_law_thing", .c (.int 0)], .call "_law_refused" [.x "_law_web", .x "_law_thing", .c (.int 1)]]])] m σ (retF K) X := by
  have rest : ∀ m : Loc, m "_law_turns" = some (.v (lsV Ts)) → m "_law_web" = some (.v (webOf n ts)) → m "_law_thing" = some (.v t) → m "_law_kept" = some (.v t) → xSs C [.asg "_law_due" (.call "_law_is_right" [.x "_law_turns", .x "_law_thing"]),
    .ite (.cmp (.call "are_turns" [.x "_law_web", .fz (.comp (.fz (.copy (.x "_law_turn"))) (.one "_law_turn") (.x "_law_turns") [])]) .isn (.c (.bool true))) [.ret (.c (.bool false))] [],
    .asg "_law_seen" (.call "are_turns" [.x "_law_web", .x "_law_thing"]),
    .ite (.or [.not (.isi (.x "_law_seen") .bool), .cmp (.x "_law_seen") .ne (.x "_law_due"), .cmp (.x "_law_thing") .ne (.x "_law_kept")]) [.ret (.c (.bool false))] [],
    .ret (.or [.x "_law_due", .and [.call "_law_refused" [.x "_law_web", .x "_law_thing", .c (.int 0)], .call "_law_refused" [.x "_law_web", .x "_law_thing", .c (.int 1)]]])] m σ (retF K) X := by
    intro m m1 m2 m3 m4
    refine nx fun k kn kr _ _ => ?_
    simp only [ya, yb, yc, yd, ye, yf, yg, yh, yi, yj, yk, yl, ym, yn, yo, yp, yq, yr, yt, yu, yv, yw, yx, yy, yz, yA, yB, yC, yD, yE, yF, yG, yH, yI, yJ, yK, yL, yM, yN, yO, yP, yQ, yR, yS, yT, yU, yV, yW, yX, yY, yZ, y0, y4, y5, y6, y7, y8, y9, Yb, Yc, Yd, Ye, Yg, Yh, Yi, Yj, Yk, Yl, Ym, Yn, Yo, String.reduceEq, if_true, if_false, reduceIte, ↓reduceIte, Yp, Yq, Yr, Ys, Yt, Yu, Yv, Yw, Yx, Yy, Yz, YA, YB, YC, YD, YE, YF, YG, YH, YI, YJ, YK, YL, YM, YN, YO, YP, YQ, YR, YS, YT, YU, YV, YW, Option.map_some, Option.bind_some, List.map_cons, List.map_nil, List.getElem?_cons_zero, List.getElem?_cons_succ, decide_eq_true_eq, List.length_cons, List.length_nil, Nat.reduceAdd, ne_eq, true_and, and_true, not_false_eq_true, not_true_eq_false, Int.reduceEq, Int.reduceNeg, Int.reduceAdd, Int.reduceLT, Int.reduceLE, reduceCtorEq, or_false, false_or, or_true, decide_true, decide_false, Bool.not_true, Bool.not_false, Bool.false_eq_true, Bool.true_eq_false, YX, YY, YZ, Y0, Y1, Y2, Y3, Y4]
    simp only [m1, m3, Yo]
    refine right_gen hC hn hn' hT ht fun b hb => kn _ _ ?_
    refine nx fun k kn kr _ _ => ?_
    simp only [ya, yb, yc, yd, ye, yf, yg, yh, yi, yj, yk, yl, ym, yn, yo, yp, yq, yr, yt, yu, yv, yw, yx, yy, yz, yA, yB, yC, yD, yE, yF, yG, yH, yI, yJ, yK, yL, yM, yN, yO, yP, yQ, yR, yS, yT, yU, yV, yW, yX, yY, yZ, y0, y4, y5, y6, y7, y8, y9, Yb, Yc, Yd, Ye, Yg, Yh, Yi, Yj, Yk, Yl, Ym, Yn, Yo, String.reduceEq, if_true, if_false, reduceIte, ↓reduceIte, Yp, Yq, Yr, Ys, Yt, Yu, Yv, Yw, Yx, Yy, Yz, YA, YB, YC, YD, YE, YF, YG, YH, YI, YJ, YK, YL, YM, YN, YO, YP, YQ, YR, YS, YT, YU, YV, YW, Option.map_some, Option.bind_some, List.map_cons, List.map_nil, List.getElem?_cons_zero, List.getElem?_cons_succ, decide_eq_true_eq, List.length_cons, List.length_nil, Nat.reduceAdd, ne_eq, true_and, and_true, not_false_eq_true, not_true_eq_false, Int.reduceEq, Int.reduceNeg, Int.reduceAdd, Int.reduceLT, Int.reduceLE, reduceCtorEq, or_false, false_or, or_true, decide_true, decide_false, Bool.not_true, Bool.not_false, Bool.false_eq_true, Bool.true_eq_false, YX, YY, YZ, Y0, Y1, Y2, Y3, Y4]
    simp only [m1, m2, Yo]
    unfold lsV
    simp only [ya, yb, yc, yd, ye, yf, yg, yh, yi, yj, yk, yl, ym, yn, yo, yp, yq, yr, yt, yu, yv, yw, yx, yy, yz, yA, yB, yC, yD, yE, yF, yG, yH, yI, yJ, yK, yL, yM, yN, yO, yP, yQ, yR, yS, yT, yU, yV, yW, yX, yY, yZ, y0, y4, y5, y6, y7, y8, y9, Yb, Yc, Yd, Ye, Yg, Yh, Yi, Yj, Yk, Yl, Ym, Yn, Yo, String.reduceEq, if_true, if_false, reduceIte, ↓reduceIte, Yp, Yq, Yr, Ys, Yt, Yu, Yv, Yw, Yx, Yy, Yz, YA, YB, YC, YD, YE, YF, YG, YH, YI, YJ, YK, YL, YM, YN, YO, YP, YQ, YR, YS, YT, YU, YV, YW, Option.map_some, Option.bind_some, List.map_cons, List.map_nil, List.getElem?_cons_zero, List.getElem?_cons_succ, decide_eq_true_eq, List.length_cons, List.length_nil, Nat.reduceAdd, ne_eq, true_and, and_true, not_false_eq_true, not_true_eq_false, Int.reduceEq, Int.reduceNeg, Int.reduceAdd, Int.reduceLT, Int.reduceLE, reduceCtorEq, or_false, false_or, or_true, decide_true, decide_false, Bool.not_true, Bool.not_false, Bool.false_eq_true, Bool.true_eq_false, YX, YY, YZ, Y0, Y1, Y2, Y3, Y4]
    refine copies hC (X := NX) hl trivial ?_
    refine ⟨by have := hT.len; simp [small]; omega, ?_⟩
    refine are_turns_gen hC hn hn' G hT (tame_list (fun x hx => ?_) (by have := hT.len; simp; omega)) fun σ₂ b₂ hb₂ => ?_
    · obtain ⟨T, hT', rfl⟩ := List.mem_map.mp hx
      have := hl T hT'
      exact odd_row (by omega)
    have e2 : b₂ = true := hb₂.mpr (right_self hT)
    subst e2
    have isn : ∀ σ : H, cmpSem σ .isn (.v (.bool true)) (.v (.bool true)) = some false := fun _ => rfl
    rw [isn]
    simp only [ya, yb, yc, yd, ye, yf, yg, yh, yi, yj, yk, yl, ym, yn, yo, yp, yq, yr, yt, yu, yv, yw, yx, yy, yz, yA, yB, yC, yD, yE, yF, yG, yH, yI, yJ, yK, yL, yM, yN, yO, yP, yQ, yR, yS, yT, yU, yV, yW, yX, yY, yZ, y0, y4, y5, y6, y7, y8, y9, Yb, Yc, Yd, Ye, Yg, Yh, Yi, Yj, Yk, Yl, Ym, Yn, Yo, String.reduceEq, if_true, if_false, reduceIte, ↓reduceIte, Yp, Yq, Yr, Ys, Yt, Yu, Yv, Yw, Yx, Yy, Yz, YA, YB, YC, YD, YE, YF, YG, YH, YI, YJ, YK, YL, YM, YN, YO, YP, YQ, YR, YS, YT, YU, YV, YW, Option.map_some, Option.bind_some, List.map_cons, List.map_nil, List.getElem?_cons_zero, List.getElem?_cons_succ, decide_eq_true_eq, List.length_cons, List.length_nil, Nat.reduceAdd, ne_eq, true_and, and_true, not_false_eq_true, not_true_eq_false, Int.reduceEq, Int.reduceNeg, Int.reduceAdd, Int.reduceLT, Int.reduceLE, reduceCtorEq, or_false, false_or, or_true, decide_true, decide_false, Bool.not_true, Bool.not_false, Bool.false_eq_true, Bool.true_eq_false, YX, YY, YZ, Y0, Y1, Y2, Y3, Y4]
    refine kn _ _ ?_
    refine nx fun k kn kr _ _ => ?_
    simp only [ya, yb, yc, yd, ye, yf, yg, yh, yi, yj, yk, yl, ym, yn, yo, yp, yq, yr, yt, yu, yv, yw, yx, yy, yz, yA, yB, yC, yD, yE, yF, yG, yH, yI, yJ, yK, yL, yM, yN, yO, yP, yQ, yR, yS, yT, yU, yV, yW, yX, yY, yZ, y0, y4, y5, y6, y7, y8, y9, Yb, Yc, Yd, Ye, Yg, Yh, Yi, Yj, Yk, Yl, Ym, Yn, Yo, String.reduceEq, if_true, if_false, reduceIte, ↓reduceIte, Yp, Yq, Yr, Ys, Yt, Yu, Yv, Yw, Yx, Yy, Yz, YA, YB, YC, YD, YE, YF, YG, YH, YI, YJ, YK, YL, YM, YN, YO, YP, YQ, YR, YS, YT, YU, YV, YW, Option.map_some, Option.bind_some, List.map_cons, List.map_nil, List.getElem?_cons_zero, List.getElem?_cons_succ, decide_eq_true_eq, List.length_cons, List.length_nil, Nat.reduceAdd, ne_eq, true_and, and_true, not_false_eq_true, not_true_eq_false, Int.reduceEq, Int.reduceNeg, Int.reduceAdd, Int.reduceLT, Int.reduceLE, reduceCtorEq, or_false, false_or, or_true, decide_true, decide_false, Bool.not_true, Bool.not_false, Bool.false_eq_true, Bool.true_eq_false, YX, YY, YZ, Y0, Y1, Y2, Y3, Y4]
    simp only [m2, m3, Yo]
    refine are_turns_gen hC hn hn' G hT ht fun σ₃ b₃ hb₃ => kn _ _ ?_
    have e3 : b₃ = b := by
      cases b₃ with
      | true => exact (hb.mpr (hb₃.mp rfl)).symm
      | false => cases b with
        | false => rfl
        | true => exact hb₃.mpr (hb.mp rfl)
    subst e3
    refine nx fun k kn kr _ _ => ?_
    simp only [ya, yb, yc, yd, ye, yf, yg, yh, yi, yj, yk, yl, ym, yn, yo, yp, yq, yr, yt, yu, yv, yw, yx, yy, yz, yA, yB, yC, yD, yE, yF, yG, yH, yI, yJ, yK, yL, yM, yN, yO, yP, yQ, yR, yS, yT, yU, yV, yW, yX, yY, yZ, y0, y4, y5, y6, y7, y8, y9, Yb, Yc, Yd, Ye, Yg, Yh, Yi, Yj, Yk, Yl, Ym, Yn, Yo, String.reduceEq, if_true, if_false, reduceIte, ↓reduceIte, Yp, Yq, Yr, Ys, Yt, Yu, Yv, Yw, Yx, Yy, Yz, YA, YB, YC, YD, YE, YF, YG, YH, YI, YJ, YK, YL, YM, YN, YO, YP, YQ, YR, YS, YT, YU, YV, YW, Option.map_some, Option.bind_some, List.map_cons, List.map_nil, List.getElem?_cons_zero, List.getElem?_cons_succ, decide_eq_true_eq, List.length_cons, List.length_nil, Nat.reduceAdd, ne_eq, true_and, and_true, not_false_eq_true, not_true_eq_false, Int.reduceEq, Int.reduceNeg, Int.reduceAdd, Int.reduceLT, Int.reduceLE, reduceCtorEq, or_false, false_or, or_true, decide_true, decide_false, Bool.not_true, Bool.not_false, Bool.false_eq_true, Bool.true_eq_false, YX, YY, YZ, Y0, Y1, Y2, Y3, Y4]
    have i1 : isiSem σ₃ (.v (.bool b₃)) .bool = some true := rfl
    simp only [m3, m4, Yo, i1]
    simp only [ya, yb, yc, yd, ye, yf, yg, yh, yi, yj, yk, yl, ym, yn, yo, yp, yq, yr, yt, yu, yv, yw, yx, yy, yz, yA, yB, yC, yD, yE, yF, yG, yH, yI, yJ, yK, yL, yM, yN, yO, yP, yQ, yR, yS, yT, yU, yV, yW, yX, yY, yZ, y0, y4, y5, y6, y7, y8, y9, Yb, Yc, Yd, Ye, Yg, Yh, Yi, Yj, Yk, Yl, Ym, Yn, Yo, String.reduceEq, if_true, if_false, reduceIte, ↓reduceIte, Yp, Yq, Yr, Ys, Yt, Yu, Yv, Yw, Yx, Yy, Yz, YA, YB, YC, YD, YE, YF, YG, YH, YI, YJ, YK, YL, YM, YN, YO, YP, YQ, YR, YS, YT, YU, YV, YW, Option.map_some, Option.bind_some, List.map_cons, List.map_nil, List.getElem?_cons_zero, List.getElem?_cons_succ, decide_eq_true_eq, List.length_cons, List.length_nil, Nat.reduceAdd, ne_eq, true_and, and_true, not_false_eq_true, not_true_eq_false, Int.reduceEq, Int.reduceNeg, Int.reduceAdd, Int.reduceLT, Int.reduceLE, reduceCtorEq, or_false, false_or, or_true, decide_true, decide_false, Bool.not_true, Bool.not_false, Bool.false_eq_true, Bool.true_eq_false, YX, YY, YZ, Y0, Y1, Y2, Y3, Y4]
    rw [c_ne_same (x := .bool b₃) rfl rfl rfl, c_ne_self ht.sm]
    simp only [ya, yb, yc, yd, ye, yf, yg, yh, yi, yj, yk, yl, ym, yn, yo, yp, yq, yr, yt, yu, yv, yw, yx, yy, yz, yA, yB, yC, yD, yE, yF, yG, yH, yI, yJ, yK, yL, yM, yN, yO, yP, yQ, yR, yS, yT, yU, yV, yW, yX, yY, yZ, y0, y4, y5, y6, y7, y8, y9, Yb, Yc, Yd, Ye, Yg, Yh, Yi, Yj, Yk, Yl, Ym, Yn, Yo, String.reduceEq, if_true, if_false, reduceIte, ↓reduceIte, Yp, Yq, Yr, Ys, Yt, Yu, Yv, Yw, Yx, Yy, Yz, YA, YB, YC, YD, YE, YF, YG, YH, YI, YJ, YK, YL, YM, YN, YO, YP, YQ, YR, YS, YT, YU, YV, YW, Option.map_some, Option.bind_some, List.map_cons, List.map_nil, List.getElem?_cons_zero, List.getElem?_cons_succ, decide_eq_true_eq, List.length_cons, List.length_nil, Nat.reduceAdd, ne_eq, true_and, and_true, not_false_eq_true, not_true_eq_false, Int.reduceEq, Int.reduceNeg, Int.reduceAdd, Int.reduceLT, Int.reduceLE, reduceCtorEq, or_false, false_or, or_true, decide_true, decide_false, Bool.not_true, Bool.not_false, Bool.false_eq_true, Bool.true_eq_false, YX, YY, YZ, Y0, Y1, Y2, Y3, Y4]
    refine kn _ _ ?_
    refine nx fun k kn kr _ _ => ?_
    simp only [ya, yb, yc, yd, ye, yf, yg, yh, yi, yj, yk, yl, ym, yn, yo, yp, yq, yr, yt, yu, yv, yw, yx, yy, yz, yA, yB, yC, yD, yE, yF, yG, yH, yI, yJ, yK, yL, yM, yN, yO, yP, yQ, yR, yS, yT, yU, yV, yW, yX, yY, yZ, y0, y4, y5, y6, y7, y8, y9, Yb, Yc, Yd, Ye, Yg, Yh, Yi, Yj, Yk, Yl, Ym, Yn, Yo, String.reduceEq, if_true, if_false, reduceIte, ↓reduceIte, Yp, Yq, Yr, Ys, Yt, Yu, Yv, Yw, Yx, Yy, Yz, YA, YB, YC, YD, YE, YF, YG, YH, YI, YJ, YK, YL, YM, YN, YO, YP, YQ, YR, YS, YT, YU, YV, YW, Option.map_some, Option.bind_some, List.map_cons, List.map_nil, List.getElem?_cons_zero, List.getElem?_cons_succ, decide_eq_true_eq, List.length_cons, List.length_nil, Nat.reduceAdd, ne_eq, true_and, and_true, not_false_eq_true, not_true_eq_false, Int.reduceEq, Int.reduceNeg, Int.reduceAdd, Int.reduceLT, Int.reduceLE, reduceCtorEq, or_false, false_or, or_true, decide_true, decide_false, Bool.not_true, Bool.not_false, Bool.false_eq_true, Bool.true_eq_false, YX, YY, YZ, Y0, Y1, Y2, Y3, Y4]
    simp only [m2, m3, Yo]
    cases b₃ with
    | true =>
      simp only [ya, yb, yc, yd, ye, yf, yg, yh, yi, yj, yk, yl, ym, yn, yo, yp, yq, yr, yt, yu, yv, yw, yx, yy, yz, yA, yB, yC, yD, yE, yF, yG, yH, yI, yJ, yK, yL, yM, yN, yO, yP, yQ, yR, yS, yT, yU, yV, yW, yX, yY, yZ, y0, y4, y5, y6, y7, y8, y9, Yb, Yc, Yd, Ye, Yg, Yh, Yi, Yj, Yk, Yl, Ym, Yn, Yo, String.reduceEq, if_true, if_false, reduceIte, ↓reduceIte, Yp, Yq, Yr, Ys, Yt, Yu, Yv, Yw, Yx, Yy, Yz, YA, YB, YC, YD, YE, YF, YG, YH, YI, YJ, YK, YL, YM, YN, YO, YP, YQ, YR, YS, YT, YU, YV, YW, Option.map_some, Option.bind_some, List.map_cons, List.map_nil, List.getElem?_cons_zero, List.getElem?_cons_succ, decide_eq_true_eq, List.length_cons, List.length_nil, Nat.reduceAdd, ne_eq, true_and, and_true, not_false_eq_true, not_true_eq_false, Int.reduceEq, Int.reduceNeg, Int.reduceAdd, Int.reduceLT, Int.reduceLE, reduceCtorEq, or_false, false_or, or_true, decide_true, decide_false, Bool.not_true, Bool.not_false, Bool.false_eq_true, Bool.true_eq_false, YX, YY, YZ, Y0, Y1, Y2, Y3, Y4]
      exact kr _ _ _ (h _)
    | false =>
      simp only [ya, yb, yc, yd, ye, yf, yg, yh, yi, yj, yk, yl, ym, yn, yo, yp, yq, yr, yt, yu, yv, yw, yx, yy, yz, yA, yB, yC, yD, yE, yF, yG, yH, yI, yJ, yK, yL, yM, yN, yO, yP, yQ, yR, yS, yT, yU, yV, yW, yX, yY, yZ, y0, y4, y5, y6, y7, y8, y9, Yb, Yc, Yd, Ye, Yg, Yh, Yi, Yj, Yk, Yl, Ym, Yn, Yo, String.reduceEq, if_true, if_false, reduceIte, ↓reduceIte, Yp, Yq, Yr, Ys, Yt, Yu, Yv, Yw, Yx, Yy, Yz, YA, YB, YC, YD, YE, YF, YG, YH, YI, YJ, YK, YL, YM, YN, YO, YP, YQ, YR, YS, YT, YU, YV, YW, Option.map_some, Option.bind_some, List.map_cons, List.map_nil, List.getElem?_cons_zero, List.getElem?_cons_succ, decide_eq_true_eq, List.length_cons, List.length_nil, Nat.reduceAdd, ne_eq, true_and, and_true, not_false_eq_true, not_true_eq_false, Int.reduceEq, Int.reduceNeg, Int.reduceAdd, Int.reduceLT, Int.reduceLE, reduceCtorEq, or_false, false_or, or_true, decide_true, decide_false, Bool.not_true, Bool.not_false, Bool.false_eq_true, Bool.true_eq_false, YX, YY, YZ, Y0, Y1, Y2, Y3, Y4]
      have nr : ¬ Right Ts t := fun e => nomatch hb.mpr e
      refine refused_ok hC hn hn' G hT ht nr fun σ₄ => ?_
      simp only [ya, yb, yc, yd, ye, yf, yg, yh, yi, yj, yk, yl, ym, yn, yo, yp, yq, yr, yt, yu, yv, yw, yx, yy, yz, yA, yB, yC, yD, yE, yF, yG, yH, yI, yJ, yK, yL, yM, yN, yO, yP, yQ, yR, yS, yT, yU, yV, yW, yX, yY, yZ, y0, y4, y5, y6, y7, y8, y9, Yb, Yc, Yd, Ye, Yg, Yh, Yi, Yj, Yk, Yl, Ym, Yn, Yo, String.reduceEq, if_true, if_false, reduceIte, ↓reduceIte, Yp, Yq, Yr, Ys, Yt, Yu, Yv, Yw, Yx, Yy, Yz, YA, YB, YC, YD, YE, YF, YG, YH, YI, YJ, YK, YL, YM, YN, YO, YP, YQ, YR, YS, YT, YU, YV, YW, Option.map_some, Option.bind_some, List.map_cons, List.map_nil, List.getElem?_cons_zero, List.getElem?_cons_succ, decide_eq_true_eq, List.length_cons, List.length_nil, Nat.reduceAdd, ne_eq, true_and, and_true, not_false_eq_true, not_true_eq_false, Int.reduceEq, Int.reduceNeg, Int.reduceAdd, Int.reduceLT, Int.reduceLE, reduceCtorEq, or_false, false_or, or_true, decide_true, decide_false, Bool.not_true, Bool.not_false, Bool.false_eq_true, Bool.true_eq_false, YX, YY, YZ, Y0, Y1, Y2, Y3, Y4]
      exact refused_ok hC hn hn' G hT ht nr fun σ₅ => kr _ _ _ (h _)
  refine nx fun k kn kr _ _ => ?_
  simp only [ya, yb, yc, yd, ye, yf, yg, yh, yi, yj, yk, yl, ym, yn, yo, yp, yq, yr, yt, yu, yv, yw, yx, yy, yz, yA, yB, yC, yD, yE, yF, yG, yH, yI, yJ, yK, yL, yM, yN, yO, yP, yQ, yR, yS, yT, yU, yV, yW, yX, yY, yZ, y0, y4, y5, y6, y7, y8, y9, Yb, Yc, Yd, Ye, Yg, Yh, Yi, Yj, Yk, Yl, Ym, Yn, Yo, String.reduceEq, if_true, if_false, reduceIte, ↓reduceIte, Yp, Yq, Yr, Ys, Yt, Yu, Yv, Yw, Yx, Yy, Yz, YA, YB, YC, YD, YE, YF, YG, YH, YI, YJ, YK, YL, YM, YN, YO, YP, YQ, YR, YS, YT, YU, YV, YW, Option.map_some, Option.bind_some, List.map_cons, List.map_nil, List.getElem?_cons_zero, List.getElem?_cons_succ, decide_eq_true_eq, List.length_cons, List.length_nil, Nat.reduceAdd, ne_eq, true_and, and_true, not_false_eq_true, not_true_eq_false, Int.reduceEq, Int.reduceNeg, Int.reduceAdd, Int.reduceLT, Int.reduceLE, reduceCtorEq, or_false, false_or, or_true, decide_true, decide_false, Bool.not_true, Bool.not_false, Bool.false_eq_true, Bool.true_eq_false, YX, YY, YZ, Y0, Y1, Y2, Y3, Y4]
  simp only [m3, Yo]
  refine kn _ _ ?_
  refine nx fun k kn kr _ _ => ?_
  simp only [ya, yb, yc, yd, ye, yf, yg, yh, yi, yj, yk, yl, ym, yn, yo, yp, yq, yr, yt, yu, yv, yw, yx, yy, yz, yA, yB, yC, yD, yE, yF, yG, yH, yI, yJ, yK, yL, yM, yN, yO, yP, yQ, yR, yS, yT, yU, yV, yW, yX, yY, yZ, y0, y4, y5, y6, y7, y8, y9, Yb, Yc, Yd, Ye, Yg, Yh, Yi, Yj, Yk, Yl, Ym, Yn, Yo, String.reduceEq, if_true, if_false, reduceIte, ↓reduceIte, Yp, Yq, Yr, Ys, Yt, Yu, Yv, Yw, Yx, Yy, Yz, YA, YB, YC, YD, YE, YF, YG, YH, YI, YJ, YK, YL, YM, YN, YO, YP, YQ, YR, YS, YT, YU, YV, YW, Option.map_some, Option.bind_some, List.map_cons, List.map_nil, List.getElem?_cons_zero, List.getElem?_cons_succ, decide_eq_true_eq, List.length_cons, List.length_nil, Nat.reduceAdd, ne_eq, true_and, and_true, not_false_eq_true, not_true_eq_false, Int.reduceEq, Int.reduceNeg, Int.reduceAdd, Int.reduceLT, Int.reduceLE, reduceCtorEq, or_false, false_or, or_true, decide_true, decide_false, Bool.not_true, Bool.not_false, Bool.false_eq_true, Bool.true_eq_false, YX, YY, YZ, Y0, Y1, Y2, Y3, Y4]
  simp only [m3, Yo]
  rw [isi_list _ ht.pl]
  simp only [ya, yb, yc, yd, ye, yf, yg, yh, yi, yj, yk, yl, ym, yn, yo, yp, yq, yr, yt, yu, yv, yw, yx, yy, yz, yA, yB, yC, yD, yE, yF, yG, yH, yI, yJ, yK, yL, yM, yN, yO, yP, yQ, yR, yS, yT, yU, yV, yW, yX, yY, yZ, y0, y4, y5, y6, y7, y8, y9, Yb, Yc, Yd, Ye, Yg, Yh, Yi, Yj, Yk, Yl, Ym, Yn, Yo, String.reduceEq, if_true, if_false, reduceIte, ↓reduceIte, Yp, Yq, Yr, Ys, Yt, Yu, Yv, Yw, Yx, Yy, Yz, YA, YB, YC, YD, YE, YF, YG, YH, YI, YJ, YK, YL, YM, YN, YO, YP, YQ, YR, YS, YT, YU, YV, YW, Option.map_some, Option.bind_some, List.map_cons, List.map_nil, List.getElem?_cons_zero, List.getElem?_cons_succ, decide_eq_true_eq, List.length_cons, List.length_nil, Nat.reduceAdd, ne_eq, true_and, and_true, not_false_eq_true, not_true_eq_false, Int.reduceEq, Int.reduceNeg, Int.reduceAdd, Int.reduceLT, Int.reduceLE, reduceCtorEq, or_false, false_or, or_true, decide_true, decide_false, Bool.not_true, Bool.not_false, Bool.false_eq_true, Bool.true_eq_false, YX, YY, YZ, Y0, Y1, Y2, Y3, Y4]
  cases hL : vL t with
  | none =>
    simp only [Option.isSome_none, Bool.false_eq_true, if_false]
    exact kn _ _ (rest _ (by simp [Yn, m1]) (by simp [Yn, m2]) (by simp [Yn, m3]) (by simp [Yn]))
  | some xs =>
    obtain rfl := vL_of hL
    simp only [Option.isSome_some, if_true]
    refine nx fun k kn' kr _ _ => ?_
    simp only [ya, yb, yc, yd, ye, yf, yg, yh, yi, yj, yk, yl, ym, yn, yo, yp, yq, yr, yt, yu, yv, yw, yx, yy, yz, yA, yB, yC, yD, yE, yF, yG, yH, yI, yJ, yK, yL, yM, yN, yO, yP, yQ, yR, yS, yT, yU, yV, yW, yX, yY, yZ, y0, y4, y5, y6, y7, y8, y9, Yb, Yc, Yd, Ye, Yg, Yh, Yi, Yj, Yk, Yl, Ym, Yn, Yo, String.reduceEq, if_true, if_false, reduceIte, ↓reduceIte, Yp, Yq, Yr, Ys, Yt, Yu, Yv, Yw, Yx, Yy, Yz, YA, YB, YC, YD, YE, YF, YG, YH, YI, YJ, YK, YL, YM, YN, YO, YP, YQ, YR, YS, YT, YU, YV, YW, Option.map_some, Option.bind_some, List.map_cons, List.map_nil, List.getElem?_cons_zero, List.getElem?_cons_succ, decide_eq_true_eq, List.length_cons, List.length_nil, Nat.reduceAdd, ne_eq, true_and, and_true, not_false_eq_true, not_true_eq_false, Int.reduceEq, Int.reduceNeg, Int.reduceAdd, Int.reduceLT, Int.reduceLE, reduceCtorEq, or_false, false_or, or_true, decide_true, decide_false, Bool.not_true, Bool.not_false, Bool.false_eq_true, Bool.true_eq_false, YX, YY, YZ, Y0, Y1, Y2, Y3, Y4]
    simp only [m3, Yo, seqV_list]
    refine ⟨by have := (ht.el xs rfl).1; simp only [small]; omega, kn' _ _ (kn _ _ (rest _ (by simp [Yn, m1]) (by simp [Yn, m2]) (by simp [Yn, m3]) (by simp [Yn])))⟩
end
end Fl

/-! law 05 on the abstract machine, its head (own work) -/
namespace Fl
open PySem (Str)
set_option linter.unusedSimpArgs false
set_option linter.unusedSectionVars false

section
variable {C : CallSem} (hC : Closed C tab)
include hC

omit hC in
theorem odd_tame {Ts : List (List Int)} (hl : ∀ T ∈ Ts, T.length ≤ 16) (hTl : Ts.length ≤ 16) : ∀ x ∈ [V.list (sliceV (Ts.map lV) Option.none (some (-1))), .list (Ts.map lV ++ [.list []]), .tup (Ts.map lV), .none, .str "turns", .int 7, .edict, .list [], .bool true], Tame x := by
  have hr : ∀ x ∈ Ts.map lV, OddOk x := fun x hx => by
    obtain ⟨T, hT', rfl⟩ := List.mem_map.mp hx
    have := hl T hT'
    exact odd_row (by omega)
  have h16 : (Ts.map lV).length ≤ 16 := by simpa using hTl
  have t1 : Tame (.list (sliceV (Ts.map lV) Option.none (some (-1)))) := tame_list (fun y hy => hr y (List.mem_of_mem_take (List.mem_of_mem_drop hy))) (by have := slice_len (Ts.map lV) Option.none (some (-1)); omega)
  have t2 : Tame (.list (Ts.map lV ++ [.list []])) := tame_list (o_app hr (o_cons (odd_list PL_nil (by decide)) o_nil)) (by simp; omega)
  have t3 : Tame (.tup (Ts.map lV)) := tame_flat rfl rfl (same0_ok (all_map (f := lV) (p := eqOkN 7) (fun l => all_map (f := V.int) (p := eqOkN 6) (fun _ => rfl) l) Ts))
  have tc : ∀ {x : V} {l : List V}, Tame x → (∀ y ∈ l, Tame y) → ∀ y ∈ x :: l, Tame y := fun h h' y hy => by
    rcases List.mem_cons.mp hy with rfl | hy
    · exact h
    · exact h' y hy
  exact tc t1 (tc t2 (tc t3 (tc (tame_flat rfl rfl rfl) (tc (tame_flat rfl rfl rfl) (tc (tame_flat rfl rfl rfl) (tc (tame_flat rfl rfl rfl) (tc (tame_list o_nil (by decide)) (tc (tame_flat rfl rfl rfl) (fun _ h => nomatch h)))))))))

theorem law_run {ns : List Int} {σ : H} {K X} (h : ∀ σ', K (.v (.bool true)) σ') : C "law" [.v (.list (ns.map V.int))] σ K X := by
  refine run_of hC (d := f_law) (by repeat (first | exact List.Mem.head _ | apply List.Mem.tail)) rfl ?_
  unfold f_law
  dsimp only
  refine nx fun k kn kr _ _ => ?_
  simp only [ya, yb, yc, yd, ye, yf, yg, yh, yi, yj, yk, yl, ym, yn, yo, yp, yq, yr, yt, yu, yv, yw, yx, yy, yz, yA, yB, yC, yD, yE, yF, yG, yH, yI, yJ, yK, yL, yM, yN, yO, yP, yQ, yR, yS, yT, yU, yV, yW, yX, yY, yZ, y0, y4, y5, y6, y7, y8, y9, Yb, Yc, Yd, Ye, Yg, Yh, Yi, Yj, Yk, Yl, Ym, Yn, Yo, String.reduceEq, if_true, if_false, reduceIte, ↓reduceIte, Yp, Yq, Yr, Ys, Yt, Yu, Yv, Yw, Yx, Yy, Yz, YA, YB, YC, YD, YE, YF, YG, YH, YI, YJ, YK, YL, YM, YN, YO, YP, YQ, YR, YS, YT, YU, YV, YW, Option.map_some, Option.bind_some, List.map_cons, List.map_nil, List.getElem?_cons_zero, List.getElem?_cons_succ, decide_eq_true_eq, List.length_cons, List.length_nil, Nat.reduceAdd, ne_eq, true_and, and_true, not_false_eq_true, not_true_eq_false, Int.reduceEq, Int.reduceNeg, Int.reduceAdd, Int.reduceLT, Int.reduceLE, reduceCtorEq, or_false, false_or, or_true, decide_true, decide_false, Bool.not_true, Bool.not_false, Bool.false_eq_true, Bool.true_eq_false, YX, YY, YZ, Y0, Y1, Y2, Y3, Y4]
  refine many_ok hC (YW _ _) fun n hn hn' => ?_
  refine kn _ _ ?_
  refine nx fun k kn kr _ _ => ?_
  simp only [ya, yb, yc, yd, ye, yf, yg, yh, yi, yj, yk, yl, ym, yn, yo, yp, yq, yr, yt, yu, yv, yw, yx, yy, yz, yA, yB, yC, yD, yE, yF, yG, yH, yI, yJ, yK, yL, yM, yN, yO, yP, yQ, yR, yS, yT, yU, yV, yW, yX, yY, yZ, y0, y4, y5, y6, y7, y8, y9, Yb, Yc, Yd, Ye, Yg, Yh, Yi, Yj, Yk, Yl, Ym, Yn, Yo, String.reduceEq, if_true, if_false, reduceIte, ↓reduceIte, Yp, Yq, Yr, Ys, Yt, Yu, Yv, Yw, Yx, Yy, Yz, YA, YB, YC, YD, YE, YF, YG, YH, YI, YJ, YK, YL, YM, YN, YO, YP, YQ, YR, YS, YT, YU, YV, YW, Option.map_some, Option.bind_some, List.map_cons, List.map_nil, List.getElem?_cons_zero, List.getElem?_cons_succ, decide_eq_true_eq, List.length_cons, List.length_nil, Nat.reduceAdd, ne_eq, true_and, and_true, not_false_eq_true, not_true_eq_false, Int.reduceEq, Int.reduceNeg, Int.reduceAdd, Int.reduceLT, Int.reduceLE, reduceCtorEq, or_false, false_or, or_true, decide_true, decide_false, Bool.not_true, Bool.not_false, Bool.false_eq_true, Bool.true_eq_false, YX, YY, YZ, Y0, Y1, Y2, Y3, Y4]
  refine lties_ok hC hn hn' fun ts σ₁ G hp => ?_
  refine kn _ _ ?_
  have hgl := G.len
  refine nx fun k kn kr _ _ => ?_
  simp only [ya, yb, yc, yd, ye, yf, yg, yh, yi, yj, yk, yl, ym, yn, yo, yp, yq, yr, yt, yu, yv, yw, yx, yy, yz, yA, yB, yC, yD, yE, yF, yG, yH, yI, yJ, yK, yL, yM, yN, yO, yP, yQ, yR, yS, yT, yU, yV, yW, yX, yY, yZ, y0, y4, y5, y6, y7, y8, y9, Yb, Yc, Yd, Ye, Yg, Yh, Yi, Yj, Yk, Yl, Ym, Yn, Yo, String.reduceEq, if_true, if_false, reduceIte, ↓reduceIte, Yp, Yq, Yr, Ys, Yt, Yu, Yv, Yw, Yx, Yy, Yz, YA, YB, YC, YD, YE, YF, YG, YH, YI, YJ, YK, YL, YM, YN, YO, YP, YQ, YR, YS, YT, YU, YV, YW, Option.map_some, Option.bind_some, List.map_cons, List.map_nil, List.getElem?_cons_zero, List.getElem?_cons_succ, decide_eq_true_eq, List.length_cons, List.length_nil, Nat.reduceAdd, ne_eq, true_and, and_true, not_false_eq_true, not_true_eq_false, Int.reduceEq, Int.reduceNeg, Int.reduceAdd, Int.reduceLT, Int.reduceLE, reduceCtorEq, or_false, false_or, or_true, decide_true, decide_false, Bool.not_true, Bool.not_false, Bool.false_eq_true, Bool.true_eq_false, YX, YY, YZ, Y0, Y1, Y2, Y3, Y4]
  refine turns_by_ok hC (hW hC) (by repeat (first | exact List.Mem.head _ | apply List.Mem.tail)) (by repeat (first | exact List.Mem.head _ | apply List.Mem.tail)) hn hn' G fun Ts σ₂ hT hp₂ => ?_
  refine kn _ _ ?_
  have hTl := hT.len
  have hl : ∀ T ∈ Ts, T.length ≤ 16 := fun T hTm => by
    obtain ⟨i, hi⟩ := List.mem_iff_getElem?.mp hTm
    exact hT.rowLen hn' hi
  refine nx fun k kn kr _ _ => ?_
  simp only [ya, yb, yc, yd, ye, yf, yg, yh, yi, yj, yk, yl, ym, yn, yo, yp, yq, yr, yt, yu, yv, yw, yx, yy, yz, yA, yB, yC, yD, yE, yF, yG, yH, yI, yJ, yK, yL, yM, yN, yO, yP, yQ, yR, yS, yT, yU, yV, yW, yX, yY, yZ, y0, y4, y5, y6, y7, y8, y9, Yb, Yc, Yd, Ye, Yg, Yh, Yi, Yj, Yk, Yl, Ym, Yn, Yo, String.reduceEq, if_true, if_false, reduceIte, ↓reduceIte, Yp, Yq, Yr, Ys, Yt, Yu, Yv, Yw, Yx, Yy, Yz, YA, YB, YC, YD, YE, YF, YG, YH, YI, YJ, YK, YL, YM, YN, YO, YP, YQ, YR, YS, YT, YU, YV, YW, Option.map_some, Option.bind_some, List.map_cons, List.map_nil, List.getElem?_cons_zero, List.getElem?_cons_succ, decide_eq_true_eq, List.length_cons, List.length_nil, Nat.reduceAdd, ne_eq, true_and, and_true, not_false_eq_true, not_true_eq_false, Int.reduceEq, Int.reduceNeg, Int.reduceAdd, Int.reduceLT, Int.reduceLE, reduceCtorEq, or_false, false_or, or_true, decide_true, decide_false, Bool.not_true, Bool.not_false, Bool.false_eq_true, Bool.true_eq_false, YX, YY, YZ, Y0, Y1, Y2, Y3, Y4]
  simp only [seqV_list, Yo, small, List.length_map]
  refine ⟨by omega, ?_⟩
  refine new_ok (hW hC) hn hn' (ts := ts) (K := fun a σ => k .next (Loc.set _ "_law_web" a) σ) (YW _ _) G (row_len hn' G) fun σ₃ hp₃ => ?_
  refine kn _ _ ?_
  refine nx fun k kn kr _ _ => ?_
  simp only [ya, yb, yc, yd, ye, yf, yg, yh, yi, yj, yk, yl, ym, yn, yo, yp, yq, yr, yt, yu, yv, yw, yx, yy, yz, yA, yB, yC, yD, yE, yF, yG, yH, yI, yJ, yK, yL, yM, yN, yO, yP, yQ, yR, yS, yT, yU, yV, yW, yX, yY, yZ, y0, y4, y5, y6, y7, y8, y9, Yb, Yc, Yd, Ye, Yg, Yh, Yi, Yj, Yk, Yl, Ym, Yn, Yo, String.reduceEq, if_true, if_false, reduceIte, ↓reduceIte, Yp, Yq, Yr, Ys, Yt, Yu, Yv, Yw, Yx, Yy, Yz, YA, YB, YC, YD, YE, YF, YG, YH, YI, YJ, YK, YL, YM, YN, YO, YP, YQ, YR, YS, YT, YU, YV, YW, Option.map_some, Option.bind_some, List.map_cons, List.map_nil, List.getElem?_cons_zero, List.getElem?_cons_succ, decide_eq_true_eq, List.length_cons, List.length_nil, Nat.reduceAdd, ne_eq, true_and, and_true, not_false_eq_true, not_true_eq_false, Int.reduceEq, Int.reduceNeg, Int.reduceAdd, Int.reduceLT, Int.reduceLE, reduceCtorEq, or_false, false_or, or_true, decide_true, decide_false, Bool.not_true, Bool.not_false, Bool.false_eq_true, Bool.true_eq_false, YX, YY, YZ, Y0, Y1, Y2, Y3, Y4]
  refine cell_at_ok (hW hC) (YW _ _) (by omega) ?_
  refine kn _ _ ?_
  generalize cellAt ns (Int.toNat 3) = c
  refine nx fun k kn kr _ _ => ?_
  unfold lsV
  simp only [ya, yb, yc, yd, ye, yf, yg, yh, yi, yj, yk, yl, ym, yn, yo, yp, yq, yr, yt, yu, yv, yw, yx, yy, yz, yA, yB, yC, yD, yE, yF, yG, yH, yI, yJ, yK, yL, yM, yN, yO, yP, yQ, yR, yS, yT, yU, yV, yW, yX, yY, yZ, y0, y4, y5, y6, y7, y8, y9, Yb, Yc, Yd, Ye, Yg, Yh, Yi, Yj, Yk, Yl, Ym, Yn, Yo, String.reduceEq, if_true, if_false, reduceIte, ↓reduceIte, Yp, Yq, Yr, Ys, Yt, Yu, Yv, Yw, Yx, Yy, Yz, YA, YB, YC, YD, YE, YF, YG, YH, YI, YJ, YK, YL, YM, YN, YO, YP, YQ, YR, YS, YT, YU, YV, YW, Option.map_some, Option.bind_some, List.map_cons, List.map_nil, List.getElem?_cons_zero, List.getElem?_cons_succ, decide_eq_true_eq, List.length_cons, List.length_nil, Nat.reduceAdd, ne_eq, true_and, and_true, not_false_eq_true, not_true_eq_false, Int.reduceEq, Int.reduceNeg, Int.reduceAdd, Int.reduceLT, Int.reduceLE, reduceCtorEq, or_false, false_or, or_true, decide_true, decide_false, Bool.not_true, Bool.not_false, Bool.false_eq_true, Bool.true_eq_false, YX, YY, YZ, Y0, Y1, Y2, Y3, Y4]
  refine copies hC (X := NX) hl trivial ?_
  refine ⟨by simp [small]; omega, kn _ _ ?_⟩
  have f1 := fm (a := c.fdiv 48) (n := n) (by omega)
  have hodd := odd_tame hl (by omega)
  refine nx fun k kn kr _ _ => ?_
  simp only [ya, yb, yc, yd, ye, yf, yg, yh, yi, yj, yk, yl, ym, yn, yo, yp, yq, yr, yt, yu, yv, yw, yx, yy, yz, yA, yB, yC, yD, yE, yF, yG, yH, yI, yJ, yK, yL, yM, yN, yO, yP, yQ, yR, yS, yT, yU, yV, yW, yX, yY, yZ, y0, y4, y5, y6, y7, y8, y9, Yb, Yc, Yd, Ye, Yg, Yh, Yi, Yj, Yk, Yl, Ym, Yn, Yo, String.reduceEq, if_true, if_false, reduceIte, ↓reduceIte, Yp, Yq, Yr, Ys, Yt, Yu, Yv, Yw, Yx, Yy, Yz, YA, YB, YC, YD, YE, YF, YG, YH, YI, YJ, YK, YL, YM, YN, YO, YP, YQ, YR, YS, YT, YU, YV, YW, Option.map_some, Option.bind_some, List.map_cons, List.map_nil, List.getElem?_cons_zero, List.getElem?_cons_succ, decide_eq_true_eq, List.length_cons, List.length_nil, Nat.reduceAdd, ne_eq, true_and, and_true, not_false_eq_true, not_true_eq_false, Int.reduceEq, Int.reduceNeg, Int.reduceAdd, Int.reduceLT, Int.reduceLE, reduceCtorEq, or_false, false_or, or_true, decide_true, decide_false, Bool.not_true, Bool.not_false, Bool.false_eq_true, Bool.true_eq_false, YX, YY, YZ, Y0, Y1, Y2, Y3, Y4]
  by_cases h1 : c.fmod 3 = 1
  · simp only [h1, if_true]
    refine nx fun k kn' kr _ _ => ?_
    simp only [ya, yb, yc, yd, ye, yf, yg, yh, yi, yj, yk, yl, ym, yn, yo, yp, yq, yr, yt, yu, yv, yw, yx, yy, yz, yA, yB, yC, yD, yE, yF, yG, yH, yI, yJ, yK, yL, yM, yN, yO, yP, yQ, yR, yS, yT, yU, yV, yW, yX, yY, yZ, y0, y4, y5, y6, y7, y8, y9, Yb, Yc, Yd, Ye, Yg, Yh, Yi, Yj, Yk, Yl, Ym, Yn, Yo, String.reduceEq, if_true, if_false, reduceIte, ↓reduceIte, Yp, Yq, Yr, Ys, Yt, Yu, Yv, Yw, Yx, Yy, Yz, YA, YB, YC, YD, YE, YF, YG, YH, YI, YJ, YK, YL, YM, YN, YO, YP, YQ, YR, YS, YT, YU, YV, YW, Option.map_some, Option.bind_some, List.map_cons, List.map_nil, List.getElem?_cons_zero, List.getElem?_cons_succ, decide_eq_true_eq, List.length_cons, List.length_nil, Nat.reduceAdd, ne_eq, true_and, and_true, not_false_eq_true, not_true_eq_false, Int.reduceEq, Int.reduceNeg, Int.reduceAdd, Int.reduceLT, Int.reduceLE, reduceCtorEq, or_false, false_or, or_true, decide_true, decide_false, Bool.not_true, Bool.not_false, Bool.false_eq_true, Bool.true_eq_false, YX, YY, YZ, Y0, Y1, Y2, Y3, Y4]
    refine ⟨by decide, by decide, by omega, ?_⟩
    refine spoilt_ok hC hn' hT f1.1 f1.2 fun t ht => kn' _ _ (kn _ _ ?_)
    refine nx fun k kn kr _ _ => ?_
    simp only [ya, yb, yc, yd, ye, yf, yg, yh, yi, yj, yk, yl, ym, yn, yo, yp, yq, yr, yt, yu, yv, yw, yx, yy, yz, yA, yB, yC, yD, yE, yF, yG, yH, yI, yJ, yK, yL, yM, yN, yO, yP, yQ, yR, yS, yT, yU, yV, yW, yX, yY, yZ, y0, y4, y5, y6, y7, y8, y9, Yb, Yc, Yd, Ye, Yg, Yh, Yi, Yj, Yk, Yl, Ym, Yn, Yo, String.reduceEq, if_true, if_false, reduceIte, ↓reduceIte, Yp, Yq, Yr, Ys, Yt, Yu, Yv, Yw, Yx, Yy, Yz, YA, YB, YC, YD, YE, YF, YG, YH, YI, YJ, YK, YL, YM, YN, YO, YP, YQ, YR, YS, YT, YU, YV, YW, Option.map_some, Option.bind_some, List.map_cons, List.map_nil, List.getElem?_cons_zero, List.getElem?_cons_succ, decide_eq_true_eq, List.length_cons, List.length_nil, Nat.reduceAdd, ne_eq, true_and, and_true, not_false_eq_true, not_true_eq_false, Int.reduceEq, Int.reduceNeg, Int.reduceAdd, Int.reduceLT, Int.reduceLE, reduceCtorEq, or_false, false_or, or_true, decide_true, decide_false, Bool.not_true, Bool.not_false, Bool.false_eq_true, Bool.true_eq_false, YX, YY, YZ, Y0, Y1, Y2, Y3, Y4]
    simp only [h1, Int.reduceEq, if_false]
    refine kn _ _ ?_
    exact law_end hC hn hn' G hT ht hl rfl rfl rfl h
  · simp only [h1, if_false]
    refine kn _ _ ?_
    refine nx fun k kn kr _ _ => ?_
    simp only [ya, yb, yc, yd, ye, yf, yg, yh, yi, yj, yk, yl, ym, yn, yo, yp, yq, yr, yt, yu, yv, yw, yx, yy, yz, yA, yB, yC, yD, yE, yF, yG, yH, yI, yJ, yK, yL, yM, yN, yO, yP, yQ, yR, yS, yT, yU, yV, yW, yX, yY, yZ, y0, y4, y5, y6, y7, y8, y9, Yb, Yc, Yd, Ye, Yg, Yh, Yi, Yj, Yk, Yl, Ym, Yn, Yo, String.reduceEq, if_true, if_false, reduceIte, ↓reduceIte, Yp, Yq, Yr, Ys, Yt, Yu, Yv, Yw, Yx, Yy, Yz, YA, YB, YC, YD, YE, YF, YG, YH, YI, YJ, YK, YL, YM, YN, YO, YP, YQ, YR, YS, YT, YU, YV, YW, Option.map_some, Option.bind_some, List.map_cons, List.map_nil, List.getElem?_cons_zero, List.getElem?_cons_succ, decide_eq_true_eq, List.length_cons, List.length_nil, Nat.reduceAdd, ne_eq, true_and, and_true, not_false_eq_true, not_true_eq_false, Int.reduceEq, Int.reduceNeg, Int.reduceAdd, Int.reduceLT, Int.reduceLE, reduceCtorEq, or_false, false_or, or_true, decide_true, decide_false, Bool.not_true, Bool.not_false, Bool.false_eq_true, Bool.true_eq_false, YX, YY, YZ, Y0, Y1, Y2, Y3, Y4]
    by_cases h2 : c.fmod 3 = 2
    · simp only [h2, if_true]
      refine nx fun k kn' kr _ _ => ?_
      simp only [ya, yb, yc, yd, ye, yf, yg, yh, yi, yj, yk, yl, ym, yn, yo, yp, yq, yr, yt, yu, yv, yw, yx, yy, yz, yA, yB, yC, yD, yE, yF, yG, yH, yI, yJ, yK, yL, yM, yN, yO, yP, yQ, yR, yS, yT, yU, yV, yW, yX, yY, yZ, y0, y4, y5, y6, y7, y8, y9, Yb, Yc, Yd, Ye, Yg, Yh, Yi, Yj, Yk, Yl, Ym, Yn, Yo, String.reduceEq, if_true, if_false, reduceIte, ↓reduceIte, Yp, Yq, Yr, Ys, Yt, Yu, Yv, Yw, Yx, Yy, Yz, YA, YB, YC, YD, YE, YF, YG, YH, YI, YJ, YK, YL, YM, YN, YO, YP, YQ, YR, YS, YT, YU, YV, YW, Option.map_some, Option.bind_some, List.map_cons, List.map_nil, List.getElem?_cons_zero, List.getElem?_cons_succ, decide_eq_true_eq, List.length_cons, List.length_nil, Nat.reduceAdd, ne_eq, true_and, and_true, not_false_eq_true, not_true_eq_false, Int.reduceEq, Int.reduceNeg, Int.reduceAdd, Int.reduceLT, Int.reduceLE, reduceCtorEq, or_false, false_or, or_true, decide_true, decide_false, Bool.not_true, Bool.not_false, Bool.false_eq_true, Bool.true_eq_false, YX, YY, YZ, Y0, Y1, Y2, Y3, Y4]
      simp only [bi_tuple]
      have h16 : (Ts.map lV).length ≤ 16 := by simp; omega
      refine ⟨bd_small (Nat.le_trans (slice_len _ _ _) h16) rfl, bd_small (Nat.le_refl _) rfl, bd_small (Nat.le_refl _) rfl, bd_small (bd_app h16 (Nat.le_refl _)) rfl, by omega, bd_small (Nat.le_refl _) rfl, bd_small (Nat.le_refl _) rfl, kn' _ _ ?_⟩
      refine nx fun k kn' kr _ _ => ?_
      simp only [ya, yb, yc, yd, ye, yf, yg, yh, yi, yj, yk, yl, ym, yn, yo, yp, yq, yr, yt, yu, yv, yw, yx, yy, yz, yA, yB, yC, yD, yE, yF, yG, yH, yI, yJ, yK, yL, yM, yN, yO, yP, yQ, yR, yS, yT, yU, yV, yW, yX, yY, yZ, y0, y4, y5, y6, y7, y8, y9, Yb, Yc, Yd, Ye, Yg, Yh, Yi, Yj, Yk, Yl, Ym, Yn, Yo, String.reduceEq, if_true, if_false, reduceIte, ↓reduceIte, Yp, Yq, Yr, Ys, Yt, Yu, Yv, Yw, Yx, Yy, Yz, YA, YB, YC, YD, YE, YF, YG, YH, YI, YJ, YK, YL, YM, YN, YO, YP, YQ, YR, YS, YT, YU, YV, YW, Option.map_some, Option.bind_some, List.map_cons, List.map_nil, List.getElem?_cons_zero, List.getElem?_cons_succ, decide_eq_true_eq, List.length_cons, List.length_nil, Nat.reduceAdd, ne_eq, true_and, and_true, not_false_eq_true, not_true_eq_false, Int.reduceEq, Int.reduceNeg, Int.reduceAdd, Int.reduceLT, Int.reduceLE, reduceCtorEq, or_false, false_or, or_true, decide_true, decide_false, Bool.not_true, Bool.not_false, Bool.false_eq_true, Bool.true_eq_false, YX, YY, YZ, Y0, Y1, Y2, Y3, Y4]
      refine ⟨by decide, ?_⟩
      obtain ⟨x, hx, hit⟩ := item_mod (σ := σ₃) (xs := [V.list (sliceV (Ts.map lV) Option.none (some (-1))), .list (Ts.map lV ++ [.list []]), .tup (Ts.map lV), .none, .str "turns", .int 7, .edict, .list [], .bool true]) (c := c.fdiv 3) (Nat.zero_lt_succ _)
      have hit' : itemSem σ₃ (.v (.list [V.list (sliceV (Ts.map lV) Option.none (some (-1))), .list (Ts.map lV ++ [.list []]), .tup (Ts.map lV), .none, .str "turns", .int 7, .edict, .list [], .bool true])) (iv ((c.fdiv 3).fmod 9)) = some (.v x) := hit
      rw [hit']
      refine kn' _ _ (kn _ _ ?_)
      exact law_end hC hn hn' G hT (hodd x hx) hl rfl rfl rfl h
    · simp only [h2, if_false]
      refine kn _ _ ?_
      refine law_end hC hn hn' G hT (tame_list (fun x hx => ?_) (by simp; omega)) hl rfl rfl rfl h
      obtain ⟨T, hT', rfl⟩ := List.mem_map.mp hx
      have := hl T hT'
      exact odd_row (by omega)
end

theorem law_ok (ns : List Int) : ∀ C : CallSem, Closed C tab → C "law" [.v (.list (ns.map V.int))] [] (fun a _ => a = .v (.bool true)) (fun _ _ => False) :=
  fun _ hC => law_run hC fun _ => rfl
end Fl

/-! Level 2: how the abstract machine's states lie in the model's heap (own work) -/
namespace Fl
open PySem

/-- what is fixed for one claim: the program, the world, the heap at the call, the text's classes and functions -/
structure Bs where
  prog : Program
  w : World
  h0 : Heap
  cls : String → Option Addr
  fn : String → Option Addr
  K : List (Addr × Obj)
  xc : String → Option Addr

abbrev Zm := Addr → Option Obj
abbrev Led := List (Addr × Obj)

noncomputable def listObj (items : List Value) (n : Nat) : Obj := ⟨.type "list", none, .seq items.toArray n, #[]⟩
noncomputable def tupObj (items : List Value) (n : Nat) : Obj := ⟨.type "tuple", none, .seq items.toArray n, #[]⟩
noncomputable def dictObj (es : List DictEntry) (n : Nat) : Obj := ⟨.type "dict", none, .dict es.toArray n, #[]⟩
noncomputable def instO (C d : Addr) : Obj := ⟨.ref C, some d, .plain, #[]⟩
noncomputable def rangeObj (lo hi st : Int) (t u v : Tok) : Obj := ⟨.type "range", none, .fields #[.int lo t, .int hi u, .int st v], #[]⟩

mutual
noncomputable def RepV (B : Bs) (Z : Zm) : V → Value → Prop
  | .none, v => v = .none
  | .bool b, v => v = .bool b
  | .int i, v => ∃ t, v = .int i t
  | .tup xs, v => ∃ a items n, v = .ref a ∧ Z a = some (tupObj items n) ∧ xs.length < 2 ^ 21 ∧ RepL B Z xs items
  | .list xs, v => ∃ a items n, v = .ref a ∧ Z a = some (listObj items n) ∧ xs.length < 2 ^ 21 ∧ RepL B Z xs items
  | .obj c fs, v => ∃ a C d es n o, v = .ref a ∧ B.cls c = some C ∧ Z a = some (instO C d) ∧ Z d = some o ∧ o = dictObj es n ∧
      (∃ ts : List Tok, es.map (·.key) = List.zipWith (fun x t => Value.str (Str.ofString x) t) (fieldNames c) ts ∧ ts.length = (fieldNames c).length) ∧ RepL B Z fs (es.map (·.val))
  | .range lo hi, v => ∃ a t u w, v = .ref a ∧ Z a = some (rangeObj lo hi 1 t u w) ∧ -(2 ^ 20) < lo ∧ lo < 2 ^ 20 ∧ -(2 ^ 20) < hi ∧ hi < 2 ^ 20
  | .str s, v => ∃ t, v = .str (Str.ofString s) t
  | .edict, v => ∃ a n, v = .ref a ∧ Z a = some (dictObj [] n) ∧ (a == sysModules) = false
  | .exc c, v => ∃ a oe C, v = .ref a ∧ B.xc c = some C ∧ Z a = some oe ∧ oe.cls = .ref C
noncomputable def RepL (B : Bs) (Z : Zm) : List V → List Value → Prop
  | [], vs => vs = []
  | x :: xs, vs => ∃ v r, vs = v :: r ∧ RepV B Z x v ∧ RepL B Z xs r
end

theorem RepL_0 (B Z vs) : RepL B Z [] vs = (vs = []) := rfl
theorem RepL_1 (B Z x xs vs) : RepL B Z (x :: xs) vs = ∃ v r, vs = v :: r ∧ RepV B Z x v ∧ RepL B Z xs r := rfl

noncomputable def RepA (B : Bs) (Z : Zm) (ρ : List Addr) : A → Value → Prop
  | .v x, v => RepV B Z x v
  | .ref i, v => ∃ a, ρ[i]? = some a ∧ v = .ref a
  | .inst c i, v => ∃ a C d, v = .ref a ∧ B.cls c = some C ∧ ρ[i]? = some d ∧ Z a = some (instO C d)

noncomputable def RepAs (B : Bs) (Z : Zm) (ρ : List Addr) : List A → List Value → Prop
  | [], vs => vs = []
  | x :: xs, vs => ∃ v r, vs = v :: r ∧ RepA B Z ρ x v ∧ RepAs B Z ρ xs r

theorem RepAs_0 (B Z ρ vs) : RepAs B Z ρ [] vs = (vs = []) := rfl
theorem RepAs_1 (B Z ρ x xs vs) : RepAs B Z ρ (x :: xs) vs = ∃ v r, vs = v :: r ∧ RepA B Z ρ x v ∧ RepAs B Z ρ xs r := rfl

/-- a pair as a key -/
noncomputable def kL (p : Int × Int) : List Int := [p.1, p.2]
noncomputable def PairAt (Z : Zm) (k : List Int) (a : Addr) : Prop := ∃ i j t u n, k = [i, j] ∧ Z a = some (tupObj [.int i t, .int j u] n)
inductive KeysRep (B : Bs) (Z : Zm) (ks : List (Int × Int)) : Obj → Prop
  | mk (xs : List (List Int × Addr × Value)) (ep : Nat) (h1 : xs.map (·.1) = ks.map kL) (h2 : (xs.map (·.1)).Nodup) (h3 : ∀ x ∈ xs, PairAt Z x.1 x.2.1) (h4 : ks.length < 2 ^ 21) : KeysRep B Z ks (dictObj (xs.map (entryOfKey (tupleKind (intKind B.prog B.w)))) ep)

noncomputable def RepO (B : Bs) (Z : Zm) (ρ : List Addr) : O → Obj → Prop
  | .list xs, o => ∃ items n, o = listObj items n ∧ xs.length < 2 ^ 21 ∧ RepL B Z xs items
  | .refs is, o => ∃ items n, o = listObj items n ∧ is.length < 2 ^ 21 ∧ RepAs B Z ρ (is.map A.ref) items
  | .keys ks, o => KeysRep B Z ks o
  | .fields fs, o => ∃ es n, o = dictObj es n ∧
      (∃ ts : List Tok, es.map (·.key) = List.zipWith (fun x t => Value.str (Str.ofString x) t) (fs.map (·.1)) ts ∧ ts.length = fs.length) ∧ RepL B Z (fs.map (·.2)) (es.map (·.val))
  | .dead, _ => True

/-- what is frozen stays frozen -/
noncomputable def Ext (Z Z' : Zm) : Prop := ∀ a o, Z a = some o → Z' a = some o
theorem Ext.refl (Z : Zm) : Ext Z Z := fun _ _ h => h
theorem Ext.trans {Z Z' Z'' : Zm} (h : Ext Z Z') (h' : Ext Z' Z'') : Ext Z Z'' := fun a o e => h' a o (h a o e)

mutual
theorem RepV.mono {B : Bs} {Z Z' : Zm} (hz : Ext Z Z') : ∀ {x : V} {v : Value}, RepV B Z x v → RepV B Z' x v
  | .none, _, h => h
  | .bool _, _, h => h
  | .int _, _, h => h
  | .tup xs, _, h => Exists.imp (fun a => Exists.imp fun items => Exists.imp fun n => And.imp_right (And.imp (hz _ _) (And.imp_right (RepL.mono hz)))) h
  | .list xs, _, h => Exists.imp (fun a => Exists.imp fun items => Exists.imp fun n => And.imp_right (And.imp (hz _ _) (And.imp_right (RepL.mono hz)))) h
  | .obj c fs, _, h => Exists.imp (fun a => Exists.imp fun C => Exists.imp fun d => Exists.imp fun es => Exists.imp fun n => Exists.imp fun o => And.imp_right (And.imp_right (And.imp (hz _ _) (And.imp (hz _ _) (And.imp_right (And.imp_right (RepL.mono hz))))))) h
  | .range lo hi, _, h => Exists.imp (fun a => Exists.imp fun t => Exists.imp fun u => Exists.imp fun w => And.imp_right (And.imp_left (hz _ _))) h
  | .str _, _, h => h
  | .edict, _, h => Exists.imp (fun a => Exists.imp fun n => And.imp_right (And.imp_left (hz _ _))) h
  | .exc _, _, h => Exists.imp (fun a => Exists.imp fun oe => Exists.imp fun C => And.imp_right (And.imp_right (And.imp_left (hz _ _)))) h
theorem RepL.mono {B : Bs} {Z Z' : Zm} (hz : Ext Z Z') : ∀ {xs : List V} {vs : List Value}, RepL B Z xs vs → RepL B Z' xs vs
  | [], _, h => h
  | x :: xs, _, h => Exists.imp (fun v => Exists.imp fun r => And.imp_right (And.imp (RepV.mono hz) (RepL.mono hz))) h
end

theorem pre_get {ρ ρ' : List Addr} (h : ρ <+: ρ') {i : Nat} {a : Addr} (e : ρ[i]? = some a) : ρ'[i]? = some a := by
  obtain ⟨t, rfl⟩ := h
  have := (List.getElem?_eq_some_iff.mp e).1
  rw [List.getElem?_append_left this]; exact e

theorem RepA.mono {B : Bs} {Z Z' : Zm} {ρ ρ' : List Addr} (hz : Ext Z Z') (hr : ρ <+: ρ') {x : A} {v : Value} (h : RepA B Z ρ x v) : RepA B Z' ρ' x v := by
  cases x with
  | v x => exact RepV.mono hz h
  | ref i => obtain ⟨a, e, h⟩ := h; exact ⟨a, pre_get hr e, h⟩
  | inst c i => obtain ⟨a, C, d, e, hc, h1, h2⟩ := h; exact ⟨a, C, d, e, hc, pre_get hr h1, hz _ _ h2⟩
theorem RepAs.mono {B : Bs} {Z Z' : Zm} {ρ ρ' : List Addr} (hz : Ext Z Z') (hr : ρ <+: ρ') : ∀ {xs : List A} {vs : List Value}, RepAs B Z ρ xs vs → RepAs B Z' ρ' xs vs
  | [], _, h => h
  | _ :: _, _, ⟨v, r, e, h1, h2⟩ => ⟨v, r, e, h1.mono hz hr, RepAs.mono hz hr h2⟩
theorem RepO.mono {B : Bs} {Z Z' : Zm} {ρ ρ' : List Addr} (hz : Ext Z Z') (hr : ρ <+: ρ') {x : O} {o : Obj} (h : RepO B Z ρ x o) : RepO B Z' ρ' x o := by
  cases x with
  | list xs => exact Exists.imp (fun _ => Exists.imp fun _ => And.imp_right (And.imp_right (RepL.mono hz))) h
  | refs is => exact Exists.imp (fun _ => Exists.imp fun _ => And.imp_right (And.imp_right (RepAs.mono hz hr))) h
  | keys ks =>
    obtain ⟨xs, ep, h1, h2, h3, h4⟩ := h
    exact ⟨xs, ep, h1, h2, fun x hx => Exists.imp (fun _ => Exists.imp fun _ => Exists.imp fun _ => Exists.imp fun _ => Exists.imp fun _ => And.imp_right (hz _ _)) (h3 x hx), h4⟩
  | fields fs => exact Exists.imp (fun _ => Exists.imp fun _ => And.imp_right (And.imp_right (RepL.mono hz))) h
  | dead => trivial

/-- a namespace: the one kind of object whose slots may change behind our back (when something is raised) -/
noncomputable def isNs (o : Obj) : Bool := match o.data with
  | .dict _ _ => true
  | _ => false
noncomputable def Lies (h : Heap) (p : Addr × Obj) : Prop := (∃ sl, h.get? p.1 = some { p.2 with slots := sl }) ∧ (isNs p.2 = false → h.get? p.1 = some p.2)
theorem Lies.of {h : Heap} {a : Addr} {o : Obj} (hg : h.get? a = some o) : Lies h (a, o) := ⟨⟨o.slots, hg⟩, fun _ => hg⟩
theorem Lies.keeps {h h' : Heap} {p : Addr × Obj} (l : Lies h p) (hk : ∀ o, h.get? p.1 = some o → h'.get? p.1 = some o) : Lies h' p := ⟨let ⟨sl, e⟩ := l.1; ⟨sl, hk _ e⟩, fun e => hk _ (l.2 e)⟩
theorem Lies.lt {h : Heap} {p : Addr × Obj} (l : Lies h p) : p.1 < h.objs.size := let ⟨_, e⟩ := l.1; Heap.lt_size e
theorem isNs_fields {o : Obj} {vs : Array Value} (h : o.data = .fields vs) : isNs o = false := by unfold isNs; rw [h]
theorem isNs_cell {o : Obj} {v : Option Value} (h : o.data = .cell v) : isNs o = false := by unfold isNs; rw [h]

structure Inv (B : Bs) (Z : Zm) (N : Led) (ρ : List Addr) (σ : H) (h : Heap) : Prop where
  base : ∀ a o, B.h0.get? a = some o → Z a = some o
  zin : ∀ a o, Z a = some o → h.get? a = some o
  led : ∀ p ∈ N, Lies h p ∧ Z p.1 = none
  len : ρ.length = σ.length
  live : ∀ (i : Nat) (a : Addr) (ob : O), ρ[i]? = some a → σ[i]? = some ob → ob ≠ O.dead → Z a = none ∧ ∃ o, h.get? a = some o ∧ RepO B Z ρ ob o
  rin : ∀ a ∈ ρ, ∃ o, h.get? a = some o
  nd : (N.map (·.1) ++ ρ).Nodup

namespace Inv
variable {B : Bs} {Z : Zm} {N : Led} {ρ : List Addr} {σ : H} {h : Heap}

theorem keep (I : Inv B Z N ρ σ h) : ∀ a o, B.h0.get? a = some o → h.get? a = some o := fun a o e => I.zin a o (I.base a o e)
theorem led_lt (I : Inv B Z N ρ σ h) {p} (hp : p ∈ N) : p.1 < h.objs.size := (I.led p hp).1.lt
theorem z_lt (I : Inv B Z N ρ σ h) {a o} (e : Z a = some o) : a < h.objs.size := Heap.lt_size (I.zin a o e)
theorem rlt (I : Inv B Z N ρ σ h) : ∀ a ∈ ρ, a < h.objs.size := fun a ha => let ⟨_, e⟩ := I.rin a ha; Heap.lt_size e
theorem rho_lt (I : Inv B Z N ρ σ h) {i : Nat} {a : Addr} (e : ρ[i]? = some a) : a < h.objs.size := I.rlt a (List.mem_of_getElem? e)

theorem push (I : Inv B Z N ρ σ h) (o : Obj) (hf : o.isFreed = false) : Inv B Z ((h.objs.size, o) :: N) ρ σ (h.push o) where
  base := I.base
  zin := fun a o' e => Heap.get?_push_of_some _ (I.zin a o' e)
  led := fun p hp => by
    rcases List.mem_cons.mp hp with rfl | hp
    · refine ⟨.of (Heap.get?_push_size _ hf), ?_⟩
      cases hz : Z h.objs.size with
      | none => rfl
      | some o' => exact absurd (I.z_lt hz) (Nat.lt_irrefl _)
    · exact ⟨(I.led p hp).1.keeps fun _ e => Heap.get?_push_of_some _ e, (I.led p hp).2⟩
  len := I.len
  live := fun i a ob e1 e2 e3 => let ⟨h1, o', h2, h3⟩ := I.live i a ob e1 e2 e3; ⟨h1, o', Heap.get?_push_of_some _ h2, h3⟩
  rin := fun a ha => let ⟨o', e⟩ := I.rin a ha; ⟨o', Heap.get?_push_of_some _ e⟩
  nd := by
    rw [List.map_cons, List.cons_append, List.nodup_cons]
    refine ⟨fun hm => ?_, I.nd⟩
    rcases List.mem_append.mp hm with hm | hm
    · obtain ⟨p, hp, e⟩ := List.mem_map.mp hm
      have := I.led_lt hp
      rw [e] at this; exact Nat.lt_irrefl _ this
    · exact Nat.lt_irrefl _ (I.rlt _ hm)

theorem drop {p} (I : Inv B Z (p :: N) ρ σ h) : Inv B Z N ρ σ h where
  base := I.base
  zin := I.zin
  led := fun q hq => I.led q (List.mem_cons_of_mem _ hq)
  len := I.len
  live := I.live
  rin := I.rin
  nd := by have := I.nd; rw [List.map_cons, List.cons_append, List.nodup_cons] at this; exact this.2

/-- a part of the ledger, in another order -/
theorem sub {N' : Led} (I : Inv B Z N ρ σ h) (hs : N'.Sublist N) : Inv B Z N' ρ σ h where
  base := I.base
  zin := I.zin
  led := fun q hq => I.led q (hs.subset hq)
  len := I.len
  live := I.live
  rin := I.rin
  nd := (List.Sublist.append (hs.map _) (List.Sublist.refl _)).nodup I.nd
theorem perm {N' : Led} (I : Inv B Z N ρ σ h) (hs : N'.Perm N) : Inv B Z N' ρ σ h where
  base := I.base
  zin := I.zin
  led := fun q hq => I.led q (hs.mem_iff.mp hq)
  len := I.len
  live := I.live
  rin := I.rin
  nd := ((hs.map (·.1)).append_right ρ).nodup_iff.mpr I.nd

noncomputable def zset (Z : Zm) (a : Addr) (o : Obj) : Zm := fun b => if b = a then some o else Z b
theorem ext_zset {a : Addr} {o : Obj} (hz : Z a = none) : Ext Z (zset Z a o) := fun b o' e => by
  unfold zset
  rw [if_neg]; · exact e
  rintro rfl; rw [hz] at e; cases e

theorem freezeX {a : Addr} {o : Obj} (I : Inv B Z ((a, o) :: N) ρ σ h) (hg : h.get? a = some o) : Inv B (zset Z a o) N ρ σ h where
  base := fun b o' e => ext_zset (I.led _ (List.mem_cons_self)).2 _ _ (I.base b o' e)
  zin := fun b o' e => by
    unfold zset at e
    split at e
    · rename_i q; cases e; rw [q]; exact hg
    · exact I.zin b o' e
  led := fun p hp => by
    refine ⟨(I.led p (List.mem_cons_of_mem _ hp)).1, ?_⟩
    unfold zset
    rw [if_neg]
    · exact (I.led p (List.mem_cons_of_mem _ hp)).2
    · intro e
      have := I.nd
      rw [List.map_cons, List.cons_append, List.nodup_cons] at this
      exact this.1 (List.mem_append_left _ (List.mem_map.mpr ⟨p, hp, e⟩))
  len := I.len
  live := fun i b ob e1 e2 e3 => by
    obtain ⟨h1, o', h2, h3⟩ := I.live i b ob e1 e2 e3
    refine ⟨?_, o', h2, h3.mono (ext_zset (I.led _ (List.mem_cons_self)).2) (List.prefix_refl _)⟩
    unfold zset
    rw [if_neg]
    · exact h1
    · rintro rfl
      have := I.nd
      rw [List.map_cons, List.cons_append, List.nodup_cons] at this
      exact this.1 (List.mem_append_right _ (List.mem_of_getElem? e1))
  rin := I.rin
  nd := I.drop.nd

theorem freeze {a : Addr} {o : Obj} (I : Inv B Z ((a, o) :: N) ρ σ h) (hn : isNs o = false := by rfl) : Inv B (zset Z a o) N ρ σ h := I.freezeX ((I.led _ (List.mem_cons_self)).1.2 hn)
theorem freeze_ext {a : Addr} {o : Obj} (I : Inv B Z ((a, o) :: N) ρ σ h) : Ext Z (zset Z a o) := ext_zset (I.led _ (List.mem_cons_self)).2

theorem newRefX {a : Addr} {o : Obj} {ob : O} (I : Inv B Z ((a, o) :: N) ρ σ h) (hr : RepO B Z ρ ob o) (hg : h.get? a = some o) : Inv B Z N (ρ ++ [a]) (σ ++ [ob]) h where
  base := I.base
  zin := I.zin
  led := fun p hp => I.led p (List.mem_cons_of_mem _ hp)
  len := by simp [I.len]
  live := fun i b ob' e1 e2 e3 => by
    by_cases hi : i < ρ.length
    · rw [List.getElem?_append_left hi] at e1
      rw [List.getElem?_append_left (by rw [← I.len]; exact hi)] at e2
      obtain ⟨h1, o', h2, h3⟩ := I.live i b ob' e1 e2 e3
      exact ⟨h1, o', h2, h3.mono (Ext.refl _) (List.prefix_append _ _)⟩
    · have hi' : i = ρ.length := by
        have := (List.getElem?_eq_some_iff.mp e1).1
        simp at this; omega
      subst hi'
      rw [List.getElem?_concat_length] at e1
      rw [I.len, List.getElem?_concat_length] at e2
      cases e1; cases e2
      exact ⟨(I.led _ (List.mem_cons_self)).2, o, hg, hr.mono (Ext.refl _) (List.prefix_append _ _)⟩
  rin := fun b hb => by
    rcases List.mem_append.mp hb with hb | hb
    · exact I.rin b hb
    · rw [List.mem_singleton.mp hb]; exact ⟨_, hg⟩
  nd := by
    have := I.nd
    rw [List.map_cons, List.cons_append] at this
    rw [← List.append_assoc]
    exact (List.perm_append_singleton _ _).nodup_iff.mpr this

theorem newRef {a : Addr} {o : Obj} {ob : O} (I : Inv B Z ((a, o) :: N) ρ σ h) (hr : RepO B Z ρ ob o) (hn : isNs o = false := by rfl) : Inv B Z N (ρ ++ [a]) (σ ++ [ob]) h := I.newRefX hr ((I.led _ (List.mem_cons_self)).1.2 hn)

/-- an abstract object frozen -/
theorem frz {i : Nat} {a : Addr} {ob : O} {o : Obj} (I : Inv B Z N ρ σ h) (e1 : ρ[i]? = some a) (e2 : σ[i]? = some ob) (e3 : ob ≠ O.dead) (ho : h.get? a = some o) :
    Inv B (zset Z a o) N ρ (σ.set i .dead) h where
  base := fun b o' e => ext_zset (I.live i a ob e1 e2 e3).1 _ _ (I.base b o' e)
  zin := fun b o' e => by
    unfold zset at e
    split at e
    · rename_i q; cases e; rw [q]; exact ho
    · exact I.zin b o' e
  led := fun p hp => by
    refine ⟨(I.led p hp).1, ?_⟩
    unfold zset
    rw [if_neg]
    · exact (I.led p hp).2
    · intro e
      have := I.nd
      rw [List.nodup_append] at this
      exact this.2.2 _ (List.mem_map.mpr ⟨p, hp, rfl⟩) _ (List.mem_of_getElem? e1) e
  len := by simp [I.len]
  live := fun j b ob' e1' e2' e3' => by
    have hij : j ≠ i := by
      rintro rfl
      have hlt : j < σ.length := (List.getElem?_eq_some_iff.mp e2).1
      rw [List.getElem?_set_self hlt] at e2'
      cases e2'; exact e3' rfl
    rw [List.getElem?_set_ne (Ne.symm hij)] at e2'
    obtain ⟨h1, o', h2, h3⟩ := I.live j b ob' e1' e2' e3'
    refine ⟨?_, o', h2, h3.mono (ext_zset (I.live i a ob e1 e2 e3).1) (List.prefix_refl _)⟩
    unfold zset
    rw [if_neg]
    · exact h1
    · rintro rfl
      have := I.nd
      rw [List.nodup_append] at this
      have hlt := (List.getElem?_eq_some_iff.mp e1).1
      exact hij ((List.getElem?_inj (List.getElem?_eq_some_iff.mp e1').1 this.2.1).mp (e1'.trans e1.symm))
  rin := I.rin
  nd := I.nd
theorem frz_ext {i : Nat} {a : Addr} {ob : O} {o : Obj} (I : Inv B Z N ρ σ h) (e1 : ρ[i]? = some a) (e2 : σ[i]? = some ob) (e3 : ob ≠ O.dead) : Ext Z (zset Z a o) := ext_zset (I.live i a ob e1 e2 e3).1

/-- an abstract object changed -/
theorem updRef {i : Nat} {a : Addr} {ob ob' : O} {o : Obj} {h' : Heap} (I : Inv B Z N ρ σ h) (e1 : ρ[i]? = some a) (e2 : σ[i]? = some ob) (e3 : ob ≠ O.dead)
    (hs : Heap.SameBut a h h') (ho : h'.get? a = some o) (hr : RepO B Z ρ ob' o) : Inv B Z N ρ (σ.set i ob') h' where
  base := I.base
  zin := fun b o' e => by
    have hne : b ≠ a := by rintro rfl; have := (I.live i b ob e1 e2 e3).1; rw [this] at e; cases e
    rw [hs.2 b hne]; exact I.zin b o' e
  led := fun p hp => by
    have hne : p.1 ≠ a := by
      intro e
      have := I.nd
      rw [List.nodup_append] at this
      exact this.2.2 _ (List.mem_map.mpr ⟨p, hp, rfl⟩) _ (List.mem_of_getElem? e1) e
    exact ⟨(I.led p hp).1.keeps fun _ e => (hs.2 _ hne).trans e, (I.led p hp).2⟩
  len := by simp [I.len]
  live := fun j b obj e1' e2' e3' => by
    by_cases hij : j = i
    · subst hij
      have hlt : j < σ.length := (List.getElem?_eq_some_iff.mp e2).1
      rw [List.getElem?_set_self hlt] at e2'
      cases e2'
      rw [e1] at e1'; cases e1'
      exact ⟨(I.live j a ob e1 e2 e3).1, o, ho, hr⟩
    · rw [List.getElem?_set_ne (Ne.symm hij)] at e2'
      obtain ⟨h1, o', h2, h3⟩ := I.live j b obj e1' e2' e3'
      have hne : b ≠ a := by
        rintro rfl
        have := I.nd
        rw [List.nodup_append] at this
        exact hij ((List.getElem?_inj (List.getElem?_eq_some_iff.mp e1').1 this.2.1).mp (e1'.trans e1.symm))
      exact ⟨h1, o', (hs.2 b hne).trans h2, h3⟩
  rin := fun b hb => by
    by_cases hba : b = a
    · rw [hba]; exact ⟨o, ho⟩
    · obtain ⟨o', e⟩ := I.rin b hb; exact ⟨o', (hs.2 b hba).trans e⟩
  nd := I.nd

/-- an entry of the ledger changed -/
theorem updLed {a : Addr} {o o' : Obj} {h' : Heap} (I : Inv B Z ((a, o) :: N) ρ σ h) (hs : Heap.SameBut a h h') (ho : h'.get? a = some o') : Inv B Z ((a, o') :: N) ρ σ h' where
  base := I.base
  zin := fun b o'' e => by
    have hne : b ≠ a := by rintro rfl; have := (I.led _ (List.mem_cons_self)).2; rw [this] at e; cases e
    rw [hs.2 b hne]; exact I.zin b o'' e
  led := fun p hp => by
    rcases List.mem_cons.mp hp with rfl | hp
    · exact ⟨.of ho, (I.led _ (List.mem_cons_self)).2⟩
    · have hne : p.1 ≠ a := by
        intro e
        have := I.nd
        rw [List.map_cons, List.cons_append, List.nodup_cons] at this
        exact this.1 (List.mem_append_left _ (List.mem_map.mpr ⟨p, hp, e⟩))
      exact ⟨(I.led p (List.mem_cons_of_mem _ hp)).1.keeps fun _ e => (hs.2 _ hne).trans e, (I.led p (List.mem_cons_of_mem _ hp)).2⟩
  len := I.len
  live := fun j b obj e1' e2' e3' => by
    obtain ⟨h1, o'', h2, h3⟩ := I.live j b obj e1' e2' e3'
    have hne : b ≠ a := by
      rintro rfl
      have := I.nd
      rw [List.map_cons, List.cons_append, List.nodup_cons] at this
      exact this.1 (List.mem_append_right _ (List.mem_of_getElem? e1'))
    exact ⟨h1, o'', (hs.2 b hne).trans h2, h3⟩
  rin := fun b hb => by
    by_cases hba : b = a
    · rw [hba]; exact ⟨o', ho⟩
    · obtain ⟨o'', e⟩ := I.rin b hb; exact ⟨o'', (hs.2 b hba).trans e⟩
  nd := I.nd

/-- a heap that has kept all -/
theorem keeps {h' : Heap} (I : Inv B Z N ρ σ h) (hk : ∀ b o, h.get? b = some o → h'.get? b = some o) : Inv B Z N ρ σ h' where
  base := I.base
  zin := fun a o e => hk _ _ (I.zin a o e)
  led := fun p hp => ⟨(I.led p hp).1.keeps fun _ e => hk _ _ e, (I.led p hp).2⟩
  len := I.len
  live := fun i a ob e1 e2 e3 => let ⟨h1, o, h2, h3⟩ := I.live i a ob e1 e2 e3; ⟨h1, o, hk _ _ h2, h3⟩
  rin := fun a ha => let ⟨o, e⟩ := I.rin a ha; ⟨o, hk _ _ e⟩
  nd := I.nd

/-- a heap that has kept all, and an object that was not there -/
theorem keepsNew {h' : Heap} {a : Addr} {o : Obj} (I : Inv B Z N ρ σ h) (hk : ∀ b o, h.get? b = some o → h'.get? b = some o) (ha : h.objs.size ≤ a) (ho : h'.get? a = some o) : Inv B Z ((a, o) :: N) ρ σ h' where
  base := I.base
  zin := fun a o e => hk _ _ (I.zin a o e)
  led := fun p hp => by
    rcases List.mem_cons.mp hp with rfl | hp
    · refine ⟨.of ho, ?_⟩
      cases hz : Z a with
      | none => rfl
      | some o' => exact absurd (I.z_lt hz) (Nat.not_lt.mpr ha)
    · exact ⟨(I.led p hp).1.keeps fun _ e => hk _ _ e, (I.led p hp).2⟩
  len := I.len
  live := fun i a ob e1 e2 e3 => let ⟨h1, o, h2, h3⟩ := I.live i a ob e1 e2 e3; ⟨h1, o, hk _ _ h2, h3⟩
  rin := fun a ha => let ⟨o, e⟩ := I.rin a ha; ⟨o, hk _ _ e⟩
  nd := by
    rw [List.map_cons, List.cons_append, List.nodup_cons]
    refine ⟨fun hm => ?_, I.nd⟩
    rcases List.mem_append.mp hm with hm | hm
    · obtain ⟨p, hp, e⟩ := List.mem_map.mp hm
      have := I.led_lt hp
      rw [e] at this; exact absurd this (Nat.not_lt.mpr ha)
    · exact absurd (I.rlt _ hm) (Nat.not_lt.mpr ha)

theorem led_inj (I : Inv B Z N ρ σ h) {a : Addr} {o o' : Obj} (h1 : (a, o) ∈ N) (h2 : (a, o') ∈ N) : o = o' := by
  have hn : (N.map (·.1)).Nodup := (List.sublist_append_left _ _).nodup I.nd
  clear I
  induction N with
  | nil => cases h1
  | cons p N ih =>
    rw [List.map_cons, List.nodup_cons] at hn
    rcases List.mem_cons.mp h1 with e1 | g1
    · rcases List.mem_cons.mp h2 with e2 | g2
      · rw [← e1] at e2; cases e2; rfl
      · rw [← e1] at hn; exact (hn.1 (List.mem_map.mpr ⟨_, g2, rfl⟩)).elim
    · rcases List.mem_cons.mp h2 with e2 | g2
      · rw [← e2] at hn; exact (hn.1 (List.mem_map.mpr ⟨_, g1, rfl⟩)).elim
      · exact ih g1 g2 hn.2

end Inv
end Fl

namespace Fl
open PySem PyProof.Rows

/-- a name of the frame holds a value -/
noncomputable def NameHeld (env : Env) (N : Led) (x : Str) (v : Value) : Prop :=
  (env.kindOf x = some .local ∧ ∃ o es ep, (env.locals, o) ∈ N ∧ o.data = .dict es ep ∧ StrKeys es ∧ nsFind es x = some v) ∨
  ((env.kindOf x = some .cell ∨ env.kindOf x = some .free) ∧ ∃ c o, env.cells.lookup x = some c ∧ (c, o) ∈ N ∧ o.data = .cell (some v))

/-- names of the frame's own -/
noncomputable def ownK : Option NameKind → Bool
  | some .local => true
  | some .cell => true
  | some .free => true
  | _ => false

noncomputable def ownN (env : Env) (x : String) : Bool := ownK (env.kindOf (Str.ofString x)) && x != ".0"

structure Frm (B : Bs) (env : Env) (Z : Zm) (ρ : List Addr) (m : Loc) (N : Led) : Prop where
  kind : env.scope.kind = .function
  glob : env.globals = mainGlobals
  blt : env.builtins = builtinsNs
  rd : ∀ x a, m x = some a → ownN env x = true → ∃ v, RepA B Z ρ a v ∧ NameHeld env N (Str.ofString x) v
  loc : ∃ o es ep, (env.locals, o) ∈ N ∧ o.data = .dict es ep ∧ StrKeys es
  cel : ∀ x c, env.cells.lookup x = some c → ∃ o v, (c, o) ∈ N ∧ o.data = .cell v
  cok : ∀ x, env.kindOf x = some .cell ∨ env.kindOf x = some .free → ∃ c, env.cells.lookup x = some c
  cinj : ∀ x y c, env.cells.lookup x = some c → env.cells.lookup y = some c → x = y

theorem Frm.mono {B : Bs} {env : Env} {Z Z' : Zm} {ρ ρ' : List Addr} {m : Loc} {N : Led} (F : Frm B env Z ρ m N) (hz : Ext Z Z') (hr : ρ <+: ρ') : Frm B env Z' ρ' m N :=
  { F with rd := fun x a h hk => let ⟨v, h1, h2⟩ := F.rd x a h hk; ⟨v, h1.mono hz hr, h2⟩ }

/-- a global name's value -/
noncomputable def GName (B : Bs) (x : Str) (v : Value) : Prop :=
  ∃ mg mb, B.h0.Ns mainGlobals mg ∧ B.h0.Ns builtinsNs mb ∧ (mg x = some v ∨ (mg x = none ∧ mb x = some v))

/-- room for frames and C units -/
noncomputable def Room (A : Around) (r : Nat) : Prop := (r = 0 ∨ A.handled = none) ∧ A.depth + 4 * r + 4 ≤ 900 ∧ A.units + 30 * r + 233 ≤ cLine

noncomputable def Post (B : Bs) (Z : Zm) (N : Led) (ρ : List Addr) (s : Shared) (K : A → H → Prop) (Q : Value → Shared → Prop) : Prop :=
  ∀ a v Z' ρ' σ' h' tk, K a σ' → Ext Z Z' → ρ <+: ρ' → Inv B Z' N ρ' σ' h' → RepA B Z' ρ' a v → Q v { s with heap := h', toks := tk }

theorem Post.go {B : Bs} {Z Z' : Zm} {N : Led} {ρ ρ' : List Addr} {s : Shared} {K : A → H → Prop} {Q : Value → Shared → Prop} (P : Post B Z N ρ s K Q) (hz : Ext Z Z') (hr : ρ <+: ρ') (h' : Heap) (tk : Nat) :
    Post B Z' N ρ' { s with heap := h', toks := tk } K Q :=
  fun a v Z'' ρ'' σ'' h'' tk' hk hz' hr' I R => P a v Z'' ρ'' σ'' h'' tk' hk (hz.trans hz') (hr.trans hr') I R

/-- the frames around, each in the ledger -/
noncomputable def GoodF (N : Led) (f : Env) : Prop := f.scope.kind ≠ .module ∧ ∃ L o, f.frame = some L ∧ (L, o) ∈ N ∧ isNs o = true
noncomputable def FrsO (Ar : Around) (N : Led) : Prop := ∃ l, Ar.frames = some l ∧ ∀ f ∈ l, GoodF N f
/-- nothing is raised, and the frames lie well -/
noncomputable def Safe (Ar : Around) (N : Led) (X : String → H → Prop) : Prop := (∀ c σ, ¬ X c σ) ∧ FrsO Ar N
theorem GoodF.mem {N N' : Led} {f : Env} (g : GoodF N f) (h : ∀ p ∈ N, p ∈ N') : GoodF N' f := ⟨g.1, let ⟨L, o, e, m, n⟩ := g.2; ⟨L, o, e, h _ m, n⟩⟩
theorem FrsO.mem {Ar : Around} {N N' : Led} (g : FrsO Ar N) (h : ∀ p ∈ N, p ∈ N') : FrsO Ar N' := let ⟨l, e, m⟩ := g; ⟨l, e, fun f hf => (m f hf).mem h⟩
theorem Safe.mem {Ar : Around} {N N' : Led} {X : String → H → Prop} (g : Safe Ar N X) (h : ∀ p ∈ N, p ∈ N') : Safe Ar N' X := ⟨g.1, g.2.mem h⟩

/-- an expression that keeps to its meaning -/
noncomputable def EOk (B : Bs) (C : CallSem) (Ar : Around) (env : Env) (ir : E) (e : Expr) : Prop :=
  ∀ (Z : Zm) (N : Led) (ρ : List Addr) (σ : H) (m : Loc) (s : Shared) (K : A → H → Prop) (X : String → H → Prop) (Q : Value → Shared → Prop) (F : Value → Shared → Prop),
    Inv B Z N ρ σ s.heap → Frm B env Z ρ m N → Safe Ar N X → xE C ir m σ K X → Post B Z N ρ s K Q → wpAny (model B.prog B.w) Ar (eval e env) Q F s

section
variable {B : Bs} {C : CallSem} {Ar : Around} {env : Env} {F : Value → Shared → Prop}

theorem ld_name {Z N ρ σ m} {s : Shared} {x : String} {a : A} {pos : Pos} {Q : Value → Shared → Prop} (I : Inv B Z N ρ σ s.heap) (Fr : Frm B env Z ρ m N) (hm : m x = some a)
    (hd : (Str.ofString x == ("__debug__" : Str)) = false) (hc : (Str.ofString x == ("__classdict__" : Str)) = false) (hw : ownN env x = true)
    (h : ∀ v, RepA B Z ρ a v → Q v s) : wpAny (model B.prog B.w) Ar (eval (.Name (Str.ofString x) pos) env) Q F s := by
  obtain ⟨v, hr, hh⟩ := Fr.rd x a hm hw
  refine wpAny_Name ?_ hd
  rcases hh with ⟨hk, o, es, ep, hN, hD, hS, hF⟩ | ⟨hk, c, o, hl, hN, hD⟩
  · obtain ⟨sl, hg⟩ := (I.led _ hN).1.1
    exact wpAny_loadName_local Fr.kind hk ⟨_, es, ep, hg, hD, hS, fun _ => rfl⟩ hF (h v hr)
  · rcases hk with hk | hk
    · exact wpAny_loadName_cell Fr.kind hk hl ⟨o, (I.led _ hN).1.2 (isNs_cell hD), hD⟩ (h v hr)
    · exact wpAny_loadName_free Fr.kind hk hl ⟨o, (I.led _ hN).1.2 (isNs_cell hD), hD⟩ (h v hr) hc

theorem ld_glob {Z N ρ σ m} {s : Shared} {x : Str} {v : Value} {pos : Pos} {Q : Value → Shared → Prop} (I : Inv B Z N ρ σ s.heap) (Fr : Frm B env Z ρ m N) (hg : GName B x v)
    (hk : env.kindOf x = some .globalImplicit) (hd : (x == ("__debug__" : Str)) = false)
    (h : Q v s) : wpAny (model B.prog B.w) Ar (eval (.Name x pos) env) Q F s := by
  obtain ⟨mg, mb, h1, h2, h3⟩ := hg
  refine wpAny_Name ?_ hd
  unfold loadName
  have hb : env.blockKind = .function := by simp [Env.blockKind, Fr.kind, ScopeKind.isAnnotationScope]
  simp only [Fr.kind, hb, hk, ScopeKind.isAnnotationScope, Bool.false_and, Bool.false_eq_true, if_false]
  unfold loadGlobal
  rw [Fr.glob, Fr.blt]
  refine wpAny_bind (wpAny_nsGet (h1.keeps I.keep) ?_)
  rcases h3 with h3 | ⟨h3, h4⟩
  · rw [h3]; exact wpAny_pure h
  · rw [h3]
    refine wpAny_bind (wpAny_nsGet (h2.keeps I.keep) ?_)
    rw [h4]; exact wpAny_pure h

theorem eok_x {x : String} {pos : Pos} (hd : (Str.ofString x == ("__debug__" : Str)) = false) (hc : (Str.ofString x == ("__classdict__" : Str)) = false) (hw : ownN env x = true) :
    EOk B C Ar env (.x x) (.Name (Str.ofString x) pos) := by
  intro Z N ρ σ m s K X Q F I Fr hX hx P
  rw [yz] at hx
  cases hm : m x with
  | none => rw [hm] at hx; exact hx.elim
  | some a =>
    rw [hm] at hx
    exact ld_name I Fr hm hd hc hw fun v hr => P a v Z ρ σ _ _ hx (Ext.refl _) (List.prefix_refl _) I hr

theorem eok_int {i : Int} {k pos} : EOk B C Ar env (.c (.int i)) (.Constant (.int i) k pos) := by
  intro Z N ρ σ m s K X Q F I Fr hX hx P
  exact wpAny_Constant_int (P (.v (.int i)) _ Z ρ σ _ _ hx (Ext.refl _) (List.prefix_refl _) I ⟨_, rfl⟩)

theorem noPy_small {x y : Int} (h : y.natAbs < 2 ^ 40) : Builtin.divisionGoesByPylong x y = false := by
  refine PyProof.noPylong_of_log2 ?_
  by_cases h0 : y.natAbs = 0
  · rw [h0]; decide +kernel
  · have h30 : y.natAbs.log2 < 40 := (Nat.log2_lt h0).mpr h
    omega
theorem bits_small {a : Int} (h : a.natAbs < 2 ^ 40) : Builtin.Int.intBits a ≤ 64 := by
  unfold Builtin.Int.intBits
  split
  · omega
  · rename_i h0
    have hn : a.natAbs ≠ 0 := by
      intro e; apply h0; simp; omega
    have h30 : a.natAbs.log2 < 40 := (Nat.log2_lt hn).mpr h
    omega

theorem bin_ok {op : Op} {o : Operator} {a b : A} {va vb : Value} {Z N ρ σ} {s : Shared} {Kv : V → Prop} {Q : Value → Shared → Prop}
    (ho : o = (match op with | .add => .Add | .sub => .Sub | .mul => .Mult | .fdiv => .FloorDiv | .mod => .Mod | .pow => .Pow))
    (I : Inv B Z N ρ σ s.heap) (ha : RepA B Z ρ a va) (hb : RepA B Z ρ b vb) (h : binSem op a b Kv)
    (hQ : ∀ x v tk, Kv x → RepV B Z x v → Q v { s with toks := tk }) : wpAny (model B.prog B.w) Ar (binaryOp o va vb) Q F s := by
  subst ho
  obtain ⟨i, hi, h⟩ := get_of h
  obtain ⟨j, hj, h⟩ := get_of h
  rw [asI_of hi] at ha
  rw [asI_of hj] at hb
  obtain ⟨t, rfl⟩ := ha
  obtain ⟨u, rfl⟩ := hb
  cases op with
  | add => exact add_int (hQ _ _ _ h ⟨_, rfl⟩)
  | sub => exact sub_int (hQ _ _ _ h ⟨_, rfl⟩)
  | mul => exact mul_int (hQ _ _ _ h.2.2 ⟨_, rfl⟩) (.of_left (bits_small h.1))
  | fdiv => exact floordiv_int h.1 (hQ _ _ _ h.2.2 ⟨_, rfl⟩) (.inl (noPy_small h.2.1))
  | mod => exact mod_int' h.1 (hQ _ _ _ h.2 ⟨_, rfl⟩)
  | pow =>
    obtain ⟨rfl, rfl, h⟩ := h
    have e : (10 : Int) ^ (Int.toNat 12) = 1000000000000 := by decide +kernel
    refine pow_int (by decide) (by decide +kernel) ?_
    rw [e]
    exact hQ _ _ _ h ⟨_, rfl⟩

theorem eok_bin {op : Op} {o : Operator} {a b : E} {l r : Expr} {pos : Pos} (ho : o = (match op with | .add => .Add | .sub => .Sub | .mul => .Mult | .fdiv => .FloorDiv | .mod => .Mod | .pow => .Pow))
    (ha : EOk B C Ar env a l) (hb : EOk B C Ar env b r) : EOk B C Ar env (.bin op a b) (.BinOp l o r pos) := by
  intro Z N ρ σ m s K X Q F I Fr hX hx P
  rw [yB] at hx
  refine wpAny_BinOp (ha Z N ρ σ m s _ X _ F I Fr hX hx ?_)
  intro va v Z1 ρ1 σ1 h1 t1 hx1 e1 p1 I1 R1
  refine hb Z1 N ρ1 σ1 m _ _ X _ F I1 (Fr.mono e1 p1) hX hx1 ?_
  intro vb w Z2 ρ2 σ2 h2 t2 hx2 e2 p2 I2 R2
  refine bin_ok ho I2 (R1.mono e2 p2) R2 hx2 ?_
  intro x v' tk hk hr
  exact P _ _ _ _ _ _ _ hk (e1.trans e2) (p1.trans p2) I2 hr
end
end Fl

namespace Fl
open PySem PyProof.Rows

mutual
noncomputable def toP : V → PyData
  | .none => .none
  | .bool b => .bool b
  | .int i => .int i
  | .tup xs => .tuple (toPs xs)
  | .list xs => .list (toPs xs)
  | .str s => .str (Str.ofString s)
  | _ => .none
noncomputable def toPs : List V → List PyData
  | [] => []
  | x :: xs => toP x :: toPs xs
end
theorem toP_0 : toP .none = .none := rfl
theorem toP_1 (b) : toP (.bool b) = .bool b := rfl
theorem toP_2 (i) : toP (.int i) = .int i := rfl
theorem toP_4 (xs) : toP (.tup xs) = .tuple (toPs xs) := rfl
theorem toP_5 (xs) : toP (.list xs) = .list (toPs xs) := rfl
theorem toPs_0 : toPs [] = [] := rfl
theorem toPs_1 (x xs) : toPs (x :: xs) = toP x :: toPs xs := rfl

theorem toPs_map : ∀ xs : List V, toPs xs = xs.map toP
  | [] => by simp [toPs_0, toPs_1]
  | x :: xs => by simp [toPs_0, toPs_1, toPs_map xs]

theorem reads_repL {B : Bs} {Z : Zm} {h : Heap} {n : Nat} (ih : ∀ (x : V) (v : Value), eqOkN n x = true → RepV B Z x v → ∃ as, Reads h v (toP x) as) :
    ∀ (xs : List V) (vs : List Value), xs.all (eqOkN n) = true → RepL B Z xs vs → ∃ as, ReadsAll h vs (toPs xs) as
  | [], vs, _, hr => by simp only [RepL_0, RepL_1] at hr; subst hr; rw [toPs_0]; exact ⟨_, .nil⟩
  | x :: xs, vs, ho, hr => by
    simp only [RepL_0, RepL_1] at hr
    obtain ⟨v, r, rfl, h1, h2⟩ := hr
    simp only [List.all_cons, Bool.and_eq_true] at ho
    obtain ⟨as, ha⟩ := ih x v ho.1 h1
    obtain ⟨bs, hb⟩ := reads_repL ih xs r ho.2 h2
    rw [toPs_1]; exact ⟨_, .cons ha hb⟩

/-- what == is followed upon, by its kinds -/
inductive EqK : Nat → V → Prop
  | none (n) : EqK n .none
  | bool (n b) : EqK n (.bool b)
  | int (n i) : EqK n (.int i)
  | str (n s) : EqK n (.str s)
  | tup (n xs) : xs.all (eqOkN n) = true → EqK (n + 1) (.tup xs)
  | list (n xs) : xs.all (eqOkN n) = true → EqK (n + 1) (.list xs)
theorem noB {P : Prop} (h : false = true) : P := nomatch h
theorem eqK_flat {n : Nat} {x : V} (h : flatOk x = true) : EqK n x := by
  cases x with
  | none => exact .none n
  | bool b => exact .bool n b
  | int i => exact .int n i
  | str s => exact .str n s
  | _ => exact noB h
theorem eqK_of : ∀ {n : Nat} {x : V}, eqOkN n x = true → EqK n x
  | 0, _, h => eqK_flat h
  | n + 1, x, h => by
    cases x with
    | tup xs => exact .tup n xs h
    | list xs => exact .list n xs h
    | _ => exact eqK_flat h

theorem reads_rep {B : Bs} {Z : Zm} {h : Heap} (hz : ∀ a o, Z a = some o → h.get? a = some o) : ∀ (n : Nat) (x : V) (v : Value), eqOkN n x = true → RepV B Z x v → ∃ as, Reads h v (toP x) as := by
  intro n
  induction n with
  | zero =>
    intro x v ho hr
    cases eqK_of ho with
    | none => obtain rfl := hr; exact ⟨_, .none⟩
    | bool _ b => obtain rfl := hr; exact ⟨_, .bool b⟩
    | int _ i => obtain ⟨t, rfl⟩ := hr; exact ⟨_, .int i t⟩
    | str _ x => obtain ⟨t, rfl⟩ := hr; exact ⟨_, .str _ t⟩
  | succ n ih =>
    intro x v ho hr
    cases eqK_of ho with
    | none => obtain rfl := hr; exact ⟨_, .none⟩
    | bool _ b => obtain rfl := hr; exact ⟨_, .bool b⟩
    | int _ i => obtain ⟨t, rfl⟩ := hr; exact ⟨_, .int i t⟩
    | str _ x => obtain ⟨t, rfl⟩ := hr; exact ⟨_, .str _ t⟩
    | tup _ xs ho =>
      obtain ⟨a, items, k, rfl, hza, _, hl⟩ := hr
      obtain ⟨as, ha⟩ := reads_repL ih xs items ho hl
      exact ⟨_, .tuple (hz _ _ hza) rfl rfl ha⟩
    | list _ xs ho =>
      obtain ⟨a, items, k, rfl, hza, _, hl⟩ := hr
      obtain ⟨as, ha⟩ := reads_repL ih xs items ho hl
      exact ⟨_, .list (hz _ _ hza) rfl rfl ha⟩

theorem layL {n : Nat} (ih : ∀ (x : V), eqOkN n x = true → (toP x).canLay0 = true ∧ (toP x).depth ≤ n) :
    ∀ (xs : List V), xs.all (eqOkN n) = true → PyData.canLayAll0 (toPs xs) = true ∧ PyData.depthAll (toPs xs) ≤ n
  | [], _ => by simp [toPs_0, toPs_1, PyData.canLayAll0, PyData.depthAll]
  | x :: xs, ho => by
    simp only [List.all_cons, Bool.and_eq_true] at ho
    have h1 := ih x ho.1
    have h2 := layL ih xs ho.2
    simp only [toPs_0, toPs_1, PyData.canLayAll0, PyData.depthAll, h1.1, h2.1]
    exact ⟨rfl, by omega⟩
theorem known_lay {s : String} (h : knownS s = true) : (toP (.str s)).canLay0 = true := by
  have h : s ∈ ["", "web value", "point value", "turns value", "0", "01", "3", "turns"] := List.contains_iff_mem.mp h
  simp only [List.mem_cons, List.not_mem_nil, or_false] at h
  rcases h with rfl | rfl | rfl | rfl | rfl | rfl | rfl | rfl <;> decide +kernel
theorem lay : ∀ (n : Nat) (x : V), eqOkN n x = true → (toP x).canLay0 = true ∧ (toP x).depth ≤ n := by
  have fl : ∀ (n : Nat) (x : V), flatOk x = true → (toP x).canLay0 = true ∧ (toP x).depth ≤ n := by
    intro n x h
    cases x with
    | none => exact ⟨rfl, Nat.zero_le _⟩
    | bool b => exact ⟨rfl, Nat.zero_le _⟩
    | int i => exact ⟨rfl, Nat.zero_le _⟩
    | str s => exact ⟨known_lay h, Nat.zero_le _⟩
    | _ => exact noB h
  intro n
  induction n with
  | zero => intro x ho; exact fl 0 x ho
  | succ n ih =>
    intro x ho
    cases x with
    | tup xs =>
      have := layL ih xs ho
      exact ⟨this.1, Nat.succ_le_succ this.2⟩
    | list xs =>
      have := layL ih xs ho
      exact ⟨this.1, Nat.succ_le_succ this.2⟩
    | _ => exact fl _ _ ho

theorem eqvL {n k : Nat} (ih : ∀ (x y : V), eqOkN n x = true → eqOkN k y = true → PyData.eqv (toP x) (toP y) = peq x y) :
    ∀ (xs ys : List V), xs.all (eqOkN n) = true → ys.all (eqOkN k) = true → PyData.eqvAll (toPs xs) (toPs ys) = peqL xs ys
  | [], [], _, _ => rfl
  | [], _ :: _, _, _ => rfl
  | _ :: _, [], _, _ => rfl
  | x :: xs, y :: ys, h1, h2 => by
    simp only [List.all_cons, Bool.and_eq_true] at h1 h2
    show (PyData.eqv (toP x) (toP y) && PyData.eqvAll (toPs xs) (toPs ys)) = (peq x y && peqL xs ys)
    rw [ih x y h1.1 h2.1, eqvL ih xs ys h1.2 h2.2]
theorem strOf_inj {a b : String} (h : Str.ofString a = Str.ofString b) : a = b := by
  rw [Str.ofString_eq_toList, Str.ofString_eq_toList] at h
  have h1 : (a.toList.map Char.toNat).toArray = (b.toList.map Char.toNat).toArray := by injection h
  have h2 : a.toList.map Char.toNat = b.toList.map Char.toNat := by simpa using h1
  have h3 : a.toList = b.toList := by
    have inj : ∀ (x y : List Char), x.map Char.toNat = y.map Char.toNat → x = y := by
      intro x
      induction x with
      | nil => intro y h; cases y <;> simp at h ⊢
      | cons c cs ih =>
        intro y h
        cases y with
        | nil => simp at h
        | cons d ds =>
          simp only [List.map_cons, List.cons.injEq] at h
          have : c = d := by
            have h1 := h.1
            unfold Char.toNat at h1
            exact Char.ext (UInt32.toNat_inj.mp h1)
          rw [this, ih ds h.2]
    exact inj _ _ h2
  exact String.toList_inj.mp h3
theorem str_eqv (s t : String) : (Str.ofString s == Str.ofString t) = decide (s = t) := by
  cases h : Str.ofString s == Str.ofString t with
  | true => exact (decide_eq_true (strOf_inj (beq_iff_eq.mp h))).symm
  | false => exact (decide_eq_false fun e => by rw [e, beq_self_eq_true] at h; cases h).symm
theorem eqv_eq : ∀ (n k : Nat) (x y : V), eqOkN n x = true → eqOkN k y = true → PyData.eqv (toP x) (toP y) = peq x y := by
  intro n
  induction n with
  | zero =>
    intro k x y h1 h2
    have k2 := eqK_of h2
    cases eqK_of h1 with
    | none => cases k2 <;> rfl
    | bool _ b => cases k2 <;> first | rfl | (cases b <;> rfl) | (next c => cases b <;> cases c <;> rfl)
    | int _ i => cases k2 <;> first | rfl | (next c => cases c <;> rfl)
    | str _ x => cases k2 <;> first | rfl | exact str_eqv _ _
  | succ n ih =>
    intro k x y h1 h2
    have k2 := eqK_of h2
    cases eqK_of h1 with
    | none => cases k2 <;> rfl
    | bool _ b => cases k2 <;> first | rfl | (cases b <;> rfl) | (next c => cases b <;> cases c <;> rfl)
    | int _ i => cases k2 <;> first | rfl | (next c => cases c <;> rfl)
    | str _ x => cases k2 <;> first | rfl | exact str_eqv _ _
    | tup _ xs h1 => cases k2 <;> first | rfl | exact eqvL (ih _) _ _ h1 (by assumption)
    | list _ xs h1 => cases k2 <;> first | rfl | exact eqvL (ih _) _ _ h1 (by assumption)
end Fl

namespace Fl
open PySem PyProof.Rows

theorem repL_len {B : Bs} {Z : Zm} : ∀ {xs : List V} {vs : List Value}, RepL B Z xs vs → vs.length = xs.length
  | [], vs, h => by simp only [RepL_0, RepL_1] at h; subst h; rfl
  | x :: xs, vs, h => by
    simp only [RepL_0, RepL_1] at h
    obtain ⟨v, r, rfl, _, h2⟩ := h
    simp [repL_len h2]
theorem repL_get {B : Bs} {Z : Zm} : ∀ {xs : List V} {vs : List Value} {j : Nat} {x : V}, RepL B Z xs vs → xs[j]? = some x → ∃ v, vs[j]? = some v ∧ RepV B Z x v
  | [], vs, j, x, h, e => by simp at e
  | y :: xs, vs, j, x, h, e => by
    simp only [RepL_0, RepL_1] at h
    obtain ⟨v, r, rfl, h1, h2⟩ := h
    cases j with
    | zero => simp at e; subst e; exact ⟨v, rfl, h1⟩
    | succ j => simp only [List.getElem?_cons_succ] at e ⊢; exact repL_get h2 e
theorem repAs_len {B : Bs} {Z : Zm} {ρ : List Addr} : ∀ {xs : List A} {vs : List Value}, RepAs B Z ρ xs vs → vs.length = xs.length
  | [], vs, h => by simp only [RepAs_0, RepAs_1] at h; subst h; rfl
  | x :: xs, vs, h => by obtain ⟨v, r, rfl, _, h2⟩ := h; simp [repAs_len h2]
theorem repAs_at {B : Bs} {Z : Zm} {ρ : List Addr} {xs : List A} : ∀ {vs : List Value} {j : Nat} {x : A}, RepAs B Z ρ xs vs → xs[j]? = some x → ∃ v, vs[j]? = some v ∧ RepA B Z ρ x v := by
  induction xs with
  | nil => intro vs j x _ e; exact nons e
  | cons y ys ih =>
    intro vs j x h e
    obtain ⟨v, r, rfl, h1, h2⟩ := h
    cases j with
    | zero => cases e; exact ⟨v, rfl, h1⟩
    | succ j => exact ih (vs := r) (j := j) h2 e
theorem repAs_v {B : Bs} {Z : Zm} {ρ : List Addr} : ∀ {xs : List V} {vs : List Value}, RepL B Z xs vs → RepAs B Z ρ (xs.map A.v) vs
  | [], _, h => h
  | _ :: _, _, ⟨v, r, e, h1, h2⟩ => ⟨v, r, e, h1, repAs_v h2⟩
theorem oA_rep {B : Bs} {Z : Zm} {ρ : List Addr} {ob : O} {o : Obj} {its : List A} (h : RepO B Z ρ ob o) (hi : oA ob = some its) : ∃ vals n, o = listObj vals n ∧ vals.length < 2 ^ 21 ∧ RepAs B Z ρ its vals := by
  cases ob with
  | list xs =>
    obtain rfl := Option.some.inj hi
    obtain ⟨vals, n, e, hs, hr⟩ := h
    exact ⟨vals, n, e, by rw [repL_len hr]; exact hs, repAs_v hr⟩
  | refs is =>
    obtain rfl := Option.some.inj hi
    obtain ⟨vals, n, e, hs, hr⟩ := h
    exact ⟨vals, n, e, by rw [repAs_len hr, List.length_map]; exact hs, hr⟩
  | _ => exact nons hi
theorem lst_live {B : Bs} {Z : Zm} {N : Led} {ρ : List Addr} {σ : H} {h : Heap} {k : Nat} {l : Addr} {its : List A} (I : Inv B Z N ρ σ h) (e : ρ[k]? = some l) (hi : (σ[k]?).bind oA = some its) : ∃ vals n, h.get? l = some (listObj vals n) ∧ vals.length < 2 ^ 21 ∧ RepAs B Z ρ its vals := by
  obtain ⟨ob, hx, hi⟩ := bindO_of hi
  obtain ⟨_, o, hg, hr⟩ := I.live k l ob e hx (fun e => by subst e; exact nons hi)
  obtain ⟨vals, n, rfl, r⟩ := oA_rep hr hi
  exact ⟨vals, n, hg, r⟩
theorem repL_append {B : Bs} {Z : Zm} : ∀ {xs ys : List V} {vs ws : List Value}, RepL B Z xs vs → RepL B Z ys ws → RepL B Z (xs ++ ys) (vs ++ ws)
  | [], ys, vs, ws, h, h' => by simp only [RepL_0, RepL_1] at h; subst h; exact h'
  | x :: xs, ys, vs, ws, h, h' => by
    simp only [RepL_0, RepL_1] at h
    obtain ⟨v, r, rfl, h1, h2⟩ := h
    simp only [List.cons_append, RepL_0, RepL_1]
    exact ⟨v, r ++ ws, rfl, h1, repL_append h2 h'⟩
theorem repL_nil {B : Bs} {Z : Zm} : RepL B Z [] [] := by simp [RepL_0, RepL_1]
theorem repL_cons {B : Bs} {Z : Zm} {x : V} {xs : List V} {v : Value} {vs : List Value} (h : RepV B Z x v) (h' : RepL B Z xs vs) : RepL B Z (x :: xs) (v :: vs) := by
  simp only [RepL_0, RepL_1]; exact ⟨v, vs, rfl, h, h'⟩
theorem repL_one {B : Bs} {Z : Zm} {x : V} {v : Value} (h : RepV B Z x v) : RepL B Z [x] [v] := repL_cons h repL_nil
theorem repL_take {B : Bs} {Z : Zm} : ∀ {xs : List V} {vs : List Value} (n : Nat), RepL B Z xs vs → RepL B Z (xs.take n) (vs.take n)
  | [], vs, n, h => by simp only [RepL_0, RepL_1] at h; subst h; simp [RepL_0, RepL_1]
  | x :: xs, vs, 0, h => by simp [RepL_0, RepL_1]
  | x :: xs, vs, n + 1, h => by
    simp only [RepL_0, RepL_1] at h
    obtain ⟨v, r, rfl, h1, h2⟩ := h
    exact repL_cons h1 (repL_take n h2)
theorem repL_drop {B : Bs} {Z : Zm} : ∀ {xs : List V} {vs : List Value} (n : Nat), RepL B Z xs vs → RepL B Z (xs.drop n) (vs.drop n)
  | [], vs, n, h => by simp only [RepL_0, RepL_1] at h; subst h; simp [RepL_0, RepL_1]
  | x :: xs, vs, 0, h => h
  | x :: xs, vs, n + 1, h => by
    simp only [RepL_0, RepL_1] at h
    obtain ⟨v, r, rfl, h1, h2⟩ := h
    exact repL_drop n h2
theorem repL_rev {B : Bs} {Z : Zm} : ∀ {xs : List V} {vs : List Value}, RepL B Z xs vs → RepL B Z xs.reverse vs.reverse
  | [], vs, h => by simp only [RepL_0, RepL_1] at h; subst h; simp [RepL_0, RepL_1]
  | x :: xs, vs, h => by
    simp only [RepL_0, RepL_1] at h
    obtain ⟨v, r, rfl, h1, h2⟩ := h
    simp only [List.reverse_cons]
    exact repL_append (repL_rev h2) (repL_one h1)
theorem repL_set {B : Bs} {Z : Zm} {y : V} {w : Value} (hy : RepV B Z y w) : ∀ {xs : List V} {vs : List Value} (n : Nat), RepL B Z xs vs → RepL B Z (xs.set n y) (vs.set n w)
  | [], vs, n, h => by simp only [RepL_0, RepL_1] at h; subst h; simp [RepL_0, RepL_1]
  | x :: xs, vs, 0, h => by
    simp only [RepL_0, RepL_1] at h
    obtain ⟨v, r, rfl, h1, h2⟩ := h
    exact repL_cons hy h2
  | x :: xs, vs, n + 1, h => by
    simp only [RepL_0, RepL_1] at h
    obtain ⟨v, r, rfl, h1, h2⟩ := h
    exact repL_cons h1 (repL_set hy n h2)
theorem repL_iff {B : Bs} {Z : Zm} {xs : List V} {vs : List Value} : RepL B Z xs vs ↔ vs.length = xs.length ∧ ∀ (j : Nat) (x : V), xs[j]? = some x → ∃ v, vs[j]? = some v ∧ RepV B Z x v := by
  constructor
  · exact fun h => ⟨repL_len h, fun j x e => repL_get h e⟩
  · intro ⟨hl, hg⟩
    induction xs generalizing vs with
    | nil => simp at hl; subst hl; exact repL_nil
    | cons x xs ih =>
      cases vs with
      | nil => simp at hl
      | cons v vs =>
        obtain ⟨v', e, h⟩ := hg 0 x rfl
        simp at e; subst e
        refine repL_cons h (ih (by simpa using hl) fun j y e => ?_)
        simpa using hg (j + 1) y (by simpa using e)

section
variable {B : Bs} {C : CallSem} {Ar : Around} {env : Env} {F : Value → Shared → Prop} {Z : Zm} {N : Led} {ρ : List Addr} {σ : H}

/-- where a list lies -/
theorem list_at {h : Heap} {a : A} {v : Value} {xs : List V} (I : Inv B Z N ρ σ h) (R : RepA B Z ρ a v) (hl : listV σ a = some xs) :
    ∃ l items n, v = .ref l ∧ h.get? l = some (listObj items n) ∧ xs.length < 2 ^ 21 ∧ RepL B Z xs items := by
  rcases listV_of hl with rfl | ⟨i, rfl, hx⟩
  · obtain ⟨l, items, n, rfl, hz, hs, hr⟩ := R
    exact ⟨l, items, n, rfl, I.zin _ _ hz, hs, hr⟩
  · obtain ⟨l, e, rfl⟩ := R
    obtain ⟨_, o, ho, items, n, rfl, hs, hr⟩ := I.live i l _ e hx (fun e => nomatch e)
    exact ⟨l, items, n, rfl, ho, hs, hr⟩

theorem isList_of {h : Heap} {l : Addr} {items : List Value} {n : Nat} (e : h.get? l = some (listObj items n)) : h.IsList l items.toArray := ⟨_, e, rfl, n, rfl⟩

theorem reads_list {h : Heap} {k : Nat} {l : Addr} {items : List Value} {n : Nat} {xs : List V} (hz : ∀ a o, Z a = some o → h.get? a = some o) (e : h.get? l = some (listObj items n)) (hr : RepL B Z xs items) (ho : xs.all (eqOkN k) = true) :
    ∃ as, Reads h (.ref l) (.list (toPs xs)) as := by
  obtain ⟨as, ha⟩ := reads_repL (fun x v => reads_rep hz k x v) xs items ho hr
  exact ⟨_, .list e rfl rfl (by simpa using ha)⟩

theorem reads_refs {h : Heap} {k : Nat} (I : Inv B Z N ρ σ h) : ∀ {is : List Nat} {items : List Value} {vs : List V}, RepAs B Z ρ (is.map A.ref) items → listsAt σ is = some vs → vs.all (eqOkN (k + 1)) = true →
    ∃ as, ReadsAll h items (toPs vs) as
  | [], items, vs, hr, hl, _ => by
    obtain rfl := Option.some.inj hl
    obtain rfl : items = [] := hr
    exact ⟨_, .nil⟩
  | i :: is, items, vs, hr, hl, ho => by
    obtain ⟨v, r, rfl, h1, h2⟩ := hr
    obtain ⟨xs, hx, hl⟩ := bindO_of hl
    obtain ⟨o, hx, ho'⟩ := bindO_of hx
    rw [oL_of ho'] at hx
    obtain ⟨ws, hw, rfl⟩ := Option.map_eq_some_iff.mp hl
    obtain ⟨o1, o2⟩ := (Bool.and_eq_true _ _).mp ho
    obtain ⟨l, e, rfl⟩ := h1
    obtain ⟨_, o, hg, items', n, rfl, _, hr'⟩ := I.live i l _ e hx (fun e => nomatch e)
    obtain ⟨as, ha⟩ := reads_list I.zin hg hr' o1
    obtain ⟨bs, hb⟩ := reads_refs I h2 hw o2
    exact ⟨_, .cons ha hb⟩

theorem reads_val {h : Heap} {a : A} {v : Value} {x : V} (I : Inv B Z N ρ σ h) (R : RepA B Z ρ a v) (hv : valOf σ a = some x) (ho : eqOk x = true) : ∃ as, Reads h v (toP x) as := by
  cases a with
  | v y => obtain rfl := Option.some.inj hv; exact reads_rep I.zin 8 _ _ ho R
  | ref i =>
    obtain ⟨l, e, rfl⟩ := R
    obtain ⟨o, hx, hv⟩ := bindO_of hv
    cases o with
    | list xs =>
      obtain rfl := Option.some.inj hv
      obtain ⟨_, o, hg, items, n, rfl, hs, hr⟩ := I.live i l _ e hx (fun e => nomatch e)
      exact reads_list (k := 7) I.zin hg hr ho
    | refs is =>
      obtain ⟨vs, hla, rfl⟩ := Option.map_eq_some_iff.mp hv
      obtain ⟨_, o, hg, items, n, rfl, hs, hr⟩ := I.live i l _ e hx (fun e => nomatch e)
      obtain ⟨as, ha⟩ := reads_refs (k := 6) I hr hla ho
      exact ⟨_, .list hg rfl rfl ha⟩
    | _ => exact nons hv
  | inst _ _ => exact nons hv

theorem any_peq {n k : Nat} {x : V} (hx : eqOkN k x = true) : ∀ {xs : List V}, xs.all (eqOkN n) = true → (toPs xs).any (fun y => PyData.eqv y (toP x)) = xs.any (fun y => peq y x)
  | [], _ => by simp [toPs_0, toPs_1]
  | y :: ys, h => by
    simp only [List.all_cons, Bool.and_eq_true] at h
    simp only [toPs_0, toPs_1, List.any_cons, eqv_eq n k y x h.1 hx, any_peq hx h.2]

theorem sysm_ne {h : Heap} {i : Nat} {l : Addr} {ob : O} (hs : ∃ o, B.h0.get? sysModules = some o) (I : Inv B Z N ρ σ h) (e : ρ[i]? = some l) (e2 : σ[i]? = some ob) (e3 : ob ≠ .dead) : (l == sysModules) = false := by
  cases hq : l == sysModules with
  | false => rfl
  | true =>
    obtain ⟨o, ho⟩ := hs
    have h1 := (I.live i l ob e e2 e3).1
    rw [beq_iff_eq.mp hq] at h1
    rw [I.base _ _ ho] at h1; cases h1
end
end Fl

namespace Fl
open PySem PyProof.Rows
set_option linter.unusedSimpArgs false

theorem peq_int {a b : V} (ha : isInt a = true) (hb : isInt b = true) : peq a b = decide (intOf a = intOf b) := by
  rw [isInt_of ha, isInt_of hb]; rfl
/-! dicts of ints -/
section
variable {B : Bs} {Z : Zm} {N : Led} {ρ : List Addr} {σ : H}

theorem exactDict_eq {o : Obj} {es : Array DictEntry} {n : Nat} (h : o.ExactDict) (hd : o.data = .dict es n) : o = dictObj es.toList n := by
  obtain ⟨c, d, dt, sl⟩ := o
  obtain ⟨h1, h2, h3⟩ := h
  simp only at h1 h2 h3 hd
  subst h1; subst h2; subst h3; subst hd
  simp [dictObj]

end
end Fl

namespace Fl
open PySem PyProof.Rows
set_option linter.unusedSimpArgs false

noncomputable def cmpOf : Cmp → CmpOp
  | .eq => .Eq | .ne => .NotEq | .lt => .Lt | .le => .LtE | .gt => .Gt | .isin => .In | .notin => .NotIn | .isn => .IsNot

section
variable {B : Bs} {C : CallSem} {Ar : Around} {env : Env} {F : Value → Shared → Prop} {Z : Zm} {N : Led} {ρ : List Addr} {σ : H}

theorem ord_ints {x y : V} {a b : Value} (h : ordOk x y = true) (hx : RepV B Z x a) (hy : RepV B Z y b) : ∃ i j t u, x = .int i ∧ y = .int j ∧ a = .int i t ∧ b = .int j u := by
  simp only [ordOk, Bool.and_eq_true] at h
  rw [isInt_of h.1] at hx ⊢
  rw [isInt_of h.2] at hy ⊢
  obtain ⟨t, rfl⟩ := hx
  obtain ⟨u, rfl⟩ := hy
  exact ⟨_, _, t, u, rfl, rfl, rfl, rfl⟩

/-- what an answer's value looks like -/
inductive Look : A → Value → Prop
  | none : Look (.v .none) .none
  | bool (b) : Look (.v (.bool b)) (.bool b)
  | int (i t) : Look (.v (.int i)) (.int i t)
  | str (s t) : Look (.v (.str s)) (.str (Str.ofString s) t)
  | ref (a l) : (∀ b, a ≠ .v (.bool b)) → a ≠ .v .none → Look a (.ref l)
theorem look_of {a : A} {v : Value} (R : RepA B Z ρ a v) : Look a v := by
  cases a with
  | v x =>
    cases x with
    | none => obtain rfl := R; exact .none
    | bool b => obtain rfl := R; exact .bool _
    | int i => obtain ⟨t, rfl⟩ := R; exact .int _ _
    | tup xs => obtain ⟨l, _, _, rfl, _⟩ := R; exact .ref _ _ nofun nofun
    | list xs => obtain ⟨l, _, _, rfl, _⟩ := R; exact .ref _ _ nofun nofun
    | obj c fs => obtain ⟨l, _, _, _, _, _, rfl, _⟩ := R; exact .ref _ _ nofun nofun
    | range lo hi => obtain ⟨l, _, _, _, rfl, _⟩ := R; exact .ref _ _ nofun nofun
    | str s => obtain ⟨t, rfl⟩ := R; exact .str s t
    | edict => obtain ⟨l, _, rfl, _⟩ := R; exact .ref _ _ nofun nofun
    | exc c => obtain ⟨l, _, _, rfl, _⟩ := R; exact .ref _ _ nofun nofun
  | ref i => obtain ⟨l, _, rfl⟩ := R; exact .ref _ _ nofun nofun
  | inst c i => obtain ⟨l, _, _, rfl, _⟩ := R; exact .ref _ _ nofun nofun

theorem in_list_ok {x : V} {xs : List V} {l : Addr} {items : List Value} {n : Nat} {vx : Value} {s : Shared} {Q : Value → Shared → Prop} (hu : Ar.units + 80 < cLine) (I : Inv B Z N ρ σ s.heap) (Rx : RepV B Z x vx)
    (hl : s.heap.get? l = some (listObj items n)) (hr : RepL B Z xs items) (ho : eqOk x = true) (hos : xs.all eqOk = true) (neg : Bool)
    (hQ : Q (.bool (if neg then !(xs.any fun k => peq k x) else xs.any fun k => peq k x)) s) : wpAny (model B.prog B.w) Ar (compareOp (if neg then .NotIn else .In) vx (.ref l)) Q F s := by
  obtain ⟨as, ha⟩ := reads_list (k := 8) I.zin hl hr hos
  obtain ⟨bs, hb⟩ := reads_rep I.zin 8 _ _ ho Rx
  have hL := layL (fun x => lay 8 x) xs hos
  have hx := lay 8 x ho
  have hm : min (PyData.depthAll (toPs xs)) (toP x).depth ≤ 8 := by omega
  cases neg with
  | true => exact SeqAt.notIn_list_reads ha hb hL.1 hx.1 (by omega) (by rw [any_peq ho hos]; exact hQ)
  | false => exact SeqAt.in_list_reads ha hb hL.1 hx.1 (by omega) (by rw [any_peq ho hos]; exact hQ)

theorem in_tup_ok {x : V} {xs : List V} {l : Addr} {items : List Value} {n : Nat} {vx : Value} {s : Shared} {Q : Value → Shared → Prop} (hu : Ar.units + 80 < cLine) (I : Inv B Z N ρ σ s.heap) (Rx : RepV B Z x vx)
    (hl : s.heap.get? l = some (tupObj items n)) (hr : RepL B Z xs items) (ho : eqOk x = true) (hos : xs.all eqOk = true) (neg : Bool)
    (hQ : Q (.bool (if neg then !(xs.any fun k => peq k x) else xs.any fun k => peq k x)) s) : wpAny (model B.prog B.w) Ar (compareOp (if neg then .NotIn else .In) vx (.ref l)) Q F s := by
  obtain ⟨as, ha'⟩ := reads_repL (fun x v => reads_rep I.zin 8 x v) xs items hos hr
  have ha : ∃ as, Reads s.heap (.ref l) (.tuple (toPs xs)) as := ⟨_, .tuple hl rfl rfl (by simpa using ha')⟩
  obtain ⟨as, ha⟩ := ha
  obtain ⟨bs, hb⟩ := reads_rep I.zin 8 _ _ ho Rx
  have hL := layL (fun x => lay 8 x) xs hos
  have hx := lay 8 x ho
  have hm : min (PyData.depthAll (toPs xs)) (toP x).depth ≤ 8 := by omega
  cases neg with
  | true => exact SeqAt.notIn_tuple_reads ha hb hL.1 hx.1 (by omega) (by rw [any_peq ho hos]; exact hQ)
  | false => exact SeqAt.in_tuple_reads ha hb hL.1 hx.1 (by omega) (by rw [any_peq ho hos]; exact hQ)

theorem is_int (k : Int) (t : Tok) : (intKind B.prog B.w).is k (.int k t) = true := by simp [intKind, Value.isInt]
theorem pair_key {h : Heap} {i j : Int} {t u : Tok} {a : Addr} {n : Nat} (hg : h.get? a = some (tupObj [.int i t, .int j u] n)) : IsTupleKey (intKind B.prog B.w) h [i, j] a :=
  ⟨_, _, n, hg, rfl, rfl, .cons (is_int i t) (.cons (is_int j u) .nil)⟩
theorem dictH {h : Heap} {l : Addr} {xs : List (List Int × Addr × Value)} {ep : Nat} (hz : ∀ a o, Z a = some o → h.get? a = some o) (hg : h.get? l = some (dictObj (xs.map (entryOfKey (tupleKind (intKind B.prog B.w)))) ep)) (h2 : (xs.map (·.1)).Nodup) (h3 : ∀ x ∈ xs, PairAt Z x.1 x.2.1) :
    h.DictOfH (tupleKind (intKind B.prog B.w)) l xs :=
  ⟨_, _, ep, hg, ⟨rfl, rfl, rfl⟩, rfl, rfl, fun x hx => by
    obtain ⟨i, j, t, u, n, e, hp⟩ := h3 x hx
    rw [e]; exact pair_key (hz _ _ hp), h2⟩
theorem atKey_in (k : List Int) : ∀ xs : List (List Int × Addr × Value), (atKey xs k).isSome = decide (k ∈ xs.map (·.1)) := by
  intro xs
  unfold atKey
  rw [Option.isSome_map, List.isSome_find?]
  induction xs with
  | nil => rfl
  | cons x xs ih =>
    rw [List.any_cons, ih, ← Bool.decide_or]
    exact decide_eq_decide.mpr ⟨fun h => h.elim (fun e => e ▸ List.mem_cons_self) (List.mem_cons_of_mem _), fun h => (List.mem_cons.mp h).imp_left Eq.symm⟩
theorem kL_mem {k : Int × Int} {ks : List (Int × Int)} : kL k ∈ ks.map kL ↔ k ∈ ks := by
  constructor
  · intro h
    obtain ⟨p, hp, e⟩ := List.mem_map.mp h
    unfold kL at e
    injection e with e1 e2
    injection e2 with e2 _
    have : p = k := Prod.ext e1 e2
    exact this ▸ hp
  · exact fun h => List.mem_map.mpr ⟨k, h, rfl⟩

theorem inL_of {x : V} {xs : List V} {r : Bool} (h : inL x xs = some r) : eqOk x = true ∧ xs.all eqOk = true ∧ r = xs.any fun k => peq k x := by
  unfold inL at h
  by_cases hc : (eqOk x && xs.all eqOk) = true
  · rw [if_pos hc] at h
    obtain ⟨h1, h2⟩ := (Bool.and_eq_true _ _).mp hc
    exact ⟨h1, h2, (Option.some.inj h).symm⟩
  · rw [if_neg hc] at h; exact nons h
theorem inn_ok {a b : A} {r : Bool} {va vb : Value} {s : Shared} {Q : Value → Shared → Prop} (hsm : ∃ o, B.h0.get? sysModules = some o) (hu : Ar.units + 80 < cLine) (I : Inv B Z N ρ σ s.heap) (Ra : RepA B Z ρ a va) (Rb : RepA B Z ρ b vb)
    (h : inSem σ a b = some r) (neg : Bool) (hQ : ∀ tk, Q (.bool (if neg then !r else r)) { s with toks := tk }) : wpAny (model B.prog B.w) Ar (compareOp (if neg then .NotIn else .In) va vb) Q F s := by
  obtain ⟨x, hx, h⟩ := bindO_of h
  rw [asV_of hx] at Ra
  cases b with
  | v y =>
    obtain ⟨xs, hy, h⟩ := bindO_of h
    obtain ⟨h1, h2, rfl⟩ := inL_of h
    rcases vS_of hy with rfl | rfl
    · obtain ⟨l, items, n, rfl, hz, _, hr⟩ := Rb
      exact in_list_ok hu I Ra (I.zin _ _ hz) hr h1 h2 neg (hQ s.toks)
    · obtain ⟨l, items, n, rfl, hz, _, hr⟩ := Rb
      exact in_tup_ok hu I Ra (I.zin _ _ hz) hr h1 h2 neg (hQ s.toks)
  | ref i =>
    obtain ⟨l, e, rfl⟩ := Rb
    obtain ⟨o, ho, h⟩ := bindO_of h
    cases o with
    | list xs =>
      obtain ⟨h1, h2, rfl⟩ := inL_of h
      obtain ⟨_, o, hg, items, n, rfl, hs, hr⟩ := I.live i l _ e ho (fun e => nomatch e)
      exact in_list_ok hu I Ra hg hr h1 h2 neg (hQ s.toks)
    | keys ks =>
      obtain ⟨k, hk, rfl⟩ := Option.map_eq_some_iff.mp h
      rw [vP_of hk] at Ra
      obtain ⟨a, its, n, rfl, hza, _, v1, r1, rfl, ⟨t, rfl⟩, v2, r2, rfl, ⟨u, rfl⟩, hr2⟩ := Ra
      obtain rfl : r2 = [] := hr2
      obtain ⟨_, o, hg, xs, ep, q1, q2, q3, _⟩ := I.live i l _ e ho (fun e => nomatch e)
      have hd := dictH (B := B) I.zin hg q2 q3
      have hne := sysm_ne hsm I e ho (fun e => nomatch e)
      have hk' : (atKey xs [k.1, k.2]).isSome = decide (k ∈ ks) := by
        rw [atKey_in, q1]; exact decide_eq_decide.mpr kL_mem
      have hroom : (tupleKind (intKind B.prog B.w)).room Ar.in1 := tupleKind_room_in1 (by omega)
      cases neg with
      | true => exact wpAny_notIn_heap hroom (pair_key (I.zin _ _ hza)) hne hd (by rw [hk']; exact hQ _)
      | false => exact wpAny_in_heap hroom (pair_key (I.zin _ _ hza)) hne hd (by rw [hk']; exact hQ _)
    | _ => exact nons h
  | inst _ _ => exact nons h

/-! the same, where a dict may stand -/
theorem ed_dict {s : Shared} {a : Addr} {n : Nat} (hg : s.heap.get? a = some (dictObj [] n)) (prog : Program) (w : World) : s.heap.DictOf (intKind prog w) a [] :=
  ⟨_, _, _, hg, ⟨rfl, rfl, rfl⟩, rfl, fun _ h => absurd h (by simp), .nil, List.nodup_nil⟩
theorem isEd_of {x : V} (h : isEd x = true) : x = .edict := by cases x <;> first | rfl | cases h
theorem same0_of {x y : V} (h : same0 x y = true) : (eqOk x = true ∧ eqOk y = true ∧ peq x y = true) ∨ (x = .edict ∧ y = .edict) := by
  rcases (Bool.or_eq_true _ _).mp h with h | h
  · obtain ⟨h, h3⟩ := (Bool.and_eq_true _ _).mp h
    obtain ⟨h1, h2⟩ := (Bool.and_eq_true _ _).mp h
    exact .inl ⟨h1, h2, h3⟩
  · obtain ⟨h1, h2⟩ := (Bool.and_eq_true _ _).mp h
    exact .inr ⟨isEd_of h1, isEd_of h2⟩
theorem same0_rc {s : Shared} {x y : V} {v u : Value} (hz : ∀ a o, Z a = some o → s.heap.get? a = some o) (hu : Ar.units + 8 < cLine) (hx : RepV B Z x v) (hy : RepV B Z y u) (h : same0 x y = true) : SeqAt.RcAt Ar s v u true ∧ SeqAt.RcNeAt Ar s v u false ∧ SeqAt.EqAt Ar s v u true := by
  rcases same0_of h with ⟨h1, h2, h3⟩ | ⟨rfl, rfl⟩
  · obtain ⟨as, ha⟩ := reads_rep hz 8 _ _ h1 hx
    obtain ⟨bs, hb⟩ := reads_rep hz 8 _ _ h2 hy
    have l1 := lay 8 x h1
    have l2 := lay 8 y h2
    have e := eqv_eq 8 8 x y h1 h2
    rw [h3] at e
    have r1 := SeqAt.rcAt_reads (A := Ar) ha hb l1.1 l2.1 (by omega)
    have r2 := SeqAt.rcNeAt_reads (A := Ar) ha hb l1.1 l2.1 (by omega)
    have r3 := SeqAt.eqAt_reads _ _ Ar s _ _ _ _ ha hb l1.1 l2.1 (by omega)
    rw [e] at r1 r2 r3
    exact ⟨r1, r2, r3⟩
  · obtain ⟨a, n, rfl, ha, na⟩ := hx
    obtain ⟨b, k, rfl, hb, nb⟩ := hy
    have rc : SeqAt.RcAt Ar s (.ref a) (.ref b) true := fun prog w E Q h => PySem.W.keq_eq na nb (ed_dict (hz _ _ ha) prog w) (ed_dict (hz _ _ hb) prog w) (by omega) (fun _ => .nil) h
    refine ⟨rc, fun prog w E Q h => PySem.W.keq_ne na nb (ed_dict (hz _ _ ha) prog w) (ed_dict (hz _ _ hb) prog w) (by omega) (fun _ => .nil) h, ?_⟩
    by_cases q : a = b
    · subst q; exact SeqAt.EqAt.same _
    · exact SeqAt.EqAt.of_refs q rc
theorem sameL_get : ∀ {xs ys : List V}, sameL xs ys = true → xs.length = ys.length ∧ ∀ (j : Nat) x y, xs[j]? = some x → ys[j]? = some y → same0 x y = true
  | [], [], _ => ⟨rfl, fun j x y e => nons e⟩
  | [], _ :: _, h => Bool.noConfusion h
  | _ :: _, [], h => Bool.noConfusion h
  | x :: xs, y :: ys, h => by
    obtain ⟨h1, h2⟩ := (Bool.and_eq_true _ _).mp (show (same0 x y && sameL xs ys) = true from h)
    obtain ⟨e, h3⟩ := sameL_get h2
    refine ⟨congrArg Nat.succ e, fun j a b ea eb => ?_⟩
    cases j with
    | zero => cases ea; cases eb; exact h1
    | succ j => exact h3 j a b ea eb
theorem same1_rc {s : Shared} {x y : V} {v u : Value} (hz : ∀ a o, Z a = some o → s.heap.get? a = some o) (hu : Ar.units + 20 < cLine) (hx : RepV B Z x v) (hy : RepV B Z y u) (h : same1 x y = true) : SeqAt.RcAt Ar s v u true ∧ SeqAt.RcNeAt Ar s v u false := by
  rcases (Bool.or_eq_true _ _).mp h with h | h
  · have := same0_rc (Ar := Ar) hz (by omega) hx hy h
    exact ⟨this.1, this.2.1⟩
  · cases h1 : vL x with
    | none => rw [h1] at h; exact Bool.noConfusion h
    | some xs =>
    cases h2 : vL y with
    | none => rw [h1, h2] at h; exact Bool.noConfusion h
    | some ys =>
    rw [h1, h2] at h
    rw [vL_of h1] at hx
    rw [vL_of h2] at hy
    obtain ⟨hl, hg⟩ := sameL_get (show sameL xs ys = true from h)
    obtain ⟨a, items, n, rfl, ha, _, hr⟩ := hx
    obtain ⟨b, items2, k, rfl, hb, _, hr2⟩ := hy
    have n1 := repL_len hr
    have n2 := repL_len hr2
    have he : ∀ j (j1 : j < items.toArray.size) (j2 : j < items2.toArray.size), SeqAt.EqAt Ar.in1 s items.toArray[j] items2.toArray[j] ((fun _ => true) j) := fun j j1 j2 => by
      have j1' : j < xs.length := by rw [← n1]; simpa using j1
      have j2' : j < ys.length := by rw [← n2]; simpa using j2
      obtain ⟨v1, e1, r1⟩ := repL_get hr (List.getElem?_eq_getElem j1')
      obtain ⟨v2, e2, r2⟩ := repL_get hr2 (List.getElem?_eq_getElem j2')
      have f1 : items.toArray[j] = v1 := by
        have := (List.getElem?_eq_some_iff.mp e1).2
        simpa using this
      have f2 : items2.toArray[j] = v2 := by
        have := (List.getElem?_eq_some_iff.mp e2).2
        simpa using this
      rw [f1, f2]
      exact (same0_rc (Ar := Ar.in1) hz (by show Ar.units + 1 + 8 < cLine; omega) r1 r2 (hg j _ _ (List.getElem?_eq_getElem j1') (List.getElem?_eq_getElem j2'))).2.2
    have hsz : items.toArray.size = items2.toArray.size := by simp; omega
    have r := SeqAt.RcAt.lists (A := Ar) (isList_of (hz _ _ ha)) (isList_of (hz _ _ hb)) hsz (by omega) he
    have r' := SeqAt.RcNeAt.lists (A := Ar) (isList_of (hz _ _ ha)) (isList_of (hz _ _ hb)) hsz (by omega) he
    have e : (List.range items.toArray.size).all (fun _ => true) = true := by simp
    rw [e] at r r'
    exact ⟨r, r'⟩

theorem eqSem_of {a b : A} {r : Bool} (h : eqSem σ a b = some r) : (∃ x y, valOf σ a = some x ∧ valOf σ b = some y ∧ eqOk x = true ∧ eqOk y = true ∧ r = peq x y) ∨ ∃ x y, a = .v x ∧ b = .v y ∧ same1 x y = true ∧ r = true := by
  rcases Option.or_eq_some_iff.mp h with h | ⟨_, h⟩
  case inr =>
    obtain ⟨x, hx, h⟩ := bindO_of h
    obtain ⟨y, hy, h⟩ := bindO_of h
    have h : eqF x y = some r := h
    unfold eqF at h
    by_cases hc : same1 x y = true
    · rw [if_pos hc] at h
      exact .inr ⟨x, y, asV_of hx, asV_of hy, hc, (Option.some.inj h).symm⟩
    · rw [if_neg hc] at h; exact nons h
  left
  obtain ⟨x, hx, h⟩ := bindO_of h
  obtain ⟨y, hy, h⟩ := bindO_of h
  have h : eqV x y = some r := h
  unfold eqV at h
  by_cases hc : (eqOk x && eqOk y) = true
  · rw [if_pos hc] at h
    obtain ⟨h1, h2⟩ := (Bool.and_eq_true _ _).mp hc
    exact ⟨x, y, hx, hy, h1, h2, (Option.some.inj h).symm⟩
  · rw [if_neg hc] at h; exact nons h
theorem ordSem_of {a b : A} {r : Bool} {f : V → V → Bool} {va vb : Value} (Ra : RepA B Z ρ a va) (Rb : RepA B Z ρ b vb) (h : ordSem f a b = some r) : ∃ i j t u, va = .int i t ∧ vb = .int j u ∧ r = f (.int i) (.int j) := by
  obtain ⟨x, hx, h⟩ := bindO_of h
  obtain ⟨y, hy, h⟩ := bindO_of h
  rw [asV_of hx] at Ra
  rw [asV_of hy] at Rb
  have h : ordV f x y = some r := h
  unfold ordV at h
  by_cases hc : ordOk x y = true
  · rw [if_pos hc] at h
    obtain ⟨i, j, t, u, rfl, rfl, rfl, rfl⟩ := ord_ints hc Ra Rb
    exact ⟨i, j, t, u, rfl, rfl, (Option.some.inj h).symm⟩
  · rw [if_neg hc] at h; exact nons h
theorem mapNot_of {o : Option Bool} {r : Bool} (h : o.map (!·) = some r) : ∃ q, o = some q ∧ r = !q := by
  obtain ⟨q, h1, h2⟩ := Option.map_eq_some_iff.mp h
  exact ⟨q, h1, h2.symm⟩

theorem cmp_ok {o : Cmp} {a b : A} {r : Bool} {va vb : Value} {s : Shared} {Q : Value → Shared → Prop} (hsm : ∃ o, B.h0.get? sysModules = some o) (hu : Ar.units + 80 < cLine) (I : Inv B Z N ρ σ s.heap) (Ra : RepA B Z ρ a va) (Rb : RepA B Z ρ b vb)
    (h : cmpSem σ o a b = some r) (hQ : ∀ tk, Q (.bool r) { s with toks := tk }) : wpAny (model B.prog B.w) Ar (compareOp (cmpOf o) va vb) Q F s := by
  cases o with
  | eq =>
    rcases eqSem_of h with ⟨x, y, hx, hy, h1, h2, rfl⟩ | ⟨x, y, rfl, rfl, hs, rfl⟩
    case inr => exact (same1_rc (Ar := Ar) I.zin (by omega) Ra Rb hs).1 _ _ _ _ (hQ s.toks)
    obtain ⟨as, ha⟩ := reads_val I Ra hx h1
    obtain ⟨bs, hb⟩ := reads_val I Rb hy h2
    have l1 := lay 8 x h1
    have l2 := lay 8 y h2
    exact SeqAt.compareEq_reads ha hb l1.1 l2.1 (by omega) (by rw [eqv_eq 8 8 x y h1 h2]; exact hQ s.toks)
  | ne =>
    obtain ⟨q, h', rfl⟩ := mapNot_of h
    rcases eqSem_of h' with ⟨x, y, hx, hy, h1, h2, rfl⟩ | ⟨x, y, rfl, rfl, hs, rfl⟩
    case inr => exact (same1_rc (Ar := Ar) I.zin (by omega) Ra Rb hs).2 _ _ _ _ (hQ s.toks)
    obtain ⟨as, ha⟩ := reads_val I Ra hx h1
    obtain ⟨bs, hb⟩ := reads_val I Rb hy h2
    have l1 := lay 8 x h1
    have l2 := lay 8 y h2
    exact SeqAt.compareNe_reads ha hb l1.1 l2.1 (by omega) (by rw [eqv_eq 8 8 x y h1 h2]; exact hQ s.toks)
  | isn =>
    obtain ⟨x, hx, h⟩ := bindO_of (show isnSem a b = some r from h)
    obtain ⟨y, hy, rfl⟩ := Option.map_eq_some_iff.mp h
    rw [asB_of hx] at Ra
    rw [asB_of hy] at Rb
    obtain rfl := Ra
    obtain rfl := Rb
    refine wpAny_isNot_plain (by cases x <;> cases y <;> rfl) ?_
    have e : (!(Value.bool x == Value.bool y)) = (x != y) := by cases x <;> cases y <;> rfl
    rw [e]; exact hQ s.toks
  | isin => exact inn_ok hsm hu I Ra Rb h false hQ
  | notin =>
    obtain ⟨q, h', rfl⟩ := mapNot_of h
    exact inn_ok hsm hu I Ra Rb h' true hQ
  | lt =>
    obtain ⟨i, j, t, u, rfl, rfl, rfl⟩ := ordSem_of Ra Rb h
    exact lt_int (by rw [← vlt_int]; exact hQ s.toks)
  | gt =>
    obtain ⟨i, j, t, u, rfl, rfl, rfl⟩ := ordSem_of Ra Rb h
    exact gt_int (by rw [← vlt_int]; exact hQ s.toks)
  | le =>
    obtain ⟨i, j, t, u, rfl, rfl, rfl⟩ := ordSem_of Ra Rb h
    exact le_int (by rw [← not_lt_int]; exact hQ s.toks)
end
end Fl

namespace Fl
open PySem PyProof.Rows
set_option linter.unusedSimpArgs false

noncomputable def PostB (B : Bs) (Z : Zm) (N : Led) (ρ : List Addr) (s : Shared) (K : Bool → H → Prop) (Q : Bool → Shared → Prop) : Prop :=
  ∀ b Z' ρ' σ' h' tk, K b σ' → Ext Z Z' → ρ <+: ρ' → Inv B Z' N ρ' σ' h' → Q b { s with heap := h', toks := tk }
noncomputable def PostL (B : Bs) (n : Nat) (Z : Zm) (N : Led) (ρ : List Addr) (s : Shared) (K : List A → H → Prop) (Q : List Value → Shared → Prop) : Prop :=
  ∀ as vs Z' ρ' σ' h' tk, as.length = n → K as σ' → Ext Z Z' → ρ <+: ρ' → Inv B Z' N ρ' σ' h' → RepAs B Z' ρ' as vs → Q vs { s with heap := h', toks := tk }

noncomputable def TOk (B : Bs) (C : CallSem) (Ar : Around) (env : Env) (ir : E) (e : Expr) : Prop :=
  ∀ (Z : Zm) (N : Led) (ρ : List Addr) (σ : H) (m : Loc) (s : Shared) (K : Bool → H → Prop) (X : String → H → Prop) (Q : Bool → Shared → Prop) (F : Value → Shared → Prop),
    Inv B Z N ρ σ s.heap → Frm B env Z ρ m N → Safe Ar N X → xT C ir m σ K X → PostB B Z N ρ s K Q → wpAny (model B.prog B.w) Ar (isTrue e env (eval e env)) Q F s

/-- an argument that is not starred -/
noncomputable def unstar (e : Expr) : Bool := Nat.ble 23 e.ctorIdx || Nat.ble e.ctorIdx 21
theorem starEach_un {env : Env} {e : Expr} {r : List Expr} : unstar e = true → starEach (e :: r) env = (false, eval e env) :: starEach r env :=
  Expr.casesOn (motive_1 := fun e => unstar e = true → starEach (e :: r) env = (false, eval e env) :: starEach r env) e (fun _ _ _ _ => rfl) (fun _ _ _ _ => rfl) (fun _ _ _ _ _ => rfl) (fun _ _ _ _ => rfl) (fun _ _ _ _ _ => rfl) (fun _ _ _ _ _ => rfl) (fun _ _ _ _ => rfl) (fun _ _ _ _ => rfl) (fun _ _ _ _ _ => rfl) (fun _ _ _ _ _ => rfl) (fun _ _ _ _ _ _ => rfl) (fun _ _ _ _ _ => rfl) (fun _ _ _ => rfl) (fun _ _ _ => rfl) (fun _ _ _ => rfl) (fun _ _ _ _ _ => rfl) (fun _ _ _ _ _ => rfl) (fun _ _ _ _ _ => rfl) (fun _ _ _ => rfl) (fun _ _ _ _ => rfl) (fun _ _ _ _ => rfl) (fun _ _ _ _ => rfl) (fun _ _ => fun h => nomatch h) (fun _ _ _ => rfl) (fun _ _ _ => rfl) (fun _ _ _ _ => rfl) (fun _ _ _ _ _ => rfl)
theorem starEach_plain {env : Env} {pos : Pos} : ∀ {args : List Expr}, args.all unstar = true → (backTo pos (starEach args env)).any (·.1) = false
  | [], _ => rfl
  | e :: r, h => by
    simp only [List.all_cons, Bool.and_eq_true] at h
    rw [starEach_un h.1]
    have := starEach_plain (env := env) (pos := pos) h.2
    simp only [backTo, List.map_cons, List.any_cons] at this ⊢
    simpa using this

inductive EsOk (B : Bs) (C : CallSem) (Ar : Around) (env : Env) : List E → List Expr → Prop
  | nil : EsOk B C Ar env [] []
  | cons {ir e irs es} : EOk B C Ar env ir e → unstar e = true → EsOk B C Ar env irs es → EsOk B C Ar env (ir :: irs) (e :: es)

section
variable {B : Bs} {C : CallSem} {Ar : Around} {env : Env} {F : Value → Shared → Prop}

theorem EsOk.un {irs : List E} {es : List Expr} (h : EsOk B C Ar env irs es) : es.all unstar = true := by
  induction h with
  | nil => rfl
  | cons _ h _ ih => simp [h, ih]
theorem EsOk.len {irs : List E} {es : List Expr} (h : EsOk B C Ar env irs es) : es.length = irs.length := by
  induction h with
  | nil => rfl
  | cons _ _ _ ih => simp [ih]

theorem args_ok {irs : List E} {es : List Expr} (h : EsOk B C Ar env irs es) : ∀ {Z N ρ σ m} {s : Shared} {K : List A → H → Prop} {X : String → H → Prop} {Q : List Value → Shared → Prop} {pos : Pos},
    Inv B Z N ρ σ s.heap → Frm B env Z ρ m N → Safe Ar N X → xEs C irs m σ K X → PostL B irs.length Z N ρ s K Q → wpAny (model B.prog B.w) Ar (spliced (backTo pos (starEach es env))) Q F s := by
  induction h with
  | nil =>
    intro Z N ρ σ m s K X Q pos I Fr hX hx P
    simp only [yV, yW] at hx
    exact args_nil (P [] [] Z ρ σ _ _ rfl hx (Ext.refl _) (List.prefix_refl _) I rfl)
  | cons he hu _ ih =>
    intro Z N ρ σ m s K X Q pos I Fr hX hx P
    simp only [yV, yW] at hx
    refine args_cons (he Z N ρ σ m s _ X _ F I Fr hX hx ?_) (starEach_un hu)
    intro a v Z1 ρ1 σ1 h1 t1 hx1 e1 p1 I1 R1
    refine ih I1 (Fr.mono e1 p1) hX hx1 ?_
    intro as vs Z2 ρ2 σ2 h2 t2 hl hx2 e2 p2 I2 R2
    exact P (a :: as) (v :: vs) Z2 ρ2 σ2 _ _ (by simp [hl]) hx2 (e1.trans e2) (p1.trans p2) I2 ⟨v, vs, rfl, R1.mono e2 p2, R2⟩

theorem truthy_ok {Z N ρ σ} {s : Shared} {a : A} {v : Value} {b : Bool} {Q : Bool → Shared → Prop} (hsm : ∃ o, B.h0.get? sysModules = some o) (I : Inv B Z N ρ σ s.heap) (R : RepA B Z ρ a v) (h : truthy σ a = some b) (hQ : ∀ tk, Q b { s with toks := tk }) :
    wpAny (model B.prog B.w) Ar (PySem.truthy v) Q F s := by
  rw [asB_of h] at R
  obtain rfl := R
  exact wpAny_truthy_bool (hQ s.toks)

theorem tok_of_e {ir : E} {e : Expr} (hsm : ∃ o, B.h0.get? sysModules = some o) (he : EOk B C Ar env ir e)
    (hx : ∀ m σ K X, xT C ir m σ K X = xE C ir m σ (fun a σ => get (truthy σ a) fun b => K b σ) X) (hi : ∀ whole, isTrue e env whole = (do let v ← whole; standAt e.pos; holding [v] (PySem.truthy v))) : TOk B C Ar env ir e := by
  intro Z N ρ σ m s K X Q F I Fr hX h P
  rw [hx] at h
  refine wpAny_isTrue_value (he Z N ρ σ m s _ X _ F I Fr hX h ?_) (hi _)
  intro a v Z1 ρ1 σ1 h1 t1 hx1 e1 p1 I1 R1
  cases ht : truthy σ1 a with
  | none => rw [ht] at hx1; exact hx1.elim
  | some b =>
    rw [ht] at hx1
    exact truthy_ok hsm I1 R1 ht fun tk => P b Z1 ρ1 σ1 _ _ hx1 e1 p1 I1

theorem eok_none {k pos} : EOk B C Ar env (.c .none) (.Constant .none k pos) := by
  intro Z N ρ σ m s K X Q F I Fr hX hx P
  exact wpAny_Constant_none (P (.v .none) _ Z ρ σ _ s.toks hx (Ext.refl _) (List.prefix_refl _) I (by first | exact rfl | exact ⟨_, rfl⟩))
theorem eok_bool {b k pos} : EOk B C Ar env (.c (.bool b)) (.Constant (.bool b) k pos) := by
  intro Z N ρ σ m s K X Q F I Fr hX hx P
  exact wpAny_Constant_bool (P (.v (.bool b)) _ Z ρ σ _ s.toks hx (Ext.refl _) (List.prefix_refl _) I (by first | exact rfl | exact ⟨_, rfl⟩))
theorem eok_g {x : String} {i : Int} {pos : Pos} (hg : ∃ t, GName B (Str.ofString x) (.int i t)) (hk : env.kindOf (Str.ofString x) = some .globalImplicit) (hd : (Str.ofString x == ("__debug__" : Str)) = false) :
    EOk B C Ar env (.g x i) (.Name (Str.ofString x) pos) := by
  intro Z N ρ σ m s K X Q F I Fr hX hx P
  obtain ⟨t, hg⟩ := hg
  exact ld_glob I Fr hg hk hd (P (.v (.int i)) _ Z ρ σ _ s.toks hx (Ext.refl _) (List.prefix_refl _) I (by first | exact rfl | exact ⟨_, rfl⟩))

theorem eok_neg {a : E} {x : Expr} {pos : Pos} (ha : EOk B C Ar env a x) : EOk B C Ar env (.neg a) (.UnaryOp .USub x pos) := by
  intro Z N ρ σ m s K X Q F I Fr hX hx P
  rw [yC] at hx
  refine wpAny_UnaryOp (ha Z N ρ σ m s _ X _ F I Fr hX hx ?_)
  intro va v Z1 ρ1 σ1 h1 t1 hx1 e1 p1 I1 R1
  obtain ⟨i, hi, hx1⟩ := get_of hx1
  rw [asI_of hi] at R1
  obtain ⟨t, rfl⟩ := R1
  exact neg_int (P _ _ Z1 ρ1 σ1 _ _ hx1 e1 p1 I1 ⟨_, rfl⟩)

theorem eok_not {a : E} {x : Expr} {pos : Pos} (hsm : ∃ o, B.h0.get? sysModules = some o) (ha : EOk B C Ar env a x) : EOk B C Ar env (.not a) (.UnaryOp .Not x pos) := by
  intro Z N ρ σ m s K X Q F I Fr hX hx P
  rw [yD] at hx
  refine wpAny_UnaryOp (ha Z N ρ σ m s _ X _ F I Fr hX hx ?_)
  intro va v Z1 ρ1 σ1 h1 t1 hx1 e1 p1 I1 R1
  cases ht : truthy σ1 va with
  | none => rw [ht] at hx1; exact hx1.elim
  | some b =>
    rw [ht] at hx1
    exact not_of (truthy_ok hsm I1 R1 ht fun tk => P _ _ Z1 ρ1 σ1 _ _ hx1 e1 p1 I1 (by first | exact rfl | exact ⟨_, rfl⟩))

theorem eok_cmp {o : Cmp} {a b : E} {l r : Expr} {pos : Pos} (hsm : ∃ o, B.h0.get? sysModules = some o) (hu : Ar.units + 80 < cLine) (hm : behindInMarks (cmpOf o) r = false)
    (ha : EOk B C Ar env a l) (hb : EOk B C Ar env b r) : EOk B C Ar env (.cmp a o b) (.Compare l [cmpOf o] [r] pos) := by
  intro Z N ρ σ m s K X Q F I Fr hX hx P
  rw [yG] at hx
  refine wpAny_Compare1 (ha Z N ρ σ m s _ X _ F I Fr hX hx ?_) hm
  intro va v Z1 ρ1 σ1 h1 t1 hx1 e1 p1 I1 R1
  refine hb Z1 N ρ1 σ1 m _ _ X _ F I1 (Fr.mono e1 p1) hX hx1 ?_
  intro vb w Z2 ρ2 σ2 h2 t2 hx2 e2 p2 I2 R2
  cases hc : cmpSem σ2 o va vb with
  | none => rw [hc] at hx2; exact hx2.elim
  | some q =>
    rw [hc] at hx2
    exact cmp_ok hsm hu I2 (R1.mono e2 p2) R2 hc fun tk => P _ _ Z2 ρ2 σ2 _ _ hx2 (e1.trans e2) (p1.trans p2) I2 (by first | exact rfl | exact ⟨_, rfl⟩)

theorem tok_cmp {o : Cmp} {a b : E} {l r : Expr} {pos : Pos} (hsm : ∃ o, B.h0.get? sysModules = some o) (hu : Ar.units + 80 < cLine) (hm : behindInMarks (cmpOf o) r = false)
    (ha : EOk B C Ar env a l) (hb : EOk B C Ar env b r) : TOk B C Ar env (.cmp a o b) (.Compare l [cmpOf o] [r] pos) := by
  intro Z N ρ σ m s K X Q F I Fr hX hx P
  rw [yt] at hx
  refine wpAny_isTrue_Compare1 (ha Z N ρ σ m s _ X _ F I Fr hX hx ?_) hm
  intro va v Z1 ρ1 σ1 h1 t1 hx1 e1 p1 I1 R1
  refine hb Z1 N ρ1 σ1 m _ _ X _ F I1 (Fr.mono e1 p1) hX hx1 ?_
  intro vb w Z2 ρ2 σ2 h2 t2 hx2 e2 p2 I2 R2
  cases hc : cmpSem σ2 o va vb with
  | none => rw [hc] at hx2; exact hx2.elim
  | some q =>
    rw [hc] at hx2
    exact cmp_ok hsm hu I2 (R1.mono e2 p2) R2 hc fun tk => wpAny_truthy_bool (P _ Z2 ρ2 σ2 _ _ hx2 (e1.trans e2) (p1.trans p2) I2)

theorem tok_not {a : E} {x : Expr} {pos : Pos} (ha : TOk B C Ar env a x) : TOk B C Ar env (.not a) (.UnaryOp .Not x pos) := by
  intro Z N ρ σ m s K X Q F I Fr hX hx P
  rw [yp] at hx
  refine wpAny_isTrue_Not (ha Z N ρ σ m s _ X _ F I Fr hX hx ?_)
  intro b Z1 ρ1 σ1 h1 t1 hx1 e1 p1 I1
  exact P _ Z1 ρ1 σ1 _ _ hx1 e1 p1 I1

inductive TsOk (B : Bs) (C : CallSem) (Ar : Around) (env : Env) : List E → List Expr → Prop
  | nil : TsOk B C Ar env [] []
  | cons {ir e irs es} : TOk B C Ar env ir e → TsOk B C Ar env irs es → TsOk B C Ar env (ir :: irs) (e :: es)

theorem ts_ok {op : BoolOp} {irs : List E} {es : List Expr} (h : TsOk B C Ar env irs es) : ∀ {Z N ρ σ m} {s : Shared} {K : Bool → H → Prop} {X : String → H → Prop} {Q : Bool → Shared → Prop},
    Inv B Z N ρ σ s.heap → Frm B env Z ρ m N → Safe Ar N X → xTs C (match op with | .And => true | .Or => false) irs m σ K X → PostB B Z N ρ s K Q → wpAny (model B.prog B.w) Ar (allTrue op es env) Q F s := by
  induction h with
  | nil =>
    intro Z N ρ σ m s K X Q I Fr hX hx P
    simp only [Yb, Yc] at hx
    cases op with
    | And => exact wpAny_allTrue_And_nil (P _ Z ρ σ _ s.toks hx (Ext.refl _) (List.prefix_refl _) I)
    | Or => exact wpAny_allTrue_Or_nil (P _ Z ρ σ _ s.toks hx (Ext.refl _) (List.prefix_refl _) I)
  | cons he _ ih =>
    intro Z N ρ σ m s K X Q I Fr hX hx P
    simp only [Yb, Yc] at hx
    cases op with
    | And =>
      refine wpAny_allTrue_And_cons (he Z N ρ σ m s _ X _ F I Fr hX hx ?_)
      intro b Z1 ρ1 σ1 h1 t1 hx1 e1 p1 I1
      cases b with
      | true =>
        simp only [if_true] at hx1 ⊢
        refine ih I1 (Fr.mono e1 p1) hX hx1 ?_
        intro b Z2 ρ2 σ2 h2 t2 hx2 e2 p2 I2
        exact P _ Z2 ρ2 σ2 _ _ hx2 (e1.trans e2) (p1.trans p2) I2
      | false =>
        simp only [Bool.false_eq_true, if_false] at hx1 ⊢
        exact P _ Z1 ρ1 σ1 _ _ hx1 e1 p1 I1
    | Or =>
      refine wpAny_allTrue_Or_cons (he Z N ρ σ m s _ X _ F I Fr hX hx ?_)
      intro b Z1 ρ1 σ1 h1 t1 hx1 e1 p1 I1
      cases b with
      | false =>
        simp only [if_true, Bool.false_eq_true, if_false] at hx1 ⊢
        refine ih I1 (Fr.mono e1 p1) hX hx1 ?_
        intro b Z2 ρ2 σ2 h2 t2 hx2 e2 p2 I2
        exact P _ Z2 ρ2 σ2 _ _ hx2 (e1.trans e2) (p1.trans p2) I2
      | true =>
        simp only [Bool.true_eq_false, if_false, if_true] at hx1 ⊢
        exact P _ Z1 ρ1 σ1 _ _ hx1 e1 p1 I1

theorem tok_and {irs : List E} {es : List Expr} {pos : Pos} (h : TsOk B C Ar env irs es) : TOk B C Ar env (.and irs) (.BoolOp .And es pos) := by
  intro Z N ρ σ m s K X Q F I Fr hX hx P
  rw [yq] at hx
  exact wpAny_isTrue_BoolOp (ts_ok (op := .And) h I Fr hX hx P)
theorem tok_or {irs : List E} {es : List Expr} {pos : Pos} (h : TsOk B C Ar env irs es) : TOk B C Ar env (.or irs) (.BoolOp .Or es pos) := by
  intro Z N ρ σ m s K X Q F I Fr hX hx P
  rw [yr] at hx
  exact wpAny_isTrue_BoolOp (ts_ok (op := .Or) h I Fr hX hx P)

theorem eok_ite {c a b : E} {tc ta tb : Expr} {pos : Pos} (hc : TOk B C Ar env c tc) (ha : EOk B C Ar env a ta) (hb : EOk B C Ar env b tb) : EOk B C Ar env (.ite c a b) (.IfExp tc ta tb pos) := by
  intro Z N ρ σ m s K X Q F I Fr hX hx P
  rw [yI] at hx
  refine wpAny_IfExp (hc Z N ρ σ m s _ X _ F I Fr hX hx ?_)
  intro q Z1 ρ1 σ1 h1 t1 hx1 e1 p1 I1
  cases q with
  | true => simp only [if_true] at hx1 ⊢; exact ha Z1 N ρ1 σ1 m _ _ X _ F I1 (Fr.mono e1 p1) hX hx1 (P.go e1 p1 _ _)
  | false => simp only [Bool.false_eq_true, if_false] at hx1 ⊢; exact hb Z1 N ρ1 σ1 m _ _ X _ F I1 (Fr.mono e1 p1) hX hx1 (P.go e1 p1 _ _)
end
end Fl

namespace Fl
open PySem PyProof.Rows
set_option linter.unusedSimpArgs false

section
variable {B : Bs} {C : CallSem} {Ar : Around} {env : Env} {F : Value → Shared → Prop}

theorem tok_cmp2 {o o' : Cmp} {a b c : E} {l r r' : Expr} {pos : Pos} (hsm : ∃ o, B.h0.get? sysModules = some o) (hu : Ar.units + 80 < cLine) (hm : lastMarks [cmpOf o, cmpOf o'] [r, r'] = false)
    (ha : EOk B C Ar env a l) (hb : EOk B C Ar env b r) (hc : EOk B C Ar env c r') : TOk B C Ar env (.cmp2 a o b o' c) (.Compare l [cmpOf o, cmpOf o'] [r, r'] pos) := by
  intro Z N ρ σ m s K X Q F I Fr hX hx P
  rw [yu] at hx
  refine isTrue_chain (ha Z N ρ σ m s _ X _ F I Fr hX hx ?_) hm
  intro va v Z1 ρ1 σ1 h1 t1 hx1 e1 p1 I1 R1
  show wpAny _ _ (do
    let rv ← holding [v] (eval r env)
    standAt pos
    let c ← holding [v, rv] (compareOp (cmpOf o) v rv)
    release [v, rv] [c]
    if ← holding [c, rv] (PySem.truthy c) then (do
      let rv' ← holding [rv] (eval r' env)
      standAt pos
      let c ← operate [rv, rv'] (compareOp (cmpOf o') rv rv')
      holding [c] (PySem.truthy c)) else pure false) _ _ _
  refine wpAny_bind (wpAny_holding (hb Z1 N ρ1 σ1 m _ _ X _ F I1 (Fr.mono e1 p1) hX hx1 ?_))
  intro vb w Z2 ρ2 σ2 h2 t2 hx2 e2 p2 I2 R2
  refine wpAny_bind (wpAny_standAt (wpAny_bind (wpAny_holding ?_)))
  cases hq : cmpSem σ2 o va vb with
  | none => rw [hq] at hx2; exact hx2.elim
  | some q =>
    rw [hq] at hx2
    refine cmp_ok hsm hu I2 (R1.mono e2 p2) R2 hq fun tk => ?_
    refine wpAny_bind (wpAny_release' (wpAny_bind (wpAny_holding (wpAny_truthy_bool ?_))))
    have hx2 : (if q = true then _ else _) := hx2
    cases q with
    | false =>
      simp only [Bool.false_eq_true, if_false] at hx2 ⊢
      exact wpAny_pure (P _ Z2 ρ2 σ2 _ _ hx2 (e1.trans e2) (p1.trans p2) I2)
    | true =>
      simp only [if_true] at hx2 ⊢
      refine wpAny_bind (wpAny_holding (hc Z2 N ρ2 σ2 m _ _ X _ F I2 ((Fr.mono e1 p1).mono e2 p2) hX hx2 ?_))
      intro vc u Z3 ρ3 σ3 h3 t3 hx3 e3 p3 I3 R3
      refine wpAny_bind (wpAny_standAt (wpAny_bind (wpAny_operate' ?_)))
      cases hq' : cmpSem σ3 o' vb vc with
      | none => rw [hq'] at hx3; exact hx3.elim
      | some q' =>
        rw [hq'] at hx3
        exact cmp_ok hsm hu I3 (R2.mono e3 p3) R3 hq' fun tk => wpAny_holding (wpAny_truthy_bool (P _ Z3 ρ3 σ3 _ _ hx3 ((e1.trans e2).trans e3) ((p1.trans p2).trans p3) I3))

set_option backward.match.sparseCases true in
theorem bs_ok (hsm : ∃ o, B.h0.get? sysModules = some o) {op : BoolOp} {pos : Pos} {irs : List E} {es : List Expr} (h : EsOk B C Ar env irs es) : ∀ {Z N ρ σ m} {s : Shared} {K : A → H → Prop} {X : String → H → Prop} {Q : Value → Shared → Prop},
    Inv B Z N ρ σ s.heap → Frm B env Z ρ m N → Safe Ar N X → xBs C (match op with | .And => true | .Or => false) irs m σ K X → Post B Z N ρ s K Q → wpAny (model B.prog B.w) Ar (boolOp pos op (evalEach es env)) Q F s := by
  induction h with
  | nil => intro Z N ρ σ m s K X Q I Fr hX hx P; exact (show False from hx).elim
  | @cons ir e irs es he hu hr ih =>
    intro Z N ρ σ m s K X Q I Fr hX hx P
    cases hr with
    | nil =>
      simp only [y8, y9] at hx
      show wpAny _ _ (eval e env) _ _ _
      exact he Z N ρ σ m s _ X _ F I Fr hX hx P
    | @cons ir' e' irs' es' he' hu' hr' =>
      simp only [y8, y9] at hx
      show wpAny _ _ (do
        let v ← eval e env
        standAt pos
        let t ← holding [v] (PySem.truthy v)
        match op, t with
        | .And, false | .Or, true => pure v
        | _, _ => boolOp pos op (evalEach (e' :: es') env)) _ _ _
      refine wpAny_bind (he Z N ρ σ m s _ X _ F I Fr hX hx ?_)
      intro va v Z1 ρ1 σ1 h1 t1 hx1 e1 p1 I1 R1
      refine wpAny_bind (wpAny_standAt (wpAny_bind (wpAny_holding ?_)))
      cases ht : truthy σ1 va with
      | none => rw [ht] at hx1; exact hx1.elim
      | some b =>
        rw [ht] at hx1
        refine truthy_ok hsm I1 R1 ht fun tk => ?_
        have hx1 : (if b = _ then _ else _) := hx1
        cases op <;> cases b <;> simp only [if_true, if_false, Bool.false_eq_true, Bool.true_eq_false] at hx1 ⊢
        · exact wpAny_pure (P _ _ Z1 ρ1 σ1 _ _ hx1 e1 p1 I1 R1)
        · exact ih (s := { s with heap := h1, toks := tk }) I1 (Fr.mono e1 p1) hX hx1 (P.go e1 p1 _ _)
        · exact ih (s := { s with heap := h1, toks := tk }) I1 (Fr.mono e1 p1) hX hx1 (P.go e1 p1 _ _)
        · exact wpAny_pure (P _ _ Z1 ρ1 σ1 _ _ hx1 e1 p1 I1 R1)

theorem eok_and {irs : List E} {es : List Expr} {pos : Pos} (hsm : ∃ o, B.h0.get? sysModules = some o) (h : EsOk B C Ar env irs es) : EOk B C Ar env (.and irs) (.BoolOp .And es pos) := by
  intro Z N ρ σ m s K X Q F I Fr hX hx P
  rw [yE] at hx
  exact bs_ok hsm (op := .And) h I Fr hX hx P
theorem eok_or {irs : List E} {es : List Expr} {pos : Pos} (hsm : ∃ o, B.h0.get? sysModules = some o) (h : EsOk B C Ar env irs es) : EOk B C Ar env (.or irs) (.BoolOp .Or es pos) := by
  intro Z N ρ σ m s K X Q F I Fr hX hx P
  rw [yF] at hx
  exact bs_ok hsm (op := .Or) h I Fr hX hx P

theorem repL_of_as {Z : Zm} {ρ : List Addr} : ∀ {as : List A} {vals : List Value} {vs : List V}, RepAs B Z ρ as vals → allV as = some vs → RepL B Z vs vals
  | [], vals, vs, hr, ha => by
    simp only [RepAs_0, RepAs_1] at hr; subst hr; simp only [YO, YP, YQ, YR, Option.some.injEq] at ha; subst ha; exact repL_nil
  | .v x :: as, vals, vs, hr, ha => by
    obtain ⟨v, r, rfl, h1, h2⟩ := hr
    simp only [YO, YP, YQ, YR] at ha
    cases h : allV as with
    | none => rw [h] at ha; cases ha
    | some ws => rw [h] at ha; cases ha; exact repL_cons h1 (repL_of_as h2 h)
  | .ref _ :: _, _, _, _, ha => by simp [YO, YP, YQ, YR] at ha
  | .inst _ _ :: _, _, _, _, ha => by simp [YO, YP, YQ, YR] at ha
theorem allV_len : ∀ {as : List A} {vs : List V}, allV as = some vs → vs.length = as.length
  | [], vs, h => by simp [YO, YP, YQ, YR] at h; subst h; rfl
  | .v x :: as, vs, h => by
    simp only [YO, YP, YQ, YR] at h
    cases h' : allV as with
    | none => rw [h'] at h; cases h
    | some ws => rw [h'] at h; cases h; simp [allV_len h']
  | .ref _ :: _, _, h => by simp [YO, YP, YQ, YR] at h
  | .inst _ _ :: _, _, h => by simp [YO, YP, YQ, YR] at h

theorem eok_tup {irs : List E} {es : List Expr} {k : Nat} {pos : Pos} (h : EsOk B C Ar env irs es) (hlen : irs.length < 1000) : EOk B C Ar env (.tup irs) (.Tuple es k pos) := by
  intro Z N ρ σ m s K X Q F I Fr hX hx P
  rw [yJ] at hx
  refine wpAny_Tuple_spliced (args_ok h I Fr hX hx ?_)
  intro as vs Z1 ρ1 σ1 h1 t1 hl hx1 e1 p1 I1 R1
  cases ha : allV as with
  | none => rw [ha] at hx1; exact hx1.elim
  | some ws =>
    rw [ha] at hx1
    have hr := repL_of_as R1 ha
    have hlv : ws.length < 1000 := by rw [allV_len ha, hl]; exact hlen
    have hlv' : vs.length < 1000 := by rw [repL_len hr]; exact hlv
    refine ⟨by unfold sizeLine; omega, ?_⟩
    have I2 := I1.push (tupObj vs 0) rfl
    refine P _ _ _ ρ1 σ1 _ _ hx1 (e1.trans I2.freeze_ext) p1 I2.freeze ?_
    exact ⟨_, vs, 0, rfl, by simp [Inv.zset], by omega, hr.mono I2.freeze_ext⟩

noncomputable def PostN (B : Bs) (Z : Zm) (N : Led) (ρ : List Addr) (s : Shared) (K : List V → H → Prop) (Q : Value → Shared → Prop) : Prop :=
  ∀ xs a items n Z' ρ' σ' h' tk, small xs → K xs σ' → Ext Z Z' → ρ <+: ρ' → Inv B Z' ((a, listObj items n) :: N) ρ' σ' h' → RepL B Z' xs items → Q (.ref a) { s with heap := h', toks := tk }

/-- a list that is made -/
noncomputable def LOk (B : Bs) (C : CallSem) (Ar : Around) (env : Env) (ir : L) (e : Expr) : Prop :=
  ∀ (Z : Zm) (N : Led) (ρ : List Addr) (σ : H) (m : Loc) (s : Shared) (K : List V → H → Prop) (X : String → H → Prop) (Q : Value → Shared → Prop) (F : Value → Shared → Prop),
    Inv B Z N ρ σ s.heap → Frm B env Z ρ m N → Safe Ar N X → xL C ir m σ (fun xs σ => small xs ∧ K xs σ) X → PostN B Z N ρ s K Q → wpAny (model B.prog B.w) Ar (eval e env) Q F s

theorem eok_fz {l : L} {e : Expr} (h : LOk B C Ar env l e) : EOk B C Ar env (.fz l) e := by
  intro Z N ρ σ m s K X Q F I Fr hX hx P
  rw [yK] at hx
  refine h Z N ρ σ m s (fun xs σ => K (.v (.list xs)) σ) X Q F I Fr hX hx ?_
  intro xs a items n Z1 ρ1 σ1 h1 t1 hsm hk e1 p1 I1 R1
  refine P _ _ _ ρ1 σ1 _ _ hk (e1.trans I1.freeze_ext) p1 I1.freeze ?_
  refine ⟨a, items, n, rfl, by simp [Inv.zset], ?_, R1.mono I1.freeze_ext⟩
  unfold small at hsm; omega

theorem eok_mu {l : L} {e : Expr} (h : LOk B C Ar env l e) : EOk B C Ar env (.mu l) e := by
  intro Z N ρ σ m s K X Q F I Fr hX hx P
  rw [yL] at hx
  refine h Z N ρ σ m s (fun xs σ => K (.ref σ.length) (σ ++ [.list xs])) X Q F I Fr hX hx ?_
  intro xs a items n Z1 ρ1 σ1 h1 t1 hsm hk e1 p1 I1 R1
  have hlt : xs.length < 2 ^ 21 := by unfold small at hsm; omega
  refine P _ _ _ (ρ1 ++ [a]) _ _ _ hk e1 (p1.trans (List.prefix_append _ _)) (I1.newRef ⟨items, n, rfl, hlt, R1⟩) ?_
  exact ⟨a, by rw [← I1.len]; simp, rfl⟩

theorem eok_mur {pos : Pos} : EOk B C Ar env .mur (.List [] pos) := by
  intro Z N ρ σ m s K X Q F I Fr hX hx P
  refine wpAny_List_spliced (args_nil ⟨by simp, ?_⟩)
  have I1 := I.push (listObj [] 0) rfl
  refine P _ _ _ (ρ ++ [s.heap.objs.size]) _ _ s.toks hx (Ext.refl _) (List.prefix_append _ _) (I1.newRef (ob := .refs []) ⟨[], 0, rfl, by decide, rfl⟩) ?_
  exact ⟨_, by rw [← I.len]; simp, rfl⟩

theorem lok_disp {irs : List E} {es : List Expr} {pos : Pos} (h : EsOk B C Ar env irs es) (hlen : irs.length < 1000) : LOk B C Ar env (.disp irs) (.List es pos) := by
  intro Z N ρ σ m s K X Q F I Fr hX hx P
  rw [yX] at hx
  refine wpAny_List_spliced (args_ok h I Fr hX hx ?_)
  intro as vs Z1 ρ1 σ1 h1 t1 hl hx1 e1 p1 I1 R1
  cases ha : allV as with
  | none => rw [ha] at hx1; exact hx1.elim
  | some ws =>
    rw [ha] at hx1
    have hr := repL_of_as R1 ha
    have hlv : ws.length < 1000 := by rw [allV_len ha, hl]; exact hlen
    have hlv' : vs.length < 1000 := by rw [repL_len hr]; exact hlv
    refine ⟨by unfold sizeLine; omega, ?_⟩
    exact P ws _ vs 0 Z1 ρ1 σ1 _ _ hx1.1 hx1.2 e1 p1 (I1.push (listObj vs 0) rfl) hr

/-- an item of a list, a tuple, a dict -/
theorem idx_seq {n : Nat} {k : Int} {j : Nat} (hi : idx n k = some j) (hn : n < 2 ^ 21) : seqIndex? k n = some j ∧ -(2 ^ 63) ≤ k ∧ k < 2 ^ 63 := by
  unfold idx at hi
  unfold seqIndex?
  by_cases h0 : 0 ≤ k
  · rw [if_pos h0] at hi
    by_cases h1 : k < (n : Nat)
    · rw [if_pos h1] at hi; cases hi
      have h2 : ¬ k < 0 := by omega
      simp only [h2, if_false]
      refine ⟨?_, by omega, by omega⟩
      rw [if_pos (by simp; omega)]
    · rw [if_neg h1] at hi; exact nons hi
  · rw [if_neg h0] at hi
    by_cases h1 : 0 ≤ k + (n : Nat)
    · rw [if_pos h1] at hi; cases hi
      have h2 : k < 0 := by omega
      simp only [h2, if_true]
      refine ⟨?_, by omega, by omega⟩
      rw [if_pos (by simp; omega)]
    · rw [if_neg h1] at hi; exact nons hi
theorem item_ok {Z N ρ σ} {s : Shared} {a i r : A} {va vi : Value} {Q : Value → Shared → Prop} {ev es : Expr} (hsl : ∀ b c d p, es ≠ .Slice b c d p) (I : Inv B Z N ρ σ s.heap) (Ra : RepA B Z ρ a va) (Ri : RepA B Z ρ i vi) (h : itemSem σ a i = some r)
    (hQ : ∀ v tk, RepA B Z ρ r v → Q v { s with toks := tk }) : wpAny (model B.prog B.w) Ar (subscriptTail ev es va vi) Q F s := by
  have hs : ∀ o i, subscripted es false o i = operate [o, i] (getItem o i) := by
    intro o i
    cases es <;> first | rfl | (exact absurd rfl (hsl _ _ _ _))
  have lst : ∀ (l : Addr) (items : List Value) (n : Nat) (k : Int) (t : Tok) (j : Nat) (x : Value), s.heap.get? l = some (listObj items n) → items.length < 2 ^ 21 → idx items.length k = some j → items[j]? = some x → RepA B Z ρ r x →
      wpAny (model B.prog B.w) Ar (subscriptTail ev es (.ref l) (.int k t)) Q F s := by
    intro l items n k t j x hg hlt hj hx hr
    have hL := isList_of hg
    have hjlt : j < items.length := (List.getElem?_eq_some_iff.mp hx).1
    unfold idx at hj
    split at hj
    · rename_i h0
      split at hj
      · rename_i h1; cases hj
        exact tail_any hL.typeIs slot_list_getitem.lookup (wpAny_getItem_list hL h0 (by omega) (by simpa using hx) (hQ x s.toks hr)) (hs _ _)
      · cases hj
    · rename_i h0
      split at hj
      · rename_i h1; cases hj
        exact tail_any hL.typeIs slot_list_getitem.lookup (wpAny_getItem_list_neg hL (by omega) (by simp; omega) (by omega) (by simpa using hx) (hQ x s.toks hr)) (hs _ _)
      · cases hj
  have itm : ∀ {α : Type} {xs : List α} {f : α → A}, itemL xs f i = some r → ∃ k t j x, vi = .int k t ∧ idx xs.length k = some j ∧ xs[j]? = some x ∧ r = f x := by
    intro α xs f h
    obtain ⟨k, hk, h⟩ := bindO_of h
    obtain ⟨j, hj, h⟩ := bindO_of h
    obtain ⟨x, hx, h⟩ := Option.map_eq_some_iff.mp h
    rw [asI_of hk] at Ri
    obtain ⟨t, rfl⟩ := Ri
    exact ⟨k, t, j, x, rfl, hj, hx, h.symm⟩
  cases a with
  | v y =>
    obtain ⟨xs, hy, h⟩ := bindO_of h
    obtain ⟨k, t, j, x, rfl, hi, hx, rfl⟩ := itm h
    rcases vS_of hy with rfl | rfl
    · obtain ⟨l, items, n, rfl, hz, hlt, hr⟩ := Ra
      obtain ⟨v, hv, hrv⟩ := repL_get hr hx
      have hl := repL_len hr
      exact lst l items n k t j v (I.zin _ _ hz) (by omega) (by rw [hl]; exact hi) hv hrv
    · obtain ⟨l, items, n, rfl, hz, hlt, hr⟩ := Ra
      obtain ⟨v, hv, hrv⟩ := repL_get hr hx
      have hl := repL_len hr
      have hT : IsTup s.heap l items.toArray := ⟨_, I.zin _ _ hz, rfl, n, rfl⟩
      have hsi := idx_seq (hl ▸ hi) (by omega)
      exact tail_any hT.typeIs slot_tuple_getitem.lookup (PyProof.Rows.getItem_tuple hT hsi.2.1 hsi.2.2 (by simpa using hsi.1) (by simpa using hv) (hQ v s.toks hrv)) (hs _ _)
  | ref rr =>
    obtain ⟨l, e, rfl⟩ := Ra
    obtain ⟨its, ho, h⟩ := bindO_of h
    obtain ⟨k, t, j, x, rfl, hi, hx, rfl⟩ := itm h
    obtain ⟨items, n, hg, hlt, hr⟩ := lst_live I e ho
    obtain ⟨v, hv, hrv⟩ := repAs_at hr hx
    exact lst l items n k t j v hg hlt (by rw [repAs_len hr]; exact hi) hv hrv
  | inst _ _ => exact nons h

theorem eok_item {a i : E} {ev es : Expr} {pos : Pos} (hsl : ∀ b c d p, es ≠ .Slice b c d p) (ha : EOk B C Ar env a ev) (hi : EOk B C Ar env i es) : EOk B C Ar env (.item a i) (.Subscript ev es pos) := by
  intro Z N ρ σ m s K X Q F I Fr hX hx P
  rw [yM] at hx
  refine Subscript_ (ha Z N ρ σ m s _ X _ F I Fr hX hx ?_)
  intro va v Z1 ρ1 σ1 h1 t1 hx1 e1 p1 I1 R1
  refine hi Z1 N ρ1 σ1 m _ _ X _ F I1 (Fr.mono e1 p1) hX hx1 ?_
  intro vi w Z2 ρ2 σ2 h2 t2 hx2 e2 p2 I2 R2
  cases hq : itemSem σ2 va vi with
  | none => rw [hq] at hx2; exact hx2.elim
  | some r =>
    rw [hq] at hx2
    exact item_ok hsl I2 (R1.mono e2 p2) R2 hq fun v tk hr => P _ _ Z2 ρ2 σ2 _ _ hx2 (e1.trans e2) (p1.trans p2) I2 hr
end
end Fl

namespace Fl
open PySem PyProof.Rows
set_option linter.unusedSimpArgs false

section
variable {B : Bs} {C : CallSem} {Ar : Around} {env : Env} {F : Value → Shared → Prop}

theorem call_args {f : Value} {irs : List E} {es : List Expr} {pos : Pos} (hf : (∃ id, f = .builtin id) ∨ (∃ T, f = .type T)) (h : EsOk B C Ar env irs es)
    {Z N ρ σ m} {s : Shared} {K : List A → H → Prop} {X : String → H → Prop} {Q : Value → Shared → Prop} (I : Inv B Z N ρ σ s.heap) (Fr : Frm B env Z ρ m N) (hX : Safe Ar N X) (hx : xEs C irs m σ K X)
    (P : PostL B irs.length Z N ρ s K (fun vs s' => wpAny (model B.prog B.w) Ar (call f vs) Q F s')) : wpAny (model B.prog B.w) Ar (callWith pos f [] (backTo pos (starEach es env)) []) Q F s := by
  have hp := starEach_plain (env := env) (pos := pos) h.un
  have key : wpAny (model B.prog B.w) Ar (evalArgs f true (backTo pos (starEach es env)) []) (fun a s₁ => wpAny (model B.prog B.w) Ar (call f ([] ++ a.pos) a.kw) Q F s₁) F s := by
    cases h with
    | nil =>
      simp only [yV, yW] at hx
      refine PyProof.Rows.evalArgs_none ?_
      exact P [] [] Z ρ σ s.heap s.toks rfl hx (Ext.refl _) (List.prefix_refl _) I rfl
    | cons he hu hr =>
      have h' := args_ok (F := F) (pos := pos) (EsOk.cons he hu hr) I Fr hX hx P
      rw [starEach_un hu] at h' ⊢
      exact Calls.evalArgs_plain h'
  rcases hf with ⟨id, rfl⟩ | ⟨T, rfl⟩
  · exact Calls.callWith_builtin hp key
  · exact PySem.callWith_type hp key

/-- a built-in called by its name -/
theorem bcall {nm : Str} {f : Value} {irs : List E} {es : List Expr} {p pos : Pos} (hg : GName B nm f) (hk : env.kindOf nm = some .globalImplicit) (hd : (nm == ("__debug__" : Str)) = false) (hf : (∃ id, f = .builtin id) ∨ (∃ T, f = .type T)) (h : EsOk B C Ar env irs es)
    {Z N ρ σ m} {s : Shared} {K : List A → H → Prop} {X : String → H → Prop} {Q : Value → Shared → Prop} (I : Inv B Z N ρ σ s.heap) (Fr : Frm B env Z ρ m N) (hX : Safe Ar N X) (hx : xEs C irs m σ K X)
    (P : PostL B irs.length Z N ρ s K (fun vs s' => wpAny (model B.prog B.w) Ar (call f vs) Q F s')) : wpAny (model B.prog B.w) Ar (eval (.Call (.Name nm p) es [] pos) env) Q F s :=
  wpAny_Call_NameR (ld_glob I Fr hg hk hd (call_args hf h I Fr hX hx P))

theorem len_ok {Z N ρ σ} {s : Shared} {a : A} {v : Value} {n : Nat} {Q : Value → Shared → Prop} (hsm : ∃ o, B.h0.get? sysModules = some o) (I : Inv B Z N ρ σ s.heap) (R : RepA B Z ρ a v) (h : lenA σ a = some n)
    (hQ : ∀ t tk, Q (.int n t) { s with toks := tk }) : wpAny (model B.prog B.w) Ar (call (.builtin "len") [v]) Q F s := by
  have lst : ∀ (l : Addr) (items : List Value) (k : Nat), s.heap.get? l = some (listObj items k) → items.length = n → n < 2 ^ 21 → wpAny (model B.prog B.w) Ar (call (.builtin "len") [.ref l]) Q F s := by
    intro l items k hg hk hlt
    exact len_list (isList_of hg) (by simp; omega) (by simpa [hk] using hQ _ _)
  cases a with
  | v x =>
    obtain ⟨xs, hx, rfl⟩ := Option.map_eq_some_iff.mp h
    rcases vS_of hx with rfl | rfl
    · obtain ⟨l, items, k, rfl, hz, hs, hr⟩ := R
      exact lst l items k (I.zin _ _ hz) (repL_len hr) hs
    · obtain ⟨l, items, k, rfl, hz, hs, hr⟩ := R
      have hT : IsTup s.heap l items.toArray := ⟨_, I.zin _ _ hz, rfl, k, rfl⟩
      have hl := repL_len hr
      exact len_tuple hT (by simp; omega) (by simpa [hl] using hQ _ _)
  | ref i =>
    obtain ⟨l, e, rfl⟩ := R
    obtain ⟨its, hi, rfl⟩ := Option.map_eq_some_iff.mp h
    obtain ⟨items, k, hg, hs, hr⟩ := lst_live I e hi
    exact lst l items k hg (repAs_len hr) (by rw [← repAs_len hr]; exact hs)
  | inst _ _ => exact nons h

theorem min2_ok {Z N ρ σ} {s : Shared} {i j : Int} {t u : Tok} {Q : Value → Shared → Prop} (hh : Ar.handled = none) (I : Inv B Z N ρ σ s.heap)
    (hQ : ∀ t h' tk, Inv B Z N ρ σ h' → Q (.int (min i j) t) { s with heap := h', toks := tk }) : wpAny (model B.prog B.w) Ar (call (.builtin "min") [.int i t, .int j u]) Q F s := by
  refine min_two_ints hh fun h' tk hk => ?_
  have := fun t => hQ t h' tk (I.keeps hk)
  by_cases h : j < i
  · rw [if_pos h]; rw [Int.min_eq_right (by omega)] at this; exact this u
  · rw [if_neg h]; rw [Int.min_eq_left (by omega)] at this; exact this t
theorem max2_ok {Z N ρ σ} {s : Shared} {i j : Int} {t u : Tok} {Q : Value → Shared → Prop} (hh : Ar.handled = none) (I : Inv B Z N ρ σ s.heap)
    (hQ : ∀ t h' tk, Inv B Z N ρ σ h' → Q (.int (max i j) t) { s with heap := h', toks := tk }) : wpAny (model B.prog B.w) Ar (call (.builtin "max") [.int i t, .int j u]) Q F s := by
  refine max_two_ints hh fun h' tk hk => ?_
  have := fun t => hQ t h' tk (I.keeps hk)
  by_cases h : j > i
  · rw [if_pos h]; rw [Int.max_eq_right (by omega)] at this; exact this u
  · rw [if_neg h]; rw [Int.max_eq_left (by omega)] at this; exact this t

/-- the least, the greatest, of two ints -/
theorem mm_ok {Z N ρ σ} {s : Shared} {mx : Bool} {i j : Int} {v : Value} {Q : Value → Shared → Prop} (hh : Ar.handled = none) (I : Inv B Z N ρ σ s.heap) (R : RepV B Z (.tup [.int i, .int j]) v)
    (hQ : ∀ t h' tk, Inv B Z N ρ σ h' → Q (.int (if mx then max i j else min i j) t) { s with heap := h', toks := tk }) : wpAny (model B.prog B.w) Ar (call (.builtin (if mx then "max" else "min")) [v]) Q F s := by
  obtain ⟨l, items, n, rfl, hz, _, v1, r1, rfl, ⟨t, rfl⟩, v2, r2, rfl, ⟨u, rfl⟩, hr2⟩ := R
  obtain rfl : r2 = [] := hr2
  have hg := I.zin _ _ hz
  have hlt : l < s.heap.objs.size := Heap.lt_size hg
  have hT : s.heap.IsTuple l [Value.int i t, .int j u].toArray := ⟨_, hg, rfl, n, rfl⟩
  have fp : ∀ b ∈ [s.heap.objs.size, l], b < (s.heap.push { cls := .type "tuple_iterator", data := .fields #[.ref l, .int 0 0] }).objs.size := by
    intro b hb; rw [Heap.size_push]; simp only [List.mem_cons, List.not_mem_nil, or_false] at hb; rcases hb with e | e <;> rw [e] <;> first | exact Nat.lt_succ_self _ | exact Nat.lt_succ_of_lt hlt
  have old : ∀ {oi : Obj} {h' : Heap}, (∀ b o, b ∉ [s.heap.objs.size] → (s.heap.push oi).get? b = some o → h'.get? b = some o) → ∀ b o, s.heap.get? b = some o → h'.get? b = some o := by
    intro oi h' hk b o e
    refine hk b o (fun hm => ?_) (Heap.get?_push_of_some _ e)
    simp at hm
    exact absurd (hm ▸ Heap.lt_size e) (Nat.lt_irrefl _)
  have val : ∀ (k : Nat) (w : Value), [Value.int i t, .int j u].toArray[k]? = some w → ∃ t, w = .int ([i, j].getD k 0) t := by
    intro k w h
    match k, h with
    | 0, h => cases h; exact ⟨_, rfl⟩
    | 1, h => cases h; exact ⟨_, rfl⟩
  cases mx with
  | true =>
    refine call_max_walk (wpAny_pyIter_tuple hT ?_)
    refine ⟨_, _, _, _, _, _, fun a b => decide ([i, j].getD a 0 > [i, j].getD b 0), rfl, Walks.tuple (A := Ar.in1) hh _ l (Nat.ne_of_lt hlt) _, ⟨⟨_, Heap.get?_push_size _ rfl, rfl, rfl⟩, hT.push _⟩, fp, Nat.succ_pos 1, CmpOf.ints_gt _ val, fun w h' tk hP hk => ?_⟩
    have hI := I.keeps (old hk)
    have hP : [Value.int i t, .int j u].toArray[if decide (j > i) = true then 1 else 0]? = some w := hP
    by_cases h : j > i
    · rw [decide_eq_true h] at hP
      cases hP
      have := hQ u h' tk hI
      rw [if_pos rfl, Int.max_eq_right (by omega)] at this; exact this
    · rw [decide_eq_false h] at hP
      cases hP
      have := hQ t h' tk hI
      rw [if_pos rfl, Int.max_eq_left (by omega)] at this; exact this
  | false =>
    refine call_min_walk (wpAny_pyIter_tuple hT ?_)
    refine ⟨_, _, _, _, _, _, fun a b => decide ([i, j].getD a 0 < [i, j].getD b 0), rfl, Walks.tuple (A := Ar.in1) hh _ l (Nat.ne_of_lt hlt) _, ⟨⟨_, Heap.get?_push_size _ rfl, rfl, rfl⟩, hT.push _⟩, fp, Nat.succ_pos 1, CmpOf.ints_lt _ val, fun w h' tk hP hk => ?_⟩
    have hI := I.keeps (old hk)
    have hP : [Value.int i t, .int j u].toArray[if decide (j < i) = true then 1 else 0]? = some w := hP
    by_cases h : j < i
    · rw [decide_eq_true h] at hP
      cases hP
      have := hQ u h' tk hI
      rw [if_neg (fun e => nomatch e), Int.min_eq_right (by omega)] at this; exact this
    · rw [decide_eq_false h] at hP
      cases hP
      have := hQ t h' tk hI
      rw [if_neg (fun e => nomatch e), Int.min_eq_left (by omega)] at this; exact this
end
end Fl

namespace Fl
open PySem PyProof.Rows
set_option linter.unusedSimpArgs false

noncomputable def biNames : List (String × Value) := [("len", .builtin "len"), ("min", .builtin "min"), ("max", .builtin "max"), ("sorted", .builtin "sorted"), ("isinstance", .builtin "isinstance"), ("all", .builtin "all"),
  ("list", .type "list"), ("tuple", .type "tuple"), ("range", .type "range"), ("int", .type "int"), ("bool", .type "bool"), ("set", .type "set"), ("reversed", .type "reversed"), ("enumerate", .type "enumerate"), ("zip", .type "zip"), ("ValueError", .type "ValueError")]

structure BOk (B : Bs) : Prop where
  sysm : ∃ o, B.h0.get? sysModules = some o
  nolim : B.h0.NoLimit
  bn : ∀ x v, (x, v) ∈ biNames → GName B (Str.ofString x) v

theorem mem_lookup {α : Type} {l : List (String × α)} {x : String} {a : α} (h : l.lookup x = some a) : (x, a) ∈ l := by
  induction l with
  | nil => simp at h
  | cons p r ih =>
    obtain ⟨y, b⟩ := p
    rw [List.lookup_cons] at h
    cases hq : x == y with
    | true => rw [hq] at h; cases h; rw [beq_iff_eq.mp hq]; exact List.mem_cons_self
    | false => rw [hq] at h; exact List.mem_cons_of_mem _ (ih h)
theorem BOk.at {B : Bs} (O : BOk B) (x : String) (v : Value) (h : biNames.lookup x = some v) : GName B (Str.ofString x) v := O.bn x v (mem_lookup h)

noncomputable def biStr : Bi → String
  | .len => "len" | .min => "min" | .max => "max" | .range => "range" | .int => "int" | .tuple => "tuple"
noncomputable def biVal : Bi → Value
  | .len => .builtin "len" | .min => .builtin "min" | .max => .builtin "max" | .range => .type "range" | .int => .type "int" | .tuple => .type "tuple"
theorem bi_in (f : Bi) : (biStr f, biVal f) ∈ biNames := by cases f <;> repeat (first | exact List.Mem.head _ | apply List.Mem.tail)
theorem bi_fn (f : Bi) : (∃ id, biVal f = .builtin id) ∨ (∃ T, biVal f = .type T) := by
  cases f <;> first | exact .inl ⟨_, rfl⟩ | exact .inr ⟨_, rfl⟩
theorem bi_dbg (f : Bi) : (Str.ofString (biStr f) == ("__debug__" : Str)) = false := by cases f <;> decide +kernel

section
variable {B : Bs} {C : CallSem} {Ar : Around} {env : Env} {F : Value → Shared → Prop}

theorem reps1 {Z : Zm} {ρ : List Addr} {a : A} {vs : List Value} (h : RepAs B Z ρ [a] vs) : ∃ v, vs = [v] ∧ RepA B Z ρ a v := by
  obtain ⟨v, r, rfl, h1, h2⟩ := h; simp only [RepAs_0, RepAs_1] at h2; subst h2; exact ⟨v, rfl, h1⟩
theorem reps2 {Z : Zm} {ρ : List Addr} {a b : A} {vs : List Value} (h : RepAs B Z ρ [a, b] vs) : ∃ v w, vs = [v, w] ∧ RepA B Z ρ a v ∧ RepA B Z ρ b w := by
  obtain ⟨v, r, rfl, h1, h2⟩ := h; obtain ⟨w, rfl, h3⟩ := reps1 h2; exact ⟨v, w, rfl, h1, h3⟩

theorem mms_ok {mx : Bool} {Z N ρ σ} {s : Shared} {as : List A} {vs : List Value} {K : A → Prop} {Q : Value → Shared → Prop} (hh : Ar.handled = none) (I : Inv B Z N ρ σ s.heap) (R : RepAs B Z ρ as vs) (h : mmSem mx K as)
    (hQ : ∀ a v h' tk, K a → Inv B Z N ρ σ h' → RepA B Z ρ a v → Q v { s with heap := h', toks := tk }) : wpAny (model B.prog B.w) Ar (call (.builtin (if mx then "max" else "min")) vs) Q F s := by
  rcases as with _ | ⟨a, _ | ⟨b, _ | ⟨c, r⟩⟩⟩
  · exact (show False from h).elim
  · obtain ⟨v, rfl, Ra⟩ := reps1 R
    obtain ⟨xs, hl, h⟩ := get_of (show get (asT a) _ from h)
    obtain ⟨p, hp, h⟩ := get_of h
    obtain ⟨i, hi, h⟩ := get_of h
    obtain ⟨j, hj, hK⟩ := get_of h
    rw [asT_of hl, two2_of hp, vI_of hi, vI_of hj] at Ra
    exact mm_ok hh I Ra fun t h' tk I' => hQ _ _ h' tk hK I' ⟨_, rfl⟩
  · obtain ⟨i, hi, h⟩ := get_of (show get (asI a) _ from h)
    obtain ⟨j, hj, hK⟩ := get_of h
    obtain ⟨v, w, rfl, R1, R2⟩ := reps2 R
    rw [asI_of hi] at R1
    rw [asI_of hj] at R2
    obtain ⟨t, rfl⟩ := R1
    obtain ⟨u, rfl⟩ := R2
    cases mx with
    | false => exact min2_ok hh I fun t h' tk I' => hQ _ _ h' tk hK I' ⟨_, rfl⟩
    | true => exact max2_ok hh I fun t h' tk I' => hQ _ _ h' tk hK I' ⟨_, rfl⟩
  · exact (show False from h).elim

theorem bi_ok {f : Bi} {Z N ρ σ} {s : Shared} {as : List A} {vs : List Value} {K : A → Prop} {Q : Value → Shared → Prop} (O : BOk B) (hh : Ar.handled = none) (hu : Ar.units + 80 < cLine) (I : Inv B Z N ρ σ s.heap) (R : RepAs B Z ρ as vs) (h : biSem σ K f as)
    (hQ : ∀ a v Z' h' tk, K a → Ext Z Z' → Inv B Z' N ρ σ h' → RepA B Z' ρ a v → Q v { s with heap := h', toks := tk }) : wpAny (model B.prog B.w) Ar (call (biVal f) vs) Q F s := by
  cases f with
  | len =>
    obtain ⟨a, ha, h⟩ := get_of h
    obtain ⟨n, hl, h⟩ := get_of h
    rw [one1_of ha] at R
    obtain ⟨v, rfl, Ra⟩ := reps1 R
    exact len_ok O.sysm I Ra hl fun t tk => hQ _ _ Z _ tk h (Ext.refl _) I ⟨_, rfl⟩
  | min => exact mms_ok (mx := false) hh I R h fun a v h' tk hk I' R' => hQ a v Z h' tk hk (Ext.refl _) I' R'
  | max => exact mms_ok (mx := true) hh I R h fun a v h' tk hk I' R' => hQ a v Z h' tk hk (Ext.refl _) I' R'
  | range =>
    obtain ⟨a, ha, h⟩ := get_of h
    obtain ⟨n0, hi, h1, h2, h⟩ := get_of h
    rw [one1_of ha] at R
    obtain ⟨v, rfl, R1⟩ := reps1 R
    rw [asI_of hi] at R1
    obtain ⟨t, rfl⟩ := R1
    refine call_range_1 ?_
    have I1 := I.push (rangeObj 0 n0 1 s.toks t (s.toks + 1)) rfl
    refine hQ _ _ _ _ _ h I1.freeze_ext I1.freeze ?_
    exact ⟨_, s.toks, t, s.toks + 1, rfl, by simp [Inv.zset], by omega, by omega, h2, h1⟩
  | int =>
    obtain ⟨a, ha, h⟩ := get_of h
    obtain ⟨b, hb, h⟩ := get_of h
    rw [one1_of ha] at R
    obtain ⟨v, rfl, R1⟩ := reps1 R
    rw [asB_of hb] at R1
    obtain rfl := R1
    refine call_int_bool ?_
    exact hQ _ _ Z _ _ h (Ext.refl _) I ⟨_, rfl⟩
  | tuple =>
    obtain ⟨a, ha, h⟩ := get_of h
    obtain ⟨xs, hl, hsm, h⟩ := get_of h
    rw [one1_of ha] at R
    obtain ⟨v, rfl, R1⟩ := reps1 R
    rw [asLv_of hl] at R1
    obtain ⟨l, items, n, rfl, hg, hlt, hr⟩ := list_at I R1 (YW _ _)
    have hlen := repL_len hr
    refine call_tuple_list (isList_of hg) (fun h' hk => ?_) (by unfold sizeLine; simp; omega)
    have I1 := (I.keeps hk).push (tupObj items 0) rfl
    refine hQ _ _ _ _ s.toks h I1.freeze_ext I1.freeze ?_
    exact ⟨_, items, 0, rfl, by simp [Inv.zset], by omega, hr.mono I1.freeze_ext⟩

theorem eok_bi {f : Bi} {irs : List E} {es : List Expr} {p pos : Pos} (O : BOk B) (hh : Ar.handled = none) (hu : Ar.units + 80 < cLine) (hk : env.kindOf (Str.ofString (biStr f)) = some .globalImplicit) (h : EsOk B C Ar env irs es) : EOk B C Ar env (.bi f irs) (.Call (.Name (Str.ofString (biStr f)) p) es [] pos) := by
  intro Z N ρ σ m s K X Q F I Fr hX hx P
  rw [yS] at hx
  refine bcall (O.bn _ _ (bi_in f)) hk (bi_dbg f) (bi_fn f) h I Fr hX hx ?_
  intro as vs Z1 ρ1 σ1 h1 t1 _ hx1 e1 p1 I1 R1
  exact bi_ok O hh hu I1 R1 hx1 fun a v Z2 h2 tk hk e2 I2 R2 => P a v Z2 ρ1 σ1 h2 tk hk (e1.trans e2) p1 I2 R2
end
end Fl

namespace Fl
open PySem PyProof.Rows
set_option linter.unusedSimpArgs false

section
variable {B : Bs} {C : CallSem} {Ar : Around} {env : Env} {F : Value → Shared → Prop}

/-! isinstance -/
noncomputable def clStr : Cl → Str
  | .int => "int" | .bool => "bool" | .list => "list" | .tuple => "tuple"
noncomputable def clVal : Cl → Option Value
  | .int => some (.type "int") | .bool => some (.type "bool") | .list => some (.type "list") | .tuple => some (.type "tuple")

theorem isi_ok {c : Cl} {cv : Value} {Z N ρ σ} {s : Shared} {a : A} {v : Value} {r : Bool} {Q : Value → Shared → Prop} (hc : clVal c = some cv) (I : Inv B Z N ρ σ s.heap) (R : RepA B Z ρ a v) (h : isiSem σ a c = some r)
    (hQ : ∀ tk, Q (.bool r) { s with toks := tk }) : wpAny (model B.prog B.w) Ar (call (.builtin "isinstance") [v, cv]) Q F s := by
  have lst : ∀ (l : Addr) (items : List Value) (n : Nat), s.heap.get? l = some (listObj items n) → iL c = some r → wpAny (model B.prog B.w) Ar (call (.builtin "isinstance") [.ref l, cv]) Q F s := by
    intro l items n hg h
    cases c <;> cases hc <;> obtain rfl := Option.some.inj h
    · exact IsiPair.list_int hg rfl (hQ _)
    · exact IsiPair.list_bool hg rfl (hQ _)
    · exact IsiPair.list_list hg rfl (hQ s.toks)
    · exact IsiPair.list_tuple hg rfl (hQ _)
  cases a with
  | v x =>
    cases x with
    | int i =>
      obtain ⟨t, rfl⟩ := R
      cases c <;> cases hc <;> obtain rfl := Option.some.inj h
      · exact IsiPair.int_int (hQ s.toks)
      · exact IsiPair.int_bool (hQ _)
      · exact IsiPair.int_list (hQ _)
      · exact IsiPair.int_tuple (hQ _)
    | bool b =>
      obtain rfl := R
      cases c <;> cases hc <;> obtain rfl := Option.some.inj h
      · exact IsiPair.bool_int (hQ s.toks)
      · exact IsiPair.bool_bool (hQ s.toks)
      · exact IsiPair.bool_list (hQ _)
      · exact IsiPair.bool_tuple (hQ _)
    | str x =>
      obtain ⟨t, rfl⟩ := R
      cases c <;> cases hc <;> obtain rfl := Option.some.inj h
      · exact IsiPair.str_int (hQ _)
      · exact IsiPair.str_bool (hQ _)
      · exact IsiPair.str_list (hQ _)
      · exact IsiPair.str_tuple (hQ _)
    | none =>
      obtain rfl := R
      cases c <;> cases hc <;> obtain rfl := Option.some.inj h
      · exact IsiPair.NoneType_int (hQ _)
      · exact IsiPair.NoneType_bool (hQ _)
      · exact IsiPair.NoneType_list (hQ _)
      · exact IsiPair.NoneType_tuple (hQ _)
    | edict =>
      obtain ⟨l, n, rfl, hz, _⟩ := R
      have hg := I.zin _ _ hz
      cases c <;> cases hc <;> obtain rfl := Option.some.inj h
      · exact IsiPair.dict_int hg rfl (hQ _)
      · exact IsiPair.dict_bool hg rfl (hQ _)
      · exact IsiPair.dict_list hg rfl (hQ _)
      · exact IsiPair.dict_tuple hg rfl (hQ _)
    | tup xs =>
      obtain ⟨l, items, n, rfl, hz, _, _⟩ := R
      have hg := I.zin _ _ hz
      cases c <;> cases hc <;> obtain rfl := Option.some.inj h
      · exact IsiPair.tuple_int hg rfl (hQ _)
      · exact IsiPair.tuple_bool hg rfl (hQ _)
      · exact IsiPair.tuple_list hg rfl (hQ _)
      · exact IsiPair.tuple_tuple hg rfl (hQ s.toks)
    | list xs =>
      obtain ⟨l, items, n, rfl, hz, _, _⟩ := R
      exact lst l items n (I.zin _ _ hz) h
    | _ => exact nons h
  | ref i =>
    obtain ⟨l, e, rfl⟩ := R
    obtain ⟨its, hi, h⟩ := bindO_of h
    obtain ⟨items, n, hg, _⟩ := lst_live I e hi
    exact lst l items n hg h
  | inst _ _ => exact nons h

theorem eok_isi {c : Cl} {cv : Value} {a : E} {e : Expr} {p pc pos : Pos} (O : BOk B) (hcv : clVal c = some cv) (hk : env.kindOf ("isinstance" : Str) = some .globalImplicit) (hkc : env.kindOf (clStr c) = some .globalImplicit) (hu : unstar e = true) (ha : EOk B C Ar env a e) :
    EOk B C Ar env (.isi a c) (.Call (.Name "isinstance" p) [e, .Name (clStr c) pc] [] pos) := by
  intro Z N ρ σ m s K X Q F I Fr hX hx P
  rw [yR] at hx
  refine wpAny_Call_NameR (ld_glob I Fr (O.at "isinstance" (.builtin "isinstance") rfl) hk (by decide) ?_)
  have hgc : GName B (clStr c) cv := by
    cases c <;> cases hcv
    · exact O.at "int" _ rfl
    · exact O.at "bool" _ rfl
    · exact O.at "list" _ rfl
    · exact O.at "tuple" _ rfl
  have hdc : (clStr c == ("__debug__" : Str)) = false := by cases c <;> cases hcv <;> decide +kernel
  have hp : (backTo pos (starEach [e, .Name (clStr c) pc] env)).any (·.1) = false := starEach_plain (by rw [List.all_cons, hu]; rfl)
  refine Calls.callWith_builtin hp ?_
  have h' : wpAny (model B.prog B.w) Ar (spliced (backTo pos (starEach [e, .Name (clStr c) pc] env))) (fun vs s' => wpAny (model B.prog B.w) Ar (call (.builtin "isinstance") ([] ++ vs) []) Q F s') F s := by
    refine args_cons (ha Z N ρ σ m s _ X _ F I Fr hX hx ?_) (starEach_un hu)
    intro va v Z1 ρ1 σ1 h1 t1 hx1 e1 p1 I1 R1
    refine args_cons (ld_glob I1 (Fr.mono e1 p1) hgc hkc hdc (args_nil ?_)) (starEach_un rfl)
    cases hi : isiSem σ1 va c with
    | none => rw [hi] at hx1; exact hx1.elim
    | some r =>
      rw [hi] at hx1
      exact isi_ok hcv I1 R1 hi fun tk => P _ _ Z1 ρ1 σ1 _ tk hx1 e1 p1 I1 (by first | exact rfl | exact ⟨_, rfl⟩)
  rw [starEach_un hu] at h' ⊢
  exact Calls.evalArgs_plain h'

/-! lists that are made -/
theorem smallR {lo hi : Int} (b1 : -(2 ^ 20) < lo) (b2 : lo < 2 ^ 20) (b3 : -(2 ^ 20) < hi) (b4 : hi < 2 ^ 20) : Builtin.Range.small lo hi 1 = true := small_one (by omega) (by omega) (by omega) (by omega)
theorem lok_copy {a : E} {e : Expr} {p pos : Pos} (O : BOk B) (hh : Ar.handled = none) (hk : env.kindOf ("list" : Str) = some .globalImplicit) (hu : unstar e = true) (ha : EOk B C Ar env a e) : LOk B C Ar env (.copy a) (.Call (.Name "list" p) [e] [] pos) := by
  intro Z N ρ σ m s K X Q F I Fr hX hx P
  rw [yZ] at hx
  have hE : EsOk B C Ar env [a] [e] := .cons ha hu .nil
  refine bcall (K := fun as σ => get (one1 as) fun va => get (seqV σ va) fun xs => small xs ∧ K xs σ) (O.at "list" (.type "list") rfl) hk (by decide) (.inr ⟨_, rfl⟩) hE I Fr hX (show xEs C [a] m σ _ X from hx) ?_
  intro as vs Z1 ρ1 σ1 h1 t1 hl hx1 e1 p1 I1 R1
  cases as with
  | nil => exact nomatch hl
  | cons va r =>
    cases r with
    | cons _ _ => exact nomatch hl
    | nil =>
      obtain ⟨v, rfl, Ra⟩ := reps1 R1
      have hx1 : get (seqV σ1 va) fun xs => small xs ∧ K xs σ1 := hx1
      obtain ⟨xs, hs, hsm, hK⟩ := get_of hx1
      have hlt20 : xs.length < 2 ^ 20 := hsm
      by_cases hr : ∃ lo hi, va = .v (.range lo hi)
      · obtain ⟨lo, hi, rfl⟩ := hr
        obtain ⟨l, t, u, w, rfl, hz, b1, b2, b3, b4⟩ := Ra
        have hs : (List.range (hi - lo).toNat).map (fun (k : Nat) => V.int (lo + (k : Int))) = xs := Option.some.inj hs
        have hn : (hi - lo).toNat = xs.length := by rw [← hs]; simp
        refine call_list_range (n := xs.length) hh (show IsRange _ l lo hi 1 t u w from I1.zin _ _ hz) (smallR b1 b2 b3 b4) (by rw [rangeSize_nat, hn]) (by omega) fun h' tk acc' c' hk' hg hit => ?_
        have I2 := I1.keepsNew (a := h1.objs.size) (o := listObj acc'.toList c') hk' (Nat.le_refl _) (by rw [hg]; simp [listObj])
        refine P xs _ acc'.toList c' Z1 ρ1 σ1 h' tk hsm hK e1 p1 I2 ?_
        rw [repL_iff]
        refine ⟨by simp [hit.1], fun j x hj => ?_⟩
        have hjl : j < xs.length := (List.getElem?_eq_some_iff.mp hj).1
        have hja : acc'[j]? = some acc'[j]! := by
          have : j < acc'.size := by rw [hit.1]; exact hjl
          simp [this]
        obtain ⟨tt, htt⟩ := hit.2 j _ hja
        refine ⟨acc'[j]!, by simpa using hja, ?_⟩
        have hx : x = .int (lo + (j : Int)) := by
          rw [← hs] at hj
          simp only [List.getElem?_map] at hj
          cases hr' : (List.range (hi - lo).toNat)[j]? with
          | none => rw [hr'] at hj; cases hj
          | some k =>
            rw [hr'] at hj
            simp only [Option.map_some, Option.some.injEq] at hj
            have : k = j := by
              have := List.getElem?_eq_some_iff.mp hr'
              obtain ⟨h1', h2'⟩ := this
              simpa using h2'.symm
            rw [← hj, this]
        rw [hx, htt]; exact ⟨tt, by simp⟩
      · have hlt : listV σ1 va = some xs := by
          cases va with
          | v x => cases x <;> first | exact hs | exact absurd ⟨_, _, rfl⟩ hr | exact nons hs
          | ref i => exact hs
          | inst _ _ => exact nons hs
        obtain ⟨l, items, n, rfl, hg, hlt', hr'⟩ := list_at I1 Ra hlt
        have hlen := repL_len hr'
        refine call_list_seq l (.inl rfl) hg rfl rfl (fun h' c' hk' hg' => ?_) (by unfold sizeLine; simp; omega)
        have I2 := I1.keepsNew (a := h1.objs.size) (o := listObj items c') hk' (Nat.le_refl _) hg'
        exact P xs _ items c' Z1 ρ1 σ1 h' _ hsm hK e1 p1 I2 hr'

theorem eok_opt {o : Option E} {eo : Option Expr} (h : match o, eo with | some a, some e => EOk B C Ar env a e | Option.none, Option.none => True | _, _ => False)
    {Z N ρ σ m} {s : Shared} {K : Option Int → H → Prop} {X : String → H → Prop} {Q : Value → Shared → Prop} (I : Inv B Z N ρ σ s.heap) (Fr : Frm B env Z ρ m N) (hX : Safe Ar N X) (hx : xO C o m σ K X)
    (P : ∀ k v Z' ρ' σ' h' tk, K k σ' → Ext Z Z' → ρ <+: ρ' → Inv B Z' N ρ' σ' h' → IsPart v k → Q v { s with heap := h', toks := tk }) : wpAny (model B.prog B.w) Ar (evalPart eo env) Q F s := by
  cases o with
  | none =>
    cases eo with
    | none => simp only [y6, y7] at hx; exact wpAny_evalPart_none (P Option.none _ Z ρ σ _ s.toks hx (Ext.refl _) (List.prefix_refl _) I .none)
    | some _ => exact h.elim
  | some a =>
    cases eo with
    | none => exact h.elim
    | some e =>
      simp only [y6, y7] at hx
      refine wpAny_evalPart_some (h Z N ρ σ m s _ X _ F I Fr hX hx ?_)
      intro va v Z1 ρ1 σ1 h1 t1 hx1 e1 p1 I1 R1
      obtain ⟨i, hi, hx1⟩ := get_of hx1
      rw [asI_of hi] at R1
      obtain ⟨t, rfl⟩ := R1
      exact P _ _ Z1 ρ1 σ1 _ _ hx1 e1 p1 I1 (.int _ _)

theorem slice_rep {Z : Zm} {xs : List V} {items : List Value} (hr : RepL B Z xs items) (lo hi : Option Int) : RepL B Z (sliceV xs lo hi) (slicePick items.toArray lo hi none).toList := by
  have hl := repL_len hr
  rw [slicePick_plain]
  have hc : ∀ k : Int, clipAt items.toArray.size k = cut xs.length k := by
    intro k
    have h1 := clipAt_cast items.toArray.size k
    unfold cut
    simp only [List.size_toArray, hl] at h1 ⊢
    split at h1
    · rename_i h0; rw [if_pos h0]; omega
    · rename_i h0; rw [if_neg h0]; omega
  have hlo : lo.elim 0 (clipAt items.toArray.size) = loN xs.length lo := by cases lo <;> simp only [Option.elim, loN, hc]
  have hhi : hi.elim items.toArray.size (clipAt items.toArray.size) = hiN xs.length hi := by
    cases hi with
    | none => simp only [Option.elim, hiN, List.size_toArray, hl]
    | some k => simp only [Option.elim, hiN, hc]
  rw [hlo, hhi]
  unfold sliceV
  have := repL_drop (loN xs.length lo) (repL_take (hiN xs.length hi) hr)
  rw [List.drop_take, List.drop_take] at this
  rw [List.drop_take]
  simpa using this

theorem lok_slice {a : E} {lo hi : Option E} {ev : Expr} {el eh : Option Expr} {p pos : Pos} (ha : EOk B C Ar env a ev) (hl : match lo, el with | some a, some e => EOk B C Ar env a e | Option.none, Option.none => True | _, _ => False)
    (hhi : match hi, eh with | some a, some e => EOk B C Ar env a e | Option.none, Option.none => True | _, _ => False) : LOk B C Ar env (.slice a lo hi) (.Subscript ev (.Slice el eh none p) pos) := by
  intro Z N ρ σ m s K X Q F I Fr hX hx P
  rw [y0] at hx
  refine Subscript_ (ha Z N ρ σ m s _ X _ F I Fr hX hx ?_)
  intro va v Z1 ρ1 σ1 h1 t1 hx1 e1 p1 I1 R1
  refine wpAny_Slice (eok_opt hl I1 (Fr.mono e1 p1) hX hx1 ?_)
  intro k vk Z2 ρ2 σ2 h2 t2 hx2 e2 p2 I2 pk
  refine eok_opt hhi I2 ((Fr.mono e1 p1).mono e2 p2) hX hx2 ?_
  intro k' vk' Z3 ρ3 σ3 h3 t3 hx3 e3 p3 I3 pk'
  refine wpAny_evalPart_none ?_
  have R3 := (R1.mono e2 p2).mono e3 p3
  cases hL : listV σ3 va with
  | none => rw [hL] at hx3; exact hx3.elim
  | some xs =>
    rw [hL] at hx3
    obtain ⟨hsm, hK⟩ := (show small _ ∧ K _ σ3 from hx3)
    have I4 := I3.push ⟨.type "slice", none, .fields #[vk, vk', .none], #[]⟩ rfl
    obtain ⟨l, items, n, rfl, hg, hlt, hr⟩ := list_at I4 R3 hL
    have hlen := repL_len hr
    refine tail_any (T := "list") (isList_of hg).typeIs slot_list_getitem.lookup ?_ rfl
    refine wpAny_getItem_list_slice (isList_of hg) (Heap.IsSliceOf.new _ _ _ _) pk pk' .none (by simp) ?_ (by unfold sizeLine; simp; omega)
    have I5 := I4.push (listObj (slicePick items.toArray k k' none).toList 0) rfl
    have I6 : Inv B Z3 ((_, listObj (slicePick items.toArray k k' none).toList 0) :: N) ρ3 σ3 _ := I5.sub (List.Sublist.cons_cons _ (List.sublist_cons_self _ _))
    refine P (sliceV xs k k') _ _ 0 Z3 ρ3 σ3 _ _ hsm hK ((e1.trans e2).trans e3) ((p1.trans p2).trans p3) (by simpa [listObj] using I6) (slice_rep hr k k')

theorem lok_concat {a b : E} {l r : Expr} {pos : Pos} (ha : EOk B C Ar env a l) (hb : EOk B C Ar env b r) : LOk B C Ar env (.concat a b) (.BinOp l .Add r pos) := by
  intro Z N ρ σ m s K X Q F I Fr hX hx P
  rw [y5] at hx
  refine wpAny_BinOp (ha Z N ρ σ m s _ X _ F I Fr hX hx ?_)
  intro va v Z1 ρ1 σ1 h1 t1 hx1 e1 p1 I1 R1
  refine hb Z1 N ρ1 σ1 m _ _ X _ F I1 (Fr.mono e1 p1) hX hx1 ?_
  intro vb w Z2 ρ2 σ2 h2 t2 hx2 e2 p2 I2 R2
  have R1' := R1.mono e2 p2
  obtain ⟨xs, hL, hx2⟩ := get_of hx2
  obtain ⟨ys, hM, hsm, hK⟩ := get_of hx2
  obtain ⟨l, items, n, rfl, hg, hlt, hr⟩ := list_at I2 R1' hL
  obtain ⟨l', items', n', rfl, hg', hlt', hr'⟩ := list_at I2 R2 hM
  have hlen := repL_len hr
  have hlen' := repL_len hr'
  unfold small at hsm
  rw [List.length_append] at hsm
  have e : items.toArray ++ items'.toArray = (items ++ items').toArray := by simp
  refine concat_meets ⟨_, hg, rfl⟩ ⟨_, hg', rfl⟩ noFill_list_add seq_list_add PySem.F.slot_list_add PySem.F.entry_list_add (PySem.F.args_list_add_2 _ _) (list_addW l l' items.toArray items'.toArray n n' none none #[] #[] (by simp; unfold sizeLine; omega)) ⟨hg, hg', ?_⟩
  rw [e]
  exact P (xs ++ ys) _ (items ++ items') 0 Z2 ρ2 σ2 _ _ (by unfold small; simp; omega) hK (e1.trans e2) (p1.trans p2) (I2.push (listObj (items ++ items') 0) rfl) (repL_append hr hr')
end
end Fl

namespace Fl
open PySem PyProof.Rows PySem.W
set_option linter.unusedSimpArgs false

structure COk (B : Bs) : Prop where
  kin : Frag.In B.K B.h0
  pg : ∀ c C, B.cls c = some C → findIn B.K (.ref C) "__getattribute__" = some (some (.builtin "object.__getattribute__")) ∧ findIn B.K (.ref C) "__getattr__" = some none ∧ hasDictIn B.K C = true ∧
    findIn B.K (.ref C) "__setattr__" = some (some (.builtin "object.__setattr__")) ∧ plainOver B.K C = true
  fld : ∀ c C f, B.cls c = some C → f ∈ fieldNames c → findIn B.K (.ref C) (Str.ofString f) = some none

/-- the entries of an instance's dict -/
noncomputable def KeysAre (ns : List String) (es : List DictEntry) : Prop := ∃ ts : List Tok, es.map (·.key) = List.zipWith (fun x t => Value.str (Str.ofString x) t) ns ts ∧ ts.length = ns.length

theorem keysAre_cons {n : String} {ns : List String} {es : List DictEntry} (h : KeysAre (n :: ns) es) : ∃ e r t, es = e :: r ∧ e.key = .str (Str.ofString n) t ∧ KeysAre ns r := by
  obtain ⟨ts, h1, h2⟩ := h
  cases ts with
  | nil => simp at h2
  | cons t ts =>
    cases es with
    | nil => simp at h1
    | cons e r =>
      simp only [List.map_cons, List.zipWith_cons_cons, List.cons.injEq] at h1
      exact ⟨e, r, t, rfl, h1.1, ts, h1.2, by simpa using h2⟩
theorem keysAre_nil {es : List DictEntry} (h : KeysAre [] es) : es = [] := by
  obtain ⟨ts, h1, h2⟩ := h; cases es <;> simp at h1 ⊢

section
variable {B : Bs} {C : CallSem} {Ar : Around} {env : Env} {F : Value → Shared → Prop}

theorem getL_field {Z : Zm} {f : String} : ∀ {ns : List String} {es : List DictEntry} {fs : List V} {r : V}, KeysAre ns es → RepL B Z fs (es.map (·.val)) → fieldAt ns fs f = some r → ∃ v, getL (Str.ofString f) es = some (some v) ∧ RepV B Z r v := by
  intro ns
  induction ns with
  | nil => intro es fs r _ _ h; simp [fieldAt_0, fieldAt_1, fieldAt_2] at h
  | cons n ns ih =>
    intro es fs r hk hr h
    obtain ⟨e, es', t, rfl, he, hk'⟩ := keysAre_cons hk
    cases fs with
    | nil => simp [fieldAt_0, fieldAt_1, fieldAt_2] at h
    | cons x fs =>
      simp only [List.map_cons, RepL_0, RepL_1, List.cons.injEq] at hr
      obtain ⟨v, vs, ⟨rfl, rfl⟩, h1, h2⟩ := hr
      simp only [fieldAt_0, fieldAt_1, fieldAt_2] at h
      by_cases hnf : n = f
      · rw [if_pos hnf] at h; cases h
        refine ⟨e.val, ?_, h1⟩
        simp only [getL, List.find?_cons, he, Value.isStr, hnf, beq_self_eq_true]
      · rw [if_neg hnf] at h
        obtain ⟨w, hw, hrw⟩ := ih hk' h2 h
        refine ⟨w, ?_, hrw⟩
        have hne : (Str.ofString n == Str.ofString f) = false := by
          cases hq : Str.ofString n == Str.ofString f with
          | false => rfl
          | true => exact absurd (strOf_inj (beq_iff_eq.mp hq)) hnf
        simp only [getL, List.find?_cons, he, Value.isStr, hne] at hw ⊢
        split at hw
        · rename_i e' he'; rw [he']; exact hw
        · rename_i he'; rw [he']
          have hrk : e.refKey = false := by simp [DictEntry.refKey, he]
          simpa [List.any_cons, hrk] using hw

theorem getL_none {f : String} : ∀ {ns : List String} {es : List DictEntry}, KeysAre ns es → f ∉ ns → getL (Str.ofString f) es = some none := by
  intro ns
  induction ns with
  | nil => intro es hk _; rw [keysAre_nil hk]; rfl
  | cons n ns ih =>
    intro es hk hn
    obtain ⟨e, es', t, rfl, he, hk'⟩ := keysAre_cons hk
    have hne : (Str.ofString n == Str.ofString f) = false := by
      cases hq : Str.ofString n == Str.ofString f with
      | false => rfl
      | true => exact absurd (strOf_inj (beq_iff_eq.mp hq)) (fun e => hn (by rw [e]; simp))
    have := ih hk' (fun h => hn (by simp [h]))
    simp only [getL, List.find?_cons, he, Value.isStr, hne] at this ⊢
    have hrk : e.refKey = false := by simp [DictEntry.refKey, he]
    split at this
    · rename_i e' he'; rw [he']; exact this
    · rename_i he'; rw [he']; simpa [List.any_cons, hrk] using this

theorem handed_rep {Z : Zm} {x : V} {v : Value} (h : RepV B Z x v) : handedIn v = true := by
  have := look_of (ρ := []) (show RepA B Z [] (.v x) v from h)
  cases this <;> rfl

theorem attr_ok {Z N ρ σ} {s : Shared} {a : A} {v : Value} {f : String} {r : V} {Q : Value → Shared → Prop} (O : COk B) (I : Inv B Z N ρ σ s.heap) (R : RepA B Z ρ a v) (h : attrSem a f = some r)
    (hf : ∀ c C, B.cls c = some C → f ∈ fieldNames c) (hQ : ∀ w tk, RepV B Z r w → Q w { s with toks := tk }) : wpAny (model B.prog B.w) Ar (getAttr v (Str.ofString f) true) Q F s := by
  obtain ⟨⟨c, fs⟩, ha, h⟩ := bindO_of h
  rw [asO_of ha] at R
  obtain ⟨x, Cl, d, es, n, o, rfl, hcl, hz1, hz2, rfl, hk, hr⟩ := R
  obtain ⟨w, hw, hrw⟩ := getL_field hk hr h
  obtain ⟨p1, p2, p3, p4, p5⟩ := O.pg c Cl hcl
  have hfi := O.fld c Cl f hcl (hf c Cl hcl)
  have IA : InstAt s.heap x (instO Cl d) Cl (some (dictOf es n)) := ⟨I.zin _ _ hz1, rfl, rfl, I.zin _ _ hz2⟩
  exact get_value (O.kin.keeps I.keep) IA p1 (findObj_own p3 hfi rfl (by rw [lookIn_dict]; exact hw)) (handed_rep hrw) (hQ w _ hrw)
end
end Fl

/-! what is raised: how it lies in the heap, how it passes frames and loops (own work) -/
namespace Fl
open PySem PyProof.Rows PySem.W
set_option linter.unusedSimpArgs false

noncomputable def Out (Z : Zm) (N : Led) (ρ : List Addr) (a : Addr) : Prop := Z a = none ∧ a ∉ N.map (·.1) ∧ a ∉ ρ
theorem Out.sub {Z : Zm} {N N' : Led} {ρ : List Addr} {a : Addr} (h : Out Z N ρ a) (hs : ∀ p ∈ N', p ∈ N) : Out Z N' ρ a :=
  ⟨h.1, fun hm => by obtain ⟨p, hp, e⟩ := List.mem_map.mp hm; exact h.2.1 (List.mem_map.mpr ⟨p, hs p hp, e⟩), h.2.2⟩

section
variable {B : Bs} {Z : Zm} {N : Led} {ρ : List Addr} {σ : H} {h h' : Heap}
theorem Inv.out_fresh (I : Inv B Z N ρ σ h) {a : Addr} (ha : h.get? a = none) : Out Z N ρ a := by
  refine ⟨?_, fun hm => ?_, fun hm => ?_⟩
  · cases hz : Z a with
    | none => rfl
    | some o => have := I.zin _ _ hz; rw [ha] at this; cases this
  · obtain ⟨p, hp, e⟩ := List.mem_map.mp hm
    obtain ⟨sl, e2⟩ := (I.led p hp).1.1
    rw [e, ha] at e2; cases e2
  · obtain ⟨o, e⟩ := I.rin _ hm; rw [ha] at e; cases e

/-- the slots of frames changed, and what is not looked at -/
theorem Inv.upSlots (I : Inv B Z N ρ σ h) (as : List Addr) (hF : ∀ a ∈ as, (∃ o, (a, o) ∈ N ∧ isNs o = true) ∨ Out Z N ρ a) (hk : ∀ b o, b ∉ as → h.get? b = some o → h'.get? b = some o)
    (hs : ∀ b o, h.get? b = some o → (∀ vs, o.data ≠ .fields vs) → ∃ sl, h'.get? b = some { o with slots := sl }) : Inv B Z N ρ σ h' where
  base := I.base
  zin := fun a o e => hk a o (fun hm => by
    rcases hF a hm with ⟨o', h1, _⟩ | h1
    · have := (I.led _ h1).2; simp only at this; rw [this] at e; cases e
    · rw [h1.1] at e; cases e) (I.zin a o e)
  led := fun p hp => by
    refine ⟨?_, (I.led p hp).2⟩
    by_cases hm : p.1 ∈ as
    · rcases hF _ hm with ⟨o', h1, h2⟩ | h1
      · have : o' = p.2 := I.led_inj h1 hp
        subst this
        obtain ⟨sl, e⟩ := (I.led p hp).1.1
        have hd : ∀ vs, p.2.data ≠ .fields vs := fun vs e => by rw [isNs_fields e] at h2; cases h2
        obtain ⟨sl', e'⟩ := hs _ _ e hd
        exact ⟨⟨sl', e'⟩, fun e => by rw [h2] at e; cases e⟩
      · exact absurd (List.mem_map.mpr ⟨p, hp, rfl⟩) h1.2.1
    · exact (I.led p hp).1.keeps fun o e => hk _ _ hm e
  len := I.len
  live := fun i a ob e1 e2 e3 => by
    obtain ⟨h1, o, h2, h3⟩ := I.live i a ob e1 e2 e3
    refine ⟨h1, o, hk _ _ (fun hm => ?_) h2, h3⟩
    rcases hF a hm with ⟨o', g1, _⟩ | g1
    · exact (List.nodup_append.mp I.nd).2.2 _ (List.mem_map.mpr ⟨_, g1, rfl⟩) _ (List.mem_of_getElem? e1) rfl
    · exact g1.2.2 (List.mem_of_getElem? e1)
  rin := fun a ha => by
    obtain ⟨o, e⟩ := I.rin a ha
    refine ⟨o, hk _ _ (fun hm => ?_) e⟩
    rcases hF a hm with ⟨o', g1, _⟩ | g1
    · exact (List.nodup_append.mp I.nd).2.2 _ (List.mem_map.mpr ⟨_, g1, rfl⟩) _ ha rfl
    · exact g1.2.2 ha
  nd := I.nd
end

/-- raised, and not yet noted -/
noncomputable def ExF (Z : Zm) (N : Led) (ρ : List Addr) (h : Heap) (e : Addr) (cls : Value) : Prop :=
  Out Z N ρ e ∧ ∃ oe vs a0, h.get? e = some oe ∧ oe.cls = cls ∧ oe.data = .fields vs ∧ vs[0]? = some a0 ∧ vs[1]? = some .none
/-- raised, noted -/
noncomputable def ExT (Z : Zm) (N : Led) (ρ : List Addr) (h : Heap) (e : Addr) (cls fl : Value) : Prop :=
  Out Z N ρ e ∧ ∃ oe vs a0 T oT ts, Out Z N ρ T ∧ T ≠ e ∧ h.get? e = some oe ∧ oe.cls = cls ∧ oe.data = .fields vs ∧ vs[0]? = some a0 ∧ vs[1]? = some (.ref T) ∧ h.get? T = some oT ∧ oT.data = .fields ts ∧ ts[3]? = some fl
noncomputable def ExS (L : Option Addr) (Z : Zm) (N : Led) (ρ : List Addr) (h : Heap) (e : Addr) (cls : Value) : Prop := ExF Z N ρ h e cls ∨ ExT Z N ρ h e cls .none ∨ ∃ a, L = some a ∧ ExT Z N ρ h e cls (rawInt a)
theorem ExF.sub {Z N N' ρ h e cls} (x : ExF Z N ρ h e cls) (hs : ∀ p ∈ N', p ∈ N) : ExF Z N' ρ h e cls := ⟨x.1.sub hs, x.2⟩
theorem ExT.sub {Z N N' ρ h e cls fl} (x : ExT Z N ρ h e cls fl) (hs : ∀ p ∈ N', p ∈ N) : ExT Z N' ρ h e cls fl :=
  ⟨x.1.sub hs, let ⟨oe, vs, a0, T, oT, ts, o, r⟩ := x.2; ⟨oe, vs, a0, T, oT, ts, o.sub hs, r⟩⟩
theorem ExS.sub {L Z N N' ρ h e cls} (x : ExS L Z N ρ h e cls) (hs : ∀ p ∈ N', p ∈ N) : ExS L Z N' ρ h e cls := by
  rcases x with x | x | ⟨a, e, x⟩
  · exact .inl (x.sub hs)
  · exact .inr (.inl (x.sub hs))
  · exact .inr (.inr ⟨a, e, x.sub hs⟩)

section
variable {B : Bs} {Z : Zm} {N : Led} {ρ : List Addr} {σ : H} {Ar : Around} {M : Model} {E : Value → Shared → Prop} {s : Shared}

theorem funFrames_of {h : Heap} (I : Inv B Z N ρ σ h) {as : List Addr} : ∀ {l : List Env}, (∀ f ∈ l, GoodF N f) → (∀ a ∈ l.filterMap (·.frame), a ∈ as) → h.FunFrames (hideAll h as) l
  | [], _, _ => trivial
  | f :: l, hg, ha => by
    obtain ⟨hk, L, o, hf, hm, hn⟩ := hg f List.mem_cons_self
    obtain ⟨sl, e⟩ := (I.led _ hm).1.1
    have hL : L ∈ as := ha L (by rw [List.filterMap_cons, hf]; exact List.mem_cons_self)
    refine ⟨hk, ⟨L, _, hf, hideAll_none _ hL, e, fun vs e' => ?_⟩, funFrames_of I (fun g hg' => hg g (List.mem_cons_of_mem _ hg')) fun a ha' => ha a ?_⟩
    · rw [isNs_fields (o := o) e'] at hn; cases hn
    · rw [List.filterMap_cons, hf]; exact List.mem_cons_of_mem _ ha'

/-- what the kit says of the heap behind a note, read for the ledger -/
theorem noted_read {h h' : Heap} {as : List Addr} {l : List Env} {e : Addr} {cls a0 fl : Value} (I : Inv B Z N ρ σ h) (hF : ∀ a ∈ as, (∃ o, (a, o) ∈ N ∧ isNs o = true) ∨ Out Z N ρ a) (he : Out Z N ρ e)
    (k1 : (hideAll h as).StaysIn h') (k3 : h'.TracedAtW (hideAll h as) e cls a0 fl)
    (k4 : ∀ b o, h.get? b = some o → (∀ vs, o.data ≠ .fields vs) → ∃ sl, h'.get? b = some { o with slots := sl }) : Inv B Z N ρ σ h' ∧ ExT Z N ρ h' e cls fl := by
  have I' := I.upSlots as hF (fun b o hb e => k1 b o (hideAll_get _ e hb)) k4
  obtain ⟨oe, vs, T, oT, ts, g1, ⟨g2, g3⟩, g4, g5, g6, g7, g8, g9, g10⟩ := k3
  refine ⟨I', he, oe, vs, a0, T, oT, ts, ?_, g7, g1, g2, g4, g3, g5, g8, g9, g10⟩
  by_cases hT : T ∈ as
  · rcases hF T hT with ⟨o, h1, h2⟩ | h1
    · obtain ⟨sl, e2⟩ := (I'.led _ h1).1.1
      simp only at e2
      rw [g8] at e2; cases e2
      rw [isNs_fields (o := o) g9] at h2; cases h2
    · exact h1
  · refine I.out_fresh ?_
    cases hq : h.get? T with
    | none => rfl
    | some o => rw [hideAll_get _ hq hT] at g6; cases g6

theorem frames_hF {l : List Env} {as : List Addr} (hg : ∀ f ∈ l, GoodF N f) (ho : ∀ a ∈ as, Out Z N ρ a) : ∀ a ∈ l.filterMap (·.frame) ++ as, (∃ o, (a, o) ∈ N ∧ isNs o = true) ∨ Out Z N ρ a := by
  intro a ha
  rcases List.mem_append.mp ha with ha | ha
  · obtain ⟨f, hf, e⟩ := List.mem_filterMap.mp ha
    obtain ⟨_, L, o, e2, hm, hn⟩ := hg f hf
    rw [e2] at e; cases e
    exact .inl ⟨o, hm, hn⟩
  · exact .inr (ho a ha)

theorem noted_ok {env : Env} {outer : List Env} {L e : Addr} {cls : Value} {Q : Unit → Shared → Prop} (hfr : Ar.frames = some (env :: outer)) (hG : ∀ f ∈ env :: outer, GoodF N f) (hf : env.frame = some L)
    (I : Inv B Z N ρ σ s.heap) (hE : ExS env.frame Z N ρ s.heap e cls) (hQ : ∀ h', Inv B Z N ρ σ h' → ExT Z N ρ h' e cls (rawInt L) → Q () { s with heap := h' }) : wpAny M Ar (noteFrame (.ref e) env) Q E s := by
  rcases hE with ⟨ho, oe, vs, a0, h1, h2, h3, h4, h5⟩ | ⟨ho, oe, vs, a0, T, oT, ts, hT, h0, h1, h2, h3, h4, h5, h6, h7, h8⟩ | ⟨L', hL, x⟩
  · unfold noteFrame
    simp only [hf]
    refine wpAny_bind (wpAny_field h1 h3 h5 ?_)
    rw [if_neg (by decide)]
    subst h2
    have hF := frames_hF (Z := Z) (ρ := ρ) (as := [e]) hG (fun a ha => by rw [List.mem_singleton.mp ha]; exact ho)
    refine wpAny_entryW (base := hideAll s.heap ((env :: outer).filterMap (·.frame) ++ [e])) hfr (funFrames_of I hG fun a ha => List.mem_append_left _ ha) hf h1 (fun b o q => of_hideAll _ q) (hideAll_none _ (List.mem_append_right _ List.mem_cons_self)) h3 (Array.getElem?_eq_some_iff.mp h5).1 h4 fun h' hN => ?_
    obtain ⟨k1, k2, k3, k4⟩ := hN
    obtain ⟨a, b⟩ := noted_read I hF ho k1 k3 k4 (l := [])
    exact hQ h' a b
  · have hF := frames_hF (Z := Z) (ρ := ρ) (as := [e, T]) hG (fun a ha => by
      simp only [List.mem_cons, List.not_mem_nil, or_false] at ha
      rcases ha with rfl | rfl
      · exact ho
      · exact hT)
    refine wpAny_noteFrame_onW (base := hideAll s.heap ((env :: outer).filterMap (·.frame) ++ [e, T])) (cls := cls) (a0 := a0) hfr (funFrames_of I hG fun a ha => List.mem_append_left _ ha) hf ⟨oe, vs, T, oT, ts, h1, ⟨h2, h4⟩, h3, h5, hideAll_none _ (List.mem_append_right _ (List.mem_cons_of_mem _ List.mem_cons_self)), h0, h6, h7, h8⟩ (fun b o q => of_hideAll _ q) (hideAll_none _ (List.mem_append_right _ List.mem_cons_self)) fun h' hN => ?_
    obtain ⟨k1, k2, k3, k4⟩ := hN
    obtain ⟨a, b⟩ := noted_read I hF ho k1 k3 k4 (l := [])
    exact hQ h' a b
  · rw [hf] at hL; cases hL
    have hx := x
    obtain ⟨ho, oe, vs, a0, T, oT, ts, hT, h0, h1, h2, h3, h4, h5, h6, h7, h8⟩ := x
    exact wpAny_noteFrame_againW (base := hideAll s.heap [T]) (cls := cls) (a0 := a0) hf ⟨oe, vs, T, oT, ts, h1, ⟨h2, h4⟩, h3, h5, hideAll_none _ List.mem_cons_self, h0, h6, h7, h8⟩ (hQ _ I hx)

theorem flight_ok {e : Addr} {cls fl : Value} {fo : Option Addr} {Q : Unit → Shared → Prop} (I : Inv B Z N ρ σ s.heap) (hE : ExT Z N ρ s.heap e cls fl) (hQ : ∀ h', Inv B Z N ρ σ h' → ExT Z N ρ h' e cls (fo.elim .none fun f => rawInt f) → Q () { s with heap := h' }) :
    wpAny M Ar (setFlight (.ref e) fo) Q E s := by
  obtain ⟨ho, oe, vs, a0, T, oT, ts, hT, h0, h1, h2, h3, h4, h5, h6, h7, h8⟩ := hE
  have hsz3 : 3 < ts.size := (Array.getElem?_eq_some_iff.mp h8).1
  unfold setFlight
  refine wpAny_bind (wpAny_field h1 h3 h5 ?_)
  rw [if_pos (show (Value.ref T != Value.none) = true from by simp)]
  have other : ∀ b, b ≠ T → (s.heap.update T (Obj.mapFields (·.setIfInBounds 3 (fo.elim Value.none fun f => rawInt f)))).get? b = s.heap.get? b := fun b hb => Heap.get?_update_other _ _ (Ne.symm hb)
  refine wpAny_setField h6 h7 hsz3 (hQ _ (I.upSlots [T] (fun a ha => by rw [List.mem_singleton.mp ha]; exact .inr hT) (fun b o hb e => (other b fun q => hb (by rw [q]; exact List.mem_cons_self)).trans e) fun b o e hd => ?_) ⟨ho, oe, vs, a0, T, _, _, hT, h0, (other e (Ne.symm h0)).trans h1, h2, h3, h4, h5, Heap.get?_update_self _ h6 (Obj.isFreed_of_fields (Obj.data_mapFields h7 _)), Obj.data_mapFields h7 _, ?_⟩)
  · have hne : b ≠ T := fun q => by rw [q, h6] at e; cases e; exact hd _ h7
    exact ⟨o.slots, (other b hne).trans e⟩
  · simp [hsz3]

theorem leaving_ok {env : Env} {outer : List Env} {L e : Addr} {cls : Value} {Q : Unit → Shared → Prop} (hfr : Ar.frames = some (env :: outer)) (hG : ∀ f ∈ env :: outer, GoodF N f) (hf : env.frame = some L)
    (I : Inv B Z N ρ σ s.heap) (hE : ExS env.frame Z N ρ s.heap e cls) (hQ : ∀ h', Inv B Z N ρ σ h' → ExT Z N ρ h' e cls .none → Q () { s with heap := h' }) : wpAny M Ar (leaving env (.ref e)) Q E s := by
  unfold leaving
  refine wpAny_bind (noted_ok hfr hG hf I hE fun h' I' x => ?_)
  exact flight_ok (s := { s with heap := h' }) I' x fun h'' I'' x' => hQ h'' I'' x'

/-- through a loop -/
theorem looped_ok {env : Env} {outer : List Env} {L e : Addr} {cls : Value} {F : Value → Shared → Prop} (hfr : Ar.frames = some (env :: outer)) (hG : ∀ f ∈ env :: outer, GoodF N f) (hf : env.frame = some L)
    (I : Inv B Z N ρ σ s.heap) (hE : ExS env.frame Z N ρ s.heap e cls) (hQ : ∀ h', Inv B Z N ρ σ h' → ExS env.frame Z N ρ h' e cls → F (.ref e) { s with heap := h' }) : notedBy M Ar env (cameBackBy M Ar env F) (.ref e) s := by
  unfold notedBy
  refine noted_ok hfr hG hf I hE fun h' I' x => ?_
  unfold cameBackBy
  have x0 := x
  obtain ⟨ho, oe, vs, a0, T, oT, ts, hT, h0, h1, h2, h3, h4, h5, h6, h7, h8⟩ := x
  refine wpAny_bind (wpAny_field h1 h3 h5 ?_)
  rw [if_neg (show ¬ (Value.ref T == Value.none) = true from by simp)]
  refine flight_ok (s := { s with heap := h' }) (fo := env.frame) I' x0 fun h'' I'' x' => hQ h'' I'' (.inr (.inr ⟨L, hf, ?_⟩))
  rw [hf] at x'; exact x'
end

/-- what follows a raise: of a call, of a statement -/
noncomputable def PostX (B : Bs) (Z : Zm) (N : Led) (ρ : List Addr) (s : Shared) (X : String → H → Prop) (F : Value → Shared → Prop) : Prop :=
  ∀ c C e Z' ρ' σ' h' tk, X c σ' → B.xc c = some C → Ext Z Z' → ρ <+: ρ' → Inv B Z' N ρ' σ' h' → ExT Z' N ρ' h' e (.ref C) .none → F (.ref e) { s with heap := h', toks := tk }
noncomputable def PostXS (B : Bs) (env : Env) (Z : Zm) (Nf N : Led) (ρ : List Addr) (s : Shared) (X : String → Loc → H → Prop) (F : Value → Shared → Prop) : Prop :=
  ∀ c C e m' Z' Nf' ρ' σ' h' tk, X c m' σ' → B.xc c = some C → Ext Z Z' → ρ <+: ρ' → Nf'.map (·.1) = Nf.map (·.1) → Inv B Z' (Nf' ++ N) ρ' σ' h' → Frm B env Z' ρ' m' (Nf' ++ N) → ExS env.frame Z' (Nf' ++ N) ρ' h' e (.ref C) → F (.ref e) { s with heap := h', toks := tk }
theorem PostX.no {B Z N ρ s X F} (h : ∀ c σ, ¬ X c σ) : PostX B Z N ρ s X F := fun c _ _ _ _ σ' _ _ hx => (h c σ' hx).elim
theorem PostX.go {B : Bs} {Z Z' : Zm} {N : Led} {ρ ρ' : List Addr} {s : Shared} {X : String → H → Prop} {F : Value → Shared → Prop} (P : PostX B Z N ρ s X F) (hz : Ext Z Z') (hr : ρ <+: ρ') (h' : Heap) (tk : Nat) :
    PostX B Z' N ρ' { s with heap := h', toks := tk } X F :=
  fun c C e Z'' ρ'' σ'' h'' tk' hk hc hz' hr' I x => P c C e Z'' ρ'' σ'' h'' tk' hk hc (hz.trans hz') (hr.trans hr') I x
theorem PostXS.go {B : Bs} {env : Env} {Z Z' : Zm} {Nf Nf' N : Led} {ρ ρ' : List Addr} {s : Shared} {X : String → Loc → H → Prop} {F : Value → Shared → Prop} (P : PostXS B env Z Nf N ρ s X F) (hz : Ext Z Z') (hr : ρ <+: ρ') (hn : Nf'.map (·.1) = Nf.map (·.1)) (h' : Heap) (tk : Nat) :
    PostXS B env Z' Nf' N ρ' { s with heap := h', toks := tk } X F :=
  fun c C e m' Z'' Nf'' ρ'' σ'' h'' tk' hk hc hz' hr' hn' I R x => P c C e m' Z'' Nf'' ρ'' σ'' h'' tk' hk hc (hz.trans hz') (hr.trans hr') (hn'.trans hn) I R x

/-- the frames of a statement: its own, and those around -/
noncomputable def FrsS (Ar : Around) (env : Env) (N : Led) : Prop := ∃ outer, Ar.frames = some (env :: outer) ∧ env.frame = some env.locals ∧ ∀ f ∈ outer, GoodF N f
theorem FrsS.mem {Ar : Around} {env : Env} {N N' : Led} (g : FrsS Ar env N) (h : ∀ p ∈ N, p ∈ N') : FrsS Ar env N' := let ⟨l, e, f, m⟩ := g; ⟨l, e, f, fun f hf => (m f hf).mem h⟩
theorem FrsS.all {B : Bs} {Ar : Around} {env : Env} {Z : Zm} {ρ : List Addr} {m : Loc} {Nf N : Led} (g : FrsS Ar env N) (Fr : Frm B env Z ρ m (Nf ++ N)) : ∃ outer, Ar.frames = some (env :: outer) ∧ env.frame = some env.locals ∧ ∀ f ∈ env :: outer, GoodF (Nf ++ N) f := by
  obtain ⟨l, e, f, hm⟩ := g
  refine ⟨l, e, f, fun x hx => ?_⟩
  rcases List.mem_cons.mp hx with rfl | hx
  · obtain ⟨o, es, ep, h1, h2, _⟩ := Fr.loc
    exact ⟨by rw [Fr.kind]; decide, _, o, f, h1, by unfold isNs; rw [h2]⟩
  · exact (hm x hx).mem fun p hp => List.mem_append_right _ hp
theorem FrsS.o {B : Bs} {Ar : Around} {env : Env} {Z : Zm} {ρ : List Addr} {m : Loc} {Nf N : Led} (g : FrsS Ar env N) (Fr : Frm B env Z ρ m (Nf ++ N)) : FrsO Ar (Nf ++ N) := let ⟨l, e, _, m⟩ := g.all Fr; ⟨_, e, m⟩
theorem FrsS.safe {B : Bs} {Ar : Around} {env : Env} {Z : Zm} {ρ : List Addr} {m : Loc} {Nf N : Led} (g : FrsS Ar env N) (Fr : Frm B env Z ρ m (Nf ++ N)) : Safe Ar (Nf ++ N) NX := ⟨fun _ _ h => h, g.o Fr⟩
end Fl

/-! frames, stores, statements (own work) -/
namespace Fl
open PySem PyProof.Rows
set_option linter.unusedSimpArgs false

noncomputable def upd (a : Addr) (o : Obj) (p : Addr × Obj) : Addr × Obj := if p.1 = a then (a, o) else p
theorem upd_fst (a : Addr) (o : Obj) (p : Addr × Obj) : (upd a o p).1 = p.1 := by
  unfold upd; split
  · rename_i h; exact h.symm
  · rfl
theorem upd_map (a : Addr) (o : Obj) (N : Led) : (N.map (upd a o)).map (·.1) = N.map (·.1) := by
  rw [List.map_map]; exact List.map_congr_left fun p _ => upd_fst a o p

theorem Inv.updAt {B : Bs} {Z : Zm} {Nf N : Led} {ρ : List Addr} {σ : H} {h h' : Heap} {a : Addr} {o' : Obj} (I : Inv B Z (Nf ++ N) ρ σ h) (ha : a ∈ Nf.map (·.1)) (hs : Heap.SameBut a h h') (ho : h'.get? a = some o') :
    Inv B Z (Nf.map (upd a o') ++ N) ρ σ h' := by
  obtain ⟨⟨a', o⟩, hm, rfl⟩ := List.mem_map.mp ha
  have hnd := I.nd
  refine ⟨I.base, fun b o'' e => ?_, fun p hp => ?_, I.len, fun j b ob e1 e2 e3 => ?_, fun b hb => ?_, ?_⟩
  · have hne : b ≠ a' := by
      rintro rfl
      have := (I.led _ (List.mem_append_left _ hm)).2
      rw [this] at e; cases e
    rw [hs.2 b hne]; exact I.zin b o'' e
  · rcases List.mem_append.mp hp with hp | hp
    · obtain ⟨q, hq, rfl⟩ := List.mem_map.mp hp
      have hz := (I.led _ (List.mem_append_left _ hq)).2
      by_cases hqa : q.1 = a'
      · have : upd a' o' q = (a', o') := by unfold upd; rw [if_pos hqa]
        rw [this]; exact ⟨.of ho, hqa ▸ hz⟩
      · have : upd a' o' q = q := by unfold upd; rw [if_neg hqa]
        rw [this]; exact ⟨(I.led _ (List.mem_append_left _ hq)).1.keeps fun _ e => (hs.2 _ hqa).trans e, hz⟩
    · have hne : p.1 ≠ a' := by
        intro e
        rw [List.map_append, List.append_assoc] at hnd
        exact (List.nodup_append.mp hnd).2.2 _ (List.mem_map.mpr ⟨_, hm, rfl⟩) _ (List.mem_append_left _ (List.mem_map.mpr ⟨p, hp, rfl⟩)) e.symm
      exact ⟨(I.led _ (List.mem_append_right _ hp)).1.keeps fun _ e => (hs.2 _ hne).trans e, (I.led _ (List.mem_append_right _ hp)).2⟩
  · obtain ⟨h1, o'', h2, h3⟩ := I.live j b ob e1 e2 e3
    have hne : b ≠ a' := by
      intro e
      exact (List.nodup_append.mp hnd).2.2 _ (List.mem_map.mpr ⟨_, List.mem_append_left _ hm, rfl⟩) _ (List.mem_of_getElem? e1) e.symm
    exact ⟨h1, o'', (hs.2 b hne).trans h2, h3⟩
  · by_cases hba : b = a'
    · rw [hba]; exact ⟨o', ho⟩
    · obtain ⟨o'', e⟩ := I.rin b hb; exact ⟨o'', (hs.2 b hba).trans e⟩
  · rw [List.map_append, upd_map, ← List.map_append]; exact hnd

/-- the frame's own part of the ledger -/
structure OwnF (Nf : Led) (env : Env) : Prop where
  loc : env.locals ∈ Nf.map (·.1)
  cel : ∀ x, env.kindOf x = some .cell → ∃ c, env.cells.lookup x = some c ∧ c ∈ Nf.map (·.1)
theorem OwnF.of {Nf Nf' : Led} {env : Env} (h : OwnF Nf env) (e : Nf'.map (·.1) = Nf.map (·.1)) : OwnF Nf' env := ⟨e ▸ h.loc, fun x hx => let ⟨c, h1, h2⟩ := h.cel x hx; ⟨c, h1, e ▸ h2⟩⟩

noncomputable def stK : Option NameKind → Bool
  | some .local => true
  | some .cell => true
  | _ => false

section
variable {B : Bs} {C : CallSem} {Ar : Around} {env : Env} {F : Value → Shared → Prop}

theorem store_ok {Z Nf N ρ σ m} {s : Shared} {x : String} {a : A} {v : Value} {Q : Unit → Shared → Prop} (I : Inv B Z (Nf ++ N) ρ σ s.heap) (Fr : Frm B env Z ρ m (Nf ++ N)) (hr : RepA B Z ρ a v) (hk : stK (env.kindOf (Str.ofString x)) = true)
    (hL : env.locals ∈ Nf.map (·.1)) (hC : env.kindOf (Str.ofString x) = some .cell → ∃ c, env.cells.lookup (Str.ofString x) = some c ∧ c ∈ Nf.map (·.1))
    (h : ∀ Nf' h' tk, Nf'.map (·.1) = Nf.map (·.1) → Inv B Z (Nf' ++ N) ρ σ h' → Frm B env Z ρ (m.set x a) (Nf' ++ N) → Q () { s with heap := h', toks := tk }) :
    wpAny (model B.prog B.w) Ar (storeName env (Str.ofString x) v) Q F s := by
  obtain ⟨o, es, ep, hN, hD, hS⟩ := Fr.loc
  have hget : ∀ p ∈ Nf ++ N, ∃ o', s.heap.get? p.1 = some o' ∧ o'.data = p.2.data := fun p hp => let ⟨sl, e⟩ := (I.led p hp).1.1; ⟨_, e, rfl⟩
  have ne_of : ∀ c o', (c, o') ∈ Nf ++ N → ∀ v, o'.data = .cell v → c ≠ env.locals := by
    intro c o' hc v hd e
    obtain ⟨o1, h1, d1⟩ := hget _ hc
    obtain ⟨o2, h2, d2⟩ := hget _ hN
    simp only at h1 h2 d1 d2
    rw [e, h2] at h1; cases h1; rw [d2, hD, hd] at d1; cases d1
  have mem_keep : ∀ (a' : Addr) (o' : Obj) (p : Addr × Obj), p ∈ Nf ++ N → p.1 ≠ a' → p ∈ Nf.map (upd a' o') ++ N := by
    intro a' o' p hp hne
    rcases List.mem_append.mp hp with hp | hp
    · exact List.mem_append_left _ (List.mem_map.mpr ⟨p, hp, by unfold upd; rw [if_neg hne]⟩)
    · exact List.mem_append_right _ hp
  have mem_new : ∀ (a' : Addr) (o' : Obj), a' ∈ Nf.map (·.1) → (a', o') ∈ Nf.map (upd a' o') ++ N := by
    intro a' o' ha
    obtain ⟨p, hp, rfl⟩ := List.mem_map.mp ha
    exact List.mem_append_left _ (List.mem_map.mpr ⟨p, hp, by unfold upd; rw [if_pos rfl]⟩)
  cases hq : env.kindOf (Str.ofString x) with
  | none => rw [hq] at hk; cases hk
  | some k =>
    cases k with
    | «local» =>
      obtain ⟨oL, hgL, hdL⟩ := hget _ hN
      refine wpAny_storeName_local hq ⟨oL, es, ep, hgL, hdL.trans hD, hS, fun _ => rfl⟩ (fun h' hn hs => ?_) (by rw [Fr.kind]; rfl)
      obtain ⟨o', es', ep', ho', hD', hS', hf'⟩ := hn
      refine h (Nf.map (upd env.locals o')) h' _ (upd_map _ _ _) (I.updAt hL hs ho') ?_
      refine { Fr with rd := fun y b hy hw => ?_, loc := ⟨o', es', ep', mem_new _ _ hL, hD', hS'⟩, cel := fun y c hc => ?_ }
      · unfold Loc.set at hy
        split at hy
        · rename_i e; cases hy; subst e
          exact ⟨v, hr, .inl ⟨hq, o', es', ep', mem_new _ _ hL, hD', hS', by rw [hf']; exact if_pos rfl⟩⟩
        · rename_i e
          obtain ⟨u, hu, hh⟩ := Fr.rd y b hy hw
          refine ⟨u, hu, ?_⟩
          rcases hh with ⟨hk', o1, es1, ep1, hN1, hD1, hS1, hF1⟩ | ⟨hk', c, o1, hl1, hN1, hD1⟩
          · refine .inl ⟨hk', o', es', ep', mem_new _ _ hL, hD', hS', ?_⟩
            obtain ⟨o3, h1, d1⟩ := hget _ hN1
            simp only at h1 d1 hgL hdL
            rw [hgL] at h1; cases h1
            rw [hdL, hD, hD1] at d1; cases d1
            rw [hf']; exact (if_neg (fun e' => e (strOf_inj e'))).trans hF1
          · exact .inr ⟨hk', c, o1, hl1, mem_keep _ _ _ hN1 (ne_of c o1 hN1 _ hD1), hD1⟩
      · obtain ⟨o1, v1, hN1, hD1⟩ := Fr.cel y c hc
        exact ⟨o1, v1, mem_keep _ _ _ hN1 (ne_of c o1 hN1 _ hD1), hD1⟩
    | cell =>
      obtain ⟨c, hl, hcm⟩ := hC hq
      obtain ⟨o1, v1, hN1, hD1⟩ := Fr.cel _ c hl
      refine wpAny_storeName_cell Fr.kind hq hl ⟨o1, (I.led _ hN1).1.2 (isNs_cell hD1), hD1⟩ (fun h' hn hs => ?_)
      obtain ⟨o', ho', hd'⟩ := hn
      refine h (Nf.map (upd c o')) h' s.toks (upd_map _ _ _) (I.updAt hcm hs ho') ?_
      refine { Fr with rd := fun y b hy hw => ?_, loc := ⟨o, es, ep, mem_keep _ _ _ hN (fun e => ne_of c o1 hN1 _ hD1 e.symm), hD, hS⟩, cel := fun y c' hc => ?_ }
      · unfold Loc.set at hy
        split at hy
        · rename_i e; cases hy; subst e
          exact ⟨v, hr, .inr ⟨.inl hq, c, o', hl, mem_new _ _ hcm, hd'⟩⟩
        · rename_i e
          obtain ⟨u, hu, hh⟩ := Fr.rd y b hy hw
          refine ⟨u, hu, ?_⟩
          rcases hh with ⟨hk', o2, es1, ep1, hN2, hD2, hS2, hF2⟩ | ⟨hk', c2, o2, hl2, hN2, hD2⟩
          · exact .inl ⟨hk', o2, es1, ep1, mem_keep _ _ _ hN2 (fun e' => ne_of c o1 hN1 _ hD1 e'.symm), hD2, hS2, hF2⟩
          · refine .inr ⟨hk', c2, o2, hl2, mem_keep _ _ _ hN2 (fun e' => ?_), hD2⟩
            simp only at e'
            subst e'
            exact e (strOf_inj (Fr.cinj _ _ _ hl2 hl))
      · by_cases hcc : c' = c
        · subst hcc; exact ⟨o', some v, mem_new _ _ hcm, hd'⟩
        · obtain ⟨o2, v2, hN2, hD2⟩ := Fr.cel y c' hc
          exact ⟨o2, v2, mem_keep _ _ _ hN2 hcc, hD2⟩
    | _ => rw [hq] at hk; cases hk

/-! statements -/
inductive RepF (B : Bs) (Z : Zm) (ρ : List Addr) : Fw → Flow → Prop
  | next : RepF B Z ρ .next .next
  | brk : RepF B Z ρ .brk .brk
  | cont : RepF B Z ρ .cont .cont
  | ret {a v} : RepA B Z ρ a v → RepF B Z ρ (.ret a) (.ret v)

noncomputable def PostS (B : Bs) (env : Env) (Z : Zm) (Nf N : Led) (ρ : List Addr) (s : Shared) (K : Fw → Loc → H → Prop) (Q : Flow → Shared → Prop) : Prop :=
  ∀ fw fl m' Z' Nf' ρ' σ' h' tk, K fw m' σ' → RepF B Z' ρ' fw fl → Ext Z Z' → ρ <+: ρ' → Nf'.map (·.1) = Nf.map (·.1) → Inv B Z' (Nf' ++ N) ρ' σ' h' → Frm B env Z' ρ' m' (Nf' ++ N) → Q fl { s with heap := h', toks := tk }

theorem PostS.go {Z Z' : Zm} {Nf Nf' N : Led} {ρ ρ' : List Addr} {s : Shared} {K : Fw → Loc → H → Prop} {Q : Flow → Shared → Prop} (P : PostS B env Z Nf N ρ s K Q) (hz : Ext Z Z') (hr : ρ <+: ρ') (hn : Nf'.map (·.1) = Nf.map (·.1)) (h' : Heap) (tk : Nat) :
    PostS B env Z' Nf' N ρ' { s with heap := h', toks := tk } K Q :=
  fun fw fl m' Z'' Nf'' ρ'' σ'' h'' tk' hk hf hz' hr' hn' I R => P fw fl m' Z'' Nf'' ρ'' σ'' h'' tk' hk hf (hz.trans hz') (hr.trans hr') (hn'.trans hn) I R

noncomputable def SOk (B : Bs) (C : CallSem) (Ar : Around) (env : Env) (ir : S) (st : Stmt) : Prop :=
  ∀ (Z : Zm) (Nf N : Led) (ρ : List Addr) (σ : H) (m : Loc) (s : Shared) (K : Fw → Loc → H → Prop) (X : String → Loc → H → Prop) (Q : Flow → Shared → Prop) (F : Value → Shared → Prop),
    Inv B Z (Nf ++ N) ρ σ s.heap → Frm B env Z ρ m (Nf ++ N) → OwnF Nf env → FrsS Ar env N → xS C ir m σ K X → PostS B env Z Nf N ρ s K Q → PostXS B env Z Nf N ρ s X F → wpAny (model B.prog B.w) Ar (exec st env) Q F s

noncomputable def SsOk (B : Bs) (C : CallSem) (Ar : Around) (env : Env) (irs : List S) (sts : List Stmt) : Prop :=
  ∀ (Z : Zm) (Nf N : Led) (ρ : List Addr) (σ : H) (m : Loc) (s : Shared) (K : Fw → Loc → H → Prop) (X : String → Loc → H → Prop) (Q : Flow → Shared → Prop) (F : Value → Shared → Prop),
    Inv B Z (Nf ++ N) ρ σ s.heap → Frm B env Z ρ m (Nf ++ N) → OwnF Nf env → FrsS Ar env N → xSs C irs m σ K X → PostS B env Z Nf N ρ s K Q → PostXS B env Z Nf N ρ s X F → wpAny (model B.prog B.w) Ar (execs sts env) Q F s

theorem sok_asg {x : String} {e : E} {ex : Expr} {p pos : Pos} (hk : stK (env.kindOf (Str.ofString x)) = true) (he : EOk B C Ar env e ex) (hs : swapsWith ex (some (.Name (Str.ofString x) p)) pos.line env = pure false) :
    SOk B C Ar env (.asg x e) (.Assign [.Name (Str.ofString x) p] ex pos) := by
  intro Z Nf N ρ σ m s K X Q F I Fr O hX hx P PX
  rw [yh] at hx
  refine wpAny_Assign_Name (he Z (Nf ++ N) ρ σ m s _ _ _ F I Fr (hX.safe Fr) hx ?_) hs
  intro a v Z1 ρ1 σ1 h1 t1 hx1 e1 p1 I1 R1
  refine store_ok I1 (Fr.mono e1 p1) R1 hk O.loc (O.cel _) ?_
  intro Nf' h' tk hn I2 F2
  exact P _ _ _ Z1 Nf' ρ1 σ1 h' tk hx1 .next e1 p1 hn I2 F2

theorem sok_ex {e : E} {ex : Expr} {pos : Pos} (he : EOk B C Ar env e ex) (hs : swapsWith ex none pos.line env = pure false) (hi : interactive env = false) : SOk B C Ar env (.ex e) (.Expr ex pos) := by
  intro Z Nf N ρ σ m s K X Q F I Fr O hX hx P PX
  rw [yj] at hx
  refine wpAny_Expr_any (he Z (Nf ++ N) ρ σ m s _ _ _ F I Fr (hX.safe Fr) hx ?_) hi hs
  intro a v Z1 ρ1 σ1 h1 t1 hx1 e1 p1 I1 R1
  exact P _ _ _ Z1 Nf ρ1 σ1 h1 t1 hx1 .next e1 p1 rfl I1 (Fr.mono e1 p1)

theorem sok_ret {e : E} {ex : Expr} {pos : Pos} (he : EOk B C Ar env e ex) : SOk B C Ar env (.ret e) (.Return (some ex) pos) := by
  intro Z Nf N ρ σ m s K X Q F I Fr O hX hx P PX
  rw [yo] at hx
  refine wpAny_Return_some (he Z (Nf ++ N) ρ σ m s _ _ _ F I Fr (hX.safe Fr) hx ?_)
  intro a v Z1 ρ1 σ1 h1 t1 hx1 e1 p1 I1 R1
  exact P _ _ _ Z1 Nf ρ1 σ1 h1 t1 hx1 (.ret R1) e1 p1 rfl I1 (Fr.mono e1 p1)

theorem sok_ite {c : E} {t f : List S} {ex : Expr} {ts fs : List Stmt} {pos : Pos} (hc : TOk B C Ar env c ex) (ht : SsOk B C Ar env t ts) (hf : SsOk B C Ar env f fs) : SOk B C Ar env (.ite c t f) (.If ex ts fs pos) := by
  intro Z Nf N ρ σ m s K X Q F I Fr O hX hx P PX
  rw [yk] at hx
  refine wpAny_If (hc Z (Nf ++ N) ρ σ m s _ _ _ F I Fr (hX.safe Fr) hx ?_)
  intro b Z1 ρ1 σ1 h1 t1 hx1 e1 p1 I1
  cases b with
  | true => simp only [if_true] at hx1 ⊢; exact ht Z1 Nf N ρ1 σ1 m _ K X Q F I1 (Fr.mono e1 p1) O hX hx1 (P.go e1 p1 rfl _ _) (PX.go e1 p1 rfl _ _)
  | false => simp only [Bool.false_eq_true, if_false] at hx1 ⊢; exact hf Z1 Nf N ρ1 σ1 m _ K X Q F I1 (Fr.mono e1 p1) O hX hx1 (P.go e1 p1 rfl _ _) (PX.go e1 p1 rfl _ _)

theorem ss_nil : SsOk B C Ar env [] [] := by
  intro Z Nf N ρ σ m s K X Q F I Fr O hX hx P PX
  simp only [ya, xSs_cons] at hx
  exact wpAny_execs_nil (P _ _ _ Z Nf ρ σ s.heap s.toks hx .next (Ext.refl _) (List.prefix_refl _) rfl I Fr)

theorem ss_cons {ir : S} {irs : List S} {st : Stmt} {sts : List Stmt} (h : SOk B C Ar env ir st) (hr : SsOk B C Ar env irs sts) : SsOk B C Ar env (ir :: irs) (st :: sts) := by
  intro Z Nf N ρ σ m s K X Q F I Fr O hX hx P PX
  simp only [ya, xSs_cons] at hx
  refine wpAny_execs_cons (h Z Nf N ρ σ m s _ X _ F I Fr O hX hx ?_ PX)
  intro fw fl m1 Z1 Nf1 ρ1 σ1 h1 t1 hx1 hf e1 p1 hn I1 F1
  cases hf with
  | next => exact hr Z1 Nf1 N ρ1 σ1 m1 _ K X Q F I1 F1 (O.of hn) hX hx1 (P.go e1 p1 hn _ _) (PX.go e1 p1 hn _ _)
  | brk => exact P _ _ _ Z1 Nf1 ρ1 σ1 h1 t1 hx1 .brk e1 p1 hn I1 F1
  | cont => exact P _ _ _ Z1 Nf1 ρ1 σ1 h1 t1 hx1 .cont e1 p1 hn I1 F1
  | ret r => exact P _ _ _ Z1 Nf1 ρ1 σ1 h1 t1 hx1 (.ret r) e1 p1 hn I1 F1

end
end Fl

/-! loops (own work) -/
namespace Fl
open PySem PyProof.Rows
set_option linter.unusedSimpArgs false

theorem Inv.dropExt {B : Bs} {Z : Zm} {N : Led} {ρ : List Addr} {σ : H} {h h' : Heap} {a : Addr} {o : Obj} (I : Inv B Z ((a, o) :: N) ρ σ h) (hk : ∀ b o', b ≠ a → h.get? b = some o' → h'.get? b = some o') : Inv B Z N ρ σ h' := by
  have hnd := I.nd
  rw [List.map_cons, List.cons_append, List.nodup_cons] at hnd
  have hza := (I.led _ (List.mem_cons_self)).2
  refine ⟨I.base, fun b o' e => hk _ _ ?_ (I.zin b o' e), fun p hp => ⟨(I.led p (List.mem_cons_of_mem _ hp)).1.keeps fun _ e => hk _ _ ?_ e, (I.led p (List.mem_cons_of_mem _ hp)).2⟩, I.len, fun j b ob e1 e2 e3 => ?_, fun b hb => ?_, hnd.2⟩
  · rintro rfl; simp only at hza; rw [hza] at e; cases e
  · intro e; exact hnd.1 (List.mem_append_left _ (List.mem_map.mpr ⟨p, hp, e⟩))
  · obtain ⟨h1, o', h2, h3⟩ := I.live j b ob e1 e2 e3
    exact ⟨h1, o', hk _ _ (fun e => hnd.1 (List.mem_append_right _ (e ▸ List.mem_of_getElem? e1))) h2, h3⟩
  · obtain ⟨o', e⟩ := I.rin b hb
    exact ⟨o', hk _ _ (fun e' => hnd.1 (List.mem_append_right _ (e' ▸ hb))) e⟩

/-- an iterator over a list, a tuple, a range -/
inductive ItAt (B : Bs) (Z : Zm) (ρ : List Addr) : A → Nat → Obj → Prop
  | list {a i l o} : RepA B Z ρ a (.ref l) → ((∃ xs, a = .v (.list xs)) ∨ ∃ k, a = .ref k) → o.cls = .type "list_iterator" → o.data = .fields #[.ref l, .int (i : Nat) 0] → ItAt B Z ρ a i o
  | tup {xs i l o} : RepA B Z ρ (.v (.tup xs)) (.ref l) → o.cls = .type "tuple_iterator" → o.data = .fields #[.ref l, .int (i : Nat) 0] → ItAt B Z ρ (.v (.tup xs)) i o
  | range {lo hi : Int} {i : Nat} {o} : i ≤ (hi - lo).toNat → o = ⟨.type "range_iterator", none, .fields #[rawInt (lo + i), rawInt (((hi - lo).toNat : Int) - i), rawInt 1], #[]⟩ → ItAt B Z ρ (.v (.range lo hi)) i o

theorem ItAt.mono {B : Bs} {Z Z' : Zm} {ρ ρ' : List Addr} (hz : Ext Z Z') (hr : ρ <+: ρ') {a : A} {i : Nat} {o : Obj} (h : ItAt B Z ρ a i o) : ItAt B Z' ρ' a i o := by
  cases h with
  | list h1 h2 h3 h4 => exact .list (h1.mono hz hr) h2 h3 h4
  | tup h1 h2 h3 => exact .tup (h1.mono hz hr) h2 h3
  | range h1 h2 => exact .range h1 h2

section
variable {B : Bs} {C : CallSem} {Ar : Around} {env : Env} {F : Value → Shared → Prop}

/-- a list that is walked: where it lies -/
theorem lst_at {Z N ρ σ} {h : Heap} {a : A} {l : Addr} {its : List A} (I : Inv B Z N ρ σ h) (R : RepA B Z ρ a (.ref l)) (hc : (∃ xs, a = .v (.list xs)) ∨ ∃ k, a = .ref k) (hi : items σ a = some its) :
    ∃ vals n, h.get? l = some (listObj vals n) ∧ vals.length < 2 ^ 21 ∧ RepAs B Z ρ its vals := by
  rcases hc with ⟨xs, rfl⟩ | ⟨k, rfl⟩
  · obtain rfl := Option.some.inj hi
    obtain ⟨l', vals, n, q, hz, hs, hr⟩ := R
    cases q
    exact ⟨vals, n, I.zin _ _ hz, by rw [repL_len hr]; exact hs, repAs_v hr⟩
  · obtain ⟨l', e, q⟩ := R
    cases q
    exact lst_live I e hi

theorem range_get {lo hi : Int} {i : Nat} : (rngL lo hi)[i]? = if i < (hi - lo).toNat then some (.int (lo + i)) else none := by
  unfold rngL
  rw [List.getElem?_map]
  split
  · rename_i h; rw [List.getElem?_range h]; rfl
  · rename_i h; rw [List.getElem?_eq_none (by simpa using h)]; rfl

theorem ItAt.fields {Z : Zm} {ρ : List Addr} {a : A} {i : Nat} {o : Obj} (h : ItAt B Z ρ a i o) : ∃ vs, o.data = .fields vs := by
  cases h with
  | list _ _ _ h => exact ⟨_, h⟩
  | tup _ _ h => exact ⟨_, h⟩
  | range _ h => subst h; exact ⟨_, rfl⟩

theorem next_ok {Z N ρ σ} {s : Shared} {a : A} {its : List A} {i : Nat} {it : Addr} {o : Obj} {Q : Option Value → Shared → Prop} (hh : Ar.handled = none) (I : Inv B Z ((it, o) :: N) ρ σ s.heap) (h : ItAt B Z ρ a i o) (hi : items σ a = some its)
    (hS : ∀ x v o' h' tk, its[i]? = some x → RepA B Z ρ x v → ItAt B Z ρ a (i + 1) o' → Inv B Z ((it, o') :: N) ρ σ h' → Q (some v) { s with heap := h', toks := tk })
    (hN : its[i]? = none → ∀ h' tk, Inv B Z N ρ σ h' → Q none { s with heap := h', toks := tk }) : wpAny (model B.prog B.w) Ar (pyNext (.ref it)) Q F s := by
  have hit : s.heap.get? it = some o := let ⟨_, e⟩ := h.fields; (I.led _ (List.mem_cons_self)).1.2 (isNs_fields e)
  cases h with
  | @list _ _ l _ h1 h2 h3 h4 =>
    obtain ⟨vals, n, hg, hlt, hr⟩ := lst_at I h1 h2 hi
    have hI : s.heap.IsListIter it l i := ⟨o, hit, h3, h4⟩
    cases hx : its[i]? with
    | some x =>
      obtain ⟨v, hv, hrv⟩ := repAs_at hr hx
      refine wpAny_pyNext_list_item hI (isList_of hg) (x := v) (by simpa using hv) fun h' hit' hs => ?_
      obtain ⟨o', ho', hc', hd'⟩ := hit'
      exact hS x v o' h' s.toks hx hrv (.list h1 h2 hc' hd') (I.updLed hs ho')
    | none =>
      have hnone : vals[i]? = none := by
        have := repAs_len hr
        rw [List.getElem?_eq_none_iff] at hx ⊢
        omega
      refine wpAny_pyNext_list_end hh hI (isList_of hg) (by simpa using hnone) fun h' he => ?_
      exact hN hx h' s.toks (I.dropExt he)
  | @tup xs _ l _ h1 h2 h3 =>
    obtain rfl := Option.some.inj hi
    obtain ⟨l', vals, n, q, hz, hs, hr⟩ := h1
    cases q
    have hg := I.zin _ _ hz
    have hT : s.heap.IsTuple l vals.toArray := ⟨_, hg, rfl, n, rfl⟩
    have hI : s.heap.IsTupleIter it l i := ⟨o, hit, h2, h3⟩
    have hr' := repAs_v (ρ := ρ) hr
    cases hx : (xs.map A.v)[i]? with
    | some x =>
      obtain ⟨v, hv, hrv⟩ := repAs_at hr' hx
      refine wpAny_pyNext_tuple_item hI hT (x := v) (by simpa using hv) fun h' hit' hs' => ?_
      obtain ⟨o', ho', hc', hd'⟩ := hit'
      refine hS x v o' h' s.toks hx hrv (.tup ?_ hc' hd') (I.updLed hs' ho')
      exact ⟨l, vals, n, rfl, hz, hs, hr⟩
    | none =>
      have hnone : vals[i]? = none := by
        have := repAs_len hr'
        rw [List.getElem?_eq_none_iff] at hx ⊢
        omega
      refine wpAny_pyNext_tuple_end hh hI hT (by simpa using hnone) fun h' he => ?_
      exact hN hx h' s.toks (I.dropExt he)
  | @range lo hi' _ _ h1 h2 =>
    subst h2
    obtain rfl := Option.some.inj hi
    have hI : IsRangeIter s.heap it (lo + i) (((hi' - lo).toNat : Int) - i) 1 := hit
    have hget : ((rngL lo hi').map A.v)[i]? = if i < (hi' - lo).toNat then some (.v (.int (lo + i))) else none := by
      rw [List.getElem?_map, range_get]; split <;> rfl
    by_cases hlt : i < (hi' - lo).toNat
    · rw [if_pos hlt] at hget
      refine wpAny_pyNext_range_item hI (by omega) fun h' hit' hs => ?_
      refine hS _ _ _ h' _ hget (by exact ⟨_, rfl⟩) (.range (i := i + 1) (by omega) ?_) (I.updLed hs hit')
      have e1 : lo + (i : Int) + 1 = lo + ((i + 1 : Nat) : Int) := by omega
      have e2 : ((hi' - lo).toNat : Int) - (i : Int) - 1 = ((hi' - lo).toNat : Int) - ((i + 1 : Nat) : Int) := by omega
      rw [e1, e2]
    · rw [if_neg hlt] at hget
      refine wpAny_pyNext_range_end hh hI (by omega) fun h' he => ?_
      exact hN hget h' s.toks (I.dropExt he)

theorem iter_ok {Z N ρ σ} {s : Shared} {a : A} {v : Value} {its : List A} {Q : Value → Shared → Prop} (I : Inv B Z N ρ σ s.heap) (R : RepA B Z ρ a v) (hi : items σ a = some its)
    (hQ : ∀ it o h' tk, ItAt B Z ρ a 0 o → Inv B Z ((it, o) :: N) ρ σ h' → Q (.ref it) { s with heap := h', toks := tk }) : wpAny (model B.prog B.w) Ar (pyIter v) Q F s := by
  have lst : ∀ l, v = .ref l → ((∃ xs, a = .v (.list xs)) ∨ ∃ k, a = .ref k) → wpAny (model B.prog B.w) Ar (pyIter v) Q F s := by
    rintro l rfl hc
    obtain ⟨vals, n, hg, hlt, hr⟩ := lst_at I R hc hi
    exact wpAny_pyIter_list (isList_of hg) (hQ _ _ _ s.toks (.list R hc rfl rfl) (I.push _ rfl))
  cases a with
  | v x =>
    cases x with
    | list xs =>
      have R' := R
      obtain ⟨l, _, _, rfl, _⟩ := R'
      exact lst l rfl (.inl ⟨xs, rfl⟩)
    | tup xs =>
      have R' := R
      obtain ⟨l, vals, n, rfl, hz, hs, hr⟩ := R'
      have hT : s.heap.IsTuple l vals.toArray := ⟨_, I.zin _ _ hz, rfl, n, rfl⟩
      exact wpAny_pyIter_tuple hT (hQ _ _ _ s.toks (.tup R rfl rfl) (I.push _ rfl))
    | range lo hi' =>
      obtain ⟨r, t, u, w, rfl, hz, b1, b2, b3, b4⟩ := R
      have hR : IsRange s.heap r lo hi' 1 t u w := I.zin _ _ hz
      have hsz : Builtin.Range.rangeSize lo hi' 1 = ((hi' - lo).toNat : Int) := rangeSize_nat _ _
      have hsm : Builtin.Range.small lo hi' 1 = true := smallR b1 b2 b3 b4
      refine wpAny_pyIter_range hR hsm ?_
      rw [hsz]
      refine hQ _ _ _ s.toks (.range (i := 0) (by omega) ?_) (I.push _ rfl)
      simp
    | _ => exact nons hi
  | ref k =>
    obtain ⟨l, e, rfl⟩ := R
    exact lst l rfl (.inr ⟨k, rfl⟩)
  | inst c i => exact nons hi
end
end Fl

/-! for, while (own work) -/
namespace Fl
open PySem PyProof.Rows
set_option linter.unusedSimpArgs false

section
variable {B : Bs} {C : CallSem} {Ar : Around} {env : Env} {F : Value → Shared → Prop}

theorem Frm.mem {Z : Zm} {ρ : List Addr} {m : Loc} {N N' : Led} (Fr : Frm B env Z ρ m N) (h : ∀ p ∈ N, p ∈ N') : Frm B env Z ρ m N' where
  kind := Fr.kind
  glob := Fr.glob
  blt := Fr.blt
  rd := fun x a hx hw => by
    obtain ⟨v, hv, hh⟩ := Fr.rd x a hx hw
    refine ⟨v, hv, ?_⟩
    rcases hh with ⟨hk, o, es, ep, hN, hD⟩ | ⟨hk, c, o, hl, hN, hD⟩
    · exact .inl ⟨hk, o, es, ep, h _ hN, hD⟩
    · exact .inr ⟨hk, c, o, hl, h _ hN, hD⟩
  loc := let ⟨o, es, ep, hN, hD⟩ := Fr.loc; ⟨o, es, ep, h _ hN, hD⟩
  cel := fun x c hc => let ⟨o, v, hN, hD⟩ := Fr.cel x c hc; ⟨o, v, h _ hN, hD⟩
  cok := Fr.cok
  cinj := Fr.cinj

/-- an object that is no frame and no cell is not looked at -/
theorem Frm.dropF {Z : Zm} {ρ : List Addr} {m : Loc} {Nf N : Led} {it : Addr} {o : Obj} {vs : Array Value} (Fr : Frm B env Z ρ m (Nf ++ (it, o) :: N)) (hd : o.data = .fields vs) : Frm B env Z ρ m (Nf ++ N) := by
  have h : ∀ p ∈ Nf ++ (it, o) :: N, (∀ vs, p.2.data ≠ .fields vs) → p ∈ Nf ++ N := by
    intro p hp hne
    rcases List.mem_append.mp hp with hp | hp
    · exact List.mem_append_left _ hp
    · rcases List.mem_cons.mp hp with rfl | hp
      · exact absurd hd (hne vs)
      · exact List.mem_append_right _ hp
  refine ⟨Fr.kind, Fr.glob, Fr.blt, fun x a hx hw => ?_, ?_, fun x c hc => ?_, Fr.cok, Fr.cinj⟩
  · obtain ⟨v, hv, hh⟩ := Fr.rd x a hx hw
    refine ⟨v, hv, ?_⟩
    rcases hh with ⟨hk, o, es, ep, hN, hD, r⟩ | ⟨hk, c, o, hl, hN, hD⟩
    · exact .inl ⟨hk, o, es, ep, h _ hN (by simp [hD]), hD, r⟩
    · exact .inr ⟨hk, c, o, hl, h _ hN (by simp [hD]), hD⟩
  · obtain ⟨o, es, ep, hN, hD, r⟩ := Fr.loc
    exact ⟨o, es, ep, h _ hN (by simp [hD]), hD, r⟩
  · obtain ⟨o, v, hN, hD⟩ := Fr.cel x c hc
    exact ⟨o, v, h _ hN (by simp [hD]), hD⟩

theorem stay_items {Z : Zm} {ρ : List Addr} {σ σ' : H} {a : A} {its : List A} (h0 : items σ a = some its) (h : Stay σ' a its) : items σ' a = some its := by
  cases a with
  | v x => cases x <;> exact h0
  | ref k => exact h
  | inst c i => exact nons h0

/-- where a for-loop stands -/
inductive ForSt (B : Bs) (env : Env) (a : A) (its : List A) (Z1 : Zm) (Nf N : Led) (ρ1 : List Addr) (it : Addr) (s : Shared) (L : List A → Loc → H → Prop) (n : Nat) (s' : Shared) : Prop
  | mk (i : Nat) (m' : Loc) (Z' : Zm) (Nf' : Led) (ρ' : List Addr) (σ' : H) (h' : Heap) (tk : Nat) (o : Obj) (h1 : n = its.length + 1 - i) (h2 : i ≤ its.length) (h3 : s' = { s with heap := h', toks := tk }) (h4 : Ext Z1 Z') (h5 : ρ1 <+: ρ') (h6 : Nf'.map (·.1) = Nf.map (·.1)) (h7 : ItAt B Z' ρ' a i o)
      (h8 : Inv B Z' ((it, o) :: (Nf' ++ N)) ρ' σ' h') (h9 : Frm B env Z' ρ' m' (Nf' ++ N)) (h10 : items σ' a = some its) (h11 : L (its.drop i) m' σ')
theorem sok_for {x : String} {e : E} {ex : Expr} {body : List S} {bs : List Stmt} {p pos : Pos} (hh : Ar.handled = none) (hk : stK (env.kindOf (Str.ofString x)) = true) (he : EOk B C Ar env e ex) (hb : SsOk B C Ar env body bs)
    (hfs : ∀ v, foldedSetIterable ex env v = pure v) : SOk B C Ar env (.for_ (.one x) e body) (.For (.Name (Str.ofString x) p) ex bs [] pos) := by
  intro Z Nf N ρ σ m s K X Q F I Fr O hX hx P PX
  rw [yl] at hx
  refine wpAny_For (he Z (Nf ++ N) ρ σ m s _ _ _ F I Fr (hX.safe Fr) hx ?_) hfs
  intro a v Z1 ρ1 σ1 h1 t1 hx1 e1 p1 I1 R1
  cases hi : items σ1 a with
  | none => rw [hi] at hx1; exact hx1.elim
  | some its =>
    rw [hi] at hx1
    simp only [get] at hx1
    refine iter_ok I1 R1 hi ?_
    intro it o h2 t2 hit I2
    refine codeAny_forLoop (ForSt B env a its Z1 Nf N ρ1 it s fun l m' σ' => forLoop (bindT (.one x)) (fun m σ K => xSs C body m σ K X) (fun σ => Stay σ a its) l m' σ' K) ?_ (its.length + 1)
      ⟨0, m, Z1, Nf, ρ1, σ1, h2, t2, o, rfl, Nat.zero_le _, rfl, Ext.refl _, List.prefix_refl _, rfl, hit, I2, Fr.mono e1 p1, hi, hx1⟩
    rintro n s' ⟨i, m', Z', Nf', ρ', σ', h', tk, o, rfl, hile, rfl, e2, p2, hn, hit, I', Fr', hi', hx'⟩
    refine next_ok hh I' hit hi' ?_ ?_
    · intro y w o' h3 t3 hy hw hit' I3
      have hlt : i < its.length := (List.getElem?_eq_some_iff.mp hy).1
      have hdrop : its.drop i = y :: its.drop (i + 1) := by
        rw [List.drop_eq_getElem_cons hlt]
        rw [List.getElem?_eq_getElem hlt] at hy
        cases hy; rfl
      rw [hdrop] at hx'
      simp only [forLoop_0, forLoop_1, bindT, get] at hx'
      have hpm : ((it, o') :: (Nf' ++ N)).Perm (Nf' ++ (it, o') :: N) := List.perm_middle.symm
      refine wpAny_assign_Name (store_ok (Nf := Nf') (N := (it, o') :: N) (I3.perm hpm.symm) (Fr'.mem (fun p hp => hpm.mem_iff.mp (List.mem_cons_of_mem _ hp))) hw hk (O.of hn).loc ((O.of hn).cel _) ?_)
      intro Nf'' h4 t4 hn' I4 F4
      refine hb Z' Nf'' ((it, o') :: N) ρ' σ' (m'.set x y) _ _ X _ _ I4 F4 (O.of (hn'.trans hn)) (hX.mem fun p hp => List.mem_cons_of_mem _ hp) hx' ?_ ?_
      rotate_left
      · intro c C e m5 Z5 Nf5 ρ5 σ5 h5 t5 hx5 hc5 e5 p5 hn5 I5 F5 x5
        obtain ⟨vs, hvs⟩ := hit'.fields
        have hsub : ∀ p ∈ Nf5 ++ N, p ∈ Nf5 ++ (it, o') :: N := fun p hp => by
          rcases List.mem_append.mp hp with hp | hp
          · exact List.mem_append_left _ hp
          · exact List.mem_append_right _ (List.mem_cons_of_mem _ hp)
        obtain ⟨outer, f1, f2, f3⟩ := hX.all (F5.dropF hvs)
        refine looped_ok (B := B) (σ := σ5) (Z := Z5) (N := Nf5 ++ N) (ρ := ρ5) f1 f3 f2 (I5.sub (List.Sublist.append_left (List.sublist_cons_self _ _) _)) (x5.sub hsub) fun h6 I6 x6 => ?_
        exact PX c C e m5 Z5 Nf5 ρ5 σ5 h6 t5 hx5 hc5 ((e1.trans e2).trans e5) ((p1.trans p2).trans p5) (hn5.trans (hn'.trans hn)) I6 (F5.dropF hvs) x6
      intro fw fl m5 Z5 Nf5 ρ5 σ5 h5 t5 hx5 hf5 e5 p5 hn5 I5 F5
      obtain ⟨vs, hvs⟩ := hit'.fields
      have F5' := F5.dropF hvs
      have I5' : Inv B Z5 ((it, o') :: (Nf5 ++ N)) ρ5 σ5 h5 := I5.perm List.perm_middle.symm
      have hnn : Nf5.map (·.1) = Nf.map (·.1) := hn5.trans (hn'.trans hn)
      cases hf5 with
      | next =>
        refine ⟨its.length + 1 - (i + 1), by omega, i + 1, m5, Z5, Nf5, ρ5, σ5, h5, t5, o', rfl, by omega, rfl, e2.trans e5, p2.trans p5, hnn, hit'.mono e5 p5, I5', F5', stay_items (Z := Z) (ρ := ρ) hi' hx5.1, hx5.2⟩
      | cont =>
        refine ⟨its.length + 1 - (i + 1), by omega, i + 1, m5, Z5, Nf5, ρ5, σ5, h5, t5, o', rfl, by omega, rfl, e2.trans e5, p2.trans p5, hnn, hit'.mono e5 p5, I5', F5', stay_items (Z := Z) (ρ := ρ) hi' hx5.1, hx5.2⟩
      | brk => exact P _ _ _ Z5 Nf5 ρ5 σ5 h5 t5 hx5 .next ((e1.trans e2).trans e5) ((p1.trans p2).trans p5) hnn I5'.drop F5'
      | ret r => exact P _ _ _ Z5 Nf5 ρ5 σ5 h5 t5 hx5 (.ret r) ((e1.trans e2).trans e5) ((p1.trans p2).trans p5) hnn I5'.drop F5'
    · intro hnone h3 t3 I3
      have hge : its.length ≤ i := by rwa [List.getElem?_eq_none_iff] at hnone
      rw [List.drop_eq_nil_of_le hge] at hx'
      simp only [forLoop_0, forLoop_1] at hx'
      exact wpAny_execs_nil (P _ _ _ Z' Nf' ρ' σ' h3 t3 hx' .next (e1.trans e2) (p1.trans p2) hn I3 Fr')

end
end Fl

/-! calls (own work) -/
namespace Fl
open PySem PyProof.Rows PySem.W
set_option linter.unusedSimpArgs false

theorem Inv.keepsMany {B : Bs} {Z : Zm} {N M : Led} {ρ : List Addr} {σ : H} {h h' : Heap} (I : Inv B Z N ρ σ h) (hk : ∀ b o, h.get? b = some o → h'.get? b = some o)
    (hM : ∀ p ∈ M, h'.get? p.1 = some p.2 ∧ h.objs.size ≤ p.1) (hd : (M.map (·.1)).Nodup) : Inv B Z (M ++ N) ρ σ h' where
  base := I.base
  zin := fun a o e => hk _ _ (I.zin a o e)
  led := fun p hp => by
    rcases List.mem_append.mp hp with hp | hp
    · refine ⟨.of (hM p hp).1, ?_⟩
      cases hz : Z p.1 with
      | none => rfl
      | some o' => exact absurd (I.z_lt hz) (Nat.not_lt.mpr (hM p hp).2)
    · exact ⟨(I.led p hp).1.keeps fun _ e => hk _ _ e, (I.led p hp).2⟩
  len := I.len
  live := fun i a ob e1 e2 e3 => let ⟨h1, o, h2, h3⟩ := I.live i a ob e1 e2 e3; ⟨h1, o, hk _ _ h2, h3⟩
  rin := fun a ha => let ⟨o, e⟩ := I.rin a ha; ⟨o, hk _ _ e⟩
  nd := by
    rw [List.map_append, List.append_assoc, List.nodup_append]
    refine ⟨hd, I.nd, fun a ha b hb => ?_⟩
    obtain ⟨p, hp, rfl⟩ := List.mem_map.mp ha
    rintro rfl
    rcases List.mem_append.mp hb with hb | hb
    · obtain ⟨q, hq, e⟩ := List.mem_map.mp hb
      have := I.led_lt hq
      rw [e] at this; exact absurd this (Nat.not_lt.mpr (hM p hp).2)
    · exact absurd (I.rlt _ hb) (Nat.not_lt.mpr (hM p hp).2)

/-- the cells as a ledger -/
theorem cells_led {h : Heap} : ∀ {cs : List (Str × Addr)}, (∀ n c, (n, c) ∈ cs → ∃ v, h.IsCell c v) → ∃ M : Led, M.map (·.1) = cs.map (·.2) ∧ ∀ p ∈ M, h.get? p.1 = some p.2
  | [], _ => ⟨[], rfl, fun _ h => by cases h⟩
  | (n, c) :: r, hc => by
    obtain ⟨M, h1, h2⟩ := cells_led (cs := r) (fun n' c' h' => hc n' c' (List.mem_cons_of_mem _ h'))
    obtain ⟨v, o, ho, hd⟩ := hc n c List.mem_cons_self
    refine ⟨(c, o) :: M, by simp [h1], fun p hp => ?_⟩
    rcases List.mem_cons.mp hp with rfl | hp
    · exact ho
    · exact h2 p hp

section
variable {B : Bs} {C : CallSem} {Ar : Around} {env : Env} {F : Value → Shared → Prop}

theorem bindP_in : ∀ {ps : List String} {as : List A} {x : String} {a : A}, bindP ps as x = some a → x ∈ ps
  | [], as, x, a, h => by cases as <;> simp [bindP_0, bindP_1, bindP_2] at h
  | p :: ps, [], x, a, h => by simp [bindP_0, bindP_1, bindP_2] at h
  | p :: ps, b :: as, x, a, h => by
    simp only [bindP_0, bindP_1, bindP_2, Loc.set] at h
    split at h
    · rename_i e; subst e; exact List.mem_cons_self
    · exact List.mem_cons_of_mem _ (bindP_in h)

theorem bindL_other (kindOf : Str → Option NameKind) : ∀ (binds : List (Str × Value)) (m : Str → Option Value) (y : Str), (∀ p ∈ binds, p.1 ≠ y) → bindL kindOf binds m y = m y
  | [], _, _, _ => rfl
  | (n, v) :: r, m, y, h => by
    have hn : y ≠ n := fun e => h (n, v) List.mem_cons_self e.symm
    unfold bindL
    rw [bindL_other kindOf r _ y (fun p hp => h p (List.mem_cons_of_mem _ hp))]
    split
    · exact if_neg hn
    · rfl
theorem bindC_other (kindOf : Str → Option NameKind) : ∀ (binds : List (Str × Value)) (m : Str → Option Value) (y : Str), (∀ p ∈ binds, p.1 ≠ y) → bindC kindOf binds m y = m y
  | [], _, _, _ => rfl
  | (n, v) :: r, m, y, h => by
    have hn : y ≠ n := fun e => h (n, v) List.mem_cons_self e.symm
    unfold bindC
    rw [bindC_other kindOf r _ y (fun p hp => h p (List.mem_cons_of_mem _ hp))]
    split
    · rfl
    · exact if_neg hn

theorem zip_names {ps : List String} {vs : List Value} {x : String} (h : x ∉ ps) : ∀ p ∈ (ps.map Str.ofString).zip vs, p.1 ≠ Str.ofString x := by
  intro p hp e
  have := (List.of_mem_zip hp).1
  rw [e] at this
  obtain ⟨y, hy, he⟩ := List.mem_map.mp this
  exact h (strOf_inj he ▸ hy)

theorem bind_get (kindOf : Str → Option NameKind) {Z : Zm} {ρ : List Addr} : ∀ {ps : List String} {as : List A} {vs : List Value} {x : String} {a : A} (m : Str → Option Value), ps.Nodup → as.length = ps.length → RepAs B Z ρ as vs → bindP ps as x = some a →
    ∃ v, RepA B Z ρ a v ∧ (kindOf (Str.ofString x) = some .local → bindL kindOf ((ps.map Str.ofString).zip vs) m (Str.ofString x) = some v) ∧ (kindOf (Str.ofString x) ≠ some .local → bindC kindOf ((ps.map Str.ofString).zip vs) m (Str.ofString x) = some v)
  | [], as, vs, x, a, m, _, _, _, h => by cases as <;> simp [bindP_0, bindP_1, bindP_2] at h
  | p :: ps, [], vs, x, a, m, _, hl, _, h => by simp at hl
  | p :: ps, b :: as, vs, x, a, m, hnd, hl, hr, h => by
    obtain ⟨v, r, rfl, h1, h2⟩ := hr
    rw [List.nodup_cons] at hnd
    simp only [bindP_0, bindP_1, bindP_2, Loc.set] at h
    simp only [List.map_cons, List.zip_cons_cons]
    split at h
    · rename_i e; cases h; subst e
      refine ⟨v, h1, fun hk => ?_, fun hk => ?_⟩
      · unfold bindL
        rw [bindL_other _ _ _ _ (zip_names hnd.1), if_pos hk]; exact if_pos rfl
      · unfold bindC
        rw [bindC_other _ _ _ _ (zip_names hnd.1), if_neg hk]; exact if_pos rfl
    · obtain ⟨w, hw, hL, hC⟩ := bind_get kindOf (m := m) hnd.2 (by simpa using hl) h2 h
      refine ⟨w, hw, fun hk => ?_, fun hk => ?_⟩
      · unfold bindL
        obtain ⟨w', hw', hL', _⟩ := bind_get kindOf (x := x) (a := a) (m := if kindOf (Str.ofString p) = some .local then fun y => if y = Str.ofString p then some v else m y else m) hnd.2 (by simpa using hl) h2 h
        have hin := bindP_in h
        have hind : ∀ (binds : List (Str × Value)) (m1 m2 : Str → Option Value) (y : Str), (∃ q ∈ binds, q.1 = y) → kindOf y = some .local → bindL kindOf binds m1 y = bindL kindOf binds m2 y := by
          intro binds
          induction binds with
          | nil => intro m1 m2 y ⟨q, hq, _⟩ _; cases hq
          | cons q binds ih =>
            intro m1 m2 y hex hky
            obtain ⟨n, u⟩ := q
            unfold bindL
            by_cases hm : ∃ q ∈ binds, q.1 = y
            · exact ih _ _ y hm hky
            · have hno : ∀ q ∈ binds, q.1 ≠ y := fun q hq e => hm ⟨q, hq, e⟩
              rw [bindL_other _ _ _ _ hno, bindL_other _ _ _ _ hno]
              obtain ⟨q, hq, e⟩ := hex
              rcases List.mem_cons.mp hq with rfl | hq
              · simp only at e; subst e; simp [hky]
              · exact absurd e (hno q hq)
        have hex : ∃ q ∈ (ps.map Str.ofString).zip r, q.1 = Str.ofString x := by
          obtain ⟨i, hi, he⟩ := List.getElem_of_mem hin
          have hlr : r.length = ps.length := by have := repAs_len h2; simp at hl; omega
          refine ⟨(Str.ofString x, r[i]'(by omega)), ?_, rfl⟩
          rw [List.mem_iff_getElem]
          exact ⟨i, by simp; omega, by simp [he]⟩
        rw [hind _ _ m _ hex hk]; exact hL hk
      · unfold bindC
        have hin := bindP_in h
        have hind : ∀ (binds : List (Str × Value)) (m1 m2 : Str → Option Value) (y : Str), (∃ q ∈ binds, q.1 = y) → kindOf y ≠ some .local → bindC kindOf binds m1 y = bindC kindOf binds m2 y := by
          intro binds
          induction binds with
          | nil => intro m1 m2 y ⟨q, hq, _⟩ _; cases hq
          | cons q binds ih =>
            intro m1 m2 y hex hky
            obtain ⟨n, u⟩ := q
            unfold bindC
            by_cases hm : ∃ q ∈ binds, q.1 = y
            · exact ih _ _ y hm hky
            · have hno : ∀ q ∈ binds, q.1 ≠ y := fun q hq e => hm ⟨q, hq, e⟩
              rw [bindC_other _ _ _ _ hno, bindC_other _ _ _ _ hno]
              obtain ⟨q, hq, e⟩ := hex
              rcases List.mem_cons.mp hq with rfl | hq
              · simp only at e; subst e; simp [hky]
              · exact absurd e (hno q hq)
        have hex : ∃ q ∈ (ps.map Str.ofString).zip r, q.1 = Str.ofString x := by
          obtain ⟨i, hi, he⟩ := List.getElem_of_mem hin
          have hlr : r.length = ps.length := by have := repAs_len h2; simp at hl; omega
          refine ⟨(Str.ofString x, r[i]'(by omega)), ?_, rfl⟩
          rw [List.mem_iff_getElem]
          exact ⟨i, by simp; omega, by simp [he]⟩
        rw [hind _ _ m _ hex hk]; exact hC hk

/-- calls by their meaning -/
noncomputable def CallOK (B : Bs) (rank : String → Nat) : CallSem := fun f as σ K X => ∀ (Ar : Around) (Z : Zm) (N : Led) (ρ : List Addr) (s : Shared) (vs : List Value) (R : Result → Shared → Prop) (fa : Addr),
  B.fn f = some fa → Room Ar (rank f) → FrsO Ar N → Inv B Z N ρ σ s.heap → RepAs B Z ρ as vs → Post B Z N ρ s K (fun v s' => R (.ok (.ret v)) s') → PostX B Z N ρ s X (fun e s' => R (.error e) s') → codeAny (model B.prog B.w) Ar (.call (.ref fa) ⟨vs, []⟩) R s

/-- a function as it lies in the heap, and its text -/
inductive FnAt (B : Bs) (C : CallSem) (rank : String → Nat) (f : String) (d : Fn) : Prop
  | mk (fa : Addr) (o : Obj) (fd : FuncData) (body : List Stmt) (h1 : B.fn f = some fa) (h2 : B.h0.get? fa = some o) (h3 : o.data = .func fd) (h4 : fd.body = .stmts body) (h5 : fd.closure = []) (h6 : fd.globals = mainGlobals) (h7 : fd.builtins = builtinsNs) (h8 : B.h0.CodeRec fd.code fd.qualname)
      (h9 : fd.scope.kind = .function) (h10 : fd.scope.isCoroutine = false) (h11 : fd.scope.isGenerator = false) (h12 : d.ps.Nodup) (h13 : ∀ vs : List Value, vs.length = d.ps.length → bindArgs fd ⟨vs, []⟩ = pure ((d.ps.map Str.ofString).zip vs))
      (h14 : ∀ x ∈ d.ps, fd.scope.names.lookup (Str.ofString x) = some .local ∨ fd.scope.names.lookup (Str.ofString x) = some .cell) (h15 : ((cellsFrom 0 fd.scope.names []).map (·.1)).Nodup) (h16 : fd.scope.names.all (fun p => p.2 != .free) = true)
      (h17 : ∀ Ar env, env.scope = fd.scope → (rank f = 0 ∨ Ar.handled = none) → Ar.depth + 4 * rank f + 3 ≤ 900 → Ar.units + 30 * rank f + 230 ≤ cLine → SsOk B C Ar env d.body body)

theorem closed_of {rank : String → Nat} {tab : List (String × Fn)} (hlim : B.h0.NoLimit) (h : ∀ f d, (f, d) ∈ tab → FnAt B (CallOK B rank) rank f d) : Closed (CallOK B rank) tab := by
  intro f d hfd as σ K X hrun Ar Z N ρ s vs R fa hfa hroom hfr I Ra P PX
  obtain ⟨fa', o, fd, body, hfa', ho, hdat, hbody, hclo, hglob, hblt, hcode, hkind, hco, hgen, hnd, hbind, hloc, hcn, hfree, hsound⟩ := h f d hfd
  rw [hfa] at hfa'; cases hfa'
  obtain ⟨hlen, hx⟩ := hrun
  obtain ⟨hh, hdep, hun⟩ := hroom
  have hvl : vs.length = d.ps.length := by rw [repAs_len Ra, hlen]
  have kinds : ∀ n, ∀ x ∈ (d.ps.map Str.ofString).zip vs, fd.scope.names.lookup x.1 = some .local ∨ (fd.scope.names.lookup x.1 = some .cell ∧ ((cellsFrom n fd.scope.names []).lookup x.1).isSome = true) := by
    intro n x hx
    have := (List.of_mem_zip hx).1
    obtain ⟨y, hy, he⟩ := List.mem_map.mp this
    rw [← he]
    rcases hloc y hy with h1 | h1
    · exact .inl h1
    · exact .inr ⟨h1, cellsFrom_some _ _ _ (.inl h1)⟩
  refine codeAny_call_cells (fd := fd) (by unfold recursionLimit; omega) (I.keep _ _ ho) hdat (hlim.keeps I.keep) (hcode.keeps I.keep) hbody (hbind vs hvl) hclo (kinds _) (fun s₁ x => ?_) hco hgen hkind
  obtain ⟨h₁, tk, rfl, _⟩ := x.done
  have hk₁ := x.toInCall.keep
  have hmem : ∀ n c, (n, c) ∈ cellsFrom (s.heap.objs.size + 1) fd.scope.names [] → (cellsFrom (s.heap.objs.size + 1) fd.scope.names []).lookup n = some c := fun n c hm =>
    lookup_of_mem_nodup (cellsFrom_names fd.scope.names 0 (s.heap.objs.size + 1) [] [] rfl ▸ hcn) hm
  obtain ⟨oL, es, ep, hgL, hdL, hsL, hfL⟩ := x.toInCall.ns
  obtain ⟨M, hM1, hM2⟩ := cells_led (h := h₁) (cs := cellsFrom (s.heap.objs.size + 1) fd.scope.names []) (fun n c hm => ⟨_, x.cell n c (hmem n c hm)⟩)
  have hab : ∀ p ∈ M, s.heap.objs.size < p.1 := by
    intro p hp
    have : p.1 ∈ (cellsFrom (s.heap.objs.size + 1) fd.scope.names []).map (·.2) := hM1 ▸ List.mem_map.mpr ⟨p, hp, rfl⟩
    obtain ⟨⟨n, c⟩, hm, e⟩ := List.mem_map.mp this
    simp only at e; rw [← e]
    exact x.above n c hm
  have hndM : (M.map (·.1)).Nodup := by
    rw [hM1]
    rw [List.nodup_iff_pairwise_ne, List.pairwise_map]
    exact x.apart
  have hnf : (((s.heap.objs.size, oL) :: M).map (·.1)).Nodup := by
    rw [List.map_cons, List.nodup_cons]
    refine ⟨fun hm => ?_, hndM⟩
    obtain ⟨p, hp, e⟩ := List.mem_map.mp hm
    exact absurd (hab p hp) (by rw [e]; exact Nat.lt_irrefl _)
  have I1 : Inv B Z (((s.heap.objs.size, oL) :: M) ++ N) ρ σ h₁ := I.keepsMany hk₁ (fun p hp => by
    rcases List.mem_cons.mp hp with rfl | hp
    · exact ⟨hgL, Nat.le_refl _⟩
    · exact ⟨hM2 p hp, Nat.le_of_lt (hab p hp)⟩) hnf
  have cell_in : ∀ y c, (cellsFrom (s.heap.objs.size + 1) fd.scope.names []).lookup y = some c → ∃ oc, (c, oc) ∈ M ∧ h₁.get? c = some oc := by
    intro y c hc
    have : c ∈ M.map (·.1) := hM1 ▸ List.mem_map.mpr ⟨(y, c), mem_of_lookup hc, rfl⟩
    obtain ⟨p, hp, e⟩ := List.mem_map.mp this
    refine ⟨p.2, ?_, ?_⟩
    · rw [← e]; exact hp
    · rw [← e]; exact hM2 p hp
  have Fr1 : Frm B (callEnvC fd s.heap.objs.size fa) Z ρ (bindP d.ps as) (((s.heap.objs.size, oL) :: M) ++ N) := by
    refine ⟨hkind, hglob, hblt, fun y a hy hw => ?_, ⟨oL, es, ep, List.mem_append_left _ List.mem_cons_self, hdL, hsL⟩, fun y c hc => ?_, fun y hy => ?_, fun y z c h1 h2 => ?_⟩
    · obtain ⟨v, hv, hL, hCc⟩ := bind_get (B := B) (callEnvC fd s.heap.objs.size fa).kindOf (fun _ => none) hnd hlen Ra hy
      refine ⟨v, hv, ?_⟩
      rcases hloc y (bindP_in hy) with h1 | h1
      · exact .inl ⟨h1, oL, es, ep, List.mem_append_left _ List.mem_cons_self, hdL, hsL, (hfL _).trans (hL h1)⟩
      · have hne : (callEnvC fd s.heap.objs.size fa).kindOf (Str.ofString y) ≠ some .local := by
          show fd.scope.names.lookup _ ≠ _
          rw [h1]; decide
        obtain ⟨c, hc⟩ := Option.isSome_iff_exists.mp (cellsFrom_some fd.scope.names (s.heap.objs.size + 1) [] (.inl h1))
        obtain ⟨oc, hm, hg⟩ := cell_in _ c hc
        obtain ⟨o', ho', hd'⟩ := x.cell _ c hc
        have : oc = o' := by rw [hg] at ho'; cases ho'; rfl
        subst this
        rw [hCc hne] at hd'
        exact .inr ⟨.inl h1, c, oc, hc, List.mem_append_left _ (List.mem_cons_of_mem _ hm), hd'⟩
    · obtain ⟨oc, hm, hg⟩ := cell_in _ c hc
      obtain ⟨o', ho', hd'⟩ := x.cell _ c hc
      have : oc = o' := by rw [hg] at ho'; cases ho'; rfl
      subst this
      exact ⟨oc, _, List.mem_append_left _ (List.mem_cons_of_mem _ hm), hd'⟩
    · rcases hy with hy | hy
      · exact Option.isSome_iff_exists.mp (cellsFrom_some fd.scope.names (s.heap.objs.size + 1) [] (.inl hy))
      · have hm : (y, NameKind.free) ∈ fd.scope.names := mem_of_lookup hy
        exact absurd (List.all_eq_true.mp hfree _ hm) (by simp)
    · exact name_of_addr x.apart (mem_of_lookup h1) (mem_of_lookup h2)
  have hown : OwnF ((s.heap.objs.size, oL) :: M) (callEnvC fd s.heap.objs.size fa) := by
    refine ⟨List.mem_map.mpr ⟨_, List.mem_cons_self, rfl⟩, fun y hy => ?_⟩
    obtain ⟨c, hc⟩ := Option.isSome_iff_exists.mp (cellsFrom_some fd.scope.names (s.heap.objs.size + 1) [] (.inl hy))
    obtain ⟨oc, hm, _⟩ := cell_in _ c hc
    exact ⟨c, hc, List.mem_map.mpr ⟨(c, oc), List.mem_cons_of_mem _ hm, rfl⟩⟩
  have hfs : FrsS (Ar.deeper (callEnvC fd s.heap.objs.size fa)) (callEnvC fd s.heap.objs.size fa) N := by
    obtain ⟨l, e, hm⟩ := hfr
    refine ⟨l, ?_, rfl, hm⟩
    show Ar.frames.map _ = _
    rw [e]; rfl
  refine hsound (Ar.deeper (callEnvC fd s.heap.objs.size fa)) _ rfl hh (by show Ar.depth + 1 + _ + _ ≤ _; omega) (by show Ar.units + 3 + _ + _ ≤ _; omega) Z ((s.heap.objs.size, oL) :: M) N ρ σ (bindP d.ps as) { s with heap := h₁, toks := tk } _ _ _ _ I1 Fr1 hown hfs hx ?_ ?_
  rotate_left
  · intro c C e m2 Z2 Nf2 ρ2 σ2 h2 t2 hk2 hc2 e2 p2 hn2 I2 F2 x2
    obtain ⟨outer, f1, f2, f3⟩ := hfs.all F2
    refine leaving_ok (B := B) (σ := σ2) (Z := Z2) (N := Nf2 ++ N) (ρ := ρ2) f1 f3 f2 I2 x2 fun h3 I3 x3 => ?_
    exact PX c C e Z2 ρ2 σ2 h3 t2 hk2 hc2 e2 p2 (I3.sub (List.sublist_append_right _ _)) (x3.sub fun p hp => List.mem_append_right _ hp)
  intro fw fl m2 Z2 Nf2 ρ2 σ2 h2 t2 hk2 hf2 e2 p2 hn2 I2 F2
  have I3 : Inv B Z2 N ρ2 σ2 h2 := I2.sub (List.sublist_append_right _ _)
  cases hf2 with
  | next => exact P _ _ Z2 ρ2 σ2 h2 t2 hk2 e2 p2 I3 (by first | exact rfl | exact ⟨_, rfl⟩)
  | ret r => exact P _ _ Z2 ρ2 σ2 h2 t2 hk2 e2 p2 I3 r
  | brk => exact hk2.elim
  | cont => exact hk2.elim
end
end Fl

/-! calls of functions, of methods, of classes; attributes (own work) -/
namespace Fl
open PySem PyProof.Rows PySem.W
set_option linter.unusedSimpArgs false

section
variable {B : Bs} {C : CallSem} {Ar : Around} {env : Env} {F : Value → Shared → Prop} {rank : String → Nat}

theorem fcall_args {f : Value} {first : List Value} {irs : List E} {es : List Expr} {pos : Pos} (hin : Frag.In B.K B.h0) (hf : keepIn B.K f = true) (h : EsOk B C Ar env irs es)
    {Z N ρ σ m} {s : Shared} {K : List A → H → Prop} {X : String → H → Prop} {Q : Value → Shared → Prop} (I : Inv B Z N ρ σ s.heap) (Fr : Frm B env Z ρ m N) (hX : Safe Ar N X) (hx : xEs C irs m σ K X)
    (P : PostL B irs.length Z N ρ s K (fun vs s' => wpAny (model B.prog B.w) Ar (call f (first ++ vs)) Q F s')) : wpAny (model B.prog B.w) Ar (callWith pos f first (backTo pos (starEach es env)) []) Q F s := by
  have hp := starEach_plain (env := env) (pos := pos) h.un
  refine callWith_of (P := fun h => Frag.In B.K h) (by rw [hp]; rfl) (keeps_K hf) ?_
  cases h with
  | nil =>
    simp only [yV, yW] at hx
    refine PyProof.Rows.evalArgs_none ⟨hin.keeps I.keep, ?_⟩
    exact P [] [] Z ρ σ s.heap s.toks rfl hx (Ext.refl _) (List.prefix_refl _) I rfl
  | cons he hu hr =>
    have h' := args_ok (F := F) (pos := pos) (Q := fun vs s₁ => Frag.In B.K s₁.heap ∧ wpAny (model B.prog B.w) Ar (call f (first ++ vs)) Q F s₁) (EsOk.cons he hu hr) I Fr hX hx (fun as vs Z' ρ' σ' h' tk hl hk e p I' R' => ⟨hin.keeps I'.keep, P as vs Z' ρ' σ' h' tk hl hk e p I' R'⟩)
    rw [starEach_un hu] at h' ⊢
    exact Calls.evalArgs_plain h'

theorem call_core {f : String} {fa : Addr} {irs : List E} {es : List Expr} {p pos : Pos} (hin : Frag.In B.K B.h0) (hroom : Room Ar (rank f)) (hfa : B.fn f = some fa) (hg : GName B (Str.ofString f) (.ref fa)) (hf : keepIn B.K (.ref fa) = true)
    (hk : env.kindOf (Str.ofString f) = some .globalImplicit) (hd : (Str.ofString f == ("__debug__" : Str)) = false) (h : EsOk B (CallOK B rank) Ar env irs es)
    {Z N ρ σ m} {s : Shared} {K : A → H → Prop} {X X' : String → H → Prop} {Q : Value → Shared → Prop} (I : Inv B Z N ρ σ s.heap) (Fr : Frm B env Z ρ m N) (hX : Safe Ar N X') (hx : xEs (CallOK B rank) irs m σ (fun as σ => CallOK B rank f as σ K X) X') (P : Post B Z N ρ s K Q) (PX : PostX B Z N ρ s X F) :
    wpAny (model B.prog B.w) Ar (eval (.Call (.Name (Str.ofString f) p) es [] pos) env) Q F s := by
  refine wpAny_Call_NameR (ld_glob I Fr hg hk hd (fcall_args hin hf h I Fr hX hx ?_))
  intro as vs Z1 ρ1 σ1 h1 t1 hl hx1 e1 p1 I1 R1
  exact wpAny_call (hx1 Ar Z1 N ρ1 _ vs _ fa hfa hroom hX.2 I1 R1 (P.go e1 p1 _ _) (PX.go e1 p1 _ _))

theorem eok_call {f : String} {fa : Addr} {irs : List E} {es : List Expr} {p pos : Pos} (hin : Frag.In B.K B.h0) (hroom : Room Ar (rank f)) (hfa : B.fn f = some fa) (hg : GName B (Str.ofString f) (.ref fa)) (hf : keepIn B.K (.ref fa) = true)
    (hk : env.kindOf (Str.ofString f) = some .globalImplicit) (hd : (Str.ofString f == ("__debug__" : Str)) = false) (h : EsOk B (CallOK B rank) Ar env irs es) : EOk B (CallOK B rank) Ar env (.call f irs) (.Call (.Name (Str.ofString f) p) es [] pos) := by
  intro Z N ρ σ m s K X Q F I Fr hX hx P
  rw [yO] at hx
  exact call_core hin hroom hfa hg hf hk hd h I Fr hX hx P (.no hX.1)

/-- no bare super() -/
noncomputable def notSuper (e : Expr) : Bool := Expr.casesOn (motive_1 := fun _ => Bool) e (fun _ _ _ => true) (fun _ _ _ => true) (fun _ _ _ _ => true) (fun _ _ _ => true) (fun _ _ _ _ => true) (fun _ _ _ _ => true) (fun _ _ _ => true) (fun _ _ _ => true) (fun _ _ _ _ => true) (fun _ _ _ _ => true) (fun _ _ _ _ _ => true) (fun _ _ _ _ => true) (fun _ _ => true) (fun _ _ => true) (fun _ _ => true) (fun _ _ _ _ => true) (fun f _ _ _ => Nat.beq f.ctorIdx 20) (fun _ _ _ _ => true) (fun _ _ => true) (fun _ _ _ => true) (fun _ _ _ => true) (fun _ _ _ => true) (fun _ _ => true) (fun _ _ => true) (fun _ _ => true) (fun _ _ _ => true) (fun _ _ _ _ => true)
theorem base_of {o : Expr} {name : Str} (h : notSuper o = true) (whole : Sem Value) : attributeBase o name env whole = whole :=
  Expr.casesOn (motive_1 := fun o => notSuper o = true → attributeBase o name env whole = whole) o (fun _ _ _ _ => rfl) (fun _ _ _ _ => rfl) (fun _ _ _ _ _ => rfl) (fun _ _ _ _ => rfl) (fun _ _ _ _ _ => rfl) (fun _ _ _ _ _ => rfl) (fun _ _ _ _ => rfl) (fun _ _ _ _ => rfl) (fun _ _ _ _ _ => rfl) (fun _ _ _ _ _ => rfl) (fun _ _ _ _ _ _ => rfl) (fun _ _ _ _ _ => rfl) (fun _ _ _ => rfl) (fun _ _ _ => rfl) (fun _ _ _ => rfl) (fun _ _ _ _ _ => rfl) (fun f a k p h => Expr.Attribute.elim (motive_1 := fun f => attributeBase (.Call f a k p) name env whole = whole) f (Nat.eq_of_beq_eq_true h) fun _ _ _ => rfl) (fun _ _ _ _ _ => rfl) (fun _ _ _ => rfl) (fun _ _ _ _ => rfl) (fun _ _ _ _ => rfl) (fun _ _ _ _ => rfl) (fun _ _ _ => rfl) (fun _ _ _ => rfl) (fun _ _ _ => rfl) (fun _ _ _ _ => rfl) (fun _ _ _ _ _ => rfl) h

theorem meth_call {o : Expr} {name : Str} {apos pos : Pos} {args : List Expr} {Q : Value → Shared → Prop} {s : Shared} {f : Value} {first : List Value} {ov : Value} (hs : args.all unstar = true) (hl : args.length < 30) (hline : (apos.endLine == pos.line) = true)
    (hm : ∀ Q' : Value × List Value → Shared → Prop, Q' (f, first) s → ∀ pl, wpAny (model B.prog B.w) Ar (getMethod ov name pl) Q' F s)
    (hc : wpAny (model B.prog B.w) Ar (callWith pos f first (backTo pos (starEach args env)) []) Q F s) :
    wpAny (model B.prog B.w) Ar (methodCall o name apos pos env ov (args.length + ([] : List Keyword).length) (backTo pos (starEach args env)) (backToKw pos (keywordEach [] env))) Q F s := by
  have hp := starEach_plain (env := env) (pos := pos) hs
  have hform : methodCallForm (args.length + ([] : List Keyword).length) (backTo pos (starEach args env)) (backToKw pos (keywordEach [] env)) = true := by
    unfold methodCallForm
    have h1 : (backTo pos (starEach args env)).all (fun x => !x.1) = true := by
      rw [List.all_eq_true]
      intro x hx
      rw [List.any_eq_false] at hp
      simpa using hp x hx
    rw [h1, show backToKw pos (keywordEach [] env) = [] from rfl]
    simp [hl]
  have hpos : methodCallPos true o env apos pos = pure pos := by unfold methodCallPos; simp [hline]
  unfold methodCall
  rw [hform]
  refine wpAny_bind (wpAny_holding ?_)
  unfold calleeOf
  simp only [if_true]
  exact hm _ (wpAny_bind (wpAny_of_eq hpos hc)) _

theorem meth_core {a : E} {f : String} {irs : List E} {o : Expr} {es : List Expr} {apos pos : Pos} (O : COk B) (hns : notSuper o = true) (hline : (apos.endLine == pos.line) = true) (hlen : es.length < 30)
    (hfn : ∀ c C, B.cls c = some C → ∃ fa, B.fn (c ++ "." ++ f) = some fa ∧ keepIn B.K (.ref fa) = true ∧ Room Ar (rank (c ++ "." ++ f)) ∧ findIn B.K (.ref C) (Str.ofString f) = some (some (.ref fa)) ∧ typeIn B.K (.ref fa) = some (.type "function") ∧ f ∉ fieldNames c)
    (ha : EOk B (CallOK B rank) Ar env a o) (h : EsOk B (CallOK B rank) Ar env irs es)
    {Z N ρ σ m} {s : Shared} {K : A → H → Prop} {X X' : String → H → Prop} {Q : Value → Shared → Prop} (I : Inv B Z N ρ σ s.heap) (Fr : Frm B env Z ρ m N) (hX : Safe Ar N X') (hx : xE (CallOK B rank) a m σ (fun va σ => get (asO va) fun p => xEs (CallOK B rank) irs m σ (fun as σ => CallOK B rank (p.1 ++ "." ++ f) (va :: as) σ K X) X') X') (P : Post B Z N ρ s K Q) (PX : PostX B Z N ρ s X F) :
    wpAny (model B.prog B.w) Ar (eval (.Call (.Attribute o (Str.ofString f) apos) es [] pos) env) Q F s := by
  rw [arm_eval_Call, base_of hns]
  refine wpAny_bind (ha Z N ρ σ m s _ X' _ F I Fr hX hx ?_)
  intro va v Z1 ρ1 σ1 h1 t1 hx1 e1 p1 I1 R1
  obtain ⟨⟨c, fs⟩, hva, hx1⟩ := get_of hx1
  · have hva := asO_of hva
    simp only at hva
    subst hva
    refine wpAny_bind (wpAny_standAt ?_)
    have R1' := R1
    obtain ⟨x, Cl, d, es', n, o', rfl, hcl, hz1, hz2, rfl, hk, hr⟩ := R1'
    obtain ⟨fa, hfa, hkeep, hroom, m1, m2, m3⟩ := hfn c Cl hcl
    obtain ⟨q1, q2, q3, q4, q5⟩ := O.pg c Cl hcl
    have IA : InstAt h1 x (instO Cl d) Cl (some (dictOf es' n)) := ⟨I1.zin _ _ hz1, rfl, rfl, I1.zin _ _ hz2⟩
    refine meth_call (f := .ref fa) (first := [.ref x]) h.un hlen hline (fun Q' hq pl => ?_) ?_
    · refine method_fn (O.kin.keeps I1.keep) IA q1 q2 m1 m2 ?_ hq
      show (lookIn _ (dictOf es' n)).map _ = _
      rw [lookIn_dict, getL_none hk m3]; rfl
    · refine fcall_args O.kin hkeep h I1 (Fr.mono e1 p1) hX hx1 ?_
      intro as vs Z2 ρ2 σ2 h2 t2 hl hx2 e2 p2 I2 R2
      exact wpAny_call (hx2 Ar Z2 N ρ2 _ (.ref x :: vs) _ fa hfa hroom hX.2 I2 ⟨.ref x, vs, rfl, R1.mono e2 p2, R2⟩ ((P.go e1 p1 _ _).go e2 p2 _ _) ((PX.go e1 p1 _ _).go e2 p2 _ _))

theorem eok_meth {a : E} {f : String} {irs : List E} {o : Expr} {es : List Expr} {apos pos : Pos} (O : COk B) (hns : notSuper o = true) (hline : (apos.endLine == pos.line) = true) (hlen : es.length < 30)
    (hfn : ∀ c C, B.cls c = some C → ∃ fa, B.fn (c ++ "." ++ f) = some fa ∧ keepIn B.K (.ref fa) = true ∧ Room Ar (rank (c ++ "." ++ f)) ∧ findIn B.K (.ref C) (Str.ofString f) = some (some (.ref fa)) ∧ typeIn B.K (.ref fa) = some (.type "function") ∧ f ∉ fieldNames c)
    (ha : EOk B (CallOK B rank) Ar env a o) (h : EsOk B (CallOK B rank) Ar env irs es) : EOk B (CallOK B rank) Ar env (.meth a f irs) (.Call (.Attribute o (Str.ofString f) apos) es [] pos) := by
  intro Z N ρ σ m s K X Q F I Fr hX hx P
  rw [yP] at hx
  exact meth_core O hns hline hlen hfn ha h I Fr hX hx P (.no hX.1)

theorem eok_attr {a : E} {f : String} {o : Expr} {pos : Pos} (O : COk B) (hns : notSuper o = true) (hf : ∀ c C, B.cls c = some C → f ∈ fieldNames c) (ha : EOk B C Ar env a o) : EOk B C Ar env (.attr a f) (.Attribute o (Str.ofString f) pos) := by
  intro Z N ρ σ m s K X Q F I Fr hX hx P
  rw [yN] at hx
  refine Attribute_any_ (ha Z N ρ σ m s _ X _ F I Fr hX hx ?_) (by rw [arm_eval_Attribute, base_of hns])
  intro va v Z1 ρ1 σ1 h1 t1 hx1 e1 p1 I1 R1
  obtain ⟨r, hq, hx1⟩ := get_of hx1
  exact attr_ok O I1 R1 hq hf fun w tk hr => P _ _ Z1 ρ1 σ1 _ _ hx1 e1 p1 I1 hr

theorem room_new {A : Around} {r : Nat} (Cl : Addr) (hh : A.handled = none) (hd : A.depth + 4 * r + 5 ≤ 900) (hu : A.units + 30 * r + 240 ≤ cLine) (vs : List Value) : Room (A.under (.builtin "type.__call__" ⟨.ref Cl :: vs, []⟩)) r := by
  have h1 : (A.under (.builtin "type.__call__" ⟨.ref Cl :: vs, []⟩)).depth = A.depth + 1 := rfl
  have h2 : (A.under (.builtin "type.__call__" ⟨.ref Cl :: vs, []⟩)).units = A.units + 1 := rfl
  refine ⟨.inr hh, ?_, ?_⟩
  · rw [h1]; omega
  · rw [h2]; omega

theorem new_core {c : String} {Cl fI : Addr} {irs : List E} {es : List Expr} {p pos : Pos} (O : COk B) (hcl : B.cls c = some Cl) (hroom : ∀ vs, Room (Ar.under (.builtin "type.__call__" ⟨.ref Cl :: vs, []⟩)) (rank (c ++ ".__init__"))) (hfI : B.fn (c ++ ".__init__") = some fI) (hmk : makesIn B.K Cl = true)
    (hi : findIn B.K (.ref Cl) "__init__" = some (some (.ref fI))) (hft : typeIn B.K (.ref fI) = some (.type "function")) (hkeep : keepIn B.K (.ref Cl) = true) (hg : GName B (Str.ofString c) (.ref Cl))
    (hk : env.kindOf (Str.ofString c) = some .globalImplicit) (hd : (Str.ofString c == ("__debug__" : Str)) = false) (h : EsOk B (CallOK B rank) Ar env irs es)
    {Z N ρ σ m} {s : Shared} {K : A → H → Prop} {X X' : String → H → Prop} {Q : Value → Shared → Prop} (I : Inv B Z N ρ σ s.heap) (Fr : Frm B env Z ρ m N) (hX : Safe Ar N X') (hx : xEs (CallOK B rank) irs m σ (fun as σ => CallOK B rank (c ++ ".__init__") (.inst c σ.length :: as) (σ ++ [.fields []]) (newK c σ.length K) X) X') (P : Post B Z N ρ s K Q) (PX : PostX B Z N ρ s X F) :
    wpAny (model B.prog B.w) Ar (eval (.Call (.Name (Str.ofString c) p) es [] pos) env) Q F s := by
  refine wpAny_Call_NameR (ld_glob I Fr hg hk hd (fcall_args O.kin hkeep h I Fr hX hx ?_))
  intro as vs Z1 ρ1 σ1 h1 t1 hl hx1 e1 p1 I1 R1
  have X1 := O.kin.keeps I1.keep
  refine wpAny_call (make_core (makes_of X1 hmk) (looks_findIn X1 hi) (fun self => bind_fn X1 self hft) (.inl rfl) ?_)
  have I2 := (I1.push emptyDict rfl).push (instObj Cl h1.objs.size) rfl
  rw [Heap.size_push] at I2
  have I3 := I2.freeze
  have I4 := I3.newRefX (ob := .fields []) ⟨[], 0, rfl, ⟨[], by simp⟩, by simp [RepL_0, RepL_1]⟩ (Heap.get?_push_of_some _ (Heap.get?_push_size _ rfl))
  refine hx1 _ _ N _ _ (.ref (h1.objs.size + 1) :: vs) _ fI hfI (hroom _) hX.2 I4 ⟨_, vs, rfl, ?_, R1.mono I2.freeze_ext (List.prefix_append _ _)⟩ ?_ ?_
  rotate_right
  · intro c5 C5 e5' Z5 ρ5 σ5 h5 t5 hx5 hc5 e5 p5 I5 x5
    exact PX c5 C5 e5' Z5 ρ5 σ5 h5 t5 hx5 hc5 ((e1.trans I2.freeze_ext).trans e5) ((p1.trans (List.prefix_append _ _)).trans p5) I5 x5
  · refine ⟨_, Cl, h1.objs.size, rfl, hcl, ?_, by simp [Inv.zset, instO]⟩
    rw [← I1.len]; simp
  · intro r v Z5 ρ5 σ5 h5 t5 hk5 e5 p5 I5 R5
    obtain ⟨hno, hk5⟩ := hk5
    obtain ⟨fs, hfs, hk5⟩ := get_of hk5
    obtain ⟨ob, hob, hof⟩ := bindO_of hfs
    have hfs := hob
    rw [oF_of hof] at hfs
    · have hr : r = .v .none := by
        cases r with
        | v x => cases x <;> first | rfl | exact (show false = true → _ from fun e => nomatch e) hno
        | ref _ => exact (show false = true → _ from fun e => nomatch e) hno
        | inst _ _ => exact (show false = true → _ from fun e => nomatch e) hno
      subst hr
      subst R5
      refine ⟨rfl, ?_⟩
      have hρ : ρ5[σ1.length]? = some h1.objs.size := pre_get p5 (by rw [← I1.len]; simp)
      obtain ⟨hz, o, hgo, es', n', rfl, hks, hrl⟩ := I5.live _ _ _ hρ hfs (by simp)
      have I6 := I5.frz hρ hfs (by simp) hgo
      have x6 := I5.frz_ext (o := dictObj es' n') hρ hfs (by simp)
      refine P _ _ _ ρ5 _ h5 t5 hk5.2 ((e1.trans I2.freeze_ext).trans (e5.trans x6)) ((p1.trans (List.prefix_append _ _)).trans p5) I6 ?_
      refine ⟨_, Cl, h1.objs.size, es', n', _, rfl, hcl, ?_, by simp [Inv.zset], rfl, ?_, hrl.mono x6⟩
      · exact x6 _ _ (e5 _ _ (by simp [Inv.zset, instO]))
      · obtain ⟨ts, hts1, hts2⟩ := hks
        refine ⟨ts, ?_, ?_⟩
        · rw [← hk5.1]; exact hts1
        · rw [← hk5.1]; simpa using hts2

theorem eok_new {c : String} {Cl fI : Addr} {irs : List E} {es : List Expr} {p pos : Pos} (O : COk B) (hcl : B.cls c = some Cl) (hroom : ∀ vs, Room (Ar.under (.builtin "type.__call__" ⟨.ref Cl :: vs, []⟩)) (rank (c ++ ".__init__"))) (hfI : B.fn (c ++ ".__init__") = some fI) (hmk : makesIn B.K Cl = true)
    (hi : findIn B.K (.ref Cl) "__init__" = some (some (.ref fI))) (hft : typeIn B.K (.ref fI) = some (.type "function")) (hkeep : keepIn B.K (.ref Cl) = true) (hg : GName B (Str.ofString c) (.ref Cl))
    (hk : env.kindOf (Str.ofString c) = some .globalImplicit) (hd : (Str.ofString c == ("__debug__" : Str)) = false) (h : EsOk B (CallOK B rank) Ar env irs es) : EOk B (CallOK B rank) Ar env (.new c irs) (.Call (.Name (Str.ofString c) p) es [] pos) := by
  intro Z N ρ σ m s K X Q F I Fr hX hx P
  rw [yQ] at hx
  exact new_core O hcl hroom hfI hmk hi hft hkeep hg hk hd h I Fr hX hx P (.no hX.1)

theorem tok_call {f : String} {irs : List E} {g : Expr} {es : List Expr} {pos : Pos} (hsm : ∃ o, B.h0.get? sysModules = some o) (h : EOk B C Ar env (.call f irs) (.Call g es [] pos)) : TOk B C Ar env (.call f irs) (.Call g es [] pos) :=
  tok_of_e hsm h (fun _ _ _ _ => rfl) (fun _ => rfl)
theorem tok_isi {a : E} {c : Cl} {g : Expr} {es : List Expr} {pos : Pos} (hsm : ∃ o, B.h0.get? sysModules = some o) (h : EOk B C Ar env (.isi a c) (.Call g es [] pos)) : TOk B C Ar env (.isi a c) (.Call g es [] pos) :=
  tok_of_e hsm h (fun _ _ _ _ => rfl) (fun _ => rfl)
theorem tok_bi {f : Bi} {irs : List E} {g : Expr} {es : List Expr} {pos : Pos} (hsm : ∃ o, B.h0.get? sysModules = some o) (h : EOk B C Ar env (.bi f irs) (.Call g es [] pos)) : TOk B C Ar env (.bi f irs) (.Call g es [] pos) :=
  tok_of_e hsm h (fun _ _ _ _ => rfl) (fun _ => rfl)
end
end Fl

/-! storing into an instance (own work) -/
namespace Fl
open PySem PyProof.Rows PySem.W
set_option linter.unusedSimpArgs false

theorem keysAre_mk {n : String} {ns : List String} {es : List DictEntry} {e : DictEntry} {t : Tok} (he : e.key = .str (Str.ofString n) t) (h : KeysAre ns es) : KeysAre (n :: ns) (e :: es) := by
  obtain ⟨ts, h1, h2⟩ := h
  exact ⟨t :: ts, by simp [he, h1], by simp [h2]⟩
theorem keysAre_nil' : KeysAre [] [] := ⟨[], by simp, rfl⟩

section
variable {B : Bs} {C : CallSem} {Ar : Around} {env : Env} {F : Value → Shared → Prop} {rank : String → Nat}

theorem put_rep {Z : Zm} {f : String} {x : V} {v : Value} {hsh : Int} {tk : Tok} (hv : RepV B Z x v) : ∀ {fs : List (String × V)} {es : List DictEntry}, KeysAre (fs.map (·.1)) es → RepL B Z (fs.map (·.2)) (es.map (·.val)) →
    KeysAre ((fieldPut fs f x).map (·.1)) (putL (Str.ofString f) hsh (.str (Str.ofString f) tk) v es) ∧ RepL B Z ((fieldPut fs f x).map (·.2)) ((putL (Str.ofString f) hsh (.str (Str.ofString f) tk) v es).map (·.val))
  | [], es, hk, hr => by
    rw [keysAre_nil hk]
    simp only [fieldPut_0, fieldPut_1, putL, List.map_cons, List.map_nil]
    exact ⟨keysAre_mk (t := tk) rfl keysAre_nil', repL_cons hv repL_nil⟩
  | (n, y) :: fs, es, hk, hr => by
    obtain ⟨e, r, t, rfl, he, hk'⟩ := keysAre_cons hk
    simp only [List.map_cons, RepL_0, RepL_1, List.cons.injEq] at hr
    obtain ⟨w, ws, ⟨rfl, rfl⟩, h1, h2⟩ := hr
    simp only [fieldPut_0, fieldPut_1, putL, he, Value.isStr]
    by_cases hnf : n = f
    · subst hnf
      simp only [if_true, beq_self_eq_true, List.map_cons]
      exact ⟨keysAre_mk (t := t) rfl hk', repL_cons hv h2⟩
    · have hne : (Str.ofString n == Str.ofString f) = false := by
        cases hq : Str.ofString n == Str.ofString f with
        | false => rfl
        | true => exact absurd (strOf_inj (beq_iff_eq.mp hq)) hnf
      simp only [if_neg hnf, hne, Bool.false_eq_true, if_false, List.map_cons]
      obtain ⟨i1, i2⟩ := put_rep (hsh := hsh) (tk := tk) (f := f) hv hk' h2
      exact ⟨keysAre_mk he i1, repL_cons h1 i2⟩

theorem keysAre_noref : ∀ {ns : List String} {es : List DictEntry}, KeysAre ns es → es.any (·.refKey) = false ∧ es.length = ns.length
  | [], es, h => by rw [keysAre_nil h]; exact ⟨rfl, rfl⟩
  | n :: ns, es, h => by
    obtain ⟨e, r, t, rfl, he, hk'⟩ := keysAre_cons h
    obtain ⟨h1, h2⟩ := keysAre_noref hk'
    have hrk : e.refKey = false := by simp [DictEntry.refKey, he]
    exact ⟨by simp [List.any_cons, hrk, h1], by simp [h2]⟩

theorem putL_len {name : Str} {hsh : Int} {k v : Value} : ∀ {es : List DictEntry}, (putL name hsh k v es).length ≤ es.length + 1
  | [] => by simp [putL]
  | e :: r => by
    simp only [putL]
    split
    · simp
    · have := putL_len (name := name) (hsh := hsh) (k := k) (v := v) (es := r); simp; omega

theorem osa_put {K : Frag} {x dx Cl : Addr} {es : List DictEntry} {n : Nat} {name : Str} {tk : Tok} {v : Value} {s : Shared} {R : Result → Shared → Prop} (X : K.In s.heap) (I : InstAt s.heap x (instO Cl dx) Cl (some (dictOf es n))) (hp : plainOver K Cl = true) (ht : takerIn K Cl name = some none)
    (hh : hasDictIn K Cl = true) (hno : es.any (·.refKey) = false) (hz : es.length < 1000)
    (h : ∀ h' hs t n', h'.get? dx = some (dictOf (putL name hs (.str name t) v es) n') → Heap.SameBut dx s.heap h' → R (.ok (.ret .none)) { s with heap := h', toks := s.toks + 1 }) :
    codeAny (model B.prog B.w) Ar (.call (.builtin "object.__setattr__") ⟨[.ref x, .str name tk, v], []⟩) R s := by
  refine osa_open X I hp ht fun b => ?_
  obtain ⟨cd, hc, hd'⟩ := any_some hh
  obtain ⟨hx, hcl, hn, D⟩ := I
  have D : s.heap.get? dx = some (dictOf es n) := D
  refine wpAny_bind (wpAny_pure (wpAny_bind (wpAny_bind (wpAny_loadPart hx (wpAny_bind ((looks_clsIn X hc).here ?_))))))
  rw [hd']
  refine wpAny_pure (a := some dx) (wpAny_bind (wpAny_pure (wpAny_bind ?_)))
  unfold nsSet
  refine wpAny_bind (wpAny_bind (wpAny_askSetting (wpAny_pure (wpAny_bind (wpAny_mkText (wpAny_bind (wpAny_loadPart D ?_)))))))
  have c : (!es.toArray.any (·.key.isStr name) && es.toArray.any (·.refKey)) = false := by
    rw [List.any_toArray, List.any_toArray, hno, Bool.and_false]
  show wpAny _ _ (if aRefKeyMayBeTheName name _ = true then _ else _) _ _ _
  rw [show aRefKeyMayBeTheName name es.toArray = false from by rw [aRefKeyMayBeTheName_at, c]]
  rw [if_neg (by decide)]
  refine wpAny_updatePart D ?_
  have hput := putName_dict name (PyData.keyHash B.w.params name) (.str name s.toks) v es n
  have D' := Heap.get?_update_self (h := s.heap) (a := dx) (Obj.putName name (PyData.keyHash B.w.params name) (.str name s.toks) v) D (by rw [hput]; rfl)
  rw [hput] at D'
  refine wpAny_bind (wpAny_lookBehind D' (by exact pastItsLine_dict (by rw [List.size_toArray, sizeLine_eq]; have := putL_len (name := name) (hsh := PyData.keyHash B.w.params name) (k := .str name s.toks) (v := v) (es := es); omega)) ?_)
  exact wpAny_pure (h _ _ _ _ D' (Heap.SameBut.update ..))

theorem sok_setA {x f : String} {e : E} {ex : Expr} {p apos pos : Pos} (O : COk B) (hd : (Str.ofString x == ("__debug__" : Str)) = false) (hcd : (Str.ofString x == ("__classdict__" : Str)) = false) (hw : ownN env x = true) (hf : ∀ c C, B.cls c = some C → f ∈ fieldNames c)
    (he : EOk B C Ar env e ex) (hs : swapsWith ex (some (.Attribute (.Name (Str.ofString x) p) (Str.ofString f) apos)) pos.line env = pure false) :
    SOk B C Ar env (.setA x f e) (.Assign [.Attribute (.Name (Str.ofString x) p) (Str.ofString f) apos] ex pos) := by
  intro Z Nf N ρ σ m s K X Q F I Fr O' hX hx P PX
  rw [yi] at hx
  refine plainObj_wpAny_Assign_Attribute (he Z (Nf ++ N) ρ σ m s _ _ _ F I Fr (hX.safe Fr) hx ?_) hs
  intro a v Z1 ρ1 σ1 h1 t1 hx1 e1 p1 I1 R1
  obtain ⟨y, hy, hx1⟩ := get_of hx1
  obtain ⟨i, hi, hx1⟩ := get_of hx1
  obtain ⟨fs, hfs, hx1⟩ := get_of hx1
  obtain ⟨aa, hm, hi⟩ := bindO_of hi
  obtain ⟨c, rfl⟩ := asN_of hi
  obtain ⟨ob, hob, hof⟩ := bindO_of hfs
  have hfs := hob
  rw [oF_of hof] at hfs
  rw [asV_of hy] at R1
  · · refine ld_name I1 (Fr.mono e1 p1) hm hd hcd hw fun w hrw => ?_
      obtain ⟨xx, Cl, d, rfl, hcl, hρ, hz⟩ := hrw
      obtain ⟨_, o, hg2, es, n, rfl, hk', hr⟩ := I1.live i d _ hρ hfs (fun e => nomatch e)
      have hk : KeysAre (fs.map (·.1)) es := by simpa [KeysAre] using hk'
      obtain ⟨q1, q2, q3, q4, q5⟩ := O.pg c Cl hcl
      have IA : InstAt h1 xx (instO Cl d) Cl (some (dictOf es n)) := ⟨I1.zin _ _ hz, rfl, rfl, hg2⟩
      obtain ⟨k1, k2⟩ := keysAre_noref hk
      refine set_plain (O.kin.keeps I1.keep) IA q4 ?_
      refine osa_put (s := { s with heap := h1, toks := t1 + 1 }) (O.kin.keeps I1.keep) IA q5 ?_ q3 k1 ?_ ?_
      · unfold takerIn; rw [O.fld c Cl f hcl (hf c Cl hcl)]; rfl
      · rw [k2]; have := hx1.1; simp; omega
      · intro h' hsh t n' hg' hsb
        obtain ⟨r1, r2⟩ := put_rep (hsh := hsh) (tk := t) (f := f) R1 hk hr
        refine P _ _ _ Z1 Nf ρ1 _ h' _ hx1.2 .next e1 p1 rfl (I1.updRef hρ hfs (by simp) hsb hg' ⟨_, n', rfl, by simpa [KeysAre] using r1, r2⟩) (Fr.mono e1 p1)
end
end Fl

/-! methods of lists, items set, freezing (own work) -/
namespace Fl
open PySem PyProof.Rows PySem.W
set_option linter.unusedSimpArgs false

theorem mapSeq_list (f : Array Value → Array Value) (items : List Value) (n : Nat) : Obj.mapSeq f (listObj items n) = listObj (f items.toArray).toList (if (f items.toArray).size = items.length then n else n + 1) := by
  by_cases h : (f items.toArray).size = items.length <;> simp [Obj.mapSeq, listObj, h]

section
variable {B : Bs} {C : CallSem} {Ar : Around} {env : Env} {F : Value → Shared → Prop} {rank : String → Nat}

theorem isLst_at {Z N ρ σ} {h : Heap} {a : A} {v : Value} (I : Inv B Z N ρ σ h) (R : RepA B Z ρ a v) (hl : isLst σ a = true) : ∃ l vals n, v = .ref l ∧ h.get? l = some (listObj vals n) ∧ vals.length < 2 ^ 21 := by
  cases a with
  | v x =>
    obtain ⟨xs, hx⟩ := Option.isSome_iff_exists.mp hl
    rw [vL_of hx] at R
    obtain ⟨l, vals, n, rfl, hz, hs, hr⟩ := R
    exact ⟨l, vals, n, rfl, I.zin _ _ hz, by rw [repL_len hr]; exact hs⟩
  | ref k =>
    obtain ⟨its, hi⟩ := Option.isSome_iff_exists.mp hl
    obtain ⟨l, e, rfl⟩ := R
    obtain ⟨vals, n, hg, hs, _⟩ := lst_live I e hi
    exact ⟨l, vals, n, rfl, hg, hs⟩
  | inst _ _ => exact nomatch hl

theorem bcall_args {id : String} {first : List Value} {irs : List E} {es : List Expr} {pos : Pos} (h : EsOk B C Ar env irs es)
    {Z N ρ σ m} {s : Shared} {K : List A → H → Prop} {X : String → H → Prop} {Q : Value → Shared → Prop} (I : Inv B Z N ρ σ s.heap) (Fr : Frm B env Z ρ m N) (hX : Safe Ar N X) (hx : xEs C irs m σ K X)
    (P : PostL B irs.length Z N ρ s K (fun vs s' => wpAny (model B.prog B.w) Ar (call (.builtin id) (first ++ vs)) Q F s')) : wpAny (model B.prog B.w) Ar (callWith pos (.builtin id) first (backTo pos (starEach es env)) []) Q F s := by
  have hp := starEach_plain (env := env) (pos := pos) h.un
  refine Calls.callWith_builtin hp ?_
  cases h with
  | nil =>
    simp only [yV, yW] at hx
    refine PyProof.Rows.evalArgs_none ?_
    exact P [] [] Z ρ σ s.heap s.toks rfl hx (Ext.refl _) (List.prefix_refl _) I rfl
  | cons he hu hr =>
    have h' := args_ok (F := F) (pos := pos) (EsOk.cons he hu hr) I Fr hX hx P
    rw [starEach_un hu] at h' ⊢
    exact Calls.evalArgs_plain h'

/-- the names of the methods of lists that are followed -/
noncomputable def lmStr : Lm → String
  | .append => "append"
  | .pop => "pop"
noncomputable def lmId : Lm → String
  | .append => "list.append"
  | .pop => "list.pop"
theorem lm_slot (f : Lm) : Slot "list" (Str.ofString (lmStr f)) (lmId f) ∧ typeOf (.builtin (lmId f)) = pure (.type "method_descriptor") := by
  cases f with
  | append => exact ⟨PySem.F.slot_list_append, PySem.F.type_list_append⟩
  | pop => exact ⟨PySem.F.slot_list_pop, PySem.F.type_list_pop⟩

noncomputable def PostM (B : Bs) (Z : Zm) (N : Led) (ρ : List Addr) (s : Shared) (K : A → H → Prop) (Q : Value → Shared → Prop) : Prop :=
  ∀ a v σ' h' tk, K a σ' → Inv B Z N ρ σ' h' → RepA B Z ρ a v → Q v { s with heap := h', toks := tk }

/-- a method that does what it means -/
noncomputable def LmOk (B : Bs) (Ar : Around) (f : Lm) : Prop :=
  ∀ (Z : Zm) (N : Led) (ρ : List Addr) (σ : H) (s : Shared) (a : A) (as : List A) (v : Value) (vs : List Value) (K : A → H → Prop) (Q : Value → Shared → Prop) (F : Value → Shared → Prop),
    Inv B Z N ρ σ s.heap → RepA B Z ρ a v → RepAs B Z ρ as vs → lmSem σ a K f as → PostM B Z N ρ s K Q → wpAny (model B.prog B.w) Ar (call (.builtin (lmId f)) (v :: vs)) Q F s

theorem eok_lm {a : E} {f : Lm} {irs : List E} {o : Expr} {es : List Expr} {apos pos : Pos} (hns : notSuper o = true) (hline : (apos.endLine == pos.line) = true) (hlen : es.length < 30)
    (ha : EOk B C Ar env a o) (h : EsOk B C Ar env irs es) (hm : LmOk B Ar f) : EOk B C Ar env (.lm a f irs) (.Call (.Attribute o (Str.ofString (lmStr f)) apos) es [] pos) := by
  intro Z N ρ σ m s K X Q F I Fr hX hx P
  rw [yT] at hx
  rw [arm_eval_Call, base_of hns]
  refine wpAny_bind (ha Z N ρ σ m s _ X _ F I Fr hX hx ?_)
  intro va v Z1 ρ1 σ1 h1 t1 hx1 e1 p1 I1 R1
  obtain ⟨hl, hx1⟩ := hx1
  obtain ⟨l, vals, n, rfl, hg, hlt⟩ := isLst_at I1 R1 hl
  refine wpAny_bind (wpAny_standAt ?_)
  obtain ⟨sl, ty⟩ := lm_slot f
  refine meth_call (f := .builtin (lmId f)) (first := [.ref l]) h.un hlen hline (fun Q' hq pl => ?_) ?_
  · exact getMethod_builtin (T := "list") ⟨_, hg, rfl⟩ PySem.F.plainAttrs_list sl ty (fun a e => by cases e; exact ⟨_, hg, rfl⟩) hq
  · refine bcall_args h I1 (Fr.mono e1 p1) hX hx1 ?_
    intro as vs Z2 ρ2 σ2 h2 t2 hl2 hx2 e2 p2 I2 R2
    refine hm Z2 N ρ2 σ2 _ va as (.ref l) vs K _ F I2 (R1.mono e2 p2) R2 hx2 ?_
    intro a' v' σ3 h3 t3 hk3 I3 R3
    exact P a' v' Z2 ρ2 σ3 h3 t3 hk3 (e1.trans e2) (p1.trans p2) I3 R3

theorem lst_put {Z N ρ σ} {h : Heap} {a : A} {v : Value} {f : List V → Option (List V × V)} {K : A → H → Prop} (I : Inv B Z N ρ σ h) (R : RepA B Z ρ a v) (hx : lstPut σ a f K) :
    ∃ l k xs r vals n, a = .ref k ∧ v = .ref l ∧ ρ[k]? = some l ∧ σ[k]? = some (.list xs) ∧ h.get? l = some (listObj vals n) ∧ xs.length < 2 ^ 21 ∧ RepL B Z xs vals ∧ f xs = some r ∧ r.1.length < 2 ^ 20 ∧ K (.v r.2) (σ.set k (.list r.1)) := by
  obtain ⟨k, hk, hx⟩ := get_of hx
  obtain ⟨xs, hxs, hx⟩ := get_of hx
  obtain ⟨r, hf, hsm, hK⟩ := get_of hx
  obtain ⟨o, ho, hl⟩ := bindO_of hxs
  rw [oL_of hl] at ho
  obtain rfl := asR_of hk
  obtain ⟨l, e, rfl⟩ := R
  obtain ⟨_, o, hg, vals, n, rfl, hs, hr⟩ := I.live k l _ e ho (fun e => nomatch e)
  exact ⟨l, k, xs, r, vals, n, rfl, rfl, e, ho, hg, hs, hr, hf, hsm, hK⟩

theorem repAs_app {Z : Zm} {ρ : List Addr} {bs : List A} {ws : List Value} : ∀ {as : List A} {vs : List Value}, RepAs B Z ρ as vs → RepAs B Z ρ bs ws → RepAs B Z ρ (as ++ bs) (vs ++ ws)
  | [], vs, h1, h2 => by obtain rfl : vs = [] := h1; exact h2
  | _ :: _, _, ⟨v, r, e, q1, q2⟩, h2 => ⟨v, r ++ ws, by rw [e]; rfl, q1, repAs_app q2 h2⟩

theorem lm_append : LmOk B Ar .append := by
  intro Z N ρ σ s a as v vs K Q F I R Rs hx P
  obtain ⟨b, hb, hx⟩ := get_of hx
  rw [one1_of hb] at Rs
  obtain ⟨w, rfl, Rb⟩ := reps1 Rs
  cases b with
  | v x =>
    obtain ⟨l, k, xs, r, vals, n, rfl, rfl, e, hxs, hg, hs, hr, hf, hsm, hK⟩ := lst_put I R hx
    obtain rfl := Option.some.inj hf
    have hlen := repL_len hr
    refine wpAny_list_append_plain ⟨n, hg⟩ (fun h' hp hsb => ?_) (by unfold sizeLine; simp; omega)
    obtain ⟨n', hg'⟩ := hp
    exact P _ _ _ h' s.toks hK (I.updRef e hxs (fun e => nomatch e) hsb hg' ⟨vals ++ [w], n', by simp [listObj], by simp at hsm ⊢; omega, repL_append hr (repL_one Rb)⟩) rfl
  | ref j =>
    obtain ⟨i, hi, hx⟩ := get_of hx
    obtain ⟨is, his, hsm, hK⟩ := get_of hx
    obtain ⟨o, ho, hl⟩ := bindO_of his
    rw [oR_of hl] at ho
    obtain rfl := asR_of hi
    obtain ⟨l, e, rfl⟩ := R
    obtain ⟨_, o, hg, vals, n, rfl, hs, hr⟩ := I.live i l _ e ho (fun e => nomatch e)
    have hlen := repAs_len hr
    rw [List.length_map] at hlen
    refine wpAny_list_append_plain ⟨n, hg⟩ (fun h' hp hsb => ?_) (by unfold sizeLine; simp; omega)
    obtain ⟨n', hg'⟩ := hp
    refine P _ _ _ h' s.toks hK (I.updRef e ho (fun e => nomatch e) hsb hg' ⟨vals ++ [w], n', by simp [listObj], by simp; omega, ?_⟩) rfl
    rw [List.map_append]
    exact repAs_app hr ⟨w, [], rfl, Rb, rfl⟩
  | inst _ _ => exact (show False from hx).elim

theorem repL_erase {Z : Zm} {xs : List V} {vs : List Value} (h : RepL B Z xs vs) (j : Nat) : RepL B Z (xs.eraseIdx j) (vs.eraseIdx j) := by
  rw [List.eraseIdx_eq_take_drop_succ, List.eraseIdx_eq_take_drop_succ]
  exact repL_append (repL_take _ h) (repL_drop _ h)
theorem lm_pop : LmOk B Ar .pop := by
  intro Z N ρ σ s a as v vs K Q F I R Rs hx P
  obtain ⟨b, hb, hx⟩ := get_of hx
  obtain ⟨q, hq, hx⟩ := get_of hx
  rw [one1_of hb] at Rs
  obtain ⟨w, rfl, Rb⟩ := reps1 Rs
  rw [asI_of hq] at Rb
  obtain ⟨t, rfl⟩ := Rb
  obtain ⟨l, k, xs, r, vals, n, rfl, rfl, e, hxs, hg, hs, hr, hf, hsm, hK⟩ := lst_put I R hx
  have hlen := repL_len hr
  obtain ⟨j, hi, hf⟩ := bindO_of hf
  obtain ⟨x, hj, rfl⟩ := Option.map_eq_some_iff.mp hf
  obtain ⟨y, hy, hry⟩ := repL_get hr hj
  have hsi := idx_seq (n := vals.length) (hlen ▸ hi) (by omega)
  have hft : Builtin.List.listFitsIndex q = true := by
    unfold Builtin.List.listFitsIndex
    rw [Bool.and_eq_true]
    exact ⟨decide_eq_true hsi.2.1, decide_eq_true hsi.2.2⟩
  have hmeet := PySem.MeetsSeq.list_pop_at l vals.toArray n q t j y hft hsi.1 (by simpa using hy) (by unfold sizeLine; simp; omega)
  refine call_meets PySem.F.slot_list_pop ⟨_, hg, rfl⟩ PySem.F.entry_list_pop (PySem.F.args_list_pop_2 _ _) hmeet ⟨hg, ?_⟩
  have hg' := Heap.get?_update_self (h := s.heap) (a := l) (Obj.mapSeq fun xs => xs.eraseIdxIfInBounds j) hg (by rw [mapSeq_list]; rfl)
  rw [mapSeq_list] at hg'
  refine P _ _ _ _ s.toks hK (I.updRef e hxs (fun e => nomatch e) (Heap.SameBut.update ..) hg' ⟨_, _, rfl, by simp only at hsm ⊢; omega, ?_⟩) hry
  have : (vals.toArray.eraseIdxIfInBounds j).toList = vals.eraseIdx j := by
    rw [List.eraseIdxIfInBounds_toArray, List.toList_toArray]
  rw [this]
  exact repL_erase hr j
noncomputable def eInt (i : Int) : Value → Bool
  | .int j _ => decide (j = i)
  | _ => false
end
end Fl

/-! comprehensions (own work) -/
namespace Fl
open PySem PyProof.Rows PySem.W
set_option linter.unusedSimpArgs false

theorem cellsFrom_app : ∀ (names : List (Str × NameKind)) (n : Nat) (acc : List (Str × Addr)), cellsFrom n names acc = cellsFrom n names [] ++ acc
  | [], _, _ => rfl
  | (x, k) :: r, n, acc => by
    unfold cellsFrom
    split
    · rw [cellsFrom_app r (n + 1) ((x, n) :: acc), cellsFrom_app r (n + 1) [(x, n)], List.append_assoc]; rfl
    · exact cellsFrom_app r n acc

theorem lookup_app {α : Type} {x : Str} : ∀ {l l' : List (Str × α)}, (l ++ l').lookup x = (l.lookup x).or (l'.lookup x)
  | [], l' => rfl
  | (y, a) :: r, l' => by
    simp only [List.cons_append, List.lookup_cons]
    split
    · rfl
    · exact lookup_app

/-- the cells that a comprehension takes along -/
noncomputable def closed (env : Env) : List (Str × NameKind) → List (Str × Addr) → List (Str × Addr)
  | [], acc => acc
  | (x, k) :: r, acc => if k == .free then closed env r ((x, (env.cells.lookup x).getD 0) :: acc) else closed env r acc

theorem closureFor_of {env : Env} {scope : Scope} (h : ∀ x, (x, NameKind.free) ∈ scope.names → ∃ c, env.cells.lookup x = some c) : closureFor scope env = pure (closed env scope.names []) := by
  have go : ∀ (names : List (Str × NameKind)) (acc : List (Str × Addr)), (∀ x, (x, NameKind.free) ∈ names → ∃ c, env.cells.lookup x = some c) →
      (forIn names acc fun (x : Str × NameKind) (cs : List (Str × Addr)) => if x.2 == .free then (do let a ← cellOf env x.1; pure (ForInStep.yield ((x.1, a) :: cs))) else pure (ForInStep.yield cs) : Sem (List (Str × Addr))) = pure (closed env names acc) := by
    intro names
    induction names with
    | nil => intro acc _; rfl
    | cons p r ih =>
      intro acc hp
      obtain ⟨x, k⟩ := p
      rw [List.forIn_cons]
      unfold closed
      have hr := fun acc => ih acc (fun y hy => hp y (List.mem_cons_of_mem _ hy))
      cases hk : (k == NameKind.free) with
      | true =>
        have hkk : k = .free := by simpa using hk
        subst hkk
        obtain ⟨c, hc⟩ := hp x List.mem_cons_self
        simp only [hk, if_true, cellOf, hc, Option.getD_some]
        exact hr _
      | false =>
        simp only [hk, Bool.false_eq_true, if_false]
        exact hr _
  exact (congrArg (fun t : Sem (List (Str × Addr)) => t >>= fun r => pure r) (go scope.names [] h)).trans rfl

noncomputable def relabelS (scope sc : Scope) : Scope :=
  { scope with names := scope.names.map fun (n, k) => if (k == .free && sc.kind == .function && sc.names.lookup n == some .cell) then (n, .cell) else (n, k) }
theorem relabel_eq (scope : Scope) (env : Env) : relabel scope env = relabelS scope env.scope := rfl

/-- what a comprehension's scope must be -/
noncomputable def compOk (scope sc : Scope) (x : String) : Bool :=
  scope.kind == .function && scope.names.all (fun p => match p.2 with
     | .local => p.1 == Str.ofString x || p.1 == Str.ofString ".0"
     | .cell => p.1 == Str.ofString x || p.1 == Str.ofString ".0"
     | .free => (sc.names.lookup p.1 == some .cell || sc.names.lookup p.1 == some .free)
     | _ => true) &&
  (scope.names.lookup (Str.ofString x) == some .local || scope.names.lookup (Str.ofString x) == some .cell) &&
  scope.names.all (fun p => p.2 != .local || scope.names.lookup p.1 == some .local) &&
  decide (((cellsFrom 0 scope.names []).map (·.1)).Nodup) && x != ".0"

structure CompOk (scope sc : Scope) (x : String) : Prop where
  kind : scope.kind = .function
  own : ∀ y k, (y, k) ∈ scope.names → k = .local ∨ k = .cell → y = Str.ofString x ∨ y = Str.ofString ".0"
  free : ∀ y, (y, NameKind.free) ∈ scope.names → sc.names.lookup y = some .cell ∨ sc.names.lookup y = some .free
  var : scope.names.lookup (Str.ofString x) = some .local ∨ scope.names.lookup (Str.ofString x) = some .cell
  names : ∀ y ∈ scope.names, y.2 = .local → scope.names.lookup y.1 = some .local
  nd : ((cellsFrom 0 scope.names []).map (·.1)).Nodup
  ne : x ≠ ".0"

theorem compOk_of {scope sc : Scope} {x : String} (h : compOk scope sc x = true) : CompOk scope sc x := by
  unfold compOk at h
  simp only [Bool.and_eq_true, decide_eq_true_eq, bne_iff_ne] at h
  obtain ⟨⟨⟨⟨⟨h1, h2⟩, h3⟩, h4⟩, h5⟩, h6⟩ := h
  refine ⟨by simpa using h1, fun y k hm hk => ?_, fun y hm => ?_, ?_, fun y hm hk => ?_, h5, h6⟩
  · have := List.all_eq_true.mp h2 _ hm
    rcases hk with rfl | rfl <;> simpa using this
  · have := List.all_eq_true.mp h2 _ hm
    simpa using this
  · simpa using h3
  · have := List.all_eq_true.mp h4 _ hm
    simpa [hk] using this

theorem lookup_relabel {scope sc : Scope} {y : Str} : (relabelS scope sc).names.lookup y = (scope.names.lookup y).map fun k => if (k == .free && sc.kind == .function && sc.names.lookup y == some .cell) then .cell else k := by
  unfold relabelS
  simp only
  induction scope.names with
  | nil => rfl
  | cons p r ih =>
    obtain ⟨n, k⟩ := p
    simp only [List.map_cons]
    cases hx : y == n with
    | true =>
      have : y = n := by simpa using hx
      subst this
      split
      · rename_i hc
        simp only [List.lookup_cons, beq_self_eq_true, Option.map_some]
        rw [if_pos hc]
      · rename_i hc
        simp only [List.lookup_cons, beq_self_eq_true, Option.map_some]
        rw [if_neg hc]
    | false =>
      split <;> simp only [List.lookup_cons, hx] <;> exact ih

theorem closed_lookup {env : Env} {y : Str} : ∀ (names : List (Str × NameKind)) (acc : List (Str × Addr)), ((y, NameKind.free) ∈ names ∨ acc.lookup y = some ((env.cells.lookup y).getD 0)) → (closed env names acc).lookup y = some ((env.cells.lookup y).getD 0)
  | [], acc, h => by
    rcases h with h | h
    · cases h
    · exact h
  | (x, k) :: r, acc, h => by
    unfold closed
    split
    · refine closed_lookup r _ ?_
      by_cases hxy : y = x
      · subst hxy; exact .inr (by simp [List.lookup_cons])
      · rcases h with h | h
        · rcases List.mem_cons.mp h with e | h
          · cases e; exact absurd rfl hxy
          · exact .inl h
        · refine .inr ?_
          have : (y == x) = false := by simpa using hxy
          simp only [List.lookup_cons, this]; exact h
    · rename_i hk
      refine closed_lookup r _ ?_
      rcases h with h | h
      · rcases List.mem_cons.mp h with e | h
        · cases e; exact absurd rfl hk
        · exact .inl h
      · exact .inr h

theorem closed_mem {env : Env} {y : Str} {c : Addr} : ∀ (names : List (Str × NameKind)) (acc : List (Str × Addr)), (y, c) ∈ closed env names acc → (y, c) ∈ acc ∨ ((y, NameKind.free) ∈ names ∧ c = (env.cells.lookup y).getD 0)
  | [], acc, h => .inl h
  | (x, k) :: r, acc, h => by
    unfold closed at h
    split at h
    · rename_i hk
      have hkk : k = .free := by simpa using hk
      rcases closed_mem r _ h with h' | ⟨h', e⟩
      · rcases List.mem_cons.mp h' with e | h'
        · cases e; exact .inr ⟨by rw [hkk]; exact List.mem_cons_self, rfl⟩
        · exact .inl h'
      · exact .inr ⟨List.mem_cons_of_mem _ h', e⟩
    · rcases closed_mem r _ h with h' | ⟨h', e⟩
      · exact .inl h'
      · exact .inr ⟨List.mem_cons_of_mem _ h', e⟩

theorem cellsFrom_mem {y : Str} {c : Addr} : ∀ (names : List (Str × NameKind)) (n : Nat) (acc : List (Str × Addr)), (y, c) ∈ cellsFrom n names acc → (y, c) ∈ acc ∨ (y, NameKind.cell) ∈ names
  | [], n, acc, h => .inl h
  | (x, k) :: r, n, acc, h => by
    unfold cellsFrom at h
    split at h
    · rename_i hk
      have hkk : k = .cell := by simpa using hk
      rcases cellsFrom_mem r _ _ h with h' | h'
      · rcases List.mem_cons.mp h' with e | h'
        · cases e; exact .inr (by rw [hkk]; exact List.mem_cons_self)
        · exact .inl h'
      · exact .inr (List.mem_cons_of_mem _ h')
    · rcases cellsFrom_mem r _ _ h with h' | h'
      · exact .inl h'
      · exact .inr (List.mem_cons_of_mem _ h')

noncomputable def cenvOf (scope : Scope) (env : Env) (Cd : Addr) : Env :=
  { scope := relabel scope env, locals := Cd, globals := env.globals, cells := cellsFrom (Cd + 1) scope.names (closed env scope.names []), qual := env.qual, func := none, code := env.code, frame := env.frame, builtins := env.builtins }

theorem new_cenv {M : Model} {A : Around} {E : Value → Shared → Prop} {s : Shared} {scope : Scope} {env : Env} {cl : List (Str × Addr)} {Q : Env → Shared → Prop}
    (h : Q { scope := scope, locals := s.heap.objs.size, globals := env.globals, cells := cellsFrom (s.heap.objs.size + 1) scope.names cl, qual := env.qual, func := none, code := env.code, frame := env.frame, builtins := env.builtins }
      { s with heap := pushCells (s.heap.push (dictObj [] 0)) scope.names }) : wpAny M A (newFunctionEnv scope env.globals cl [] env.qual none .none (some env)) Q E s := by
  simp only [newFunctionEnv, Option.isSome_some, if_true]
  refine wpAny_bind (wpAny_alloc ?_)
  refine wpAny_bind (wpAny_layCells _ (fun name kind cells => by cases hkc : kind == NameKind.cell <;> simp [hkc]) _ _ _ _ ?_)
  rw [show ({ s with heap := s.heap.push { cls := .type "dict", data := .dict #[] } } : Shared).heap.objs.size = s.heap.objs.size + 1 from Heap.size_push ..]
  exact wpAny_bind (wpAny_pure (wpAny_pure h))

noncomputable def Loc.del (m : Loc) (x : String) : Loc := fun y => if y = x then none else m y
theorem Loc.del_set (m : Loc) (x : String) (a : A) : (m.del x).set x a = m.set x a := by
  funext y; unfold Loc.set Loc.del; split <;> rfl

section
variable {B : Bs} {C : CallSem} {Ar : Around} {env : Env} {F : Value → Shared → Prop}

theorem Frm.less {Z : Zm} {ρ : List Addr} {m m' : Loc} {N : Led} (Fr : Frm B env Z ρ m N) (h : ∀ x a, m' x = some a → m x = some a) : Frm B env Z ρ m' N :=
  { Fr with rd := fun x a hx hw => Fr.rd x a (h x a hx) hw }

/-- the frame of a comprehension -/
theorem comp_frm {Z N ρ σ m} {h : Heap} {scope : Scope} {x : String} (I : Inv B Z N ρ σ h) (Fr : Frm B env Z ρ m N) (O : CompOk scope env.scope x) :
    ∃ M : Led, Inv B Z (((h.objs.size, dictObj [] 0) :: M) ++ N) ρ σ (pushCells (h.push (dictObj [] 0)) scope.names) ∧ Frm B (cenvOf scope env h.objs.size) Z ρ (m.del x) (((h.objs.size, dictObj [] 0) :: M) ++ N) ∧
      (scope.names.lookup (Str.ofString x) = some .cell → ∃ c, (cenvOf scope env h.objs.size).cells.lookup (Str.ofString x) = some c ∧ c ∈ M.map (·.1)) := by
  have ok := cellsFrom_ok scope.names (h.push (dictObj [] 0)) (h.objs.size + 1) [] ⟨fun _ _ hm => (nomatch hm), List.Pairwise.nil⟩ (by rw [Heap.size_push]; exact Nat.le_refl _)
  rw [Heap.size_push] at ok
  have hk : ∀ b o, h.get? b = some o → (pushCells (h.push (dictObj [] 0)) scope.names).get? b = some o := fun b o e => pushCells_keeps _ _ b o (Heap.get?_push_of_some _ e)
  obtain ⟨M, hM1, hM2⟩ := cells_led (h := pushCells (h.push (dictObj [] 0)) scope.names) (cs := cellsFrom (h.objs.size + 1) scope.names []) (fun n c hm => ⟨_, (ok.empty n c hm).1⟩)
  have hgD : (pushCells (h.push (dictObj [] 0)) scope.names).get? h.objs.size = some (dictObj [] 0) := pushCells_keeps _ _ _ _ (Heap.get?_push_size _ rfl)
  have hab : ∀ p ∈ M, h.objs.size < p.1 := by
    intro p hp
    have : p.1 ∈ (cellsFrom (h.objs.size + 1) scope.names []).map (·.2) := hM1 ▸ List.mem_map.mpr ⟨p, hp, rfl⟩
    obtain ⟨⟨n, c⟩, hm, e⟩ := List.mem_map.mp this
    simp only at e; rw [← e]
    exact (ok.empty n c hm).2
  have hndM : (M.map (·.1)).Nodup := by
    rw [hM1, List.nodup_iff_pairwise_ne, List.pairwise_map]
    exact ok.apart
  have hnf : (((h.objs.size, dictObj [] 0) :: M).map (·.1)).Nodup := by
    rw [List.map_cons, List.nodup_cons]
    refine ⟨fun hm => ?_, hndM⟩
    obtain ⟨p, hp, e⟩ := List.mem_map.mp hm
    exact absurd (hab p hp) (by rw [e]; exact Nat.lt_irrefl _)
  have I1 : Inv B Z (((h.objs.size, dictObj [] 0) :: M) ++ N) ρ σ (pushCells (h.push (dictObj [] 0)) scope.names) := I.keepsMany hk (fun p hp => by
    rcases List.mem_cons.mp hp with rfl | hp
    · exact ⟨hgD, Nat.le_refl _⟩
    · exact ⟨hM2 p hp, Nat.le_of_lt (hab p hp)⟩) hnf
  have cell_in : ∀ y c, (y, c) ∈ cellsFrom (h.objs.size + 1) scope.names [] → ∃ oc, (c, oc) ∈ M ∧ oc.data = .cell none := by
    intro y c hc
    have : c ∈ M.map (·.1) := hM1 ▸ List.mem_map.mpr ⟨(y, c), hc, rfl⟩
    obtain ⟨p, hp, e⟩ := List.mem_map.mp this
    obtain ⟨o', ho', hd'⟩ := (ok.empty y c hc).1
    refine ⟨p.2, ?_, ?_⟩
    · rw [← e]; exact hp
    · have h1 := hM2 p hp
      have h2 : (pushCells (h.push (dictObj [] 0)) scope.names).get? p.1 = some o' := by rw [e]; exact ho'
      rw [h1] at h2; cases h2; exact hd'
  have hlook : ∀ y, (cenvOf scope env h.objs.size).cells.lookup y = ((cellsFrom (h.objs.size + 1) scope.names []).lookup y).or ((closed env scope.names []).lookup y) := by
    intro y
    show (cellsFrom _ _ _).lookup y = _
    rw [cellsFrom_app, lookup_app]
  have hkind : ∀ y, (cenvOf scope env h.objs.size).kindOf y = (scope.names.lookup y).map fun k => if (k == .free && env.scope.kind == .function && env.scope.names.lookup y == some .cell) then .cell else k := fun y => lookup_relabel
  have hfree : ∀ y, (y, NameKind.free) ∈ scope.names → ∃ c, env.cells.lookup y = some c := fun y hy => Fr.cok y (O.free y hy)
  refine ⟨M, I1, ⟨O.kind, Fr.glob, Fr.blt, fun y a hy hw => ?_, ⟨_, _, _, List.mem_append_left _ List.mem_cons_self, rfl, fun e he => by simp at he⟩, fun y c hc => ?_, fun y hy => ?_, fun y z c h1 h2 => ?_⟩, fun hx => ?_⟩
  · unfold Loc.del at hy
    split at hy
    · cases hy
    · rename_i hyx
      unfold ownN at hw
      simp only [Bool.and_eq_true, bne_iff_ne] at hw
      obtain ⟨hw, h0⟩ := hw
      rw [hkind] at hw
      have hfr : scope.names.lookup (Str.ofString y) = some .free := by
        cases hq : scope.names.lookup (Str.ofString y) with
        | none => rw [hq] at hw; simp [ownK] at hw
        | some k =>
          have hno : ¬ (k = .local ∨ k = .cell) := by
            intro hk'
            rcases O.own _ _ (mem_of_lookup hq) hk' with e | e
            · exact hyx (strOf_inj e)
            · exact h0 (strOf_inj e)
          cases k <;> first | rfl | (exact absurd (.inl rfl) hno) | (exact absurd (.inr rfl) hno) | (rw [hq] at hw; simp [ownK] at hw)
      have hek := O.free _ (mem_of_lookup hfr)
      obtain ⟨v, hv, hh⟩ := Fr.rd y a hy (by
        unfold ownN
        simp only [Bool.and_eq_true, bne_iff_ne]
        refine ⟨?_, h0⟩
        rcases hek with e | e <;> (show ownK (env.scope.names.lookup _) = true; rw [e]; rfl))
      refine ⟨v, hv, .inr ⟨?_, ?_⟩⟩
      · rw [hkind, hfr]
        simp only [Option.map_some]
        split
        · exact .inl rfl
        · exact .inr rfl
      · rcases hh with ⟨hk', _⟩ | ⟨hk', c, o, hl, hN, hD⟩
        · have hk'' : env.scope.names.lookup (Str.ofString y) = some .local := hk'
          rcases hek with e | e <;> (rw [e] at hk''; cases hk'')
        · refine ⟨c, o, ?_, List.mem_append_right _ hN, hD⟩
          rw [hlook, closed_lookup _ _ (.inl (mem_of_lookup hfr)), hl]
          have hnone : (cellsFrom (h.objs.size + 1) scope.names []).lookup (Str.ofString y) = none := by
            cases hq : (cellsFrom (h.objs.size + 1) scope.names []).lookup (Str.ofString y) with
            | none => rfl
            | some c' =>
              rcases cellsFrom_mem _ _ _ (mem_of_lookup hq) with h' | h'
              · cases h'
              · rcases O.own _ _ h' (.inr rfl) with e | e
                · exact absurd (strOf_inj e) hyx
                · exact absurd (strOf_inj e) h0
          rw [hnone]; rfl
  · rw [hlook] at hc
    cases hq : (cellsFrom (h.objs.size + 1) scope.names []).lookup y with
    | some c' =>
      rw [hq] at hc
      simp only [Option.some_or, Option.some.injEq] at hc
      subst hc
      obtain ⟨oc, h1, h2⟩ := cell_in y c' (mem_of_lookup hq)
      exact ⟨oc, none, List.mem_append_left _ (List.mem_cons_of_mem _ h1), h2⟩
    | none =>
      rw [hq] at hc
      simp only [Option.none_or] at hc
      rcases closed_mem _ _ (mem_of_lookup hc) with h' | ⟨h', e⟩
      · cases h'
      · obtain ⟨c', hc'⟩ := hfree y h'
        rw [hc'] at e
        simp only [Option.getD_some] at e
        subst e
        obtain ⟨o, v, h1, h2⟩ := Fr.cel y c hc'
        exact ⟨o, v, List.mem_append_right _ h1, h2⟩
  · rw [hkind] at hy
    rw [hlook]
    cases hq : scope.names.lookup y with
    | none => rw [hq] at hy; simp at hy
    | some k =>
      have hkk : k = .cell ∨ k = .free := by
        rw [hq] at hy
        simp only [Option.map_some, Option.some.injEq] at hy
        by_cases hkf : k = .free
        · exact .inr hkf
        · have : (k == NameKind.free) = false := by simpa using hkf
          simp only [this, Bool.false_and, Bool.false_eq_true, if_false] at hy
          rcases hy with hy | hy
          · exact .inl hy
          · exact .inr hy
      rcases hkk with rfl | rfl
      · obtain ⟨c, hc⟩ := Option.isSome_iff_exists.mp (cellsFrom_some scope.names (h.objs.size + 1) [] (.inl hq))
        exact ⟨c, by rw [hc]; rfl⟩
      · cases hq' : (cellsFrom (h.objs.size + 1) scope.names []).lookup y with
        | some c' => exact ⟨c', rfl⟩
        | none => rw [closed_lookup _ _ (.inl (mem_of_lookup hq))]; exact ⟨_, rfl⟩
  · rw [hlook] at h1 h2
    have key : ∀ y, ((cellsFrom (h.objs.size + 1) scope.names []).lookup y).or ((closed env scope.names []).lookup y) = some c → ((y, c) ∈ cellsFrom (h.objs.size + 1) scope.names [] ∧ h.objs.size < c) ∨ (env.cells.lookup y = some c ∧ c < h.objs.size) := by
      intro y hc
      cases hq : (cellsFrom (h.objs.size + 1) scope.names []).lookup y with
      | some c' =>
        rw [hq] at hc
        simp only [Option.some_or, Option.some.injEq] at hc
        subst hc
        exact .inl ⟨mem_of_lookup hq, (ok.empty y c' (mem_of_lookup hq)).2⟩
      | none =>
        rw [hq] at hc
        simp only [Option.none_or] at hc
        rcases closed_mem _ _ (mem_of_lookup hc) with h' | ⟨h', e⟩
        · cases h'
        · obtain ⟨c', hc'⟩ := hfree y h'
          rw [hc'] at e
          simp only [Option.getD_some] at e
          subst e
          obtain ⟨o, v, h1, h2⟩ := Fr.cel y c hc'
          exact .inr ⟨hc', I.led_lt h1⟩
    rcases key y h1 with ⟨a1, a2⟩ | ⟨a1, a2⟩ <;> rcases key z h2 with ⟨b1, b2⟩ | ⟨b1, b2⟩
    · exact name_of_addr ok.apart a1 b1
    · exact absurd (Nat.lt_trans a2 b2) (Nat.lt_irrefl _)
    · exact absurd (Nat.lt_trans b2 a2) (Nat.lt_irrefl _)
    · exact Fr.cinj _ _ _ a1 b1
  · obtain ⟨c, hc⟩ := Option.isSome_iff_exists.mp (cellsFrom_some scope.names (h.objs.size + 1) [] (.inl hx))
    refine ⟨c, by rw [hlook, hc]; rfl, ?_⟩
    obtain ⟨oc, h1, _⟩ := cell_in _ c (mem_of_lookup hc)
    exact List.mem_map.mpr ⟨_, h1, rfl⟩
end
end Fl

/-! comprehensions: the loop (own work) -/
namespace Fl
open PySem PyProof.Rows PySem.W
set_option linter.unusedSimpArgs false

section
variable {B : Bs} {C : CallSem} {Ar : Around} {env : Env} {F : Value → Shared → Prop}

/-- objects that are no frame and no cell are not looked at -/
theorem Frm.drop2 {Z : Zm} {ρ : List Addr} {m : Loc} {Nf N D : Led} (Fr : Frm B env Z ρ m (Nf ++ (D ++ N))) (hd : ∀ p ∈ D, (∀ es ep, p.2.data ≠ .dict es ep) ∧ ∀ v, p.2.data ≠ .cell v) : Frm B env Z ρ m (Nf ++ N) := by
  have h : ∀ p ∈ Nf ++ (D ++ N), ((∃ es ep, p.2.data = .dict es ep) ∨ ∃ v, p.2.data = .cell v) → p ∈ Nf ++ N := by
    intro p hp hne
    rcases List.mem_append.mp hp with hp | hp
    · exact List.mem_append_left _ hp
    · rcases List.mem_append.mp hp with hp | hp
      · rcases hne with ⟨es, ep, e⟩ | ⟨v, e⟩
        · exact absurd e ((hd p hp).1 es ep)
        · exact absurd e ((hd p hp).2 v)
      · exact List.mem_append_right _ hp
  refine ⟨Fr.kind, Fr.glob, Fr.blt, fun x a hx hw => ?_, ?_, fun x c hc => ?_, Fr.cok, Fr.cinj⟩
  · obtain ⟨v, hv, hh⟩ := Fr.rd x a hx hw
    refine ⟨v, hv, ?_⟩
    rcases hh with ⟨hk, o, es, ep, hN, hD, r⟩ | ⟨hk, c, o, hl, hN, hD⟩
    · exact .inl ⟨hk, o, es, ep, h _ hN (.inl ⟨_, _, hD⟩), hD, r⟩
    · exact .inr ⟨hk, c, o, hl, h _ hN (.inr ⟨_, hD⟩), hD⟩
  · obtain ⟨o, es, ep, hN, hD, r⟩ := Fr.loc
    exact ⟨o, es, ep, h _ hN (.inl ⟨_, _, hD⟩), hD, r⟩
  · obtain ⟨o, v, hN, hD⟩ := Fr.cel x c hc
    exact ⟨o, v, h _ hN (.inr ⟨_, hD⟩), hD⟩

theorem Frm.narrow {Z : Zm} {ρ : List Addr} {σ : H} {h : Heap} {m : Loc} {Nf N D : Led} (Fr : Frm B env Z ρ m (Nf ++ (D ++ N))) (I : Inv B Z (Nf ++ (D ++ N)) ρ σ h) (hL : env.locals ∈ (Nf ++ N).map (·.1)) (hC : ∀ y c, env.cells.lookup y = some c → c ∈ (Nf ++ N).map (·.1)) : Frm B env Z ρ m (Nf ++ N) := by
  have key : ∀ a o, (a, o) ∈ Nf ++ (D ++ N) → a ∈ (Nf ++ N).map (·.1) → (a, o) ∈ Nf ++ N := by
    intro a o hm ha
    obtain ⟨⟨a', o'⟩, hq, e⟩ := List.mem_map.mp ha
    simp only at e
    subst e
    have h2 := I.led_inj hm (o' := o') (by
      rcases List.mem_append.mp hq with hq | hq
      · exact List.mem_append_left _ hq
      · exact List.mem_append_right _ (List.mem_append_right _ hq))
    subst h2; exact hq
  refine ⟨Fr.kind, Fr.glob, Fr.blt, fun x a hx hw => ?_, ?_, fun x c hc => ?_, Fr.cok, Fr.cinj⟩
  · obtain ⟨v, hv, hh⟩ := Fr.rd x a hx hw
    refine ⟨v, hv, ?_⟩
    rcases hh with ⟨hk, o, es, ep, hN, hD, r⟩ | ⟨hk, c, o, hl, hN, hD⟩
    · exact .inl ⟨hk, o, es, ep, key _ _ hN hL, hD, r⟩
    · exact .inr ⟨hk, c, o, hl, key _ _ hN (hC _ _ hl), hD⟩
  · obtain ⟨o, es, ep, hN, hD, r⟩ := Fr.loc
    exact ⟨o, es, ep, key _ _ hN hL, hD, r⟩
  · obtain ⟨o, v, hN, hD⟩ := Fr.cel x c hc
    exact ⟨o, v, key _ _ hN (hC _ _ hc), hD⟩

theorem self_ok {Z N ρ σ} {s : Shared} {a : A} {i : Nat} {it : Addr} {o : Obj} {Q : Value → Shared → Prop} (I : Inv B Z ((it, o) :: N) ρ σ s.heap) (h : ItAt B Z ρ a i o) (hQ : Q (.ref it) s) : wpAny (model B.prog B.w) Ar (pyIter (.ref it)) Q F s := by
  have hit : s.heap.get? it = some o := (I.led _ (List.mem_cons_self)).1.2 (let ⟨_, e⟩ := h.fields; isNs_fields e)
  cases h with
  | @list _ _ l _ h1 h2 h3 h4 => exact wpAny_pyIter_listiter (l := l) (i := i) ⟨o, hit, h3, h4⟩ hQ
  | @tup xs _ l _ h1 h2 h3 => exact wpAny_pyIter_tupleiter (t := l) (i := i) ⟨o, hit, h2, h3⟩ hQ
  | @range lo hi' _ _ h1 h2 => subst h2; exact wpAny_pyIter_rangeiter hit hQ

theorem items_len {Z N ρ σ} {h : Heap} {a : A} {v : Value} {its : List A} (I : Inv B Z N ρ σ h) (R : RepA B Z ρ a v) (hi : items σ a = some its) : its.length < 2 ^ 21 := by
  cases a with
  | v x =>
    cases x with
    | list xs =>
      obtain rfl := Option.some.inj hi
      obtain ⟨l, vals, n, rfl, hz, hs, hr⟩ := R
      simpa using hs
    | tup xs =>
      obtain rfl := Option.some.inj hi
      obtain ⟨l, vals, n, rfl, hz, hs, hr⟩ := R
      simpa using hs
    | range lo hi' =>
      obtain rfl := Option.some.inj hi
      obtain ⟨r, t, u, w, rfl, hz, b1, b2, b3, b4⟩ := R
      simp [rngL]; omega
    | _ => exact nons hi
  | ref k =>
    obtain ⟨l, e, rfl⟩ := R
    obtain ⟨vals, n, hg, hs, hr⟩ := lst_live I e hi
    rw [← repAs_len hr]; exact hs
  | inst c i => exact nons hi

theorem tests_ok {irs : List E} {es : List Expr} (h : TsOk B C Ar env irs es) : ∀ {Z N ρ σ m} {s : Shared} {K : Bool → H → Prop} {X : String → H → Prop} {Q : Bool → Shared → Prop},
    Inv B Z N ρ σ s.heap → Frm B env Z ρ m N → Safe Ar N X → xTs C true irs m σ K X → PostB B Z N ρ s K Q →
      wpAny (model B.prog B.w) Ar (forIn es true fun c r => if r = true then do let ok ← isTrue c env (eval c env); pure (ForInStep.yield ok) else pure (ForInStep.yield r)) Q F s := by
  have stay : ∀ (es : List Expr) (s : Shared) (Q : Bool → Shared → Prop), Q false s → wpAny (model B.prog B.w) Ar (forIn es false fun c r => if r = true then do let ok ← isTrue c env (eval c env); pure (ForInStep.yield ok) else pure (ForInStep.yield r)) Q F s := by
    intro es
    induction es with
    | nil => intro s Q h; exact wpAny_pure h
    | cons e es ih =>
      intro s Q h
      rw [List.forIn_cons]
      simp only [Bool.false_eq_true, if_false]
      exact wpAny_bind (wpAny_pure (ih s Q h))
  induction h with
  | nil =>
    intro Z N ρ σ m s K X Q I Fr hX hx P
    simp only [Yb, Yc] at hx
    exact wpAny_pure (P _ Z ρ σ s.heap s.toks hx (Ext.refl _) (List.prefix_refl _) I)
  | @cons ir e irs es he hr ih =>
    intro Z N ρ σ m s K X Q I Fr hX hx P
    simp only [Yb, Yc] at hx
    rw [List.forIn_cons]
    simp only [if_true]
    refine wpAny_bind (wpAny_bind (he Z N ρ σ m s _ X _ F I Fr hX hx ?_))
    intro b Z1 ρ1 σ1 h1 t1 hx1 e1 p1 I1
    refine wpAny_pure ?_
    cases b with
    | true =>
      simp only [if_true] at hx1
      refine ih I1 (Fr.mono e1 p1) hX hx1 ?_
      intro b Z2 ρ2 σ2 h2 t2 hx2 e2 p2 I2
      exact P _ Z2 ρ2 σ2 _ _ hx2 (e1.trans e2) (p1.trans p2) I2
    | false =>
      simp only [Bool.false_eq_true, if_false] at hx1
      exact stay _ _ _ (P _ Z1 ρ1 σ1 _ _ hx1 e1 p1 I1)

/-- where a comprehension stands -/
inductive CmpSt (B : Bs) (cenv : Env) (a : A) (its : List A) (m : Loc) (Z1 : Zm) (Nf0 N : Led) (ρ1 : List Addr) (it D : Addr) (s : Shared) (L : List A → H → List V → Prop) (n : Nat) (s' : Shared) : Prop
  | mk (i : Nat) (acc : List V) (items : List Value) (nn : Nat) (Z' : Zm) (Nf' : Led) (ρ' : List Addr) (σ' : H) (h' : Heap) (tk : Nat) (oi : Obj) (h1 : n = its.length + 1 - i) (h2 : i ≤ its.length) (h3 : s' = { s with heap := h', toks := tk }) (h4 : Ext Z1 Z') (h5 : ρ1 <+: ρ') (h6 : Nf'.map (·.1) = Nf0.map (·.1)) (h7 : ItAt B Z' ρ' a i oi)
      (h8 : Inv B Z' (Nf' ++ ((D, listObj items nn) :: (it, oi) :: N)) ρ' σ' h') (h9 : Frm B cenv Z' ρ' m (Nf' ++ N)) (h10 : Fl.items σ' a = some its) (h11 : acc.length ≤ i) (h12 : RepL B Z' acc items) (h13 : L (its.drop i) σ' acc)

theorem comp_core {elt : E} {x : String} {itE : E} {ifs : List E} {ex iter : Expr} {eifs : List Expr} {px pos p2 : Pos} {scope : Scope} {use : Option (Value → Sem Unit)} (hh : Ar.handled = none) (O : CompOk scope env.scope x)
    (hit : EOk B C Ar env itE iter) (helt : ∀ cenv : Env, cenv.scope = relabel scope env → EOk B C Ar cenv elt ex) (hifs : ∀ cenv : Env, cenv.scope = relabel scope env → TsOk B C Ar cenv ifs eifs)
    (hfs : ∀ v, foldedSetIterable iter env v = pure v)
    {Z N ρ σ m} {s : Shared} {K : List V → H → Prop} {X : String → H → Prop} {Q : Value → Shared → Prop} (I : Inv B Z N ρ σ s.heap) (Fr : Frm B env Z ρ m N) (hX : Safe Ar N X) (hx : xL C (.comp elt (.one x) itE ifs) m σ K X)
    (fin : ∀ xs D items n Cd oc M Z' ρ' σ' h' tk, K xs σ' → xs.length < 2 ^ 21 → Ext Z Z' → ρ <+: ρ' → Inv B Z' (((Cd, oc) :: M) ++ (D, listObj items n) :: N) ρ' σ' h' → (∃ es ep, oc.data = .dict es ep ∧ StrKeys es) → RepL B Z' xs items →
      compPost (model B.prog B.w) Ar F use Q (.ref D) Cd (.ok .next) { s with heap := h', toks := tk }) :
    wpAny (model B.prog B.w) Ar (comprehension (.ListComp ex [⟨.Name (Str.ofString x) px, iter, eifs, 0⟩] scope pos) scope env p2 (newList []) false (eval iter env) use) Q F s := by
  rw [yY] at hx
  refine wpAny_comprehension_free rfl hfs (closureFor_of (fun y hy => Fr.cok y (O.free y hy))) O.kind O.names (hit Z N ρ σ m s _ X _ F I Fr hX hx ?_)
  intro a v Z1 ρ1 σ1 h1 t1 hx1 e1 p1 I1 R1
  cases hi : items σ1 a with
  | none => rw [hi] at hx1; exact hx1.elim
  | some its =>
    rw [hi] at hx1
    simp only [get] at hx1
    have hlen := items_len I1 R1 hi
    refine iter_ok I1 R1 hi ?_
    intro itA o h2 t2 hitA I2
    refine wpAny_newObj_type (hd := by size_fits) (new_cenv ?_)
    have I3 := I2.push (listObj [] 0) rfl
    obtain ⟨M, I4, F4, hc4⟩ := comp_frm I3 ((Fr.mono e1 p1).mem (fun p hp => List.mem_cons_of_mem _ (List.mem_cons_of_mem _ hp))) O
    have hscope : (cenvOf scope env (h2.push (listObj [] 0)).objs.size).scope = relabel scope env := rfl
    generalize hCd : (h2.push (listObj [] 0)).objs.size = Cd at I4 F4 hc4 hscope
    generalize hH : pushCells ((h2.push (listObj [] 0)).push (dictObj [] 0)) scope.names = H4 at I4
    generalize hD : h2.objs.size = D at I4 F4
    generalize hcenv : cenvOf scope env Cd = cenv at F4 hc4 hscope
    have hloc : cenv.locals = Cd := by rw [← hcenv]; rfl
    have hkindx : cenv.kindOf (Str.ofString x) = scope.names.lookup (Str.ofString x) := by
      show cenv.scope.names.lookup _ = _
      rw [hscope, relabel_eq, lookup_relabel]
      rcases O.var with e | e <;> (rw [e]; rfl)
    have main : codeAny (model B.prog B.w) Ar (.compLoop (.ListComp ex [⟨.Name (Str.ofString x) px, iter, eifs, 0⟩] scope pos) 0 (.ref itA) (.ref D) cenv) (compPost (model B.prog B.w) Ar F use Q (.ref D) Cd) { s with heap := H4, toks := t2 } := by
      refine codeAny_compLoop_tests (CmpSt B cenv a its (m.del x) Z1 ((Cd, dictObj [] 0) :: M) N ρ1 itA D s fun l σ' acc => compLoop (fun m σ K => xTs C true ifs m σ K X) (fun m σ K => xE C elt m σ K X) (.one x) a its m l σ' acc K) ?_ (its.length + 1)
        ⟨0, [], [], 0, Z1, (Cd, dictObj [] 0) :: M, ρ1, σ1, H4, t2, o, rfl, Nat.zero_le _, rfl, Ext.refl _, List.prefix_refl _, rfl, hitA, I4, ?_, hi, Nat.zero_le _, repL_nil, hx1⟩
      · rintro n s' ⟨i, acc, items, nn, Z', Nf', ρ', σ', h', tk, oi, rfl, hile, rfl, e2, p2, hn, hitA', I', Fr', hi', hacc, hracc, hx'⟩
        have hpm : ((itA, oi) :: (Nf' ++ ((D, listObj items nn) :: N))).Perm (Nf' ++ ((D, listObj items nn) :: (itA, oi) :: N)) := by
          refine (List.perm_middle.symm).trans ?_
          exact List.Perm.append_left _ (List.Perm.swap _ _ _)
        refine next_ok hh (I'.perm hpm) hitA' hi' ?_ ?_
        · intro y w o' h3 t3 hy hw hit3 I3'
          have hlt : i < its.length := (List.getElem?_eq_some_iff.mp hy).1
          have hdrop : its.drop i = y :: its.drop (i + 1) := by
            rw [List.drop_eq_getElem_cons hlt]
            rw [List.getElem?_eq_getElem hlt] at hy
            cases hy; rfl
          rw [hdrop] at hx'
          simp only [compLoop_0, compLoop_1, bindT, get] at hx'
          have hpm' : (Nf' ++ ((D, listObj items nn) :: (itA, o') :: N)).Perm ((itA, o') :: (Nf' ++ ((D, listObj items nn) :: N))) := by
            refine List.Perm.symm ((List.perm_middle.symm).trans ?_)
            exact List.Perm.append_left _ (List.Perm.swap _ _ _)
          have hsub : ∀ p ∈ Nf' ++ N, p ∈ Nf' ++ ((D, listObj items nn) :: (itA, o') :: N) := by
            intro p hp
            rcases List.mem_append.mp hp with hp | hp
            · exact List.mem_append_left _ hp
            · exact List.mem_append_right _ (List.mem_cons_of_mem _ (List.mem_cons_of_mem _ hp))
          have hL : cenv.locals ∈ Nf'.map (·.1) := by rw [hn, hloc]; exact List.mem_cons_self
          refine wpAny_assign_Name (store_ok (Nf := Nf') (N := (D, listObj items nn) :: (itA, o') :: N) (x := x) (I3'.perm hpm') (Fr'.mem hsub) hw (by rw [hkindx]; rcases O.var with e | e <;> (rw [e]; rfl)) hL (fun hc => ?_) ?_)
          · rw [hkindx] at hc
            obtain ⟨c, h1', h2'⟩ := hc4 hc
            exact ⟨c, h1', by rw [hn]; exact List.mem_cons_of_mem _ h2'⟩
          · intro Nf'' h4 t4 hn' I5 F5
            rw [Loc.del_set] at F5
            have hX' : Safe Ar (Nf'' ++ ((D, listObj items nn) :: (itA, o') :: N)) X := hX.mem fun p hp => List.mem_append_right _ (List.mem_cons_of_mem _ (List.mem_cons_of_mem _ hp))
            refine tests_ok (hifs cenv hscope) I5 F5 hX' hx' ?_
            intro b Z6 ρ6 σ6 h6 t6 hx6 e6 p6 I6
            have F6 := F5.mono e6 p6
            have fdrop : ∀ {Z7 ρ7 lo nl}, Frm B cenv Z7 ρ7 (m.set x y) (Nf'' ++ ((D, listObj lo nl) :: (itA, o') :: N)) → Frm B cenv Z7 ρ7 (m.del x) (Nf'' ++ N) := by
              intro Z7 ρ7 lo nl F7
              refine Frm.less (Frm.drop2 (D := [(D, listObj lo nl), (itA, o')]) F7 ?_) ?_
              · intro p hp
                obtain ⟨vs, hvs⟩ := hit3.fields
                simp only [List.mem_cons, List.not_mem_nil, or_false] at hp
                rcases hp with rfl | rfl
                · exact ⟨fun _ _ => by simp [listObj], fun _ => by simp [listObj]⟩
                · exact ⟨fun _ _ => by simp [hvs], fun _ => by simp [hvs]⟩
              · intro z b hz
                unfold Loc.del at hz
                unfold Loc.set
                split at hz
                · cases hz
                · rename_i q; rw [if_neg q]; exact hz
            cases b with
            | true =>
              simp only [if_true] at hx6 ⊢
              refine helt cenv hscope Z6 _ ρ6 σ6 (m.set x y) _ _ X _ _ I6 F6 hX' hx6 ?_
              intro va w7 Z7 ρ7 σ7 h7 t7 hx7 e7 p7 I7 R7
              obtain ⟨vx, hvx, hx7⟩ := get_of hx7
              · rw [asV_of hvx] at R7
                have hrl := repL_len hracc
                have I7' := I7.perm (N' := (D, listObj items nn) :: (Nf'' ++ (itA, o') :: N)) List.perm_middle.symm
                have hgD := (I7'.led _ List.mem_cons_self).1.2 rfl
                refine wpAny_list_append_plain ⟨nn, hgD⟩ (fun h8 hp8 hsb8 => ?_) (by unfold sizeLine; simp; omega)
                obtain ⟨n8, hg8⟩ := hp8
                have hg8' : h8.get? D = some (listObj (items ++ [w7]) n8) := by rw [hg8]; simp [listObj]
                have I8 := I7'.updLed hsb8 hg8'
                refine ⟨its.length + 1 - (i + 1), by omega, i + 1, acc ++ [vx], items ++ [w7], n8, Z7, Nf'', ρ7, σ7, h8, t7, o', rfl, by omega, rfl, e2.trans (e6.trans e7), p2.trans (p6.trans p7), hn'.trans hn, (hit3.mono e6 p6).mono e7 p7, I8.perm List.perm_middle, ?_, stay_items (Z := Z) (ρ := ρ) hi' hx7.1, by simp; omega, repL_append ((hracc.mono e6).mono e7) (repL_one R7), hx7.2⟩
                exact fdrop (F6.mono e7 p7)
            | false =>
              simp only [Bool.false_eq_true, if_false] at hx6 ⊢
              exact ⟨its.length + 1 - (i + 1), by omega, i + 1, acc, items, nn, Z6, Nf'', ρ6, σ6, h6, t6, o', rfl, by omega, rfl, e2.trans e6, p2.trans p6, hn'.trans hn, hit3.mono e6 p6, I6, fdrop F6, stay_items (Z := Z) (ρ := ρ) hi' hx6.1, by omega, hracc.mono e6, hx6.2⟩
        · intro hnone h3 t3 I3'
          have hge : its.length ≤ i := by rwa [List.getElem?_eq_none_iff] at hnone
          rw [List.drop_eq_nil_of_le hge] at hx'
          simp only [compLoop_0, compLoop_1] at hx'
          cases Nf' with
          | nil => simp at hn
          | cons q M' =>
            obtain ⟨qa, qo⟩ := q
            simp only [List.map_cons, List.cons.injEq] at hn
            obtain ⟨hq, hM'⟩ := hn
            subst hq
            refine fin acc D items nn qa qo M' Z' ρ' σ' h3 t3 hx' (by omega) (e1.trans e2) (p1.trans p2) I3' ?_ hracc
            obtain ⟨o1, es, ep, hN1, hD1, hS1⟩ := Fr'.loc
            have h2' : (o1 : Obj) = qo := by
              have : (cenv.locals, o1) ∈ (qa, qo) :: M' ++ ((D, listObj items nn) :: (itA, oi) :: N) := by
                rcases List.mem_append.mp hN1 with h | h
                · exact List.mem_append_left _ h
                · exact List.mem_append_right _ (List.mem_cons_of_mem _ (List.mem_cons_of_mem _ h))
              rw [hloc] at this
              exact I'.led_inj this (List.mem_append_left _ List.mem_cons_self)
            rw [← h2']
            exact ⟨es, ep, hD1, hS1⟩
      · refine Frm.drop2 (D := [(D, listObj [] 0), (itA, o)]) F4 ?_
        intro p hp
        obtain ⟨vs, hvs⟩ := hitA.fields
        simp only [List.mem_cons, List.not_mem_nil, or_false] at hp
        rcases hp with rfl | rfl
        · exact ⟨fun _ _ => by simp [listObj], fun _ => by simp [listObj]⟩
        · exact ⟨fun _ _ => by simp [hvs], fun _ => by simp [hvs]⟩
    subst hcenv hD hCd hH
    refine codeAny_compStart_list ?_ ?_
    · exact main
    · have I4' := I4.perm (N' := (itA, o) :: (((((h2.push (listObj [] 0)).objs.size, dictObj [] 0) :: M) ++ ((h2.objs.size, listObj [] 0) :: N)))) ?_
      · exact self_ok I4' hitA main
      · refine (List.perm_middle.symm).trans ?_
        exact List.Perm.append_left _ (List.Perm.swap _ _ _)

/-- a comprehension whose list is used as it is -/
theorem lok_comp {elt : E} {x : String} {itE : E} {ifs : List E} {ex iter : Expr} {eifs : List Expr} {px pos : Pos} {scope : Scope} (hh : Ar.handled = none) (O : CompOk scope env.scope x)
    (hit : EOk B C Ar env itE iter) (helt : ∀ cenv : Env, cenv.scope = relabel scope env → EOk B C Ar cenv elt ex) (hifs : ∀ cenv : Env, cenv.scope = relabel scope env → TsOk B C Ar cenv ifs eifs)
    (hfs : ∀ v, foldedSetIterable iter env v = pure v) : LOk B C Ar env (.comp elt (.one x) itE ifs) (.ListComp ex [⟨.Name (Str.ofString x) px, iter, eifs, 0⟩] scope pos) := by
  intro Z N ρ σ m s K X Q F I Fr hX hx P
  rw [eval_ListComp]
  refine comp_core (use := none) hh O hit helt hifs hfs I Fr hX hx ?_
  intro xs D items n Cd oc M Z' ρ' σ' h' tk hk hl e p I' hoc hr
  obtain ⟨es, ep, hd, hs⟩ := hoc
  obtain ⟨sl, hg⟩ := (I'.led (Cd, oc) (List.mem_append_left _ List.mem_cons_self)).1.1
  refine ⟨nsFind es, ⟨_, es, ep, hg, hd, hs, fun _ => rfl⟩, fun h'' hsb => ?_⟩
  have I2 : Inv B Z' (M ++ (D, listObj items n) :: N) ρ' σ' h'' := Inv.dropExt (a := Cd) (o := oc) (N := M ++ (D, listObj items n) :: N) I' (fun b o' hb he => (hsb.2 b hb).trans he)
  exact P xs D items n Z' ρ' σ' h'' tk hk.1 hk.2 e p (I2.sub (List.sublist_append_right _ _)) hr

/-- a comprehension that is bound to a name on its own line -/
theorem sok_comp {elt : E} {x y : String} {itE : E} {ifs : List E} {ex iter : Expr} {eifs : List Expr} {px py pos spos : Pos} {scope : Scope} (hh : Ar.handled = none) (O : CompOk scope env.scope x) (hk : stK (env.kindOf (Str.ofString y)) = true)
    (hit : EOk B C Ar env itE iter) (helt : ∀ cenv : Env, cenv.scope = relabel scope env → EOk B C Ar cenv elt ex) (hifs : ∀ cenv : Env, cenv.scope = relabel scope env → TsOk B C Ar cenv ifs eifs)
    (hfs : ∀ v, foldedSetIterable iter env v = pure v) (hsw : swapsWith (.ListComp ex [⟨.Name (Str.ofString x) px, iter, eifs, 0⟩] scope pos) (some (.Name (Str.ofString y) py)) spos.line env = pure true) :
    SOk B C Ar env (.asg y (.fz (.comp elt (.one x) itE ifs))) (.Assign [.Name (Str.ofString y) py] (.ListComp ex [⟨.Name (Str.ofString x) px, iter, eifs, 0⟩] scope pos) spos) := by
  intro Z Nf N ρ σ m s K X Q F I Fr Ow hX hx P PX
  rw [yh, yK] at hx
  rw [exec_Assign_Name_used _ _ _ _ hsw]
  refine wpAny_bind (wpAny_standAt (wpAny_bind ?_))
  show wpAny _ Ar (do let _ ← comprehension (.ListComp ex [⟨.Name (Str.ofString x) px, iter, eifs, 0⟩] scope pos) scope env _ (newList []) false (eval iter env) (some (assign (.Name (Str.ofString y) py) env))) _ _ s
  refine wpAny_bind (wpAny_mono (comp_core (use := some (assign (.Name (Str.ofString y) py) env)) (Q := fun _ s' => Q .next s') hh O hit helt hifs hfs I Fr (hX.safe Fr) hx ?_) (fun _ s' hq => wpAny_pure (wpAny_pure hq)) fun _ _ e => e)
  intro xs D items n Cd oc M Z' ρ' σ' h' tk hk2 hl e p I' hoc hr
  obtain ⟨es, ep, hd, hs⟩ := hoc
  show wpAny _ Ar (assign (.Name (Str.ofString y) py) env (.ref D)) _ _ _
  have I1 := (I'.perm (N' := (D, listObj items n) :: ((((Cd, oc) :: M)) ++ (Nf ++ N))) List.perm_middle.symm)
  have I2 := I1.freeze
  have hpm : (Nf ++ (((Cd, oc) :: M) ++ N)).Perm (((Cd, oc) :: M) ++ (Nf ++ N)) := by
    rw [← List.append_assoc, ← List.append_assoc]
    exact List.Perm.append_right _ List.perm_append_comm
  have I3 := I2.perm hpm
  have x2 := I1.freeze_ext
  refine wpAny_assign_Name (store_ok (Nf := Nf) (N := ((Cd, oc) :: M) ++ N) (x := y) (a := .v (.list xs)) I3 ((Fr.mono (e.trans x2) p).mem ?_) ?_ hk Ow.loc (Ow.cel _) ?_)
  · intro q hq
    rcases List.mem_append.mp hq with hq | hq
    · exact List.mem_append_left _ hq
    · exact List.mem_append_right _ (List.mem_append_right _ hq)
  · exact ⟨D, items, n, rfl, by simp [Inv.zset], hl, hr.mono x2⟩
  · intro Nf' h4 t4 hn' I4 F4
    obtain ⟨sl, hg⟩ := (I4.led (Cd, oc) (List.mem_append_right _ (List.mem_append_left _ List.mem_cons_self))).1.1
    refine ⟨nsFind es, ⟨_, es, ep, hg, hd, hs, fun _ => rfl⟩, fun h5 hsb => ?_⟩
    have I5 : Inv B (Inv.zset Z' D (listObj items n)) (M ++ (Nf' ++ N)) ρ' σ' h5 := by
      refine Inv.dropExt (a := Cd) (o := oc) (I4.perm (N' := (Cd, oc) :: (M ++ (Nf' ++ N))) ?_) (fun b o' hb he => (hsb.2 b hb).trans he)
      show (((Cd, oc) :: M) ++ (Nf' ++ N)).Perm _
      rw [← List.append_assoc, ← List.append_assoc]
      exact List.Perm.append_right _ List.perm_append_comm
    have hmap : (Nf' ++ N).map (·.1) = (Nf ++ N).map (·.1) := by rw [List.map_append, hn', List.map_append]
    have F5 := F4.narrow (D := (Cd, oc) :: M) I4 (by rw [hmap, List.map_append]; exact List.mem_append_left _ Ow.loc) (fun z c hc => by
      obtain ⟨o', v', h1, _⟩ := Fr.cel z c hc
      rw [hmap]; exact List.mem_map.mpr ⟨_, h1, rfl⟩)
    exact P _ _ _ _ Nf' ρ' σ' h5 _ hk2.2 .next (e.trans x2) p hn' (I5.sub (List.sublist_append_right _ _)) F5
end
end Fl

/-! sorting: that the decision tree sorts (own work) -/
namespace Fl
open PySem PyProof.Rows PySem.W
set_option linter.unusedSimpArgs false

theorem x1 {m f n : Nat} (h : m + (f + 1) ≤ n) : m < n := Nat.lt_of_lt_of_le (Nat.lt_add_of_pos_right (Nat.succ_pos f)) h
theorem x2 {m n : Nat} (h : m < n) : m - 1 < n := Nat.lt_of_le_of_lt (Nat.sub_le m 1) h
theorem x3 {m f n : Nat} (h : m + (f + 1) ≤ n) : m + 1 + f ≤ n := by rw [Nat.add_assoc, Nat.add_comm 1 f]; exact h
theorem x4 {m f r : Nat} (h : r ≤ m + 1 + f) : r ≤ m + (f + 1) := by rw [Nat.add_assoc, Nat.add_comm 1 f] at h; exact h
theorem x5 {m f r : Nat} (h : r < m + (f + 1)) : r < m + 1 + f := by rw [Nat.add_assoc, Nat.add_comm 1 f]; exact h
theorem x6 {k m : Nat} (h : k < m + 1) (hk : ¬ k = m) : k < m := Nat.lt_of_le_of_ne (Nat.le_of_lt_succ h) hk
theorem x7 {m r : Nat} (h : m + 1 ≤ r) : m ≤ r := Nat.le_of_succ_le h
theorem x8 {k m : Nat} (h : m + 1 - 1 - 0 ≤ k) (h' : k < m + 1) : k = m := Nat.le_antisymm (Nat.le_of_lt_succ h') h

theorem x9 {m q k : Nat} (k2 : k < m) (hq : q + 1 ≤ m) : m - 1 - q ≤ m - (q + 1) + m - 1 - k := by omega
theorem x10 {m q k : Nat} (k1 : m - 1 - q ≤ k) (k2 : k < m) (hq : q + 1 ≤ m) : m - (q + 1) + m - 1 - k < m := by omega
theorem x11 {m k : Nat} (k1 : 1 ≤ k) (k2 : k < m) : 0 + m - 1 - (k - 1) < m := by omega
theorem x12 {m k : Nat} (k1 : 1 ≤ k) (k2 : k < m) : 1 ≤ 0 + m - 1 - (k - 1) := by omega
theorem x13 {m k : Nat} (k1 : 1 ≤ k) : 0 + m - 1 - (k - 1) - 1 = 0 + m - 1 - k := by omega
theorem x14 {m k : Nat} (k2 : k < m) : 0 + m - 1 - k < m := by omega

theorem x15 {l r : Nat} (h : l < r) : (l + r) / 2 < r := by omega
theorem x16 {l r : Nat} (h : l < r) : l ≤ (l + r) / 2 := by omega
theorem x17 {l r f : Nat} (h : l < r) (hf : r - l ≤ f + 1) : (l + r) / 2 - l ≤ f := by omega
theorem x18 {l r f : Nat} (h : l < r) (hf : r - l ≤ f + 1) : r - ((l + r) / 2 + 1) ≤ f := by omega
theorem x19 {k l : Nat} (h : l ≤ k) : k - (k - l) = l := Nat.sub_sub_self h

noncomputable def Run (lt : Nat → Nat → Bool) (n : Nat) {α : Type} : KasT α → (α → Prop) → Prop
  | .ret a, Q => Q a
  | .ask i j k, Q => i < n ∧ j < n ∧ Run lt n (k (lt i j)) Q

section
variable {lt : Nat → Nat → Bool} {n : Nat}

theorem Run.bind {α β : Type} {f : α → KasT β} {Q : β → Prop} : ∀ {t : KasT α}, Run lt n t (fun a => Run lt n (f a) Q) → Run lt n (t.bind f) Q
  | .ret _, h => h
  | .ask _ _ _, h => ⟨h.1, h.2.1, Run.bind h.2.2⟩
theorem Run.mono {α : Type} {Q Q' : α → Prop} (hq : ∀ a, Q a → Q' a) : ∀ {t : KasT α}, Run lt n t Q → Run lt n t Q'
  | .ret _, h => hq _ h
  | .ask _ _ _, h => ⟨h.1, h.2.1, Run.mono hq h.2.2⟩
theorem Run.wp {α : Type} {cmp : Nat → Nat → (Bool → Shared → Prop) → Shared → Prop} {Q : α → Shared → Prop} {s : Shared} (hc : ∀ i j C, i < n → j < n → C (lt i j) s → cmp i j C s) : ∀ {t : KasT α}, Run lt n t (fun a => Q a s) → t.kasWp cmp Q s
  | .ret _, h => h
  | .ask i j k, h => hc i j _ h.1 h.2.1 (Run.wp hc h.2.2)

structure Ord (lt : Nat → Nat → Bool) : Prop where
  irr : ∀ a, lt a a = false
  asy : ∀ a b, lt a b = true → lt b a = false
  tr : ∀ a b c, lt b a = false → lt c b = false → lt c a = false

noncomputable def G (p : Array Nat) (k : Nat) : Nat := p.getD k 0
noncomputable def SortedTo' (lt : Nat → Nat → Bool) (p : Array Nat) (m : Nat) : Prop := ∀ k, 1 ≤ k → k < m → lt (G p k) (G p (k - 1)) = false
noncomputable def DescTo (lt : Nat → Nat → Bool) (p : Array Nat) (m : Nat) : Prop := ∀ k, 1 ≤ k → k < m → lt (G p (k - 1)) (G p k) = false
noncomputable def EqEnd (lt : Nat → Nat → Bool) (p : Array Nat) (m q : Nat) : Prop := q + 1 ≤ m ∧ ∀ k, m - 1 - q ≤ k → k < m → lt (G p k) (G p (m - 1)) = false ∧ lt (G p (m - 1)) (G p k) = false
/-- the numbers below n, each once -/
noncomputable def Ix (n : Nat) (p : Array Nat) : Prop := p.Perm (List.toArray (List.range n))

theorem Ix.size {p : Array Nat} (h : Ix n p) : p.size = n := by
  have := Array.Perm.size_eq h; simpa using this
theorem G_eq {p : Array Nat} {k : Nat} (h : k < p.size) : G p k = p[k] := by simp [G, Array.getD, h]
theorem Ix.low {p : Array Nat} (h : Ix n p) {k : Nat} (hk : k < n) : G p k < n := by
  have hs := h.size
  rw [G_eq (by omega)]
  have hm : p[k] ∈ p := Array.getElem_mem (by omega)
  have : p[k] ∈ (List.toArray (List.range n)) := (Array.Perm.mem_iff h).mp hm
  simpa using this
theorem G_of {p q : Array Nat} {i j : Nat} (h : p[i]? = q[j]?) : G p i = G q j := by
  unfold G
  rw [Array.getD_eq_getD_getElem?, Array.getD_eq_getD_getElem?, h]
theorem G_rev {p : Array Nat} {i j : Nat} (hj : j ≤ p.size) (k : Nat) : G (kas_rev p i j) k = if i ≤ k ∧ k < j then G p (i + j - 1 - k) else G p k := by
  have := getElem?_mirror_all (xs := p) (i := i) hj k
  split
  · rename_i h; rw [if_pos h] at this; exact G_of this
  · rename_i h; rw [if_neg h] at this; exact G_of this
theorem Ix.rev {p : Array Nat} (h : Ix n p) (i j : Nat) : Ix n (kas_rev p i j) := (mirror_perm _ _ _ _).trans h
theorem Ix.bub {p : Array Nat} (h : Ix n p) (i j : Nat) : Ix n (bubble p i j) := (bubble_perm _ _ _).trans h

theorem sorted_le (O : Ord lt) {p : Array Nat} {m : Nat} (h : SortedTo' lt p m) : ∀ d i, i + d < m → lt (G p (i + d)) (G p i) = false
  | 0, i, _ => O.irr _
  | d + 1, i, hi => by
    have h1 := sorted_le O h d i (by omega)
    have h2 := h (i + (d + 1)) (by omega) (by omega)
    exact O.tr _ _ _ h1 (by simpa [← Nat.add_assoc] using h2)
theorem sorted_le' (O : Ord lt) {p : Array Nat} {m : Nat} (h : SortedTo' lt p m) {i j : Nat} (hij : i ≤ j) (hj : j < m) : lt (G p j) (G p i) = false := by
  have := sorted_le O h (j - i) i (by omega)
  rwa [show i + (j - i) = j by omega] at this
theorem desc_le (O : Ord lt) {p : Array Nat} {m : Nat} (h : DescTo lt p m) : ∀ d i, i + d < m → lt (G p i) (G p (i + d)) = false
  | 0, i, _ => O.irr _
  | d + 1, i, hi => by
    have h1 := desc_le O h d i (by omega)
    have h2 := h (i + (d + 1)) (by omega) (by omega)
    exact O.tr _ _ _ (by simpa [← Nat.add_assoc] using h2) h1

theorem run_asc {p : Array Nat} (hp : Ix n p) : ∀ f m, 1 ≤ m → m + f ≤ n → SortedTo' lt p m → Run lt n (kas_asc p f m) (fun r => m ≤ r ∧ r ≤ m + f ∧ SortedTo' lt p r ∧ (r < m + f → lt (G p r) (G p (r - 1)) = true))
  | 0, m, _, _, h => ⟨Nat.le_refl _, Nat.le_refl _, h, fun h => absurd h (Nat.lt_irrefl _)⟩
  | f + 1, m, h1, hf, h => by
    refine ⟨hp.low (k := m) (x1 hf), hp.low (k := m - 1) (x2 (x1 hf)), ?_⟩
    show Run lt n (if lt (G p m) (G p (m - 1)) = true then .ret m else kas_asc p f (m + 1)) _
    cases hc : lt (G p m) (G p (m - 1)) with
    | true => rw [if_pos rfl]; exact ⟨Nat.le_refl _, Nat.le_add_right _ _, h, fun _ => hc⟩
    | false =>
      rw [if_neg (fun e => nomatch e)]
      refine Run.mono ?_ (run_asc hp f (m + 1) (Nat.succ_le_succ (Nat.zero_le _)) (x3 hf) ?_)
      · rintro r ⟨a, b, c, d⟩
        exact ⟨x7 a, x4 b, c, fun h => d (x5 h)⟩
      · intro k k1 k2
        by_cases hk : k = m
        · subst hk; exact hc
        · exact h k k1 (x6 k2 hk)

theorem rev_eqEnd (O : Ord lt) {p : Array Nat} (hp : Ix n p) {m q : Nat} (hm : m ≤ n) (hd : DescTo lt p m) (he : EqEnd lt p m q) : DescTo lt (kas_rev p (m - (q + 1)) m) m ∧ (lt (G (kas_rev p (m - (q + 1)) m) (m - 1)) (G p (m - 1)) = false ∧ lt (G p (m - 1)) (G (kas_rev p (m - (q + 1)) m) (m - 1)) = false) ∧ ∀ k, m ≤ k → G (kas_rev p (m - (q + 1)) m) k = G p k := by
  have hs := hp.size
  obtain ⟨hq, he⟩ := he
  have hg := G_rev (p := p) (i := m - (q + 1)) (j := m) (hs ▸ hm)
  have e0 : m - (q + 1) = m - 1 - q := by rw [Nat.sub_sub, Nat.add_comm 1 q]
  have cls : ∀ k, m - 1 - q ≤ k → k < m → lt (G (kas_rev p (m - (q + 1)) m) k) (G p (m - 1)) = false ∧ lt (G p (m - 1)) (G (kas_rev p (m - (q + 1)) m) k) = false := by
    intro k k1 k2
    rw [hg, if_pos ⟨e0 ▸ k1, k2⟩]
    exact he _ (x9 k2 hq) (x10 k1 k2 hq)
  refine ⟨fun k k1 k2 => ?_, ?_, fun k hk => ?_⟩
  · by_cases hk : m - 1 - q ≤ k - 1
    · have a1 := cls (k - 1) hk (x2 k2)
      have a2 := cls k (Nat.le_trans hk (Nat.sub_le k 1)) k2
      exact O.tr (G (kas_rev p (m - (q + 1)) m) k) (G p (m - 1)) (G (kas_rev p (m - (q + 1)) m) (k - 1)) a2.2 a1.1
    · by_cases hk2 : m - 1 - q ≤ k
      · have e1 : G (kas_rev p (m - (q + 1)) m) (k - 1) = G p (k - 1) := by rw [hg, if_neg (fun e => hk (e0 ▸ e.1))]
        have a2 := cls k hk2 k2
        have a3 := he k hk2 k2
        have a4 := hd k k1 k2
        rw [e1]
        have a5 : lt (G p (k - 1)) (G p (m - 1)) = false := O.tr (G p (m - 1)) (G p k) (G p (k - 1)) a3.1 a4
        exact O.tr _ _ _ a2.2 a5
      · rw [hg, if_neg (fun e => hk (e0 ▸ e.1)), hg, if_neg (fun e => hk2 (e0 ▸ e.1))]
        exact hd k k1 k2
  · exact cls (m - 1) (Nat.sub_le _ _) (Nat.sub_lt (Nat.lt_of_lt_of_le (Nat.succ_pos q) hq) Nat.one_pos)
  · rw [hg, if_neg (fun e => Nat.lt_irrefl _ (Nat.lt_of_lt_of_le e.2 hk))]

theorem run_desc (O : Ord lt) : ∀ f p m q, Ix n p → m + f ≤ n → DescTo lt p m → EqEnd lt p m q →
    Run lt n (kas_desc f p m q) (fun r => Ix n r.1 ∧ m ≤ r.2.1 ∧ r.2.1 ≤ m + f ∧ DescTo lt r.1 r.2.1 ∧ EqEnd lt r.1 r.2.1 r.2.2)
  | 0, p, m, q, hp, _, hd, he => ⟨hp, Nat.le_refl _, Nat.le_refl _, hd, he⟩
  | f + 1, p, m, q, hp, hf, hd, he => by
    have hq := he.1
    refine ⟨hp.low (k := m) (x1 hf), hp.low (k := m - 1) (x2 (x1 hf)), ?_⟩
    show Run lt n (if lt (G p m) (G p (m - 1)) = true then (if q > 0 then kas_desc f (kas_rev p (m - (q + 1)) m) (m + 1) 0 else kas_desc f p (m + 1) 0)
      else .ask (G p (m - 1)) (G p m) fun d => if d = true then .ret (p, m, q) else kas_desc f p (m + 1) (q + 1)) _
    cases hc : lt (G p m) (G p (m - 1)) with
    | true =>
      rw [if_pos rfl]
      have hasy := O.asy _ _ hc
      split
      · obtain ⟨r1, r2, r3⟩ := rev_eqEnd O hp (Nat.le_of_lt (x1 hf)) hd he
        refine Run.mono ?_ (run_desc O f _ (m + 1) 0 (hp.rev _ _) (x3 hf) ?_ ⟨Nat.succ_le_succ (Nat.zero_le _), fun k k1 k2 => ?_⟩)
        · rintro r ⟨a, b, c, d, e⟩; exact ⟨a, x7 b, x4 c, d, e⟩
        · intro k k1 k2
          by_cases hk : k = m
          · subst hk
            rw [r3 k (Nat.le_refl _)]
            exact O.tr (G p k) (G p (k - 1)) _ hasy r2.1
          · exact r1 k k1 (x6 k2 hk)
        · have : k = m := x8 k1 k2
          subst this
          simp only [Nat.add_sub_cancel]
          exact ⟨O.irr _, O.irr _⟩
      · refine Run.mono ?_ (run_desc O f _ (m + 1) 0 hp (x3 hf) ?_ ⟨Nat.succ_le_succ (Nat.zero_le _), fun k k1 k2 => ?_⟩)
        · rintro r ⟨a, b, c, d, e⟩; exact ⟨a, x7 b, x4 c, d, e⟩
        · intro k k1 k2
          by_cases hk : k = m
          · subst hk; exact hasy
          · exact hd k k1 (x6 k2 hk)
        · have : k = m := x8 k1 k2
          subst this
          simp only [Nat.add_sub_cancel]
          exact ⟨O.irr _, O.irr _⟩
    | false =>
      rw [if_neg (fun e => nomatch e)]
      refine ⟨hp.low (k := m - 1) (x2 (x1 hf)), hp.low (k := m) (x1 hf), ?_⟩
      cases hc2 : lt (G p (m - 1)) (G p m) with
      | true => exact ⟨hp, Nat.le_refl _, Nat.le_add_right _ _, hd, he⟩
      | false =>
        refine Run.mono ?_ (run_desc O f _ (m + 1) (q + 1) hp (x3 hf) ?_ ⟨Nat.succ_le_succ hq, fun k k1 k2 => ?_⟩)
        · rintro r ⟨a, b, c, d, e⟩; exact ⟨a, x7 b, x4 c, d, e⟩
        · intro k k1 k2
          by_cases hk : k = m
          · subst hk; exact hc2
          · exact hd k k1 (x6 k2 hk)
        · simp only [Nat.add_sub_cancel]
          by_cases hk : k = m
          · subst hk; exact ⟨O.irr _, O.irr _⟩
          · have := he.2 k (by rw [Nat.sub_sub, Nat.add_comm 1 q]; exact k1) (x6 k2 hk)
            exact ⟨O.tr (G p m) (G p (m - 1)) (G p k) hc2 this.1, O.tr (G p k) (G p (m - 1)) (G p m) this.2 hc⟩

theorem run_tail3 {p : Array Nat} {m nrem : Nat} (hp : Ix n p) (h1 : 1 ≤ m) (hm : m ≤ nrem) (hn : nrem ≤ n) (hd : DescTo lt p m) :
    Run lt n (kas_tail3 m nrem p) (fun r => Ix n r.2 ∧ 1 ≤ r.1 ∧ r.1 ≤ nrem ∧ SortedTo' lt r.2 r.1) := by
  have hs := hp.size
  unfold kas_tail3
  have e0 : m + (nrem - m) = nrem := Nat.add_sub_cancel' hm
  refine Run.bind (Run.mono ?_ (run_asc (hp.rev 0 m) (nrem - m) m h1 (e0.symm ▸ hn) ?_))
  · rintro r ⟨a, b, c, _⟩
    exact ⟨hp.rev 0 m, Nat.le_trans h1 a, e0 ▸ b, c⟩
  · intro k k1 k2
    have hg := G_rev (p := p) (i := 0) (j := m) (hs ▸ Nat.le_trans hm hn)
    rw [hg, if_pos ⟨Nat.zero_le _, k2⟩, hg, if_pos ⟨Nat.zero_le _, x2 k2⟩]
    have := hd (0 + m - 1 - (k - 1)) (x12 k1 k2) (x11 k1 k2)
    rw [x13 k1] at this
    exact this

theorem run_descPart (O : Ord lt) {p : Array Nat} {m nrem : Nat} (hp : Ix n p) (h1 : 1 ≤ m) (hm : m + 1 ≤ nrem) (hn : nrem ≤ n) (hd : DescTo lt p (m + 1)) :
    Run lt n (kas_descPart m nrem p) (fun r => Ix n r.2 ∧ 1 ≤ r.1 ∧ r.1 ≤ nrem ∧ SortedTo' lt r.2 r.1) := by
  unfold kas_descPart
  have e0 : m + 1 + (nrem - (m + 1)) = nrem := Nat.add_sub_cancel' hm
  refine Run.bind (Run.mono ?_ (run_desc O (nrem - (m + 1)) p (m + 1) 0 hp (e0.symm ▸ hn) hd ⟨Nat.succ_le_succ (Nat.zero_le _), fun k k1 k2 => ?_⟩))
  · rintro ⟨p', m', q⟩ ⟨a, b, c, d, e⟩
    simp only at a b c d e ⊢
    split
    · obtain ⟨r1, _, _⟩ := rev_eqEnd O a (Nat.le_trans (e0 ▸ c) hn) d e
      exact run_tail3 (a.rev _ _) (Nat.le_trans (Nat.succ_le_succ (Nat.zero_le _)) b) (e0 ▸ c) hn r1
    · exact run_tail3 a (Nat.le_trans (Nat.succ_le_succ (Nat.zero_le _)) b) (e0 ▸ c) hn d
  · have : k = m := x8 k1 k2
    subst this
    simp only [Nat.add_sub_cancel]
    exact ⟨O.irr _, O.irr _⟩

theorem run_count (O : Ord lt) {p : Array Nat} {nrem : Nat} (hp : Ix n p) (h1 : 1 ≤ nrem) (hn : nrem ≤ n) :
    Run lt n (kas_count nrem p) (fun r => Ix n r.2 ∧ 1 ≤ r.1 ∧ r.1 ≤ nrem ∧ SortedTo' lt r.2 r.1) := by
  have hs := hp.size
  unfold kas_count
  have e0 : 1 + (nrem - 1) = nrem := Nat.add_sub_cancel' h1
  refine Run.bind (Run.mono ?_ (run_asc hp (nrem - 1) 1 (Nat.le_refl _) (e0.symm ▸ hn) (fun k k1 k2 => absurd k1 (Nat.not_le_of_lt k2))))
  rintro m ⟨a, b, c, d⟩
  rw [e0] at b d
  split
  · exact ⟨hp, a, b, c⟩
  · rename_i hne
    have hmn : m < nrem := Nat.lt_of_le_of_ne b (by simpa using hne)
    have hlt := d hmn
    have hmN : m < n := Nat.lt_of_lt_of_le hmn hn
    split
    · rename_i hm1
      refine ⟨hp.low (k := 0) (Nat.lt_of_lt_of_le a (Nat.le_of_lt hmN)), hp.low (k := m - 1) (x2 hmN), ?_⟩
      show Run lt n (if lt (G p 0) (G p (m - 1)) = true then .ret (m, p) else kas_descPart m nrem (kas_rev p 0 m)) _
      cases hc : lt (G p 0) (G p (m - 1)) with
      | true => rw [if_pos rfl]; exact ⟨hp, a, b, c⟩
      | false =>
        rw [if_neg (fun e => nomatch e)]
        refine run_descPart O (hp.rev 0 m) a hmn hn ?_
        have hg := G_rev (p := p) (i := 0) (j := m) (hs ▸ Nat.le_of_lt hmN)
        have hm0 : m - 1 < m := Nat.sub_lt a Nat.one_pos
        -- all of the first m are alike
        have eq : ∀ k, k < m → lt (G p k) (G p (m - 1)) = false ∧ lt (G p (m - 1)) (G p k) = false := by
          intro k hk
          refine ⟨?_, sorted_le' O c (Nat.le_sub_one_of_lt hk) hm0⟩
          have h0 := sorted_le' O c (i := 0) (j := k) (Nat.zero_le _) hk
          have h2 : lt (G p k) (G p (m - 1)) = false := by
            cases hx : lt (G p k) (G p (m - 1)) with
            | false => rfl
            | true =>
              -- p k < p (m-1) <= p 0 <= p k
              have h3 : lt (G p 0) (G p (m - 1)) = false := hc
              have h4 : lt (G p k) (G p 0) = false := h0
              have h5 := O.tr (G p (m - 1)) (G p 0) (G p k) h3 h4
              rw [h5] at hx; cases hx
          exact h2
        intro k k1 k2
        by_cases hk : k = m
        · subst hk
          rw [hg, if_pos ⟨Nat.zero_le _, hm0⟩, hg, if_neg (fun e => Nat.lt_irrefl _ e.2)]
          have e1 := eq (0 + k - 1 - (k - 1)) (x14 hm0)
          have := O.asy _ _ hlt
          exact O.tr _ _ _ this e1.1
        · have hkm := x6 k2 hk
          rw [hg, if_pos ⟨Nat.zero_le _, x2 hkm⟩, hg, if_pos ⟨Nat.zero_le _, hkm⟩]
          have e1 := eq (0 + m - 1 - (k - 1)) (x11 k1 hkm)
          have e2 := eq (0 + m - 1 - k) (x14 hkm)
          exact O.tr _ _ _ e2.2 e1.1
    · rename_i hm1
      have hm1 : m = 1 := Nat.le_antisymm (Nat.le_of_not_lt hm1) a
      subst hm1
      refine run_descPart O hp (Nat.le_refl _) hmn hn ?_
      intro k k1 k2
      have : k = 1 := Nat.le_antisymm (Nat.le_of_lt_succ k2) k1
      subst this
      exact O.asy _ _ hlt

theorem run_place (O : Ord lt) {p : Array Nat} {k : Nat} (hp : Ix n p) (hk : k < n) (hs : SortedTo' lt p k) : ∀ f l r, l ≤ r → r ≤ k → r - l ≤ f → (∀ i, i < l → lt (G p k) (G p i) = false) → (∀ i, r ≤ i → i < k → lt (G p k) (G p i) = true) →
    Run lt n (kas_place p k f l r) (fun t => t ≤ k ∧ (∀ i, i < t → lt (G p k) (G p i) = false) ∧ ∀ i, t ≤ i → i < k → lt (G p k) (G p i) = true)
  | 0, l, r, hlr, hrk, hf, h1, h2 => by
    have e : l = r := Nat.le_antisymm hlr (Nat.le_of_sub_eq_zero (Nat.le_zero.mp hf))
    subst e
    exact ⟨hrk, h1, h2⟩
  | f + 1, l, r, hlr, hrk, hf, h1, h2 => by
    unfold kas_place
    split
    · rename_i hge
      have e : l = r := Nat.le_antisymm hlr (by simpa using hge)
      subst e
      exact ⟨hrk, h1, h2⟩
    · rename_i hge
      have hlt : l < r := by simpa using hge
      have hmr := x15 hlt
      have hmk := Nat.lt_of_lt_of_le hmr hrk
      refine ⟨hp.low hk, hp.low (k := (l + r) / 2) (Nat.lt_trans hmk hk), ?_⟩
      show Run lt n (if lt (G p k) (G p ((l + r) / 2)) = true then kas_place p k f l ((l + r) / 2) else kas_place p k f ((l + r) / 2 + 1) r) _
      cases hc : lt (G p k) (G p ((l + r) / 2)) with
      | true =>
        rw [if_pos rfl]
        refine run_place O hp hk hs f l ((l + r) / 2) (x16 hlt) (Nat.le_of_lt hmk) (x17 hlt hf) h1 fun i a b => ?_
        have := sorted_le' O hs a b
        cases hx : lt (G p k) (G p i) with
        | true => rfl
        | false => have := O.tr _ _ _ this hx; rw [this] at hc; cases hc
      | false =>
        rw [if_neg (fun e => nomatch e)]
        refine run_place O hp hk hs f ((l + r) / 2 + 1) r hmr hrk (x18 hlt hf) (fun i a => ?_) h2
        have := sorted_le' O hs (i := i) (j := (l + r) / 2) (Nat.le_of_lt_succ a) hmk
        exact O.tr _ _ _ this hc

theorem G_bub {p : Array Nat} {src d : Nat} (hs : src < p.size) (hd : d ≤ src) (k : Nat) : G (bubble p src d) k = if k = src - d then G p src else if src - d < k ∧ k ≤ src then G p (k - 1) else G p k := by
  have := getElem?_bubble hs d hd k
  split
  · rename_i h; rw [if_pos h] at this; exact G_of this
  · rename_i h
    rw [if_neg h] at this
    split
    · rename_i h'; rw [if_pos h'] at this; exact G_of this
    · rename_i h'; rw [if_neg h'] at this; exact G_of this

theorem run_bin (O : Ord lt) : ∀ f p k, Ix n p → 1 ≤ k → k + f = n → SortedTo' lt p k → Run lt n (kas_bin f p k) (fun r => Ix n r ∧ SortedTo' lt r n)
  | 0, p, k, hp, _, hf, hs => ⟨hp, by simpa using hf ▸ hs⟩
  | f + 1, p, k, hp, h1, hf, hs => by
    have hsz := hp.size
    unfold kas_bin
    have hkn : k < n := x1 (Nat.le_of_eq hf)
    refine Run.bind (Run.mono ?_ (run_place O hp hkn hs k 0 k (Nat.zero_le _) (Nat.le_refl _) (Nat.le_refl _) (fun i hi => absurd hi (Nat.not_lt_zero i)) (fun i a b => absurd a (Nat.not_le_of_lt b))))
    rintro l ⟨hl, a, b⟩
    refine run_bin O f _ (k + 1) (hp.bub _ _) (Nat.succ_le_succ (Nat.zero_le _)) (by rw [Nat.add_assoc, Nat.add_comm 1 f]; exact hf) ?_
    have hg := G_bub (p := p) (src := k) (d := k - l) (hsz ▸ hkn) (Nat.sub_le _ _)
    rw [x19 hl] at hg
    intro j j1 j2
    have hj1 : j - 1 < j := Nat.sub_lt j1 Nat.one_pos
    rw [hg, hg]
    by_cases c1 : j = l
    · subst c1
      rw [if_pos rfl, if_neg (Nat.ne_of_lt hj1), if_neg (fun e => Nat.lt_irrefl _ (Nat.lt_trans hj1 e.1))]
      exact a _ hj1
    · rw [if_neg c1]
      by_cases c2 : l < j ∧ j ≤ k
      · rw [if_pos c2]
        by_cases c3 : j - 1 = l
        · rw [if_pos c3]
          exact O.asy _ _ (b _ (c3 ▸ Nat.le_refl _) (Nat.lt_of_lt_of_le hj1 c2.2))
        · have c4 : l < j - 1 := Nat.lt_of_le_of_ne (Nat.le_sub_one_of_lt c2.1) (Ne.symm c3)
          have c5 : j - 1 < k := Nat.lt_of_lt_of_le hj1 c2.2
          rw [if_neg c3, if_pos ⟨c4, Nat.le_of_lt c5⟩]
          exact hs (j - 1) (Nat.lt_of_le_of_lt (Nat.zero_le _) c4) c5
      · rw [if_neg c2]
        have c6 : j < l := Nat.lt_of_le_of_ne (Nat.le_of_not_lt fun e => c2 ⟨e, Nat.le_of_lt_succ j2⟩) c1
        have c7 : j - 1 < l := Nat.lt_trans hj1 c6
        rw [if_neg (Nat.ne_of_lt c7), if_neg (fun e => Nat.lt_irrefl _ (Nat.lt_trans c7 e.1))]
        exact hs j j1 (Nat.lt_of_lt_of_le c6 hl)

theorem run_sort (O : Ord lt) (h2 : 1 ≤ n) : Run lt n (kas_sort n) (fun r => Ix n r ∧ SortedTo' lt r n) := by
  unfold kas_sort
  refine Run.bind (Run.mono ?_ (run_count O (Array.Perm.refl _) h2 (Nat.le_refl _)))
  rintro ⟨m, p⟩ ⟨a, b, c, d⟩
  simp only at a b c d ⊢
  split
  · rw [Nat.max_eq_left b]
    exact run_bin O _ _ _ a b (Nat.add_sub_cancel' c) d
  · rename_i hlt
    have : m = n := Nat.le_antisymm c (Nat.le_of_not_lt hlt)
    subst this
    exact ⟨a, d⟩
end
end Fl

/-! sorted (own work) -/
namespace Fl
open PySem PyProof.Rows PySem.W
set_option linter.unusedSimpArgs false

section
variable {prog : Program} {w : World} {A : Around} {E : Value → Shared → Prop} {s : Shared}

theorem getD_range (vs : List Value) : ((List.range vs.length).map fun i => vs.getD i Value.none) = vs := by
  apply List.ext_getElem
  · simp
  · intro i h1 h2; simp [List.getD, h2]

theorem list_sortG {a : Addr} {vs : List Value} {n : Nat} {lt : Nat → Nat → Bool} {P : PySem.Fin → Shared → Prop} (ho : s.heap.get? a = some (seqObj "list" vs.toArray n)) (h64 : vs.length < 64) (O : Ord lt)
    (hk : 2 ≤ vs.length → ∀ s' : Shared, (∀ b o, b ≠ a → s.heap.get? b = some o → s'.heap.get? b = some o) → ∃ κ, (∀ Q E, Q κ s' → wpAny (model prog w) A (keyKind' vs.toArray) Q E s') ∧ ∀ i j C, i < vs.length → j < vs.length → C (lt i j) s' → kas_ask prog w A κ vs i j C s')
    (h : ∀ p : Array Nat, Ix vs.length p → SortedTo' lt p vs.length → P (.done (.ret .none)) { s with heap := sortedHeap s.heap a vs (List.toArray (p.toList.map fun i => vs.getD i Value.none)) }) :
    wpAny (model prog w) A (Builtin.«list.sort» ⟨[.ref a], []⟩) P E s := by
  rw [list_sort_plain]
  have ha : a < s.heap.objs.size := Heap.lt_size ho
  refine wpAny_bind (listItems_at ho rfl ?_)
  refine wpAny_bind (listUpdate_at ho rfl ?_ (by rw [List.size_toArray, sizeLine_eq]; omega) (Nat.zero_le _))
  obtain ⟨e1, ho1⟩ : ∃ e1, (s.heap.update a (Obj.mapSeq fun _ => #[])).get? a = some (seqObj "list" #[] e1) := ⟨_, get?_update_seq ho (fun _ => #[])⟩
  refine wpAny_bind (seqEpoch_at ho1 rfl ?_)
  refine wpAny_bind (wpAny_newTuple ?_ (by show vs.length ≤ _; rw [sizeLine_eq]; omega))
  refine wpAny_bind (wpAny_newList ?_ (Nat.zero_le _))
  refine wpAny_holding ?_
  have ho6 : (((s.heap.update a (Obj.mapSeq fun _ => #[])).push (seqObj "tuple" vs.toArray 0)).push (seqObj "list" #[] 0)).get? a = some (seqObj "list" #[] e1) := by
    rw [Heap.get?_push_ne _ _ _ (by rw [size_push', Heap.size_update]; exact Nat.ne_of_lt (Nat.lt_succ_of_lt ha)), Heap.get?_push_ne _ _ _ (by rw [Heap.size_update]; exact Nat.ne_of_lt ha)]
    exact ho1
  show wpAny (model prog w) A _ P E { s with heap := ((s.heap.update a (Obj.mapSeq fun _ => #[])).push (seqObj "tuple" vs.toArray 0)).push (seqObj "list" #[] 0) }
  dsimp only
  by_cases h2 : vs.toArray.size < 2
  · rw [if_pos h2, if_pos h2]
    refine wpAny_bind (wpAny_pure ?_)
    rw [StateT.run_pure]
    refine wpAny_bind (wpAny_pure ?_)
    dsimp only
    refine wpAny_bind (seqEpoch_at ho6 rfl ?_)
    have harr : (arrOf (SortSt.mk' general' (vs.toArray.zip vs.toArray) #[] 7 none)).map (·.2) = vs.toArray := by
      show (vs.toArray.zip vs.toArray).map (·.2) = _
      apply Array.ext
      · simp
      · intro i h1 h3; simp
    rw [harr]
    refine wpAny_bind (listUpdate_at ho6 rfl ?_ (Nat.zero_le _) (by rw [List.size_toArray, sizeLine_eq]; omega))
    simp only [bne_self_eq_false, Bool.false_eq_true, if_false]
    have := h (List.toArray (List.range vs.length)) (Array.Perm.refl _) (fun k k1 k2 => by simp at h2; omega)
    rw [List.toList_toArray, getD_range] at this
    exact wpAny_pure this
  · rw [if_neg h2, if_neg h2]
    have h2' : 2 ≤ vs.length := by simp at h2; omega
    obtain ⟨κ, hk1, hk2⟩ := hk h2' { s with heap := ((s.heap.update a (Obj.mapSeq fun _ => #[])).push (seqObj "tuple" vs.toArray 0)).push (seqObj "list" #[] 0) } (fun b o hb e => by
      refine Heap.get?_push_of_some _ (Heap.get?_push_of_some _ ?_)
      rw [Heap.get?_update_ne _ _ _ _ hb]; exact e)
    refine wpAny_bind (hk1 _ _ ?_)
    have run : (kas_sort vs.length).kasWp (kas_ask prog w A κ vs) (fun p s' => Ix vs.length p ∧ SortedTo' lt p vs.length ∧ s' = { s with heap := ((s.heap.update a (Obj.mapSeq fun _ => #[])).push (seqObj "tuple" vs.toArray 0)).push (seqObj "list" #[] 0) })
        { s with heap := ((s.heap.update a (Obj.mapSeq fun _ => #[])).push (seqObj "tuple" vs.toArray 0)).push (seqObj "list" #[] 0) } :=
      Run.wp (n := vs.length) (lt := lt) hk2 (Run.mono (fun p hp => ⟨hp.1, hp.2, rfl⟩) (run_sort O (by omega)))
    refine wpAny_bind (wpAny_mono (kat_run (Q := fun st' s' => ∃ p : Array Nat, arrOf st' = p.map (kas_item (vs.toArray.zip vs.toArray)) ∧ failedOf st' = none ∧ Ix vs.length p ∧ SortedTo' lt p vs.length ∧ s' = { s with heap := ((s.heap.update a (Obj.mapSeq fun _ => #[])).push (seqObj "tuple" vs.toArray 0)).push (seqObj "list" #[] 0) })
      rfl h2' h64 (fun p' st' s' a1 a2 a3 a4 => ⟨p', a2, a3, a4⟩) run) ?_ fun _ _ e => e)
    rintro ⟨⟨⟩, st'⟩ s' ⟨p, har, hf, hix, hso, rfl⟩
    dsimp only
    have hout := kat_snds rfl har
    rw [hout]
    have hsz : (List.toArray (p.toList.map fun i => vs.getD i Value.none)).size = vs.length := by rw [List.size_toArray, List.length_map, Array.length_toList, hix.size]
    refine wpAny_bind (seqEpoch_at ho6 rfl ?_)
    refine wpAny_bind (listUpdate_at ho6 rfl ?_ (Nat.zero_le _) (Nat.le_trans (Nat.le_of_eq hsz) (by rw [sizeLine_eq]; omega)))
    rw [hf]
    simp only [bne_self_eq_false, Bool.false_eq_true, if_false]
    exact wpAny_pure (h p hix hso)

/-- sorted, by what the gathering gives -/
theorem sortedC {v : Value} {lt : Nat → Nat → Bool} {Q : Value → Shared → Prop} (Cnd : List Value → Shared → Prop) (O : Ord lt)
    (hcol : ∀ Q' : List Value → Shared → Prop, (∀ vs s1, Cnd vs s1 → Q' vs s1) → wpAny (model prog w) A.in1 (collect v) Q' E s)
    (h64 : ∀ vs s1, Cnd vs s1 → vs.length < 64)
    (hk : ∀ vs s1, Cnd vs s1 → 2 ≤ vs.length → ∀ s' : Shared, (∀ b o, s1.heap.get? b = some o → s'.heap.get? b = some o) → ∃ κ, (∀ Q E, Q κ s' → wpAny (model prog w) A.in1.in1 (keyKind' vs.toArray) Q E s') ∧ ∀ i j C, i < vs.length → j < vs.length → C (lt i j) s' → kas_ask prog w A.in1.in1 κ vs i j C s')
    (h : ∀ vs s1, Cnd vs s1 → ∀ (p : Array Nat) h' e, Ix vs.length p → SortedTo' lt p vs.length → (∀ b o, s1.heap.get? b = some o → h'.get? b = some o) → h'.get? s1.heap.objs.size = some (seqObj "list" (List.toArray (p.toList.map fun i => vs.getD i Value.none)) e) →
      Q (.ref s1.heap.objs.size) { s1 with heap := h' }) :
    wpAny (model prog w) A (call (.builtin "sorted") [v]) Q E s := by
  refine Calls.call_function_entry kind_sorted plain_sorted entry_sorted (args_sorted1 _) ?_
  unfold Builtin.«sorted»
  refine wpAny_bind (m := checkCount "sorted" 1 1 _) (wpAny_pure ?_)
  refine wpAny_bind (hcol _ fun vs s1 hc => ?_)
  have h64 := h64 vs s1 hc
  refine wpAny_bind (wpAny_newList ?_ (by rw [sizeLine_eq]; omega))
  have hoL : (s1.heap.push (seqObj "list" vs.toArray 0)).get? s1.heap.objs.size = some (seqObj "list" vs.toArray 0) := Heap.get?_push_size _ rfl
  have old : ∀ b o, s1.heap.get? b = some o → b ≠ s1.heap.objs.size := fun b o e => Nat.ne_of_lt (Heap.lt_size e)
  refine wpAny_bind (wpAny_holding (wpAny_call_entry slot_list_sort ⟨_, hoL, rfl⟩ entry_list_sort ?body (args_list_sort _)))
  case body =>
    refine list_sortG (s := { s1 with heap := s1.heap.push (seqObj "list" vs.toArray 0) }) hoL h64 O (fun h2 s' hk' => ?_) ?_
    · exact hk vs s1 hc h2 s' fun b o e => hk' b o (old b o e) (Heap.get?_push_of_some _ e)
    · intro p hix hso
      obtain ⟨e, he⟩ := sortedHeap_at (h := s1.heap.push (seqObj "list" vs.toArray 0)) (out := List.toArray (p.toList.map fun i => vs.getD i Value.none)) hoL
      refine ⟨_, rfl, wpAny_pure ⟨_, rfl, ?_⟩⟩
      refine h vs s1 hc p _ e hix hso (fun b o eb => ?_) he
      rw [sortedHeap_old (old b o eb) (by rw [size_push']; exact Nat.lt_succ_of_lt (Heap.lt_size eb))]
      exact Heap.get?_push_of_some _ eb
end

end Fl

/-! sorted, in the machine (own work) -/
namespace Fl
open PySem PyProof.Rows PySem.W
set_option linter.unusedSimpArgs false

section
variable {B : Bs} {C : CallSem} {Ar : Around} {env : Env} {F : Value → Shared → Prop}

theorem lex_ok {A : Around} {Z : Zm} {Q : Bool → Shared → Prop} {s : Shared} : ∀ {as bs : List V} {is js : List Value} {i : Nat} {fin : Bool}, as.all isInt = true → bs.all isInt = true → RepL B Z as is → RepL B Z bs js → fin = decide (as.length < bs.length) →
    Q (ltL (as.map intOf) (bs.map intOf)) s → KatLex B.prog B.w A true fin Q (is.zip js) i s
  | [], bs, is, js, i, fin, _, _, h1, h2, hf, hq => by
    simp only [RepL_0, RepL_1] at h1; subst h1
    simp only [List.zip_nil_left]
    refine kat_nil ?_
    subst hf
    cases bs with
    | nil => simpa [ltL_0, ltL_1, ltL_2, ltL_3] using hq
    | cons b bs => simpa [ltL_0, ltL_1, ltL_2, ltL_3] using hq
  | a :: as, [], is, js, i, fin, _, _, h1, h2, hf, hq => by
    simp only [RepL_0, RepL_1] at h2; subst h2
    simp only [List.zip_nil_right]
    refine kat_nil ?_
    subst hf
    simpa [ltL_0, ltL_1, ltL_2, ltL_3] using hq
  | a :: as, b :: bs, is, js, i, fin, ha, hb, h1, h2, hf, hq => by
    simp only [RepL_0, RepL_1] at h1 h2
    obtain ⟨v, r, rfl, v1, v2⟩ := h1
    obtain ⟨w, r', rfl, w1, w2⟩ := h2
    simp only [List.all_cons, Bool.and_eq_true] at ha hb
    rw [isInt_of ha.1] at v1
    rw [isInt_of hb.1] at w1
    obtain ⟨t, rfl⟩ := v1
    obtain ⟨u, rfl⟩ := w1
    simp only [List.zip_cons_cons]
    refine kat_cons (wpAny_eqBool_int ?_)
    simp only [List.map_cons, ltL_0, ltL_1, ltL_2, ltL_3] at hq
    by_cases hab : intOf a = intOf b
    · have : (intOf a == intOf b) = true := by simpa using hab
      rw [this]
      refine kat_yes (lex_ok ha.2 hb.2 v2 w2 (by rw [hf]; simp) ?_)
      have hlt : ¬ intOf a < intOf b := by omega
      simpa [hab] using hq
    · have : (intOf a == intOf b) = false := by simpa using hab
      rw [this]
      refine kat_no ?_
      have hq' : Q (decide (intOf a < intOf b)) s := by simpa [hab] using hq
      by_cases hi : i = 0
      · subst hi; exact oneLt_int hq'
      · have : (true && i == 0) = false := by simpa using hi
        rw [this]
        exact kat_one _ _ (lt_int hq')

theorem ask_ok {A : Around} {Z : Zm} {xs : List V} {items : List Value} {s : Shared} (hs : sortable xs = true) (hr : RepL B Z xs items) (hz : ∀ a o, Z a = some o → s.heap.get? a = some o) (h2 : 2 ≤ items.length) :
    ∃ κ, (∀ Q E, Q κ s → wpAny (model B.prog B.w) A (keyKind' items.toArray) Q E s) ∧ ∀ i j C, i < items.length → j < items.length → C (vlt (xs.getD i .none) (xs.getD j .none)) s → kas_ask B.prog B.w A κ items i j C s := by
  have hlen := repL_len hr
  have getx : ∀ i, i < items.length → ∃ x v, xs[i]? = some x ∧ items[i]? = some v ∧ RepV B Z x v ∧ xs.getD i .none = x ∧ items.getD i .none = v := by
    intro i hi
    have hi' : i < xs.length := by omega
    obtain ⟨v, hv, hrv⟩ := repL_get hr (List.getElem?_eq_getElem hi')
    exact ⟨_, v, List.getElem?_eq_getElem hi', hv, hrv, by simp [List.getD, hi'], by simp [List.getD, hv]⟩
  simp only [sortable, Bool.or_eq_true] at hs
  rcases hs with hs | hs
  · refine ⟨oneType', fun Q E hq => ?_, fun i j Cc hi hj hc => ?_⟩
    · have hI : IntsAre items (xs.map intOf) := by
        clear h2 getx hlen
        induction xs generalizing items with
        | nil => simp only [RepL_0, RepL_1] at hr; subst hr; exact .nil
        | cons x xs ih =>
          simp only [RepL_0, RepL_1] at hr
          obtain ⟨v, r, rfl, v1, v2⟩ := hr
          simp only [List.all_cons, Bool.and_eq_true] at hs
          rw [isInt_of hs.1] at v1
          obtain ⟨t, rfl⟩ := v1
          exact .cons _ _ (ih v2 hs.2)
      match items, h2, hI with
      | v₁ :: v₂ :: rest, _, hI => rw [keyKind_ints hI]; exact wpAny_pure hq
    · obtain ⟨x, v, hx, hv, hrv, e1, e2⟩ := getx i hi
      obtain ⟨y, w, hy, hw, hrw, e3, e4⟩ := getx j hj
      unfold kas_ask
      rw [e2, e4]
      rw [e1, e3] at hc
      have ix := isInt_of (List.all_eq_true.mp hs x (List.mem_of_getElem? hx))
      have iy := isInt_of (List.all_eq_true.mp hs y (List.mem_of_getElem? hy))
      rw [ix] at hrv hc
      rw [iy] at hrw hc
      obtain ⟨t, rfl⟩ := hrv
      obtain ⟨u, rfl⟩ := hrw
      rw [vlt_int] at hc
      exact kat_lt_int hc
  · have tups : ∃ fs : List Value, KatTups s.heap items fs ∧ fs.length = items.length ∧ ∀ v ∈ fs, ∃ i t, v = .int i t := by
      clear h2 getx hlen
      induction xs generalizing items with
      | nil => simp only [RepL_0, RepL_1] at hr; subst hr; exact ⟨[], .nil, rfl, fun _ h => by cases h⟩
      | cons x xs ih =>
        simp only [RepL_0, RepL_1] at hr
        obtain ⟨v, r, rfl, v1, v2⟩ := hr
        simp only [List.all_cons, Bool.and_eq_true] at hs
        obtain ⟨fs, f1, f2, f3⟩ := ih v2 hs.2
        obtain ⟨e1, i1⟩ := isIntTup_of hs.1.1
        have hne := hs.1.2
        rw [e1] at v1
        cases hq : tupOf x with
        | nil => rw [hq] at hne; simp at hne
        | cons y ys =>
          rw [hq] at v1 i1
          simp only [List.all_cons, Bool.and_eq_true] at i1
          obtain ⟨a, its, n, rfl, hza, _, w, r', rfl, w1, w2⟩ := v1
          rw [isInt_of i1.1] at w1
          obtain ⟨t, rfl⟩ := w1
          refine ⟨_ :: fs, KatTups.cons (f := .int (intOf y) t) (hz _ _ hza) rfl rfl (by simp) f1, by simp [f2], fun v hv => ?_⟩
          rcases List.mem_cons.mp hv with rfl | hv
          · exact ⟨_, _, rfl⟩
          · exact f3 v hv
    obtain ⟨fs, f1, f2, f3⟩ := tups
    refine ⟨tuples' (Value.type "int" != Value.type "tuple"), fun Q E hq => kat_kind f1 (by omega) (fun v hv => ?_) rfl hq, fun i j Cc hi hj hc => ?_⟩
    · obtain ⟨i, t, rfl⟩ := f3 v hv
      exact Looks.of_pure rfl
    · obtain ⟨x, v, hx, hv, hrv, e1, e2⟩ := getx i hi
      obtain ⟨y, w, hy, hw, hrw, e3, e4⟩ := getx j hj
      unfold kas_ask
      rw [e2, e4]
      rw [e1, e3] at hc
      have hxs := List.all_eq_true.mp hs x (List.mem_of_getElem? hx)
      have hys := List.all_eq_true.mp hs y (List.mem_of_getElem? hy)
      simp only [Bool.and_eq_true] at hxs hys
      obtain ⟨q1, i1⟩ := isIntTup_of hxs.1
      obtain ⟨q2, i2⟩ := isIntTup_of hys.1
      rw [q1] at hrv hc
      rw [q2] at hrw hc
      obtain ⟨a, its, n, rfl, hza, _, hr1⟩ := hrv
      obtain ⟨b, jts, k, rfl, hzb, _, hr2⟩ := hrw
      refine kat_lt (b := true) (hz _ _ hza) rfl (hz _ _ hzb) rfl (lex_ok (as := tupOf x) (bs := tupOf y) i1 i2 (by simpa using hr1) (by simpa using hr2) ?_ hc)
      rw [← repL_len hr1, ← repL_len hr2]
      simp

theorem pickRep {Z : Zm} {xs : List V} {items : List Value} (hr : RepL B Z xs items) : ∀ (l : List Nat), (∀ i ∈ l, i < xs.length) → RepL B Z (l.map fun i => xs.getD i .none) (l.map fun i => items.getD i Value.none)
  | [], _ => repL_nil
  | i :: l, h => by
    have hi := h i List.mem_cons_self
    obtain ⟨v, hv, hrv⟩ := repL_get hr (List.getElem?_eq_getElem hi)
    simp only [List.map_cons]
    refine repL_cons ?_ (pickRep hr l fun j hj => h j (List.mem_cons_of_mem _ hj))
    simpa [List.getD, hi, hv] using hrv

/-- what the tree gives is the sorted list -/
theorem sort_is {xs : List V} (hs : sortable xs = true) {p : Array Nat} (hix : Ix xs.length p) (hso : SortedTo' (fun i j => vlt (xs.getD i .none) (xs.getD j .none)) p xs.length) : (p.toList.map fun i => xs.getD i .none) = vsort xs := by
  have O : Ord (fun i j => vlt (xs.getD i .none) (xs.getD j .none)) := ⟨fun a => ltL_irr _, fun a b h => ltL_asy _ _ h, fun a b c h1 h2 => ltL_tr _ _ _ h1 h2⟩
  refine vsort_uniq hs ?_ ?_
  · have h1 : p.toList.Perm (List.range xs.length) := by simpa using Array.perm_iff_toList_perm.mp hix
    have h2 := h1.map fun i => xs.getD i V.none
    have h3 : ((List.range xs.length).map fun i => xs.getD i V.none) = xs := by
      apply List.ext_getElem
      · simp
      · intro i h1 h2; simp [List.getD, h2]
    rw [h3] at h2
    exact h2
  · rw [List.pairwise_map, List.pairwise_iff_getElem]
    intro i j hi hj hij
    have hsz := hix.size
    simp only [Array.length_toList] at hi hj
    have := sorted_le' O hso (i := i) (j := j) (by omega) (by omega)
    rw [G_eq (by omega), G_eq (by omega)] at this
    simp only [vle, Bool.not_eq_true', Array.getElem_toList]
    exact this

theorem Inv.keepsNew2 {Z : Zm} {N : Led} {ρ : List Addr} {σ : H} {h h' : Heap} {a : Addr} {o : Obj} (I : Inv B Z N ρ σ h) (hk : ∀ b o, h.get? b = some o → h'.get? b = some o) (ha : ∀ o, h.get? a = some o → False) (ho : h'.get? a = some o) : Inv B Z ((a, o) :: N) ρ σ h' where
  base := I.base
  zin := fun a o e => hk _ _ (I.zin a o e)
  led := fun p hp => by
    rcases List.mem_cons.mp hp with rfl | hp
    · refine ⟨.of ho, ?_⟩
      cases hz : Z a with
      | none => rfl
      | some o' => exact (ha _ (I.zin _ _ hz)).elim
    · exact ⟨(I.led p hp).1.keeps fun _ e => hk _ _ e, (I.led p hp).2⟩
  len := I.len
  live := fun i a ob e1 e2 e3 => let ⟨h1, o, h2, h3⟩ := I.live i a ob e1 e2 e3; ⟨h1, o, hk _ _ h2, h3⟩
  rin := fun a ha => let ⟨o, e⟩ := I.rin a ha; ⟨o, hk _ _ e⟩
  nd := by
    rw [List.map_cons, List.cons_append, List.nodup_cons]
    refine ⟨fun hm => ?_, I.nd⟩
    rcases List.mem_append.mp hm with hm | hm
    · obtain ⟨p, hp, e⟩ := List.mem_map.mp hm
      obtain ⟨sl, e2⟩ := (I.led p hp).1.1
      rw [e] at e2; exact ha _ e2
    · obtain ⟨o', e⟩ := I.rin _ hm; exact ha _ e

theorem lok_sorted {e : E} {ex : Expr} {p pos : Pos} (O : BOk B) (hh : Ar.handled = none) (hu : unstar ex = true) (he : EOk B C Ar env e ex) (hk : env.kindOf (Str.ofString "sorted") = some .globalImplicit) :
    LOk B C Ar env (.sorted e) (.Call (.Name (Str.ofString "sorted") p) [ex] [] pos) := by
  intro Z N ρ σ m s K X Q F I Fr hX hx P
  rw [y4] at hx
  refine bcall (irs := [e]) (O.at "sorted" (.builtin "sorted") rfl) hk (by decide +kernel) (.inl ⟨_, rfl⟩) (.cons he hu .nil) I Fr hX (K := fun as σ => get (one1 as) fun va => get (listV σ va) fun xs => sortable xs = true ∧ xs.length < 64 ∧ (small (vsort xs) ∧ K (vsort xs) σ)) (show xEs C [e] m σ _ X from hx) ?_
  intro as vs Z1 ρ1 σ1 h1 t1 hl hx1 e1 p1 I1 R1
  obtain ⟨va, rfl⟩ := List.length_eq_one_iff.mp hl
  obtain ⟨v, rfl, Rv⟩ := reps1 R1
  have hx1 : get (listV σ1 va) fun xs => sortable xs = true ∧ xs.length < 64 ∧ (small (vsort xs) ∧ K (vsort xs) σ1) := hx1
  obtain ⟨xs, hsq, hso, h64, hsm, hK⟩ := get_of hx1
  have Od : Ord (fun i j => vlt (xs.getD i .none) (xs.getD j .none)) := ⟨fun a => ltL_irr _, fun a b h => ltL_asy _ _ h, fun a b c h1 h2 => ltL_tr _ _ _ h1 h2⟩
  have gen : (∀ Q' : List Value → Shared → Prop, (∀ items h2 tk, RepL B Z1 xs items → (∀ b o, h1.get? b = some o → h2.get? b = some o) → Q' items { s with heap := h2, toks := tk }) → wpAny (model B.prog B.w) Ar.in1 (collect v) Q' F { s with heap := h1, toks := t1 }) → wpAny (model B.prog B.w) Ar (call (.builtin "sorted") [v]) Q F { s with heap := h1, toks := t1 } := by
    intro hcol
    refine sortedC (s := { s with heap := h1, toks := t1 }) (fun items s1 => ∃ h2 tk, RepL B Z1 xs items ∧ (∀ b o, h1.get? b = some o → h2.get? b = some o) ∧ s1 = { s with heap := h2, toks := tk }) Od (fun Q' hq => hcol Q' fun items h2 tk a b => hq _ _ ⟨h2, tk, a, b, rfl⟩) ?_ ?_ ?_
    · rintro items s1 ⟨h2, tk, hr, _, rfl⟩
      have := repL_len hr; omega
    · rintro items s1 ⟨h2, tk, hr, keep1, rfl⟩ hl2 s' hk'
      exact ask_ok hso hr (fun a o hz => hk' _ _ (keep1 _ _ (I1.zin _ _ hz))) hl2
    · rintro items s1 ⟨h2, tk, hr, keep1, rfl⟩ pp h' e' hix hsrt hkeep hgD
      have hlen := repL_len hr
      rw [hlen] at hix hsrt
      have I2 := I1.keepsNew2 (a := h2.objs.size) (o := listObj (pp.toList.map fun i => items.getD i Value.none) e') (fun b o eb => hkeep _ _ (keep1 _ _ eb)) (fun o eo => absurd (Heap.lt_size (keep1 _ _ eo)) (Nat.lt_irrefl _)) hgD
      refine P (vsort xs) _ _ _ Z1 ρ1 σ1 h' tk hsm hK e1 p1 I2 ?_
      rw [← sort_is hso hix hsrt]
      refine pickRep hr _ fun i hi => ?_
      have hm : i ∈ pp := by simpa using hi
      have := (Array.Perm.mem_iff hix).mp hm
      simpa using this
  obtain ⟨l, items, n, rfl, hg, _, hr⟩ := list_at I1 Rv hsq
  have hlen := repL_len hr
  have keep1 : ∀ b o, h1.get? b = some o → ((h1.push (seqObj "list" #[] 0)).update h1.objs.size (Obj.mapSeq (· ++ items.toArray))).get? b = some o := by
    intro b o eb
    rw [Heap.get?_update_ne _ _ _ _ (Nat.ne_of_lt (Heap.lt_size eb))]
    exact Heap.get?_push_of_some _ eb
  refine gen fun Q' hq => collect_list (isList_of hg) (hq items _ t1 hr keep1) (by rw [sizeLine_eq]; omega)
end
end Fl

/-! dicts and while (own work) -/
namespace Fl
open PySem PyProof.Rows PySem.W
set_option linter.unusedSimpArgs false

section
variable {B : Bs} {C : CallSem} {Ar : Around} {env : Env} {F : Value → Shared → Prop}

theorem eok_dict0 {pos : Pos} : EOk B C Ar env .dict0 (.Dict [] [] pos) := by
  intro Z N ρ σ m s K X Q F I Fr hX hx P
  refine wpAny_Dict_empty ?_
  have I1 := I.push (dictObj [] 0) rfl
  refine P _ _ _ (ρ ++ [s.heap.objs.size]) _ _ s.toks hx (Ext.refl _) (List.prefix_append _ _) (I1.newRefX (ob := .keys []) ⟨[], 0, rfl, List.nodup_nil, fun _ h => (nomatch h), by decide⟩ (Heap.get?_push_size _ rfl)) ?_
  exact ⟨_, by rw [← I.len]; simp, rfl⟩

theorem sok_setI {a i e : E} {o ix ex : Expr} {tpos pos : Pos} (he : EOk B C Ar env e ex) (ha : EOk B C Ar env a o) (hi : EOk B C Ar env i ix) (hs : swapsWith ex (some (.Subscript o ix tpos)) pos.line env = pure false) (hu : Ar.units + 80 < cLine) :
    SOk B C Ar env (.setI a i e) (.Assign [.Subscript o ix tpos] ex pos) := by
  intro Z Nf N ρ σ m s K X Q F I Fr O hX hx P PX
  rw [xS_setI] at hx
  refine wpAny_Assign_Subscript (he Z (Nf ++ N) ρ σ m s _ _ _ F I Fr (hX.safe Fr) hx ?_) hs
  intro ay vy Z1 ρ1 σ1 h1 t1 hx1 e1 p1 I1 R1
  refine ha Z1 (Nf ++ N) ρ1 σ1 m _ _ _ _ F I1 (Fr.mono e1 p1) (hX.safe Fr) hx1 ?_
  intro ao vo Z2 ρ2 σ2 h2 t2 hx2 e2 p2 I2 R2
  refine hi Z2 (Nf ++ N) ρ2 σ2 m _ _ _ _ F I2 ((Fr.mono e1 p1).mono e2 p2) (hX.safe Fr) hx2 ?_
  intro ai vi Z3 ρ3 σ3 h3 t3 hx3 e3 p3 I3 R3
  obtain ⟨y, hy, rfl, hx3⟩ := get_of hx3
  obtain ⟨r, hr, hx3⟩ := get_of hx3
  obtain ⟨k, hk, hx3⟩ := get_of hx3
  obtain ⟨ks, hq, hsz, hK⟩ := get_of hx3
  obtain ⟨ob, hq, hof⟩ := bindO_of hq
  rw [oK_of hof] at hq
  obtain ⟨kv, hkv, hk⟩ := bindO_of hk
  rw [asB_of hy] at R1
  rw [asR_of hr] at R2
  rw [asV_of hkv, vP_of hk] at R3
  obtain rfl := R1
  obtain ⟨l, el, rfl⟩ := R2
  obtain ⟨a, its, n, rfl, hza, _, v1, r1, rfl, ⟨t, rfl⟩, v2, r2, rfl, ⟨u, rfl⟩, hr2⟩ := R3
  obtain rfl : r2 = [] := hr2
  have el := pre_get p3 el
  obtain ⟨_, ob, hg, xs, ep, q1, q2, q3, q4⟩ := I3.live r l _ el hq (fun e => nomatch e)
  have hd := dictH (B := B) I3.zin hg q2 q3
  have hxl : xs.length = ks.length := by have := congrArg List.length q1; simpa using this
  refine wpAny_setItem_heap (knd := tupleKind (intKind B.prog B.w)) (k := [k.1, k.2]) (tupleKind_room_in1 (by omega)) (pair_key (I3.zin _ _ hza)) hd (fun h' hd' hs' => ?_) (by rw [sizeLine_eq]; omega)
  obtain ⟨o', es, ep', ho', hex, hdat, hes, _, hnd⟩ := hd'
  have hrep : KeysRep B Z3 (kadd ks k) o' := by
    rw [exactDict_eq hex hdat, hes]
    refine ⟨_, ep', ?_, hnd, ?_, ?_⟩
    · cases hc : atKey xs [k.1, k.2] with
      | none =>
        have hn : k ∉ ks := fun hm => by
          have := atKey_in [k.1, k.2] xs
          rw [hc, q1, decide_eq_true (show [k.1, k.2] ∈ ks.map kL from kL_mem.mpr hm)] at this
          exact Bool.noConfusion this
        rw [storedH_new hc, kadd, if_neg hn, List.map_append, List.map_append, q1]; rfl
      | some p =>
        have hn : k ∈ ks := by
          have := atKey_in [k.1, k.2] xs
          rw [hc, q1] at this
          exact kL_mem.mp (of_decide_eq_true this.symm)
        rw [storedH_old hc, kadd, if_pos hn, keys_map_putAt, q1]
    · intro x hx
      cases hc : atKey xs [k.1, k.2] with
      | none =>
        rw [storedH_new hc] at hx
        rcases List.mem_append.mp hx with hx | hx
        · exact q3 x hx
        · rw [List.mem_singleton.mp hx]; exact ⟨_, _, t, u, n, rfl, hza⟩
      | some p =>
        rw [storedH_old hc] at hx
        obtain ⟨z, hz, rfl⟩ := List.mem_map.mp hx
        unfold putAt
        split
        · exact q3 z hz
        · exact q3 z hz
    · have : (kadd ks k).length ≤ ks.length + 1 := by
        unfold kadd
        split
        · omega
        · rw [List.length_append]; exact Nat.le_refl _
      omega
  exact P _ _ _ Z3 Nf ρ3 _ h' _ hK .next ((e1.trans e2).trans e3) ((p1.trans p2).trans p3) rfl (I3.updRef el hq (fun e => nomatch e) hs' ho' hrep) (((Fr.mono e1 p1).mono e2 p2).mono e3 p3)

/-- where a while-loop stands -/
inductive WhlSt (B : Bs) (env : Env) (Z : Zm) (Nf N : Led) (ρ : List Addr) (s : Shared) (L : Nat → Loc → H → Prop) (n : Nat) (s' : Shared) : Prop
  | mk (m' : Loc) (Z' : Zm) (Nf' : Led) (ρ' : List Addr) (σ' : H) (h' : Heap) (tk : Nat) (h3 : s' = { s with heap := h', toks := tk }) (h4 : Ext Z Z') (h5 : ρ <+: ρ') (h6 : Nf'.map (·.1) = Nf.map (·.1))
      (h8 : Inv B Z' (Nf' ++ N) ρ' σ' h') (h9 : Frm B env Z' ρ' m' (Nf' ++ N)) (h11 : L n m' σ')
theorem sok_whl {c : E} {ex : Expr} {body : List S} {bs : List Stmt} {pos : Pos} (hc : TOk B C Ar env c ex) (hb : SsOk B C Ar env body bs) : SOk B C Ar env (.whl c body) (.While ex bs [] pos) := by
  intro Z Nf N ρ σ m s K X Q F I Fr O hX hx P PX
  rw [yn] at hx
  obtain ⟨n, hx⟩ := hx
  refine wpAny_While (codeAny_whileLoop (WhlSt B env Z Nf N ρ s fun n m' σ' => whileN (fun m σ K => xT C c m σ K NX) (fun m σ K => xSs C body m σ K X) K n m' σ') ?_ n
      ⟨m, Z, Nf, ρ, σ, s.heap, s.toks, rfl, Ext.refl _, List.prefix_refl _, rfl, I, Fr, hx⟩)
  rintro n s' ⟨m', Z', Nf', ρ', σ', h', tk, rfl, e1, p1, hn, I', Fr', hx'⟩
  cases n with
  | zero => exact (show False from hx').elim
  | succ n =>
    rw [whileN_1] at hx'
    refine hc Z' (Nf' ++ N) ρ' σ' m' _ _ _ _ _ I' Fr' (hX.safe Fr') hx' ?_
    intro b Z2 ρ2 σ2 h2 t2 hx2 e2 p2 I2
    cases b with
    | false =>
      rw [if_neg (fun e => nomatch e)] at hx2
      exact wpAny_execs_nil (P _ _ _ Z2 Nf' ρ2 σ2 h2 t2 hx2 .next (e1.trans e2) (p1.trans p2) hn I2 (Fr'.mono e2 p2))
    | true =>
      rw [if_pos rfl] at hx2
      refine hb Z2 Nf' N ρ2 σ2 m' _ _ X _ _ I2 (Fr'.mono e2 p2) (O.of hn) hX hx2 ?_ ?_
      rotate_left
      · intro c5 C5 e5' m5 Z5 Nf5 ρ5 σ5 h5 t5 hx5 hc5 e5 p5 hn5 I5 F5 x5
        obtain ⟨outer, f1, f2, f3⟩ := hX.all F5
        refine looped_ok (B := B) (σ := σ5) (Z := Z5) (N := Nf5 ++ N) (ρ := ρ5) f1 f3 f2 I5 x5 fun h6 I6 x6 => ?_
        exact PX c5 C5 e5' m5 Z5 Nf5 ρ5 σ5 h6 t5 hx5 hc5 ((e1.trans e2).trans e5) ((p1.trans p2).trans p5) (hn5.trans hn) I6 F5 x6
      intro fw fl m5 Z5 Nf5 ρ5 σ5 h5 t5 hx5 hf5 e5 p5 hn5 I5 F5
      have again : whileN (fun m σ K => xT C c m σ K NX) (fun m σ K => xSs C body m σ K X) K n m5 σ5 → ∃ k, k < n + 1 ∧ WhlSt B env Z Nf N ρ s (fun n m' σ' => whileN (fun m σ K => xT C c m σ K NX) (fun m σ K => xSs C body m σ K X) K n m' σ') k { s with heap := h5, toks := t5 } := fun hx5 =>
        ⟨n, Nat.lt_succ_self _, m5, Z5, Nf5, ρ5, σ5, h5, t5, rfl, (e1.trans e2).trans e5, (p1.trans p2).trans p5, hn5.trans hn, I5, F5, hx5⟩
      cases hf5 with
      | next => exact again hx5
      | cont => exact again hx5
      | brk => exact P _ _ _ Z5 Nf5 ρ5 σ5 h5 t5 hx5 .next ((e1.trans e2).trans e5) ((p1.trans p2).trans p5) (hn5.trans hn) I5 F5
      | ret r => exact P _ _ _ Z5 Nf5 ρ5 σ5 h5 t5 hx5 (.ret r) ((e1.trans e2).trans e5) ((p1.trans p2).trans p5) (hn5.trans hn) I5 F5
end
end Fl

/-! for x, y in enumerate(list) (own work) -/
namespace Fl
open PySem PyProof.Rows
set_option linter.unusedSimpArgs false

theorem Inv.upd2 {B : Bs} {Z : Zm} {N : Led} {ρ : List Addr} {σ : H} {h h' : Heap} {a b : Addr} {o o' p p' : Obj} (I : Inv B Z ((a, o) :: (b, p) :: N) ρ σ h) (hk : ∀ c q, c ≠ a → c ≠ b → h.get? c = some q → h'.get? c = some q) (ha : h'.get? a = some o') (hb : h'.get? b = some p') : Inv B Z ((a, o') :: (b, p') :: N) ρ σ h' := by
  have nd := I.nd
  simp only [List.map_cons, List.cons_append, List.nodup_cons, List.mem_cons, not_or] at nd
  obtain ⟨⟨n1, n2⟩, n3, n4⟩ := nd
  have za := (I.led (a, o) List.mem_cons_self).2
  have zb := (I.led (b, p) (List.mem_cons_of_mem _ List.mem_cons_self)).2
  have kz : ∀ c q, Z c = some q → h'.get? c = some q := fun c q e => hk c q (by rintro rfl; simp only at za; rw [za] at e; cases e) (by rintro rfl; simp only at zb; rw [zb] at e; cases e) (I.zin c q e)
  have kn : ∀ c, c ∈ N.map (·.1) ++ ρ → ∀ q, h.get? c = some q → h'.get? c = some q := fun c hc q e => hk c q (fun e' => n2 (e' ▸ hc)) (fun e' => n3 (e' ▸ hc)) e
  refine ⟨I.base, kz, fun r hr => ?_, I.len, fun j c ob e1 e2 e3 => ?_, fun c hc => ?_, I.nd⟩
  · rcases List.mem_cons.mp hr with rfl | hr'
    · exact ⟨.of ha, za⟩
    · rcases List.mem_cons.mp hr' with rfl | hr''
      · exact ⟨.of hb, zb⟩
      · have := I.led r (List.mem_cons_of_mem _ (List.mem_cons_of_mem _ hr''))
        exact ⟨this.1.keeps fun q e => kn _ (List.mem_append_left _ (List.mem_map.mpr ⟨r, hr'', rfl⟩)) _ e, this.2⟩
  · obtain ⟨h1, q, h2, h3⟩ := I.live j c ob e1 e2 e3
    exact ⟨h1, q, kn _ (List.mem_append_right _ (List.mem_of_getElem? e1)) _ h2, h3⟩
  · obtain ⟨q, e⟩ := I.rin c hc
    exact ⟨q, kn _ (List.mem_append_right _ hc) _ e⟩

theorem Inv.addLed {B : Bs} {Z : Zm} {N : Led} {ρ : List Addr} {σ : H} {h : Heap} {a : Addr} {o : Obj} (I : Inv B Z N ρ σ h) (ha : h.get? a = some o) (hz : Z a = none) (hn : a ∉ N.map (·.1) ++ ρ) : Inv B Z ((a, o) :: N) ρ σ h := by
  refine ⟨I.base, I.zin, fun r hr => ?_, I.len, I.live, I.rin, ?_⟩
  · rcases List.mem_cons.mp hr with rfl | hr'
    · exact ⟨.of ha, hz⟩
    · exact I.led r hr'
  · rw [List.map_cons, List.cons_append, List.nodup_cons]; exact ⟨hn, I.nd⟩

noncomputable def enO (it : Addr) (i : Int) (old : Value) : Obj := { cls := .type "enumerate", dict := none, data := .fields #[.none, .bool false, .ref it, rawInt i, .none, old], slots := #[] }

section
variable {B : Bs} {C : CallSem} {Ar : Around} {env : Env} {F : Value → Shared → Prop}

/-- where a loop over enumerate(list) stands -/
inductive EnSt (B : Bs) (env : Env) (a : A) (its : List A) (l : Addr) (Z1 : Zm) (Nf N : Led) (ρ1 : List Addr) (ee it : Addr) (s : Shared) (L : List (A × Nat) → Loc → H → Prop) (n : Nat) (s' : Shared) : Prop
  | mk (i : Nat) (m' : Loc) (Z' : Zm) (Nf' : Led) (ρ' : List Addr) (σ' : H) (h' : Heap) (tk : Nat) (old : Value) (oi : Obj) (h1 : n = its.length + 1 - i) (h2 : i ≤ its.length) (h3 : s' = { s with heap := h', toks := tk }) (h4 : Ext Z1 Z') (h5 : ρ1 <+: ρ') (h6 : Nf'.map (·.1) = Nf.map (·.1))
      (h7 : oi.cls = .type "list_iterator" ∧ oi.data = .fields #[.ref l, .int (i : Nat) 0]) (h8 : Inv B Z' ((ee, enO it i old) :: (it, oi) :: (Nf' ++ N)) ρ' σ' h') (h9 : Frm B env Z' ρ' m' (Nf' ++ N)) (h10 : items σ' a = some its) (h11 : L (its.zipIdx.drop i) m' σ')

theorem isLst_of {σ : H} {a : A} (h : isLst σ a = true) : (∃ xs, a = .v (.list xs)) ∨ ∃ k, a = .ref k := by
  cases a with
  | v x => cases x <;> first | exact .inl ⟨_, rfl⟩ | exact nomatch h
  | ref k => exact .inr ⟨k, rfl⟩
  | inst _ _ => exact nomatch h

theorem sok_forEnum {x y : String} {e : E} {ex : Expr} {body : List S} {bs : List Stmt} {p px py pt pc pos : Pos} {x1} (O : BOk B) (hh : Ar.handled = none) (hkE : env.kindOf (Str.ofString "enumerate") = some .globalImplicit) (hkx : stK (env.kindOf (Str.ofString x)) = true) (hky : stK (env.kindOf (Str.ofString y)) = true)
    (hu : unstar ex = true) (he : EOk B C Ar env e ex) (hb : SsOk B C Ar env body bs) :
    SOk B C Ar env (.forEnum x y e body) (.For (.Tuple [.Name (Str.ofString x) px, .Name (Str.ofString y) py] x1 pt) (.Call (.Name (Str.ofString "enumerate") p) [ex] [] pc) bs [] pos) := by
  intro Z Nf N ρ σ m s K X Q F I Fr OF hX hx P PX
  rw [ym] at hx
  have hE : EsOk B C Ar env [e] [ex] := .cons he hu .nil
  refine wpAny_For (bcall (K := fun as σ => get (one1 as) fun a => isLst σ a = true ∧ get (items σ a) fun its =>
      forLoop (fun (p : A × Nat) m => some ((m.set x (.v (.int p.2))).set y p.1)) (fun m σ K => xSs C body m σ K X) (fun σ => Stay σ a its) its.zipIdx m σ K) (O.at "enumerate" (.type "enumerate") rfl) hkE (by decide +kernel) (.inr ⟨_, rfl⟩) hE I Fr (hX.safe Fr) (show xEs C [e] m σ _ _ from hx) ?_) (fun _ => rfl)
  intro as vs Z1 ρ1 σ1 h1 t1 hl hx1 e1 p1 I1 R1
  obtain ⟨a, rfl⟩ := List.length_eq_one_iff.mp hl
  obtain ⟨v, rfl, R⟩ := reps1 R1
  have hx1 : isLst σ1 a = true ∧ get (items σ1 a) fun its => forLoop (fun (p : A × Nat) m => some ((m.set x (.v (.int p.2))).set y p.1)) (fun m σ K => xSs C body m σ K X) (fun σ => Stay σ a its) its.zipIdx m σ1 K := hx1
  obtain ⟨hL, hx1⟩ := hx1
  obtain ⟨its, hi, hx1⟩ := get_of hx1
  have hc := isLst_of hL
  obtain ⟨l, rfl⟩ : ∃ l, v = .ref l := by
    rcases hc with ⟨xs, rfl⟩ | ⟨k, rfl⟩
    · obtain ⟨l, _, _, rfl, _⟩ := R; exact ⟨l, rfl⟩
    · obtain ⟨l, _, rfl⟩ := R; exact ⟨l, rfl⟩
  obtain ⟨vals, n, hg, hlt, hr⟩ := lst_at I1 R hc hi
  refine call_enumerate_list (isList_of hg) ?_
  intro h2 hen hli hsz hk2
  obtain ⟨oi, hoi, hoc, hod⟩ := hli
  refine wpAny_pyIter_enum hen ?_
  generalize hit : h1.objs.size = it at *
  have I2 := I1.keepsNew (a := it) (o := oi) (h' := h2) hk2 (by omega) hoi
  have zn : ∀ a, it ≤ a → Z1 a = none := by
    intro a ha
    cases hz : Z1 a with
    | none => rfl
    | some o => have hlt : a < h1.objs.size := I1.z_lt hz; omega
  have I3 : Inv B Z1 ((it + 1, enO it 0 .none) :: (it, oi) :: (Nf ++ N)) ρ1 σ1 h2 := by
    refine I2.addLed hen (zn _ (by omega)) ?_
    intro hm
    rcases List.mem_append.mp hm with hm | hm
    · obtain ⟨q, hq, e⟩ := List.mem_map.mp hm
      rcases List.mem_cons.mp hq with rfl | hq
      · exact absurd e (Nat.ne_of_lt (Nat.lt_succ_self it))
      · have hq1 : q.1 < h1.objs.size := I1.led_lt hq
        have e1 : q.1 = it + 1 := e
        rw [e1] at hq1
        exact absurd hq1 (by rw [hit]; exact Nat.not_lt.mpr (Nat.le_succ _))
    · have hq1 : it + 1 < h1.objs.size := I1.rlt _ hm
      omega
  refine codeAny_forLoop_any (EnSt B env a its l Z1 Nf N ρ1 (it + 1) it s fun L m' σ' => forLoop (fun (p : A × Nat) m => some ((m.set x (.v (.int p.2))).set y p.1)) (fun m σ K => xSs C body m σ K X) (fun σ => Stay σ a its) L m' σ' K) ?_ (its.length + 1)
    ⟨0, m, Z1, Nf, ρ1, σ1, h2, t1, .none, oi, rfl, Nat.zero_le _, rfl, Ext.refl _, List.prefix_refl _, rfl, ⟨hoc, hod⟩, I3, Fr.mono e1 p1, hi, hx1⟩
  rintro n s' ⟨i, m', Z', Nf', ρ', σ', h', tk, old, oi, rfl, hile, rfl, e2, p2, hn, ⟨hic, hid⟩, I', Fr', hi', hx'⟩
  obtain ⟨vals, nn, hg', hlt', hr'⟩ := lst_at I' (R.mono e2 p2) hc hi'
  have hen' : IsEnum h' (it + 1) it i old := (I'.led _ (List.mem_cons_self)).1.2 rfl
  have hit' : h'.get? it = some oi := (I'.led _ (List.mem_cons_of_mem _ List.mem_cons_self)).1.2 (isNs_fields hid)
  have hne : it + 1 ≠ it := by omega
  cases hy : its[i]? with
  | none =>
    have hnone : vals[i]? = none := by
      have := repAs_len hr'
      rw [List.getElem?_eq_none_iff] at hy ⊢
      omega
    refine wpAny_pyNext_enum_end hh hen' ⟨oi, hit', hic, hid⟩ (isList_of hg') (by simpa using hnone) fun h3 hx3 => ?_
    have hge : its.length ≤ i := by rwa [List.getElem?_eq_none_iff] at hy
    rw [List.drop_eq_nil_of_le (by simpa using hge)] at hx'
    simp only [forLoop_0, forLoop_1] at hx'
    have I4 : Inv B Z' (Nf' ++ N) ρ' σ' h3 := (I'.drop).dropExt hx3
    exact wpAny_execs_nil (P _ _ _ Z' Nf' ρ' σ' h3 tk hx' .next (e1.trans e2) (p1.trans p2) hn I4 Fr')
  | some z =>
    obtain ⟨w, hw, hrw⟩ := repAs_at hr' hy
    have hlt2 : i < its.length := (List.getElem?_eq_some_iff.mp hy).1
    refine wpAny_pyNext_enum_item (x := w) hen' ⟨oi, hit', hic, hid⟩ (isList_of hg') (by simpa using hw) hne fun h3 ho3 hit3 ht3 hz3 hk3 => ?_
    obtain ⟨oi3, hoi3, hic3, hid3⟩ := hit3
    have I3 := I'.upd2 (h' := h3) hk3 ho3 hoi3
    refine wpAny_letOwnedTupleGo_enum ho3 fun h4 he4 hs4 => ?_
    have I4 : Inv B Z' ((it + 1, enO it ((i : Int) + 1) w) :: (it, oi3) :: (Nf' ++ N)) ρ' σ' h4 := I3.updLed hs4 he4
    have hlt4 : it + 1 < h'.objs.size := Heap.lt_size hen'
    have ht4 : h4.IsTuple h'.objs.size #[.int i tk, w] := ⟨_, (hs4.2 _ (Nat.ne_of_gt hlt4)).trans ht3, rfl, _, rfl⟩
    refine wpAny_assign_Tuple hh ht4 rfl rfl fun h5 hx5 => ?_
    have I5 := I4.keeps (h' := h5) fun b o eb => hx5 b o (Nat.ne_of_lt (Heap.lt_size eb)) eb
    have hdrop : its.zipIdx.drop i = (z, i) :: its.zipIdx.drop (i + 1) := by
      have hlz : i < its.zipIdx.length := by simpa using hlt2
      rw [List.drop_eq_getElem_cons hlz]
      congr 1
      rw [List.getElem?_eq_getElem hlt2] at hy
      simpa using hy
    rw [hdrop] at hx'
    simp only [forLoop_0, forLoop_1, get] at hx'
    show wpAny _ Ar (do holding [w] (assign (.Name (Str.ofString x) px) env (.int i tk)); do holding [] (assign (.Name (Str.ofString y) py) env w); pure ()) _ _ _
    have hpm : ((it + 1, enO it ((i : Int) + 1) w) :: (it, oi3) :: (Nf' ++ N)).Perm (Nf' ++ ((it + 1, enO it ((i : Int) + 1) w) :: (it, oi3) :: N)) := by
      refine List.Perm.trans (List.Perm.cons _ List.perm_middle.symm) ?_
      exact List.perm_middle.symm
    refine wpAny_bind (wpAny_holding (wpAny_assign_Name (store_ok (Nf := Nf') (N := (it + 1, enO it ((i : Int) + 1) w) :: (it, oi3) :: N) (a := .v (.int i)) (I5.perm hpm.symm) (Fr'.mem (fun p hp => hpm.mem_iff.mp (List.mem_cons_of_mem _ (List.mem_cons_of_mem _ hp)))) ⟨tk, rfl⟩ hkx (OF.of hn).loc ((OF.of hn).cel _) ?_)))
    intro Nf6 h6 t6 hn6 I6 F6
    refine wpAny_bind (wpAny_holding (wpAny_assign_Name (store_ok I6 F6 hrw hky (OF.of (hn6.trans hn)).loc ((OF.of (hn6.trans hn)).cel _) ?_)))
    intro Nf7 h7 t7 hn7 I7 F7
    refine wpAny_pure ?_
    refine hb Z' Nf7 _ ρ' σ' _ _ _ X _ _ I7 F7 (OF.of (hn7.trans (hn6.trans hn))) (hX.mem fun p hp => List.mem_cons_of_mem _ (List.mem_cons_of_mem _ hp)) hx' ?_ ?_
    rotate_left
    · intro c C e m5 Z5 Nf5 ρ5 σ5 h5 t5 hx5 hc5 e5 p5 hn5 I5 F5 x5
      have F5' := (F5.dropF rfl).dropF hid3
      obtain ⟨outer, f1, f2, f3⟩ := hX.all F5'
      refine looped_ok (B := B) (σ := σ5) (Z := Z5) (N := Nf5 ++ N) (ρ := ρ5) f1 f3 f2 (I5.sub (List.Sublist.append_left ((List.sublist_cons_self _ _).trans (List.sublist_cons_self _ _)) _)) (x5.sub fun p hp => ?_) fun h6 I6 x6 => ?_
      · rcases List.mem_append.mp hp with hp | hp
        · exact List.mem_append_left _ hp
        · exact List.mem_append_right _ (List.mem_cons_of_mem _ (List.mem_cons_of_mem _ hp))
      · exact PX c C e m5 Z5 Nf5 ρ5 σ5 h6 t5 hx5 hc5 ((e1.trans e2).trans e5) ((p1.trans p2).trans p5) (hn5.trans (hn7.trans (hn6.trans hn))) I6 F5' x6
    intro fw fl m8 Z8 Nf8 ρ8 σ8 h8 t8 hx8 hf8 e8 p8 hn8 I8 F8
    have F8' := (F8.dropF rfl).dropF hid3
    have I8' : Inv B Z8 ((it + 1, enO it ((i : Int) + 1) w) :: (it, oi3) :: (Nf8 ++ N)) ρ8 σ8 h8 := by
      refine I8.perm ?_
      refine List.Perm.trans (List.Perm.cons _ List.perm_middle.symm) ?_
      exact List.perm_middle.symm
    have hnn : Nf8.map (·.1) = Nf.map (·.1) := hn8.trans (hn7.trans (hn6.trans hn))
    have ei : (i : Int) + 1 = ((i + 1 : Nat) : Int) := by omega
    have go : (Stay σ8 a its ∧ forLoop (fun (p : A × Nat) m => some ((m.set x (.v (.int p.2))).set y p.1)) (fun m σ K => xSs C body m σ K X) (fun σ => Stay σ a its) (its.zipIdx.drop (i + 1)) m8 σ8 K) →
        ∃ q, q < its.length + 1 - i ∧ EnSt B env a its l Z1 Nf N ρ1 (it + 1) it s (fun L m' σ' => forLoop (fun (p : A × Nat) m => some ((m.set x (.v (.int p.2))).set y p.1)) (fun m σ K => xSs C body m σ K X) (fun σ => Stay σ a its) L m' σ' K) q { s with heap := h8, toks := t8 } := by
      rintro ⟨hs8, hf8⟩
      rw [ei] at I8'
      exact ⟨its.length + 1 - (i + 1), by omega, i + 1, m8, Z8, Nf8, ρ8, σ8, h8, t8, w, oi3, rfl, by omega, rfl, e2.trans e8, p2.trans p8, hnn, ⟨hic3, hid3⟩, I8', F8', stay_items (Z := Z) (ρ := ρ) hi' hs8, hf8⟩
    cases hf8 with
    | next => exact go hx8
    | cont => exact go hx8
    | brk => exact P _ _ _ Z8 Nf8 ρ8 σ8 h8 t8 hx8 .next ((e1.trans e2).trans e8) ((p1.trans p2).trans p8) hnn I8'.drop.drop F8'
    | ret r => exact P _ _ _ Z8 Nf8 ρ8 σ8 h8 t8 hx8 (.ret r) ((e1.trans e2).trans e8) ((p1.trans p2).trans p8) hnn I8'.drop.drop F8'
end
end Fl

/-! classes of what is raised: looked up, asked by isinstance, matched (own work) -/
namespace Fl
open PySem PyProof.Rows PySem.W
set_option linter.unusedSimpArgs false
set_option maxRecDepth 100000

noncomputable def bmV : List Value := [.type "ValueError", .type "Exception", .type "BaseException", .type "object"]
noncomputable def quietX : List Str := ["__init__", "__getattribute__", "__getattr__", "args", "__class__"]
theorem quiet_sub : ∀ n ∈ quietNames, n ∈ quietX := fun n hn => by
  simp only [quietNames, List.mem_cons, List.not_mem_nil, or_false] at hn
  simp only [quietX, List.mem_cons, List.not_mem_nil, or_false]
  rcases hn with h | h | h | h
  · exact .inl h
  · exact .inr (.inl h)
  · exact .inr (.inr (.inl h))
  · exact .inr (.inr (.inr (.inl h)))
theorem quiet_class : ("__class__" : Str) ∈ quietX := .tail _ (.tail _ (.tail _ (.tail _ (.head _))))

inductive XObj (h : Heap) (C : Addr) (bm : List Value) : Prop
  | mk (nm q : Str) (N : Addr) (bs : List Value) (hdct : Bool) (sn : List Str) (sub : List Value) (ab : Bool) (col : Option Bool) (dd : Option Addr) (k0 k1 k2 k3 k5 : Option Value) (mN : Str → Option Value)
      (h1 : h.get? C = some (excClassObj nm q C N bs bm hdct sn sub ab col dd k0 k1 k2 k3 k5 "ValueError.__new__")) (h2 : h.Ns N mN) (h3 : ∀ n ∈ quietX, mN n = none)
theorem XObj.keeps {h h' : Heap} {C : Addr} {bm : List Value} (x : XObj h C bm) (hk : ∀ b o, h.get? b = some o → h'.get? b = some o) : XObj h' C bm := by
  obtain ⟨nm, q, N, bs, hdct, sn, sub, ab, col, dd, k0, k1, k2, k3, k5, mN, h1, h2, h3⟩ := x
  exact ⟨nm, q, N, bs, hdct, sn, sub, ab, col, dd, k0, k1, k2, k3, k5, mN, hk _ _ h1, h2.keeps hk, h3⟩
theorem XObj.tail {h : Heap} {F : Addr} (x : XObj h F bmV) : OwnTailQ h bmV (.ref F :: bmV) := by
  obtain ⟨nm, q, N, bs, hdct, sn, sub, ab, col, dd, k0, k1, k2, k3, k5, mN, h1, h2, h3⟩ := x
  exact .own h1 h2 (fun n hn => h3 n (quiet_sub n hn)) .base

structure XOk (B : Bs) (FE : Addr) : Prop where
  fe : XObj B.h0 FE bmV
  gfe : GName B (Str.ofString "FlatError") (.ref FE)
  ex : ∀ c C, B.xc c = some C → XObj B.h0 C (.ref FE :: bmV) ∧ GName B (Str.ofString c) (.ref C) ∧ (wordOf c).isSome = true ∧ C ≠ FE
  inj : ∀ c d C, B.xc c = some C → B.xc d = some C → c = d
  dom : ∀ c, (wordOf c).isSome = true → ∃ C, B.xc c = some C

section
variable {prog : Program} {w : World} {A : Around} {E : Value → Shared → Prop} {h : Heap} {g : Array GenState} {d : Drawn} {t : Nat} {os : OsState} {a : Addr} {o : Obj}
  {nm q : Str} {C N G : Addr} {bs : List Value} {hdct : Bool} {sn : List Str} {sub : List Value} {ab : Bool} {col : Option Bool} {dd : Option Addr} {k0 k1 k2 k3 k5 : Option Value} {newId : String} {mN : Str → Option Value}

theorem lk_vclass : typeLookup (.type "ValueError") "__class__" = pure (some (.builtin "object.__class__")) := by rw [typeLookup_type, builtinLookup_eq_fast]; kernel_rfl

theorem look2 {M : Model} {n : Str} {y : Option Value} {Q : Option Value → Shared → Prop} (hC : h.get? C = some (excClassObj nm q C N bs (.ref G :: bmV) hdct sn sub ab col dd k0 k1 k2 k3 k5 newId)) (hN : h.Ns N mN) (hm : ∀ n ∈ quietX, mN n = none) (XF : XObj h G bmV) (hn : n ∈ quietX)
    (hB : typeLookup (.type "ValueError") n = pure y) (hq : Q y ⟨h, g, d, t, os⟩) : wpAny M A (typeLookup (.ref C) n) Q E ⟨h, g, d, t, os⟩ := by
  have hrest : lookupAlong bmV n = pure y := by rw [typeLookup_eq, F.excBase_ValueError.mroIs] at hB; exact hB
  obtain ⟨nm', q', N', bs', hdct', sn', sub', ab', col', dd', k0', k1', k2', k3', k5', mN', h1, h2, h3⟩ := XF
  rw [typeLookup_eq]
  refine wpAny_bind (wpAny_mroOf_exc hC ?_)
  rw [lookupAlong_cons]
  refine wpAny_bind (wpAny_classOwn_exc hC hN ?_)
  rw [hm n hn, lookupAlong_cons]
  refine wpAny_bind (wpAny_classOwn_exc h1 h2 ?_)
  rw [h3 n hn, hrest]
  exact wpAny_pure hq

theorem cls_get {R : Result → Shared → Prop} (hC : h.get? C = some (excClassObj nm q C N bs (.ref G :: bmV) hdct sn sub ab col dd k0 k1 k2 k3 k5 newId))
    (hx : h.get? a = some o) (hc : o.cls = .ref C) (hq : R (.ok (.ret (.ref C))) ⟨h, g, d, t, os⟩) :
    codeAny (model prog w) A (.call (.builtin "getset_descriptor.__get__") ⟨[.builtin "object.__class__", .ref a, .ref C], []⟩) R ⟨h, g, d, t, os⟩ := by
  have hT5 : (⟨h, g, d, t, os⟩ : Shared).TypeIs (.builtin "object.__class__") "getset_descriptor" := F.typeOf_object_class
  have hcB : (Value.ref C :: .ref G :: bmV).contains (.type (".".intercalate ("object.__class__".cutAt '.').dropLast)) = true := by
    rw [F.owner_object_class, List.contains_cons, List.contains_cons]
    have : bmV.contains (.type "object") = true := by decide +kernel
    rw [this]; simp
  refine codeAny_call_builtin F.slot_gs_get.plain F.entry_gs_get (F.slot_gs_get.check _ _ _ _ _ _ _ _ hT5 (F.args_gs_get _ _ _) ?_)
  repeat (any_goals (first | assumption | (with_reducible refine wpAny_loadPart_at hx ?_; rw [hc]) | (with_reducible refine wpAny_isSubtype_exc hC ?_; rw [hcB]) | wp_step))
  refine ⟨Code.quiet_builtin _ (by decide +kernel), codeAny_builtin F.entry_object_class ?_⟩
  repeat (any_goals (first | assumption | (with_reducible refine wpAny_loadPart_at hx ?_; rw [hc]) | wp_step))

theorem cls_entry {tk : Tok} {Q : Fin → Shared → Prop} (hC : h.get? C = some (excClassObj nm q C N bs (.ref G :: bmV) hdct sn sub ab col dd k0 k1 k2 k3 k5 newId)) (hN : h.Ns N mN) (hm : ∀ n ∈ quietX, mN n = none) (XF : XObj h G bmV)
    (hx : h.get? a = some o) (hc : o.cls = .ref C) (hq : Q (.done (.ret (.ref C))) ⟨h, g, d, t, os⟩) :
    wpAny (model prog w) A (Builtin.«object.__getattribute__» ⟨[.ref a, .str "__class__" tk], []⟩) Q E ⟨h, g, d, t, os⟩ := by
  have hT5 : (⟨h, g, d, t, os⟩ : Shared).TypeIs (.builtin "object.__class__") "getset_descriptor" := F.typeOf_object_class
  have f5 := F.typeOf_object_class
  have f6 := F.slot_gs_get.lookup
  have f7 := F.slot_gs_set.lookup
  repeat (any_goals (first | assumption | (with_reducible refine wpAny_loadPart_at hx ?_; rw [hc]) | with_reducible refine look2 hC hN hm XF quiet_class lk_vclass ?_ | wp_step))
  refine cls_get hC hx hc ?_
  repeat (any_goals (first | assumption | wp_step))

theorem cls_by {tk : Tok} {fill : Bool} {Q : Value → Shared → Prop} (hC : h.get? C = some (excClassObj nm q C N bs (.ref G :: bmV) hdct sn sub ab col dd k0 k1 k2 k3 k5 newId)) (hN : h.Ns N mN) (hm : ∀ n ∈ quietX, mN n = none) (XF : XObj h G bmV)
    (hx : h.get? a = some o) (hc : o.cls = .ref C) (hq : Q (.ref C) ⟨h, g, d, t, os⟩) : wpAny (model prog w) A (getAttrBy (.ref a) (.str "__class__" tk) fill) Q E ⟨h, g, d, t, os⟩ := by
  have FB := F.attrBase_ValueError
  have f3 := FB.ga.bind (.ref a)
  have hx2 : (Value.builtin "BaseException.__getattribute__" == Value.builtin "object.__getattribute__") = false := by decide +kernel
  have hx1 : (onTheHeap (Value.ref C) && Value.builtin "BaseException.__getattribute__" == Value.builtin "object.__getattribute__") = false := by rw [hx2]; rfl
  have hm1 : ("__getattribute__" : Str) ∈ quietX := .tail _ (.head _)
  have hm2 : ("__getattr__" : Str) ∈ quietX := .tail _ (.tail _ (.head _))
  repeat (any_goals (first | assumption | (with_reducible refine wpAny_loadPart_at hx ?_; rw [hc]) | with_reducible refine look2 hC hN hm XF hm1 FB.ga.lookup ?_ | with_reducible refine look2 hC hN hm XF hm2 FB.noGetattr ?_ | wp_step))
  refine codeAny_call_builtin FB.ga.plain F.entry_bexc_ga (wpAny_check_ga_own FB hC XF.tail hx hc (cls_entry hC hN hm XF hx hc ?_))
  repeat (any_goals (first | assumption | wp_step))

theorem cls_attr {Q : Option Value → Shared → Prop} (hC : h.get? C = some (excClassObj nm q C N bs (.ref G :: bmV) hdct sn sub ab col dd k0 k1 k2 k3 k5 newId)) (hN : h.Ns N mN) (hm : ∀ n ∈ quietX, mN n = none) (XF : XObj h G bmV)
    (hx : h.get? a = some o) (hc : o.cls = .ref C) (hq : Q (some (.ref C)) ⟨h, g, d, t + 1, os⟩) : wpAny (model prog w) A (getAttr? (.ref a) "__class__") Q E ⟨h, g, d, t, os⟩ := by
  unfold getAttr? getAttrBy?
  repeat (any_goals (first | assumption | with_reducible apply cls_by hC hN hm XF hx hc | wp_step))
end
end Fl

/-! isinstance of what is raised, matching, words (own work) -/
namespace Fl
open PySem PyProof.Rows PySem.W
set_option linter.unusedSimpArgs false
set_option maxRecDepth 100000

section
variable {prog : Program} {w : World} {A : Around} {E : Value → Shared → Prop} {h : Heap} {g : Array GenState} {d : Drawn} {t : Nat} {os : OsState} {a : Addr} {o : Obj} {C G D : Addr}

theorem ty_value : typeOf (.type "ValueError") = pure (.type "type") := by first | rfl | kernel_rfl

/-- of another of the three classes -/
theorem isx_no {dep : Int} {tk : Tok} {Q : PySem.Fin → Shared → Prop} (XC : XObj h C (.ref G :: bmV)) (XF : XObj h G bmV) (XD : XObj h D (.ref G :: bmV)) (hne : C ≠ D) (hng : G ≠ D)
    (hx : h.get? a = some o) (hc : o.cls = .ref C) (hq : Q (.done (.ret (.bool false))) ⟨h, g, d, t + 1, os⟩) :
    wpAny (model prog w) A (Builtin.«isinstance.nested» ⟨[.ref a, .ref D, .int dep tk], []⟩) Q E ⟨h, g, d, t, os⟩ := by
  obtain ⟨nm, q, N, bs, hdct, sn, sub, ab, col, dd, k0, k1, k2, k3, k5, mN, hC, hN, hm⟩ := XC
  obtain ⟨nm', q', N', bs', hdct', sn', sub', ab', col', dd', k0', k1', k2', k3', k5', mN', hD, hN', hm'⟩ := XD
  have e1 : (Value.ref C == Value.ref D) = false := by simp [hne]
  have hcC : (Value.ref C :: .ref G :: bmV).contains (.ref D) = false := by
    rw [List.contains_cons, List.contains_cons]
    have e2 : (Value.ref D == Value.ref C) = false := by simp [Ne.symm hne]
    have e3 : (Value.ref D == Value.ref G) = false := by simp [Ne.symm hng]
    rw [e2, e3]; rfl
  unfold Builtin.«isinstance.nested»
  repeat (any_goals (first | assumption | (with_reducible refine wpAny_loadPart_at hx ?_; rw [hc]) | with_reducible refine wpAny_loadPart_at hD ?_ | with_reducible refine wpAny_loadPart_at hC ?_ | (with_reducible refine wpAny_isSubtype_exc hC ?_; rw [hcC]) | with_reducible apply cls_attr hC hN hm XF hx hc | wp_step))

theorem isx_self {dep : Int} {tk : Tok} {Q : PySem.Fin → Shared → Prop} 
    (hx : h.get? a = some o) (hc : o.cls = .ref C) (hq : Q (.done (.ret (.bool true))) ⟨h, g, d, t, os⟩) :
    wpAny (model prog w) A (Builtin.«isinstance.nested» ⟨[.ref a, .ref C, .int dep tk], []⟩) Q E ⟨h, g, d, t, os⟩ := by
  have e1 : (Value.ref C == Value.ref C) = true := by simp
  unfold Builtin.«isinstance.nested»
  repeat (any_goals (first | assumption | (with_reducible refine wpAny_loadPart_at hx ?_; rw [hc]) | wp_step))

theorem isx_value {dep : Int} {tk : Tok} {Q : PySem.Fin → Shared → Prop} (XC : XObj h C (.ref G :: bmV))
    (hx : h.get? a = some o) (hc : o.cls = .ref C) (hq : Q (.done (.ret (.bool true))) ⟨h, g, d, t, os⟩) :
    wpAny (model prog w) A (Builtin.«isinstance.nested» ⟨[.ref a, .type "ValueError", .int dep tk], []⟩) Q E ⟨h, g, d, t, os⟩ := by
  obtain ⟨nm, q, N, bs, hdct, sn, sub, ab, col, dd, k0, k1, k2, k3, k5, mN, hC, hN, hm⟩ := XC
  have e1 : (Value.ref C == Value.type "ValueError") = false := by simp
  have f1 := ty_value
  have hcC : (Value.ref C :: .ref G :: bmV).contains (.type "ValueError") = true := by
    rw [List.contains_cons, List.contains_cons]
    have : bmV.contains (.type "ValueError") = true := by decide +kernel
    rw [this]; simp
  unfold Builtin.«isinstance.nested»
  repeat (any_goals (first | assumption | (with_reducible refine wpAny_loadPart_at hx ?_; rw [hc]) | (with_reducible refine wpAny_isSubtype_exc hC ?_; rw [hcC]) | wp_step))

/-- every one is a FlatError -/
theorem flat_matches {M : Model} {Q : Bool → Shared → Prop} (XC : XObj h C (.ref G :: bmV)) (XF : XObj h G bmV) (hx : h.get? a = some o) (hc : o.cls = .ref C) (hq : Q true ⟨h, g, d, t, os⟩) : wpAny M A (excMatches (.ref a) (.ref G)) Q E ⟨h, g, d, t, os⟩ := by
  obtain ⟨nm, q, N, bs, hdct, sn, sub, ab, col, dd, k0, k1, k2, k3, k5, mN, hC, hN, hm⟩ := XC
  obtain ⟨nm', q', N', bs', hdct', sn', sub', ab', col', dd', k0', k1', k2', k3', k5', mN', hG, hN', hm'⟩ := XF
  have hcB : (Value.ref G :: bmV).contains (.type "BaseException") = true := by
    rw [List.contains_cons]
    have : bmV.contains (.type "BaseException") = true := by decide +kernel
    rw [this]; simp
  have hcG : (Value.ref C :: .ref G :: bmV).contains (.ref G) = true := by simp
  have f := tc_notTuple
  unfold excMatches
  repeat (first | (with_reducible refine wpAny_loadPart_at hx ?_; rw [hc]) | with_reducible refine wpAny_loadPart_at hG ?_ | with_reducible refine wpAny_loadPart_at hC ?_ | (with_reducible refine wpAny_isSubtype_exc hG ?_; rw [hcB]) | (with_reducible refine wpAny_isSubtype_exc hC ?_; rw [hcG]) | wp_step)
  exact hq

theorem call_isx {s : Shared} {x : Addr} {c : Value} {b : Bool} {Q : Value → Shared → Prop}
    (h : ∀ Q' : PySem.Fin → Shared → Prop, (∀ tk, Q' (.done (.ret (.bool b))) { s with toks := tk }) → wpAny (model prog w) A.in1 (Builtin.«isinstance.nested» ⟨[.ref x, c, rawInt 0], []⟩) Q' E s)
    (hQ : ∀ tk, Q (.bool b) { s with toks := tk }) : wpAny (model prog w) A (call (.builtin "isinstance") [.ref x, c]) Q E s :=
  PyProof.Rows.call_isinstance_of (h _ fun tk => hQ tk) (fun e => by cases e)
end

/-! words -/
theorem ofS_app (x y : String) : Str.ofString (x ++ y) = Str.ofString x ++ Str.ofString y := by
  rw [Str.ofString_eq_toList, Str.ofString_eq_toList, Str.ofString_eq_toList]
  show _ = Str.append _ _
  unfold Str.append
  simp
theorem ofS_len (x : String) : (Str.ofString x).length = x.length := by
  rw [Str.ofString_eq_toList]
  simp [Str.length]
  first | exact String.length_toList | exact String.length_toList _ | rfl | simp [String.length]
theorem ofS_nil : Str.ofString "" = Str.empty := by decide +kernel

section
variable {B : Bs} {C : CallSem} {Ar : Around} {env : Env} {F : Value → Shared → Prop}

theorem asX_of {a : A} {c : String} (h : asX a = some c) : a = .v (.exc c) := by
  cases a with
  | v x => cases x <;> first | (cases h; rfl) | cases h
  | _ => cases h
theorem asS_of {a : A} {c : String} (h : asS a = some c) : a = .v (.str c) := by
  cases a with
  | v x => cases x <;> first | (cases h; rfl) | cases h
  | _ => cases h

theorem eok_smul {w : String} {a : E} {e : Expr} {k p pos} (ha : EOk B C Ar env a e) : EOk B C Ar env (.smul w a) (.BinOp (.Constant (.str (Str.ofString w)) k p) .Mult e pos) := by
  intro Z N ρ σ m s K X Q F I Fr hX hx P
  rw [xE_smul] at hx
  refine wpAny_BinOp (wpAny_Constant_str ?_)
  refine ha Z N ρ σ m _ _ X _ F I Fr hX hx ?_
  intro va v Z1 ρ1 σ1 h1 t1 hx1 e1 p1 I1 R1
  obtain ⟨i, hi, hx1⟩ := get_of hx1
  rw [asI_of hi] at R1
  obtain ⟨u, rfl⟩ := R1
  obtain ⟨h01, hK⟩ := hx1
  rcases h01 with rfl | rfl
  · refine PySem.P.mul_str_none (by decide) (by decide) ?_
    exact P _ _ Z1 ρ1 σ1 _ _ hK e1 p1 I1 ⟨_, by rw [← ofS_nil]; rfl⟩
  · refine PySem.P.mul_str (by decide) (fun _ h => by simp at h) (fun _ h => by simp at h) ?_
    exact P _ _ Z1 ρ1 σ1 _ _ hK e1 p1 I1 ⟨_, rfl⟩

theorem eok_sadd {a b : E} {l r : Expr} {pos : Pos} (ha : EOk B C Ar env a l) (hb : EOk B C Ar env b r) : EOk B C Ar env (.sadd a b) (.BinOp l .Add r pos) := by
  intro Z N ρ σ m s K X Q F I Fr hX hx P
  rw [xE_sadd] at hx
  refine wpAny_BinOp (ha Z N ρ σ m s _ X _ F I Fr hX hx ?_)
  intro va v Z1 ρ1 σ1 h1 t1 hx1 e1 p1 I1 R1
  refine hb Z1 N ρ1 σ1 m _ _ X _ F I1 (Fr.mono e1 p1) hX hx1 ?_
  intro vb w Z2 ρ2 σ2 h2 t2 hx2 e2 p2 I2 R2
  obtain ⟨x, hx, hx2⟩ := get_of hx2
  obtain ⟨y, hy, hl, hK⟩ := get_of hx2
  rw [asS_of hx] at R1
  rw [asS_of hy] at R2
  obtain ⟨t, rfl⟩ := R1
  obtain ⟨u, rfl⟩ := R2
  refine PyProof.Rows.add_str (fun t' tk => ?_) (by rw [ofS_len, ofS_len, sizeLine_eq]; omega)
  exact P _ _ Z2 ρ2 σ2 _ _ hK (e1.trans e2) (p1.trans p2) I2 ⟨t', by rw [ofS_app]⟩
end
end Fl

/-! statements that raise, and the try (own work) -/
namespace Fl
open PySem PyProof.Rows PySem.W
set_option linter.unusedSimpArgs false
set_option maxRecDepth 100000

/-- an object that is not looked at, frozen -/
theorem Inv.freezeOut {B : Bs} {Z : Zm} {N : Led} {ρ : List Addr} {σ : H} {h : Heap} {a : Addr} {o : Obj} (I : Inv B Z N ρ σ h) (ho : Out Z N ρ a) (hg : h.get? a = some o) : Inv B (Inv.zset Z a o) N ρ σ h where
  base := fun b o' e => Inv.ext_zset ho.1 _ _ (I.base b o' e)
  zin := fun b o' e => by
    unfold Inv.zset at e
    split at e
    · rename_i q; cases e; rw [q]; exact hg
    · exact I.zin b o' e
  led := fun p hp => by
    refine ⟨(I.led p hp).1, ?_⟩
    unfold Inv.zset
    rw [if_neg]
    · exact (I.led p hp).2
    · intro e; exact ho.2.1 (List.mem_map.mpr ⟨p, hp, e⟩)
  len := I.len
  live := fun i b ob e1 e2 e3 => by
    obtain ⟨h1, o', h2, h3⟩ := I.live i b ob e1 e2 e3
    refine ⟨?_, o', h2, h3.mono (Inv.ext_zset ho.1) (List.prefix_refl _)⟩
    unfold Inv.zset
    rw [if_neg]
    · exact h1
    · rintro rfl; exact ho.2.2 (List.mem_of_getElem? e1)
  rin := I.rin
  nd := I.nd

section
variable {B : Bs} {C : CallSem} {Ar : Around} {env : Env} {F : Value → Shared → Prop} {rank : String → Nat}

theorem eok_str {w : String} {k pos} : EOk B C Ar env (.c (.str w)) (.Constant (.str (Str.ofString w)) k pos) := by
  intro Z N ρ σ m s K X Q F I Fr hX hx P
  exact wpAny_Constant_str (P (.v (.str w)) _ Z ρ σ _ _ hx (Ext.refl _) (List.prefix_refl _) I ⟨_, rfl⟩)

/-- isinstance(e, one of the three, or ValueError) -/
theorem isx_ok {FE : Addr} {c d : String} {cv : Value} {Z N ρ σ} {s : Shared} {v : Value} {r : Bool} {Q : Value → Shared → Prop} (X : XOk B FE) (hcv : (c = "ValueError" ∧ cv = .type "ValueError") ∨ ∃ D, B.xc c = some D ∧ cv = .ref D) (I : Inv B Z N ρ σ s.heap) (R : RepV B Z (.exc d) v)
    (h : isxB d c = some r) (hQ : ∀ tk, Q (.bool r) { s with toks := tk }) : wpAny (model B.prog B.w) Ar (call (.builtin "isinstance") [v, cv]) Q F s := by
  obtain ⟨a, oe, Cd, rfl, hxc, hz, hc⟩ := R
  have hx := I.zin _ _ hz
  obtain ⟨XC, _, hw, hne⟩ := X.ex d Cd hxc
  have XC := XC.keeps I.keep
  have XF := X.fe.keeps I.keep
  unfold isxB at h
  split at h
  · rename_i hcond
    cases h
    rcases hcv with ⟨rfl, rfl⟩ | ⟨D, hD, rfl⟩
    · exact call_isx (b := true) (fun Q' hq => isx_value XC hx hc (hq _)) hQ
    · have hcn : (c == "ValueError") = false := by
        cases hq : c == "ValueError" with
        | false => rfl
        | true => have := (X.ex c D hD).2.2.1; rw [beq_iff_eq.mp hq] at this; cases this
      rw [hcn] at hQ
      by_cases hdc : d = c
      · subst hdc
        rw [hxc] at hD; cases hD
        have e : (false || d == d) = true := by simp
        rw [e] at hQ
        exact call_isx (b := true) (fun Q' hq => isx_self hx hc (hq _)) hQ
      · have e : (false || d == c) = false := by simp [hdc]
        rw [e] at hQ
        obtain ⟨XD, _, _, hneD⟩ := X.ex c D hD
        refine call_isx (b := false) (fun Q' hq => isx_no XC XF (XD.keeps I.keep) (fun e => hdc (X.inj d c Cd hxc (e ▸ hD))) (Ne.symm hneD) hx hc (hq _)) hQ
  · cases h

theorem eok_isx {FE : Addr} {c : String} {cv : Value} {a : E} {e : Expr} {p pc pos : Pos} (X : XOk B FE) (O : BOk B) (hcv : (c = "ValueError" ∧ cv = .type "ValueError") ∨ ∃ D, B.xc c = some D ∧ cv = .ref D) (hgc : GName B (Str.ofString c) cv) (hk : env.kindOf ("isinstance" : Str) = some .globalImplicit) (hkc : env.kindOf (Str.ofString c) = some .globalImplicit) (hdc : (Str.ofString c == ("__debug__" : Str)) = false) (hu : unstar e = true) (ha : EOk B C Ar env a e) :
    EOk B C Ar env (.isx a c) (.Call (.Name "isinstance" p) [e, .Name (Str.ofString c) pc] [] pos) := by
  intro Z N ρ σ m s K X' Q F I Fr hX hx P
  rw [xE_isx] at hx
  refine wpAny_Call_NameR (ld_glob I Fr (O.at "isinstance" (.builtin "isinstance") rfl) hk (by decide) ?_)
  have hp : (backTo pos (starEach [e, .Name (Str.ofString c) pc] env)).any (·.1) = false := starEach_plain (by rw [List.all_cons, hu]; rfl)
  refine Calls.callWith_builtin hp ?_
  have h' : wpAny (model B.prog B.w) Ar (spliced (backTo pos (starEach [e, .Name (Str.ofString c) pc] env))) (fun vs s' => wpAny (model B.prog B.w) Ar (call (.builtin "isinstance") ([] ++ vs) []) Q F s') F s := by
    refine args_cons (ha Z N ρ σ m s _ X' _ F I Fr hX hx ?_) (starEach_un hu)
    intro va v Z1 ρ1 σ1 h1 t1 hx1 e1 p1 I1 R1
    refine args_cons (ld_glob I1 (Fr.mono e1 p1) hgc hkc hdc (args_nil ?_)) (starEach_un rfl)
    obtain ⟨d, hd, hx1⟩ := get_of hx1
    obtain ⟨r, hr, hx1⟩ := get_of hx1
    rw [asX_of hd] at R1
    exact isx_ok X hcv I1 R1 hr fun tk => P _ _ Z1 ρ1 σ1 _ tk hx1 e1 p1 I1 rfl
  rw [starEach_un hu] at h' ⊢
  exact Calls.evalArgs_plain h'

theorem sok_never {st : Stmt} : SOk B C Ar env .never st := by
  intro Z Nf N ρ σ m s K X Q F I Fr O hX hx P PX
  exact (show False from hx).elim

/-- what a call raised, at the statement -/
theorem px_call {Z Nf N ρ m} {s : Shared} {X : String → Loc → H → Prop} (Fr : Frm B env Z ρ m (Nf ++ N)) (PX : PostXS B env Z Nf N ρ s X F) : PostX B Z (Nf ++ N) ρ s (fun c σ => X c m σ) F :=
  fun c C e Z1 ρ1 σ1 h1 t1 hx1 hc e1 p1 I1 x1 => PX c C e m Z1 Nf ρ1 σ1 h1 t1 hx1 hc e1 p1 rfl I1 (Fr.mono e1 p1) (.inr (.inl x1))

theorem sok_asgC {x f : String} {fa : Addr} {irs : List E} {es : List Expr} {p pf pc pos : Pos} (hin : Frag.In B.K B.h0) (hroom : Room Ar (rank f)) (hfa : B.fn f = some fa) (hg : GName B (Str.ofString f) (.ref fa)) (hf : keepIn B.K (.ref fa) = true)
    (hkf : env.kindOf (Str.ofString f) = some .globalImplicit) (hd : (Str.ofString f == ("__debug__" : Str)) = false) (h : EsOk B (CallOK B rank) Ar env irs es) (hk : stK (env.kindOf (Str.ofString x)) = true) :
    SOk B (CallOK B rank) Ar env (.asgC x f irs) (.Assign [.Name (Str.ofString x) p] (.Call (.Name (Str.ofString f) pf) es [] pc) pos) := by
  intro Z Nf N ρ σ m s K X Q F I Fr O hX hx P PX
  rw [Ye] at hx
  refine wpAny_Assign_Name (call_core hin hroom hfa hg hf hkf hd h I Fr (hX.safe Fr) hx ?_ (px_call Fr PX)) rfl
  intro a v Z1 ρ1 σ1 h1 t1 hx1 e1 p1 I1 R1
  refine store_ok I1 (Fr.mono e1 p1) R1 hk O.loc (O.cel _) ?_
  intro Nf' h' tk hn I2 F2
  exact P _ _ _ Z1 Nf' ρ1 σ1 h' tk hx1 .next e1 p1 hn I2 F2

theorem sok_exC {f : String} {fa : Addr} {irs : List E} {es : List Expr} {pf pc pos : Pos} (hin : Frag.In B.K B.h0) (hroom : Room Ar (rank f)) (hfa : B.fn f = some fa) (hg : GName B (Str.ofString f) (.ref fa)) (hf : keepIn B.K (.ref fa) = true)
    (hkf : env.kindOf (Str.ofString f) = some .globalImplicit) (hd : (Str.ofString f == ("__debug__" : Str)) = false) (h : EsOk B (CallOK B rank) Ar env irs es) (hi : interactive env = false) :
    SOk B (CallOK B rank) Ar env (.exC f irs) (.Expr (.Call (.Name (Str.ofString f) pf) es [] pc) pos) := by
  intro Z Nf N ρ σ m s K X Q F I Fr O hX hx P PX
  rw [Yg] at hx
  refine wpAny_Expr_any (call_core hin hroom hfa hg hf hkf hd h I Fr (hX.safe Fr) hx ?_ (px_call Fr PX)) hi rfl
  intro a v Z1 ρ1 σ1 h1 t1 hx1 e1 p1 I1 R1
  exact P _ _ _ Z1 Nf ρ1 σ1 h1 t1 hx1 .next e1 p1 rfl I1 (Fr.mono e1 p1)

theorem sok_exN {c : String} {Cl fI : Addr} {irs : List E} {es : List Expr} {p pc pos : Pos} (O' : COk B) (hcl : B.cls c = some Cl) (hroom : ∀ vs, Room (Ar.under (.builtin "type.__call__" ⟨.ref Cl :: vs, []⟩)) (rank (c ++ ".__init__"))) (hfI : B.fn (c ++ ".__init__") = some fI) (hmk : makesIn B.K Cl = true)
    (hi : findIn B.K (.ref Cl) "__init__" = some (some (.ref fI))) (hft : typeIn B.K (.ref fI) = some (.type "function")) (hkeep : keepIn B.K (.ref Cl) = true) (hg : GName B (Str.ofString c) (.ref Cl))
    (hk : env.kindOf (Str.ofString c) = some .globalImplicit) (hd : (Str.ofString c == ("__debug__" : Str)) = false) (h : EsOk B (CallOK B rank) Ar env irs es) (hin : interactive env = false) :
    SOk B (CallOK B rank) Ar env (.exN c irs) (.Expr (.Call (.Name (Str.ofString c) p) es [] pc) pos) := by
  intro Z Nf N ρ σ m s K X Q F I Fr O hX hx P PX
  rw [xS_exN] at hx
  refine wpAny_Expr_any (new_core O' hcl hroom hfI hmk hi hft hkeep hg hk hd h I Fr (hX.safe Fr) hx ?_ (px_call Fr PX)) hin rfl
  intro a v Z1 ρ1 σ1 h1 t1 hx1 e1 p1 I1 R1
  exact P _ _ _ Z1 Nf ρ1 σ1 h1 t1 hx1 .next e1 p1 rfl I1 (Fr.mono e1 p1)

theorem sok_exM {a : E} {f : String} {irs : List E} {o : Expr} {es : List Expr} {apos pc pos : Pos} (O' : COk B) (hns : notSuper o = true) (hline : (apos.endLine == pc.line) = true) (hlen : es.length < 30)
    (hfn : ∀ c C, B.cls c = some C → ∃ fa, B.fn (c ++ "." ++ f) = some fa ∧ keepIn B.K (.ref fa) = true ∧ Room Ar (rank (c ++ "." ++ f)) ∧ findIn B.K (.ref C) (Str.ofString f) = some (some (.ref fa)) ∧ typeIn B.K (.ref fa) = some (.type "function") ∧ f ∉ fieldNames c)
    (ha : EOk B (CallOK B rank) Ar env a o) (h : EsOk B (CallOK B rank) Ar env irs es) (hin : interactive env = false) :
    SOk B (CallOK B rank) Ar env (.exM a f irs) (.Expr (.Call (.Attribute o (Str.ofString f) apos) es [] pc) pos) := by
  intro Z Nf N ρ σ m s K X Q F I Fr O hX hx P PX
  rw [Yh] at hx
  refine wpAny_Expr_any (meth_core O' hns hline hlen hfn ha h I Fr (hX.safe Fr) hx ?_ (px_call Fr PX)) hin rfl
  intro a v Z1 ρ1 σ1 h1 t1 hx1 e1 p1 I1 R1
  exact P _ _ _ Z1 Nf ρ1 σ1 h1 t1 hx1 .next e1 p1 rfl I1 (Fr.mono e1 p1)

theorem sok_raise {FE : Addr} {c msg : String} {D : Addr} {k} {p pm pc pos : Pos} (X0 : XOk B FE) (hh : Ar.handled = none) (hD : B.xc c = some D) (hk : env.kindOf (Str.ofString c) = some .globalImplicit) (hd : (Str.ofString c == ("__debug__" : Str)) = false) :
    SOk B C Ar env (.raise c msg) (.Raise (some (.Call (.Name (Str.ofString c) p) [.Constant (.str (Str.ofString msg)) k pm] [] pc)) none pos) := by
  intro Z Nf N ρ σ m s K X Q F I Fr O hX hx P PX
  rw [Yd] at hx
  obtain ⟨XC, hg, _, _⟩ := X0.ex c D hD
  have XF := X0.fe
  obtain ⟨nm, q, N', bs, hdct, sn, sub, ab, col, dd, k0, k1, k2, k3, k5, mN, hC, hN, hm⟩ := XC
  have hE : EsOk B C Ar env [.c (.str msg)] [.Constant (.str (Str.ofString msg)) k pm] := .cons eok_str rfl .nil
  have hp := starEach_plain (env := env) (pos := pc) hE.un
  refine wpAny_Raise_call_subT PySem.F.excBase_ValueError (bm := .ref FE :: bmV) (mN := mN) (C := D) (nm := nm) (q := q) (N := N') (bs := bs) (hdct := hdct) (sn := sn) (sub := sub) (ab := ab) (col := col) (dd := dd) (k0 := k0) (k1 := k1) (k2 := k2) (k3 := k3) (k5 := k5) ?_ hh hp (hm _ (.head _)) (ld_glob I Fr hg hk hd ⟨rfl, ?_⟩)
  · rw [List.contains_cons]
    have : bmV.contains (.type "BaseException") = true := by decide +kernel
    rw [this]; simp
  · have h' := args_ok (F := F) (pos := pc) (Q := fun vs s₂ => vs.length ≤ sizeLine ∧ s₂.heap.get? D = some (excClassObj nm q D N' bs (.ref FE :: bmV) hdct sn sub ab col dd k0 k1 k2 k3 k5 "ValueError.__new__") ∧ s₂.heap.Ns N' mN ∧ OwnTail s₂.heap bmV (.ref FE :: bmV) ∧
        ∀ h' e, Heap.MadeExcOf s₂.heap h' e (.ref D) vs → F (.ref e) { s₂ with heap := h' }) hE I Fr (hX.safe Fr) (K := fun _ σ' => σ' = σ) (show xEs C [.c (.str msg)] m σ _ NX from rfl) (fun as vs Z1 ρ1 σ1 h1 t1 hl hk1 e1 p1 I1 R1 => ?_)
    · rw [starEach_un rfl] at h' ⊢
      exact Calls.evalArgs_plain (wpAny_mono h' (fun vs s₂ hq => ⟨rfl, hq⟩) fun _ _ y => y)
    · subst hk1
      refine ⟨?_, I1.keep _ _ hC, hN.keeps I1.keep, (XF.keeps I1.keep).tail.tail, fun h2 e hM => ?_⟩
      · rw [repAs_len R1, hl, sizeLine_eq]; simp
      · obtain ⟨t0, ht1, ht2, ht3⟩ := hM.there
        exact PX c D e m Z1 Nf ρ1 _ h2 t1 hx hD e1 p1 rfl (I1.keeps hM.keeps) (Fr.mono e1 p1) (.inl ⟨I1.out_fresh hM.new, _, _, _, ht1, rfl, rfl, rfl, rfl⟩)

noncomputable def onlyRet (K : Fw → Loc → H → Prop) : Fw → Loc → H → Prop
  | .ret a, _, σ => K (.ret a) (fun _ => Option.none) σ
  | .next, _, _ => False
  | .brk, _, _ => False
  | .cont, _, _ => False

/-- try: body, except FlatError as x: return e -/
theorem sok_tryW {FE : Addr} {x : String} {b : List S} {bs : List Stmt} {e : E} {ex : Expr} {pf pr ph pos : Pos} (X0 : XOk B FE) (hb : SsOk B C Ar env b bs) (he : ∀ v, EOk B C (Ar.mark (some v)) env e ex) (hkF : env.kindOf (Str.ofString "FlatError") = some .globalImplicit) (hk : env.kindOf (Str.ofString x) = some .local) :
    SOk B C Ar env (.tryW b x e) (.Try bs [.ExceptHandler (some (.Name (Str.ofString "FlatError") pf)) (some (Str.ofString x)) [.Return (some ex) pr] ph] [] [] pos) := by
  intro Z Nf N ρ σ m s K X Q F I Fr O hX hx P PX
  rw [Yi] at hx
  refine wpAny_Try_except (hb Z Nf N ρ σ m s K _ _ _ I Fr O hX hx ?_ ?_)
  · intro fw fl m1 Z1 Nf1 ρ1 σ1 h1 t1 hk1 hf e1 p1 hn I1 F1
    cases hf with
    | next => exact wpAny_execs_nil (P _ _ _ Z1 Nf1 ρ1 σ1 h1 t1 hk1 .next e1 p1 hn I1 F1)
    | brk => exact P _ _ _ Z1 Nf1 ρ1 σ1 h1 t1 hk1 .brk e1 p1 hn I1 F1
    | cont => exact P _ _ _ Z1 Nf1 ρ1 σ1 h1 t1 hk1 .cont e1 p1 hn I1 F1
    | ret r => exact P _ _ _ Z1 Nf1 ρ1 σ1 h1 t1 hk1 (.ret r) e1 p1 hn I1 F1
  · intro c D ea m1 Z1 Nf1 ρ1 σ1 h1 t1 hx1 hc e1 p1 hn1 I1 F1 x1
    obtain ⟨outer, f1, f2, f3⟩ := hX.all F1
    refine noted_ok (B := B) (σ := σ1) (Z := Z1) (N := Nf1 ++ N) (ρ := ρ1) f1 f3 f2 I1 x1 fun h2 I2 x2 => ?_
    refine flight_ok (B := B) (σ := σ1) (Z := Z1) (N := Nf1 ++ N) (ρ := ρ1) (s := { s with heap := h2, toks := t1 }) (fo := none) I2 x2 fun h3 I3 x3 => ?_
    obtain ⟨XC, _, _, _⟩ := X0.ex c D hc
    refine wpAny_handleBy_cons (codeAny_handlers_test (ld_glob (σ := σ1) (s := { s with heap := h3, toks := t1 }) I3 F1 X0.gfe hkF (by decide +kernel) ?_)) (by intro q; cases q)
    obtain ⟨ho, oe, vs, a0, T, oT, ts, hT, h0, g1, g2, g3, g4, g5, g6, g7, g8⟩ := id x3
    refine flat_matches (XC.keeps I3.keep) (X0.fe.keeps I3.keep) g1 g2 ?_
    refine codeAny_handlers_suite_as (flight_ok (B := B) (σ := σ1) (Z := Z1) (N := Nf1 ++ N) (ρ := ρ1) (s := { s with heap := h3, toks := t1 }) (fo := none) I3 x3 fun h4 I4 x4 => ?_)
    obtain ⟨ho, oe, vs, a0, T, oT, ts, hT, h0, g1, g2, g3, g4, g5, g6, g7, g8⟩ := x4
    have I5 := I4.freezeOut ho g1
    have ez : Ext Z1 (Inv.zset Z1 ea oe) := Inv.ext_zset ho.1
    refine store_ok (B := B) (Nf := Nf1) (N := N) (x := x) (a := .v (.exc c)) (s := { s with heap := h4, toks := t1 }) I5 (F1.mono ez (List.prefix_refl _)) ⟨ea, oe, D, rfl, hc, by simp [Inv.zset], g2⟩ (by rw [hk]; rfl) (O.of hn1).loc ((O.of hn1).cel _) ?_
    intro Nf6 h6 t6 hn6 I6 F6
    have hX6 : FrsS (Ar.mark (some (.ref ea))) env N := hX
    refine ss_cons (sok_ret (he (.ref ea))) ss_nil _ Nf6 N ρ1 σ1 _ _ (onlyRet K) (fun _ _ _ => False) _ _ I6 F6 ((O.of hn1).of hn6) hX6 ?_ ?_ (fun _ _ _ _ _ _ _ _ _ _ h => h.elim)
    · exact hx1
    · intro fw fl m7 Z7 Nf7 ρ7 σ7 h7 t7 hk7 hf7 e7 p7 hn7 I7 F7
      cases hf7 with
      | next => exact hk7.elim
      | brk => exact hk7.elim
      | cont => exact hk7.elim
      | ret r =>
        obtain ⟨o, es, ep, hN, hDt, hS⟩ := F7.loc
        obtain ⟨sl, hgL⟩ := (I7.led _ hN).1.1
        refine wpAny_nameGoes (m := nsFind es) hk ⟨_, es, ep, hgL, hDt, hS, fun _ => rfl⟩ (by rw [F7.kind]; rfl) fun h8 m8 hn8 hs8 => ?_
        obtain ⟨o8, es8, ep8, ho8, hD8, hS8, _⟩ := hn8
        have hL : env.locals ∈ Nf7.map (·.1) := by rw [hn7, hn6, hn1]; exact O.loc
        refine P _ _ (fun _ => none) Z7 (Nf7.map (upd env.locals o8)) ρ7 σ7 h8 _ hk7 (.ret r) ((e1.trans ez).trans e7) (p1.trans p7) ((upd_map _ _ _).trans (hn7.trans (hn6.trans hn1))) (I7.updAt hL hs8 ho8) ?_
        refine { F7 with rd := fun y b hy => (by cases hy), loc := ⟨o8, es8, ep8, ?_, hD8, hS8⟩, cel := fun y c' hc' => ?_ }
        · obtain ⟨q, hq, hqe⟩ := List.mem_map.mp hL
          exact List.mem_append_left _ (List.mem_map.mpr ⟨q, hq, by unfold upd; rw [if_pos hqe]⟩)
        · obtain ⟨o9, v9, hN9, hD9⟩ := F7.cel y c' hc'
          refine ⟨o9, v9, ?_, hD9⟩
          have hne : c' ≠ env.locals := by
            rintro rfl
            have := I7.led_inj hN9 hN
            subst this
            rw [hD9] at hDt; cases hDt
          rcases List.mem_append.mp hN9 with hN9 | hN9
          · exact List.mem_append_left _ (List.mem_map.mpr ⟨_, hN9, by unfold upd; rw [if_neg hne]⟩)
          · exact List.mem_append_right _ hN9
end
end Fl

/-! the checker: that an abstract text is the given text (own work) -/
namespace Fl
open PySem PyProof.Rows PySem.W
set_option linter.unusedSimpArgs false

section
variable {B : Bs} {C : CallSem} {Ar : Around} {env : Env} {F : Value → Shared → Prop}

theorem eok_frz {e : E} {ex : Expr} (he : EOk B C Ar env e ex) : EOk B C Ar env (.frz e) ex := by
  intro Z N ρ σ m s K X Q F I Fr hX hx P
  rw [yU] at hx
  refine he Z N ρ σ m s _ X _ F I Fr hX hx ?_
  intro va v Z1 ρ1 σ1 h1 t1 hx1 e1 p1 I1 R1
  obtain ⟨i, hi, hx1⟩ := get_of hx1
  obtain ⟨xs, hxs, hk⟩ := get_of hx1
  obtain ⟨ob, hxs, ho⟩ := bindO_of hxs
  rw [oL_of ho] at hxs
  rw [asR_of hi] at R1
  obtain ⟨l, e, rfl⟩ := R1
  obtain ⟨_, o, hg, items, n, rfl, hs, hr⟩ := I1.live i l _ e hxs (fun e => nomatch e)
  have ex := I1.frz_ext (o := listObj items n) e hxs (fun e => nomatch e)
  exact P _ _ _ ρ1 _ h1 t1 hk (e1.trans ex) p1 (I1.frz e hxs (fun e => nomatch e) hg) ⟨l, items, n, rfl, by simp [Inv.zset], hs, hr.mono ex⟩

theorem eok_fdict0 {pos : Pos} (hsm : ∃ o, B.h0.get? sysModules = some o) : EOk B C Ar env .fdict0 (.Dict [] [] pos) := by
  intro Z N ρ σ m s K X Q F I Fr hX hx P
  have hne : (s.heap.objs.size == sysModules) = false := by
    obtain ⟨o, ho⟩ := hsm
    have := I.z_lt (I.base _ _ ho)
    exact beq_eq_false_iff_ne.mpr (Nat.ne_of_gt this)
  refine wpAny_Dict_empty ?_
  have I1 := I.push (dictObj [] 0) rfl
  have hg := Heap.get?_push_size s.heap (o := dictObj [] 0) rfl
  exact P _ _ _ ρ σ _ s.toks hx I1.freeze_ext (List.prefix_refl _) (I1.freezeX hg) ⟨_, 0, rfl, by simp [Inv.zset], hne⟩

theorem eok_bint {a : E} {e : Expr} {p pos : Pos} (O : BOk B) (hk : env.kindOf (Str.ofString "int") = some .globalImplicit) (hu : unstar e = true) (ha : EOk B C Ar env a e) : EOk B C Ar env (.bi .int [a]) (.Call (.Name (Str.ofString "int") p) [e] [] pos) := by
  intro Z N ρ σ m s K X Q F I Fr hX hx P
  rw [yS] at hx
  refine bcall (O.at "int" (.type "int") rfl) hk (by decide) (.inr ⟨_, rfl⟩) (.cons ha hu .nil) I Fr hX hx ?_
  intro as vs Z1 ρ1 σ1 h1 t1 _ hx1 e1 p1 I1 R1
  obtain ⟨a, ha, h⟩ := get_of hx1
  obtain ⟨b, hb, h⟩ := get_of h
  rw [one1_of ha] at R1
  obtain ⟨v, rfl, R2⟩ := reps1 R1
  rw [asB_of hb] at R2
  obtain rfl := R2
  refine call_int_bool ?_
  exact P _ _ Z1 ρ1 σ1 _ _ h e1 p1 I1 ⟨_, rfl⟩

theorem swaps_no {ex : Expr} {t : Option Expr} {l : Nat} (h : (Nat.ble 8 ex.ctorIdx && Nat.ble ex.ctorIdx 10) = false) : swapsWith ex t l env = pure false := by
  cases ex <;> first | rfl | exact Bool.noConfusion h
theorem swaps_sub {ex o i : Expr} {p : Pos} {l : Nat} : swapsWith ex (some (.Subscript o i p)) l env = pure false := by cases ex <;> rfl
theorem swaps_at {ex o : Expr} {f : Str} {p : Pos} {l : Nat} : swapsWith ex (some (.Attribute o f p)) l env = pure false := by cases ex <;> rfl
end

structure Info where
  fns : List String
  meths : List (String × String)
  clss : List String
  consts : List (String × Int)
  rank : String → Nat

structure InfoOk (B : Bs) (Inf : Info) : Prop where
  b : BOk B
  c : COk B
  fn : ∀ f ∈ Inf.fns, ∃ fa, B.fn f = some fa ∧ GName B (Str.ofString f) (.ref fa) ∧ keepIn B.K (.ref fa) = true
  cls : ∀ c C, B.cls c = some C → c ∈ Inf.clss
  clsIn : ∀ c ∈ Inf.clss, ∃ Cl fI, B.cls c = some Cl ∧ B.fn (c ++ ".__init__") = some fI ∧ makesIn B.K Cl = true ∧ findIn B.K (.ref Cl) "__init__" = some (some (.ref fI)) ∧ typeIn B.K (.ref fI) = some (.type "function") ∧ keepIn B.K (.ref Cl) = true ∧ GName B (Str.ofString c) (.ref Cl)
  meth : ∀ c f C, (c, f) ∈ Inf.meths → B.cls c = some C → ∃ fa, B.fn (c ++ "." ++ f) = some fa ∧ keepIn B.K (.ref fa) = true ∧ findIn B.K (.ref C) (Str.ofString f) = some (some (.ref fa)) ∧ typeIn B.K (.ref fa) = some (.type "function") ∧ f ∉ fieldNames c
  con : ∀ x i, (x, i) ∈ Inf.consts → ∃ t, GName B (Str.ofString x) (.int i t)
  x : ∃ FE, XOk B FE

noncomputable def nameOk (sc : Scope) (nm : String) : Bool := ownK (sc.names.lookup (Str.ofString nm)) && nm != ".0" && !(Str.ofString nm == ("__debug__" : Str)) && !(Str.ofString nm == ("__classdict__" : Str))
noncomputable def globOk (sc : Scope) (nm : String) : Bool := sc.names.lookup (Str.ofString nm) == some .globalImplicit && !(Str.ofString nm == ("__debug__" : Str))
noncomputable def opOf : Op → Operator
  | .add => .Add | .sub => .Sub | .mul => .Mult | .fdiv => .FloorDiv | .mod => .Mod | .pow => .Pow
noncomputable def isComp (e : Expr) : Bool := Nat.ble 8 e.ctorIdx && Nat.ble e.ctorIdx 10
noncomputable def isSetD (e : Expr) : Bool := Nat.beq e.ctorIdx 7
noncomputable def swapB (sc : Scope) (ex : Expr) (t : Str) (p : Pos) : Bool := match ex with
  | .ListComp _ _ s _ => sc.names.lookup t == some .local && p.line == ex.pos.line && !(s.names.any fun (n, k) => n == t && (k == .local || k == .cell))
  | _ => false
noncomputable def clOk (sc : Scope) (c : Cl) : Bool := (clVal c).isSome && sc.names.lookup (clStr c) == some .globalImplicit

/-! what an expression is -/
theorem nope {α : Type} {x : α} {P : Prop} (h : (none : Option α) = some x) : P := nomatch h
theorem nopeB {P : Prop} (h : false = true) : P := nomatch h
noncomputable def anyO {α : Type} (o : Option α) (p : α → Bool) : Bool := match o with
  | some x => p x
  | none => false
theorem anyO_of {α : Type} {o : Option α} {p : α → Bool} (h : anyO o p = true) : ∃ x, o = some x ∧ p x = true := by
  cases o with
  | none => cases h
  | some x => exact ⟨x, rfl, h⟩
theorem sj {α : Type} {a x : α} {P : α → Prop} (p : P a) (h : some a = some x) : P x := Option.some.inj h ▸ p
noncomputable def atE {α : Type} (k : Nat) (e : Expr) (f : e.ctorIdx = k → Option α) : Option α := if h : e.ctorIdx = k then f h else none
theorem atE_el {α : Type} {k : Nat} {e : Expr} {f : e.ctorIdx = k → Option α} {x : α} {P : Prop} (h : atE k e f = some x) (g : ∀ q, f q = some x → P) : P := by
  by_cases q : e.ctorIdx = k
  · exact g q ((dif_pos q).symm.trans h)
  · exact nope ((dif_neg q).symm.trans h)
noncomputable def atS {α : Type} (k : Nat) (e : Stmt) (f : e.ctorIdx = k → Option α) : Option α := if h : e.ctorIdx = k then f h else none
theorem atS_el {α : Type} {k : Nat} {e : Stmt} {f : e.ctorIdx = k → Option α} {x : α} {P : Prop} (h : atS k e f = some x) (g : ∀ q, f q = some x → P) : P := by
  by_cases q : e.ctorIdx = k
  · exact g q ((dif_pos q).symm.trans h)
  · exact nope ((dif_neg q).symm.trans h)
noncomputable def aConst (e : Expr) : Option (Const) := atE 19 e fun h => Expr.Constant.elim (motive_1 := fun _ => Option (Const)) e h fun c _ _ => some c
theorem aConst_of {ex : Expr} {x : Const} (h : aConst ex = some x) : ∃ k p, ex = .Constant x k p :=
  atE_el h fun q => Expr.Constant.elim (motive_1 := fun e => ∀ q : e.ctorIdx = 19, Expr.Constant.elim (motive_1 := fun _ => Option (Const)) e q (fun c _ _ => some c) = some x → ∃ k p, e = .Constant x k p) ex q (fun v0 v1 v2 _ => sj (P := fun (x : Const) => ∃ k p, (Expr.Constant v0 v1 v2) = .Constant x k p) ⟨_, _, rfl⟩) q
noncomputable def aName (e : Expr) : Option (Str × Pos) := atE 23 e fun h => Expr.Name.elim (motive_1 := fun _ => Option (Str × Pos)) e h fun s p => some (s, p)
theorem aName_of {ex : Expr} {x : Str × Pos} (h : aName ex = some x) : ex = .Name x.1 x.2 :=
  atE_el h fun q => Expr.Name.elim (motive_1 := fun e => ∀ q : e.ctorIdx = 23, Expr.Name.elim (motive_1 := fun _ => Option (Str × Pos)) e q (fun s p => some (s, p)) = some x → e = .Name x.1 x.2) ex q (fun v0 v1 _ => sj (P := fun (x : Str × Pos) => (Expr.Name v0 v1) = .Name x.1 x.2) rfl) q
noncomputable def aBin (e : Expr) : Option (Expr × Operator × Expr) := atE 2 e fun h => Expr.BinOp.elim (motive_1 := fun _ => Option (Expr × Operator × Expr)) e h fun l o r _ => some (l, o, r)
theorem aBin_of {ex : Expr} {x : Expr × Operator × Expr} (h : aBin ex = some x) : ∃ p, ex = .BinOp x.1 x.2.1 x.2.2 p :=
  atE_el h fun q => Expr.BinOp.elim (motive_1 := fun e => ∀ q : e.ctorIdx = 2, Expr.BinOp.elim (motive_1 := fun _ => Option (Expr × Operator × Expr)) e q (fun l o r _ => some (l, o, r)) = some x → ∃ p, e = .BinOp x.1 x.2.1 x.2.2 p) ex q (fun v0 v1 v2 v3 _ => sj (P := fun (x : Expr × Operator × Expr) => ∃ p, (Expr.BinOp v0 v1 v2 v3) = .BinOp x.1 x.2.1 x.2.2 p) ⟨_, rfl⟩) q
noncomputable def aUn (e : Expr) : Option (UnaryOp × Expr) := atE 3 e fun h => Expr.UnaryOp.elim (motive_1 := fun _ => Option (UnaryOp × Expr)) e h fun o e _ => some (o, e)
theorem aUn_of {ex : Expr} {x : UnaryOp × Expr} (h : aUn ex = some x) : ∃ p, ex = .UnaryOp x.1 x.2 p :=
  atE_el h fun q => Expr.UnaryOp.elim (motive_1 := fun e => ∀ q : e.ctorIdx = 3, Expr.UnaryOp.elim (motive_1 := fun _ => Option (UnaryOp × Expr)) e q (fun o e _ => some (o, e)) = some x → ∃ p, e = .UnaryOp x.1 x.2 p) ex q (fun v0 v1 v2 _ => sj (P := fun (x : UnaryOp × Expr) => ∃ p, (Expr.UnaryOp v0 v1 v2) = .UnaryOp x.1 x.2 p) ⟨_, rfl⟩) q
noncomputable def aBool (e : Expr) : Option (BoolOp × List Expr) := atE 0 e fun h => Expr.BoolOp.elim (motive_1 := fun _ => Option (BoolOp × List Expr)) e h fun o es _ => some (o, es)
theorem aBool_of {ex : Expr} {x : BoolOp × List Expr} (h : aBool ex = some x) : ∃ p, ex = .BoolOp x.1 x.2 p :=
  atE_el h fun q => Expr.BoolOp.elim (motive_1 := fun e => ∀ q : e.ctorIdx = 0, Expr.BoolOp.elim (motive_1 := fun _ => Option (BoolOp × List Expr)) e q (fun o es _ => some (o, es)) = some x → ∃ p, e = .BoolOp x.1 x.2 p) ex q (fun v0 v1 v2 _ => sj (P := fun (x : BoolOp × List Expr) => ∃ p, (Expr.BoolOp v0 v1 v2) = .BoolOp x.1 x.2 p) ⟨_, rfl⟩) q
noncomputable def aCmp (e : Expr) : Option (Expr × List CmpOp × List Expr) := atE 15 e fun h => Expr.Compare.elim (motive_1 := fun _ => Option (Expr × List CmpOp × List Expr)) e h fun l os rs _ => some (l, os, rs)
theorem aCmp_of {ex : Expr} {x : Expr × List CmpOp × List Expr} (h : aCmp ex = some x) : ∃ p, ex = .Compare x.1 x.2.1 x.2.2 p :=
  atE_el h fun q => Expr.Compare.elim (motive_1 := fun e => ∀ q : e.ctorIdx = 15, Expr.Compare.elim (motive_1 := fun _ => Option (Expr × List CmpOp × List Expr)) e q (fun l os rs _ => some (l, os, rs)) = some x → ∃ p, e = .Compare x.1 x.2.1 x.2.2 p) ex q (fun v0 v1 v2 v3 _ => sj (P := fun (x : Expr × List CmpOp × List Expr) => ∃ p, (Expr.Compare v0 v1 v2 v3) = .Compare x.1 x.2.1 x.2.2 p) ⟨_, rfl⟩) q
noncomputable def aIf (e : Expr) : Option (Expr × Expr × Expr) := atE 5 e fun h => Expr.IfExp.elim (motive_1 := fun _ => Option (Expr × Expr × Expr)) e h fun c a b _ => some (c, a, b)
theorem aIf_of {ex : Expr} {x : Expr × Expr × Expr} (h : aIf ex = some x) : ∃ p, ex = .IfExp x.1 x.2.1 x.2.2 p :=
  atE_el h fun q => Expr.IfExp.elim (motive_1 := fun e => ∀ q : e.ctorIdx = 5, Expr.IfExp.elim (motive_1 := fun _ => Option (Expr × Expr × Expr)) e q (fun c a b _ => some (c, a, b)) = some x → ∃ p, e = .IfExp x.1 x.2.1 x.2.2 p) ex q (fun v0 v1 v2 v3 _ => sj (P := fun (x : Expr × Expr × Expr) => ∃ p, (Expr.IfExp v0 v1 v2 v3) = .IfExp x.1 x.2.1 x.2.2 p) ⟨_, rfl⟩) q
noncomputable def aTup (e : Expr) : Option (List Expr) := atE 25 e fun h => Expr.Tuple.elim (motive_1 := fun _ => Option (List Expr)) e h fun es _ _ => some es
theorem aTup_of {ex : Expr} {x : List Expr} (h : aTup ex = some x) : ∃ k p, ex = .Tuple x k p :=
  atE_el h fun q => Expr.Tuple.elim (motive_1 := fun e => ∀ q : e.ctorIdx = 25, Expr.Tuple.elim (motive_1 := fun _ => Option (List Expr)) e q (fun es _ _ => some es) = some x → ∃ k p, e = .Tuple x k p) ex q (fun v0 v1 v2 _ => sj (P := fun (x : List Expr) => ∃ k p, (Expr.Tuple v0 v1 v2) = .Tuple x k p) ⟨_, _, rfl⟩) q
noncomputable def aLst (e : Expr) : Option (List Expr) := atE 24 e fun h => Expr.List.elim (motive_1 := fun _ => Option (List Expr)) e h fun es _ => some es
theorem aLst_of {ex : Expr} {x : List Expr} (h : aLst ex = some x) : ∃ p, ex = .List x p :=
  atE_el h fun q => Expr.List.elim (motive_1 := fun e => ∀ q : e.ctorIdx = 24, Expr.List.elim (motive_1 := fun _ => Option (List Expr)) e q (fun es _ => some es) = some x → ∃ p, e = .List x p) ex q (fun v0 v1 _ => sj (P := fun (x : List Expr) => ∃ p, (Expr.List v0 v1) = .List x p) ⟨_, rfl⟩) q
noncomputable def aSub (e : Expr) : Option (Expr × Expr) := atE 21 e fun h => Expr.Subscript.elim (motive_1 := fun _ => Option (Expr × Expr)) e h fun o i _ => some (o, i)
theorem aSub_of {ex : Expr} {x : Expr × Expr} (h : aSub ex = some x) : ∃ p, ex = .Subscript x.1 x.2 p :=
  atE_el h fun q => Expr.Subscript.elim (motive_1 := fun e => ∀ q : e.ctorIdx = 21, Expr.Subscript.elim (motive_1 := fun _ => Option (Expr × Expr)) e q (fun o i _ => some (o, i)) = some x → ∃ p, e = .Subscript x.1 x.2 p) ex q (fun v0 v1 v2 _ => sj (P := fun (x : Expr × Expr) => ∃ p, (Expr.Subscript v0 v1 v2) = .Subscript x.1 x.2 p) ⟨_, rfl⟩) q
noncomputable def aAttr (e : Expr) : Option (Expr × Str × Pos) := atE 20 e fun h => Expr.Attribute.elim (motive_1 := fun _ => Option (Expr × Str × Pos)) e h fun o s p => some (o, s, p)
theorem aAttr_of {ex : Expr} {x : Expr × Str × Pos} (h : aAttr ex = some x) : ex = .Attribute x.1 x.2.1 x.2.2 :=
  atE_el h fun q => Expr.Attribute.elim (motive_1 := fun e => ∀ q : e.ctorIdx = 20, Expr.Attribute.elim (motive_1 := fun _ => Option (Expr × Str × Pos)) e q (fun o s p => some (o, s, p)) = some x → e = .Attribute x.1 x.2.1 x.2.2) ex q (fun v0 v1 v2 _ => sj (P := fun (x : Expr × Str × Pos) => (Expr.Attribute v0 v1 v2) = .Attribute x.1 x.2.1 x.2.2) rfl) q
noncomputable def aCall (e : Expr) : Option (Expr × List Expr × List Keyword × Pos) := atE 16 e fun h => Expr.Call.elim (motive_1 := fun _ => Option (Expr × List Expr × List Keyword × Pos)) e h fun f xs ks p => some (f, xs, ks, p)
theorem aCall_of {ex : Expr} {x : Expr × List Expr × List Keyword × Pos} (h : aCall ex = some x) : ex = .Call x.1 x.2.1 x.2.2.1 x.2.2.2 :=
  atE_el h fun q => Expr.Call.elim (motive_1 := fun e => ∀ q : e.ctorIdx = 16, Expr.Call.elim (motive_1 := fun _ => Option (Expr × List Expr × List Keyword × Pos)) e q (fun f xs ks p => some (f, xs, ks, p)) = some x → e = .Call x.1 x.2.1 x.2.2.1 x.2.2.2) ex q (fun v0 v1 v2 v3 _ => sj (P := fun (x : Expr × List Expr × List Keyword × Pos) => (Expr.Call v0 v1 v2 v3) = .Call x.1 x.2.1 x.2.2.1 x.2.2.2) rfl) q
noncomputable def aComp (e : Expr) : Option (Expr × List Comprehension × Scope) := atE 8 e fun h => Expr.ListComp.elim (motive_1 := fun _ => Option (Expr × List Comprehension × Scope)) e h fun e gs sc _ => some (e, gs, sc)
theorem aComp_of {ex : Expr} {x : Expr × List Comprehension × Scope} (h : aComp ex = some x) : ∃ p, ex = .ListComp x.1 x.2.1 x.2.2 p :=
  atE_el h fun q => Expr.ListComp.elim (motive_1 := fun e => ∀ q : e.ctorIdx = 8, Expr.ListComp.elim (motive_1 := fun _ => Option (Expr × List Comprehension × Scope)) e q (fun e gs sc _ => some (e, gs, sc)) = some x → ∃ p, e = .ListComp x.1 x.2.1 x.2.2 p) ex q (fun v0 v1 v2 v3 _ => sj (P := fun (x : Expr × List Comprehension × Scope) => ∃ p, (Expr.ListComp v0 v1 v2 v3) = .ListComp x.1 x.2.1 x.2.2 p) ⟨_, rfl⟩) q
noncomputable def aSlc (e : Expr) : Option (Option Expr × Option Expr × Option Expr) := atE 26 e fun h => Expr.Slice.elim (motive_1 := fun _ => Option (Option Expr × Option Expr × Option Expr)) e h fun l h s _ => some (l, h, s)
theorem aSlc_of {ex : Expr} {x : Option Expr × Option Expr × Option Expr} (h : aSlc ex = some x) : ∃ p, ex = .Slice x.1 x.2.1 x.2.2 p :=
  atE_el h fun q => Expr.Slice.elim (motive_1 := fun e => ∀ q : e.ctorIdx = 26, Expr.Slice.elim (motive_1 := fun _ => Option (Option Expr × Option Expr × Option Expr)) e q (fun l h s _ => some (l, h, s)) = some x → ∃ p, e = .Slice x.1 x.2.1 x.2.2 p) ex q (fun v0 v1 v2 v3 _ => sj (P := fun (x : Option Expr × Option Expr × Option Expr) => ∃ p, (Expr.Slice v0 v1 v2 v3) = .Slice x.1 x.2.1 x.2.2 p) ⟨_, rfl⟩) q
noncomputable def aDict (e : Expr) : Option (List (Option Expr) × List Expr) := atE 6 e fun h => Expr.Dict.elim (motive_1 := fun _ => Option (List (Option Expr) × List Expr)) e h fun ks vs _ => some (ks, vs)
theorem aDict_of {ex : Expr} {x : List (Option Expr) × List Expr} (h : aDict ex = some x) : ∃ p, ex = .Dict x.1 x.2 p :=
  atE_el h fun q => Expr.Dict.elim (motive_1 := fun e => ∀ q : e.ctorIdx = 6, Expr.Dict.elim (motive_1 := fun _ => Option (List (Option Expr) × List Expr)) e q (fun ks vs _ => some (ks, vs)) = some x → ∃ p, e = .Dict x.1 x.2 p) ex q (fun v0 v1 v2 _ => sj (P := fun (x : List (Option Expr) × List Expr) => ∃ p, (Expr.Dict v0 v1 v2) = .Dict x.1 x.2 p) ⟨_, rfl⟩) q
noncomputable def bWhl (e : Stmt) : Option (Expr × List Stmt × List Stmt) := atS 11 e fun h => Stmt.While.elim (motive_2 := fun _ => Option (Expr × List Stmt × List Stmt)) e h fun c b o _ => some (c, b, o)
theorem bWhl_of {st : Stmt} {x : Expr × List Stmt × List Stmt} (h : bWhl st = some x) : ∃ p, st = .While x.1 x.2.1 x.2.2 p :=
  atS_el h fun q => Stmt.While.elim (motive_2 := fun e => ∀ q : e.ctorIdx = 11, Stmt.While.elim (motive_2 := fun _ => Option (Expr × List Stmt × List Stmt)) e q (fun c b o _ => some (c, b, o)) = some x → ∃ p, e = .While x.1 x.2.1 x.2.2 p) st q (fun v0 v1 v2 v3 _ => sj (P := fun (x : Expr × List Stmt × List Stmt) => ∃ p, (Stmt.While v0 v1 v2 v3) = .While x.1 x.2.1 x.2.2 p) ⟨_, rfl⟩) q
noncomputable def bAsg (e : Stmt) : Option (List Expr × Expr) := atS 5 e fun h => Stmt.Assign.elim (motive_2 := fun _ => Option (List Expr × Expr)) e h fun ts e _ => some (ts, e)
theorem bAsg_of {st : Stmt} {x : List Expr × Expr} (h : bAsg st = some x) : ∃ p, st = .Assign x.1 x.2 p :=
  atS_el h fun q => Stmt.Assign.elim (motive_2 := fun e => ∀ q : e.ctorIdx = 5, Stmt.Assign.elim (motive_2 := fun _ => Option (List Expr × Expr)) e q (fun ts e _ => some (ts, e)) = some x → ∃ p, e = .Assign x.1 x.2 p) st q (fun v0 v1 v2 _ => sj (P := fun (x : List Expr × Expr) => ∃ p, (Stmt.Assign v0 v1 v2) = .Assign x.1 x.2 p) ⟨_, rfl⟩) q
noncomputable def bExp (e : Stmt) : Option (Expr) := atS 24 e fun h => Stmt.Expr.elim (motive_2 := fun _ => Option (Expr)) e h fun e _ => some e
theorem bExp_of {st : Stmt} {x : Expr} (h : bExp st = some x) : ∃ p, st = .Expr x p :=
  atS_el h fun q => Stmt.Expr.elim (motive_2 := fun e => ∀ q : e.ctorIdx = 24, Stmt.Expr.elim (motive_2 := fun _ => Option (Expr)) e q (fun e _ => some e) = some x → ∃ p, e = .Expr x p) st q (fun v0 v1 _ => sj (P := fun (x : Expr) => ∃ p, (Stmt.Expr v0 v1) = .Expr x p) ⟨_, rfl⟩) q
noncomputable def bIf (e : Stmt) : Option (Expr × List Stmt × List Stmt) := atS 12 e fun h => Stmt.If.elim (motive_2 := fun _ => Option (Expr × List Stmt × List Stmt)) e h fun c t f _ => some (c, t, f)
theorem bIf_of {st : Stmt} {x : Expr × List Stmt × List Stmt} (h : bIf st = some x) : ∃ p, st = .If x.1 x.2.1 x.2.2 p :=
  atS_el h fun q => Stmt.If.elim (motive_2 := fun e => ∀ q : e.ctorIdx = 12, Stmt.If.elim (motive_2 := fun _ => Option (Expr × List Stmt × List Stmt)) e q (fun c t f _ => some (c, t, f)) = some x → ∃ p, e = .If x.1 x.2.1 x.2.2 p) st q (fun v0 v1 v2 v3 _ => sj (P := fun (x : Expr × List Stmt × List Stmt) => ∃ p, (Stmt.If v0 v1 v2 v3) = .If x.1 x.2.1 x.2.2 p) ⟨_, rfl⟩) q
noncomputable def bFor (e : Stmt) : Option (Expr × Expr × List Stmt × List Stmt) := atS 9 e fun h => Stmt.For.elim (motive_2 := fun _ => Option (Expr × Expr × List Stmt × List Stmt)) e h fun t e b o _ => some (t, e, b, o)
theorem bFor_of {st : Stmt} {x : Expr × Expr × List Stmt × List Stmt} (h : bFor st = some x) : ∃ p, st = .For x.1 x.2.1 x.2.2.1 x.2.2.2 p :=
  atS_el h fun q => Stmt.For.elim (motive_2 := fun e => ∀ q : e.ctorIdx = 9, Stmt.For.elim (motive_2 := fun _ => Option (Expr × Expr × List Stmt × List Stmt)) e q (fun t e b o _ => some (t, e, b, o)) = some x → ∃ p, e = .For x.1 x.2.1 x.2.2.1 x.2.2.2 p) st q (fun v0 v1 v2 v3 v4 _ => sj (P := fun (x : Expr × Expr × List Stmt × List Stmt) => ∃ p, (Stmt.For v0 v1 v2 v3 v4) = .For x.1 x.2.1 x.2.2.1 x.2.2.2 p) ⟨_, rfl⟩) q
noncomputable def bRet (e : Stmt) : Option (Option Expr) := atS 3 e fun h => Stmt.Return.elim (motive_2 := fun _ => Option (Option Expr)) e h fun e _ => some e
theorem bRet_of {st : Stmt} {x : Option Expr} (h : bRet st = some x) : ∃ p, st = .Return x p :=
  atS_el h fun q => Stmt.Return.elim (motive_2 := fun e => ∀ q : e.ctorIdx = 3, Stmt.Return.elim (motive_2 := fun _ => Option (Option Expr)) e q (fun e _ => some e) = some x → ∃ p, e = .Return x p) st q (fun v0 v1 _ => sj (P := fun (x : Option Expr) => ∃ p, (Stmt.Return v0 v1) = .Return x p) ⟨_, rfl⟩) q
noncomputable def bRaise (e : Stmt) : Option (Option Expr × Option Expr) := atS 16 e fun h => Stmt.Raise.elim (motive_2 := fun _ => Option (Option Expr × Option Expr)) e h fun a b _ => some (a, b)
theorem bRaise_of {st : Stmt} {x : Option Expr × Option Expr} (h : bRaise st = some x) : ∃ p, st = .Raise x.1 x.2 p :=
  atS_el h fun q => Stmt.Raise.elim (motive_2 := fun e => ∀ q : e.ctorIdx = 16, Stmt.Raise.elim (motive_2 := fun _ => Option (Option Expr × Option Expr)) e q (fun a b _ => some (a, b)) = some x → ∃ p, e = .Raise x.1 x.2 p) st q (fun v0 v1 v2 _ => sj (P := fun (x : Option Expr × Option Expr) => ∃ p, (Stmt.Raise v0 v1 v2) = .Raise x.1 x.2 p) ⟨_, rfl⟩) q
noncomputable def bTry (e : Stmt) : Option (List Stmt × List ExceptHandler × List Stmt × List Stmt) := atS 17 e fun h => Stmt.Try.elim (motive_2 := fun _ => Option (List Stmt × List ExceptHandler × List Stmt × List Stmt)) e h fun a b c d _ => some (a, b, c, d)
theorem bTry_of {st : Stmt} {x : List Stmt × List ExceptHandler × List Stmt × List Stmt} (h : bTry st = some x) : ∃ p, st = .Try x.1 x.2.1 x.2.2.1 x.2.2.2 p :=
  atS_el h fun q => Stmt.Try.elim (motive_2 := fun e => ∀ q : e.ctorIdx = 17, Stmt.Try.elim (motive_2 := fun _ => Option (List Stmt × List ExceptHandler × List Stmt × List Stmt)) e q (fun a b c d _ => some (a, b, c, d)) = some x → ∃ p, e = .Try x.1 x.2.1 x.2.2.1 x.2.2.2 p) st q (fun v0 v1 v2 v3 v4 _ => sj (P := fun (x : List Stmt × List ExceptHandler × List Stmt × List Stmt) => ∃ p, (Stmt.Try v0 v1 v2 v3 v4) = .Try x.1 x.2.1 x.2.2.1 x.2.2.2 p) ⟨_, rfl⟩) q
noncomputable def hParts : ExceptHandler → Option Expr × Option Str × List Stmt
  | .ExceptHandler t n b _ => (t, n, b)
theorem hParts_of {h : ExceptHandler} {t n b} (e : hParts h = (t, n, b)) : ∃ p, h = .ExceptHandler t n b p := by
  cases h; cases e; exact ⟨_, rfl⟩
/-! one word each, the rest by f (expressions), t (tests), l (lists), es (rows of expressions) -/
noncomputable def cC : V → Const → Bool
  | .int i, .int j => decide (i = j)
  | .bool b, .bool b' => b == b'
  | .none, .none => true
  | .str s, .str t => decide (t = Str.ofString s)
  | _, _ => false
noncomputable def cW (v : V) (ex : Expr) : Bool := anyO (aConst ex) fun c => cC v c
noncomputable def xW (sc : Scope) (nm : String) (ex : Expr) : Bool := anyO (aName ex) fun x => decide (x.1 = Str.ofString nm) && nameOk sc nm
noncomputable def gW (Inf : Info) (sc : Scope) (nm : String) (i : Int) (ex : Expr) : Bool := anyO (aName ex) fun x => decide (x.1 = Str.ofString nm) && globOk sc nm && Inf.consts.contains (nm, i)
noncomputable def binW (f : E → Expr → Bool) (o : Op) (a b : E) (ex : Expr) : Bool := anyO (aBin ex) fun x => decide (x.2.1 = opOf o) && f a x.1 && f b x.2.2
noncomputable def negW (f : E → Expr → Bool) (a : E) (ex : Expr) : Bool := anyO (aUn ex) fun x => decide (x.1 = .USub) && f a x.2
noncomputable def catW (f : E → Expr → Bool) (a b : E) (ex : Expr) : Bool := anyO (aBin ex) fun x => decide (x.2.1 = .Add) && f a x.1 && f b x.2.2
noncomputable def notW (f : E → Expr → Bool) (a : E) (ex : Expr) : Bool := anyO (aUn ex) fun x => decide (x.1 = .Not) && f a x.2
noncomputable def andW (es : List E → List Expr → Bool) (irs : List E) (ex : Expr) : Bool := anyO (aBool ex) fun x => decide (x.1 = .And) && es irs x.2
noncomputable def orW (es : List E → List Expr → Bool) (irs : List E) (ex : Expr) : Bool := anyO (aBool ex) fun x => decide (x.1 = .Or) && es irs x.2
noncomputable def cmpW (f : E → Expr → Bool) (a : E) (o : Cmp) (b : E) (ex : Expr) : Bool := anyO (aCmp ex) fun x => anyO (one1 x.2.1) fun op => anyO (one1 x.2.2) fun y => decide (op = cmpOf o) && !behindInMarks op y && f a x.1 && f b y
noncomputable def cmp2W (f : E → Expr → Bool) (a : E) (o : Cmp) (b : E) (o' : Cmp) (c : E) (ex : Expr) : Bool := anyO (aCmp ex) fun x => anyO (two2 x.2.1) fun op => anyO (two2 x.2.2) fun y => decide (op.1 = cmpOf o) && decide (op.2 = cmpOf o') && !lastMarks [op.1, op.2] [y.1, y.2] && f a x.1 && f b y.1 && f c y.2
noncomputable def iteW (t f : E → Expr → Bool) (c a b : E) (ex : Expr) : Bool := anyO (aIf ex) fun x => t c x.1 && f a x.2.1 && f b x.2.2
noncomputable def isNilL (ex : Expr) : Bool := anyO (aLst ex) fun xs => xs.isEmpty
noncomputable def isNilD (ex : Expr) : Bool := anyO (aDict ex) fun x => x.1.isEmpty && x.2.isEmpty
noncomputable def tupW (es : List E → List Expr → Bool) (irs : List E) (ex : Expr) : Bool := anyO (aTup ex) fun xs => decide (irs.length < 1000) && es irs xs
noncomputable def itemW (f : E → Expr → Bool) (a i : E) (ex : Expr) : Bool := anyO (aSub ex) fun x => (aSlc x.2).isNone && f a x.1 && f i x.2
noncomputable def attrW (Inf : Info) (f : E → Expr → Bool) (a : E) (fl : String) (ex : Expr) : Bool := anyO (aAttr ex) fun x => decide (x.2.1 = Str.ofString fl) && notSuper x.1 && Inf.clss.all (fun c => (fieldNames c).contains fl) && f a x.1
/-- a call of a name, no keywords -/
noncomputable def aFn (ex : Expr) : Option (Str × List Expr) := (aCall ex).bind fun x => if x.2.2.1.isEmpty then (aName x.1).map fun s => (s.1, x.2.1) else none
theorem aFn_of {ex : Expr} {x : Str × List Expr} (h : aFn ex = some x) : ∃ p q, ex = .Call (.Name x.1 p) x.2 [] q := by
  unfold aFn at h
  obtain ⟨c, hc, h⟩ := Option.bind_eq_some_iff.mp h
  by_cases hk : c.2.2.1.isEmpty
  · rw [if_pos hk] at h
    obtain ⟨s, hs, rfl⟩ := Option.map_eq_some_iff.mp h
    rw [aCall_of hc, aName_of hs, List.isEmpty_iff.mp hk]
    exact ⟨_, _, rfl⟩
  · rw [if_neg hk] at h; cases h
/-- a call of an attribute, no keywords -/
noncomputable def aMe (ex : Expr) : Option ((Expr × Str × Pos) × List Expr × Pos) := (aCall ex).bind fun x => if x.2.2.1.isEmpty then (aAttr x.1).map fun s => (s, x.2.1, x.2.2.2) else none
theorem aMe_of {ex : Expr} {x : (Expr × Str × Pos) × List Expr × Pos} (h : aMe ex = some x) : ex = .Call (.Attribute x.1.1 x.1.2.1 x.1.2.2) x.2.1 [] x.2.2 := by
  unfold aMe at h
  obtain ⟨c, hc, h⟩ := Option.bind_eq_some_iff.mp h
  by_cases hk : c.2.2.1.isEmpty
  · rw [if_pos hk] at h
    obtain ⟨s, hs, rfl⟩ := Option.map_eq_some_iff.mp h
    rw [aCall_of hc, aAttr_of hs, List.isEmpty_iff.mp hk]
  · rw [if_neg hk] at h; cases h
noncomputable def callW (Inf : Info) (r : Nat) (sc : Scope) (es : List E → List Expr → Bool) (g : String) (irs : List E) (ex : Expr) : Bool := anyO (aFn ex) fun x => decide (x.1 = Str.ofString g) && globOk sc g && Inf.fns.contains g && decide (Inf.rank g < r) && es irs x.2
noncomputable def newW (Inf : Info) (r : Nat) (sc : Scope) (es : List E → List Expr → Bool) (c : String) (irs : List E) (ex : Expr) : Bool := anyO (aFn ex) fun x => decide (x.1 = Str.ofString c) && globOk sc c && Inf.clss.contains c && decide (Inf.rank (c ++ ".__init__") < r) && es irs x.2
noncomputable def methW (Inf : Info) (r : Nat) (f : E → Expr → Bool) (es : List E → List Expr → Bool) (a : E) (g : String) (irs : List E) (ex : Expr) : Bool := anyO (aMe ex) fun x => decide (x.1.2.1 = Str.ofString g) && notSuper x.1.1 && (x.1.2.2.endLine == x.2.2.line) && decide (x.2.1.length < 30) && Inf.clss.all (fun c => Inf.meths.contains (c, g) && decide (Inf.rank (c ++ "." ++ g) < r)) && f a x.1.1 && es irs x.2.1
noncomputable def lmW (f : E → Expr → Bool) (es : List E → List Expr → Bool) (a : E) (g : Lm) (irs : List E) (ex : Expr) : Bool := anyO (aMe ex) fun x => decide (x.1.2.1 = Str.ofString (lmStr g)) && notSuper x.1.1 && (x.1.2.2.endLine == x.2.2.line) && decide (x.2.1.length < 30) && f a x.1.1 && es irs x.2.1
noncomputable def isiW (sc : Scope) (f : E → Expr → Bool) (a : E) (c : Cl) (ex : Expr) : Bool := anyO (aFn ex) fun x => anyO (two2 x.2) fun y => anyO (aName y.2) fun z => decide (x.1 = Str.ofString "isinstance") && decide (z.1 = clStr c) && clOk sc c && decide (sc.names.lookup (Str.ofString "isinstance") = some .globalImplicit) && unstar y.1 && f a y.1
noncomputable def biW (sc : Scope) (es : List E → List Expr → Bool) (g : Bi) (irs : List E) (ex : Expr) : Bool := anyO (aFn ex) fun x => decide (x.1 = Str.ofString (biStr g)) && decide (sc.names.lookup x.1 = some .globalImplicit) && es irs x.2
noncomputable def dispW (es : List E → List Expr → Bool) (irs : List E) (ex : Expr) : Bool := anyO (aLst ex) fun xs => decide (irs.length < 1000) && es irs xs
noncomputable def tg1 : Tgt → Option String
  | .one x => some x
theorem tg1_of {t : Tgt} {x : String} (h : tg1 t = some x) : t = .one x := by
  cases t <;> cases h; rfl
noncomputable def compW (sc : Scope) (f : Scope → E → Expr → Bool) (ts : Scope → List E → List Expr → Bool) (elt : E) (t : Tgt) (it : E) (ifs : List E) (ex : Expr) : Bool := anyO (aComp ex) fun x => anyO (one1 x.2.1) fun g => anyO (aName g.target) fun s => anyO (tg1 t) fun nm =>
  decide (s.1 = Str.ofString nm) && decide (g.is_async = 0) && compOk x.2.2 sc nm && !isSetD g.iter && f sc it g.iter && f (relabelS x.2.2 sc) elt x.1 && ts (relabelS x.2.2 sc) ifs g.ifs
noncomputable def fn1W (sc : Scope) (nm : String) (f : E → Expr → Bool) (e : E) (ex : Expr) : Bool := anyO (aFn ex) fun x => anyO (one1 x.2) fun y => decide (x.1 = Str.ofString nm) && decide (sc.names.lookup x.1 = some .globalImplicit) && unstar y && f e y
noncomputable def oW (f : E → Expr → Bool) : Option E → Option Expr → Bool
  | none, none => true
  | some e, some x => f e x
  | _, _ => false
noncomputable def sliceW (f : E → Expr → Bool) (a : E) (lo hi : Option E) (ex : Expr) : Bool := anyO (aSub ex) fun x => anyO (aSlc x.2) fun s => s.2.2.isNone && f a x.1 && oW f lo s.1 && oW f hi s.2.1

/-! where something is handled: words alone -/
noncomputable def isxW (sc : Scope) (f : E → Expr → Bool) (a : E) (c : String) (ex : Expr) : Bool := anyO (aFn ex) fun x => anyO (two2 x.2) fun y => anyO (aName y.2) fun z => decide (x.1 = Str.ofString "isinstance") && decide (z.1 = Str.ofString c) && globOk sc c && ((wordOf c).isSome || c == "ValueError") && decide (sc.names.lookup (Str.ofString "isinstance") = some .globalImplicit) && unstar y.1 && f a y.1
noncomputable def smulW (f : E → Expr → Bool) (w : String) (a : E) (ex : Expr) : Bool := anyO (aBin ex) fun x => decide (x.2.1 = .Mult) && cW (.str w) x.1 && f a x.2.2
noncomputable def oneW (f : E → Expr → Bool) (irs : List E) (xs : List Expr) : Bool := anyO (one1 irs) fun a => anyO (one1 xs) fun y => unstar y && f a y
noncomputable def mQ (Inf : Info) (cl : Bool) : Nat → Scope → E → Expr → Bool
  | 0, _, _, _ => false
  | n + 1, sc, ir, ex => match ir with
    | .c v => cW v ex
    | .x nm => xW sc nm ex
    | .cmp a o b => cmpW (mQ Inf cl n sc) a o b ex
    | .smul w a => smulW (mQ Inf cl n sc) w a ex
    | .sadd a b => catW (mQ Inf cl n sc) a b ex
    | .isx a c => isxW sc (mQ Inf cl n sc) a c ex
    | .bi g es => decide (g = .int) && anyO (one1 es) fun a => fn1W sc "int" (mQ Inf cl n sc) a ex
    | .call f es => cl && callW Inf 1 sc (oneW (mQ Inf cl n sc)) f es ex
    | _ => false
noncomputable def isCall (ex : Expr) : Bool := anyO (aCall ex) fun x => x.2.2.1.isEmpty
mutual
noncomputable def mE (Inf : Info) (r : Nat) : Nat → Scope → E → Expr → Bool
  | 0, _, _, _ => false
  | n + 1, sc, ir, ex => match ir with
    | .c v => cW v ex
    | .x nm => xW sc nm ex
    | .g nm i => gW Inf sc nm i ex
    | .bin o a b => binW (mE Inf r n sc) o a b ex
    | .not a => notW (mE Inf r n sc) a ex
    | .neg a => negW (mE Inf r n sc) a ex
    | .and es => andW (mEs Inf r n sc) es ex
    | .or es => orW (mEs Inf r n sc) es ex
    | .cmp a o b => cmpW (mE Inf r n sc) a o b ex
    | .ite c a b => iteW (mT Inf r n sc) (mE Inf r n sc) c a b ex
    | .tup es => tupW (mEs Inf r n sc) es ex
    | .fz l => mL Inf r n sc l ex
    | .mu l => mL Inf r n sc l ex
    | .mur => isNilL ex
    | .dict0 => isNilD ex
    | .fdict0 => isNilD ex
    | .frz e => mE Inf r n sc e ex
    | .item a i => itemW (mE Inf r n sc) a i ex
    | .attr a f => attrW Inf (mE Inf r n sc) a f ex
    | .call f es => callW Inf r sc (mEs Inf r n sc) f es ex
    | .new c es => newW Inf r sc (mEs Inf r n sc) c es ex
    | .meth a f es => methW Inf r (mE Inf r n sc) (mEs Inf r n sc) a f es ex
    | .lm a f es => lmW (mE Inf r n sc) (mEs Inf r n sc) a f es ex
    | .isi a c => isiW sc (mE Inf r n sc) a c ex
    | .bi f es => biW sc (mEs Inf r n sc) f es ex
    | _ => false
noncomputable def mT (Inf : Info) (r : Nat) : Nat → Scope → E → Expr → Bool
  | 0, _, _, _ => false
  | n + 1, sc, ir, ex => match ir with
    | .not a => notW (mT Inf r n sc) a ex
    | .and es => andW (mTs Inf r n sc) es ex
    | .or es => orW (mTs Inf r n sc) es ex
    | .cmp a o b => cmpW (mE Inf r n sc) a o b ex
    | .cmp2 a o b o' c => cmp2W (mE Inf r n sc) a o b o' c ex
    | .call f es => isCall ex && mE Inf r n sc (.call f es) ex
    | .isi a c => isCall ex && mE Inf r n sc (.isi a c) ex
    | .bi f es => isCall ex && mE Inf r n sc (.bi f es) ex
    | _ => false
noncomputable def mEs (Inf : Info) (r : Nat) : Nat → Scope → List E → List Expr → Bool
  | 0, _, irs, exs => irs.isEmpty && exs.isEmpty
  | n + 1, sc, irs, exs => match irs, exs with
    | [], [] => true
    | e :: es, x :: xs => mE Inf r n sc e x && unstar x && mEs Inf r n sc es xs
    | _, _ => false
noncomputable def mTs (Inf : Info) (r : Nat) : Nat → Scope → List E → List Expr → Bool
  | 0, _, irs, exs => irs.isEmpty && exs.isEmpty
  | n + 1, sc, irs, exs => match irs, exs with
    | [], [] => true
    | e :: es, x :: xs => mT Inf r n sc e x && mTs Inf r n sc es xs
    | _, _ => false
noncomputable def mL (Inf : Info) (r : Nat) : Nat → Scope → L → Expr → Bool
  | 0, _, _, _ => false
  | n + 1, sc, l, ex => match l with
    | .disp es => dispW (mEs Inf r n sc) es ex
    | .comp elt t it ifs => compW sc (mE Inf r n) (mTs Inf r n) elt t it ifs ex
    | .copy e => fn1W sc "list" (mE Inf r n sc) e ex
    | .sorted e => fn1W sc "sorted" (mE Inf r n sc) e ex
    | .slice a lo hi => sliceW (mE Inf r n sc) a lo hi ex
    | .concat a b => catW (mE Inf r n sc) a b ex
end
end Fl

/-! the checker is sound (own work) -/
namespace Fl
open PySem PyProof.Rows PySem.W
set_option linter.unusedSimpArgs false

noncomputable def compB (Inf : Info) (r n : Nat) (sc : Scope) (e : E) (ex : Expr) : Bool := match e with
  | .fz l => (match l with
    | .comp elt t it ifs => compW sc (mE Inf r n) (mTs Inf r n) elt t it ifs ex
    | _ => false)
  | _ => false
noncomputable def isSDC (e : Expr) : Bool := Nat.beq e.ctorIdx 9 || Nat.beq e.ctorIdx 10

noncomputable def asgW (Inf : Info) (r n : Nat) (sc : Scope) (x : String) (e : E) (st : Stmt) : Bool := anyO (bAsg st) fun a => anyO (one1 a.1) fun t => anyO (aName t) fun s =>
  decide (s.1 = Str.ofString x) && stK (sc.names.lookup (Str.ofString x)) && (if swapB sc a.2 s.1 s.2 then compB Inf r n sc e a.2 else !isSDC a.2 && mE Inf r n sc e a.2)
noncomputable def setAW (Inf : Info) (r n : Nat) (sc : Scope) (x f : String) (e : E) (st : Stmt) : Bool := anyO (bAsg st) fun a => anyO (one1 a.1) fun t => anyO (aAttr t) fun u => anyO (aName u.1) fun s =>
  decide (s.1 = Str.ofString x) && nameOk sc x && decide (u.2.1 = Str.ofString f) && Inf.clss.all (fun c => (fieldNames c).contains f) && mE Inf r n sc e a.2
noncomputable def setIW (Inf : Info) (r n : Nat) (sc : Scope) (a i e : E) (st : Stmt) : Bool := anyO (bAsg st) fun u => anyO (one1 u.1) fun t => anyO (aSub t) fun o => mE Inf r n sc e u.2 && mE Inf r n sc a o.1 && mE Inf r n sc i o.2
noncomputable def exW (Inf : Info) (r n : Nat) (sc : Scope) (e : E) (st : Stmt) : Bool := anyO (bExp st) fun ex => !isComp ex && mE Inf r n sc e ex
noncomputable def ifW (Inf : Info) (r n : Nat) (sc : Scope) (ss : List S → List Stmt → Bool) (c : E) (t f : List S) (st : Stmt) : Bool := anyO (bIf st) fun x => mT Inf r n sc c x.1 && ss t x.2.1 && ss f x.2.2
noncomputable def forW (Inf : Info) (r n : Nat) (sc : Scope) (ss : List S → List Stmt → Bool) (t : Tgt) (e : E) (b : List S) (st : Stmt) : Bool := anyO (bFor st) fun x => anyO (aName x.1) fun s => anyO (tg1 t) fun nm =>
  decide (s.1 = Str.ofString nm) && stK (sc.names.lookup (Str.ofString nm)) && !isSetD x.2.1 && mE Inf r n sc e x.2.1 && ss b x.2.2.1 && x.2.2.2.isEmpty
noncomputable def pr2 {α : Type} : List α → Option (α × α)
  | [a, b] => some (a, b)
  | _ => none
theorem pr2_of {α : Type} {l : List α} {t : α × α} (h : pr2 l = some t) : l = [t.1, t.2] := by
  unfold pr2 at h; split at h
  · cases h; rfl
  · cases h
noncomputable def enW (Inf : Info) (r n : Nat) (sc : Scope) (ss : List S → List Stmt → Bool) (x y : String) (e : E) (b : List S) (st : Stmt) : Bool := anyO (bFor st) fun z => anyO (aTup z.1) fun ts => anyO (pr2 ts) fun t => anyO (aName t.1) fun s1 => anyO (aName t.2) fun s2 =>
  decide (s1.1 = Str.ofString x) && decide (s2.1 = Str.ofString y) && stK (sc.names.lookup (Str.ofString x)) && stK (sc.names.lookup (Str.ofString y)) && fn1W sc "enumerate" (mE Inf r n sc) e z.2.1 && ss b z.2.2.1 && z.2.2.2.isEmpty
noncomputable def whlW (Inf : Info) (r n : Nat) (sc : Scope) (ss : List S → List Stmt → Bool) (c : E) (b : List S) (st : Stmt) : Bool := anyO (bWhl st) fun x => mT Inf r n sc c x.1 && ss b x.2.1 && x.2.2.isEmpty
noncomputable def retW (Inf : Info) (r n : Nat) (sc : Scope) (e : E) (st : Stmt) : Bool := anyO (bRet st) fun o => anyO o fun ex => mE Inf r n sc e ex
noncomputable def ssW (ms : S → Stmt → Bool) (mss : List S → List Stmt → Bool) (ir : S) (irs : List S) : List Stmt → Bool
  | st :: sts => ms ir st && mss irs sts
  | [] => false
noncomputable def raiseW (sc : Scope) (c msg : String) (st : Stmt) : Bool := anyO (bRaise st) fun x => x.2.isNone && anyO x.1 fun ex => anyO (aFn ex) fun y => anyO (one1 y.2) fun z => decide (y.1 = Str.ofString c) && globOk sc c && (wordOf c).isSome && cW (.str msg) z
noncomputable def asgCW (Inf : Info) (r n : Nat) (sc : Scope) (x f : String) (es : List E) (st : Stmt) : Bool := anyO (bAsg st) fun a => anyO (one1 a.1) fun t => anyO (aName t) fun s => decide (s.1 = Str.ofString x) && stK (sc.names.lookup (Str.ofString x)) && callW Inf r sc (mEs Inf r n sc) f es a.2
noncomputable def exCW (Inf : Info) (r n : Nat) (sc : Scope) (f : String) (es : List E) (st : Stmt) : Bool := anyO (bExp st) fun ex => callW Inf r sc (mEs Inf r n sc) f es ex
noncomputable def exNW (Inf : Info) (r n : Nat) (sc : Scope) (f : String) (es : List E) (st : Stmt) : Bool := anyO (bExp st) fun ex => newW Inf r sc (mEs Inf r n sc) f es ex
noncomputable def exMW (Inf : Info) (r n : Nat) (sc : Scope) (a : E) (f : String) (es : List E) (st : Stmt) : Bool := anyO (bExp st) fun ex => methW Inf r (mE Inf r n sc) (mEs Inf r n sc) a f es ex
noncomputable def handW (Inf : Info) (n : Nat) (sc : Scope) (v : String) (e : E) (h : ExceptHandler) : Bool := anyO (hParts h).1 fun t => anyO (aName t) fun s => anyO (one1 (hParts h).2.2) fun st => anyO (bRet st) fun o => anyO o fun ex =>
  decide (s.1 = Str.ofString "FlatError") && globOk sc "FlatError" && decide ((hParts h).2.1 = some (Str.ofString v)) && decide (sc.names.lookup (Str.ofString v) = some .local) && mQ Inf true n sc e ex
noncomputable def tryWW (Inf : Info) (n : Nat) (sc : Scope) (ss : List S → List Stmt → Bool) (b : List S) (v : String) (e : E) (st : Stmt) : Bool := anyO (bTry st) fun x => anyO (one1 x.2.1) fun h => x.2.2.1.isEmpty && x.2.2.2.isEmpty && ss b x.1 && handW Inf n sc v e h
mutual
noncomputable def mS (Inf : Info) (r : Nat) : Nat → Scope → S → Stmt → Bool
  | 0, _, _, _ => false
  | n + 1, sc, ir, st => match ir with
    | .asg x e => asgW Inf r n sc x e st
    | .setA x f e => setAW Inf r n sc x f e st
    | .setI a i e => setIW Inf r n sc a i e st
    | .ex e => exW Inf r n sc e st
    | .ite c t f => ifW Inf r n sc (mSs Inf r n sc) c t f st
    | .for_ t e b => forW Inf r n sc (mSs Inf r n sc) t e b st
    | .whl c b => whlW Inf r n sc (mSs Inf r n sc) c b st
    | .ret e => retW Inf r n sc e st
    | .raise c msg => raiseW sc c msg st
    | .forEnum x y e b => enW Inf r n sc (mSs Inf r n sc) x y e b st
    | .asgC x f es => asgCW Inf r n sc x f es st
    | .exC f es => exCW Inf r n sc f es st
    | .exN c es => exNW Inf r n sc c es st
    | .exM a f es => exMW Inf r n sc a f es st
    | .tryW b x e => tryWW Inf n sc (mSs Inf r n sc) b x e st
    | .never => true
noncomputable def mSs (Inf : Info) (r : Nat) : Nat → Scope → List S → List Stmt → Bool
  | 0, _, irs, sts => irs.isEmpty && sts.isEmpty
  | n + 1, sc, irs, sts => match irs with
    | [] => sts.isEmpty
    | ir :: irs => ssW (mS Inf r n sc) (mSs Inf r n sc) ir irs sts
end

structure Snd (B : Bs) (Inf : Info) (r : Nat) (Ar : Around) (n : Nat) : Prop where
  e : ∀ sc ir ex, mE Inf r n sc ir ex = true → ∀ env : Env, env.scope = sc → EOk B (CallOK B Inf.rank) Ar env ir ex
  t : ∀ sc ir ex, mT Inf r n sc ir ex = true → ∀ env : Env, env.scope = sc → TOk B (CallOK B Inf.rank) Ar env ir ex
  es : ∀ sc ir ex, mEs Inf r n sc ir ex = true → ∀ env : Env, env.scope = sc → EsOk B (CallOK B Inf.rank) Ar env ir ex
  ts : ∀ sc ir ex, mTs Inf r n sc ir ex = true → ∀ env : Env, env.scope = sc → TsOk B (CallOK B Inf.rank) Ar env ir ex
  l : ∀ sc ir ex, mL Inf r n sc ir ex = true → ∀ env : Env, env.scope = sc → LOk B (CallOK B Inf.rank) Ar env ir ex

section
variable {B : Bs} {Inf : Info} {r : Nat} {Ar : Around}

theorem name_of {sc : Scope} {nm : String} {env : Env} (h : nameOk sc nm = true) (hs : env.scope = sc) : (Str.ofString nm == ("__debug__" : Str)) = false ∧ (Str.ofString nm == ("__classdict__" : Str)) = false ∧ ownN env nm = true := by
  unfold nameOk at h
  simp only [Bool.and_eq_true, Bool.not_eq_true'] at h
  refine ⟨h.1.2, h.2, ?_⟩
  unfold ownN
  simp only [Bool.and_eq_true]
  exact ⟨by rw [show env.kindOf (Str.ofString nm) = sc.names.lookup (Str.ofString nm) from by rw [← hs]; rfl]; exact h.1.1.1, h.1.1.2⟩
theorem glob_of {sc : Scope} {nm : String} {env : Env} (h : globOk sc nm = true) (hs : env.scope = sc) : env.kindOf (Str.ofString nm) = some .globalImplicit ∧ (Str.ofString nm == ("__debug__" : Str)) = false := by
  unfold globOk at h
  simp only [Bool.and_eq_true, Bool.not_eq_true', beq_iff_eq] at h
  exact ⟨by rw [← hs] at h; exact h.1, h.2⟩
theorem fold_of {ex : Expr} {env : Env} (h : isSetD ex = false) (v : Value) : foldedSetIterable ex env v = pure v := by
  cases ex <;> first | rfl | exact nopeB h.symm

theorem opOf_eq (o : Op) : opOf o = (match o with | .add => .Add | .sub => .Sub | .mul => .Mult | .fdiv => .FloorDiv | .mod => .Mod | .pow => .Pow) := by cases o <;> rfl

theorem snd_zero : Snd B Inf r Ar 0 where
  e := fun sc ir ex h => nopeB h
  t := fun sc ir ex h => nopeB h
  es := fun sc ir ex h => by
    obtain ⟨h0, h1⟩ := (Bool.and_eq_true _ _).mp (show (ir.isEmpty && ex.isEmpty) = true from h)
    rw [List.isEmpty_iff.mp h0, List.isEmpty_iff.mp h1]
    intro env _; exact .nil
  ts := fun sc ir ex h => by
    obtain ⟨h0, h1⟩ := (Bool.and_eq_true _ _).mp (show (ir.isEmpty && ex.isEmpty) = true from h)
    rw [List.isEmpty_iff.mp h0, List.isEmpty_iff.mp h1]
    intro env _; exact .nil
  l := fun sc ir ex h => nopeB h

abbrev FOk (B : Bs) (Inf : Info) (Ar : Around) (env : Env) (f : E → Expr → Bool) : Prop := ∀ ir ex, f ir ex = true → EOk B (CallOK B Inf.rank) Ar env ir ex
abbrev FsOk (B : Bs) (Inf : Info) (Ar : Around) (env : Env) (f : List E → List Expr → Bool) : Prop := ∀ ir ex, f ir ex = true → EsOk B (CallOK B Inf.rank) Ar env ir ex
abbrev FtOk (B : Bs) (Inf : Info) (Ar : Around) (env : Env) (f : E → Expr → Bool) : Prop := ∀ ir ex, f ir ex = true → TOk B (CallOK B Inf.rank) Ar env ir ex
abbrev FtsOk (B : Bs) (Inf : Info) (Ar : Around) (env : Env) (f : List E → List Expr → Bool) : Prop := ∀ ir ex, f ir ex = true → TsOk B (CallOK B Inf.rank) Ar env ir ex

section
variable {env : Env} {f : E → Expr → Bool} {es : List E → List Expr → Bool} {ex : Expr}

theorem cW_ok {v : V} (h : cW v ex = true) : EOk B (CallOK B Inf.rank) Ar env (.c v) ex := by
  obtain ⟨c, hc, h⟩ := anyO_of h
  obtain ⟨k, p, rfl⟩ := aConst_of hc
  cases v <;> first | exact nopeB h | skip
  all_goals cases c <;> first | exact nopeB h | skip
  · exact eok_none
  · rw [beq_iff_eq.mp (show (_ == _) = true from h)]; exact eok_bool
  · rw [of_decide_eq_true (show decide (_ = _) = true from h)]; exact eok_int
  · rw [of_decide_eq_true (show decide (_ = _) = true from h)]; exact eok_str
theorem cstr_of {w : String} (h : cW (.str w) ex = true) : ∃ k p, ex = .Constant (.str (Str.ofString w)) k p := by
  obtain ⟨c, hc, h⟩ := anyO_of h
  obtain ⟨k, p, rfl⟩ := aConst_of hc
  cases c <;> first | exact nopeB h | skip
  rw [of_decide_eq_true (show decide (_ = _) = true from h)]; exact ⟨_, _, rfl⟩
theorem xW_ok {sc : Scope} {nm : String} (hs : env.scope = sc) (h : xW sc nm ex = true) : EOk B (CallOK B Inf.rank) Ar env (.x nm) ex := by
  obtain ⟨x, hx, h⟩ := anyO_of h
  obtain ⟨h0, h⟩ := (Bool.and_eq_true _ _).mp h
  rw [aName_of hx, of_decide_eq_true h0]
  obtain ⟨h1, h2, h3⟩ := name_of h hs
  exact eok_x h1 h2 h3
theorem gW_ok {sc : Scope} {nm : String} {i : Int} (K : InfoOk B Inf) (hs : env.scope = sc) (h : gW Inf sc nm i ex = true) : EOk B (CallOK B Inf.rank) Ar env (.g nm i) ex := by
  obtain ⟨x, hx, h⟩ := anyO_of h
  obtain ⟨h, h'⟩ := (Bool.and_eq_true _ _).mp h
  obtain ⟨h0, h⟩ := (Bool.and_eq_true _ _).mp h
  rw [aName_of hx, of_decide_eq_true h0]
  obtain ⟨h1, h2⟩ := glob_of h hs
  exact eok_g (K.con _ _ (List.contains_iff_mem.mp h')) h1 h2
theorem binW_ok {o : Op} {a b : E} (hf : FOk B Inf Ar env f) (h : binW f o a b ex = true) : EOk B (CallOK B Inf.rank) Ar env (.bin o a b) ex := by
  obtain ⟨x, hx, h⟩ := anyO_of h
  obtain ⟨h, h3⟩ := (Bool.and_eq_true _ _).mp h
  obtain ⟨h0, h2⟩ := (Bool.and_eq_true _ _).mp h
  obtain ⟨p, hp⟩ := aBin_of hx
  rw [hp]
  exact eok_bin ((of_decide_eq_true h0).trans (opOf_eq _)) (hf _ _ h2) (hf _ _ h3)
theorem notW_ok {a : E} (K : InfoOk B Inf) (hf : FOk B Inf Ar env f) (h : notW f a ex = true) : EOk B (CallOK B Inf.rank) Ar env (.not a) ex := by
  obtain ⟨x, hx, h⟩ := anyO_of h
  obtain ⟨h0, h⟩ := (Bool.and_eq_true _ _).mp h
  obtain ⟨p, hp⟩ := aUn_of hx
  rw [hp, of_decide_eq_true h0]
  exact eok_not K.b.sysm (hf _ _ h)
theorem andW_ok {irs : List E} (K : InfoOk B Inf) (hf : FsOk B Inf Ar env es) (h : andW es irs ex = true) : EOk B (CallOK B Inf.rank) Ar env (.and irs) ex := by
  obtain ⟨x, hx, h⟩ := anyO_of h
  obtain ⟨h0, h⟩ := (Bool.and_eq_true _ _).mp h
  obtain ⟨p, hp⟩ := aBool_of hx
  rw [hp, of_decide_eq_true h0]
  exact eok_and K.b.sysm (hf _ _ h)
theorem orW_ok {irs : List E} (K : InfoOk B Inf) (hf : FsOk B Inf Ar env es) (h : orW es irs ex = true) : EOk B (CallOK B Inf.rank) Ar env (.or irs) ex := by
  obtain ⟨x, hx, h⟩ := anyO_of h
  obtain ⟨h0, h⟩ := (Bool.and_eq_true _ _).mp h
  obtain ⟨p, hp⟩ := aBool_of hx
  rw [hp, of_decide_eq_true h0]
  exact eok_or K.b.sysm (hf _ _ h)
theorem cmpW_of {a b : E} {o : Cmp} (h : cmpW f a o b ex = true) : ∃ x y p, ex = .Compare x [cmpOf o] [y] p ∧ behindInMarks (cmpOf o) y = false ∧ f a x = true ∧ f b y = true := by
  obtain ⟨x, hx, h⟩ := anyO_of h
  obtain ⟨op, ho, h⟩ := anyO_of h
  obtain ⟨y, hy, h⟩ := anyO_of h
  obtain ⟨h, h3⟩ := (Bool.and_eq_true _ _).mp h
  obtain ⟨h, h2⟩ := (Bool.and_eq_true _ _).mp h
  obtain ⟨h0, h1⟩ := (Bool.and_eq_true _ _).mp h
  obtain ⟨p, hp⟩ := aCmp_of hx
  have h0 := of_decide_eq_true h0
  rw [hp, one1_of ho, one1_of hy, h0]
  rw [h0] at h1
  exact ⟨_, _, p, rfl, (Bool.not_eq_true' _).mp h1, h2, h3⟩
theorem cmpW_ok {a b : E} {o : Cmp} (K : InfoOk B Inf) (hu : Ar.units + 80 < cLine) (hf : FOk B Inf Ar env f) (h : cmpW f a o b ex = true) : EOk B (CallOK B Inf.rank) Ar env (.cmp a o b) ex := by
  obtain ⟨x, y, p, rfl, h1, h2, h3⟩ := cmpW_of h
  exact eok_cmp K.b.sysm hu h1 (hf _ _ h2) (hf _ _ h3)
theorem cmpT_ok {a b : E} {o : Cmp} (K : InfoOk B Inf) (hu : Ar.units + 80 < cLine) (hf : FOk B Inf Ar env f) (h : cmpW f a o b ex = true) : TOk B (CallOK B Inf.rank) Ar env (.cmp a o b) ex := by
  obtain ⟨x, y, p, rfl, h1, h2, h3⟩ := cmpW_of h
  exact tok_cmp K.b.sysm hu h1 (hf _ _ h2) (hf _ _ h3)
theorem cmp2T_ok {a b c : E} {o o' : Cmp} (K : InfoOk B Inf) (hu : Ar.units + 80 < cLine) (hf : FOk B Inf Ar env f) (h : cmp2W f a o b o' c ex = true) : TOk B (CallOK B Inf.rank) Ar env (.cmp2 a o b o' c) ex := by
  obtain ⟨x, hx, h⟩ := anyO_of h
  obtain ⟨op, ho, h⟩ := anyO_of h
  obtain ⟨y, hy, h⟩ := anyO_of h
  obtain ⟨h, h4⟩ := (Bool.and_eq_true _ _).mp h
  obtain ⟨h, h3⟩ := (Bool.and_eq_true _ _).mp h
  obtain ⟨h, h2⟩ := (Bool.and_eq_true _ _).mp h
  obtain ⟨h, h1⟩ := (Bool.and_eq_true _ _).mp h
  obtain ⟨h0, h0'⟩ := (Bool.and_eq_true _ _).mp h
  obtain ⟨p, hp⟩ := aCmp_of hx
  have h0 := of_decide_eq_true h0
  have h0' := of_decide_eq_true h0'
  rw [hp, two2_of ho, two2_of hy, h0, h0']
  rw [h0, h0'] at h1
  exact tok_cmp2 K.b.sysm hu ((Bool.not_eq_true' _).mp h1) (hf _ _ h2) (hf _ _ h3) (hf _ _ h4)
theorem iteW_ok {t : E → Expr → Bool} {c a b : E} (ht : FtOk B Inf Ar env t) (hf : FOk B Inf Ar env f) (h : iteW t f c a b ex = true) : EOk B (CallOK B Inf.rank) Ar env (.ite c a b) ex := by
  obtain ⟨x, hx, h⟩ := anyO_of h
  obtain ⟨h, h2⟩ := (Bool.and_eq_true _ _).mp h
  obtain ⟨h0, h1⟩ := (Bool.and_eq_true _ _).mp h
  obtain ⟨p, hp⟩ := aIf_of hx
  rw [hp]
  exact eok_ite (ht _ _ h0) (hf _ _ h1) (hf _ _ h2)
theorem tupW_ok {irs : List E} (hf : FsOk B Inf Ar env es) (h : tupW es irs ex = true) : EOk B (CallOK B Inf.rank) Ar env (.tup irs) ex := by
  obtain ⟨x, hx, h⟩ := anyO_of h
  obtain ⟨h0, h1⟩ := (Bool.and_eq_true _ _).mp h
  obtain ⟨k, p, hp⟩ := aTup_of hx
  rw [hp]
  exact eok_tup (hf _ _ h1) (of_decide_eq_true h0)
theorem itemW_ok {a i : E} (hf : FOk B Inf Ar env f) (h : itemW f a i ex = true) : EOk B (CallOK B Inf.rank) Ar env (.item a i) ex := by
  obtain ⟨x, hx, h⟩ := anyO_of h
  obtain ⟨h, h2⟩ := (Bool.and_eq_true _ _).mp h
  obtain ⟨h0, h1⟩ := (Bool.and_eq_true _ _).mp h
  obtain ⟨p, hp⟩ := aSub_of hx
  rw [hp]
  exact eok_item (fun b c d p e => by rw [e] at h0; exact nopeB h0) (hf _ _ h1) (hf _ _ h2)
theorem attrW_ok {a : E} {fl : String} (K : InfoOk B Inf) (hf : FOk B Inf Ar env f) (h : attrW Inf f a fl ex = true) : EOk B (CallOK B Inf.rank) Ar env (.attr a fl) ex := by
  obtain ⟨x, hx, h⟩ := anyO_of h
  obtain ⟨h, h3⟩ := (Bool.and_eq_true _ _).mp h
  obtain ⟨h, h2⟩ := (Bool.and_eq_true _ _).mp h
  obtain ⟨h0, h1⟩ := (Bool.and_eq_true _ _).mp h
  rw [aAttr_of hx, of_decide_eq_true h0]
  exact eok_attr K.c h1 (fun c C hc => List.contains_iff_mem.mp (List.all_eq_true.mp h2 c (K.cls c C hc))) (hf _ _ h3)
theorem callW_of {sc : Scope} {g : String} {irs : List E} (K : InfoOk B Inf) (room : ∀ f, Inf.rank f < r → Room Ar (Inf.rank f)) (hs : env.scope = sc) (h : callW Inf r sc es g irs ex = true) :
    ∃ xs p q fa, ex = .Call (.Name (Str.ofString g) p) xs [] q ∧ Room Ar (Inf.rank g) ∧ B.fn g = some fa ∧ GName B (Str.ofString g) (.ref fa) ∧ keepIn B.K (.ref fa) = true ∧ env.kindOf (Str.ofString g) = some .globalImplicit ∧ (Str.ofString g == ("__debug__" : Str)) = false ∧ es irs xs = true := by
  obtain ⟨x, hx, h⟩ := anyO_of h
  obtain ⟨h, h4⟩ := (Bool.and_eq_true _ _).mp h
  obtain ⟨h, h3⟩ := (Bool.and_eq_true _ _).mp h
  obtain ⟨h, h2⟩ := (Bool.and_eq_true _ _).mp h
  obtain ⟨h0, h1⟩ := (Bool.and_eq_true _ _).mp h
  obtain ⟨p, q, hp⟩ := aFn_of hx
  rw [hp, of_decide_eq_true h0]
  obtain ⟨fa, f1, f2, f3⟩ := K.fn _ (List.contains_iff_mem.mp h2)
  obtain ⟨g1, g2⟩ := glob_of h1 hs
  exact ⟨_, _, _, fa, rfl, room _ (of_decide_eq_true h3), f1, f2, f3, g1, g2, h4⟩
theorem callW_ok {sc : Scope} {g : String} {irs : List E} (K : InfoOk B Inf) (room : ∀ f, Inf.rank f < r → Room Ar (Inf.rank f)) (hs : env.scope = sc) (hf : FsOk B Inf Ar env es) (h : callW Inf r sc es g irs ex = true) : EOk B (CallOK B Inf.rank) Ar env (.call g irs) ex := by
  obtain ⟨xs, p, q, fa, rfl, a1, a2, a3, a4, a5, a6, a7⟩ := callW_of K room hs h
  exact eok_call K.c.kin a1 a2 a3 a4 a5 a6 (hf _ _ a7)
theorem newW_ok {sc : Scope} {c : String} {irs : List E} (K : InfoOk B Inf) (hh : Ar.handled = none) (hd : Ar.depth + 4 * r + 3 ≤ 900) (hu : Ar.units + 30 * r + 230 ≤ cLine) (hs : env.scope = sc) (hf : FsOk B Inf Ar env es) (h : newW Inf r sc es c irs ex = true) : EOk B (CallOK B Inf.rank) Ar env (.new c irs) ex := by
  obtain ⟨x, hx, h⟩ := anyO_of h
  obtain ⟨h, h4⟩ := (Bool.and_eq_true _ _).mp h
  obtain ⟨h, h3⟩ := (Bool.and_eq_true _ _).mp h
  obtain ⟨h, h2⟩ := (Bool.and_eq_true _ _).mp h
  obtain ⟨h0, h1⟩ := (Bool.and_eq_true _ _).mp h
  obtain ⟨p, q, hp⟩ := aFn_of hx
  have h3 := of_decide_eq_true h3
  rw [hp, of_decide_eq_true h0]
  obtain ⟨Cl, fI, c1, c2, c3, c4, c5, c6, c7⟩ := K.clsIn _ (List.contains_iff_mem.mp h2)
  obtain ⟨g1, g2⟩ := glob_of h1 hs
  exact eok_new K.c c1 (room_new Cl hh (by omega) (by omega)) c2 c3 c4 c5 c6 c7 g1 g2 (hf _ _ h4)
theorem methW_ok {a : E} {g : String} {irs : List E} (K : InfoOk B Inf) (room : ∀ f, Inf.rank f < r → Room Ar (Inf.rank f)) (hf : FOk B Inf Ar env f) (hes : FsOk B Inf Ar env es) (h : methW Inf r f es a g irs ex = true) : EOk B (CallOK B Inf.rank) Ar env (.meth a g irs) ex := by
  obtain ⟨x, hx, h⟩ := anyO_of h
  obtain ⟨h, h6⟩ := (Bool.and_eq_true _ _).mp h
  obtain ⟨h, h5⟩ := (Bool.and_eq_true _ _).mp h
  obtain ⟨h, h4⟩ := (Bool.and_eq_true _ _).mp h
  obtain ⟨h, h3⟩ := (Bool.and_eq_true _ _).mp h
  obtain ⟨h, h2⟩ := (Bool.and_eq_true _ _).mp h
  obtain ⟨h0, h1⟩ := (Bool.and_eq_true _ _).mp h
  rw [aMe_of hx, of_decide_eq_true h0]
  refine eok_meth K.c h1 h2 (of_decide_eq_true h3) (fun c C hc => ?_) (hf _ _ h5) (hes _ _ h6)
  obtain ⟨m1, m2⟩ := (Bool.and_eq_true _ _).mp (List.all_eq_true.mp h4 c (K.cls c C hc))
  obtain ⟨fa, f1, f2, f3, f4, f5⟩ := K.meth c _ C (List.contains_iff_mem.mp m1) hc
  exact ⟨fa, f1, f2, room _ (of_decide_eq_true m2), f3, f4, f5⟩
theorem nilL_ok (h : isNilL ex = true) : EOk B (CallOK B Inf.rank) Ar env .mur ex := by
  obtain ⟨x, hx, h⟩ := anyO_of h
  obtain ⟨p, hp⟩ := aLst_of hx
  rw [hp, List.isEmpty_iff.mp h]
  exact eok_mur
theorem nilD_ok (h : isNilD ex = true) : EOk B (CallOK B Inf.rank) Ar env .dict0 ex := by
  obtain ⟨x, hx, h⟩ := anyO_of h
  obtain ⟨h0, h1⟩ := (Bool.and_eq_true _ _).mp h
  obtain ⟨p, hp⟩ := aDict_of hx
  rw [hp, List.isEmpty_iff.mp h0, List.isEmpty_iff.mp h1]
  exact eok_dict0
theorem nilF_ok (K : InfoOk B Inf) (h : isNilD ex = true) : EOk B (CallOK B Inf.rank) Ar env .fdict0 ex := by
  obtain ⟨x, hx, h⟩ := anyO_of h
  obtain ⟨h0, h1⟩ := (Bool.and_eq_true _ _).mp h
  obtain ⟨p, hp⟩ := aDict_of hx
  rw [hp, List.isEmpty_iff.mp h0, List.isEmpty_iff.mp h1]
  exact eok_fdict0 K.b.sysm
theorem negW_ok {a : E} (hf : FOk B Inf Ar env f) (h : negW f a ex = true) : EOk B (CallOK B Inf.rank) Ar env (.neg a) ex := by
  obtain ⟨x, hx, h⟩ := anyO_of h
  obtain ⟨h0, h⟩ := (Bool.and_eq_true _ _).mp h
  obtain ⟨p, hp⟩ := aUn_of hx
  rw [hp, of_decide_eq_true h0]
  exact eok_neg (hf _ _ h)
theorem catW_ok {a b : E} (hf : FOk B Inf Ar env f) (h : catW f a b ex = true) : LOk B (CallOK B Inf.rank) Ar env (.concat a b) ex := by
  obtain ⟨x, hx, h⟩ := anyO_of h
  obtain ⟨h, h2⟩ := (Bool.and_eq_true _ _).mp h
  obtain ⟨h0, h1⟩ := (Bool.and_eq_true _ _).mp h
  obtain ⟨p, hp⟩ := aBin_of hx
  rw [hp, of_decide_eq_true h0]
  exact lok_concat (hf _ _ h1) (hf _ _ h2)
theorem lmW_ok {a : E} {g : Lm} {irs : List E} (hu : Ar.units + 80 < cLine) (hf : FOk B Inf Ar env f) (hes : FsOk B Inf Ar env es) (h : lmW f es a g irs ex = true) : EOk B (CallOK B Inf.rank) Ar env (.lm a g irs) ex := by
  obtain ⟨x, hx, h⟩ := anyO_of h
  obtain ⟨h, h6⟩ := (Bool.and_eq_true _ _).mp h
  obtain ⟨h, h5⟩ := (Bool.and_eq_true _ _).mp h
  obtain ⟨h, h4⟩ := (Bool.and_eq_true _ _).mp h
  obtain ⟨h, h3⟩ := (Bool.and_eq_true _ _).mp h
  obtain ⟨h0, h2⟩ := (Bool.and_eq_true _ _).mp h
  rw [aMe_of hx, of_decide_eq_true h0]
  exact eok_lm h2 h3 (of_decide_eq_true h4) (hf _ _ h5) (hes _ _ h6) (by cases g <;> first | exact lm_append | exact lm_pop)
theorem isiW_ok {sc : Scope} {a : E} {c : Cl} (K : InfoOk B Inf) (hs : env.scope = sc) (hf : FOk B Inf Ar env f) (h : isiW sc f a c ex = true) : EOk B (CallOK B Inf.rank) Ar env (.isi a c) ex := by
  obtain ⟨x, hx, h⟩ := anyO_of h
  obtain ⟨y, hy, h⟩ := anyO_of h
  obtain ⟨z, hz, h⟩ := anyO_of h
  obtain ⟨h, h4⟩ := (Bool.and_eq_true _ _).mp h
  obtain ⟨h, h3⟩ := (Bool.and_eq_true _ _).mp h
  obtain ⟨h, h2⟩ := (Bool.and_eq_true _ _).mp h
  obtain ⟨h, h1⟩ := (Bool.and_eq_true _ _).mp h
  obtain ⟨h0, h0'⟩ := (Bool.and_eq_true _ _).mp h
  obtain ⟨p, q, hp⟩ := aFn_of hx
  rw [hp, of_decide_eq_true h0, two2_of hy, aName_of hz, of_decide_eq_true h0']
  obtain ⟨c1, c2⟩ := (Bool.and_eq_true _ _).mp h1
  obtain ⟨cv, hcv⟩ := Option.isSome_iff_exists.mp c1
  have h2 := of_decide_eq_true h2
  have c2 := eq_of_beq c2
  rw [← hs] at h2 c2
  exact eok_isi K.b hcv h2 c2 h3 (hf _ _ h4)
theorem biW_ok {sc : Scope} {g : Bi} {irs : List E} (K : InfoOk B Inf) (hh : Ar.handled = none) (hu : Ar.units + 80 < cLine) (hs : env.scope = sc) (hes : FsOk B Inf Ar env es) (h : biW sc es g irs ex = true) : EOk B (CallOK B Inf.rank) Ar env (.bi g irs) ex := by
  obtain ⟨x, hx, h⟩ := anyO_of h
  obtain ⟨h, h2⟩ := (Bool.and_eq_true _ _).mp h
  obtain ⟨h0, h1⟩ := (Bool.and_eq_true _ _).mp h
  obtain ⟨p, q, hp⟩ := aFn_of hx
  have h0 := of_decide_eq_true h0
  have h1 := of_decide_eq_true h1
  rw [h0, ← hs] at h1
  rw [hp, h0]
  exact eok_bi K.b hh hu h1 (hes _ _ h2)
theorem dispW_ok {irs : List E} (hes : FsOk B Inf Ar env es) (h : dispW es irs ex = true) : LOk B (CallOK B Inf.rank) Ar env (.disp irs) ex := by
  obtain ⟨x, hx, h⟩ := anyO_of h
  obtain ⟨h0, h1⟩ := (Bool.and_eq_true _ _).mp h
  obtain ⟨p, hp⟩ := aLst_of hx
  rw [hp]
  exact lok_disp (hes _ _ h1) (of_decide_eq_true h0)
theorem fn1W_of {sc : Scope} {nm : String} {e : E} (hs : env.scope = sc) (h : fn1W sc nm f e ex = true) : ∃ y p q, ex = .Call (.Name (Str.ofString nm) p) [y] [] q ∧ env.kindOf (Str.ofString nm) = some .globalImplicit ∧ unstar y = true ∧ f e y = true := by
  obtain ⟨x, hx, h⟩ := anyO_of h
  obtain ⟨y, hy, h⟩ := anyO_of h
  obtain ⟨h, h3⟩ := (Bool.and_eq_true _ _).mp h
  obtain ⟨h, h2⟩ := (Bool.and_eq_true _ _).mp h
  obtain ⟨h0, h1⟩ := (Bool.and_eq_true _ _).mp h
  obtain ⟨p, q, hp⟩ := aFn_of hx
  have h0 := of_decide_eq_true h0
  have h1 := of_decide_eq_true h1
  rw [h0, ← hs] at h1
  rw [hp, h0, one1_of hy]
  exact ⟨y, p, q, rfl, h1, h2, h3⟩
theorem copyW_ok {sc : Scope} {e : E} (K : InfoOk B Inf) (hh : Ar.handled = none) (hs : env.scope = sc) (hf : FOk B Inf Ar env f) (h : fn1W sc "list" f e ex = true) : LOk B (CallOK B Inf.rank) Ar env (.copy e) ex := by
  obtain ⟨y, p, q, rfl, h1, h2, h3⟩ := fn1W_of hs h
  exact lok_copy K.b hh h1 h2 (hf _ _ h3)
theorem sortW_ok {sc : Scope} {e : E} (K : InfoOk B Inf) (hh : Ar.handled = none) (hs : env.scope = sc) (hf : FOk B Inf Ar env f) (h : fn1W sc "sorted" f e ex = true) : LOk B (CallOK B Inf.rank) Ar env (.sorted e) ex := by
  obtain ⟨y, p, q, rfl, h1, h2, h3⟩ := fn1W_of hs h
  exact lok_sorted K.b hh h2 (hf _ _ h3) h1
theorem oW_ok {o : Option E} {eo : Option Expr} (hf : FOk B Inf Ar env f) : oW f o eo = true → match o, eo with | some a, some e => EOk B (CallOK B Inf.rank) Ar env a e | Option.none, Option.none => True | _, _ => False := by
  intro h
  cases o <;> cases eo <;> first | exact True.intro | exact nopeB h | exact hf _ _ h
theorem sliceW_ok {a : E} {lo hi : Option E} (hf : FOk B Inf Ar env f) (h : sliceW f a lo hi ex = true) : LOk B (CallOK B Inf.rank) Ar env (.slice a lo hi) ex := by
  obtain ⟨x, hx, h⟩ := anyO_of h
  obtain ⟨s, hs, h⟩ := anyO_of h
  obtain ⟨h, h3⟩ := (Bool.and_eq_true _ _).mp h
  obtain ⟨h, h2⟩ := (Bool.and_eq_true _ _).mp h
  obtain ⟨h0, h1⟩ := (Bool.and_eq_true _ _).mp h
  obtain ⟨p, hp⟩ := aSub_of hx
  obtain ⟨q, hq⟩ := aSlc_of hs
  rw [hp, hq, Option.isNone_iff_eq_none.mp h0]
  exact lok_slice (hf _ _ h1) (oW_ok hf h2) (oW_ok hf h3)
theorem notT_ok {t : E → Expr → Bool} {a : E} (ht : FtOk B Inf Ar env t) (h : notW t a ex = true) : TOk B (CallOK B Inf.rank) Ar env (.not a) ex := by
  obtain ⟨x, hx, h⟩ := anyO_of h
  obtain ⟨h0, h⟩ := (Bool.and_eq_true _ _).mp h
  obtain ⟨p, hp⟩ := aUn_of hx
  rw [hp, of_decide_eq_true h0]
  exact tok_not (ht _ _ h)
theorem andT_ok {irs : List E} {ts : List E → List Expr → Bool} (ht : FtsOk B Inf Ar env ts) (h : andW ts irs ex = true) : TOk B (CallOK B Inf.rank) Ar env (.and irs) ex := by
  obtain ⟨x, hx, h⟩ := anyO_of h
  obtain ⟨h0, h⟩ := (Bool.and_eq_true _ _).mp h
  obtain ⟨p, hp⟩ := aBool_of hx
  rw [hp, of_decide_eq_true h0]
  exact tok_and (ht _ _ h)
theorem orT_ok {irs : List E} {ts : List E → List Expr → Bool} (ht : FtsOk B Inf Ar env ts) (h : orW ts irs ex = true) : TOk B (CallOK B Inf.rank) Ar env (.or irs) ex := by
  obtain ⟨x, hx, h⟩ := anyO_of h
  obtain ⟨h0, h⟩ := (Bool.and_eq_true _ _).mp h
  obtain ⟨p, hp⟩ := aBool_of hx
  rw [hp, of_decide_eq_true h0]
  exact tok_or (ht _ _ h)
end

theorem isCall_of {ex : Expr} (h : isCall ex = true) : ∃ g xs p, ex = .Call g xs [] p := by
  obtain ⟨x, hx, h⟩ := anyO_of h
  rw [aCall_of hx, List.isEmpty_iff.mp h]
  exact ⟨_, _, _, rfl⟩
theorem snd_e {n : Nat} (K : InfoOk B Inf) (hh : Ar.handled = none) (hd : Ar.depth + 4 * r + 3 ≤ 900) (hu : Ar.units + 30 * r + 230 ≤ cLine) (S : Snd B Inf r Ar n) :
    ∀ sc ir ex, mE Inf r (n + 1) sc ir ex = true → ∀ env : Env, env.scope = sc → EOk B (CallOK B Inf.rank) Ar env ir ex := by
  have room : ∀ f, Inf.rank f < r → Room Ar (Inf.rank f) := fun f hf => ⟨.inr hh, by omega, by omega⟩
  have hu80 : Ar.units + 80 < cLine := by omega
  intro sc ir ex h env hs
  have fe : FOk B Inf Ar env (mE Inf r n sc) := fun ir ex h => S.e _ _ _ h env hs
  have fs : FsOk B Inf Ar env (mEs Inf r n sc) := fun ir ex h => S.es _ _ _ h env hs
  have ft : FtOk B Inf Ar env (mT Inf r n sc) := fun ir ex h => S.t _ _ _ h env hs
  cases ir with
  | c v => exact cW_ok h
  | x nm => exact xW_ok hs h
  | g nm i => exact gW_ok K hs h
  | bin o a b => exact binW_ok fe h
  | not a => exact notW_ok K fe h
  | neg a => exact negW_ok fe h
  | and es => exact andW_ok K fs h
  | or es => exact orW_ok K fs h
  | cmp a o b => exact cmpW_ok K hu80 fe h
  | ite c a b => exact iteW_ok ft fe h
  | tup es => exact tupW_ok fs h
  | fz l => exact eok_fz (S.l _ _ _ h env hs)
  | mu l => exact eok_mu (S.l _ _ _ h env hs)
  | mur => exact nilL_ok h
  | dict0 => exact nilD_ok h
  | fdict0 => exact nilF_ok K h
  | frz e => exact eok_frz (S.e _ _ _ h env hs)
  | item a i => exact itemW_ok fe h
  | attr a f => exact attrW_ok K fe h
  | call f es => exact callW_ok K room hs fs h
  | new c es => exact newW_ok K hh hd hu hs fs h
  | meth a f es => exact methW_ok K room fe fs h
  | lm a f es => exact lmW_ok hu80 fe fs h
  | isi a c => exact isiW_ok K hs fe h
  | bi f es => exact biW_ok K hh hu80 hs fs h
  | _ => exact nopeB h

theorem snd_t {n : Nat} (K : InfoOk B Inf) (hu : Ar.units + 30 * r + 230 ≤ cLine) (S : Snd B Inf r Ar n) :
    ∀ sc ir ex, mT Inf r (n + 1) sc ir ex = true → ∀ env : Env, env.scope = sc → TOk B (CallOK B Inf.rank) Ar env ir ex := by
  have hu80 : Ar.units + 80 < cLine := by omega
  intro sc ir ex h env hs
  have fe : FOk B Inf Ar env (mE Inf r n sc) := fun ir ex h => S.e _ _ _ h env hs
  have ft : FtOk B Inf Ar env (mT Inf r n sc) := fun ir ex h => S.t _ _ _ h env hs
  have fts : FtsOk B Inf Ar env (mTs Inf r n sc) := fun ir ex h => S.ts _ _ _ h env hs
  cases ir with
  | not a => exact notT_ok ft h
  | and es => exact andT_ok fts h
  | or es => exact orT_ok fts h
  | cmp a o b => exact cmpT_ok K hu80 fe h
  | cmp2 a o b o' c => exact cmp2T_ok K hu80 fe h
  | call f es =>
    obtain ⟨h1, h2⟩ := (Bool.and_eq_true _ _).mp h
    obtain ⟨g, xs, p, rfl⟩ := isCall_of h1
    exact tok_call K.b.sysm (S.e _ _ _ h2 env hs)
  | isi a c =>
    obtain ⟨h1, h2⟩ := (Bool.and_eq_true _ _).mp h
    obtain ⟨g, xs, p, rfl⟩ := isCall_of h1
    exact tok_isi K.b.sysm (S.e _ _ _ h2 env hs)
  | bi f es =>
    obtain ⟨h1, h2⟩ := (Bool.and_eq_true _ _).mp h
    obtain ⟨g, xs, p, rfl⟩ := isCall_of h1
    exact tok_bi K.b.sysm (S.e _ _ _ h2 env hs)
  | _ => exact nopeB h

theorem compW_of {n : Nat} {sc : Scope} {elt it : E} {t : Tgt} {ifs : List E} {ex : Expr} (h : compW sc (mE Inf r n) (mTs Inf r n) elt t it ifs ex = true) :
    ∃ nm e p iter eifs scope q, t = .one nm ∧ ex = .ListComp e [⟨.Name (Str.ofString nm) p, iter, eifs, 0⟩] scope q ∧ compOk scope sc nm = true ∧ isSetD iter = false ∧ mE Inf r n sc it iter = true ∧ mE Inf r n (relabelS scope sc) elt e = true ∧ mTs Inf r n (relabelS scope sc) ifs eifs = true := by
  obtain ⟨x, hx, h⟩ := anyO_of h
  obtain ⟨g, hg, h⟩ := anyO_of h
  obtain ⟨s, hs, h⟩ := anyO_of h
  obtain ⟨nm, hn, h⟩ := anyO_of h
  obtain ⟨h, h5⟩ := (Bool.and_eq_true _ _).mp h
  obtain ⟨h, h4⟩ := (Bool.and_eq_true _ _).mp h
  obtain ⟨h, h3⟩ := (Bool.and_eq_true _ _).mp h
  obtain ⟨h, h2⟩ := (Bool.and_eq_true _ _).mp h
  obtain ⟨h, h1⟩ := (Bool.and_eq_true _ _).mp h
  obtain ⟨h0, h0'⟩ := (Bool.and_eq_true _ _).mp h
  obtain ⟨p, hp⟩ := aComp_of hx
  obtain ⟨g1, g2, g3, g4⟩ := g
  have h0' := of_decide_eq_true h0'
  have hs' : g1 = .Name s.1 s.2 := aName_of hs
  simp only at h0' h2 h3 h5
  subst h0'
  refine ⟨nm, x.1, s.2, g2, g3, x.2.2, p, tg1_of hn, ?_, h1, (Bool.not_eq_true' _).mp h2, h3, h4, h5⟩
  rw [hp, one1_of hg, hs', of_decide_eq_true h0]
theorem compW_ok {n : Nat} {sc : Scope} {elt it : E} {t : Tgt} {ifs : List E} {ex : Expr} {env : Env} (hh : Ar.handled = none) (S : Snd B Inf r Ar n) (hs : env.scope = sc) (h : compW sc (mE Inf r n) (mTs Inf r n) elt t it ifs ex = true) : LOk B (CallOK B Inf.rank) Ar env (.comp elt t it ifs) ex := by
  obtain ⟨nm, e, p, iter, eifs, scope, q, rfl, rfl, h1, h2, h3, h4, h5⟩ := compW_of h
  subst hs
  exact lok_comp hh (compOk_of h1) (S.e _ _ _ h3 env rfl) (fun cenv hc => S.e _ _ _ h4 cenv (hc.trans (relabel_eq _ _))) (fun cenv hc => S.ts _ _ _ h5 cenv (hc.trans (relabel_eq _ _))) (fold_of h2)

theorem snd_l {n : Nat} (K : InfoOk B Inf) (hh : Ar.handled = none) (S : Snd B Inf r Ar n) :
    ∀ sc ir ex, mL Inf r (n + 1) sc ir ex = true → ∀ env : Env, env.scope = sc → LOk B (CallOK B Inf.rank) Ar env ir ex := by
  intro sc ir ex h env hs
  have fe : FOk B Inf Ar env (mE Inf r n sc) := fun ir ex h => S.e _ _ _ h env hs
  have fs : FsOk B Inf Ar env (mEs Inf r n sc) := fun ir ex h => S.es _ _ _ h env hs
  cases ir with
  | disp es => exact dispW_ok fs h
  | comp elt t it ifs => exact compW_ok hh S hs h
  | copy e => exact copyW_ok K hh hs fe h
  | sorted e => exact sortW_ok K hh hs fe h
  | slice a lo hi => exact sliceW_ok fe h
  | concat a b => exact catW_ok fe h

theorem isxW_ok {env : Env} {f : E → Expr → Bool} {ex : Expr} {sc : Scope} {a : E} {c : String} (K : InfoOk B Inf) (hs : env.scope = sc) (hf : FOk B Inf Ar env f) (h : isxW sc f a c ex = true) : EOk B (CallOK B Inf.rank) Ar env (.isx a c) ex := by
  obtain ⟨x, hx, h⟩ := anyO_of h
  obtain ⟨y, hy, h⟩ := anyO_of h
  obtain ⟨z, hz, h⟩ := anyO_of h
  obtain ⟨h, h4⟩ := (Bool.and_eq_true _ _).mp h
  obtain ⟨h, h3⟩ := (Bool.and_eq_true _ _).mp h
  obtain ⟨h, h2⟩ := (Bool.and_eq_true _ _).mp h
  obtain ⟨h, hw⟩ := (Bool.and_eq_true _ _).mp h
  obtain ⟨h, h1⟩ := (Bool.and_eq_true _ _).mp h
  obtain ⟨h0, h0'⟩ := (Bool.and_eq_true _ _).mp h
  obtain ⟨p, q, hp⟩ := aFn_of hx
  rw [hp, of_decide_eq_true h0, two2_of hy, aName_of hz, of_decide_eq_true h0']
  obtain ⟨g1, g2⟩ := glob_of h1 hs
  have h2 := of_decide_eq_true h2
  rw [← hs] at h2
  obtain ⟨FE, X⟩ := K.x
  rcases (Bool.or_eq_true _ _).mp hw with hw | hw
  · obtain ⟨D, hD⟩ := X.dom c hw
    exact eok_isx X K.b (.inr ⟨D, hD, rfl⟩) (X.ex c D hD).2.1 h2 g1 g2 h3 (hf _ _ h4)
  · have hw := beq_iff_eq.mp hw
    subst hw
    exact eok_isx X K.b (.inl ⟨rfl, rfl⟩) (K.b.at "ValueError" _ rfl) h2 g1 g2 h3 (hf _ _ h4)

theorem snd_q {cl : Bool} (K : InfoOk B Inf) (hd : cl = true → Ar.depth + 4 ≤ 900 ∧ Ar.units + 233 ≤ cLine) (hu : Ar.units + 80 < cLine) : ∀ n sc ir ex, mQ Inf cl n sc ir ex = true → ∀ env : Env, env.scope = sc → EOk B (CallOK B Inf.rank) Ar env ir ex
  | 0, sc, ir, ex, h => nopeB h
  | n + 1, sc, ir, ex, h => by
    intro env hs
    have fe : FOk B Inf Ar env (mQ Inf cl n sc) := fun ir ex h => snd_q K hd hu n sc ir ex h env hs
    have fs : FsOk B Inf Ar env (oneW (mQ Inf cl n sc)) := fun irs xs h => by
      obtain ⟨a, ha, h⟩ := anyO_of h
      obtain ⟨y, hy, h⟩ := anyO_of h
      obtain ⟨h0, h1⟩ := (Bool.and_eq_true _ _).mp h
      rw [one1_of ha, one1_of hy]
      exact .cons (fe _ _ h1) h0 .nil
    cases ir with
    | c v => exact cW_ok h
    | x nm => exact xW_ok hs h
    | cmp a o b => exact cmpW_ok K hu fe h
    | smul w a =>
      obtain ⟨x, hx, h⟩ := anyO_of (show smulW (mQ Inf cl n sc) w a ex = true from h)
      obtain ⟨h, h2⟩ := (Bool.and_eq_true _ _).mp h
      obtain ⟨h0, h1⟩ := (Bool.and_eq_true _ _).mp h
      obtain ⟨p, hp⟩ := aBin_of hx
      obtain ⟨k, q, hk⟩ := cstr_of h1
      rw [hp, hk, of_decide_eq_true h0]
      exact eok_smul (fe _ _ h2)
    | sadd a b =>
      obtain ⟨x, hx, h⟩ := anyO_of (show catW (mQ Inf cl n sc) a b ex = true from h)
      obtain ⟨h, h2⟩ := (Bool.and_eq_true _ _).mp h
      obtain ⟨h0, h1⟩ := (Bool.and_eq_true _ _).mp h
      obtain ⟨p, hp⟩ := aBin_of hx
      rw [hp, of_decide_eq_true h0]
      exact eok_sadd (fe _ _ h1) (fe _ _ h2)
    | isx a c => exact isxW_ok K hs fe h
    | bi g es =>
      obtain ⟨h0, h⟩ := (Bool.and_eq_true _ _).mp (show (decide (g = .int) && anyO (one1 es) fun a => fn1W sc "int" (mQ Inf cl n sc) a ex) = true from h)
      obtain ⟨a, ha, h⟩ := anyO_of h
      obtain ⟨y, p, q, hx, g1, g2, g3⟩ := fn1W_of hs h
      rw [of_decide_eq_true h0, one1_of ha, hx]
      exact eok_bint K.b g1 g2 (fe _ _ g3)
    | call f es =>
      obtain ⟨hcl, h⟩ := (Bool.and_eq_true _ _).mp (show (cl && callW Inf 1 sc (oneW (mQ Inf cl n sc)) f es ex) = true from h)
      obtain ⟨hd, hu⟩ := hd hcl
      refine callW_ok (r := 1) K (fun f hf => ?_) hs fs h
      have e : Inf.rank f = 0 := by omega
      rw [e]
      exact ⟨.inl rfl, by omega, by omega⟩
    | _ => exact nopeB h

theorem snd_all (K : InfoOk B Inf) (hh : Ar.handled = none) (hd : Ar.depth + 4 * r + 3 ≤ 900) (hu : Ar.units + 30 * r + 230 ≤ cLine) : ∀ n, Snd B Inf r Ar n
  | 0 => snd_zero
  | n + 1 => by
    have S := snd_all K hh hd hu n
    refine ⟨snd_e K hh hd hu S, snd_t K hu S, ?_, ?_, snd_l K hh S⟩
    · intro sc ir ex h env hs
      cases ir with
      | nil =>
        cases ex with
        | nil => exact .nil
        | cons x xs => exact nopeB h
      | cons e es =>
        cases ex with
        | nil => exact nopeB h
        | cons x xs =>
          have h : (mE Inf r n sc e x && unstar x && mEs Inf r n sc es xs) = true := h
          obtain ⟨h, h2⟩ := (Bool.and_eq_true _ _).mp h
          obtain ⟨h0, h1⟩ := (Bool.and_eq_true _ _).mp h
          exact .cons (S.e _ _ _ h0 env hs) h1 (S.es _ _ _ h2 env hs)
    · intro sc ir ex h env hs
      cases ir with
      | nil =>
        cases ex with
        | nil => exact .nil
        | cons x xs => exact nopeB h
      | cons e es =>
        cases ex with
        | nil => exact nopeB h
        | cons x xs =>
          have h : (mT Inf r n sc e x && mTs Inf r n sc es xs) = true := h
          obtain ⟨h0, h2⟩ := (Bool.and_eq_true _ _).mp h
          exact .cons (S.t _ _ _ h0 env hs) (S.ts _ _ _ h2 env hs)
end
end Fl

/-! the checker is sound: statements, functions (own work) -/
namespace Fl
open PySem PyProof.Rows PySem.W
set_option linter.unusedSimpArgs false

section
variable {B : Bs} {Inf : Info} {r : Nat} {Ar : Around}

theorem swaps_name {sc : Scope} {ex : Expr} {t : Str} {p : Pos} {l : Nat} {env : Env} (hs : env.scope = sc) (hk : sc.kind = .function) (hc : isSDC ex = false) : swapsWith ex (some (.Name t p)) l env = pure (swapB sc ex t p) := by
  have hb : env.blockKind = .function := by simp [Env.blockKind, hs, hk, ScopeKind.isAnnotationScope]
  cases ex <;> first | rfl | exact Bool.noConfusion hc | skip
  rename_i e g s q
  show (pure (env.blockKind == .function && env.kindOf t == some .local && p.line == (Expr.ListComp e g s q).pos.line && !(s.names.any fun (n, k) => n == t && (k == .local || k == .cell))) : Sem Bool) = _
  rw [hb]
  show _ = pure (sc.names.lookup t == some .local && p.line == (Expr.ListComp e g s q).pos.line && !(s.names.any fun (n, k) => n == t && (k == .local || k == .cell)))
  rw [← hs]
  rfl

section
variable {n : Nat} {sc : Scope} {st : Stmt} {env : Env}
theorem compB_of {e : E} {ex : Expr} (h : compB Inf r n sc e ex = true) : ∃ elt t it ifs, e = .fz (.comp elt t it ifs) ∧ compW sc (mE Inf r n) (mTs Inf r n) elt t it ifs ex = true := by
  cases e <;> first | exact nopeB h | skip
  next l => cases l <;> first | exact nopeB h | exact ⟨_, _, _, _, rfl, h⟩
theorem asgW_ok {x : String} {e : E} (hh : Ar.handled = none) (S : Snd B Inf r Ar n) (hs : env.scope = sc) (hk : sc.kind = .function) (h : asgW Inf r n sc x e st = true) : SOk B (CallOK B Inf.rank) Ar env (.asg x e) st := by
  obtain ⟨a, ha, h⟩ := anyO_of h
  obtain ⟨t, ht, h⟩ := anyO_of h
  obtain ⟨s, hn, h⟩ := anyO_of h
  obtain ⟨h, h2⟩ := (Bool.and_eq_true _ _).mp h
  obtain ⟨h0, h1⟩ := (Bool.and_eq_true _ _).mp h
  obtain ⟨p, hp⟩ := bAsg_of ha
  have h0 := of_decide_eq_true h0
  rw [h0] at h2
  rw [hp, one1_of ht, aName_of hn, h0]
  have hst := h1
  rw [← hs] at hst
  cases hsw : swapB sc a.2 (Str.ofString x) s.2 with
  | true =>
    rw [hsw, if_pos rfl] at h2
    obtain ⟨elt, tt, it, ifs, rfl, h2⟩ := compB_of h2
    obtain ⟨nm, e, p, iter, eifs, scope, q, rfl, he, q1, q2, q3, q4, q5⟩ := compW_of h2
    rw [he] at hsw ⊢
    subst hs
    refine sok_comp hh (compOk_of q1) hst (S.e _ _ _ q3 env rfl) (fun cenv hc => S.e _ _ _ q4 cenv (hc.trans (relabel_eq _ _))) (fun cenv hc => S.ts _ _ _ q5 cenv (hc.trans (relabel_eq _ _))) (fold_of q2) ?_
    rw [swaps_name rfl hk rfl, hsw]
  | false =>
    rw [hsw, if_neg (fun e => nomatch e)] at h2
    obtain ⟨h2, h3⟩ := (Bool.and_eq_true _ _).mp h2
    refine sok_asg hst (S.e _ _ _ h3 env hs) ?_
    rw [swaps_name hs hk ((Bool.not_eq_true' _).mp h2), hsw]
theorem setAW_ok {x f : String} {e : E} (K : InfoOk B Inf) (S : Snd B Inf r Ar n) (hs : env.scope = sc) (h : setAW Inf r n sc x f e st = true) : SOk B (CallOK B Inf.rank) Ar env (.setA x f e) st := by
  obtain ⟨a, ha, h⟩ := anyO_of h
  obtain ⟨t, ht, h⟩ := anyO_of h
  obtain ⟨u, hu, h⟩ := anyO_of h
  obtain ⟨s, hn, h⟩ := anyO_of h
  obtain ⟨h, h4⟩ := (Bool.and_eq_true _ _).mp h
  obtain ⟨h, h3⟩ := (Bool.and_eq_true _ _).mp h
  obtain ⟨h, h2⟩ := (Bool.and_eq_true _ _).mp h
  obtain ⟨h0, h1⟩ := (Bool.and_eq_true _ _).mp h
  obtain ⟨p, hp⟩ := bAsg_of ha
  rw [hp, one1_of ht, aAttr_of hu, aName_of hn, of_decide_eq_true h0, of_decide_eq_true h2]
  obtain ⟨n1, n2, n3⟩ := name_of h1 hs
  exact sok_setA K.c n1 n2 n3 (fun c C hc => List.contains_iff_mem.mp (List.all_eq_true.mp h3 c (K.cls c C hc))) (S.e _ _ _ h4 env hs) swaps_at
theorem setIW_ok {a i e : E} (hun : Ar.units + 80 < cLine) (S : Snd B Inf r Ar n) (hs : env.scope = sc) (h : setIW Inf r n sc a i e st = true) : SOk B (CallOK B Inf.rank) Ar env (.setI a i e) st := by
  obtain ⟨a, ha, h⟩ := anyO_of h
  obtain ⟨t, ht, h⟩ := anyO_of h
  obtain ⟨u, hu, h⟩ := anyO_of h
  obtain ⟨h, h2⟩ := (Bool.and_eq_true _ _).mp h
  obtain ⟨h0, h1⟩ := (Bool.and_eq_true _ _).mp h
  obtain ⟨p, hp⟩ := bAsg_of ha
  obtain ⟨q, hq⟩ := aSub_of hu
  rw [hp, one1_of ht, hq]
  exact sok_setI (S.e _ _ _ h0 env hs) (S.e _ _ _ h1 env hs) (S.e _ _ _ h2 env hs) swaps_sub hun
theorem exW_ok {e : E} (S : Snd B Inf r Ar n) (hs : env.scope = sc) (hk : sc.kind = .function) (h : exW Inf r n sc e st = true) : SOk B (CallOK B Inf.rank) Ar env (.ex e) st := by
  obtain ⟨ex, ha, h⟩ := anyO_of h
  obtain ⟨h0, h1⟩ := (Bool.and_eq_true _ _).mp h
  obtain ⟨p, hp⟩ := bExp_of ha
  rw [hp]
  have h0 := (Bool.not_eq_true' _).mp h0
  refine sok_ex (S.e _ _ _ h1 env hs) (swaps_no h0) ?_
  · unfold interactive; rw [hs, hk]; rfl
end

structure SndS (B : Bs) (Inf : Info) (r : Nat) (Ar : Around) (n : Nat) : Prop where
  s : ∀ sc ir st, mS Inf r n sc ir st = true → ∀ env : Env, env.scope = sc → sc.kind = .function → SOk B (CallOK B Inf.rank) Ar env ir st
  ss : ∀ sc ir st, mSs Inf r n sc ir st = true → ∀ env : Env, env.scope = sc → sc.kind = .function → SsOk B (CallOK B Inf.rank) Ar env ir st

theorem snd_s {n : Nat} (K : InfoOk B Inf) (hh : Ar.handled = none) (hd : Ar.depth + 4 * r + 3 ≤ 900) (hu' : Ar.units + 30 * r + 230 ≤ cLine) (hr : 0 < r) (S : Snd B Inf r Ar n) (T : SndS B Inf r Ar n) :
    ∀ sc ir st, mS Inf r (n + 1) sc ir st = true → ∀ env : Env, env.scope = sc → sc.kind = .function → SOk B (CallOK B Inf.rank) Ar env ir st := by
  have hu : Ar.units + 80 < cLine := by omega
  have room : ∀ f, Inf.rank f < r → Room Ar (Inf.rank f) := fun f hf => ⟨.inr hh, by omega, by omega⟩
  intro sc ir st h env hs hk
  have hin : interactive env = false := by unfold interactive; rw [hs, hk]; rfl
  have fe : FOk B Inf Ar env (mE Inf r n sc) := fun ir ex h => S.e _ _ _ h env hs
  have fs : FsOk B Inf Ar env (mEs Inf r n sc) := fun ir ex h => S.es _ _ _ h env hs
  cases ir with
  | asg x e => exact asgW_ok hh S hs hk h
  | setA x f e => exact setAW_ok K S hs h
  | setI a i e => exact setIW_ok hu S hs h
  | ex e => exact exW_ok S hs hk h
  | ite c t f =>
    obtain ⟨x, hx, h⟩ := anyO_of (show anyO (bIf st) _ = true from h)
    obtain ⟨h, h2⟩ := (Bool.and_eq_true _ _).mp h
    obtain ⟨h0, h1⟩ := (Bool.and_eq_true _ _).mp h
    obtain ⟨p, hp⟩ := bIf_of hx
    rw [hp]
    exact sok_ite (S.t _ _ _ h0 env hs) (T.ss _ _ _ h1 env hs hk) (T.ss _ _ _ h2 env hs hk)
  | for_ t e b =>
    obtain ⟨x, hx, h⟩ := anyO_of (show anyO (bFor st) _ = true from h)
    obtain ⟨s, hn, h⟩ := anyO_of h
    obtain ⟨nm, ht, h⟩ := anyO_of h
    obtain ⟨h, h5⟩ := (Bool.and_eq_true _ _).mp h
    obtain ⟨h, h4⟩ := (Bool.and_eq_true _ _).mp h
    obtain ⟨h, h3⟩ := (Bool.and_eq_true _ _).mp h
    obtain ⟨h, h2⟩ := (Bool.and_eq_true _ _).mp h
    obtain ⟨h0, h1⟩ := (Bool.and_eq_true _ _).mp h
    obtain ⟨p, hp⟩ := bFor_of hx
    rw [hp, aName_of hn, of_decide_eq_true h0, List.isEmpty_iff.mp h5, tg1_of ht]
    rw [← hs] at h1
    exact sok_for hh h1 (S.e _ _ _ h3 env hs) (T.ss _ _ _ h4 env hs hk) (fold_of ((Bool.not_eq_true' _).mp h2))
  | whl c b =>
    obtain ⟨x, hx, h⟩ := anyO_of (show anyO (bWhl st) _ = true from h)
    obtain ⟨h, h2⟩ := (Bool.and_eq_true _ _).mp h
    obtain ⟨h0, h1⟩ := (Bool.and_eq_true _ _).mp h
    obtain ⟨p, hp⟩ := bWhl_of hx
    rw [hp, List.isEmpty_iff.mp h2]
    exact sok_whl (S.t _ _ _ h0 env hs) (T.ss _ _ _ h1 env hs hk)
  | ret e =>
    obtain ⟨x, hx, h⟩ := anyO_of (show anyO (bRet st) _ = true from h)
    obtain ⟨ex, he, h⟩ := anyO_of h
    obtain ⟨p, hp⟩ := bRet_of hx
    rw [hp, he]
    exact sok_ret (S.e _ _ _ h env hs)
  | raise c m =>
    obtain ⟨x, hx, h⟩ := anyO_of (show raiseW sc c m st = true from h)
    obtain ⟨h0, h⟩ := (Bool.and_eq_true _ _).mp h
    obtain ⟨ex, hex, h⟩ := anyO_of h
    obtain ⟨y, hy, h⟩ := anyO_of h
    obtain ⟨z, hz, h⟩ := anyO_of h
    obtain ⟨h, h4⟩ := (Bool.and_eq_true _ _).mp h
    obtain ⟨h, h3⟩ := (Bool.and_eq_true _ _).mp h
    obtain ⟨h1, h2⟩ := (Bool.and_eq_true _ _).mp h
    obtain ⟨p, hp⟩ := bRaise_of hx
    obtain ⟨q, q', hq⟩ := aFn_of hy
    obtain ⟨k, q'', hk'⟩ := cstr_of h4
    obtain ⟨g1, g2⟩ := glob_of h2 hs
    obtain ⟨FE, X⟩ := K.x
    obtain ⟨D, hD⟩ := X.dom c h3
    rw [hp, hex, Option.isNone_iff_eq_none.mp h0, hq, of_decide_eq_true h1, one1_of hz, hk']
    exact sok_raise X hh hD g1 g2
  | asgC x f es =>
    obtain ⟨a, ha, h⟩ := anyO_of (show asgCW Inf r n sc x f es st = true from h)
    obtain ⟨t, ht, h⟩ := anyO_of h
    obtain ⟨s, hn, h⟩ := anyO_of h
    obtain ⟨h, h2⟩ := (Bool.and_eq_true _ _).mp h
    obtain ⟨h0, h1⟩ := (Bool.and_eq_true _ _).mp h
    obtain ⟨p, hp⟩ := bAsg_of ha
    obtain ⟨xs, p', q, fa, hx, a1, a2, a3, a4, a5, a6, a7⟩ := callW_of K room hs h2
    rw [hp, one1_of ht, aName_of hn, of_decide_eq_true h0, hx]
    rw [← hs] at h1
    exact sok_asgC K.c.kin a1 a2 a3 a4 a5 a6 (fs _ _ a7) h1
  | exC f es =>
    obtain ⟨ex, ha, h⟩ := anyO_of (show exCW Inf r n sc f es st = true from h)
    obtain ⟨p, hp⟩ := bExp_of ha
    obtain ⟨xs, p', q, fa, hx, a1, a2, a3, a4, a5, a6, a7⟩ := callW_of K room hs h
    rw [hp, hx]
    exact sok_exC K.c.kin a1 a2 a3 a4 a5 a6 (fs _ _ a7) hin
  | exN c es =>
    obtain ⟨ex, ha, h⟩ := anyO_of (show exNW Inf r n sc c es st = true from h)
    obtain ⟨p, hp⟩ := bExp_of ha
    obtain ⟨x, hx, h⟩ := anyO_of h
    obtain ⟨h, h4⟩ := (Bool.and_eq_true _ _).mp h
    obtain ⟨h, h3⟩ := (Bool.and_eq_true _ _).mp h
    obtain ⟨h, h2⟩ := (Bool.and_eq_true _ _).mp h
    obtain ⟨h0, h1⟩ := (Bool.and_eq_true _ _).mp h
    obtain ⟨p', q, hp'⟩ := aFn_of hx
    have h3 := of_decide_eq_true h3
    rw [hp, hp', of_decide_eq_true h0]
    obtain ⟨Cl, fI, c1, c2, c3, c4, c5, c6, c7⟩ := K.clsIn _ (List.contains_iff_mem.mp h2)
    obtain ⟨g1, g2⟩ := glob_of h1 hs
    exact sok_exN K.c c1 (room_new Cl hh (by omega) (by omega)) c2 c3 c4 c5 c6 c7 g1 g2 (fs _ _ h4) hin
  | exM a g es =>
    obtain ⟨ex, ha, h⟩ := anyO_of (show exMW Inf r n sc a g es st = true from h)
    obtain ⟨p, hp⟩ := bExp_of ha
    obtain ⟨x, hx, h⟩ := anyO_of h
    obtain ⟨h, h6⟩ := (Bool.and_eq_true _ _).mp h
    obtain ⟨h, h5⟩ := (Bool.and_eq_true _ _).mp h
    obtain ⟨h, h4⟩ := (Bool.and_eq_true _ _).mp h
    obtain ⟨h, h3⟩ := (Bool.and_eq_true _ _).mp h
    obtain ⟨h, h2⟩ := (Bool.and_eq_true _ _).mp h
    obtain ⟨h0, h1⟩ := (Bool.and_eq_true _ _).mp h
    rw [hp, aMe_of hx, of_decide_eq_true h0]
    refine sok_exM K.c h1 h2 (of_decide_eq_true h3) (fun c C hc => ?_) (fe _ _ h5) (fs _ _ h6) hin
    obtain ⟨m1, m2⟩ := (Bool.and_eq_true _ _).mp (List.all_eq_true.mp h4 c (K.cls c C hc))
    obtain ⟨fa, f1, f2, f3, f4, f5⟩ := K.meth c _ C (List.contains_iff_mem.mp m1) hc
    exact ⟨fa, f1, f2, room _ (of_decide_eq_true m2), f3, f4, f5⟩
  | tryW b v e =>
    obtain ⟨x, hx, h⟩ := anyO_of (show tryWW Inf n sc (mSs Inf r n sc) b v e st = true from h)
    obtain ⟨hd', hh', h⟩ := anyO_of h
    obtain ⟨h, h3⟩ := (Bool.and_eq_true _ _).mp h
    obtain ⟨h, h2⟩ := (Bool.and_eq_true _ _).mp h
    obtain ⟨h0, h1⟩ := (Bool.and_eq_true _ _).mp h
    obtain ⟨p, hp⟩ := bTry_of hx
    obtain ⟨t, ht, h⟩ := anyO_of h3
    obtain ⟨s, hs', h⟩ := anyO_of h
    obtain ⟨st', hst', h⟩ := anyO_of h
    obtain ⟨o, ho, h⟩ := anyO_of h
    obtain ⟨ex, hex, h⟩ := anyO_of h
    obtain ⟨h, q4⟩ := (Bool.and_eq_true _ _).mp h
    obtain ⟨h, q3⟩ := (Bool.and_eq_true _ _).mp h
    obtain ⟨h, q2⟩ := (Bool.and_eq_true _ _).mp h
    obtain ⟨q0, q1⟩ := (Bool.and_eq_true _ _).mp h
    obtain ⟨pr, hpr⟩ := bRet_of ho
    obtain ⟨ph, hph⟩ := hParts_of (h := hd') (t := some (.Name (Str.ofString "FlatError") s.2)) (n := some (Str.ofString v)) (b := [.Return (some ex) pr]) (by
      have e1 : (hParts hd').1 = some (.Name (Str.ofString "FlatError") s.2) := by rw [ht, aName_of hs', of_decide_eq_true q0]
      have e2 : (hParts hd').2.1 = some (Str.ofString v) := of_decide_eq_true q2
      have e3 : (hParts hd').2.2 = [.Return (some ex) pr] := by rw [one1_of hst', hpr, hex]
      rw [← e1, ← e2, ← e3])
    obtain ⟨g1, g2⟩ := glob_of q1 hs
    obtain ⟨FE, X⟩ := K.x
    have q3 := of_decide_eq_true q3
    rw [← hs] at q3
    rw [hp, one1_of hh', hph, List.isEmpty_iff.mp h0, List.isEmpty_iff.mp h1]
    exact sok_tryW X (T.ss _ _ _ h2 env hs hk) (fun v => snd_q (Ar := Ar.mark (some v)) K (fun _ => ⟨by show Ar.depth + 4 ≤ 900; omega, by show Ar.units + 233 ≤ cLine; omega⟩) (by show Ar.units + 80 < cLine; omega) n _ _ _ q4 env hs) g1 q3
  | never => exact sok_never
  | forEnum x y e b =>
    obtain ⟨z, hz, h⟩ := anyO_of (show anyO (bFor st) _ = true from h)
    obtain ⟨ts, hts, h⟩ := anyO_of h
    obtain ⟨t, ht, h⟩ := anyO_of h
    obtain ⟨s1, hs1, h⟩ := anyO_of h
    obtain ⟨s2, hs2, h⟩ := anyO_of h
    obtain ⟨h, h6⟩ := (Bool.and_eq_true _ _).mp h
    obtain ⟨h, h5⟩ := (Bool.and_eq_true _ _).mp h
    obtain ⟨h, h4⟩ := (Bool.and_eq_true _ _).mp h
    obtain ⟨h, h3⟩ := (Bool.and_eq_true _ _).mp h
    obtain ⟨h, h2⟩ := (Bool.and_eq_true _ _).mp h
    obtain ⟨h0, h1⟩ := (Bool.and_eq_true _ _).mp h
    obtain ⟨p, hp⟩ := bFor_of hz
    obtain ⟨k, q, hq⟩ := aTup_of hts
    obtain ⟨ex, p1, p2, hx, g1, g2, g3⟩ := fn1W_of hs h4
    rw [hp, hq, pr2_of ht, aName_of hs1, aName_of hs2, of_decide_eq_true h0, of_decide_eq_true h1, List.isEmpty_iff.mp h6, hx]
    rw [← hs] at h2 h3
    exact sok_forEnum K.b hh g1 h2 h3 g2 (S.e _ _ _ g3 env hs) (T.ss _ _ _ h5 env hs hk)

theorem snds_all (K : InfoOk B Inf) (hh : Ar.handled = none) (hd : Ar.depth + 4 * r + 3 ≤ 900) (hu : Ar.units + 30 * r + 230 ≤ cLine) (hr : 0 < r) : ∀ n, SndS B Inf r Ar n
  | 0 => ⟨fun sc ir st h => nopeB h, fun sc ir st h => by
      obtain ⟨h0, h1⟩ := (Bool.and_eq_true _ _).mp (show (ir.isEmpty && st.isEmpty) = true from h)
      rw [List.isEmpty_iff.mp h0, List.isEmpty_iff.mp h1]
      intro env _ _; exact ss_nil⟩
  | n + 1 => by
    have S := snd_all (Ar := Ar) K hh hd hu n
    have T := snds_all K hh hd hu hr n
    refine ⟨snd_s K hh hd hu hr S T, ?_⟩
    intro sc ir st h env hs hk
    cases ir with
    | nil =>
      rw [List.isEmpty_iff.mp (show st.isEmpty = true from h)]; exact ss_nil
    | cons ir irs =>
      cases st with
      | nil => exact nopeB h
      | cons st sts =>
        obtain ⟨h0, h1⟩ := (Bool.and_eq_true _ _).mp (show (mS Inf r n sc ir st && mSs Inf r n sc irs sts) = true from h)
        exact ss_cons (T.s _ _ _ h0 env hs hk) (T.ss _ _ _ h1 env hs hk)

/-- a text of words alone: x = e, return e -/
noncomputable def calmB (Inf : Info) (n : Nat) (sc : Scope) : List S → List Stmt → Bool
  | .asg x e :: irs, st :: sts => (anyO (bAsg st) fun a => anyO (one1 a.1) fun t => anyO (aName t) fun s => decide (s.1 = Str.ofString x) && stK (sc.names.lookup (Str.ofString x)) && !(Nat.ble 8 a.2.ctorIdx && Nat.ble a.2.ctorIdx 10) && mQ Inf false n sc e a.2) && calmB Inf n sc irs sts
  | [.ret e], [st] => anyO (bRet st) fun o => anyO o fun ex => mQ Inf false n sc e ex
  | _, _ => false
theorem calm_ok {n : Nat} {env : Env} {sc : Scope} (hs : env.scope = sc) (hq : ∀ ir ex, mQ Inf false n sc ir ex = true → EOk B (CallOK B Inf.rank) Ar env ir ex) : ∀ irs sts, calmB Inf n sc irs sts = true → SsOk B (CallOK B Inf.rank) Ar env irs sts := by
  intro irs
  induction irs with
  | nil => intro sts h; cases sts <;> exact nopeB h
  | cons ir irs ih =>
    intro sts h
    cases sts with
    | nil => cases ir <;> first | exact nopeB h | (cases irs <;> exact nopeB h)
    | cons st sts =>
      cases ir with
      | asg x e =>
        obtain ⟨h, h9⟩ := (Bool.and_eq_true _ _).mp (show ((anyO (bAsg st) fun a => anyO (one1 a.1) fun t => anyO (aName t) fun s => decide (s.1 = Str.ofString x) && stK (sc.names.lookup (Str.ofString x)) && !(Nat.ble 8 a.2.ctorIdx && Nat.ble a.2.ctorIdx 10) && mQ Inf false n sc e a.2) && calmB Inf n sc irs sts) = true from h)
        obtain ⟨a, ha, h⟩ := anyO_of h
        obtain ⟨t, ht, h⟩ := anyO_of h
        obtain ⟨s, hn, h⟩ := anyO_of h
        obtain ⟨h, h3⟩ := (Bool.and_eq_true _ _).mp h
        obtain ⟨h, h2⟩ := (Bool.and_eq_true _ _).mp h
        obtain ⟨h0, h1⟩ := (Bool.and_eq_true _ _).mp h
        obtain ⟨p, hp⟩ := bAsg_of ha
        rw [hp, one1_of ht, aName_of hn, of_decide_eq_true h0]
        rw [← hs] at h1
        exact ss_cons (sok_asg h1 (hq _ _ h3) (swaps_no ((Bool.not_eq_true' _).mp h2))) (ih _ h9)
      | ret e =>
        cases irs with
        | cons _ _ => exact nopeB h
        | nil =>
          cases sts with
          | cons _ _ => exact nopeB h
          | nil =>
            obtain ⟨o, ho, h⟩ := anyO_of (show (anyO (bRet st) fun o => anyO o fun ex => mQ Inf false n sc e ex) = true from h)
            obtain ⟨ex, hex, h⟩ := anyO_of h
            obtain ⟨p, hp⟩ := bRet_of ho
            rw [hp, hex]
            exact ss_cons (sok_ret (hq _ _ h)) ss_nil
      | _ => exact nopeB h

/-- what is looked up of a function in the written part of the heap -/
noncomputable def fnB (K : Frag) (Inf : Info) (fuel : Nat) (f : String) (d : Fn) (fa : Addr) : Bool := match K.lookup fa with
  | some ⟨_, _, .func fd, _⟩ => (match fd.body with
    | .stmts body => fd.closure.isEmpty && decide (fd.globals = mainGlobals) && decide (fd.builtins = builtinsNs) && codeIn K fd.code fd.qualname && (fd.scope.kind == .function) && !fd.scope.isCoroutine && !fd.scope.isGenerator && decide d.ps.Nodup &&
        d.ps.all (fun x => fd.scope.names.lookup (Str.ofString x) == some .local || fd.scope.names.lookup (Str.ofString x) == some .cell) && decide (((cellsFrom 0 fd.scope.names []).map (·.1)).Nodup) && fd.scope.names.all (fun p => p.2 != .free) &&
        ((decide (0 < Inf.rank f) && mSs Inf (Inf.rank f) fuel fd.scope d.body body) || calmB Inf fuel fd.scope d.body body)
    | _ => false)
  | _ => false

theorem fnAt_of {f : String} {d : Fn} {fa : Addr} {fuel : Nat} (K : InfoOk B Inf) (hfa : B.fn f = some fa) (h : fnB B.K Inf fuel f d fa = true)
    (hb : ∀ oc od osl fd, B.K.lookup fa = some ⟨oc, od, .func fd, osl⟩ → ∀ vs : List Value, vs.length = d.ps.length → bindArgs fd ⟨vs, []⟩ = pure ((d.ps.map Str.ofString).zip vs)) : FnAt B (CallOK B Inf.rank) Inf.rank f d := by
  unfold fnB at h
  split at h
  · rename_i oc od fd osl ho
    split at h
    · rename_i body hbody
      simp only [Bool.and_eq_true, decide_eq_true_eq, Bool.not_eq_true', beq_iff_eq] at h
      obtain ⟨⟨⟨⟨⟨⟨⟨⟨⟨⟨⟨h1, h2⟩, h3⟩, h4⟩, h5⟩, h6⟩, h7⟩, h8⟩, h9⟩, h10⟩, h11⟩, h12⟩ := h
      refine ⟨fa, _, fd, body, hfa, K.c.kin _ _ ho, rfl, hbody, by simpa using h1, h2, h3, codeRec_of K.c.kin h4, h5, h6, h7, h8, hb _ _ _ _ ho, fun x hx => ?_, h10, h11, fun Ar env hs hh hd hu => ?_⟩
      · simpa using List.all_eq_true.mp h9 x hx
      · rcases (Bool.or_eq_true _ _).mp h12 with h12 | h12
        · obtain ⟨hr, h12⟩ := (Bool.and_eq_true _ _).mp h12
          have hr := of_decide_eq_true hr
          have hh : Ar.handled = none := hh.resolve_left (by omega)
          exact (snds_all (Ar := Ar) K hh hd hu hr fuel).ss _ _ _ h12 env hs h5
        · exact calm_ok hs (fun ir ex h => snd_q (Ar := Ar) (cl := false) K (fun e => nomatch e) (by omega) fuel _ ir ex h env hs) _ _ h12
    · cases h
  · cases h
end
end Fl

/-! the head: what is read off the written part of the heap (own work) -/
namespace Fl
open PySem PyProof.Rows PySem.W
set_option linter.unusedSimpArgs false

theorem fm_congr {α β : Type} {f g : α → Option β} : ∀ {l : List α}, (∀ n ∈ l, f n = g n) → l.filterMap f = l.filterMap g
  | [], _ => rfl
  | x :: l, h => by
    rw [List.filterMap_cons, List.filterMap_cons, h x List.mem_cons_self, fm_congr fun n hn => h n (List.mem_cons_of_mem _ hn)]

theorem zip_lookup {α : Type} : ∀ {names : List Str} {vs : List α}, names.Nodup → vs.length = names.length → names.filterMap (fun n => ((names.zip vs).lookup n).map (n, ·)) = names.zip vs ∧ ∀ n ∈ names, ((names.zip vs).lookup n).isNone = false := by
  intro names
  induction names with
  | nil => intro vs _ _; simp
  | cons x xs ih =>
    intro vs hnd hl
    cases vs with
    | nil => simp at hl
    | cons v vs =>
      rw [List.nodup_cons] at hnd
      obtain ⟨i1, i2⟩ := ih hnd.2 (by simpa using hl)
      have hne : ∀ n ∈ xs, (n == x) = false := fun n hn => by
        cases hq : n == x with
        | false => rfl
        | true => exact absurd (beq_iff_eq.mp hq ▸ hn) hnd.1
      refine ⟨?_, fun n hn => ?_⟩
      · simp only [List.zip_cons_cons, List.filterMap_cons, List.lookup_cons, beq_self_eq_true, Option.map_some]
        congr 1
        rw [← i1]
        refine fm_congr fun n hn => ?_
        simp only [hne n hn]
        rw [i1]
      · rcases List.mem_cons.mp hn with rfl | hn
        · simp [List.lookup_cons]
        · simp only [List.zip_cons_cons, List.lookup_cons, hne n hn]
          exact i2 n hn

theorem forIn_nil_of {α β γ : Type} {l : List α} (h : l = []) {b : β} {f : α → β → Sem (ForInStep β)} {k : β → Sem γ} : (forIn l b f >>= k) = k b := by
  subst h; rfl
theorem bind_plain {fd : FuncData} {names : List Str} {vs : List Value} (h1 : fd.params.posonlyargs = []) (h2 : fd.params.args.map (·.arg) = names) (h3 : fd.params.vararg = none) (h4 : fd.params.kwonlyargs = []) (h5 : fd.params.kwarg = none) (h6 : fd.defaults = .none)
    (hnd : names.Nodup) (hl : vs.length = names.length) : bindArgs fd ⟨vs, []⟩ = pure (names.zip vs) := by
  obtain ⟨z1, z2⟩ := zip_lookup hnd hl
  have hm : (names.filter fun n => ((names.zip vs).lookup n).isNone) = [] := by
    rw [List.filter_eq_nil_iff]; intro n hn; rw [z2 n hn]; simp
  have e1 : ¬ (decide (vs.length > names.length) && true) = true := by rw [hl, decide_eq_false (Nat.lt_irrefl _)]; exact Bool.noConfusion
  have e2 : ¬ (!((names.take (names.length - (List.drop (0 - names.length) ([] : List Value)).length)).filter fun n => ((names.zip vs).lookup n).isNone).isEmpty) = true := by rw [List.drop_nil, List.length_nil, Nat.sub_zero, List.take_length, hm]; exact Bool.noConfusion
  obtain ⟨nm, qn, pr, bd, sc, gl, cl, df, kdf, doc, pm, an, cd, ct, bu⟩ := fd
  obtain ⟨po, ar, va, ko, kd, kw, de⟩ := pr
  dsimp only at h1 h2 h3 h4 h5 h6
  subst h1 h2 h3 h4 h5 h6
  refine (if_neg e1).trans ?_
  refine (if_neg e2).trans ?_
  refine (forIn_nil_of (by rw [show ((none : Option (Array Value)).getD #[]).toList = [] from rfl, List.drop_nil, List.zip_nil_right])).trans ?_
  have z3 : (ar.map Arg.arg ++ []).filterMap (fun n => (((ar.map Arg.arg).zip vs).lookup n).map (n, ·)) = (ar.map Arg.arg).zip vs := by rw [List.append_nil]; exact z1
  exact congrArg (fun x => (pure x : Sem (List (Str × Value)))) z3

/-- one function of the table, looked up -/
noncomputable def fnB' (K : Frag) (Inf : Info) (fuel : Nat) (f : String) (d : Fn) (fa : Addr) : Bool := fnB K Inf fuel f d fa && (match K.lookup fa with
  | some ⟨_, _, .func fd, _⟩ => fd.params.posonlyargs.isEmpty && decide (fd.params.args.map (·.arg) = d.ps.map Str.ofString) && fd.params.vararg.isNone && fd.params.kwonlyargs.isEmpty && fd.params.kwarg.isNone && (fd.defaults == .none)
  | _ => false)

structure Heads where
  inf : Info
  addrs : List (String × Addr)
  clsA : List (String × Addr)
  xcA : List (String × Addr)
  feA : Addr

noncomputable def intV (v : Option (Option Value)) (i : Int) : Bool := match v with
  | some (some (.int j _)) => decide (j = i)
  | _ => false

noncomputable def clsB (K : Frag) (c : String) (Cl : Addr) : Bool :=
  (findIn K (.ref Cl) "__getattribute__" == some (some (.builtin "object.__getattribute__"))) && (findIn K (.ref Cl) "__getattr__" == some none) && hasDictIn K Cl &&
  (findIn K (.ref Cl) "__setattr__" == some (some (.builtin "object.__setattr__"))) && plainOver K Cl && (fieldNames c).all (fun f => findIn K (.ref Cl) (Str.ofString f) == some none)

/-- a class of what is raised -/
noncomputable def xobjB (K : Frag) (C : Addr) (bm : List Value) : Bool := match K.lookup C with
  | some ⟨oc, _, .cls cd, sl⟩ => decide (oc = .type "type") && decide (cd.mro = .ref C :: bm) && !cd.hasDel && decide (sl.size = 6) && decide (sl[4]? = some (some (.builtin "ValueError.__new__"))) && (match K.lookup cd.ns with
    | some ⟨_, _, .dict es _, _⟩ => es.all (fun e => match e.key with | .str _ _ => true | _ => false) && quietX.all (fun n => (nsFind es n).isNone)
    | _ => false)
  | _ => false
theorem xobj_of {K : Frag} {h : Heap} {C : Addr} {bm : List Value} (X : K.In h) (e : xobjB K C bm = true) : XObj h C bm := by
  unfold xobjB at e
  split at e
  · rename_i oc dd cd sl ho
    simp only [Bool.and_eq_true, decide_eq_true_eq, Bool.not_eq_true'] at e
    obtain ⟨⟨⟨⟨⟨hcls, hmro⟩, hdl⟩, hsz⟩, hmk⟩, hns⟩ := e
    split at hns
    · rename_i oc' dd' es ep sl' hN
      obtain ⟨nm, bs, mro, N, q, hdct, sn, sub, ab, col, hdel⟩ := cd
      obtain ⟨l⟩ := sl
      obtain ⟨k0, k1, k2, k3, k5, rfl⟩ := six_places (l := l) (by simpa using hsz) (by simpa using hmk)
      simp only at hcls hmro hdl
      subst hcls hmro hdl
      obtain ⟨h1, h2⟩ := (Bool.and_eq_true _ _).mp hns
      refine ⟨nm, q, N, bs, hdct, sn, sub, ab, col, dd, k0, k1, k2, k3, k5, nsFind es, X _ _ ho, ⟨_, es, ep, X _ _ hN, rfl, fun e he => ?_, fun _ => rfl⟩, fun n hn => ?_⟩
      · have := (Array.all_eq_true_iff_forall_mem.mp h1) e he
        split at this
        · rename_i a b hk; exact ⟨a, b, hk⟩
        · cases this
      · exact Option.isNone_iff_eq_none.mp (List.all_eq_true.mp h2 n hn)
    · cases hns
  · cases e
noncomputable def xheadB (K : Frag) (H : Heads) : Bool :=
  xobjB K H.feA bmV && (nsIn K mainGlobals (Str.ofString "FlatError") == some (some (.ref H.feA))) &&
  H.xcA.all (fun p => xobjB K p.2 (.ref H.feA :: bmV) && (nsIn K mainGlobals (Str.ofString p.1) == some (some (.ref p.2))) && (wordOf p.1).isSome && decide (p.2 ≠ H.feA)) &&
  H.xcA.all (fun p => H.xcA.all fun q => decide (p.2 = q.2 → p.1 = q.1)) &&
  ["NoWeb", "NoPoint", "NoTurns"].all (fun c => (H.xcA.lookup c).isSome)
theorem word_in {c : String} (h : (wordOf c).isSome = true) : c ∈ ["NoWeb", "NoPoint", "NoTurns"] := by
  unfold wordOf at h
  split at h
  · exact .head _
  · exact .tail _ (.head _)
  · exact .tail _ (.tail _ (.head _))
  · cases h

noncomputable def headB (K : Frag) (H : Heads) : Bool := xheadB K H &&
  H.inf.fns.all (fun f => match H.addrs.lookup f with
    | some fa => (nsIn K mainGlobals (Str.ofString f) == some (some (.ref fa))) && keepIn K (.ref fa)
    | none => false) &&
  H.clsA.all (fun p => H.inf.clss.contains p.1 && clsB K p.1 p.2) &&
  H.inf.clss.all (fun c => match H.clsA.lookup c, H.addrs.lookup (c ++ ".__init__") with
    | some Cl, some fI => makesIn K Cl && (findIn K (.ref Cl) "__init__" == some (some (.ref fI))) && (typeIn K (.ref fI) == some (.type "function")) && keepIn K (.ref Cl) && (nsIn K mainGlobals (Str.ofString c) == some (some (.ref Cl)))
    | _, _ => false) &&
  H.inf.meths.all (fun p => match H.clsA.lookup p.1, H.addrs.lookup (p.1 ++ "." ++ p.2) with
    | some Cl, some fa => keepIn K (.ref fa) && (findIn K (.ref Cl) (Str.ofString p.2) == some (some (.ref fa))) && (typeIn K (.ref fa) == some (.type "function")) && !(fieldNames p.1).contains p.2
    | _, _ => false) &&
  H.inf.consts.all (fun p => intV (nsIn K mainGlobals (Str.ofString p.1)) p.2) &&
  biNames.all (fun p => nsIn K mainGlobals (Str.ofString p.1) == some none)

noncomputable def tabB (K : Frag) (H : Heads) (fuel : Nat) (tab : List (String × Fn)) : Bool :=
  tab.all fun p => match H.addrs.lookup p.1 with
    | some fa => fnB' K H.inf fuel p.1 p.2 fa
    | none => false

theorem ns_at {K : Frag} {h : Heap} {m : Str → Option Value} {a : Addr} {x : Str} {r : Option Value} (X : K.In h) (N : h.Ns a m) (e : nsIn K a x = some r) : m x = r := by
  obtain ⟨o, es, ep, ho, hd, hs, hf⟩ := N
  unfold nsIn at e
  split at e
  · rename_i es' _ hl
    have h1 := X _ _ hl
    rw [ho] at h1; cases h1
    simp only at hd
    cases hd
    rw [← hf x]
    unfold nsFind findBy
    obtain ⟨l⟩ := es
    rw [List.find?_toArray]
    split at e
    · rename_i e' h'; simp only at h'; rw [h']; cases e; rfl
    · rename_i h'
      simp only at h'
      rw [h']
      split at e
      · cases e
      · cases e; rfl
  · cases e

theorem boot_names : biNames.all (fun p => bootBuiltins (Str.ofString p.1) == some p.2 && !(Str.ofString p.1 == ("__name__" : Str))) = true := by decide +kernel

noncomputable def mkB (prog : Program) (w : World) (h0 : Heap) (K : Frag) (H : Heads) : Bs := ⟨prog, w, h0, fun c => H.clsA.lookup c, fun f => H.addrs.lookup f, K, fun c => H.xcA.lookup c⟩

theorem info_of {prog : Program} {w : World} {h0 : Heap} {K : Frag} {H : Heads} {mg mb : Str → Option Value} (X : K.In h0) (G : h0.Ns mainGlobals mg) (Bn : h0.Ns builtinsNs mb) (hb : ∀ x : Str, x ≠ "__name__" → mb x = bootBuiltins x) (hlim : h0.NoLimit) (hsm : ∃ o, h0.get? sysModules = some o)
    (hH : headB K H = true) : InfoOk (mkB prog w h0 K H) H.inf := by
  unfold headB at hH
  simp only [Bool.and_eq_true] at hH
  obtain ⟨⟨⟨⟨⟨⟨a0, a1⟩, a2⟩, a3⟩, a4⟩, a5⟩, a6⟩ := hH
  have gn : ∀ {x : Str} {v : Value}, nsIn K mainGlobals x = some (some v) → GName (mkB prog w h0 K H) x v := fun e => ⟨mg, mb, G, Bn, .inl (ns_at X G e)⟩
  refine ⟨⟨hsm, hlim, fun x v hm => ?_⟩, ⟨X, fun c C hc => ?_, fun c C f hc hf => ?_⟩, fun f hf => ?_, fun c C hc => ?_, fun c hc => ?_, fun c f C hcf hc => ?_, fun x i hx => ?_, ?_⟩
  · have h1 := List.all_eq_true.mp a6 _ hm
    have h2 := List.all_eq_true.mp boot_names _ hm
    simp only [beq_iff_eq, Bool.and_eq_true, Bool.not_eq_true'] at h1 h2
    refine ⟨mg, mb, G, Bn, .inr ⟨ns_at X G h1, ?_⟩⟩
    rw [hb _ (fun e => by rw [e] at h2; exact absurd h2.2 (by decide)), h2.1]
  · have := List.all_eq_true.mp a2 _ (mem_lookup hc)
    simp only [Bool.and_eq_true, clsB, beq_iff_eq] at this
    exact ⟨this.2.1.1.1.1.1, this.2.1.1.1.1.2, this.2.1.1.1.2, this.2.1.1.2, this.2.1.2⟩
  · have := List.all_eq_true.mp a2 _ (mem_lookup hc)
    simp only [Bool.and_eq_true, clsB, beq_iff_eq] at this
    have h := List.all_eq_true.mp this.2.2 f hf
    simp only [beq_iff_eq] at h
    exact h
  · have := List.all_eq_true.mp a1 _ hf
    split at this
    · rename_i fa hfa
      simp only [Bool.and_eq_true, beq_iff_eq] at this
      exact ⟨fa, hfa, gn this.1, this.2⟩
    · cases this
  · have := List.all_eq_true.mp a2 _ (mem_lookup hc)
    simp only [Bool.and_eq_true] at this
    simpa using this.1
  · have := List.all_eq_true.mp a3 _ hc
    split at this
    · rename_i Cl fI h1 h2
      simp only [Bool.and_eq_true, beq_iff_eq] at this
      exact ⟨Cl, fI, h1, h2, this.1.1.1.1, this.1.1.1.2, this.1.1.2, this.1.2, gn this.2⟩
    · cases this
  · have := List.all_eq_true.mp a4 _ hcf
    simp only at this
    split at this
    · rename_i Cl fa h1 h2
      have hc' : H.clsA.lookup c = some C := hc
      rw [h1] at hc'; cases hc'
      simp only [Bool.and_eq_true, beq_iff_eq, Bool.not_eq_true'] at this
      refine ⟨fa, h2, this.1.1.1, this.1.1.2, this.1.2, fun hm => ?_⟩
      have := this.2
      simp [hm] at this
    · cases this
  · have := List.all_eq_true.mp a5 _ hx
    simp only [intV] at this
    split at this
    · rename_i j t hj
      simp only [decide_eq_true_eq] at this
      subst this
      exact ⟨t, gn hj⟩
    · cases this
  · unfold xheadB at a0
    simp only [Bool.and_eq_true, beq_iff_eq] at a0
    obtain ⟨⟨⟨⟨b1, b2⟩, b3⟩, b4⟩, b5⟩ := a0
    refine ⟨H.feA, xobj_of X b1, gn b2, fun c C hc => ?_, fun c d C hc hd => ?_, fun c hc => ?_⟩
    · have := List.all_eq_true.mp b3 _ (mem_lookup hc)
      simp only [Bool.and_eq_true, beq_iff_eq, decide_eq_true_eq] at this
      exact ⟨xobj_of X this.1.1.1, gn this.1.1.2, this.1.2, this.2⟩
    · have := List.all_eq_true.mp (List.all_eq_true.mp b4 _ (mem_lookup hc)) _ (mem_lookup hd)
      exact of_decide_eq_true this rfl
    · exact Option.isSome_iff_exists.mp (List.all_eq_true.mp b5 c (word_in hc))

theorem closed_tab {prog : Program} {w : World} {h0 : Heap} {K : Frag} {H : Heads} {fuel : Nat} {tab : List (String × Fn)} (I : InfoOk (mkB prog w h0 K H) H.inf) (ht : tabB K H fuel tab = true) : Closed (CallOK (mkB prog w h0 K H) H.inf.rank) tab := by
  refine closed_of I.b.nolim fun f d hfd => ?_
  have := List.all_eq_true.mp ht _ hfd
  simp only at this
  split at this
  · rename_i fa hfa
    unfold fnB' at this
    simp only [Bool.and_eq_true] at this
    refine fnAt_of I hfa this.1 ?_
    intro oc od osl fd ho vs hl
    have h2 := this.2
    have ho' : K.lookup fa = some ⟨oc, od, .func fd, osl⟩ := ho
    rw [ho'] at h2
    simp only [Bool.and_eq_true, List.isEmpty_iff, decide_eq_true_eq, Option.isNone_iff_eq_none, beq_iff_eq] at h2
    obtain ⟨⟨⟨⟨⟨q1, q2⟩, q3⟩, q4⟩, q5⟩, q6⟩ := h2
    have hnd : (d.ps.map Str.ofString).Nodup := by
      have h1 := this.1
      unfold fnB at h1
      rw [ho'] at h1
      simp only at h1
      split at h1
      · simp only [Bool.and_eq_true, decide_eq_true_eq] at h1
        have hn := h1.1.1.1.1.2
        rw [List.nodup_iff_pairwise_ne, List.pairwise_map]
        exact (List.nodup_iff_pairwise_ne.mp hn).imp fun hne e => hne (strOf_inj e)
      · cases h1
    exact bind_plain q1 q2 q3 q4 q5 q6 hnd (by simpa using hl)
  · cases this
end Fl

/-! the head, by one look at what the text leaves (own work) -/
namespace Fl
open PySem PySem.W PyProof.Rows

noncomputable def fragOf (as : List Addr) (h : Heap) : Frag := as.filterMap fun a => (h.get? a).map fun o => (a, o)
theorem fragOf_in (h : Heap) : ∀ as : List Addr, (fragOf as h).In h := by
  intro as
  induction as with
  | nil => intro a o e; exact nons e
  | cons x as ih =>
    intro a o e
    unfold fragOf at e
    rw [List.filterMap_cons] at e
    cases hx : h.get? x with
    | none => rw [hx] at e; exact ih a o e
    | some ox =>
      rw [hx] at e
      have e : List.lookup a ((x, ox) :: fragOf as h) = some o := e
      rw [List.lookup_cons] at e
      cases hq : a == x with
      | true => rw [hq] at e; cases e; rw [beq_iff_eq.mp hq]; exact hx
      | false => rw [hq] at e; exact ih a o e
/-- all that is asked of the heap behind the text -/
noncomputable def lookB (n : Nat) (H : Heads) (tab : List (String × Fn)) (fa : Addr) (s : Shared) : Bool :=
  headB (fragOf (List.range n) s.heap) H && tabB (fragOf (List.range n) s.heap) H 60 tab && decide (nsIn (fragOf (List.range n) s.heap) mainGlobals (Str.ofString "law") = some (some (.ref fa)))

theorem ints_rep {B : Bs} {Z : Zm} : ∀ {vs : List Value} {ns : List Int}, IntsAre vs ns → RepL B Z (ns.map V.int) vs
  | _, _, .nil => repL_nil
  | _, _, .cons n t h => repL_cons ⟨t, rfl⟩ (ints_rep h)

/-- from the abstract machine's answer to the claim's call -/
theorem enter {prog : Program} {w : World} {s₁ : Shared} {K : Frag} {H : Heads} {fuel : Nat} {tab : List (String × Fn)} {mg mb : Str → Option Value} {R : Result → Shared → Prop} {fa l : Addr} {ns : List Int} {vs : List Value} {P : Params}
    (X : K.In s₁.heap) (G : s₁.heap.Ns mainGlobals mg) (Bn : s₁.heap.Ns builtinsNs mb) (hb : ∀ x : Str, x ≠ "__name__" → mb x = bootBuiltins x) (hlim : s₁.heap.NoLimit) (hsm : s₁.heap.NoSeer)
    (hH : headB K H = true) (hT : tabB K H fuel tab = true) (hfa : H.addrs.lookup "law" = some fa) (hr : H.inf.rank "law" ≤ 50)
    (hL : s₁.heap.IsList l vs.toArray) (hW : Well P s₁.heap (.ref l) (ofPy (.list (ns.map .int)))) (hI : IntsAre vs ns) (hn : ns.length ≤ 63)
    (hlaw : ∀ C : CallSem, Closed C tab → C "law" [.v (.list (ns.map V.int))] [] (fun a _ => a = .v (.bool true)) (fun _ _ => False))
    (hR : ∀ h' tk, (∀ b o, s₁.heap.get? b = some o → h'.get? b = some o) → R (.ok (.ret (.bool true))) { s₁ with heap := h', toks := tk }) :
    codeAny (model prog w) callerA (.call (.ref fa) ⟨[.ref l], []⟩) R s₁ := by
  have hsm' : ∃ o, s₁.heap.get? sysModules = some o := by
    obtain ⟨mm, ⟨o, _, _, ho, _⟩, _⟩ := hsm.mods
    exact ⟨o, ho⟩
  have Inf := info_of (prog := prog) (w := w) X G Bn hb hlim hsm' hH
  have hC := closed_tab Inf hT
  have I0 : Inv (mkB prog w s₁.heap K H) (fun a => s₁.heap.get? a) [] [] [] s₁.heap :=
    { base := fun _ _ e => e
      zin := fun _ _ e => e
      led := fun p hp => (by cases hp)
      len := rfl
      live := fun i a ob e1 => (by simp at e1)
      rin := fun a ha => (by cases ha)
      nd := (by simp) }
  have hu : callerA.units + 30 * H.inf.rank "law" + 233 ≤ cLine := by
    have h1 : callerA.units = 4 := rfl
    have h2 : cLine ≥ 4 + 30 * 50 + 233 := by decide
    omega
  have hd : callerA.depth + 4 * H.inf.rank "law" + 4 ≤ 900 := by
    have h1 : callerA.depth = 301 := by decide
    omega
  refine hlaw _ hC callerA (fun a => s₁.heap.get? a) [] [] s₁ [.ref l] R fa hfa ⟨.inr rfl, hd, hu⟩ ⟨[], rfl, fun _ h => nomatch h⟩ I0 ⟨_, [], rfl, ?_, rfl⟩ ?_ (.no fun _ _ h => h)
  · have hex : ∃ vs' : List Value, s₁.heap.get? l = some { cls := .type "list", data := .seq vs'.toArray } ∧ vs'.toArray = vs.toArray := by
      obtain ⟨o, ho, hc, n, hdat⟩ := hL
      have : ∀ d, Well P s₁.heap (.ref l) d → (∃ xs, d = .list xs) → ∃ vs' : List Value, s₁.heap.get? l = some { cls := .type "list", data := .seq vs'.toArray } ∧ vs'.toArray = vs.toArray := by
        intro d hw hd
        cases hw with
        | @list _ vs' xs hg _ =>
          refine ⟨vs', hg, ?_⟩
          rw [ho] at hg; cases hg
          simp only [Data.seq.injEq] at hdat
          exact hdat.1
        | _ => obtain ⟨xs, hx⟩ := hd; cases hx
      exact this _ hW ⟨_, rfl⟩
    obtain ⟨vs', hg, he⟩ := hex
    have he' : vs' = vs := by simpa using congrArg Array.toList he
    subst he'
    exact ⟨l, vs', 0, rfl, hg, by simp; omega, ints_rep hI⟩
  · intro a v Z' ρ' σ' h' tk hk he hp I' R'
    subst hk
    obtain rfl := R'
    exact hR h' tk I'.keep

theorem law_code' {K : Frag} {h : Heap} {mg : Str → Option Value} {x : Str} {a fa : Addr} (X : K.In h) (G : h.Ns mainGlobals mg) (e : nsIn K mainGlobals x = some (some (.ref a))) (hm : mg x = some (.ref fa)) : fa = a := by
  have := ns_at X G e
  rw [hm] at this; cases this; rfl

end Fl

open PySem PySem.W PyProof.Rows
set_option Elab.async false
set_option maxRecDepth 100000
set_option maxHeartbeats 8000000
namespace Fl
noncomputable def ranks : List (String × Nat) := [("tie_of", 2), ("Web.__init__", 3), ("Web.need_point", 2), ("Web.beside", 3), ("are_turns", 4), ("walks", 5), ("flat", 6), ("_law_many", 2), ("_law_ties", 2), ("_law_turns_by", 2), ("_law_is_right", 2), ("_law_word", 0), ("_law_refused", 7), ("law", 8)]
noncomputable def heads : Heads where
  inf := { fns := ["is_whole", "tie_of", "neighbours", "_law_cell_at", "_law_whole", "are_turns", "walks", "flat", "_law_many", "_law_ties", "_law_order_by", "_law_turns_by", "_law_spoilt", "_law_is_right", "_law_word", "_law_refused"]
           meths := [("Web", "need_point"), ("Web", "beside")]
           clss := ["Web"]
           consts := [("MOST_POINTS", 16), ("MOST_TIES", 40)]
           rank := fun f => (ranks.lookup f).getD 1 }
  addrs := [("is_whole", 70), ("tie_of", 77), ("Web.__init__", 89), ("Web.need_point", 96), ("Web.beside", 110), ("neighbours", 138), ("_law_cell_at", 178), ("_law_whole", 185), ("are_turns", 152), ("walks", 166), ("flat", 171), ("_law_many", 192), ("_law_ties", 199), ("_law_order_by", 206), ("_law_turns_by", 211), ("_law_spoilt", 216), ("_law_is_right", 221), ("_law_word", 228), ("_law_refused", 235), ("law", 240)]
  clsA := [("Web", 127)]
  xcA := [("NoWeb", 37), ("NoPoint", 49), ("NoTurns", 61)]
  feA := 24
noncomputable def vw : Program := view PySem.Challenge.pw_uf010017_05 [1, 2, 3, 4, 6, 7, 8, 9, 10, 11, 12, 14, 15, 16, 17, 19, 20, 21, 22, 23, 24, 25, 26, 27, 28, 29]
theorem left1 (w : World) : (openEnds treeTable PySem.Challenge.rw_uf010017_05.row.toRowW.prog w 6000).map (fun s => openSeen vw [] (importedModules PySem.Challenge.rw_uf010017_05.row.toRowW.prog.main.body) (fun s => xlAt vw [] s && recOk (RowW.records PySem.Challenge.rw_uf010017_05.row.toRowW) s) true s) = some (openGood vw []) := by kernel_rfl
theorem left2 (w : World) : (openEnds treeTable PySem.Challenge.rw_uf010017_05.row.toRowW.prog w 6000).map (lookB 241 heads tab 240) = some true := by kernel_rfl
theorem both {α β : Type} {o : Option Shared} {f : Shared → α} {g : Shared → β} {a : α} {b : β} (h1 : o.map f = some a) (h2 : o.map g = some b) : o.map (fun s => (f s, g s)) = some (a, b) := by
  cases o with
  | none => cases h1
  | some s =>
    have e1 : f s = a := Option.some.inj h1
    have e2 : g s = b := Option.some.inj h2
    show some (f s, g s) = some (a, b)
    rw [e1, e2]
theorem holds05 : PySem.Challenge.rw_uf010017_05.Holds := by
  w_on
  o_law
  have hd0 : (defOf vw PySem.Challenge.rw_uf010017_05.row.name).isSome = true := by kernel_rfl
  obtain ⟨⟨d, kwd⟩, hd⟩ := Option.isSome_iff_exists.mp hd0
  have h1 : PySem.Challenge.rw_uf010017_05.row.prog.theDef PySem.Challenge.rw_uf010017_05.row.name = (defOf vw PySem.Challenge.rw_uf010017_05.row.name).map fun x => (x.1.params, x.1.body, x.1.scope) := by kernel_rfl
  have h2 : ((defOf vw PySem.Challenge.rw_uf010017_05.row.name).bind fun x => kwWritten? x.1.params.kwonlyargs x.1.params.kw_defaults) = (defOf vw PySem.Challenge.rw_uf010017_05.row.name).map fun x => x.2 := by kernel_rfl
  rw [hd] at h1 h2
  have hnm : d.name = Str.ofString "law" := (defOf_name hd).trans (by kernel_rfl)
  refine holds_openX (q := vw) (loose := []) (Xt := fun s => xlAt vw [] s && recOk (RowW.records PySem.Challenge.rw_uf010017_05.row.toRowW) s) (XP := XL vw []) (Yf := lookB 241 heads tab 240) (Ya := fun _ => true) (N := 6000) (fun w => both (left1 w) (left2 w)) (fun s e => xl_of s (Bool.and_eq_true_iff.mp e).1) XL.keeps hd h1 h2 (fun s e => recFacts_of (Bool.and_eq_true_iff.mp e).2) (by kernel_rfl) (by kernel_rfl) (by decide +kernel) ⟨rfl, rfl, rfl, rfl, rfl, by decide +kernel⟩ ?hw ?hc
  (case hw => w_witness2)
  intro w s₀ s₁ mg mb G y fa o pm cd doc dV kV ho hd hcd hD hmg hg args vals as L hpre hlay hrd hwl hlo
  clear h1 h2 hd0
  rw [hnm] at hmg
  obtain ⟨y, y3⟩ := Bool.and_eq_true_iff.mp y
  obtain ⟨y1, y2⟩ := Bool.and_eq_true_iff.mp y
  have KX := (fragOf_in s₀.heap (List.range 241)).keeps (Laid.keeps L)
  refine Ground.open G ?_
  intro T B D TE TW
  clear hd hcd hD ho
  have hfa : fa = 240 := law_code' (x := Str.ofString "law") KX T.g (of_decide_eq_true y3) hmg
  subst hfa
  wrow_args hpre hlay hrd hwl hlo
  refine enter_call ?_
  rename_i ns _ _ _ _ _ _ _ l vs _ hL _ hW _ hI _ hn _
  refine enter (H := heads) (fuel := 60) (tab := tab) KX T.g T.b T.builtins T.nolimit (T.seer (by decide +kernel)) y1 y2 rfl (by decide) hL hW hI (by omega) (law_ok ns) fun h' tk hk => ?_
  refine GoodW.toG ⟨.inl ⟨.bool true, .bool true, [], rfl, fun _ => rfl, .bool true, by kernel_rfl, fun _ => ⟨List.nodup_nil, fun _ h => by cases h⟩⟩, hk, rfl, hg⟩
end Fl


set_option maxRecDepth 100000 in
set_option maxHeartbeats 8000000 in
theorem PySem.Challenge.cw_uf010017_05_holds : PySem.Challenge.rw_uf010017_05.Holds :=
  Fl.holds05
