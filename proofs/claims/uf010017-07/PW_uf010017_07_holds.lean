import PyProof.Rows.All
import Wide.All
import OpenK.AllK
import Wide.FinOn
import PyProof.Claim2
import PyProof.AutoSeq1
import PyProof.Cells
import PyProof.CompFree
import PyProof.MeetsSeq
import PyProof.DictKinds
import PyProof.DictTruth
import PyProof.DictStraight
import PyProof.DictIter
import PyProof.DictKeyH
import PyProof.DictFindH
import PyProof.TupleKey
import PyProof.DictRoadsH
import PyProof.DictWalks
import PyProof.EnumMake
import PyProof.IsRules
import PyProof.NeData
import PyProof.ListRange
import PyProof.ListTruth
import PyProof.P3In
import PyProof.Rows.IntRules
import PyProof.SetScanFacts
import PyProof.SetKind
import PyProof.ZipIter
import PyProof.Rows.ZipGen
import PyProof.WalksPairs
import PyProof.Rows.Nodes
import PyProof.Rows.RuleU_int
import PyProof.Rows.RuleB_mul
import PyProof.Rows.RuleB_floordiv
import PyProof.Rows.RuleB_mod
import PyProof.Rows.NameDeclared
import PyProof.Rows.RuleC_int
import PyProof.Rows.InDataRows
import PyProof.RulesAssignMore
import PyProof.Rows.TupTab
import PyProof.Rows.SortRuns
import PyProof.Rows.SetFrom
import OpenK.KLine
import KE.KItem
import KE.KDictSum
import KE.KRevIter
import KE.KSortTup
import PySem.Challenge.RW_uf010017_07
set_option Elab.async false
set_option genSizeOf false
set_option genInjectivity false
set_option linter.all false
namespace Fl
abbrev aQ:=@List.mem_cons_self
abbrev bQ:=@List.mem_cons_of_mem
abbrev cQ:=@List.mem_singleton
abbrev dQ:=@Nat.le_trans
abbrev eQ:=@List.length_map
abbrev fQ:=@List.length_append
abbrev gQ:=@List.mem_append_right
abbrev iQ:=@List.mem_append
abbrev jQ:=@List.getElem?_eq_some_iff
abbrev kQ:=@List.append_assoc
abbrev lQ:=@List.mem_cons
abbrev mQ:=@List.mem_append_left
abbrev nQ:=@List.getElem?_eq_getElem
abbrev oQ:=@List.getElem?_map
abbrev pQ:=@Option.some.inj
abbrev qQ:=@List.mem_map
abbrev rQ:=@List.nodup_cons
abbrev sQ:=@Nat.zero_le
abbrev tQ:=@Nat.succ_le_succ
abbrev uQ:=@Nat.le_refl
abbrev vQ:=@Nat.lt_of_le_of_lt
abbrev wQ:=@List.mem_of_getElem?
abbrev xQ:=@Option.map_eq_some_iff
abbrev yQ:=@Nat.lt_of_lt_of_le
abbrev z0Q:=@List.map_append
abbrev z1Q:=@List.append_nil
abbrev z2Q:=@List.all_eq_true
abbrev z3Q:=@List.nodup_append
abbrev z4Q:=@Bool.and_eq_true
abbrev z5Q:=@Nat.le_add_right
abbrev z6Q:=@List.map_cons
abbrev z7Q:=@PySem.Heap.get?_push_of_some
abbrev z8Q:=@Nat.le_of_lt
abbrev z9Q:=@List.perm_append_comm
abbrev aW:=@Nat.add_sub_cancel'
abbrev bW:=@Nat.add_le_add_left
abbrev dW:=@Array.length_toList
abbrev eW:=@List.prefix_refl
abbrev fW:=@Bool.false_eq_true
abbrev iW:=@PySem.Heap.lt_size
abbrev jW:=@Nat.le_antisymm
abbrev kW:=@List.take_append_drop
abbrev lW:=@Array.getElem?_toList
abbrev mW:=@List.length_cons
abbrev nW:=@Int.toNat_of_nonneg
abbrev pW:=@List.not_mem_nil
abbrev qW:=@Int.natCast_nonneg
abbrev rW:=@Nat.le_of_lt_succ
abbrev sW:=@List.drop_eq_getElem_cons
abbrev tW:=@List.nodup_nil
abbrev uW:=@List.isEmpty_iff
abbrev vW:=@List.getElem?_concat_length
abbrev wW:=@Nat.lt_irrefl
abbrev yW:=@Int.lt_of_lt_of_le
abbrev zW:=@List.mem_map_of_mem
abbrev z0W:=@PySem.Heap.get?_push_size
abbrev z1W:=@List.eraseIdx_eq_take_drop_succ
abbrev z2W:=@Int.toNat_natCast
abbrev z3W:=@Nat.le_of_succ_le
abbrev z4W:=@List.size_toArray
abbrev z5W:=@List.cons_append
abbrev z6W:=@Nat.not_lt
abbrev z7W:=@Nat.lt_trans
abbrev z8W:=@Bool.not_eq_true'
abbrev z9W:=@Nat.ne_of_lt
abbrev aZ:=@Int.lt_of_le_of_lt
abbrev bZ:=@Nat.add_comm
abbrev cZ:=@List.getElem?_append_left
abbrev dZ:=@List.getElem?_eq_none_iff
abbrev eZ:=@Array.getElem?_eq_getElem
abbrev fZ:=@List.map_map
abbrev gZ:=@Nat.lt_of_le_of_ne
abbrev iZ:=@Nat.zero_add
abbrev jZ:=@Nat.min_eq_left
abbrev kZ:=@Int.not_lt
abbrev lZ:=@Nat.le_of_eq
abbrev mZ:=@Bool.false_ne_true
abbrev nZ:=@Nat.lt_succ_self
abbrev oZ:=@Option.isSome_iff_exists
abbrev pZ:=@PySem.Heap.SameBut.update
abbrev qZ:=@PySem.Heap.get?_update_self
abbrev rZ:=@Int.ofNat_lt
abbrev sZ:=@Array.getD_eq_getD_getElem?
abbrev tZ:=@List.mem_filter
abbrev uZ:=@List.length_pos_of_mem
abbrev vZ:=@Nat.succ_pos
abbrev wZ:=@List.lookup_cons
abbrev xZ:=@List.perm_middle
abbrev yZ:=@List.extract_eq_take_drop
abbrev z0Z:=@List.filter_eq_self
abbrev z1Z:=@Array.toList_append
abbrev z2Z:=@List.pairwise_map
abbrev z3Z:=@Nat.add_assoc
abbrev z4Z:=@Int.le_of_lt
abbrev z5Z:=@Nat.not_lt_zero
abbrev z6Z:=@Array.toList_extract
abbrev z7Z:=@List.all_cons
abbrev z8Z:=@Nat.lt_succ_of_lt
abbrev z9Z:=@List.getElem?_inj
abbrev aK:=@List.getD_eq_getElem?_getD
abbrev bK:=@Nat.lt_of_succ_lt
abbrev cK:=@Array.perm_iff_toList_perm
abbrev dK:=@Nat.mul_le_mul_left
abbrev eK:=@Int.add_le_add_left
abbrev fK:=@Int.le_refl
abbrev gK:=@List.findIdx?_eq_none_iff
abbrev iK:=@List.contains_iff_mem
abbrev jK:=@List.mem_reverse
abbrev lK:=@List.mem_range
abbrev mK:=@List.length_range
abbrev nK:=@Nat.le_succ_of_le
abbrev oK:=@Nat.add_sub_cancel_left
abbrev pK:=@Nat.sub_le
abbrev qK:=@List.filterMap_cons
abbrev rK:=@Int.le_trans
abbrev sK:=@List.idxOf_lt_length_of_mem
abbrev tK:=@List.take_of_length_le
abbrev uK:=@List.length_take
abbrev wK:=@Nat.add_right_comm
abbrev xK:=@List.nodup_iff_pairwise_ne
abbrev yK:=@List.getElem?_eq_none
abbrev zK:=@List.cons.injEq
abbrev z0K:=@Int.min_eq_left
abbrev z1K:=@Nat.min_le_left
abbrev z2K:=@Int.ne_of_gt
abbrev z3K:=@Nat.sub_pos_of_lt
abbrev z4K:=@List.map_congr_left
abbrev z5K:=@Nat.mod_eq_of_lt
abbrev z6K:=@Nat.min_le_right
abbrev z7K:=@PySem.Heap.size_push
abbrev z8K:=@Nat.lt_add_of_pos_right
abbrev z9K:=@Nat.max_eq_right
abbrev aJ:=@List.append_of_mem
abbrev bJ:=@List.getElem?_set_self
abbrev cJ:=@List.length_eq_one_iff
abbrev dJ:=@Nat.le_add_left
abbrev eJ:=@List.getElem?_toArray
abbrev fJ:=@Option.some.injEq
abbrev gJ:=@List.reverse_perm
theorem bc {p:Prop}(h:¬p→False):p:=Classical.byContradiction h
section
open PySem PySem.W PyProof.Rows
set_option maxRecDepth 100000
set_option maxHeartbeats 8000000
noncomputable def vw:Program:=view PySem.Challenge.pw_uf010017_07 [1,2,3,4,6,7,8,9,10,11,12,14,15,16,17,19,20,21,23,24,25,26,27,28,29,30,31,32,33,34,35,36,38,39,40,41,42,43,44,45,46,47,48,49]
theorem left1 (w:World):(openEnds treeTable PySem.Challenge.rw_uf010017_07.row.toRowW.prog w 6000).map (fun s=>openSeen vw [] (importedModules PySem.Challenge.rw_uf010017_07.row.toRowW.prog.main.body) (fun s=>xlAt vw [] s && recOk (RowW.records PySem.Challenge.rw_uf010017_07.row.toRowW) s) true s)=some (openGood vw []):=by kernel_rfl
end
end Fl
namespace Fl
open PySem (Str)
inductive Ky where
 | i (n:Int)
 | p (a b:Int)
 deriving DecidableEq
inductive V where
 | none
 | bool (b:Bool)
 | int (i:Int)
 | tup (xs:List V)
 | list (xs:List V)
 | dict (ks:List Ky) (vs:List V)
 | obj (c:String) (fs:List V)
 | range (lo hi:Int)
inductive A where
 | v (x:V)
 | ref (i:Nat)
 | inst (c:String) (i:Nat)
inductive O where
 | list (xs:List V)
 | map (kvs:List (Ky×V))
 | bag (kvs:List (Ky×V))
 | fields (fs:List (String×V))
 | dead
noncomputable def Ky.toV:Ky→V
 | .i n=>.int n
 | .p a b=>.tup [.int a,.int b]
noncomputable def kInt:Ky→Bool
 | .i _=>true
 | .p _ _=>false
noncomputable def oL:O→Option (List V)
 | .list xs=>some xs
 | _=>Option.none
noncomputable def oM:O→Option (List (Ky×V))
 | .map kvs=>some kvs
 | _=>Option.none
noncomputable def oB:O→Option (List (Ky×V))
 | .map kvs=>some kvs
 | .bag kvs=>some kvs
 | _=>Option.none
noncomputable def oA:O→Option (List V)
 | .list xs=>some xs
 | .map kvs=>some (kvs.map fun q=>q.1.toV)
 | _=>Option.none
noncomputable abbrev H:=List O
noncomputable abbrev Loc:=List (String×Option A)
noncomputable def lk:Loc→String→Option A
 | [],_=>Option.none
 | (y,b)::r,x=>bif y == x then b else lk r x
noncomputable def st:Loc→String→A→Loc
 | [],x,a=>[(x,some a)]
 | (y,b)::r,x,a=>bif y == x then (y,some a)::r else (y,b)::st r x a
theorem lk_0 (x):lk [] x=Option.none:=rfl
theorem lk_1 (y b r x):lk ((y,b)::r) x=bif y == x then b else lk r x:=rfl
theorem st_0 (x a):st [] x a=[(x,some a)]:=rfl
theorem st_1 (y b r x a):st ((y,b)::r) x a=bif y == x then (y,some a)::r else (y,b)::st r x a:=rfl
noncomputable def b2i (b:Bool):Int:=if b then 1 else 0
noncomputable def o2B:V→Bool
 | .none=>true
 | _=>false
noncomputable def peqB (a:Bool):V→Bool
 | .bool b=>a == b
 | .int i=>decide (b2i a=i)
 | _=>false
noncomputable def peqI (i:Int):V→Bool
 | .bool a=>decide (i=b2i a)
 | .int j=>decide (i=j)
 | _=>false
noncomputable def vT:V→Option (List V)
 | .tup xs=>some xs
 | _=>Option.none
noncomputable def vL:V→Option (List V)
 | .list xs=>some xs
 | _=>Option.none
mutual
noncomputable def peq:V→V→Bool
 | .none,y=>o2B y
 | .bool a,y=>peqB a y
 | .int i,y=>peqI i y
 | .tup xs,y=>(match vT y with | some ys=>peqL xs ys | Option.none=>false)
 | .list xs,y=>(match vL y with | some ys=>peqL xs ys | Option.none=>false)
 | .dict _ _,_=>false
 | .obj _ _,_=>false
 | .range _ _,_=>false
noncomputable def peqL:List V→List V→Bool
 | [],ys=>ys.isEmpty
 | x::xs,ys=>(match ys with | []=>false | y::ys=>peq x y && peqL xs ys)
end
noncomputable def m4B:V→Bool
 | .none=>true
 | .bool _=>true
 | .int _=>true
 | _=>false
noncomputable def f3A:Nat→V→Bool
 | 0,v=>m4B v
 | n+1,v=>(match vT v with
  | some xs=>xs.all (f3A n)
  | Option.none=>(match vL v with
   | some xs=>xs.all (f3A n)
   | Option.none=>m4B v))
noncomputable def eqOk (v:V):Bool:=f3A 8 v
noncomputable def isInt:V→Bool
 | .int _=>true
 | _=>false
noncomputable def c6A:V→Bool
 | .tup xs=>xs.all isInt
 | _=>false
noncomputable def t0A:V→Int
 | .int i=>i
 | _=>0
noncomputable def g0B:V→List V
 | .tup xs=>xs
 | _=>[]
noncomputable def ltL:List Int→List Int→Bool
 | [],[]=>false
 | [],_::_=>true
 | _::_,[]=>false
 | a::as,b::bs=>decide (a<b) || (decide (a=b) && ltL as bs)
theorem m3A:ltL [] []=false:=rfl
theorem l3A (b bs):ltL [] (b::bs)=true:=rfl
theorem k3A (a as):ltL (a::as) []=false:=rfl
theorem j3A (a as b bs):ltL (a::as) (b::bs)=(decide (a<b) || (decide (a=b) && ltL as bs)):=rfl
noncomputable def n2A:V→List Int
 | .int i=>[i]
 | .tup xs=>xs.map t0A
 | _=>[]
noncomputable def vlt (a b:V):Bool:=ltL (n2A a) (n2A b)
noncomputable def vle (a b:V):Bool:=!vlt b a
noncomputable def j0A (xs:List V):Bool:=xs.all isInt || xs.all fun v=>c6A v && !(g0B v).isEmpty
noncomputable def a2A (xs:List V):List V:=xs.mergeSort vle
noncomputable def vD:V→Option (List (Ky×V))
 | .dict ks vs=>some (ks.zip vs)
 | _=>Option.none
noncomputable def rngL (lo hi:Int):List V:=(List.range (hi - lo).toNat).map fun (k:Nat)=>V.int (lo+(k:Int))
noncomputable def vIt:V→Option (List V)
 | .list xs=>some xs
 | .tup xs=>some xs
 | .range lo hi=>some (rngL lo hi)
 | .dict ks vs=>some ((ks.zip vs).map fun q=>q.1.toV)
 | _=>Option.none
noncomputable def items (σ:H):A→Option (List V)
 | .v x=>vIt x
 | .ref i=>(σ[i]?).bind oA
 | .inst _ _=>Option.none
noncomputable def y0A (σ:H):A→Option (List V)
 | .v x=>vL x
 | .ref i=>(σ[i]?).bind oL
 | .inst _ _=>Option.none
noncomputable def vRg:V→Option (List V)
 | .list xs=>some xs
 | .range lo hi=>some (rngL lo hi)
 | _=>Option.none
noncomputable def seqV (σ:H):A→Option (List V)
 | .v x=>vRg x
 | .ref i=>(σ[i]?).bind oL
 | .inst _ _=>Option.none
noncomputable def vSr:V→Option (List V)
 | .list xs=>some xs
 | .dict ks vs=>some ((ks.zip vs).map fun q=>q.1.toV)
 | _=>Option.none
noncomputable def srtV (σ:H):A→Option (List V)
 | .v x=>vSr x
 | .ref i=>(σ[i]?).bind oA
 | .inst _ _=>Option.none
noncomputable def vLn:V→Option Nat
 | .list xs=>some xs.length
 | .tup xs=>some xs.length
 | .dict ks vs=>if (ks.zip vs).all (fun q=>kInt q.1) then some (ks.zip vs).length else Option.none
 | _=>Option.none
noncomputable def lenA (σ:H):A→Option Nat
 | .v x=>vLn x
 | .ref i=>((σ[i]?).bind oL).map List.length
 | .inst _ _=>Option.none
noncomputable def v1B (σ:H):A→Option V
 | .v x=>some x
 | .ref i=>((σ[i]?).bind oL).map V.list
 | .inst _ _=>Option.none
inductive Op where | add | sub | mul | fdiv | mod
inductive Cmp where | eq | ne | lt | le | gt | ge | isin | notin | isn | isnn
inductive Bi where | len | min | max | range | int
inductive Lm where | append | pop | pop0 | index | count
inductive Cl where | int | bool | list | tuple
set_option genCtorIdx false
inductive Tgt where
 | one (x:String)
 | two (x y:String)
mutual
inductive E where
 | c (v:V)
 | x (n:String)
 | g (n:String) (i:Int)
 | bin (o:Op) (a b:E)
 | not (a:E)
 | neg (a:E)
 | and (es:List E)
 | or (es:List E)
 | cmp (a:E) (o:Cmp) (b:E)
 | cmp2 (a:E) (o:Cmp) (b:E) (o':Cmp) (c:E)
 | ifx (c a b:E)
 | tup (es:List E)
 | fz (l:L)
 | mu (l:L)
 | dict0
 | fdict0
 | item (a i:E)
 | attr (a:E) (f:String)
 | call (f:String) (es:List E)
 | meth (a:E) (f:String) (es:List E)
 | new (c:String) (es:List E)
 | isi (a:E) (c:Cl)
 | bi (f:Bi) (es:List E)
 | lm (a:E) (f:Lm) (es:List E)
 | dpop (a i:E)
 | frz (e:E)
inductive L where
 | disp (es:List E)
 | comp (elt:E) (t:Tgt) (it:E) (ifs:List E)
 | copy (e:E)
 | slice (a:E) (lo hi:Option E)
 | sorted (e:E)
 | concat (a b:E)
 | rev (e:E)
 | sset (e:E)
 | sortP (e:E)
end
inductive S where
 | asg (x:String) (e:E)
 | setA (x f:String) (e:E)
 | setI (a i e:E)
 | frzx (x:String)
 | ex (e:E)
 | ite (c:E) (t f:List S)
 | for_ (t:Tgt) (e:E) (b:List S)
 | whl (c:E) (b:List S)
 | forEnum (x y:String) (e:E) (b:List S)
 | forZip (x y:String) (e e':E) (b:List S)
 | ret (e:E)
 | raise
inductive Fw where
 | next | brk | cont
 | ret (a:A)
noncomputable def get {α:Type}:Option α→(α→Prop)→Prop
 | some x,k=>k x
 | Option.none,_=>False
noncomputable def idx (n:Nat) (k:Int):Option Nat:=
 if 0≤k then (if k<n then some k.toNat else Option.none) else if 0≤k+n then some (k+n).toNat else Option.none
noncomputable def cut (n:Nat) (k:Int):Nat:=if k<0 then (k+n).toNat else min k.toNat n
noncomputable def loN (n:Nat):Option Int→Nat
 | some k=>cut n k
 | Option.none=>0
noncomputable def hiN (n:Nat):Option Int→Nat
 | some k=>cut n k
 | Option.none=>n
noncomputable def o1A {α:Type} (xs:List α) (lo hi:Option Int):List α:=(xs.take (hiN xs.length hi)).drop (loN xs.length lo)
noncomputable def vI:V→Option Int
 | .int i=>some i
 | _=>Option.none
noncomputable def vB:V→Option Bool
 | .bool b=>some b
 | _=>Option.none
noncomputable def asV:A→Option V
 | .v x=>some x
 | _=>Option.none
noncomputable def asI (a:A):Option Int:=(asV a).bind vI
noncomputable def vO:V→Option (String×List V)
 | .obj c fs=>some (c,fs)
 | _=>Option.none
noncomputable def asO (a:A):Option (String×List V):=(asV a).bind vO
noncomputable def asT (a:A):Option (List V):=(asV a).bind vT
noncomputable def asR:A→Option Nat
 | .ref i=>some i
 | _=>Option.none
noncomputable def asN:A→Option Nat
 | .inst _ i=>some i
 | _=>Option.none
noncomputable def oF:O→Option (List (String×V))
 | .fields fs=>some fs
 | _=>Option.none
noncomputable def asB (a:A):Option Bool:=(asV a).bind vB
noncomputable def one1 {α:Type}:List α→Option α
 | [x]=>some x
 | _=>Option.none
noncomputable def two2 {α:Type}:List α→Option (α×α)
 | [x,y]=>some (x,y)
 | _=>Option.none
noncomputable def binI:Op→Int→Int→(V→Prop)→Prop
 | .add,i,j,K=>K (.int (i+j))
 | .sub,i,j,K=>K (.int (i - j))
 | .mul,i,j,K=>i.natAbs<2 ^ 40∧j.natAbs<2 ^ 40∧K (.int (i * j))
 | .fdiv,i,j,K=>j≠0∧j.natAbs<2 ^ 40∧K (.int (Int.fdiv i j))
 | .mod,i,j,K=>j≠0∧K (.int (Int.fmod i j))
noncomputable def v5A (o:Op) (a b:A) (K:V→Prop):Prop:=get (asI a) fun i=>get (asI b) fun j=>binI o i j K
noncomputable def y1A (a:A):Bool:=match asV a with
 | some x=>o2B x
 | Option.none=>false
noncomputable def ordOk (a b:V):Bool:=isInt a && isInt b
noncomputable def vP (x:V):Option (Int×Int):=(vT x).bind fun xs=>(two2 xs).bind fun p=>(vI p.1).bind fun a=>(vI p.2).map fun b=>(a,b)
noncomputable def vK:V→Option Ky
 | .int i=>some (.i i)
 | .tup xs=>(vP (.tup xs)).map fun p=>.p p.1 p.2
 | _=>Option.none
noncomputable def kFit (kvs:List (Ky×V)) (k:Ky):Bool:=kvs.all fun q=>kInt q.1 == kInt k
noncomputable def kix (kvs:List (Ky×V)) (k:Ky):Option Nat:=kvs.findIdx? fun q=>decide (q.1=k)
noncomputable def kget (kvs:List (Ky×V)) (k:Ky):Option V:=(kix kvs k).bind fun j=>(kvs[j]?).map (·.2)
noncomputable def kput (kvs:List (Ky×V)) (k:Ky) (y:V):List (Ky×V):=match kix kvs k with
 | some j=>kvs.set j (k,y)
 | Option.none=>kvs++[(k,y)]
noncomputable def kdel (kvs:List (Ky×V)) (k:Ky):List (Ky×V):=match kix kvs k with
 | some j=>kvs.eraseIdx j
 | Option.none=>kvs
noncomputable def inL (x:V) (xs:List V):Option Bool:=if eqOk x && xs.all eqOk then some (xs.any fun k=>peq k x) else Option.none
noncomputable def inM (x:V) (kvs:List (Ky×V)):Option Bool:=(vK x).bind fun k=>if kFit kvs k then some (kix kvs k).isSome else Option.none
noncomputable def inO (x:V):O→Option Bool
 | .list xs=>inL x xs
 | .map kvs=>inM x kvs
 | .bag kvs=>inM x kvs
 | _=>Option.none
noncomputable def inV (x:V):V→Option Bool
 | .list xs=>inL x xs
 | .tup xs=>inL x xs
 | .dict ks vs=>inM x (ks.zip vs)
 | _=>Option.none
noncomputable def inB (σ:H) (x:V):A→Option Bool
 | .v y=>inV x y
 | .ref i=>(σ[i]?).bind (inO x)
 | _=>Option.none
noncomputable def inSem (σ:H) (a b:A):Option Bool:=(asV a).bind fun x=>inB σ x b
noncomputable def eqV (x y:V):Option Bool:=if eqOk x && eqOk y then some (peq x y) else Option.none
noncomputable def e7A (σ:H) (a b:A):Option Bool:=(v1B σ a).bind fun x=>(v1B σ b).bind fun y=>eqV x y
noncomputable def ordV (f:V→V→Bool) (x y:V):Option Bool:=if ordOk x y then some (f x y) else Option.none
noncomputable def r0B (f:V→V→Bool) (a b:A):Option Bool:=(asV a).bind fun x=>(asV b).bind fun y=>ordV f x y
noncomputable def isSem (a b:A):Option Bool:=if y1A b then some (y1A a) else Option.none
noncomputable def u0A (σ:H):Cmp→A→A→Option Bool
 | .eq,a,b=>e7A σ a b
 | .ne,a,b=>(e7A σ a b).map (!·)
 | .lt,a,b=>r0B vlt a b
 | .le,a,b=>r0B (fun x y=>!vlt y x) a b
 | .gt,a,b=>r0B (fun x y=>vlt y x) a b
 | .ge,a,b=>r0B (fun x y=>!vlt x y) a b
 | .isin,a,b=>inSem σ a b
 | .notin,a,b=>(inSem σ a b).map (!·)
 | .isn,a,b=>isSem a b
 | .isnn,a,b=>(isSem a b).map (!·)
noncomputable def h0A:String→List String
 | "Web" => ["many", "pairs", "rows"]
 | _=>[]
noncomputable def g2A:List String→List V→String→Option V
 | n::ns,v::vs,f=>if n=f then some v else g2A ns vs f
 | _,_,_=>Option.none
theorem y6A (n ns v vs f):g2A (n::ns) (v::vs) f=(if n=f then some v else g2A ns vs f):=rfl
theorem x6A (vs f):g2A [] vs f=Option.none:=rfl
theorem w6A (n ns f):g2A (n::ns) [] f=Option.none:=rfl
noncomputable def q1A:List (String×V)→String→V→List (String×V)
 | [],f,x=>[(f,x)]
 | (n,v)::r,f,x=>if n=f then (n,x)::r else (n,v)::q1A r f x
theorem k8A (f x):q1A [] f x=[(f,x)]:=rfl
theorem j8A (n v r f x):q1A ((n,v)::r) f x=(if n=f then (n,x)::r else (n,v)::q1A r f x):=rfl
noncomputable def y9A (a:A) (f:String):Option V:=(asO a).bind fun p=>g2A (h0A p.1) p.2 f
noncomputable def iI:Cl→Option Bool
 | .int=>some true
 | .bool=>some false
 | _=>Option.none
noncomputable def iT:Cl→Option Bool
 | .tuple=>some true
 | _=>Option.none
noncomputable def iL:Cl→Option Bool
 | .list=>some true
 | _=>Option.none
noncomputable def iB:Cl→Option Bool
 | .bool=>some true
 | _=>Option.none
noncomputable def isiV:V→Cl→Option Bool
 | .int _,c=>iI c
 | .bool _,c=>iB c
 | .tup _,c=>iT c
 | .list _,c=>iL c
 | _,_=>Option.none
noncomputable def b3A (σ:H) (a:A) (c:Cl):Option Bool:=match a with
 | .v x=>isiV x c
 | .ref i=>((σ[i]?).bind oL).bind fun _=>iL c
 | .inst _ _=>Option.none
noncomputable def y5A:Tgt→V→Loc→Option Loc
 | .one x,a,m=>some (st m x (.v a))
 | .two x y,a,m=>(vT a).bind fun xs=>(two2 xs).map fun p=>st (st m x (.v p.1)) y (.v p.2)
noncomputable def objA (σ:H):A→Option O
 | .ref i=>σ[i]?
 | .v _=>Option.none
 | .inst _ _=>Option.none
noncomputable def Stay (σ:H) (src:A) (oa:Option O):Prop:=objA σ src=oa
noncomputable def compLoop (ft:Loc→H→(Bool→H→Prop)→Prop) (fe:Loc→H→(A→H→Prop)→Prop) (t:Tgt) (src:A) (its:Option O) (m:Loc) :
  List V→H→List V→(List V→H→Prop)→Prop
 | [],σ,acc,K=>K acc σ
 | a::r,σ,acc,K=>get (y5A t a m) fun m'=>ft m' σ fun b σ'=>if b=true then
   (fe m' σ' fun x σ''=>get (asV x) fun x=>Stay σ'' src its∧compLoop ft fe t src its m r σ'' (acc++[x]) K)
  else Stay σ' src its∧compLoop ft fe t src its m r σ' acc K
theorem e6B (ft fe t src its m σ acc K):compLoop ft fe t src its m [] σ acc K=K acc σ:=rfl
theorem l5A (ft fe t src its m a r σ acc K):compLoop ft fe t src its m (a::r) σ acc K=(get (y5A t a m) fun m'=>ft m' σ fun b σ'=>if b=true then
   (fe m' σ' fun x σ''=>get (asV x) fun x=>Stay σ'' src its∧compLoop ft fe t src its m r σ'' (acc++[x]) K)
  else Stay σ' src its∧compLoop ft fe t src its m r σ' acc K):=rfl
noncomputable def forLoop {β:Type} (bd:β→Loc→Option Loc) (fb:Loc→H→(Fw→Loc→H→Prop)→Prop) (st:H→Prop):List β→Loc→H→(Fw→Loc→H→Prop)→Prop
 | [],m,σ,K=>K .next m σ
 | a::r,m,σ,K=>get (bd a m) fun m'=>fb m' σ fun fl m'' σ'=>match fl with
  | .next=>st σ'∧forLoop bd fb st r m'' σ' K
  | .cont=>st σ'∧forLoop bd fb st r m'' σ' K
  | .brk=>K .next m'' σ'
  | .ret v=>K (.ret v) m'' σ'
theorem f1B {β:Type} (bd:β→Loc→Option Loc) (fb st m σ K):forLoop bd fb st [] m σ K=K .next m σ:=rfl
theorem e1B {β:Type} (bd:β→Loc→Option Loc) (fb st a r m σ K):forLoop bd fb st (a::r) m σ K=(get (bd a m) fun m'=>fb m' σ fun fl m'' σ'=>match fl with
  | .next=>st σ'∧forLoop bd fb st r m'' σ' K
  | .cont=>st σ'∧forLoop bd fb st r m'' σ' K
  | .brk=>K .next m'' σ'
  | .ret v=>K (.ret v) m'' σ'):=rfl
noncomputable def u1A (ft:Loc→H→(Bool→H→Prop)→Prop) (fb:Loc→H→(Fw→Loc→H→Prop)→Prop) (K:Fw→Loc→H→Prop):Nat→Loc→H→Prop
 | 0,_,_=>False
 | n+1,m,σ=>ft m σ fun b σ'=>if b=true then
   (fb m σ' fun fl m' σ''=>match fl with
   | .next=>u1A ft fb K n m' σ''
   | .cont=>u1A ft fb K n m' σ''
   | .brk=>K .next m' σ''
   | .ret v=>K (.ret v) m' σ'')
  else K .next m σ'
theorem whileN_1 (ft fb K n m σ):u1A ft fb K (n+1) m σ=(ft m σ fun b σ'=>if b=true then
   (fb m σ' fun fl m' σ''=>match fl with
   | .next=>u1A ft fb K n m' σ''
   | .cont=>u1A ft fb K n m' σ''
   | .brk=>K .next m' σ''
   | .ret v=>K (.ret v) m' σ'')
  else K .next m σ'):=rfl
noncomputable def u0B (σ:H) (a:A) (f:List V→Option (List V×V)) (K:A→H→Prop):Prop:=get (asR a) fun i=>get ((σ[i]?).bind oL) fun xs=>get (f xs) fun r=>r.1.length<2 ^ 20∧K (.v r.2) (σ.set i (.list r.1))
noncomputable def c9A (k:Int) (xs:List V):Option (List V×V):=(idx xs.length k).bind fun j=>xs[j]?.map fun x=>(xs.eraseIdx j,x)
noncomputable def v0B (σ:H) (a:A) (K:A→H→Prop):Lm→List A→Prop
 | .append,as=>get (one1 as) fun x=>get (asV x) fun x=>u0B σ a (fun xs=>some (xs++[x],.none)) K
 | .pop,as=>get (one1 as) fun k=>get (asI k) fun k=>u0B σ a (c9A k) K
 | .pop0,as=>as=[]∧u0B σ a (c9A (-1)) K
 | .index,as=>get (one1 as) fun x=>get (asI x) fun x=>get (y0A σ a) fun xs=>xs.all isInt=true∧x∈xs.map t0A∧K (.v (.int ((xs.map t0A).idxOf x))) σ
 | .count,as=>get (one1 as) fun x=>get (asI x) fun x=>get (y0A σ a) fun xs=>xs.all isInt=true∧K (.v (.int ((xs.map t0A).count x))) σ
noncomputable def g9B (σ:H) (a:A):Bool:=(y0A σ a).isSome
noncomputable def mmSem (mx:Bool) (K:A→Prop):List A→Prop
 | [a]=>get (asT a) fun xs=>get (two2 xs) fun p=>get (vI p.1) fun i=>get (vI p.2) fun j=>K (.v (.int (if mx then max i j else min i j)))
 | [a,b]=>get (asI a) fun i=>get (asI b) fun j=>K (.v (.int (if mx then max i j else min i j)))
 | _=>False
noncomputable def o7A (σ:H) (K:A→Prop):Bi→List A→Prop
 | .len,as=>get (one1 as) fun a=>get (lenA σ a) fun n=>K (.v (.int n))
 | .min,as=>mmSem false K as
 | .max,as=>mmSem true K as
 | .range,as=>get (one1 as) fun a=>get (asI a) fun n=>n<2 ^ 20∧-(2 ^ 20)<n∧K (.v (.range 0 n))
 | .int,as=>get (one1 as) fun a=>get (asB a) fun b=>K (.v (.int (b2i b)))
noncomputable def x1A (xs:List V) (i:A):Option V:=(asI i).bind fun k=>(idx xs.length k).bind fun j=>xs[j]?
noncomputable def j9A (kvs:List (Ky×V)) (i:A):Option V:=((asV i).bind vK).bind fun k=>if kFit kvs k then kget kvs k else Option.none
noncomputable def itemV (i:A):V→Option V
 | .list xs=>x1A xs i
 | .tup xs=>x1A xs i
 | .dict ks vs=>j9A (ks.zip vs) i
 | _=>Option.none
noncomputable def itemO (i:A):O→Option V
 | .list xs=>x1A xs i
 | .map kvs=>j9A kvs i
 | _=>Option.none
noncomputable def o2A (σ:H) (a:A) (i:A):Option V:=match a with
 | .v x=>itemV i x
 | .ref r=>(σ[r]?).bind (itemO i)
 | .inst _ _=>Option.none
noncomputable def putO (i:A) (y:V):O→Option O
 | .list xs=>(asI i).bind fun k=>if 0≤k then (idx xs.length k).map fun j=>.list (xs.set j y) else Option.none
 | .map kvs=>((asV i).bind vK).bind fun k=>if kFit kvs k && decide (kvs.length<2 ^ 20) then some (.map (kput kvs k y)) else Option.none
 | _=>Option.none
noncomputable def n7B (σ:H) (va vi v:A) (K:H→Prop):Prop:=get (asV v) fun y=>get (asR va) fun r=>get ((σ[r]?).bind (putO vi y)) fun o=>K (σ.set r o)
noncomputable def p9A (σ:H) (va vi:A) (K:A→H→Prop):Prop:=get (asR va) fun r=>get ((σ[r]?).bind oB) fun kvs=>get ((asV vi).bind vK) fun k=>kFit kvs k=true∧kInt k=false∧get (kget kvs k) fun y=>K (.v y) (σ.set r (.bag (kdel kvs k)))
noncomputable def allV:List A→Option (List V)
 | []=>some []
 | .v x::r=>(allV r).map (x::·)
 | _::_=>Option.none
theorem allV_0:allV []=some []:=rfl
theorem allV_1 (x r):allV (.v x::r)=(allV r).map (x::·):=rfl
theorem x5A (i r):allV (.ref i::r)=Option.none:=rfl
theorem w5A (c i r):allV (.inst c i::r)=Option.none:=rfl
noncomputable def frzO:O→Option V
 | .list xs=>some (.list xs)
 | .map kvs=>some (.dict (kvs.map (·.1)) (kvs.map (·.2)))
 | _=>Option.none
noncomputable def i8A (σ:H) (a:A) (K:A→H→Prop):Prop:=get (asR a) fun i=>get ((σ[i]?).bind frzO) fun x=>K (.v x) (σ.set i .dead)
noncomputable def tV (p:Int×Int):V:=.tup [.int p.1,.int p.2]
noncomputable def small {α:Type} (xs:List α):Prop:=xs.length<2 ^ 20
noncomputable def lent:List A→List Nat
 | []=>[]
 | .ref i::r=>i::lent r
 | .v _::r=>lent r
 | .inst _ _::r=>lent r
noncomputable def s7B:Nat→List A→List A
 | _,[]=>[]
 | k,.ref _::r=>.ref k::s7B (k+1) r
 | k,.v x::r=>.v x::s7B k r
 | k,.inst _ _::r=>.v .none::s7B k r
theorem lent_0:lent []=[]:=rfl
theorem lent_1 (i r):lent (.ref i::r)=i::lent r:=rfl
theorem lent_2 (x r):lent (.v x::r)=lent r:=rfl
noncomputable def w3B:List A→Bool
 | []=>true
 | .inst _ _::_=>false
 | .ref _::r=>w3B r
 | .v _::r=>w3B r
noncomputable def apart:List Nat→Bool
 | []=>true
 | i::r=>!r.contains i && apart r
noncomputable def h9B:O→Bool
 | .dead=>true
 | _=>false
noncomputable def pick (σ:H):List Nat→Option H
 | []=>some []
 | i::r=>(σ[i]?).bind fun o=>bif h9B o then Option.none else (pick σ r).map (o::·)
theorem pick_1 (σ i r):pick σ (i::r)=(σ[i]?).bind fun o=>bif h9B o then Option.none else (pick σ r).map (o::·):=rfl
noncomputable def back:List Nat→H→H→H
 | [],σ,_=>σ
 | i::is,σ,os=>back is (σ.set i (os.headD .dead)) os.tail
theorem back_0 (σ os):back [] σ os=σ:=rfl
theorem back_1 (i is σ o os):back (i::is) σ (o::os)=back is (σ.set i o) os:=rfl
noncomputable def seqF (N:Loc→H→Prop) (K:Fw→Loc→H→Prop):Fw→Loc→H→Prop
 | .next,m,σ=>N m σ
 | .brk,m,σ=>K .brk m σ
 | .cont,m,σ=>K .cont m σ
 | .ret a,m,σ=>K (.ret a) m σ
noncomputable def retF (K:V→H→Prop):Fw→Loc→H→Prop
 | .next,_,σ=>K .none σ
 | .brk,_,_=>False
 | .cont,_,_=>False
 | .ret a,_,σ=>get (asV a) fun x=>K x σ
noncomputable abbrev a0A:=String→List A→H→(V→H→Prop)→Prop
noncomputable def u9A (C:a0A) (f:String) (as:List A) (σ:H) (K:A→H→Prop):Prop:=
 w3B as=true∧apart (lent as)=true∧get (pick σ (lent as)) fun σl=>C f (s7B 0 as) σl fun x σ'=>K (.v x) (back (lent as) σ σ')
noncomputable def j8B (C:a0A) (c:String) (as:List A) (σ:H) (K:A→H→Prop):Prop:=
 get (allV as) fun _=>C (c ++ ".__init__") (.inst c 0::as) [.fields []] fun r σ'=>o2B r=true∧get (σ'.head?.bind oF) fun fs=>fs.map (·.1)=h0A c∧K (.v (.obj c (fs.map (·.2)))) σ
noncomputable def l8B (C:a0A) (g:String) (va:A) (as:List A) (σ:H) (K:A→H→Prop):Prop:=
 get (allV as) fun _=>C g (va::as) [] fun x _=>K (.v x) σ
section
variable (C:a0A)
mutual
noncomputable def xE:E→Loc→H→(A→H→Prop)→Prop
 | .c v,_,σ,K=>K (.v v) σ
 | .x n,m,σ,K=>get (lk m n) fun a=>K a σ
 | .g _ i,_,σ,K=>K (.v (.int i)) σ
 | .bin o a b,m,σ,K=>xE a m σ fun va σ=>xE b m σ fun vb σ=>v5A o va vb fun r=>K (.v r) σ
 | .not a,m,σ,K=>xE a m σ fun va σ=>get (asB va) fun b=>K (.v (.bool (!b))) σ
 | .neg a,m,σ,K=>xE a m σ fun va σ=>get (asI va) fun i=>K (.v (.int (-i))) σ
 | .and es,m,σ,K=>xBs true es m σ K
 | .or es,m,σ,K=>xBs false es m σ K
 | .cmp a o b,m,σ,K=>xE a m σ fun va σ=>xE b m σ fun vb σ=>get (u0A σ o va vb) fun r=>K (.v (.bool r)) σ
 | .cmp2 _ _ _ _ _,_,_,_=>False
 | .ifx c a b,m,σ,K=>xT c m σ fun r σ=>if r=true then xE a m σ K else xE b m σ K
 | .tup es,m,σ,K=>xEs es m σ fun as σ=>get (allV as) fun vs=>K (.v (.tup vs)) σ
 | .fz l,m,σ,K=>xL l m σ fun vs σ=>small vs∧K (.v (.list vs)) σ
 | .mu l,m,σ,K=>xL l m σ fun vs σ=>small vs∧K (.ref σ.length) (σ++[.list vs])
 | .dict0,_,σ,K=>K (.ref σ.length) (σ++[.map []])
 | .fdict0,_,σ,K=>K (.v (.dict [] [])) σ
 | .item a i,m,σ,K=>xE a m σ fun va σ=>xE i m σ fun vi σ=>get (o2A σ va vi) fun r=>K (.v r) σ
 | .attr a f,m,σ,K=>xE a m σ fun va σ=>get (y9A va f) fun r=>K (.v r) σ
 | .call f es,m,σ,K=>xEs es m σ fun as σ=>u9A C f as σ K
 | .meth a f es,m,σ,K=>xE a m σ fun va σ=>get (asO va) fun p=>xEs es m σ fun as σ=>l8B C (p.1 ++ "." ++ f) va as σ K
 | .new c es,m,σ,K=>xEs es m σ fun as σ=>j8B C c as σ K
 | .isi a c,m,σ,K=>xE a m σ fun va σ=>get (b3A σ va c) fun r=>K (.v (.bool r)) σ
 | .bi f es,m,σ,K=>xEs es m σ fun as σ=>o7A σ (fun r=>K r σ) f as
 | .lm a f es,m,σ,K=>xE a m σ fun va σ=>g9B σ va=true∧xEs es m σ fun as σ=>v0B σ va K f as
 | .dpop a i,m,σ,K=>xE a m σ fun va σ=>(∃ r,va=.ref r∧∃ o kvs,σ[r]?=some o∧oB o=some kvs)∧xE i m σ fun vi σ=>p9A σ va vi K
 | .frz e,m,σ,K=>xE e m σ fun va σ=>i8A σ va K
noncomputable def xT:E→Loc→H→(Bool→H→Prop)→Prop
 | .not a,m,σ,K=>xT a m σ fun b σ=>K (!b) σ
 | .and es,m,σ,K=>xTs true es m σ K
 | .or es,m,σ,K=>xTs false es m σ K
 | .cmp a o b,m,σ,K=>xE a m σ fun va σ=>xE b m σ fun vb σ=>get (u0A σ o va vb) fun r=>K r σ
 | .cmp2 a o b o' c,m,σ,K=>xE a m σ fun va σ=>xE b m σ fun vb σ=>get (u0A σ o va vb) fun r=>if r=true then
   xE c m σ fun vc σ=>get (u0A σ o' vb vc) fun r=>K r σ else K false σ
 | .call f es,m,σ,K=>xEs es m σ fun as σ=>u9A C f as σ fun a σ=>get (asB a) fun b=>K b σ
 | .isi a c,m,σ,K=>xE a m σ fun va σ=>get (b3A σ va c) fun r=>K r σ
 | _,_,_,_=>False
noncomputable def xBs:Bool→List E→Loc→H→(A→H→Prop)→Prop
 | _,[],_,_,_=>False
 | _,[e],m,σ,K=>xE e m σ K
 | u,e::r,m,σ,K=>xE e m σ fun a σ=>get (asB a) fun b=>if b=u then xBs u r m σ K else K a σ
noncomputable def xTs:Bool→List E→Loc→H→(Bool→H→Prop)→Prop
 | u,[],_,σ,K=>K u σ
 | u,e::r,m,σ,K=>xT e m σ fun b σ=>if b=u then xTs u r m σ K else K (!u) σ
noncomputable def xEs:List E→Loc→H→(List A→H→Prop)→Prop
 | [],_,σ,K=>K [] σ
 | e::r,m,σ,K=>xE e m σ fun a σ=>xEs r m σ fun as σ=>K (a::as) σ
noncomputable def xO:Option E→Loc→H→(Option Int→H→Prop)→Prop
 | Option.none,_,σ,K=>K Option.none σ
 | some e,m,σ,K=>xE e m σ fun a σ=>get (asI a) fun i=>K (some i) σ
noncomputable def xL:L→Loc→H→(List V→H→Prop)→Prop
 | .disp es,m,σ,K=>xEs es m σ fun as σ=>get (allV as) fun vs=>K vs σ
 | .comp elt t it ifs,m,σ,K=>xE it m σ fun va σ=>get (items σ va) fun its=>
   compLoop (fun m σ K=>xTs true ifs m σ K) (fun m σ K=>xE elt m σ K) t va (objA σ va) m its σ [] K
 | .copy e,m,σ,K=>xE e m σ fun va σ=>get (seqV σ va) fun xs=>K xs σ
 | .slice a lo hi,m,σ,K=>xE a m σ fun va σ=>xO lo m σ fun l σ=>xO hi m σ fun h σ=>get (y0A σ va) fun xs=>K (o1A xs l h) σ
 | .sorted e,m,σ,K=>xE e m σ fun va σ=>get (srtV σ va) fun xs=>j0A xs=true∧xs.length<64∧K (a2A xs) σ
 | .concat a b,m,σ,K=>xE a m σ fun va σ=>xE b m σ fun vb σ=>get (y0A σ va) fun xs=>get (y0A σ vb) fun ys=>K (xs++ys) σ
 | .rev e,m,σ,K=>xE e m σ fun va σ=>get (y0A σ va) fun xs=>K xs.reverse σ
 | .sset e,m,σ,K=>xE e m σ fun va σ=>get (y0A σ va) fun xs=>(xs.all isInt=true∧(xs.map t0A).Nodup)∧(∀ k∈xs.map t0A,0≤k∧k<16)∧K (a2A xs) σ
 | .sortP e,m,σ,K=>xE e m σ fun va σ=>get (srtV σ va) fun xs=>(j0A xs=true∧xs.length<100)∧∀ ys:List V,ys.Perm xs→K ys σ
end
mutual
noncomputable def xS:S→Loc→H→(Fw→Loc→H→Prop)→Prop
 | .asg x e,m,σ,K=>xE C e m σ fun a σ=>K .next (st m x a) σ
 | .setA x f e,m,σ,K=>xE C e m σ fun a σ=>get (asV a) fun v=>get ((lk m x).bind asN) fun i=>get ((σ[i]?).bind oF) fun fs=>fs.length<100∧K .next m (σ.set i (.fields (q1A fs f v)))
 | .setI a i e,m,σ,K=>xE C e m σ fun v σ=>xE C a m σ fun va σ=>xE C i m σ fun vi σ=>n7B σ va vi v fun σ=>K .next m σ
 | .frzx x,m,σ,K=>get (lk m x) fun a=>i8A σ a fun a σ=>K .next (st m x a) σ
 | .ex e,m,σ,K=>xE C e m σ fun _ σ=>K .next m σ
 | .ite c t f,m,σ,K=>xT C c m σ fun b σ=>if b=true then xSs t m σ K else xSs f m σ K
 | .for_ t e b,m,σ,K=>xE C e m σ fun a σ=>get (items σ a) fun its=>forLoop (y5A t) (fun m σ K=>xSs b m σ K) (fun σ'=>Stay σ' a (objA σ a)) its m σ K
 | .whl c b,m,σ,K=>∃ n,u1A (fun m σ K=>xT C c m σ K) (fun m σ K=>xSs b m σ K) K n m σ
 | .forEnum x y e b,m,σ,K=>xE C e m σ fun a σ=>get (y0A σ a) fun its=>
   forLoop (fun (p:V×Nat) m=>some (st (st m x (.v (.int p.2))) y (.v p.1))) (fun m σ K=>xSs b m σ K) (fun σ'=>Stay σ' a (objA σ a)) its.zipIdx m σ K
 | .forZip x y e e' b,m,σ,K=>xE C e m σ fun a σ=>xE C e' m σ fun a' σ=>get (y0A σ a) fun its=>get (y0A σ a') fun its'=>
   forLoop (fun (p:V×V) m=>some (st (st m x (.v p.1)) y (.v p.2))) (fun m σ K=>xSs b m σ K) (fun σ'=>Stay σ' a (objA σ a)∧Stay σ' a' (objA σ a')) (its.zip its') m σ K
 | .ret e,m,σ,K=>xE C e m σ fun a σ=>K (.ret a) m σ
 | .raise,_,_,_=>False
noncomputable def xSs:List S→Loc→H→(Fw→Loc→H→Prop)→Prop
 | [],m,σ,K=>K .next m σ
 | s::r,m,σ,K=>xS s m σ (seqF (fun m σ=>xSs r m σ K) K)
end
noncomputable def w9A:List String→List A→Loc
 | x::xs,a::as=>(x,some a)::w9A xs as
 | _,_=>[]
theorem bindP_0 (x xs a as):w9A (x::xs) (a::as)=(x,some a)::w9A xs as:=rfl
theorem bindP_1 (as):w9A [] as=[]:=rfl
structure Fn where
 ps:List String
 ls:List String
 body:List S
noncomputable def Fn.run (f:Fn) (as:List A) (σ:H) (K:V→H→Prop):Prop:=
 as.length=f.ps.length∧xSs C f.body ((f.ls.map fun x=>(x,Option.none))++w9A f.ps as) σ (retF K)
end
noncomputable def d1A (C:a0A) (tab:List (String×Fn)):Prop:=
 ∀ f d,(f,d)∈tab→∀ as σ K,d.run C as σ K→C f as σ K
end Fl
namespace Fl
open PySem (Str)
theorem xE_c (C:a0A) (v) (w1) (σ) (K):xE C (.c v) w1 σ K=(K (.v v) σ):=rfl
theorem xE_x (C:a0A) (n) (m) (σ) (K):xE C (.x n) m σ K=(get (lk m n) fun a=>K a σ):=rfl
theorem xE_g (C:a0A) (w1) (i) (w2) (σ) (K):xE C (.g w1 i) w2 σ K=(K (.v (.int i)) σ):=rfl
theorem xE_bin (C:a0A) (o) (a) (b) (m) (σ) (K):xE C (.bin o a b) m σ K=(xE C a m σ fun va σ=>xE C b m σ fun vb σ=>v5A o va vb fun r=>K (.v r) σ):=rfl
theorem xE_not (C:a0A) (a) (m) (σ) (K):xE C (.not a) m σ K=(xE C a m σ fun va σ=>get (asB va) fun b=>K (.v (.bool (!b))) σ):=rfl
theorem xE_neg (C:a0A) (a) (m) (σ) (K):xE C (.neg a) m σ K=(xE C a m σ fun va σ=>get (asI va) fun i=>K (.v (.int (-i))) σ):=rfl
theorem xE_and (C:a0A) (es) (m) (σ) (K):xE C (.and es) m σ K=(xBs C true es m σ K):=rfl
theorem xE_or (C:a0A) (es) (m) (σ) (K):xE C (.or es) m σ K=(xBs C false es m σ K):=rfl
theorem xE_cmp (C:a0A) (a) (o) (b) (m) (σ) (K):xE C (.cmp a o b) m σ K=(xE C a m σ fun va σ=>xE C b m σ fun vb σ=>get (u0A σ o va vb) fun r=>K (.v (.bool r)) σ):=rfl
theorem xE_ifx (C:a0A) (c) (a) (b) (m) (σ) (K):xE C (.ifx c a b) m σ K=(xT C c m σ fun r σ=>if r=true then xE C a m σ K else xE C b m σ K):=rfl
theorem xE_tup (C:a0A) (es) (m) (σ) (K):xE C (.tup es) m σ K=(xEs C es m σ fun as σ=>get (allV as) fun vs=>K (.v (.tup vs)) σ):=rfl
theorem xE_fz (C:a0A) (l) (m) (σ) (K):xE C (.fz l) m σ K=(xL C l m σ fun vs σ=>small vs∧K (.v (.list vs)) σ):=rfl
theorem xE_mu (C:a0A) (l) (m) (σ) (K):xE C (.mu l) m σ K=(xL C l m σ fun vs σ=>small vs∧K (.ref σ.length) (σ++[.list vs])):=rfl
theorem xE_dict0 (C:a0A) (w1) (σ) (K):xE C .dict0 w1 σ K=(K (.ref σ.length) (σ++[.map []])):=rfl
theorem xE_fdict0 (C:a0A) (w1) (σ) (K):xE C .fdict0 w1 σ K=(K (.v (.dict [] [])) σ):=rfl
theorem xE_item (C:a0A) (a) (i) (m) (σ) (K):xE C (.item a i) m σ K=(xE C a m σ fun va σ=>xE C i m σ fun vi σ=>get (o2A σ va vi) fun r=>K (.v r) σ):=rfl
theorem xE_attr (C:a0A) (a) (f) (m) (σ) (K):xE C (.attr a f) m σ K=(xE C a m σ fun va σ=>get (y9A va f) fun r=>K (.v r) σ):=rfl
theorem xE_call (C:a0A) (f) (es) (m) (σ) (K):xE C (.call f es) m σ K=(xEs C es m σ fun as σ=>u9A C f as σ K):=rfl
theorem xE_meth (C:a0A) (a) (f) (es) (m) (σ) (K):xE C (.meth a f es) m σ K=(xE C a m σ fun va σ=>get (asO va) fun p=>xEs C es m σ fun as σ=>l8B C (p.1 ++ "." ++ f) va as σ K):=rfl
theorem xE_new (C:a0A) (c) (es) (m) (σ) (K):xE C (.new c es) m σ K=(xEs C es m σ fun as σ=>j8B C c as σ K):=rfl
theorem xE_isi (C:a0A) (a) (c) (m) (σ) (K):xE C (.isi a c) m σ K=(xE C a m σ fun va σ=>get (b3A σ va c) fun r=>K (.v (.bool r)) σ):=rfl
theorem xE_bi (C:a0A) (f) (es) (m) (σ) (K):xE C (.bi f es) m σ K=(xEs C es m σ fun as σ=>o7A σ (fun r=>K r σ) f as):=rfl
theorem xE_lm (C:a0A) (a) (f) (es) (m) (σ) (K):xE C (.lm a f es) m σ K=(xE C a m σ fun va σ=>g9B σ va=true∧xEs C es m σ fun as σ=>v0B σ va K f as):=rfl
theorem xE_dpop (C:a0A) (a) (i) (m) (σ) (K):xE C (.dpop a i) m σ K=(xE C a m σ fun va σ=>(∃ r,va=.ref r∧∃ o kvs,σ[r]?=some o∧oB o=some kvs)∧xE C i m σ fun vi σ=>p9A σ va vi K):=rfl
theorem xE_frz (C:a0A) (e) (m) (σ) (K):xE C (.frz e) m σ K=(xE C e m σ fun va σ=>i8A σ va K):=rfl
theorem xT_not (C:a0A) (a) (m) (σ) (K):xT C (.not a) m σ K=(xT C a m σ fun b σ=>K (!b) σ):=rfl
theorem xT_and (C:a0A) (es) (m) (σ) (K):xT C (.and es) m σ K=(xTs C true es m σ K):=rfl
theorem xT_or (C:a0A) (es) (m) (σ) (K):xT C (.or es) m σ K=(xTs C false es m σ K):=rfl
theorem xT_cmp (C:a0A) (a) (o) (b) (m) (σ) (K):xT C (.cmp a o b) m σ K=(xE C a m σ fun va σ=>xE C b m σ fun vb σ=>get (u0A σ o va vb) fun r=>K r σ):=rfl
theorem xT_cmp2 (C:a0A) (a) (o) (b) (o') (c) (m) (σ) (K):xT C (.cmp2 a o b o' c) m σ K=(xE C a m σ fun va σ=>xE C b m σ fun vb σ=>get (u0A σ o va vb) fun r=>if r=true then
   xE C c m σ fun vc σ=>get (u0A σ o' vb vc) fun r=>K r σ else K false σ):=rfl
theorem xT_call (C:a0A) (f) (es) (m) (σ) (K):xT C (.call f es) m σ K=(xEs C es m σ fun as σ=>u9A C f as σ fun a σ=>get (asB a) fun b=>K b σ):=rfl
theorem xT_isi (C:a0A) (a) (c) (m) (σ) (K):xT C (.isi a c) m σ K=(xE C a m σ fun va σ=>get (b3A σ va c) fun r=>K r σ):=rfl
theorem xL_disp (C:a0A) (es) (m) (σ) (K):xL C (.disp es) m σ K=(xEs C es m σ fun as σ=>get (allV as) fun vs=>K vs σ):=rfl
theorem xL_comp (C:a0A) (elt) (t) (it) (ifs) (m) (σ) (K):xL C (.comp elt t it ifs) m σ K=(xE C it m σ fun va σ=>get (items σ va) fun its=>
   compLoop (fun m σ K=>xTs C true ifs m σ K) (fun m σ K=>xE C elt m σ K) t va (objA σ va) m its σ [] K):=rfl
theorem xL_copy (C:a0A) (e) (m) (σ) (K):xL C (.copy e) m σ K=(xE C e m σ fun va σ=>get (seqV σ va) fun xs=>K xs σ):=rfl
theorem xL_slice (C:a0A) (a) (lo) (hi) (m) (σ) (K):xL C (.slice a lo hi) m σ K=(xE C a m σ fun va σ=>xO C lo m σ fun l σ=>xO C hi m σ fun h σ=>get (y0A σ va) fun xs=>K (o1A xs l h) σ):=rfl
theorem xL_sorted (C:a0A) (e) (m) (σ) (K):xL C (.sorted e) m σ K=(xE C e m σ fun va σ=>get (srtV σ va) fun xs=>j0A xs=true∧xs.length<64∧K (a2A xs) σ):=rfl
theorem xL_concat (C:a0A) (a) (b) (m) (σ) (K):xL C (.concat a b) m σ K=(xE C a m σ fun va σ=>xE C b m σ fun vb σ=>get (y0A σ va) fun xs=>get (y0A σ vb) fun ys=>K (xs++ys) σ):=rfl
theorem xL_rev (C:a0A) (e) (m) (σ) (K):xL C (.rev e) m σ K=(xE C e m σ fun va σ=>get (y0A σ va) fun xs=>K xs.reverse σ):=rfl
theorem xL_sset (C:a0A) (e) (m) (σ) (K):xL C (.sset e) m σ K=(xE C e m σ fun va σ=>get (y0A σ va) fun xs=>(xs.all isInt=true∧(xs.map t0A).Nodup)∧(∀ k∈xs.map t0A,0≤k∧k<16)∧K (a2A xs) σ):=rfl
theorem xL_sortP (C:a0A) (e) (m) (σ) (K):xL C (.sortP e) m σ K=(xE C e m σ fun va σ=>get (srtV σ va) fun xs=>(j0A xs=true∧xs.length<100)∧∀ ys:List V,ys.Perm xs→K ys σ):=rfl
theorem xS_asg (C:a0A) (x) (e) (m) (σ) (K):xS C (.asg x e) m σ K=(xE C e m σ fun a σ=>K .next (st m x a) σ):=rfl
theorem xS_setA (C:a0A) (x) (f) (e) (m) (σ) (K):xS C (.setA x f e) m σ K=(xE C e m σ fun a σ=>get (asV a) fun v=>get ((lk m x).bind asN) fun i=>get ((σ[i]?).bind oF) fun fs=>fs.length<100∧K .next m (σ.set i (.fields (q1A fs f v)))):=rfl
theorem xS_setI (C:a0A) (a) (i) (e) (m) (σ) (K):xS C (.setI a i e) m σ K=(xE C e m σ fun v σ=>xE C a m σ fun va σ=>xE C i m σ fun vi σ=>n7B σ va vi v fun σ=>K .next m σ):=rfl
theorem xS_frzx (C:a0A) (x) (m) (σ) (K):xS C (.frzx x) m σ K=(get (lk m x) fun a=>i8A σ a fun a σ=>K .next (st m x a) σ):=rfl
theorem xS_ex (C:a0A) (e) (m) (σ) (K):xS C (.ex e) m σ K=(xE C e m σ fun _ σ=>K .next m σ):=rfl
theorem xS_ite (C:a0A) (c) (t) (f) (m) (σ) (K):xS C (.ite c t f) m σ K=(xT C c m σ fun b σ=>if b=true then xSs C t m σ K else xSs C f m σ K):=rfl
theorem xS_for (C:a0A) (t) (e) (b) (m) (σ) (K):xS C (.for_ t e b) m σ K=(xE C e m σ fun a σ=>get (items σ a) fun its=>forLoop (y5A t) (fun m σ K=>xSs C b m σ K) (fun σ'=>Stay σ' a (objA σ a)) its m σ K):=rfl
theorem xS_whl (C:a0A) (c) (b) (m) (σ) (K):xS C (.whl c b) m σ K=(∃ n,u1A (fun m σ K=>xT C c m σ K) (fun m σ K=>xSs C b m σ K) K n m σ):=rfl
theorem xS_forEnum (C:a0A) (x) (y) (e) (b) (m) (σ) (K):xS C (.forEnum x y e b) m σ K=(xE C e m σ fun a σ=>get (y0A σ a) fun its=>
   forLoop (fun (p:V×Nat) m=>some (st (st m x (.v (.int p.2))) y (.v p.1))) (fun m σ K=>xSs C b m σ K) (fun σ'=>Stay σ' a (objA σ a)) its.zipIdx m σ K):=rfl
theorem xS_forZip (C:a0A) (x) (y) (e) (e') (b) (m) (σ) (K):xS C (.forZip x y e e' b) m σ K=(xE C e m σ fun a σ=>xE C e' m σ fun a' σ=>get (y0A σ a) fun its=>get (y0A σ a') fun its'=>
   forLoop (fun (p:V×V) m=>some (st (st m x (.v p.1)) y (.v p.2))) (fun m σ K=>xSs C b m σ K) (fun σ'=>Stay σ' a (objA σ a)∧Stay σ' a' (objA σ a')) (its.zip its') m σ K):=rfl
theorem xS_ret (C:a0A) (e) (m) (σ) (K):xS C (.ret e) m σ K=(xE C e m σ fun a σ=>K (.ret a) m σ):=rfl
theorem xS_raise (C:a0A) (w1) (w2) (w3):xS C .raise w1 w2 w3=(False):=rfl
theorem xBs_one (C:a0A) (w1) (e) (m) (σ) (K):xBs C w1 [e] m σ K=(xE C e m σ K):=rfl
theorem xBs_two (C:a0A) (u) (e) (e') (r) (m) (σ) (K):xBs C u (e::e'::r) m σ K=(xE C e m σ fun a σ=>get (asB a) fun b=>if b=u then xBs C u (e'::r) m σ K else K a σ):=rfl
theorem xTs_nil (C:a0A) (u) (w1) (σ) (K):xTs C u [] w1 σ K=(K u σ):=rfl
theorem xTs_cons (C:a0A) (u) (e) (r) (m) (σ) (K):xTs C u (e::r) m σ K=(xT C e m σ fun b σ=>if b=u then xTs C u r m σ K else K (!u) σ):=rfl
theorem xEs_nil (C:a0A) (w1) (σ) (K):xEs C [] w1 σ K=(K [] σ):=rfl
theorem xEs_cons (C:a0A) (e) (r) (m) (σ) (K):xEs C (e::r) m σ K=(xE C e m σ fun a σ=>xEs C r m σ fun as σ=>K (a::as) σ):=rfl
theorem xO_none (C:a0A) (w1) (σ) (K):xO C Option.none w1 σ K=(K Option.none σ):=rfl
theorem xO_some (C:a0A) (e) (m) (σ) (K):xO C (some e) m σ K=(xE C e m σ fun a σ=>get (asI a) fun i=>K (some i) σ):=rfl
theorem xSs_nil (C:a0A) (m) (σ) (K):xSs C [] m σ K=(K .next m σ):=rfl
theorem e3B (C:a0A) (s) (r) (m) (σ) (K):xSs C (s::r) m σ K=(xS C s m σ (seqF (fun m σ=>xSs C r m σ K) K)):=rfl
theorem get_some {α:Type} (x:α) (k:α→Prop):get (some x) k=k x:=rfl
theorem f5A (m:Loc) (x:String) (a:A) (y:String):lk (st m x a) y=if y=x then some a else lk m y:=by
 induction m with
 | nil=>
  show (bif x == y then some a else Option.none)=_
  by_cases h:y=x
  ·rw [if_pos h,h,beq_self_eq_true];rfl
  ·rw [if_neg h,beq_eq_false_iff_ne.mpr (Ne.symm h)];rfl
 | cons p r ih=>
  obtain ⟨z,b⟩:=p
  rw [st_1]
  by_cases hz:z=x
  ·rw [hz,beq_self_eq_true]
   show (bif x == y then some a else lk r y)=if y=x then some a else (bif x == y then b else lk r y)
   by_cases h:y=x
   ·rw [if_pos h,h,beq_self_eq_true];rfl
   ·rw [if_neg h,beq_eq_false_iff_ne.mpr (Ne.symm h)];rfl
  ·rw [beq_eq_false_iff_ne.mpr hz]
   show (bif z == y then b else lk (st r x a) y)=if y=x then some a else (bif z == y then b else lk r y)
   rw [ih]
   by_cases h:y=x
   ·rw [if_pos h,if_pos h,h,beq_eq_false_iff_ne.mpr hz];rfl
   ·rw [if_neg h,if_neg h]
theorem b_add (i j:Int) (K):v5A .add (.v (.int i)) (.v (.int j)) K=K (.int (i+j)):=rfl
theorem b_sub (i j:Int) (K):v5A .sub (.v (.int i)) (.v (.int j)) K=K (.int (i - j)):=rfl
theorem b_mul (i j:Int) (K):v5A .mul (.v (.int i)) (.v (.int j)) K=(i.natAbs<2 ^ 40∧j.natAbs<2 ^ 40∧K (.int (i * j))):=rfl
theorem b_fdiv (i j:Int) (K):v5A .fdiv (.v (.int i)) (.v (.int j)) K=(j≠0∧j.natAbs<2 ^ 40∧K (.int (Int.fdiv i j))):=rfl
theorem b_mod (i j:Int) (K):v5A .mod (.v (.int i)) (.v (.int j)) K=(j≠0∧K (.int (Int.fmod i j))):=rfl
theorem ltL_one (a b:Int):ltL [a] [b]=decide (a<b):=by simp [m3A,l3A,k3A,j3A]
theorem t2A (a b:Int):vlt (.int a) (.int b)=decide (a<b):=ltL_one a b
theorem z7A (i j:Int):(!vlt (.int j) (.int i))=decide (i≤j):=by
 rw [t2A]
 by_cases h:i≤j
 ·rw [decide_eq_true h,decide_eq_false (by lia)];rfl
 ·rw [decide_eq_false h,decide_eq_true (by lia)];rfl
theorem asB_b (b:Bool):asB (.v (.bool b))=some b:=rfl
theorem asV_v (x:V):asV (.v x)=some x:=rfl
theorem asI_int (i:Int):asI (.v (.int i))=some i:=rfl
theorem asO_obj (c:String) (fs:List V):asO (.v (.obj c fs))=some (c,fs):=rfl
theorem asR_ref (i:Nat):asR (.ref i)=some i:=rfl
theorem asN_inst (c:String) (i:Nat):asN (.inst c i)=some i:=rfl
theorem sq_next (N K m σ):seqF N K .next m σ=N m σ:=rfl
theorem sq_ret (N K a m σ):seqF N K (.ret a) m σ=K (.ret a) m σ:=rfl
theorem rt_next (K m σ):retF K .next m σ=K .none σ:=rfl
theorem rt_ret (K x m σ):retF K (.ret (.v x)) m σ=K x σ:=rfl
theorem oF_f (fs:List (String×V)):oF (.fields fs)=some fs:=rfl
theorem oL_l (xs:List V):oL (.list xs)=some xs:=rfl
theorem peq_ii (i j:Int):peq (.int i) (.int j)=decide (i=j):=rfl
theorem u9B {α:Type} {o:Option α} {k:α→Prop} (h:get o k):∃ x,o=some x∧k x:=by
 cases o with
 | none=>exact h.elim
 | some x=>exact ⟨x,rfl,h⟩
theorem getE {α:Type} {o:Option α} {k:α→Prop} {G:Prop} (h:get o k) (q:∀ x,o=some x→k x→G):G:=(u9B h).elim fun x p=>q x p.1 p.2
theorem nons {α:Type} {x:α} {P:Prop} (h:(Option.none:Option α)=some x):P:=nomatch h
theorem i2A {a:A} {x:V} (h:asV a=some x):a=.v x:=by
 cases a <;> first | exact nons h | exact congrArg A.v (pQ h)
theorem o6B {x:V} {i:Int} (h:vI x=some i):x=.int i:=by
 cases x <;> first | exact nons h | exact congrArg V.int (pQ h)
theorem vB_of {x:V} {i:Bool} (h:vB x=some i):x=.bool i:=by
 cases x <;> first | exact nons h | exact congrArg V.bool (pQ h)
theorem vL_of {x:V} {i:List V} (h:vL x=some i):x=.list i:=by
 cases x <;> first | exact nons h | exact congrArg V.list (pQ h)
theorem vT_of {x:V} {i:List V} (h:vT x=some i):x=.tup i:=by
 cases x <;> first | exact nons h | exact congrArg V.tup (pQ h)
theorem vO_of {x:V} {i:String×List V} (h:vO x=some i):x=.obj i.1 i.2:=by
 cases x <;> first | exact nons h | (cases h;rfl)
theorem e5B {α β:Type} {o:Option α} {k:α→Option β} {y:β} (h:o.bind k=some y):∃ x,o=some x∧k x=some y:=Option.bind_eq_some_iff.mp h
theorem binE {α β:Type} {o:Option α} {k:α→Option β} {y:β} {G:Prop} (h:o.bind k=some y) (q:∀ x,o=some x→k x=some y→G):G:=(e5B h).elim fun x p=>q x p.1 p.2
theorem e3A {a:A} {i:Int} (h:asI a=some i):a=.v (.int i):=by
 refine binE h fun x h1 h2=>?_
 rw [i2A h1,o6B h2]
theorem asB_of {a:A} {i:Bool} (h:asB a=some i):a=.v (.bool i):=by
 refine binE h fun x h1 h2=>?_
 rw [i2A h1,vB_of h2]
theorem asT_of {a:A} {i:List V} (h:asT a=some i):a=.v (.tup i):=by
 refine binE h fun x h1 h2=>?_
 rw [i2A h1,vT_of h2]
theorem asO_of {a:A} {i:String×List V} (h:asO a=some i):a=.v (.obj i.1 i.2):=by
 refine binE h fun x h1 h2=>?_
 rw [i2A h1,vO_of h2]
theorem d1C {a:A} {i:Nat} (h:asR a=some i):a=.ref i:=by
 cases a <;> first | exact nons h | exact congrArg A.ref (pQ h)
theorem asN_of {a:A} {i:Nat} (h:asN a=some i):∃ c,a=.inst c i:=by
 cases a <;> first | exact nons h | exact ⟨_,congrArg _ (pQ h)⟩
theorem oF_of {o:O} {fs:List (String×V)} (h:oF o=some fs):o=.fields fs:=by
 cases o <;> first | exact nons h | exact congrArg O.fields (pQ h)
theorem oL_of {o:O} {fs:List V} (h:oL o=some fs):o=.list fs:=by
 cases o <;> first | exact nons h | exact congrArg O.list (pQ h)
theorem oM_of {o:O} {fs:List (Ky×V)} (h:oM o=some fs):o=.map fs:=by
 cases o <;> first | exact nons h | exact congrArg O.map (pQ h)
theorem oB_of {o:O} {fs:List (Ky×V)} (h:oB o=some fs):o=.map fs∨o=.bag fs:=by
 cases o <;> first | exact nons h | exact .inl (congrArg O.map (pQ h)) | exact .inr (congrArg O.bag (pQ h))
theorem vD_of {x:V} {kvs:List (Ky×V)} (h:vD x=some kvs):∃ ks vs,x=.dict ks vs∧kvs=ks.zip vs:=by
 cases x <;> first | exact nons h | exact ⟨_,_,rfl,(pQ h).symm⟩
theorem k1A {α:Type} {l:List α} {x:α} (h:one1 l=some x):l=[x]:=by
 match l,h with
 | [_],h=>rw [pQ h]
theorem m2A {α:Type} {l:List α} {x:α×α} (h:two2 l=some x):l=[x.1,x.2]:=by
 match l,h with
 | [_,_],h=>cases h;rfl
theorem vP_of {x:V} {p:Int×Int} (h:vP x=some p):x=.tup [.int p.1,.int p.2]:=by
 refine binE h fun xs h1 h=>?_
 refine binE h fun q h2 h=>?_
 refine binE h fun a h3 h=>?_
 refine bc fun zZ=>?_
 obtain ⟨b,h4,h⟩:=xQ.mp h
 refine zZ ?_;clear zZ
 rw [vT_of h1,m2A h2,o6B h3,o6B h4,← h]
theorem listV_of {σ:H} {a:A} {xs:List V} (h:y0A σ a=some xs):a=.v (.list xs)∨∃ i,a=.ref i∧σ[i]?=some (.list xs):=by
 cases a with
 | v x=>rw [vL_of h];exact .inl rfl
 | ref i=>
  refine binE h fun o ho h=>?_
  rw [oL_of h] at ho
  exact .inr ⟨i,rfl,ho⟩
 | inst _ _=>exact nons h
theorem vK_of {x:V} {k:Ky} (h:vK x=some k):x=k.toV:=by
 cases x with
 | int i=>cases h;rfl
 | tup xs=>
  obtain ⟨p,hp,rfl⟩:=xQ.mp h
  exact vP_of hp
 | _=>exact nons h
theorem f3B (k:Ky):vK k.toV=some k:=by cases k <;> rfl
theorem vSr_of {x:V} {xs:List V} (h:vSr x=some xs):x=.list xs∨∃ ks vs,x=.dict ks vs∧xs=(ks.zip vs).map fun q=>q.1.toV:=by
 cases x <;> first | exact nons h | exact .inl (congrArg V.list (pQ h)) | exact .inr ⟨_,_,rfl,(pQ h).symm⟩
end Fl
namespace Fl
theorem an2 {a b:Bool} {G:Prop} (h:(a && b)=true) (k:a=true→b=true→G):G:=k ((z4Q _ _).mp h).1 ((z4Q _ _).mp h).2
theorem an3 {a b c:Bool} {G:Prop} (h:(a && b && c)=true) (k:a=true→b=true→c=true→G):G:=an2 h fun h y=>an2 h fun x0 x1=>k x0 x1 y
theorem an4 {a b c d:Bool} {G:Prop} (h:(a && b && c && d)=true) (k:a=true→b=true→c=true→d=true→G):G:=an2 h fun h y=>an3 h fun x0 x1 x2=>k x0 x1 x2 y
theorem an5 {a b c d e:Bool} {G:Prop} (h:(a && b && c && d && e)=true) (k:a=true→b=true→c=true→d=true→e=true→G):G:=an2 h fun h y=>an4 h fun x0 x1 x2 x3=>k x0 x1 x2 x3 y
theorem an6 {a b c d e f:Bool} {G:Prop} (h:(a && b && c && d && e && f)=true) (k:a=true→b=true→c=true→d=true→e=true→f=true→G):G:=an2 h fun h y=>an5 h fun x0 x1 x2 x3 x4=>k x0 x1 x2 x3 x4 y
theorem an7 {a b c d e f g:Bool} {G:Prop} (h:(a && b && c && d && e && f && g)=true) (k:a=true→b=true→c=true→d=true→e=true→f=true→g=true→G):G:=an2 h fun h y=>an6 h fun x0 x1 x2 x3 x4 x5=>k x0 x1 x2 x3 x4 x5 y
theorem an8 {a b c d e f g u:Bool} {G:Prop} (h:(a && b && c && d && e && f && g && u)=true) (k:a=true→b=true→c=true→d=true→e=true→f=true→g=true→u=true→G):G:=an2 h fun h y=>an7 h fun x0 x1 x2 x3 x4 x5 x6=>k x0 x1 x2 x3 x4 x5 x6 y
theorem an9 {a b c d e f g u v:Bool} {G:Prop} (h:(a && b && c && d && e && f && g && u && v)=true) (k:a=true→b=true→c=true→d=true→e=true→f=true→g=true→u=true→v=true→G):G:=an2 h fun h y=>an8 h fun x0 x1 x2 x3 x4 x5 x6 x7=>k x0 x1 x2 x3 x4 x5 x6 x7 y
open PySem (Str)
theorem x20 {n i:Nat} (h:i<n):n+1 - (i+1)<n+1 - i:=Nat.sub_lt_sub_left (z8Z h) (nZ i)
theorem x15 {l r:Nat} (h:l<r):(l+r) / 2<r:=Nat.div_lt_of_lt_mul (by rw [Nat.two_mul];exact Nat.add_lt_add_right h r)
theorem x16 {l r:Nat} (h:l<r):l≤(l+r) / 2:=(Nat.le_div_iff_mul_le (by decide)).mpr (by rw [Nat.mul_two];exact bW (z8Q h) l)
theorem x17 {l r f:Nat} (h:l<r) (hf:r - l≤f+1):(l+r) / 2 - l≤f:=rW (yQ (Nat.sub_lt_sub_right (x16 h) (x15 h)) hf)
theorem x18 {l r f:Nat} (h:l<r) (hf:r - l≤f+1):r - ((l+r) / 2+1)≤f:=rW (yQ (Nat.sub_lt_sub_left h (Nat.lt_succ_of_le (x16 h))) hf)
theorem v0A {v:V} (h:isInt v=true):v=.int (t0A v):=by cases v <;> simp [isInt] at h;rfl
theorem f2A {v:V} (h:c6A v=true):v=.tup (g0B v)∧(g0B v).all isInt=true:=by cases v <;> simp [c6A] at h;exact ⟨rfl,by simpa [g0B] using h⟩
theorem b0A {α:Type} [DecidableEq α]:∀ {l D:List α},l.Nodup→(∀ x∈l,x∈D)→l.length≤D.length
 | [],_,_,_=>sQ _
 | x::l,D,hn,h=>by
  rw [rQ] at hn
  have hx:=h x aQ
  have ih:=b0A (l:=l) (D:=D.erase x) hn.2 fun y hy=>by
   have hne:y≠x:=fun e=>hn.1 (e ▸ hy)
   exact (List.mem_erase_of_ne hne).mpr (h y (bQ _ hy))
  rw [List.length_erase_of_mem hx] at ih
  exact dQ (tQ ih) (lZ (Nat.sub_add_cancel (uZ hx)))
theorem m2B:∀ a:List Int,ltL a a=false
 | []=>rfl
 | a::as=>by simp [m3A,l3A,k3A,j3A,m2B as]
theorem g9A:∀ a b:List Int,ltL a b=true→ltL b a=false
 | [],[],_=>rfl
 | [],_::_,_=>rfl
 | _::_,[],h=>by simp [m3A,l3A,k3A,j3A] at h
 | a::as,b::bs,h=>by
  simp only [m3A,l3A,k3A,j3A,Bool.or_eq_true,z4Q,decide_eq_true_eq] at h
  simp only [m3A,l3A,k3A,j3A,Bool.or_eq_false_iff,Bool.and_eq_false_iff,decide_eq_false_iff_not]
  rcases h with h | ⟨h,h'⟩
  ·exact ⟨kZ.mpr (z4Z h),.inl (z2K h)⟩
  ·exact ⟨kZ.mpr (Int.le_of_eq h),.inr (g9A as bs h')⟩
theorem z3B:∀ a b c:List Int,ltL b a=false→ltL c b=false→ltL c a=false
 | a,b,[],h1,h2=>by
  cases a with
  | nil=>rfl
  | cons x xs=>
   cases b with
   | nil=>simp [m3A,l3A,k3A,j3A] at h1
   | cons y ys=>simp [m3A,l3A,k3A,j3A] at h2
 | [],b,c::cs,h1,h2=>by simp [m3A,l3A,k3A,j3A]
 | a::as,[],c::cs,h1,h2=>by simp [m3A,l3A,k3A,j3A] at h1
 | a::as,b::bs,c::cs,h1,h2=>by
  simp only [m3A,l3A,k3A,j3A,Bool.or_eq_false_iff,Bool.and_eq_false_iff,decide_eq_false_iff_not] at h1 h2 ⊢
  have q1:=kZ.mp h1.1
  have q2:=kZ.mp h2.1
  refine ⟨kZ.mpr (rK q1 q2),?_⟩
  by_cases hca:c=a
  ·right
   have hb:b=a:=Int.le_antisymm (hca ▸ q2) q1
   have hc:c=b:=hca.trans hb.symm
   exact z3B as bs cs (h1.2.resolve_left (fun h=>h hb)) (h2.2.resolve_left (fun h=>h hc))
  ·exact .inl hca
theorem n8B:∀ a b:List Int,ltL a b=false→ltL b a=false→a=b
 | [],[],_,_=>rfl
 | [],_::_,h,_=>by simp [m3A,l3A,k3A,j3A] at h
 | _::_,[],_,h=>by simp [m3A,l3A,k3A,j3A] at h
 | a::as,b::bs,h1,h2=>by
  simp only [m3A,l3A,k3A,j3A,Bool.or_eq_false_iff,Bool.and_eq_false_iff,decide_eq_false_iff_not] at h1 h2
  have hab:a=b:=Int.le_antisymm (kZ.mp h2.1) (kZ.mp h1.1)
  subst hab
  rw [n8B as bs (h1.2.resolve_left (fun h=>h rfl)) (h2.2.resolve_left (fun h=>h rfl))]
theorem vle_tr (a b c:V) (h1:vle a b=true) (h2:vle b c=true):vle a c=true:=by
 simp only [vle,vlt,z8W] at *
 exact z3B _ _ _ h1 h2
theorem f0B (a b:V):(vle a b || vle b a)=true:=by
 simp only [vle,vlt]
 cases h:ltL (n2A b) (n2A a) with
 | false=>simp
 | true=>simp [g9A _ _ h]
theorem key_inj {xs:List V} (hs:j0A xs=true) {a b:V} (ha:a∈xs) (hb:b∈xs) (h:n2A a=n2A b):a=b:=by
 simp only [j0A,Bool.or_eq_true] at hs
 rcases hs with hs | hs
 ·have h1:=v0A (z2Q.mp hs a ha)
  have h2:=v0A (z2Q.mp hs b hb)
  rw [h1,h2] at h ⊢
  simp only [n2A,zK,and_true] at h
  rw [h]
 ·have h1:=z2Q.mp hs a ha
  have h2:=z2Q.mp hs b hb
  simp only [z4Q] at h1 h2
  obtain ⟨e1,i1⟩:=f2A h1.1
  obtain ⟨e2,i2⟩:=f2A h2.1
  rw [e1,e2] at h ⊢
  simp only [n2A] at h
  congr 1
  have inj:∀ {as bs:List V},as.all isInt=true→bs.all isInt=true→as.map t0A=bs.map t0A→as=bs:=by
   intro as
   induction as with
   | nil=>intro bs _ _ h;cases bs <;> simp at h ⊢
   | cons a as ih=>
    intro bs ha hb h
    cases bs with
    | nil=>simp at h
    | cons b bs=>
     simp only [z7Z,z4Q] at ha hb
     simp only [z6Q,zK] at h
     rw [v0A ha.1,v0A hb.1,h.1,ih ha.2 hb.2 h.2]
  exact inj i1 i2 h
theorem q7A {xs ys:List V} (hs:j0A xs=true) (hp:ys.Perm xs) (ho:ys.Pairwise (fun a b=>vle a b=true)):ys=a2A xs:=by
 have h1:(a2A xs).Pairwise (fun a b=>vle a b=true):=List.pairwise_mergeSort (le:=vle) (fun a b c=>vle_tr a b c) (fun a b=>by simpa using f0B a b) xs
 have h2:(a2A xs).Perm xs:=List.mergeSort_perm xs vle
 have uniq:∀ {l l':List V},(∀ a∈l,∀ b∈l,n2A a=n2A b→a=b)→l.Perm l'→l.Pairwise (fun a b=>vle a b=true)→l'.Pairwise (fun a b=>vle a b=true)→l=l':=by
  intro l l' hk hp h1 h2
  refine List.Perm.eq_of_pairwise (le:=fun a b=>vle a b=true) ?_ h1 h2 hp
  intro a b ha hb hab hba
  refine hk a ha b (hp.mem_iff.mpr hb) ?_
  simp only [vle,vlt,z8W] at hab hba
  exact n8B _ _ hba hab
 exact uniq (fun a ha b hb h=>key_inj hs (hp.mem_iff.mp ha) (hp.mem_iff.mp hb) h) (hp.trans h2.symm) ho h1
end Fl
namespace Fl
theorem g3B {α:Type} {l:List α} (h:2≤l.length):∃ x y m,l=x::y::m:=by
 cases l with
 | nil=>exact absurd h (Nat.not_succ_le_zero 1)
 | cons x l=>
  cases l with
  | nil=>exact absurd h (wW 1)
  | cons y m=>exact ⟨x,y,m,rfl⟩
noncomputable abbrev Dt:=Int×Int
noncomputable def adj (ts:List Dt) (i j:Int):Bool:=decide ((i,j)∈ts) || decide ((j,i)∈ts)
inductive Cn (ts:List Dt) (a:Int):Int→Prop where
 | refl:Cn ts a a
 | step {i j:Int}:Cn ts a i→adj ts i j=true→Cn ts a j
theorem adj_comm (ts:List Dt) (i j:Int):adj ts i j=adj ts j i:=Bool.or_comm _ _
theorem p0A {ts:List Dt} {i j:Int}:adj ts i j=true↔(i,j)∈ts∨(j,i)∈ts:=by
 unfold adj;rw [Bool.or_eq_true,decide_eq_true_eq,decide_eq_true_eq]
theorem s0A {ts:List Dt} {i j:Int} (h:adj ts i j=true):adj ts j i=true:=by rw [adj_comm];exact h
theorem Cn.trans {ts:List Dt} {a b c:Int} (h1:Cn ts a b) (h2:Cn ts b c):Cn ts a c:=by
 induction h2 with
 | refl=>exact h1
 | step _ hj ih=>exact ih.step hj
theorem Cn.symm {ts:List Dt} {a b:Int} (h:Cn ts a b):Cn ts b a:=by
 induction h with
 | refl=>exact .refl
 | step _ hj ih=>exact (Cn.step .refl (s0A hj)).trans ih
theorem Cn.keep {ts:List Dt} {a b:Int} (h:Cn ts a b) {P:Int→Prop} (hP:∀ i j,P i→adj ts i j=true→P j) (ha:P a):P b:=by
 induction h with
 | refl=>exact ha
 | step _ hj ih=>exact hP _ _ ih hj
theorem Cn.mono' {ts us:List Dt} (hs:∀ i j,adj ts i j=true→adj us i j=true) {a b:Int} (h:Cn ts a b):Cn us a b:=
 h.keep (fun _ _ h1 h2=>Cn.step h1 (hs _ _ h2)) .refl
theorem Cn.mono {ts us:List Dt} (hs:∀ p∈ts,p∈us) {a b:Int} (h:Cn ts a b):Cn us a b:=
 h.mono' fun i j hj=>p0A.mpr ((p0A.mp hj).imp (hs _) (hs _))
noncomputable def tsq (ts:List Dt) (L:List Int):List Dt:=ts.filter fun t=>decide (t.1∉L∧t.2∉L)
theorem j1A {ts:List Dt} {L:List Int} {i j:Int}:adj (tsq ts L) i j=true↔adj ts i j=true∧i∉L∧j∉L:=by
 unfold tsq
 simp only [p0A,tZ,decide_eq_true_eq]
 constructor
 ·rintro (⟨h,h1,h2⟩ | ⟨h,h1,h2⟩)
  ·exact ⟨.inl h,h1,h2⟩
  ·exact ⟨.inr h,h2,h1⟩
 ·rintro ⟨h | h,h1,h2⟩
  ·exact .inl ⟨h,h1,h2⟩
  ·exact .inr ⟨h,h2,h1⟩
theorem h3B {ts:List Dt} {L M:List Int} (h:∀ x∈M,x∈L) {a b:Int} (hc:Cn (tsq ts L) a b):Cn (tsq ts M) a b:=
 hc.mono' fun i j hj=>by
  obtain ⟨h0,h1,h2⟩:=j1A.mp hj
  exact j1A.mpr ⟨h0,fun m=>h1 (h _ m),fun m=>h2 (h _ m)⟩
theorem ne1 {x y:Int} (h:x≠y):x∉[y]:=fun m=>h (cQ.mp m)
theorem ne1' {x y:Int} (h:x∉[y]):x≠y:=fun e=>h (cQ.mpr e)
noncomputable def Ch (g:Int→Int→Prop):Int→List Int→Prop
 | _,[]=>True
 | a,x::l=>g a x∧Ch g x l
noncomputable def la:Int→List Int→Int
 | a,[]=>a
 | _,x::l=>la x l
theorem o3A (a x:Int) (w:List Int):∀ u:List Int,∀ a,la a (u++x::w)=la x w
 | [],_=>rfl
 | _::u,_=>o3A a x w u _
theorem Ch_app {g:Int→Int→Prop} {x:Int} {w:List Int}:∀ {u:List Int} {a:Int},Ch g a (u++x::w)→Ch g x w
 | [],_,h=>h.2
 | _::_,_,h=>Ch_app h.2
theorem e4A:∀ (l:List Int) (a:Int),la a l∈a::l
 | [],_=>cQ.mpr rfl
 | x::l,_=>bQ _ (e4A l x)
theorem Ch_Cn {ts:List Dt}:∀ {l:List Int} {a:Int},Ch (fun i j=>adj ts i j=true) a l→Cn ts a (la a l)
 | [],_,_=>.refl
 | _::_,_,h=>(Cn.step .refl h.1).trans (Ch_Cn h.2)
theorem k5B {g g':Int→Int→Prop}:∀ {l:List Int} {a:Int},(∀ i∈a::l,∀ j∈a::l,g i j→g' i j)→Ch g a l→Ch g' a l
 | [],_,_,_=>True.intro
 | x::l,a,hg,h=>⟨hg _ aQ _ (bQ _ aQ) h.1,k5B (fun i hi j hj=>hg i (bQ _ hi) j (bQ _ hj)) h.2⟩
theorem Cn.way {ts:List Dt} {a b:Int} (h:Cn ts a b):∃ l,(b::l).Nodup∧Ch (fun i j=>adj ts i j=true) b l∧la b l=a:=by
 induction h with
 | refl=>exact ⟨[],rQ.mpr ⟨pW,tW⟩,True.intro,rfl⟩
 | @step i j _ hj ih=>
  refine bc fun zZ=>?_
  obtain ⟨l,h1,h2,h3⟩:=ih
  refine zZ ?_;clear zZ
  by_cases hm:j∈i::l
  ·rcases lQ.mp hm with rfl | hm
   ·exact ⟨l,h1,h2,h3⟩
   ·refine bc fun zZ=>?_
    obtain ⟨u,w,rfl⟩:=aJ hm
    refine zZ ?_;clear zZ
    refine ⟨w,?_,Ch_app h2,?_⟩
    ·exact (z3Q.mp (rQ.mp h1).2).2.1
    ·rw [← h3,o3A j]
  ·exact ⟨i::l,rQ.mpr ⟨hm,h1⟩,⟨s0A hj,h2⟩,h3⟩
structure Clo (ts B:List Dt):Prop where
 sub:∀ i j,adj B i j=true→adj ts i j=true
 cl:∀ p x y,adj B p x=true→adj ts p y=true→Cn (tsq ts [p]) x y→adj B p y=true
theorem Clo.way {ts B:List Dt} (H:Clo ts B) {v b:Int} (hb:adj ts v b=true):∀ {l:List Int} {z y:Int},adj B z y=true→v∉y::l→z∉y::l→(y::l).Nodup→Ch (fun i j=>adj ts i j=true) y l→la y l=b→Cn (tsq ts (y::l)) v z→Ch (fun i j=>adj B i j=true) y l
 | [],_,_,_,_,_,_,_,_,_=>True.intro
 | x::l,z,y,hzy,hv,hz,hn,hc,hl,hj=>by
  have hyx:y∉x::l:=(rQ.mp hn).1
  have hvy:v∉[y]:=fun h=>hv (by rw [cQ.mp h];exact aQ)
  have hvl:v∉x::l:=fun h=>hv (bQ _ h)
  have hzl:z∉x::l:=fun h=>hz (bQ _ h)
  have ny:∀ i∈x::l,i∉[y]:=fun i hi h=>hyx (by rw [← cQ.mp h];exact hi)
  have h1:Cn (tsq ts [y]) x b:=by
   rw [← hl]
   exact Ch_Cn (k5B (fun i hi j hj h=>j1A.mpr ⟨h,ny i hi,ny j hj⟩) hc.2)
  have hbl:b∈x::l:=by rw [← hl];exact e4A l x
  have h2:Cn (tsq ts [y]) b v:=Cn.step .refl (j1A.mpr ⟨s0A hb,ny b hbl,hvy⟩)
  have h3:Cn (tsq ts [y]) v z:=h3B (fun w hw=>by rw [cQ.mp hw];exact aQ) hj
  have hB:adj B y x=true:=H.cl y z x (s0A hzy) hc.1 (h1.trans (h2.trans h3)).symm
  refine ⟨hB,H.way hb hB hvl hyx (rQ.mp hn).2 hc.2 hl ?_⟩
  refine Cn.step (h3B (fun w hw=>bQ _ hw) hj) (j1A.mpr ⟨H.sub _ _ hzy,hzl,hyx⟩)
theorem Clo.join {ts B:List Dt} (H:Clo ts B) {v a b:Int} (ha:adj B v a=true) (hb:adj ts v b=true) (hav:a≠v) (h:Cn (tsq ts [v]) a b):Cn (tsq B [v]) a b:=by
 obtain ⟨l,h1,h2,h3⟩:=h.symm.way
 have hv:v∉a::l:=by
  intro hm
  have key:∀ {l:List Int} {a:Int},a≠v→Ch (fun i j=>adj (tsq ts [v]) i j=true) a l→v∉a::l:=by
   intro l
   induction l with
   | nil=>exact fun ha _ h=>ha (cQ.mp h).symm
   | cons x l ih=>
    intro a ha hc hm
    rcases lQ.mp hm with e | hm
    ·exact ha e.symm
    ·exact ih (ne1' (j1A.mp hc.1).2.2) hc.2 hm
  exact key hav h2 hm
 have hw:=H.way hb (l:=l) (y:=a) (z:=v) ha hv hv h1 (k5B (fun i _ j _ h=>(j1A.mp h).1) h2) h3 .refl
 rw [← h3]
 exact Ch_Cn (k5B (fun i hi j hj h=>j1A.mpr ⟨h,fun m=>hv (by rw [← cQ.mp m];exact hi),fun m=>hv (by rw [← cQ.mp m];exact hj)⟩) hw)
structure Blk (B:List Dt):Prop where
 ne:∀ i j,adj B i j=true→i≠j
 two:∀ v a b x y,a≠v→b≠v→adj B a x=true→adj B b y=true→Cn (tsq B [v]) a b
theorem Blk.deg {B:List Dt} (H:Blk B) {s o w x:Int} (ho:adj B s o=true) (hw:adj B w x=true) (h1:w≠s) (h2:w≠o):∃ i,i≠o∧adj B i s=true:=by
 have hc:=H.two o w s x o h2 (H.ne _ _ ho) hw ho
 generalize hs:s=t at hc
 cases hc with
 | refl=>exact absurd hs.symm h1
 | step _ hj=>
  have:=j1A.mp hj
  exact ⟨_,ne1' this.2.1,hs ▸ this.1⟩
theorem Blk.ring {B:List Dt} (H:Blk B) {s o w x:Int} (ho:adj B s o=true) (hw:adj B w x=true) (h1:w≠s) (h2:w≠o) {A:Int→Prop} (hA:A o) (hcl:∀ i j,A i→adj B i j=true→j≠s→A j):∃ i,A i∧i≠o∧adj B i s=true:=by
 obtain ⟨i,h3,h4⟩:=H.deg ho hw h1 h2
 refine ⟨i,?_,h3,h4⟩
 refine (H.two s o i s s (fun e=>H.ne _ _ ho e.symm) (H.ne _ _ h4) (s0A ho) h4).keep (P:=A) (fun a b ha hab=>?_) hA
 have:=j1A.mp hab
 exact hcl a b ha this.1 (ne1' this.2.2)
theorem Blk.leave {B:List Dt} (H:Blk B) {s a x w y:Int} (ha:adj B a x=true) (hw:adj B w y=true) (has:a≠s) (hws:w≠s) {A:Int→Prop} (hA:A a) (hcl:∀ i j,A i→adj B i j=true→j≠s→A j):A w:=by
 refine (H.two s a w x y has hws ha hw).keep (P:=A) (fun a b ha hab=>?_) hA
 have:=j1A.mp hab
 exact hcl a b ha this.1 (ne1' this.2.2)
noncomputable def te (p x:Int):Dt:=(min p x,max p x)
theorem v1A (p x:Int):te p x=te x p:=by unfold te;rw [Int.min_comm,Int.max_comm]
theorem w8A (p x:Int):te p x=(p,x)∨te p x=(x,p):=by
 unfold te
 rcases Int.le_total p x with h | h
 ·exact .inl (by rw [z0K h,Int.max_eq_right h])
 ·exact .inr (by rw [Int.min_eq_right h,Int.max_eq_left h])
theorem k0B {p x q y:Int} (h:te p x=te q y):(p=q∧x=y)∨(p=y∧x=q):=by
 have k:∀ {a b c d:Int},(a,b)=(c,d)→a=c∧b=d:=fun e=>⟨congrArg Prod.fst e,congrArg Prod.snd e⟩
 rcases w8A p x with e | e <;> rcases w8A q y with e' | e' <;> rw [e,e'] at h <;> obtain ⟨h1,h2⟩:=k h
 ·exact .inl ⟨h1,h2⟩
 ·exact .inr ⟨h1,h2⟩
 ·exact .inr ⟨h2,h1⟩
 ·exact .inl ⟨h2,h1⟩
theorem x8A {p x:Int} (h:p<x):te p x=(p,x):=by
 unfold te;rw [z0K (z4Z h),Int.max_eq_right (z4Z h)]
noncomputable def Up (ts:List Dt):Prop:=∀ t∈ts,t.1<t.2
theorem Up.adj {ts:List Dt} (h:Up ts) {i j:Int}:adj ts i j=true↔te i j∈ts:=by
 rw [p0A]
 constructor
 ·rintro (hm | hm)
  ·rw [x8A (h _ hm)];exact hm
  ·rw [v1A,x8A (h _ hm)];exact hm
 ·intro hm
  rcases w8A i j with e | e <;> rw [e] at hm
  ·exact .inl hm
  ·exact .inr hm
theorem Up.ne {ts:List Dt} (h:Up ts) {i j:Int} (ha:Fl.adj ts i j=true):i≠j:=by
 rintro rfl
 rcases p0A.mp ha with hm | hm <;> exact Int.lt_irrefl _ (h _ hm)
noncomputable def Jo (ts:List Dt) (t u:Dt):Prop:=∃ p x y,t=te p x∧u=te p y∧Cn (tsq ts [p]) x y
theorem Jo.symm {ts:List Dt} {t u:Dt}:Jo ts t u→Jo ts u t:=fun h=>by
 refine bc fun zZ=>?_
 obtain ⟨p,x,y,h1,h2,h3⟩:=h
 refine zZ ?_;clear zZ
 exact ⟨p,y,x,h2,h1,h3.symm⟩
inductive Sm (ts:List Dt) (t:Dt):Dt→Prop where
 | refl:Sm ts t t
 | step {u w:Dt}:Sm ts t u→w∈ts→Jo ts u w→Sm ts t w
theorem Sm.trans {ts:List Dt} {a b c:Dt} (h1:Sm ts a b) (h2:Sm ts b c):Sm ts a c:=by
 induction h2 with
 | refl=>exact h1
 | step _ hw hj ih=>exact ih.step hw hj
theorem Sm.mem {ts:List Dt} {a b:Dt} (h:Sm ts a b) (ha:a∈ts):b∈ts:=by
 cases h with
 | refl=>exact ha
 | step _ hw _=>exact hw
theorem Sm.symm {ts:List Dt} {a b:Dt} (ha:a∈ts) (h:Sm ts a b):Sm ts b a:=by
 induction h with
 | refl=>exact .refl
 | step h hw hj ih=>exact (Sm.step .refl (h.mem ha) hj.symm).trans ih
theorem blk_of {ts B:List Dt} (hu:Up ts) {t:Dt} (ht:t∈ts) (hB:∀ u,u∈B↔u∈ts∧Sm ts t u):Blk B:=by
 have hU:Up B:=fun u h=>hu u ((hB u).mp h).1
 have hC:Clo ts B:=by
  refine ⟨fun i j h=>hu.adj.mpr ((hB _).mp (hU.adj.mp h)).1,fun p x y h1 h2 h3=>hU.adj.mpr ?_⟩
  have h:=(hB _).mp (hU.adj.mp h1)
  have h2':=hu.adj.mp h2
  exact (hB _).mpr ⟨h2',h.2.step h2' ⟨p,x,y,rfl,rfl,h3⟩⟩
 refine ⟨fun i j h=>hU.ne h,fun v a b x y ha hb hax hby=>?_⟩
 have hx:=(hB _).mp (hU.adj.mp hax)
 have hy:=(hB _).mp (hU.adj.mp hby)
 have hs:Sm ts (te a x) (te b y):=(hx.2.symm ht).trans hy.2
 have key:∀ u,Sm ts (te a x) u→∀ p z,u=te p z→p≠v→Cn (tsq B [v]) a p:=by
  intro u hu'
  induction hu' with
  | refl=>
   intro p z e hp
   rcases k0B e with ⟨rfl,rfl⟩ | ⟨rfl,rfl⟩
   ·exact .refl
   ·exact Cn.step .refl (j1A.mpr ⟨hax,ne1 ha,ne1 hp⟩)
  | @step u w hsu hw hj ih=>
   refine bc fun zZ=>?_
   obtain ⟨q,c,d,e1,e2,hc⟩:=hj
   refine zZ ?_;clear zZ
   have huB:u∈B:=(hB _).mpr ⟨hsu.mem hx.1,hx.2.trans hsu⟩
   have hwB:w∈B:=(hB _).mpr ⟨hw,(hx.2.trans hsu).step hw ⟨q,c,d,e1,e2,hc⟩⟩
   have hqc:adj B q c=true:=hU.adj.mpr (e1 ▸ huB)
   have hqd:adj B q d=true:=hU.adj.mpr (e2 ▸ hwB)
   intro p z e hp
   have main:d≠v→Cn (tsq B [v]) a d:=by
    intro hd
    by_cases hq:q=v
    ·subst hq
     have hcq:c≠q:=fun h=>hU.ne hqc h.symm
     exact (ih c q (by rw [e1,v1A]) hcq).trans (hC.join hqc (hC.sub _ _ hqd) hcq hc)
    ·exact (ih q c e1 hq).step (j1A.mpr ⟨hqd,ne1 hq,ne1 hd⟩)
   rcases k0B (e.symm.trans e2) with ⟨rfl,rfl⟩ | ⟨rfl,rfl⟩
   ·exact ih _ c e1 hp
   ·exact main hp
 exact key _ hs b y rfl hb
end Fl
namespace Fl
noncomputable abbrev T3:=Int×Int×Int
noncomputable def cs:Int→List Int→List Dt
 | _,[]=>[]
 | a,x::l=>(a,x)::cs x l
theorem s3A (x:Int) (w:List Int):∀ (u:List Int) (a:Int),cs a (u++x::w)=cs a u++(la a u,x)::cs x w
 | [],_=>rfl
 | y::u,a=>congrArg ((a,y)::·) (s3A x w u y)
theorem r0C:∀ (l:List Int) (a:Int),(cs a l).map (·.1)++[la a l]=a::l
 | [],_=>rfl
 | x::l,a=>congrArg (a::·) (r0C l x)
theorem q0C:∀ (l:List Int) (a:Int),(cs a l).map (·.2)=l
 | [],_=>rfl
 | x::l,a=>congrArg (x::·) (q0C l x)
theorem k5A {l:List Int} {a:Int} {q:Dt} (h:q∈cs a l):q.1∈a::l∧q.2∈l:=by
 constructor
 ·rw [← r0C l a];exact mQ _ (zW h)
 ·rw [← q0C l a];exact zW h
noncomputable def cyp (a:Int) (l:List Int):List Dt:=cs a l++[(la a l,a)]
theorem cyp_fst (a:Int) (l:List Int):(cyp a l).map (·.1)=a::l:=by
 unfold cyp;rw [z0Q];exact r0C l a
theorem p0C (a x:Int) (u w:List Int):(cyp a (u++x::w)).Perm (cyp x (w++a::u)):=by
 unfold cyp
 rw [s3A,s3A,o3A a,o3A a]
 have e:∀ (A B:List Dt) (p q:Dt),A++p::B++[q]=(A++[p])++(B++[q]):=fun A B p q=>by
  rw [kQ,kQ];rfl
 rw [e,e]
 exact z9Q
theorem l2B {α β:Type} {f:α→β} {l:List α} (h:(l.map f).Nodup) {a b:α} (ha:a∈l) (hb:b∈l) (e:f a=f b):a=b:=by
 induction l with
 | nil=>cases ha
 | cons x l ih=>
  obtain ⟨h1,h2⟩:=rQ.mp h
  rcases lQ.mp ha with ea | ha <;> rcases lQ.mp hb with eb | hb
  ·rw [ea,eb]
  ·rw [ea] at e;exact absurd (e ▸ zW hb) h1
  ·rw [eb] at e;exact absurd (e ▸ zW ha) h1
  ·exact ih h2 ha hb
noncomputable def Rn (Q:List Dt) (P:Int→Prop):Prop:=∃ h T,(h::T).Nodup∧Q.Perm (cyp h T)∧∀ x,P x↔x∈h::T
theorem Rn.fn {Q:List Dt} {P:Int→Prop} (H:Rn Q P) {x r r':Int} (h1:(x,r)∈Q) (h2:(x,r')∈Q):r=r':=by
 obtain ⟨h,T,hn,hp,_⟩:=H
 rw [hp.mem_iff] at h1 h2
 exact congrArg Prod.snd (l2B (by rw [cyp_fst];exact hn) h1 h2 rfl)
theorem Rn.at {Q:List Dt} {P:Int→Prop} (H:Rn Q P) {y:Int} (hy:P y):∃ T,(y::T).Nodup∧Q.Perm (cyp y T)∧∀ x,P x↔x∈y::T:=by
 refine bc fun zZ=>?_
 obtain ⟨h,T,hn,hp,hP⟩:=H
 refine zZ ?_;clear zZ
 rcases lQ.mp ((hP y).mp hy) with rfl | hm
 ·exact ⟨T,hn,hp,hP⟩
 ·refine bc fun zZ=>?_
  obtain ⟨u,w,rfl⟩:=aJ hm
  refine zZ ?_;clear zZ
  have hpe:(h::(u++y::w)).Perm (y::(w++h::u)):=z9Q (l₁:=h::u) (l₂:=y::w)
  exact ⟨w++h::u,hpe.nodup_iff.mp hn,hp.trans (p0C h y u w),fun x=>(hP x).trans hpe.mem_iff⟩
theorem Rn.put {Q Q':List Dt} {P P':Int→Prop} (H:Rn Q P) {z y i:Int} {R:List Dt} (hQ:Q.Perm ((z,y)::R)) (hQ':Q'.Perm ((z,i)::(i,y)::R)) (hi:¬ P i) (hP':∀ x,P' x↔P x∨x=i):Rn Q' P':=by
 have hm:(z,y)∈Q:=hQ.mem_iff.mpr aQ
 have hy:P y:=by
  obtain ⟨h,T,hn,hp,hP⟩:=H
  rw [hP]
  rcases iQ.mp (hp.mem_iff.mp hm) with h1 | h1
  ·exact bQ _ (k5A h1).2
  ·have:y=h:=congrArg Prod.snd (cQ.mp h1)
   rw [this];exact aQ
 obtain ⟨T,hn,hp,hP⟩:=H.at hy
 have hz:la y T=z:=by
  have h1:(la y T,y)∈cyp y T:=gQ _ (cQ.mpr rfl)
  have h2:=hp.mem_iff.mp hm
  have hs:((cyp y T).map (·.2)).Nodup:=by
   unfold cyp
   rw [z0Q,q0C]
   exact (z9Q (l₁:=[y]) (l₂:=T)).nodup_iff.mp hn
  exact congrArg Prod.fst (l2B hs h1 h2 rfl)
 have hc:R.Perm (cs y T):=by
  have:((z,y)::R).Perm ((z,y)::cs y T):=hQ.symm.trans (hp.trans (by unfold cyp;rw [hz];exact z9Q))
  exact this.cons_inv
 refine ⟨y,T++[i],?_,?_,fun x=>?_⟩
 ·rw [← z5W]
  exact z3Q.mpr ⟨hn,rQ.mpr ⟨pW,tW⟩,fun a ha b hb e=>hi ((hP i).mpr (by rw [← cQ.mp hb,← e];exact ha))⟩
 ·unfold cyp
  rw [s3A,o3A y,hz]
  refine hQ'.trans ?_
  rw [kQ]
  refine (List.Perm.trans ?_ z9Q)
  exact (hc.cons _).cons _
 ·rw [hP',hP,← z5W,iQ,cQ]
noncomputable def tr:Int→Int→List Int→List T3
 | _,_,[]=>[]
 | x,y,z::l=>(x,y,z)::tr y z l
noncomputable def hd:List Int→Int
 | []=>0
 | x::_=>x
noncomputable def t3:Int→List Int→List T3
 | _,[]=>[]
 | a,h::l=>tr a h l
theorem s6B (p:Int) (w:List Int):∀ (u:List Int) (x y:Int),tr x y (u++p::w)=tr x y (u++[p])++tr (la y u) p w
 | [],_,_=>rfl
 | z::u,x,y=>congrArg ((x,y,z)::·) (s6B p w u y z)
theorem t3_app (p:Int) (w u:List Int) (a:Int):t3 a (u++p::w)=t3 a (u++[p])++tr (la a u) p w:=by
 cases u with
 | nil=>rfl
 | cons h u=>exact s6B p w u a h
theorem r6B (z a:Int) (b:Int) (X:List Int):tr z a (X++[b])=(z,a,hd (X++[b]))::t3 a (X++[b]):=by
 cases X <;> rfl
theorem q6B:∀ (u:List Int) (x y p:Int),(tr x y (u++[p])).map (·.2.1)=y::u
 | [],_,_,_=>rfl
 | z::u,x,y,p=>congrArg (y::·) (q6B u y z p)
theorem t3_mid (u:List Int) (a p:Int):(t3 a (u++[p])).map (·.2.1)=u:=by
 cases u with
 | nil=>rfl
 | cons h u=>exact q6B u a h p
noncomputable def co (p:Int) (K:List T3):List Dt:=K.filterMap fun t=>if t.2.1=p then some (t.1,t.2.2) else none
theorem q8A (p:Int) (K L:List T3):co p (K++L)=co p K++co p L:=List.filterMap_append
theorem co_no {p:Int} {K:List T3} (h:p∉K.map (·.2.1)):co p K=[]:=by
 refine List.filterMap_eq_nil_iff.mpr fun t ht=>?_
 have:¬ t.2.1=p:=fun e=>h (e ▸ zW (f:=fun x:T3=>x.2.1) ht)
 rw [if_neg this]
theorem z2A {p:Int} {u:List Int} (h:p∉u) (a b:Int):co p (t3 a (u++[b]))=[]:=co_no (by rw [t3_mid];exact h)
theorem co_c (p x y:Int) (K:List T3):co p ((x,p,y)::K)=(x,y)::co p K:=by
 unfold co;rw [qK];simp only [if_true]
theorem co_d {p q:Int} (h:q≠p) (x y:Int) (K:List T3):co p ((x,q,y)::K)=co p K:=by
 unfold co;rw [qK];simp only [h,if_false]
theorem co_mem {p q r:Int} {K:List T3}:(q,r)∈co p K↔(q,p,r)∈K:=by
 unfold co
 rw [List.mem_filterMap]
 constructor
 ·rintro ⟨⟨a,b,c⟩,h1,h2⟩
  by_cases e:b=p
  ·simp only [e,if_true,fJ,Prod.mk.injEq] at h2
   rw [← h2.1,← h2.2,← e];exact h1
  ·simp only [e,if_false] at h2;cases h2
 ·intro h
  exact ⟨_,h,by simp only [if_true]⟩
theorem s9A (p:Int) {K L:List T3} (h:K.Perm L):(co p K).Perm (co p L):=h.filterMap _
noncomputable def cyc:List Int→List T3
 | []=>[]
 | a::l=>tr (la a l) a (l++[a])
theorem u2B (a b:Int) (X Y:List Int):cyc (a::(X++b::Y))=(la b Y,a,hd (X++[b]))::t3 a (X++[b])++(la a X,b,hd (Y++[a]))::t3 b (Y++[a]):=by
 show tr (la a (X++b::Y)) a ((X++b::Y)++[a])=_
 rw [o3A a,kQ,z5W,s6B,r6B,r6B]
theorem cyc_rot (a b:Int) (X Y:List Int):(cyc (a::(X++b::Y))).Perm (cyc (b::(Y++a::X))):=by
 rw [u2B,u2B]
 exact z9Q
theorem f6A (X Y:List Int):(cyc (X++Y)).Perm (cyc (Y++X)):=by
 cases X with
 | nil=>rw [z1Q,List.nil_append]
 | cons a X=>
  cases Y with
  | nil=>rw [z1Q,List.nil_append]
  | cons b Y=>exact cyc_rot a b X Y
theorem a4B (b:Int):∀ l:List Int,la b l.reverse=hd (l++[b])
 | []=>rfl
 | x::l=>by rw [List.reverse_cons];exact o3A b x [] _ b
theorem r9B (a:Int) (l:List Int):hd (l.reverse++[a])=la a l:=by
 have:=a4B a l.reverse
 rw [List.reverse_reverse] at this
 exact this.symm
theorem co_in {p a b:Int} {U W:List Int} (h1:p∉U) (h2:p∉W):co p (t3 a (U++p::W++[b]))=[(la a U,hd (W++[b]))]:=by
 rw [kQ,z5W,t3_app,q8A,z2A h1,r6B,co_c,z2A h2];rfl
end Fl
namespace Fl
theorem cs_a {a x:Int} {l:List Int} (h:a∉l):(a,x)∈cs a l↔l≠[]∧x=hd l:=by
 cases l with
 | nil=>exact ⟨fun h=>(nomatch h),fun h=>absurd rfl h.1⟩
 | cons y l=>
  refine ⟨fun hm=>⟨List.cons_ne_nil _ _,?_⟩,fun hm=>by rw [hm.2];exact aQ⟩
  rcases lQ.mp hm with e | hm
  ·exact congrArg Prod.snd e
  ·exact absurd (k5A hm).1 h
theorem cs_l {a p x:Int} {u w:List Int} (h1:p∉u) (h2:p∉w):(x,p)∈cs a (u++p::w)↔x=la a u:=by
 rw [s3A,iQ,lQ]
 constructor
 ·rintro (h | h | h)
  ·exact absurd (k5A h).2 h1
  ·exact congrArg Prod.fst h
  ·exact absurd (k5A h).2 h2
 ·rintro rfl;exact .inr (.inl rfl)
theorem cs_r {a p x:Int} {u w:List Int} (h0:p≠a) (h1:p∉u) (h2:p∉w):(p,x)∈cs a (u++p::w)↔w≠[]∧x=hd w:=by
 rw [s3A,iQ,lQ,cs_a h2]
 have h3:p∉a::u:=fun h=>(lQ.mp h).elim h0 h1
 constructor
 ·rintro (h | h | h)
  ·exact absurd (k5A h).1 h3
  ·exact absurd ((show p=la a u from congrArg Prod.fst h) ▸ e4A u a) h3
  ·exact h
 ·exact fun h=>.inr (.inr h)
theorem app_ne {X:List Int} {b:Int}:X++[b]≠[]:=fun h=>nomatch (List.append_eq_nil_iff.mp h).2
structure Fi (pl:List Int) (ld:List Dt) (fs:List (List Int)):Prop where
 nd:∀ f∈fs,f.Nodup
 inp:∀ f∈fs,∀ x∈f,x∈pl
 rn:∀ p∈pl,Rn (co p (fs.flatMap cyc)) (fun x=>te p x∈ld)
 lp:∀ p x,te p x∈ld→p∈pl
theorem r9A (f:List Int):(cyc f).map (·.2.1)=f:=by
 cases f with
 | nil=>rfl
 | cons a l=>exact q6B l _ a a
theorem Fi.un {pl ld fs} (H:Fi pl ld fs) {p:Int} (hp:p∉pl):co p (fs.flatMap cyc)=[]:=by
 refine co_no fun hm=>?_
 rw [List.map_flatMap] at hm
 obtain ⟨f,hf,hx⟩:=List.mem_flatMap.mp hm
 rw [r9A] at hx
 exact hp (H.inp f hf p hx)
theorem q6A {u w:List Int} (h1:u.Nodup) (h2:w.Nodup) (h:∀ x∈u,x∉w):(u++w).Nodup:=z3Q.mpr ⟨h1,h2,fun a ha b hb e=>h a ha (e ▸ hb)⟩
theorem perm_two {α:Type} {A C:List α} {f f1 f2:α} {β:Type} (g:α→List β):((A++f::C).flatMap g).Perm (g f++(A++C).flatMap g)∧((A++[f1,f2]++C).flatMap g).Perm (g f1++g f2++(A++C).flatMap g):=by
 simp only [List.flatMap_append,List.flatMap_cons,List.flatMap_nil,z1Q]
 refine ⟨?_,?_⟩
 ·rw [← kQ,← kQ]
  exact z9Q.append_right _
 ·rw [← kQ (g f1++g f2)]
  exact z9Q.append_right _
theorem Fi.step {pl pl':List Int} {ld ld':List Dt} {A C:List (List Int)} {f X Y inn:List Int} {a b:Int} (H:Fi pl ld (A++f::C)) (hf:(cyc f).Perm (cyc (a::(X++b::Y)))) (hfp:f.Perm (a::(X++b::Y)))
  (hi:inn.Nodup) (hip:∀ x∈inn,x∉pl) (hab:inn=[]→te a b∉ld) (hpl:∀ x,x∈pl'↔x∈pl∨x∈inn)
  (hld:∀ p x,te p x∈ld'↔te p x∈ld∨(p,x)∈cs a (inn++[b])∨(x,p)∈cs a (inn++[b])) :
  Fi pl' ld' (A++[a::(X++b::inn.reverse),b::(Y++a::inn)]++C):=by
 have hfm:f∈A++f::C:=gQ _ aQ
 have hn:(a::(X++b::Y)).Nodup:=hfp.nodup_iff.mp (H.nd f hfm)
 have hin:∀ x∈a::(X++b::Y),x∈pl:=fun x hx=>H.inp f hfm x (hfp.mem_iff.mpr hx)
 refine bc fun zZ=>?_
 obtain ⟨haN,hn2⟩:=rQ.mp hn
 obtain ⟨hX,hbY,hXd⟩:=z3Q.mp hn2
 obtain ⟨hbY',hY⟩:=rQ.mp hbY
 refine zZ ?_;clear zZ
 have haX:a∉X:=fun h=>haN (mQ _ h)
 have haY:a∉Y:=fun h=>haN (gQ _ (bQ _ h))
 have hne:a≠b:=fun h=>haN (gQ _ (h ▸ aQ))
 have hbX:b∉X:=fun h=>hXd b h b aQ rfl
 have hap:=hin a aQ
 have hbp:=hin b (bQ _ (gQ _ aQ))
 have hXp:∀ x∈X,x∈pl:=fun x hx=>hin x (bQ _ (mQ _ hx))
 have hYp:∀ x∈Y,x∈pl:=fun x hx=>hin x (bQ _ (gQ _ (bQ _ hx)))
 have hai:a∉inn:=fun h=>hip a h hap
 have hbi:b∉inn:=fun h=>hip b h hbp
 have hair:a∉inn.reverse:=fun h=>hai (jK.mp h)
 have hbir:b∉inn.reverse:=fun h=>hbi (jK.mp h)
 have hail:a∉inn++[b]:=fun h=>(iQ.mp h).elim hai fun h=>hne (cQ.mp h)
 have mono:∀ x∈pl,x∈pl':=fun x hx=>(hpl x).mpr (.inl hx)
 have two:=perm_two (A:=A) (C:=C) (f:=f) (f1:=a::(X++b::inn.reverse)) (f2:=b::(Y++a::inn)) cyc
 have i1:la b inn.reverse=hd (inn++[b]):=a4B b inn
 have ik:hd (inn.reverse++[a])=la a inn:=r9B a inn
 generalize hR:(A++C).flatMap cyc=R at two
 have old:∀ p,(co p ((A++f::C).flatMap cyc)).Perm (co p (cyc (a::(X++b::Y)))++co p R):=fun p=>by
  rw [← q8A];exact s9A p (two.1.trans (hf.append_right _))
 have new:∀ p,(co p ((A++[a::(X++b::inn.reverse),b::(Y++a::inn)]++C).flatMap cyc)).Perm (co p (cyc (a::(X++b::inn.reverse)))++co p (cyc (b::(Y++a::inn)))++co p R):=fun p=>by
  rw [← q8A,← q8A];exact s9A p two.2
 simp only [u2B,i1,ik,q8A] at old new
 have sing:(inn++[b]).Nodup:=q6A hi (rQ.mpr ⟨pW,tW⟩) fun x hx h=>hbi (cQ.mp h ▸ hx)
 refine ⟨fun g hg=>?_,fun g hg x hx=>?_,fun p hp=>?_,fun p x h=>?_⟩
 ·rcases iQ.mp hg with hg | hg
  ·rcases iQ.mp hg with hg | hg
   ·exact H.nd g (mQ _ hg)
   ·rcases lQ.mp hg with rfl | hg
    ·refine rQ.mpr ⟨fun h=>?_,q6A hX (rQ.mpr ⟨hbir,(gJ inn).nodup_iff.mpr hi⟩) fun x hx h=>?_⟩
     ·rcases iQ.mp h with h | h
      ·exact haX h
      ·exact (lQ.mp h).elim hne hair
     ·rcases lQ.mp h with h | h
      ·exact hbX (h ▸ hx)
      ·exact hip x (jK.mp h) (hXp x hx)
    ·rw [cQ.mp hg]
     refine rQ.mpr ⟨fun h=>?_,q6A hY (rQ.mpr ⟨hai,hi⟩) fun x hx h=>?_⟩
     ·rcases iQ.mp h with h | h
      ·exact hbY' h
      ·exact (lQ.mp h).elim hne.symm hbi
     ·rcases lQ.mp h with h | h
      ·exact haY (h ▸ hx)
      ·exact hip x h (hYp x hx)
  ·exact H.nd g (gQ _ (bQ _ hg))
 ·rcases iQ.mp hg with hg | hg
  ·rcases iQ.mp hg with hg | hg
   ·exact mono x (H.inp g (mQ _ hg) x hx)
   ·rcases lQ.mp hg with rfl | hg
    ·rcases lQ.mp hx with h | hx
     ·rw [h];exact mono _ hap
     ·rcases iQ.mp hx with hx | hx
      ·exact mono x (hXp x hx)
      ·rcases lQ.mp hx with h | hx
       ·rw [h];exact mono _ hbp
       ·exact (hpl x).mpr (.inr (jK.mp hx))
    ·rw [cQ.mp hg] at hx
     rcases lQ.mp hx with h | hx
     ·rw [h];exact mono _ hbp
     ·rcases iQ.mp hx with hx | hx
      ·exact mono x (hYp x hx)
      ·rcases lQ.mp hx with h | hx
       ·rw [h];exact mono _ hap
       ·exact (hpl x).mpr (.inr hx)
  ·exact mono x (H.inp g (gQ _ (bQ _ hg)) x hx)
 ·by_cases hpa:p=a
  ·rw [hpa]
   have o:=old a
   have n:=new a
   rw [co_c,z2A haX,co_d (Ne.symm hne),z2A haY] at o
   rw [co_c,z2A haX,co_d (Ne.symm hne),z2A hair,co_d (Ne.symm hne),z2A haY,co_c,z2A hai] at n
   refine (H.rn a hap).put (i:=hd (inn++[b])) o (n.trans (List.Perm.swap _ _ _)) ?_ fun x=>?_
   ·show te a (hd (inn++[b]))∉ld
    cases inn with
    | nil=>exact hab rfl
    | cons c inn=>exact fun h=>hip c aQ (H.lp c a (v1A a c ▸ h))
   ·show te a x∈ld'↔te a x∈ld∨_
    rw [hld,cs_a hail]
    constructor
    ·rintro (h | h | h)
     ·exact .inl h
     ·exact .inr h.2
     ·exact absurd (k5A h).2 hail
    ·rintro (h | h)
     ·exact .inl h
     ·exact .inr (.inl ⟨app_ne,h⟩)
  ·by_cases hpb:p=b
   ·rw [hpb]
    have o:=old b
    have n:=new b
    rw [co_d hne,z2A hbX,co_c,z2A hbY'] at o
    rw [co_d hne,z2A hbX,co_c,z2A hbir,co_c,z2A hbY',co_d hne,z2A hbi] at n
    refine (H.rn b hbp).put (i:=la a inn) o n ?_ fun x=>?_
    ·show te b (la a inn)∉ld
     rcases lQ.mp (e4A inn a) with h | h
     ·cases inn with
      | nil=>rw [v1A];exact hab rfl
      | cons c inn=>
       rw [h]
       exact absurd (show a∈c::inn from h ▸ e4A inn c) hai
     ·exact fun h'=>hip _ h (H.lp _ b (v1A b _ ▸ h'))
    ·show te b x∈ld'↔te b x∈ld∨_
     rw [hld,cs_l hbi pW,cs_r (Ne.symm hne) hbi pW]
     constructor
     ·rintro (h | h | h)
      ·exact .inl h
      ·exact absurd rfl h.1
      ·exact .inr h
     ·rintro (h | h)
      ·exact .inl h
      ·exact .inr (.inr h)
   ·have hapn:¬ a=p:=fun h=>hpa h.symm
    have hbpn:¬ b=p:=fun h=>hpb h.symm
    have o:=old p
    have n:=new p
    rw [co_d hapn,co_d hbpn] at o
    rw [co_d hapn,co_d hbpn,co_d hbpn,co_d hapn] at n
    rcases (hpl p).mp hp with hp | hp
    ·have hpi:p∉inn:=fun h=>hip p h hp
     have hpir:p∉inn.reverse:=fun h=>hpi (jK.mp h)
     have hpl2:p∉a::(inn++[b]):=fun h=>by
      rcases lQ.mp h with h | h
      ·exact hpa h
      ·exact (iQ.mp h).elim hpi fun h=>hpb (cQ.mp h)
     rw [z2A hpir,z2A hpi,z1Q,z1Q] at n
     refine bc fun zZ=>?_
     obtain ⟨h,T,q1,q2,q3⟩:=H.rn p hp
     refine zZ ?_;clear zZ
     refine ⟨h,T,q1,n.trans (o.symm.trans q2),fun x=>?_⟩
     rw [← q3]
     show te p x∈ld'↔te p x∈ld
     rw [hld]
     exact ⟨fun h=>h.elim id fun h=>h.elim (fun h=>absurd (k5A h).1 hpl2) fun h=>absurd (bQ _ (k5A h).2) hpl2,.inl⟩
    ·have hpp:=hip p hp
     refine bc fun zZ=>?_
     obtain ⟨U,W,e0⟩:=aJ hp
     obtain ⟨hU,hpW,hUd⟩:=z3Q.mp (e0 ▸ hi)
     obtain ⟨hpW',hW⟩:=rQ.mp hpW
     refine zZ ?_;clear zZ
     have hpU:p∉U:=fun h=>hUd p h p aQ rfl
     have hpUr:p∉U.reverse:=fun h=>hpU (jK.mp h)
     have hpWr:p∉W.reverse:=fun h=>hpW' (jK.mp h)
     have hpX:p∉X:=fun h=>hpp (hXp p h)
     have hpY:p∉Y:=fun h=>hpp (hYp p h)
     have hpWb:p∉W++[b]:=fun h=>(iQ.mp h).elim hpW' fun h=>hpb (cQ.mp h)
     have hun:=H.un hpp
     rw [hun] at o
     have hRn:co p R=[]:=(List.append_eq_nil_iff.mp (List.nil_perm.mp o)).2
     have n:=new p
     rw [e0,co_d hapn,co_d hbpn,co_d hbpn,co_d hapn] at n
     have er:(U++p::W).reverse=W.reverse++p::U.reverse:=by rw [List.reverse_append,List.reverse_cons,kQ];rfl
     rw [hRn,z2A hpX,z2A hpY,congrArg (fun l=>t3 b (l++[a])) er,co_in hpWr hpUr,co_in hpU hpW',a4B,r9B] at n
     refine ⟨hd (W++[b]),[la a U],rQ.mpr ⟨fun h=>?_,rQ.mpr ⟨pW,tW⟩⟩,by rw [e0];exact n,fun x=>?_⟩
     ·have e:=cQ.mp h
      have h1:hd (W++[b])∈W++[b]:=by cases W <;> exact aQ
      rw [e] at h1
      rcases lQ.mp (e4A U a) with h2 | h2
      ·rw [h2] at h1
       rcases iQ.mp h1 with h1 | h1
       ·exact hai (e0 ▸ gQ _ (bQ _ h1))
       ·exact hne (cQ.mp h1)
      ·rcases iQ.mp h1 with h1 | h1
       ·exact hUd _ h2 _ (bQ _ h1) rfl
       ·exact hbi (e0 ▸ mQ _ (cQ.mp h1 ▸ h2))
     ·show te p x∈ld'↔_
      rw [hld,e0,kQ,z5W,cs_r hpa hpU hpWb,cs_l hpU hpWb,lQ,cQ]
      constructor
      ·rintro (h | h | h)
       ·exact absurd (H.lp p x h) hpp
       ·exact .inl h.2
       ·exact .inr h
      ·rintro (h | h)
       ·exact .inr (.inl ⟨app_ne,h⟩)
       ·exact .inr (.inr h)
 ·rcases (hld p x).mp h with h | h | h
  ·exact mono p (H.lp p x h)
  ·rcases lQ.mp (k5A h).1 with e | h
   ·rw [show p=a from e];exact mono a hap
   ·rcases iQ.mp h with h | h
    ·exact (hpl p).mpr (.inr h)
    ·rw [show p=b from cQ.mp h];exact mono b hbp
  ·rcases iQ.mp (k5A h).2 with h | h
   ·exact (hpl p).mpr (.inr h)
   ·rw [show p=b from cQ.mp h];exact mono b hbp
end Fl
namespace Fl
theorem co_cyc {p:Int} {L:List Int} (h:p∉L):co p (cyc (p::L))=[(la p L,hd (L++[p]))]:=by
 show co p (tr (la p L) p (L++[p]))=_
 rw [r6B,co_c,z2A h]
theorem Fi.init {o:Int} {l pl:List Int} {ld:List Dt} (hn:(o::l).Nodup) (h3:2≤l.length) (hpl:∀ x,x∈pl↔x∈o::l) (hld:∀ p x,te p x∈ld↔(p,x)∈cyp o l∨(x,p)∈cyp o l):Fi pl ld [o::l,(o::l).reverse]:=by
 have hcin:∀ q∈cyp o l,q.1∈o::l∧q.2∈o::l:=fun q hq=>by
  rcases iQ.mp hq with h | h
  ·exact ⟨(k5A h).1,bQ _ (k5A h).2⟩
  ·rw [cQ.mp h];exact ⟨e4A l o,aQ⟩
 refine ⟨fun f hf=>?_,fun f hf x hx=>?_,fun p hp=>?_,fun p x h=>?_⟩
 ·rcases lQ.mp hf with rfl | hf
  ·exact hn
  ·rw [cQ.mp hf];exact (gJ _).nodup_iff.mpr hn
 ·rcases lQ.mp hf with rfl | hf
  ·exact (hpl x).mpr hx
  ·rw [cQ.mp hf] at hx;exact (hpl x).mpr (jK.mp hx)
 ·refine bc fun zZ=>?_
  obtain ⟨U,W,hUW⟩:=aJ ((hpl p).mp hp)
  refine zZ ?_;clear zZ
  have hper:(o::l).Perm (p::(W++U)):=by rw [hUW];exact z9Q
  have hnL:=hper.nodup_iff.mp hn
  have hlen:l.length=(W++U).length:=Nat.succ.inj hper.length_eq
  have e1:(cyc (o::l)).Perm (cyc (p::(W++U))):=by rw [hUW];exact f6A U (p::W)
  have e2:(cyc (o::l).reverse).Perm (cyc (p::(W++U).reverse)):=by
   rw [hUW,List.reverse_append,List.reverse_cons,kQ,List.reverse_append]
   exact f6A W.reverse (p::U.reverse)
  have e3:(cyp o l).Perm (cyp p (W++U)):=by
   cases U with
   | nil=>cases hUW;rw [z1Q]
   | cons o' U=>cases hUW;exact p0C o p U W
  generalize W++U=L at hnL hlen e1 e2 e3
  obtain ⟨hpL,hL⟩:=rQ.mp hnL
  have hpr:p∉L.reverse:=fun h=>hpL (jK.mp h)
  have hco:(co p ([o::l,(o::l).reverse].flatMap cyc)).Perm [(la p L,hd (L++[p])),(hd (L++[p]),la p L)]:=by
   rw [List.flatMap_cons,List.flatMap_cons,List.flatMap_nil,z1Q,q8A]
   refine ((s9A p e1).append (s9A p e2)).trans ?_
   rw [co_cyc hpL,co_cyc hpr,a4B,r9B]
   exact List.Perm.refl _
  rw [hlen] at h3
  clear hlen e1 e2 hnL hpr
  refine bc fun zZ=>?_
  obtain ⟨x,y,M,rfl⟩:=g3B h3
  refine zZ ?_;clear zZ
  have hz:la p (x::y::M)∈y::M:=e4A M y
  have hzx:la p (x::y::M)≠x:=fun e=>(rQ.mp hL).1 (e ▸ hz)
  refine ⟨_,[x],rQ.mpr ⟨fun h=>hzx (cQ.mp h),rQ.mpr ⟨pW,tW⟩⟩,hco,fun w=>?_⟩
  show te p w∈ld↔_
  rw [hld,e3.mem_iff,e3.mem_iff,lQ,cQ]
  unfold cyp
  rw [iQ,iQ,cQ,cQ,cs_a hpL]
  constructor
  ·rintro ((h | h) | (h | h))
   ·exact .inr h.2
   ·have:p=la p (x::y::M):=congrArg Prod.fst h
    exact absurd (bQ _ (this ▸ hz)) hpL
   ·exact absurd (k5A h).2 hpL
   ·exact .inl (congrArg Prod.fst h)
  ·rintro (h | h)
   ·exact .inr (.inr (by rw [h]))
   ·exact .inl (.inl ⟨List.cons_ne_nil _ _,h⟩)
 ·refine (hpl p).mpr ?_
  rcases (hld p x).mp h with h | h
  ·exact (hcin _ h).1
  ·exact (hcin _ h).2
end Fl
namespace Fl
noncomputable def m8A:Fn:=⟨["thing"],[],[.ret (.and [.isi (.x "thing") .int,.not (.isi (.x "thing") .bool)])]⟩
noncomputable def n4B:Fn:=⟨["thing", "many"],["point"],[.ite (.or [.not (.isi (.x "thing") .tuple),.cmp (.bi .len [.x "thing"]) .ne (.c (.int 2))]) [.raise] [],
  .for_ (.one "point") (.x "thing") [.ite (.or [.not (.call "is_whole" [.x "point"]),.not (.cmp2 (.c (.int 0)) .le (.x "point") .lt (.x "many"))]) [.raise] []],
  .ite (.cmp (.item (.x "thing") (.c (.int 0))) .eq (.item (.x "thing") (.c (.int 1)))) [.raise] [],
  .ret (.tup [.bi .min [.x "thing"],.bi .max [.x "thing"]])]⟩
noncomputable def o8A:Fn:=⟨["self", "many", "ties"],["tie", "thing", "found"],[.ite (.or [.not (.call "is_whole" [.x "many"]),.not (.cmp2 (.c (.int 1)) .le (.x "many") .le (.g "MOST_POINTS" 16))]) [.raise] [],
  .ite (.or [.not (.isi (.x "ties") .list),.cmp (.bi .len [.x "ties"]) .gt (.g "MOST_TIES" 40)]) [.raise] [],
  .asg "found" (.mu (.disp [])),
  .for_ (.one "thing") (.x "ties") [.asg "tie" (.call "tie_of" [.x "thing", .x "many"]),
  .ite (.cmp (.x "tie") .isin (.x "found")) [.raise] [],
  .ex (.lm (.x "found") .append [.x "tie"])],
  .frzx "found",
  .setA "self" "many" (.x "many"),
  .setA "self" "pairs" (.fz (.sorted (.x "found"))),
  .setA "self" "rows" (.fz (.comp (.call "neighbours" [.x "found", .x "point"]) (.one "point") (.bi .range [.x "many"]) []))]⟩
noncomputable def c3A:Fn:=⟨["self", "thing"],[],[.ite (.or [.not (.call "is_whole" [.x "thing"]),.not (.cmp2 (.c (.int 0)) .le (.x "thing") .lt (.attr (.x "self") "many"))]) [.raise] []]⟩
noncomputable def n8A:Fn:=⟨["self"],[],[.ret (.fz (.copy (.attr (.x "self") "pairs")))]⟩
noncomputable def t5A:Fn:=⟨["self", "point"],[],[.ex (.meth (.x "self") "need_point" [.x "point"]),
  .ret (.fz (.copy (.item (.attr (.x "self") "rows") (.x "point"))))]⟩
noncomputable def s5A:Fn:=⟨["self"],["one", "piece", "point", "seen", "found"],[.asg "found" (.mu (.disp [])),
  .asg "seen" .dict0,
  .for_ (.one "point") (.bi .range [.attr (.x "self") "many"]) [.ite (.cmp (.x "point") .notin (.x "seen")) [.asg "piece" (.call "reached" [.attr (.x "self") "rows", .x "point", .fz (.disp [])]),
  .for_ (.one "one") (.x "piece") [.setI (.x "seen") (.x "one") (.c (.bool true))],
  .ex (.lm (.x "found") .append [.x "piece"])] []],
  .ret (.frz (.x "found"))]⟩
noncomputable def o5A:Fn:=⟨["ties", "point"],["tie", "found"],[.asg "found" (.mu (.disp [])),
  .for_ (.one "tie") (.x "ties") [.ite (.cmp (.item (.x "tie") (.c (.int 0))) .eq (.x "point")) [.ex (.lm (.x "found") .append [.item (.x "tie") (.c (.int 1))])] [],
  .ite (.cmp (.item (.x "tie") (.c (.int 1))) .eq (.x "point")) [.ex (.lm (.x "found") .append [.item (.x "tie") (.c (.int 0))])] []],
  .ret (.fz (.sorted (.x "found")))]⟩
noncomputable def j1B:Fn:=⟨["rows", "start", "without"],["other", "point", "waiting", "seen"],[.asg "seen" .dict0,
  .setI (.x "seen") (.x "start") (.c (.bool true)),
  .asg "waiting" (.mu (.disp [.x "start"])),
  .whl (.cmp (.bi .len [.x "waiting"]) .gt (.c (.int 0))) [.asg "point" (.lm (.x "waiting") .pop0 []),
  .for_ (.one "other") (.item (.x "rows") (.x "point")) [.ite (.and [.cmp (.x "other") .notin (.x "seen"),.cmp (.x "other") .notin (.x "without")]) [.setI (.x "seen") (.x "other") (.c (.bool true)),
  .ex (.lm (.x "waiting") .append [.x "other"])] []]],
  .ret (.fz (.sorted (.x "seen")))]⟩
noncomputable def b7A:Fn:=⟨["web", "turns"],["one", "turn", "point"],[.ite (.or [.not (.isi (.x "turns") .list),.cmp (.bi .len [.x "turns"]) .ne (.attr (.x "web") "many")]) [.ret (.c (.bool false))] [],
  .forEnum "point" "turn" (.x "turns") [.ite (.not (.isi (.x "turn") .list)) [.ret (.c (.bool false))] [],
  .for_ (.one "one") (.x "turn") [.ite (.not (.call "is_whole" [.x "one"])) [.ret (.c (.bool false))] []],
  .ite (.cmp (.fz (.sorted (.x "turn"))) .ne (.meth (.x "web") "beside" [.x "point"])) [.ret (.c (.bool false))] []],
  .ret (.c (.bool true))]⟩
noncomputable def s4B:Fn:=⟨["turns", "step"],["at", "turn"],[.asg "turn" (.item (.x "turns") (.item (.x "step") (.c (.int 1)))),
  .asg "at" (.bin .add (.lm (.x "turn") .index [.item (.x "step") (.c (.int 0))]) (.c (.int 1))),
  .ret (.tup [.item (.x "step") (.c (.int 1)),.item (.x "turn") (.bin .mod (.x "at") (.bi .len [.x "turn"]))])]⟩
noncomputable def c0C:Fn:=⟨["web", "turns"],["walk", "step", "other", "point", "met", "found"],[.ite (.not (.call "are_turns" [.x "web", .x "turns"])) [.raise] [],
  .asg "found" (.mu (.disp [])),
  .asg "met" .dict0,
  .for_ (.one "point") (.bi .range [.attr (.x "web") "many"]) [.for_ (.one "other") (.meth (.x "web") "beside" [.x "point"]) [.asg "step" (.tup [.x "point", .x "other"]),
  .asg "walk" (.mu (.disp [])),
  .whl (.cmp (.x "step") .notin (.x "met")) [.setI (.x "met") (.x "step") (.c (.bool true)),
  .ex (.lm (.x "walk") .append [.item (.x "step") (.c (.int 0))]),
  .asg "step" (.call "behind" [.x "turns", .x "step"])],
  .ite (.cmp (.bi .len [.x "walk"]) .gt (.c (.int 0))) [.ex (.lm (.x "found") .append [.frz (.x "walk")])] []]],
  .ret (.frz (.x "found"))]⟩
noncomputable def f_flat:Fn:=⟨["web", "turns"],["count", "many", "piece", "all_walks"],[.asg "all_walks" (.call "walks" [.x "web", .x "turns"]),
  .for_ (.one "piece") (.meth (.x "web") "pieces" []) [.asg "many" (.bi .len [.fz (.comp (.x "tie") (.one "tie") (.meth (.x "web") "ties" []) [.cmp (.item (.x "tie") (.c (.int 0))) .isin (.x "piece")])]),
  .asg "count" (.bi .len [.fz (.comp (.x "walk") (.one "walk") (.x "all_walks") [.cmp (.item (.x "walk") (.c (.int 0))) .isin (.x "piece")])]),
  .ite (.and [.cmp (.x "many") .gt (.c (.int 0)),.cmp (.x "count") .ne (.bin .add (.bin .sub (.x "many") (.bi .len [.x "piece"])) (.c (.int 2)))]) [.ret (.c (.bool false))] []],
  .ret (.c (.bool true))]⟩
noncomputable def v4A:Fn:=⟨["web", "rows", "point"],["other", "found"],[.asg "found" .dict0,
  .for_ (.one "other") (.item (.x "rows") (.x "point")) [.setI (.x "found") (.x "other") (.item (.call "reached" [.x "rows", .x "other", .fz (.disp [.x "point"])]) (.c (.int 0)))],
  .ret (.frz (.x "found"))]⟩
noncomputable def q4B:Fn:=⟨["groups", "one", "other"],["tie", "found", "second", "first"],[.asg "first" (.item (.x "groups") (.x "one")),
  .asg "second" (.item (.x "groups") (.x "other")),
  .asg "found" .dict0,
  .for_ (.one "tie") (.x "groups") [.setI (.x "found") (.x "tie") (.item (.x "groups") (.x "tie")),
  .ite (.cmp (.item (.x "groups") (.x "tie")) .eq (.x "second")) [.setI (.x "found") (.x "tie") (.x "first")] []],
  .ret (.frz (.x "found"))]⟩
noncomputable def r4B:Fn:=⟨["web"],["met", "found", "other", "one", "marks", "point", "tie", "groups", "rows", "ties"],[.asg "ties" (.meth (.x "web") "ties" []),
  .asg "rows" (.fz (.comp (.meth (.x "web") "beside" [.x "point"]) (.one "point") (.bi .range [.attr (.x "web") "many"]) [])),
  .asg "groups" .dict0,
  .for_ (.one "tie") (.x "ties") [.setI (.x "groups") (.x "tie") (.x "tie")],
  .frzx "groups",
  .for_ (.one "point") (.bi .range [.attr (.x "web") "many"]) [.asg "marks" (.call "marks_round" [.x "web", .x "rows", .x "point"]),
  .for_ (.one "one") (.item (.x "rows") (.x "point")) [.for_ (.one "other") (.item (.x "rows") (.x "point")) [.ite (.and [.cmp (.x "one") .lt (.x "other"),.cmp (.item (.x "marks") (.x "one")) .eq (.item (.x "marks") (.x "other"))]) [.asg "groups" (.call "merged" [.x "groups", .tup [.bi .min [.x "point", .x "one"],.bi .max [.x "point", .x "one"]],.tup [.bi .min [.x "point", .x "other"],.bi .max [.x "point", .x "other"]]])] []]]],
  .asg "found" (.mu (.disp [])),
  .asg "met" .dict0,
  .for_ (.one "tie") (.x "ties") [.ite (.cmp (.item (.x "groups") (.x "tie")) .notin (.x "met")) [.setI (.x "met") (.item (.x "groups") (.x "tie")) (.c (.bool true)),
  .ex (.lm (.x "found") .append [.fz (.comp (.x "other") (.one "other") (.x "ties") [.cmp (.item (.x "groups") (.x "other")) .eq (.item (.x "groups") (.x "tie"))])])] []],
  .ret (.frz (.x "found"))]⟩
noncomputable def f_way:Fn:=⟨["links", "start", "goals", "inner"],["other", "point", "at", "waiting", "ahead"],[.asg "ahead" .dict0,
  .setI (.x "ahead") (.x "start") (.c .none),
  .asg "waiting" (.mu (.disp [.x "start"])),
  .asg "at" (.c (.int 0)),
  .whl (.cmp (.x "at") .lt (.bi .len [.x "waiting"])) [.asg "point" (.item (.x "waiting") (.x "at")),
  .asg "at" (.bin .add (.x "at") (.c (.int 1))),
  .for_ (.one "other") (.item (.x "links") (.x "point")) [.ite (.and [.cmp (.x "other") .isin (.x "goals"),.cmp (.x "point") .ne (.x "start")]) [.ret (.fz (.concat (.call "row_back" [.x "ahead", .x "point"]) (.fz (.disp [.x "other"]))))] [],
  .ite (.and [.cmp (.x "other") .isin (.x "inner"),.cmp (.x "other") .notin (.x "ahead")]) [.setI (.x "ahead") (.x "other") (.x "point"),
  .ex (.lm (.x "waiting") .append [.x "other"])] []]],
  .ret (.c .none)]⟩
noncomputable def l8A:Fn:=⟨["ahead", "point"],["row"],[.asg "row" (.fz (.disp [])),
  .whl (.cmp (.x "point") .isnn (.c .none)) [.asg "row" (.fz (.concat (.fz (.disp [.x "point"])) (.x "row"))),
  .asg "point" (.item (.x "ahead") (.x "point"))],
  .ret (.x "row")]⟩
noncomputable def k1B:Fn:=⟨["one", "other"],[],[.ret (.tup [.bi .min [.x "one", .x "other"],.bi .max [.x "one", .x "other"]])]⟩
noncomputable def f_lay:Fn:=⟨["laid", "row"],["other", "one"],[.forZip "one" "other" (.x "row") (.fz (.slice (.x "row") (some (.c (.int 1))) Option.none)) [.setI (.x "laid") (.call "pair_of" [.x "one", .x "other"]) (.c (.bool true))]]⟩
noncomputable def d0C:Fn:=⟨["links", "start", "placed"],["other", "point", "waiting", "seen"],[.asg "seen" .dict0,
  .setI (.x "seen") (.x "start") (.c (.bool true)),
  .asg "waiting" (.mu (.disp [.x "start"])),
  .whl (.cmp (.bi .len [.x "waiting"]) .gt (.c (.int 0))) [.asg "point" (.lm (.x "waiting") .pop0 []),
  .for_ (.one "other") (.item (.x "links") (.x "point")) [.ite (.and [.cmp (.x "other") .notin (.x "seen"),.cmp (.x "other") .notin (.x "placed")]) [.setI (.x "seen") (.x "other") (.c (.bool true)),
  .ex (.lm (.x "waiting") .append [.x "other"])] []]],
  .ret (.frz (.x "seen"))]⟩
noncomputable def o4B:Fn:=⟨["links", "placed", "laid"],["inner", "point", "met", "other", "one", "found"],[.asg "found" (.mu (.disp [])),
  .for_ (.one "one") (.x "placed") [.for_ (.one "other") (.item (.x "links") (.x "one")) [.ite (.and [.cmp (.x "one") .lt (.x "other"),.cmp (.x "other") .isin (.x "placed"),.cmp (.tup [.x "one", .x "other"]) .notin (.x "laid")]) [.ex (.lm (.x "found") .append [.tup [.fz (.disp [.x "one", .x "other"]),.fdict0]])] []]],
  .asg "met" .dict0,
  .for_ (.one "point") (.x "links") [.ite (.and [.cmp (.x "point") .notin (.x "placed"),.cmp (.x "point") .notin (.x "met")]) [.asg "inner" (.call "grown" [.x "links", .x "point", .x "placed"]),
  .for_ (.one "one") (.x "inner") [.setI (.x "met") (.x "one") (.c (.bool true))],
  .ex (.lm (.x "found") .append [.tup [.fz (.sset (.fz (.comp (.x "one") (.one "one") (.x "placed") [.call "touches" [.x "links", .x "one", .x "inner"]]))),.x "inner"]])] []],
  .ret (.frz (.x "found"))]⟩
noncomputable def i1B:Fn:=⟨["links", "point", "inner"],["other"],[.for_ (.one "other") (.item (.x "links") (.x "point")) [.ite (.cmp (.x "other") .isin (.x "inner")) [.ret (.c (.bool true))] []],
  .ret (.c (.bool false))]⟩
noncomputable def q5A:Fn:=⟨["fields", "ends"],["field", "at", "found"],[.asg "found" (.mu (.disp [])),
  .forEnum "at" "field" (.x "fields") [.ite (.cmp (.bi .len [.fz (.comp (.x "one") (.one "one") (.x "ends") [.cmp (.x "one") .notin (.x "field")])]) .eq (.c (.int 0))) [.ex (.lm (.x "found") .append [.x "at"])] []],
  .ret (.frz (.x "found"))]⟩
noncomputable def p4B:Fn:=⟨["field", "row"],["inner", "cut", "turned", "at"],[.asg "at" (.lm (.x "field") .index [.item (.x "row") (.c (.int 0))]),
  .asg "turned" (.fz (.concat (.fz (.slice (.x "field") (some (.x "at")) Option.none)) (.fz (.slice (.x "field") Option.none (some (.x "at")))))),
  .asg "cut" (.lm (.x "turned") .index [.item (.x "row") (.neg (.c (.int 1)))]),
  .asg "inner" (.fz (.slice (.x "row") (some (.c (.int 1))) (some (.neg (.c (.int 1)))))),
  .ret (.fz (.disp [.fz (.concat (.fz (.slice (.x "turned") Option.none (some (.bin .add (.x "cut") (.c (.int 1)))))) (.fz (.rev (.x "inner")))),.fz (.concat (.fz (.concat (.fz (.slice (.x "turned") (some (.x "cut")) Option.none)) (.fz (.disp [.item (.x "row") (.c (.int 0))])))) (.x "inner"))]))]⟩
noncomputable def p5A:Fn:=⟨["links"],["more", "at", "waiting", "ahead", "point", "inner", "other", "start"],[.asg "start" (.item (.fz (.sorted (.x "links"))) (.c (.int 0))),
  .asg "other" (.item (.item (.x "links") (.x "start")) (.c (.int 0))),
  .asg "inner" .dict0,
  .for_ (.one "point") (.x "links") [.ite (.cmp (.x "point") .ne (.x "start")) [.setI (.x "inner") (.x "point") (.c (.bool true))] []],
  .asg "ahead" .dict0,
  .setI (.x "ahead") (.x "other") (.c .none),
  .asg "waiting" (.mu (.disp [.x "other"])),
  .asg "at" (.c (.int 0)),
  .whl (.cmp (.x "at") .lt (.bi .len [.x "waiting"])) [.asg "point" (.item (.x "waiting") (.x "at")),
  .asg "at" (.bin .add (.x "at") (.c (.int 1))),
  .for_ (.one "more") (.item (.x "links") (.x "point")) [.ite (.and [.cmp (.x "more") .eq (.x "start"),.cmp (.x "point") .ne (.x "other")]) [.ret (.fz (.concat (.call "row_back" [.x "ahead", .x "point"]) (.fz (.disp [.x "start"]))))] [],
  .ite (.and [.cmp (.x "more") .isin (.x "inner"),.cmp (.x "more") .notin (.x "ahead")]) [.setI (.x "ahead") (.x "more") (.x "point"),
  .ex (.lm (.x "waiting") .append [.x "more"])] []]],
  .ret (.fz (.disp []))]⟩
noncomputable def n5A:Fn:=⟨["links", "placed", "laid", "fields"],["places", "inner", "ends", "best"],[.asg "best" (.c .none),
  .for_ (.two "ends" "inner") (.call "shreds" [.x "links", .x "placed", .x "laid"]) [.asg "places" (.call "fields_for" [.x "fields", .x "ends"]),
  .ite (.or [.cmp (.x "best") .isn (.c .none),.cmp (.bi .len [.x "places"]) .lt (.bi .len [.item (.x "best") (.c (.int 2))])]) [.asg "best" (.tup [.x "ends", .x "inner", .x "places"])] []],
  .ret (.x "best")]⟩
noncomputable def a7A:Fn:=⟨["links"],["at", "row", "best", "fields", "point", "laid", "placed", "ring"],[.asg "ring" (.call "first_ring" [.x "links"]),
  .asg "placed" .dict0,
  .asg "laid" .dict0,
  .for_ (.one "point") (.x "ring") [.setI (.x "placed") (.x "point") (.c (.bool true))],
  .ex (.call "lay" [.x "laid", .fz (.concat (.x "ring") (.fz (.slice (.x "ring") Option.none (some (.c (.int 1))))))]),
  .asg "fields" (.fz (.disp [.x "ring", .fz (.rev (.x "ring"))])),
  .asg "best" (.call "next_shred" [.x "links", .x "placed", .x "laid", .x "fields"]),
  .whl (.cmp (.x "best") .isnn (.c .none)) [.ite (.cmp (.bi .len [.item (.x "best") (.c (.int 2))]) .eq (.c (.int 0))) [.ret (.c .none)] [],
  .asg "row" (.item (.x "best") (.c (.int 0))),
  .ite (.cmp (.bi .len [.item (.x "best") (.c (.int 1))]) .gt (.c (.int 0))) [.asg "row" (.call "way" [.x "links", .item (.item (.x "best") (.c (.int 0))) (.c (.int 0)),.fz (.slice (.item (.x "best") (.c (.int 0))) (some (.c (.int 1))) Option.none),.item (.x "best") (.c (.int 1))])] [],
  .asg "at" (.item (.item (.x "best") (.c (.int 2))) (.c (.int 0))),
  .asg "fields" (.fz (.concat (.fz (.concat (.fz (.slice (.x "fields") Option.none (some (.x "at")))) (.call "parted" [.item (.x "fields") (.x "at"),.x "row"]))) (.fz (.slice (.x "fields") (some (.bin .add (.x "at") (.c (.int 1)))) Option.none)))),
  .for_ (.one "point") (.x "row") [.setI (.x "placed") (.x "point") (.c (.bool true))],
  .ex (.call "lay" [.x "laid", .x "row"]),
  .asg "best" (.call "next_shred" [.x "links", .x "placed", .x "laid", .x "fields"])],
  .ret (.x "fields")]⟩
noncomputable def z6A:Fn:=⟨["links", "fields"],["turn", "point", "found", "at", "field", "follows"],[.asg "follows" .dict0,
  .for_ (.one "field") (.x "fields") [.for_ (.one "at") (.bi .range [.bi .len [.x "field"]]) [.setI (.x "follows") (.tup [.item (.x "field") (.x "at"),.item (.x "field") (.bin .sub (.x "at") (.c (.int 1)))]) (.item (.x "field") (.bin .mod (.bin .add (.x "at") (.c (.int 1))) (.bi .len [.x "field"])))]],
  .asg "found" .dict0,
  .for_ (.one "point") (.x "links") [.asg "turn" (.mu (.disp [.item (.item (.x "links") (.x "point")) (.c (.int 0))])),
  .whl (.cmp (.item (.x "follows") (.tup [.x "point", .item (.x "turn") (.neg (.c (.int 1)))])) .ne (.item (.x "turn") (.c (.int 0)))) [.ex (.lm (.x "turn") .append [.item (.x "follows") (.tup [.x "point", .item (.x "turn") (.neg (.c (.int 1)))])])],
  .setI (.x "found") (.x "point") (.frz (.x "turn"))],
  .ret (.frz (.x "found"))]⟩
noncomputable def e0C:Fn:=⟨["web"],["fields", "rounds", "point", "tie", "links", "block", "turns"],[.asg "turns" (.mu (.comp (.fz (.disp [])) (.one "point") (.bi .range [.attr (.x "web") "many"]) [])),
  .for_ (.one "block") (.call "blocks" [.x "web"]) [.asg "links" .dict0,
  .for_ (.one "tie") (.x "block") [.for_ (.one "point") (.x "tie") [.setI (.x "links") (.x "point") (.call "neighbours" [.x "block", .x "point"])]],
  .frzx "links",
  .asg "rounds" (.x "links"),
  .ite (.cmp (.bi .len [.x "block"]) .gt (.c (.int 1))) [.asg "fields" (.call "fields_of" [.x "links"]),
  .ite (.cmp (.x "fields") .isn (.c .none)) [.ret (.c .none)] [],
  .asg "rounds" (.call "rounds_of" [.x "links", .x "fields"])] [],
  .for_ (.one "point") (.x "links") [.setI (.x "turns") (.x "point") (.fz (.concat (.item (.x "turns") (.x "point")) (.item (.x "rounds") (.x "point"))))]],
  .ret (.frz (.x "turns"))]⟩
noncomputable def h4A:Fn:=⟨["_law_script", "_law_k"],[],[.ite (.cmp (.x "_law_k") .lt (.bi .len [.x "_law_script"])) [.ret (.item (.x "_law_script") (.x "_law_k"))] [],
  .ret (.c (.int 0))]⟩
noncomputable def d7A:Fn:=⟨["_law_script"],[],[.ite (.cmp (.bin .mod (.call "_law_cell_at" [.x "_law_script", .c (.int 0)]) (.c (.int 6))) .eq (.c (.int 5))) [.ret (.bin .add (.c (.int 9)) (.bin .mod (.bin .fdiv (.call "_law_cell_at" [.x "_law_script", .c (.int 0)]) (.c (.int 6))) (.c (.int 8))))] [],
  .ret (.bin .add (.c (.int 1)) (.bin .mod (.bin .fdiv (.call "_law_cell_at" [.x "_law_script", .c (.int 0)]) (.c (.int 6))) (.c (.int 8))))]⟩
noncomputable def c7A:Fn:=⟨["_law_script", "_law_many_here"],["_law_other", "_law_one", "_law_cell", "_law_most", "_law_made"],[.asg "_law_made" (.mu (.disp [])),
  .asg "_law_most" (.bin .add (.bin .mod (.call "_law_cell_at" [.x "_law_script", .c (.int 1)]) (.c (.int 17))) (.bin .mul (.c (.int 23)) (.bi .int [.cmp (.bin .mod (.bin .fdiv (.call "_law_cell_at" [.x "_law_script", .c (.int 1)]) (.c (.int 17))) (.c (.int 8))) .eq (.c (.int 7))]))),
  .for_ (.one "_law_cell") (.fz (.slice (.x "_law_script") (some (.c (.int 4))) (some (.bin .add (.c (.int 4)) (.x "_law_most"))))) [.asg "_law_one" (.bin .mod (.x "_law_cell") (.x "_law_many_here")),
  .asg "_law_other" (.bin .mod (.bin .add (.bin .add (.x "_law_one") (.c (.int 1))) (.bin .mod (.bin .fdiv (.x "_law_cell") (.x "_law_many_here")) (.bi .max [.c (.int 1),.bin .sub (.x "_law_many_here") (.c (.int 1))]))) (.x "_law_many_here")),
  .ite (.and [.cmp (.x "_law_one") .ne (.x "_law_other"),.cmp (.tup [.x "_law_one", .x "_law_other"]) .notin (.x "_law_made"),.cmp (.tup [.x "_law_other", .x "_law_one"]) .notin (.x "_law_made")]) [.ex (.lm (.x "_law_made") .append [.tup [.x "_law_one", .x "_law_other"]])] []],
  .ret (.frz (.x "_law_made"))]⟩
noncomputable def r3A:Fn:=⟨["_law_cell", "_law_row"],["_law_made", "_law_left"],[.asg "_law_left" (.mu (.copy (.x "_law_row"))),
  .asg "_law_made" (.mu (.disp [])),
  .whl (.cmp (.x "_law_left") .ne (.fz (.disp []))) [.ex (.lm (.x "_law_made") .append [.lm (.x "_law_left") .pop [.bin .mod (.x "_law_cell") (.bi .len [.x "_law_left"])]]),
  .asg "_law_cell" (.bin .fdiv (.x "_law_cell") (.bin .add (.bi .len [.x "_law_left"]) (.c (.int 1))))],
  .ret (.frz (.x "_law_made"))]⟩
noncomputable def q3A:Fn:=⟨["_law_script", "_law_many_here", "_law_ties_here"],["_law_own", "_law_point", "_law_turns"],[.asg "_law_turns" (.mu (.disp [])),
  .for_ (.one "_law_point") (.bi .range [.x "_law_many_here"]) [.asg "_law_own" (.fz (.comp (.bin .sub (.bin .add (.item (.x "_law_tie") (.c (.int 0))) (.item (.x "_law_tie") (.c (.int 1)))) (.x "_law_point")) (.one "_law_tie") (.x "_law_ties_here") [.cmp (.x "_law_point") .isin (.x "_law_tie")])),
  .ex (.lm (.x "_law_turns") .append [.call "_law_order_by" [.bin .add (.bin .fdiv (.call "_law_cell_at" [.x "_law_script", .c (.int 2)]) (.bin .add (.c (.int 1)) (.bin .mul (.c (.int 3)) (.x "_law_point")))) (.bin .mul (.c (.int 31)) (.x "_law_point")),.fz (.sorted (.x "_law_own"))]])],
  .ret (.frz (.x "_law_turns"))]⟩
noncomputable def x4A:Fn:=⟨["_law_ties_here", "_law_many_here"],["_law_high", "_law_low", "_law_tie", "_law_labels_here"],[.asg "_law_labels_here" (.fz (.copy (.bi .range [.x "_law_many_here"]))),
  .for_ (.one "_law_tie") (.x "_law_ties_here") [.asg "_law_low" (.bi .min [.item (.x "_law_labels_here") (.item (.x "_law_tie") (.c (.int 0))),.item (.x "_law_labels_here") (.item (.x "_law_tie") (.c (.int 1)))]),
  .asg "_law_high" (.bi .max [.item (.x "_law_labels_here") (.item (.x "_law_tie") (.c (.int 0))),.item (.x "_law_labels_here") (.item (.x "_law_tie") (.c (.int 1)))]),
  .asg "_law_labels_here" (.fz (.comp (.ifx (.cmp (.x "_law_label") .eq (.x "_law_high")) (.x "_law_low") (.x "_law_label")) (.one "_law_label") (.x "_law_labels_here") []))],
  .ret (.x "_law_labels_here")]⟩
noncomputable def y4A:Fn:=⟨["_law_turns", "_law_ties_here"],["_law_turn", "_law_step", "_law_firsts_here", "_law_tie", "_law_left"],[.asg "_law_left" .dict0,
  .for_ (.one "_law_tie") (.x "_law_ties_here") [.setI (.x "_law_left") (.x "_law_tie") (.c (.bool true)),
  .setI (.x "_law_left") (.tup [.item (.x "_law_tie") (.c (.int 1)),.item (.x "_law_tie") (.c (.int 0))]) (.c (.bool true))],
  .asg "_law_firsts_here" (.mu (.disp [])),
  .for_ (.one "_law_step") (.fz (.sortP (.x "_law_left"))) [.ite (.cmp (.x "_law_step") .isin (.x "_law_left")) [.ex (.lm (.x "_law_firsts_here") .append [.x "_law_step"])] [],
  .whl (.cmp (.x "_law_step") .isin (.x "_law_left")) [.ex (.dpop (.x "_law_left") (.x "_law_step")),
  .asg "_law_turn" (.item (.x "_law_turns") (.item (.x "_law_step") (.c (.int 1)))),
  .asg "_law_step" (.tup [.item (.x "_law_step") (.c (.int 1)),.item (.x "_law_turn") (.bin .mod (.bin .add (.lm (.x "_law_turn") .index [.item (.x "_law_step") (.c (.int 0))]) (.c (.int 1))) (.bi .len [.x "_law_turn"]))])]],
  .ret (.frz (.x "_law_firsts_here"))]⟩
noncomputable def g4A:Fn:=⟨["_law_turns", "_law_ties_here", "_law_many_here"],["_law_seen", "_law_points", "_law_own", "_law_label", "_law_firsts_here", "_law_labels_here"],[.asg "_law_labels_here" (.call "_law_labels" [.x "_law_ties_here", .x "_law_many_here"]),
  .asg "_law_firsts_here" (.call "_law_firsts" [.x "_law_turns", .x "_law_ties_here"]),
  .for_ (.one "_law_label") (.bi .range [.x "_law_many_here"]) [.asg "_law_own" (.bi .len [.fz (.comp (.x "_law_tie") (.one "_law_tie") (.x "_law_ties_here") [.cmp (.item (.x "_law_labels_here") (.item (.x "_law_tie") (.c (.int 0)))) .eq (.x "_law_label")])]),
  .asg "_law_points" (.lm (.x "_law_labels_here") .count [.x "_law_label"]),
  .asg "_law_seen" (.fz (.comp (.x "_law_step") (.one "_law_step") (.x "_law_firsts_here") [.cmp (.item (.x "_law_labels_here") (.item (.x "_law_step") (.c (.int 0)))) .eq (.x "_law_label")])),
  .ite (.and [.cmp (.x "_law_own") .gt (.c (.int 0)),.cmp (.bi .len [.x "_law_seen"]) .ne (.bin .add (.bin .sub (.x "_law_own") (.x "_law_points")) (.c (.int 2)))]) [.ret (.c (.bool false))] []],
  .ret (.c (.bool true))]⟩
noncomputable def w4A:Fn:=⟨["_law_turns", "_law_cell"],["_law_at", "_law_turn", "_law_made"],[.asg "_law_made" (.mu (.comp (.fz (.copy (.x "_law_turn"))) (.one "_law_turn") (.x "_law_turns") [])),
  .asg "_law_turn" (.item (.x "_law_made") (.bin .mod (.x "_law_cell") (.bi .len [.x "_law_made"]))),
  .ite (.cmp (.bi .len [.x "_law_turn"]) .gt (.c (.int 2))) [.asg "_law_at" (.bin .mod (.bin .fdiv (.x "_law_cell") (.c (.int 16))) (.bin .sub (.bi .len [.x "_law_turn"]) (.c (.int 1)))),
  .setI (.x "_law_made") (.bin .mod (.x "_law_cell") (.bi .len [.x "_law_made"])) (.fz (.concat (.fz (.concat (.fz (.slice (.x "_law_turn") Option.none (some (.x "_law_at")))) (.fz (.disp [.item (.x "_law_turn") (.bin .add (.x "_law_at") (.c (.int 1))),.item (.x "_law_turn") (.x "_law_at")])))) (.fz (.slice (.x "_law_turn") (some (.bin .add (.x "_law_at") (.c (.int 2)))) Option.none))))] [],
  .ret (.frz (.x "_law_made"))]⟩
noncomputable def r5A:Fn:=⟨["_law_web", "_law_ties_here", "_law_many_here"],["_law_point"],[.ite (.cmp (.meth (.x "_law_web") "ties" []) .ne (.fz (.sorted (.fz (.comp (.tup [.bi .min [.x "_law_tie"],.bi .max [.x "_law_tie"]]) (.one "_law_tie") (.x "_law_ties_here") []))))) [.ret (.c (.bool false))] [],
  .for_ (.one "_law_point") (.bi .range [.x "_law_many_here"]) [.ite (.cmp (.meth (.x "_law_web") "beside" [.x "_law_point"]) .ne (.fz (.sorted (.fz (.comp (.bin .sub (.bin .add (.item (.x "_law_tie") (.c (.int 0))) (.item (.x "_law_tie") (.c (.int 1)))) (.x "_law_point")) (.one "_law_tie") (.x "_law_ties_here") [.cmp (.x "_law_point") .isin (.x "_law_tie")]))))) [.ret (.c (.bool false))] []],
  .ret (.c (.bool true))]⟩
noncomputable def f_law:Fn:=⟨["_law_script"],["_law_seen", "_law_handed", "_law_other", "_law_found", "_law_cell", "_law_web", "_law_turns", "_law_ties_here", "_law_many_here"],[.asg "_law_many_here" (.call "_law_many" [.x "_law_script"]),
  .asg "_law_ties_here" (.call "_law_ties" [.x "_law_script", .x "_law_many_here"]),
  .asg "_law_turns" (.call "_law_turns_by" [.x "_law_script", .x "_law_many_here", .x "_law_ties_here"]),
  .asg "_law_web" (.new "Web" [.x "_law_many_here", .fz (.copy (.x "_law_ties_here"))]),
  .asg "_law_cell" (.call "_law_cell_at" [.x "_law_script", .c (.int 3)]),
  .ite (.cmp (.bin .mod (.x "_law_cell") (.c (.int 2))) .eq (.c (.int 1))) [.asg "_law_found" (.call "drawn" [.x "_law_web"]),
  .ite (.cmp (.x "_law_found") .isnn (.c .none)) [.asg "_law_turns" (.fz (.comp (.fz (.copy (.x "_law_turn"))) (.one "_law_turn") (.x "_law_found") [])),
  .ite (.cmp (.bin .mod (.bin .fdiv (.x "_law_cell") (.c (.int 2))) (.c (.int 3))) .eq (.c (.int 1))) [.asg "_law_turns" (.call "_law_shaken" [.x "_law_turns", .bin .fdiv (.x "_law_cell") (.c (.int 6))])] []] []] [],
  .asg "_law_other" (.call "_law_turns_by" [.x "_law_script", .x "_law_many_here", .x "_law_ties_here"]),
  .ite (.cmp (.call "flat" [.x "_law_web", .fz (.comp (.fz (.copy (.x "_law_turn"))) (.one "_law_turn") (.x "_law_other") [])]) .ne (.call "_law_is_flat" [.x "_law_other", .x "_law_ties_here", .x "_law_many_here"])) [.ret (.c (.bool false))] [],
  .asg "_law_handed" (.fz (.comp (.fz (.copy (.x "_law_turn"))) (.one "_law_turn") (.x "_law_turns") [])),
  .asg "_law_seen" (.call "flat" [.x "_law_web", .x "_law_handed"]),
  .ite (.or [.not (.isi (.x "_law_seen") .bool),.cmp (.x "_law_seen") .ne (.call "_law_is_flat" [.x "_law_turns", .x "_law_ties_here", .x "_law_many_here"]),.cmp (.x "_law_handed") .ne (.x "_law_turns")]) [.ret (.c (.bool false))] [],
  .ret (.call "_law_stays" [.x "_law_web", .x "_law_ties_here", .x "_law_many_here"])]⟩
noncomputable def tab:List (String×Fn):=[("is_whole", m8A),("tie_of", n4B),("Web.__init__", o8A),("Web.need_point", c3A),("Web.ties", n8A),("Web.beside", t5A),("Web.pieces", s5A),("neighbours", o5A),("reached", j1B),("are_turns", b7A),("behind", s4B),("walks", c0C),("flat", f_flat),("marks_round", v4A),("merged", q4B),("blocks", r4B),("way", f_way),("row_back", l8A),("pair_of", k1B),("lay", f_lay),("grown", d0C),("shreds", o4B),("touches", i1B),("fields_for", q5A),("parted", p4B),("first_ring", p5A),("next_shred", n5A),("fields_of", a7A),("rounds_of", z6A),("drawn", e0C),("_law_cell_at", h4A),("_law_many", d7A),("_law_ties", c7A),("_law_order_by", r3A),("_law_turns_by", q3A),("_law_labels", x4A),("_law_firsts", y4A),("_law_is_flat", g4A),("_law_shaken", w4A),("_law_stays", r5A),("law", f_law)]
end Fl
namespace Fl
open PySem (Str)
noncomputable abbrev iv (i:Int):A:=.v (.int i)
noncomputable abbrev lI (l:List Int):V:=.list (l.map V.int)
noncomputable abbrev lT (l:List (Int×Int)):V:=.list (l.map tV)
noncomputable def kK (C:a0A) (r:List S) (K:Fw→Loc→H→Prop):Fw→Loc→H→Prop
 | .next,m,σ=>xSs C r m σ K
 | .brk,m,σ=>K .brk m σ
 | .cont,m,σ=>K .cont m σ
 | .ret a,m,σ=>K (.ret a) m σ
theorem kK_eq (C r K):kK C r K=seqF (fun m σ=>xSs C r m σ K) K:=by
 funext fl m σ;cases fl <;> rfl
theorem nx {C:a0A} {s:S} {r:List S} {m σ K} (h:xS C s m σ (kK C r K)):xSs C (s::r) m σ K:=by rw [kK_eq] at h;exact h
theorem kN (C r K m σ):kK C r K .next m σ=xSs C r m σ K:=rfl
theorem kR (C r K a m σ):kK C r K (.ret a) m σ=K (.ret a) m σ:=rfl
noncomputable def lpK (t:H→Prop) (W:Loc→H→Prop) (K:Fw→Loc→H→Prop):Fw→Loc→H→Prop:=fun fl m σ=>match fl with
 | .next=>t σ∧W m σ
 | .cont=>t σ∧W m σ
 | .brk=>K .next m σ
 | .ret v=>K (.ret v) m σ
theorem lpN (t W K m σ):lpK t W K .next m σ=(t σ∧W m σ):=rfl
theorem lpR (t W K a m σ):lpK t W K (.ret a) m σ=K (.ret a) m σ:=rfl
noncomputable def wlK (W:Loc→H→Prop) (K:Fw→Loc→H→Prop):Fw→Loc→H→Prop:=fun fl m σ=>match fl with
 | .next=>W m σ
 | .cont=>W m σ
 | .brk=>K .next m σ
 | .ret v=>K (.ret v) m σ
theorem wlN (W K m σ):wlK W K .next m σ=W m σ:=rfl
theorem wlR (W K a m σ):wlK W K (.ret a) m σ=K (.ret a) m σ:=rfl
noncomputable def gL {α:Type} (o:Option α) (k:α→Prop):Prop:=match o with
 | some x=>k x
 | Option.none=>False∧∀ C m σ K,xSs C [] m σ K
theorem gL_some {α:Type} (x:α) (k:α→Prop):gL (some x) k=k x:=rfl
theorem gL_get {α:Type} {o:Option α} {k:α→Prop} (h:gL o k):get o k:=by
 cases o with
 | none=>exact h.1
 | some x=>exact h
theorem ite_t {A B:Prop}:(if true=true then A else B)=A:=rfl
theorem ite_f {A B:Prop}:(if false=true then A else B)=B:=rfl
theorem ite_0 {A B:Prop}:(if false=false then A else B)=A:=rfl
theorem ite_1 {A B:Prop}:(if true=false then A else B)=B:=rfl
theorem obind {α β:Type} (x:α) (f:α→Option β):(some x).bind f=f x:=rfl
theorem omap {α β:Type} (x:α) (f:α→β):(some x).map f=some (f x):=rfl
theorem gE0 (a:O) (l:H):(a::l)[0]?=some a:=rfl
theorem gE1 (a b:O) (l:H):(a::b::l)[1]?=some b:=rfl
theorem gE2 (a b c:O) (l:H):(a::b::c::l)[2]?=some c:=rfl
theorem gE3 (a b c d:O) (l:H):(a::b::c::d::l)[3]?=some d:=rfl
theorem gE4 (a b c d e:O) (l:H):(a::b::c::d::e::l)[4]?=some e:=rfl
theorem sE0 (a x:O) (l:H):(a::l).set 0 x=x::l:=rfl
theorem sE1 (a b x:O) (l:H):(a::b::l).set 1 x=a::x::l:=rfl
theorem sE2 (a b c x:O) (l:H):(a::b::c::l).set 2 x=a::b::x::l:=rfl
theorem sE3 (a b c d x:O) (l:H):(a::b::c::d::l).set 3 x=a::b::c::x::l:=rfl
theorem sE4 (a b c d e x:O) (l:H):(a::b::c::d::e::l).set 4 x=a::b::c::d::x::l:=rfl
theorem aH0 (l:H):[]++l=l:=rfl
theorem aH1 (a:O) (l l':H):(a::l)++l'=a::(l++l'):=rfl
theorem nH0:([]:H).length=0:=rfl
theorem nH1 (a:O):[a].length=1:=rfl
theorem nH2 (a b:O):[a,b].length=2:=rfl
theorem nH3 (a b c:O):[a,b,c].length=3:=rfl
theorem nH4 (a b c d:O):[a,b,c,d].length=4:=rfl
theorem aL0 (l:Loc):[]++l=l:=rfl
theorem aL1 (a:String×Option A) (l l':Loc):(a::l)++l'=a::(l++l'):=rfl
theorem mL0:([]:List String).map (fun x=>(x,(Option.none:Option A)))=[]:=rfl
theorem mL1 (x:String) (l:List String):(x::l).map (fun x=>(x,(Option.none:Option A)))=(x,Option.none)::l.map (fun x=>(x,Option.none)):=rfl
theorem it_l (σ:H) (xs:List V) (i:A):o2A σ (.v (.list xs)) i=x1A xs i:=rfl
theorem it_t (σ:H) (xs:List V) (i:A):o2A σ (.v (.tup xs)) i=x1A xs i:=rfl
theorem it_d (σ:H) (ks:List Ky) (vs:List V) (i:A):o2A σ (.v (.dict ks vs)) i=j9A (ks.zip vs) i:=rfl
theorem it_r (σ:H) (r:Nat) (i:A):o2A σ (.ref r) i=(σ[r]?).bind (itemO i):=rfl
theorem ito_l (i:A) (xs:List V):itemO i (.list xs)=x1A xs i:=rfl
theorem ito_m (i:A) (kvs:List (Ky×V)):itemO i (.map kvs)=j9A kvs i:=rfl
theorem it20 (a b:V):x1A [a,b] (.v (.int 0))=some a:=rfl
theorem it21 (a b:V):x1A [a,b] (.v (.int 1))=some b:=rfl
theorem it30 (a b c:V):x1A [a,b,c] (.v (.int 0))=some a:=rfl
theorem it31 (a b c:V):x1A [a,b,c] (.v (.int 1))=some b:=rfl
theorem it32 (a b c:V):x1A [a,b,c] (.v (.int 2))=some c:=rfl
theorem tVf (a b:Int):V.tup [.int a,.int b]=tV (a,b):=rfl
theorem itT0 (σ:H) (p:Int×Int):o2A σ (.v (tV p)) (.v (.int 0))=some (.int p.1):=rfl
theorem itT1 (σ:H) (p:Int×Int):o2A σ (.v (tV p)) (.v (.int 1))=some (.int p.2):=rfl
theorem lT2 (σ:H) (p:Int×Int):lenA σ (.v (tV p))=some 2:=rfl
theorem jT (σ:H) (p:Int×Int):b3A σ (.v (tV p)) .tuple=some true:=rfl
theorem sT (σ:H) (p:Int×Int):items σ (.v (tV p))=some [.int p.1,.int p.2]:=rfl
theorem uTm (σ:H) (p:Int×Int) (K):o7A σ K .min [.v (tV p)]=K (.v (.int (min p.1 p.2))):=rfl
theorem uTx (σ:H) (p:Int×Int) (K):o7A σ K .max [.v (tV p)]=K (.v (.int (max p.1 p.2))):=rfl
theorem inT (σ:H) (x:V) (p:Int×Int):inB σ x (.v (tV p))=inL x [.int p.1,.int p.2]:=rfl
theorem fp1 (f:String) (x:V):q1A [] f x=[(f,x)]:=rfl
theorem fp2 (a x:V):q1A [("many", a)] "pairs" x=[("many", a),("pairs", x)]:=rfl
theorem fp3 (a b x:V):q1A [("many", a),("pairs", b)] "rows" x=[("many", a),("pairs", b),("rows", x)]:=rfl
noncomputable def ilt (i j:Int):Bool:=vlt (.int i) (.int j)
theorem l9A {i j:Int} (h:i<j):ilt i j=true:=by rw [ilt,t2A];exact decide_eq_true h
theorem n7A {i j:Int} (h:j≤i):ilt i j=false:=by rw [ilt,t2A];exact decide_eq_false (kZ.mpr h)
theorem c1B {i j:Int} (h:ilt i j=true):i<j:=by rw [ilt,t2A] at h;exact of_decide_eq_true h
theorem j4B {i j:Int} (h:ilt i j=false):j≤i:=by rw [ilt,t2A] at h;exact kZ.mp (of_decide_eq_false h)
theorem q_lt (σ:H) (i j:Int):u0A σ .lt (.v (.int i)) (.v (.int j))=some (ilt i j):=rfl
theorem q_gt (σ:H) (i j:Int):u0A σ .gt (.v (.int i)) (.v (.int j))=some (ilt j i):=rfl
theorem q_le (σ:H) (i j:Int):u0A σ .le (.v (.int i)) (.v (.int j))=some (!ilt j i):=rfl
theorem q_ge (σ:H) (i j:Int):u0A σ .ge (.v (.int i)) (.v (.int j))=some (!ilt i j):=rfl
theorem q_eq (σ:H) (i j:Int):u0A σ .eq (.v (.int i)) (.v (.int j))=some (decide (i=j)):=rfl
theorem q_ne (σ:H) (i j:Int):u0A σ .ne (.v (.int i)) (.v (.int j))=some (!decide (i=j)):=rfl
theorem q_in (σ:H) (x:V) (b:A):u0A σ .isin (.v x) b=inB σ x b:=rfl
theorem q_ni (σ:H) (x:V) (b:A):u0A σ .notin (.v x) b=(inB σ x b).map (!·):=rfl
theorem q_is (σ:H) (a:A):u0A σ .isn a (.v .none)=some (y1A a):=rfl
theorem q_isn (σ:H) (a:A):u0A σ .isnn a (.v .none)=some (!y1A a):=rfl
theorem q_ns (σ:H) (a b:A):u0A σ .ne a b=(e7A σ a b).map (!·):=rfl
theorem n_i (i:Int):y1A (.v (.int i))=false:=rfl
theorem n_n:y1A (.v .none)=true:=rfl
theorem n_t (xs:List V):y1A (.v (.tup xs))=false:=rfl
theorem n_l (xs:List V):y1A (.v (.list xs))=false:=rfl
theorem in_l (σ:H) (x:V) (xs:List V):inB σ x (.v (.list xs))=inL x xs:=rfl
theorem in_t (σ:H) (x:V) (xs:List V):inB σ x (.v (.tup xs))=inL x xs:=rfl
theorem in_d (σ:H) (x:V) (ks:List Ky) (vs:List V):inB σ x (.v (.dict ks vs))=inM x (ks.zip vs):=rfl
theorem in_r (σ:H) (x:V) (i:Nat):inB σ x (.ref i)=(σ[i]?).bind (inO x):=rfl
theorem ino_l (x:V) (xs:List V):inO x (.list xs)=inL x xs:=rfl
theorem ino_m (x:V) (kvs:List (Ky×V)):inO x (.map kvs)=inM x kvs:=rfl
theorem ino_b (x:V) (kvs:List (Ky×V)):inO x (.bag kvs)=inM x kvs:=rfl
theorem u_len (σ:H) (a:A) (K):o7A σ K .len [a]=(get (lenA σ a) fun n=>K (.v (.int n))):=rfl
theorem l_l (σ:H) (xs:List V):lenA σ (.v (.list xs))=some xs.length:=rfl
theorem l_t (σ:H) (xs:List V):lenA σ (.v (.tup xs))=some xs.length:=rfl
theorem l_r (σ:H) (i:Nat):lenA σ (.ref i)=((σ[i]?).bind oL).map List.length:=rfl
theorem u_min (σ:H) (i j:Int) (K):o7A σ K .min [.v (.int i),.v (.int j)]=K (.v (.int (min i j))):=rfl
theorem u_max (σ:H) (i j:Int) (K):o7A σ K .max [.v (.int i),.v (.int j)]=K (.v (.int (max i j))):=rfl
theorem u_rng (σ:H) (n:Int) (K):o7A σ K .range [.v (.int n)]=(n<2 ^ 20∧-(2 ^ 20)<n∧K (.v (.range 0 n))):=rfl
theorem u_int (σ:H) (b:Bool) (K):o7A σ K .int [.v (.bool b)]=K (.v (.int (b2i b))):=rfl
theorem s_l (σ:H) (xs:List V):items σ (.v (.list xs))=some xs:=rfl
theorem s_t (σ:H) (xs:List V):items σ (.v (.tup xs))=some xs:=rfl
theorem s_g (σ:H) (lo hi:Int):items σ (.v (.range lo hi))=some (rngL lo hi):=rfl
theorem s_d (σ:H) (ks:List Ky) (vs:List V):items σ (.v (.dict ks vs))=some ((ks.zip vs).map fun q=>q.1.toV):=rfl
theorem s_r (σ:H) (i:Nat):items σ (.ref i)=(σ[i]?).bind oA:=rfl
theorem oa_l (xs:List V):oA (.list xs)=some xs:=rfl
theorem oa_m (kvs:List (Ky×V)):oA (.map kvs)=some (kvs.map fun q=>q.1.toV):=rfl
theorem v_l (σ:H) (xs:List V):y0A σ (.v (.list xs))=some xs:=rfl
theorem v_r (σ:H) (i:Nat):y0A σ (.ref i)=(σ[i]?).bind oL:=rfl
theorem w_l (σ:H) (xs:List V):seqV σ (.v (.list xs))=some xs:=rfl
theorem w_g (σ:H) (lo hi:Int):seqV σ (.v (.range lo hi))=some (rngL lo hi):=rfl
theorem w_r (σ:H) (i:Nat):seqV σ (.ref i)=(σ[i]?).bind oL:=rfl
theorem z_l (σ:H) (xs:List V):srtV σ (.v (.list xs))=some xs:=rfl
theorem z_d (σ:H) (ks:List Ky) (vs:List V):srtV σ (.v (.dict ks vs))=some ((ks.zip vs).map fun q=>q.1.toV):=rfl
theorem z_r (σ:H) (i:Nat):srtV σ (.ref i)=(σ[i]?).bind oA:=rfl
theorem vo_v (σ:H) (x:V):v1B σ (.v x)=some x:=rfl
theorem vo_r (σ:H) (i:Nat):v1B σ (.ref i)=((σ[i]?).bind oL).map V.list:=rfl
theorem j_i (σ:H) (i:Int):b3A σ (.v (.int i)) .int=some true:=rfl
theorem j_b (σ:H) (i:Int):b3A σ (.v (.int i)) .bool=some false:=rfl
theorem j_t (σ:H) (xs:List V):b3A σ (.v (.tup xs)) .tuple=some true:=rfl
theorem j_l (σ:H) (xs:List V):b3A σ (.v (.list xs)) .list=some true:=rfl
theorem j_o (σ:H) (b:Bool):b3A σ (.v (.bool b)) .bool=some true:=rfl
theorem il_r (σ:H) (i:Nat):g9B σ (.ref i)=((σ[i]?).bind oL).isSome:=rfl
theorem il_v (σ:H) (xs:List V):g9B σ (.v (.list xs))=true:=rfl
theorem so_s {α:Type} (x:α):(some x).isSome=true:=rfl
theorem lm_app (σ:H) (i:Nat) (x:V) (K):v0B σ (.ref i) K .append [.v x]=(get ((σ[i]?).bind oL) fun xs=>(xs++[x]).length<2 ^ 20∧K (.v .none) (σ.set i (.list (xs++[x])))):=rfl
theorem lm_idx (σ:H) (a:A) (x:Int) (K):v0B σ a K .index [.v (.int x)]=(get (y0A σ a) fun xs=>xs.all isInt=true∧x∈xs.map t0A∧K (.v (.int ((xs.map t0A).idxOf x))) σ):=rfl
theorem lm_cnt (σ:H) (a:A) (x:Int) (K):v0B σ a K .count [.v (.int x)]=(get (y0A σ a) fun xs=>xs.all isInt=true∧K (.v (.int ((xs.map t0A).count x))) σ):=rfl
theorem lm_po (σ:H) (i:Nat) (k:Int) (K):v0B σ (.ref i) K .pop [.v (.int k)]=(get ((σ[i]?).bind oL) fun xs=>get (c9A k xs) fun r=>r.1.length<2 ^ 20∧K (.v r.2) (σ.set i (.list r.1))):=rfl
theorem lm_p0 (σ:H) (i:Nat) (K):v0B σ (.ref i) K .pop0 []=(([]:List A)=[]∧get ((σ[i]?).bind oL) fun xs=>get (c9A (-1) xs) fun r=>r.1.length<2 ^ 20∧K (.v r.2) (σ.set i (.list r.1))):=rfl
theorem st_r (σ:H) (i:Nat) (k:A) (y:V) (K):n7B σ (.ref i) k (.v y) K=(get ((σ[i]?).bind (putO k y)) fun o=>K (σ.set i o)):=rfl
theorem dp_r (σ:H) (i:Nat) (x:V) (K):p9A σ (.ref i) (.v x) K=(get ((σ[i]?).bind oB) fun kvs=>get (vK x) fun k=>kFit kvs k=true∧kInt k=false∧get (kget kvs k) fun y=>K (.v y) (σ.set i (.bag (kdel kvs k)))):=rfl
theorem fz_r (σ:H) (i:Nat) (K):i8A σ (.ref i) K=(get ((σ[i]?).bind frzO) fun x=>K (.v x) (σ.set i .dead)):=rfl
theorem fo_l (xs:List V):frzO (.list xs)=some (.list xs):=rfl
theorem fo_m (kvs:List (Ky×V)):frzO (.map kvs)=some (.dict (kvs.map (·.1)) (kvs.map (·.2))):=rfl
theorem bt1 (x:String) (a:V) (m:Loc):y5A (.one x) a m=some (st m x (.v a)):=rfl
theorem bt2 (x y:String) (a b:V) (m:Loc):y5A (.two x y) (.tup [a,b]) m=some (st (st m x (.v a)) y (.v b)):=rfl
theorem at_o (c:String) (fs:List V) (f:String):y9A (.v (.obj c fs)) f=g2A (h0A c) fs f:=rfl
theorem web0 (a b c:V):g2A (h0A "Web") [a,b,c] "many" = some a:=rfl
theorem web1 (a b c:V):g2A (h0A "Web") [a,b,c] "pairs" = some b:=rfl
theorem web2 (a b c:V):g2A (h0A "Web") [a,b,c] "rows" = some c:=rfl
theorem nt_t:(!true)=false:=rfl
theorem nt_f:(!false)=true:=rfl
theorem cn_t {α:Type} (x y:α):(bif true then x else y)=x:=rfl
theorem cn_f {α:Type} (x y:α):(bif false then x else y)=y:=rfl
end Fl
local macro_rules | `(tactic| kd_p)=>do
 let ids:=("Fl.gL_some Fl.lent_0 Fl.lent_1 Fl.lent_2 Fl.back_0 Fl.back_1 Fl.kN Fl.kR Fl.lpN Fl.lpR Fl.wlN Fl.wlR Fl.xSs_nil Fl.sq_next Fl.sq_ret Fl.rt_next Fl.rt_ret Fl.xS_asg Fl.xS_setA Fl.xS_setI Fl.xS_ex Fl.xS_ite Fl.xS_for Fl.xS_forEnum Fl.xS_forZip Fl.xS_whl Fl.xS_ret Fl.xS_frzx Fl.xS_raise Fl.xT_not Fl.xT_and Fl.xT_or Fl.xT_cmp Fl.xT_cmp2 Fl.xT_call Fl.xT_isi Fl.xE_c Fl.xE_x Fl.xE_g Fl.xE_bin Fl.xE_neg Fl.xE_not Fl.xE_and Fl.xE_or Fl.xE_cmp Fl.xE_ifx Fl.xE_tup Fl.xE_fz Fl.xE_mu Fl.xE_dict0 Fl.xE_fdict0 Fl.xE_item Fl.xE_attr Fl.xE_call Fl.xE_meth Fl.xE_new Fl.xE_isi Fl.xE_bi Fl.xE_lm Fl.xE_dpop Fl.xE_frz Fl.xEs_nil Fl.xEs_cons Fl.xL_disp Fl.xL_comp Fl.xL_copy Fl.xL_slice Fl.xL_sorted Fl.xL_concat Fl.xL_rev Fl.xL_sset Fl.xL_sortP Fl.xO_none Fl.xO_some Fl.xBs_one Fl.xBs_two Fl.xTs_nil Fl.xTs_cons Fl.get_some Fl.lk_1 Fl.st_1 Fl.lk_0 Fl.st_0 String.reduceBEq Fl.cn_t Fl.cn_f Fl.ite_t Fl.ite_f Fl.ite_0 Fl.ite_1 Fl.obind Fl.omap Fl.gE0 Fl.gE1 Fl.gE2 Fl.gE3 Fl.gE4 Fl.sE0 Fl.sE1 Fl.sE2 Fl.sE3 Fl.sE4 Fl.aH0 Fl.aH1 Fl.nH0 Fl.nH1 Fl.nH2 Fl.nH3 Fl.nH4 Fl.aL0 Fl.aL1 Fl.mL0 Fl.mL1 Fl.bindP_0 Fl.bindP_1 Fl.b_add Fl.b_sub Fl.b_mul Fl.b_fdiv Fl.b_mod Fl.it_l Fl.it_t Fl.it_d Fl.it_r Fl.ito_l Fl.ito_m Fl.it20 Fl.it21 Fl.it30 Fl.it31 Fl.it32 Fl.tVf Fl.itT0 Fl.itT1 Fl.lT2 Fl.jT Fl.sT Fl.uTm Fl.uTx Fl.inT Fl.fp1 Fl.fp2 Fl.fp3 Fl.q_lt Fl.q_gt Fl.q_le Fl.q_ge Fl.q_eq Fl.q_ne Fl.q_in Fl.q_ni Fl.q_is Fl.q_isn Fl.n_i Fl.n_n Fl.n_t Fl.n_l Fl.in_l Fl.in_t Fl.in_d Fl.in_r Fl.ino_l Fl.ino_m Fl.ino_b Fl.u_len Fl.l_l Fl.l_t Fl.l_r Fl.u_min Fl.u_max Fl.u_rng Fl.u_int Fl.s_l Fl.s_t Fl.s_g Fl.s_d Fl.s_r Fl.oa_l Fl.oa_m Fl.oL_l Fl.v_l Fl.v_r Fl.w_l Fl.w_g Fl.w_r Fl.z_l Fl.z_d Fl.z_r Fl.vo_v Fl.vo_r Fl.j_i Fl.j_b Fl.j_t Fl.j_l Fl.j_o Fl.il_r Fl.il_v Fl.so_s Fl.lm_app Fl.lm_idx Fl.lm_cnt Fl.lm_po Fl.lm_p0 Fl.st_r Fl.dp_r Fl.fz_r Fl.fo_l Fl.fo_m Fl.bt1 Fl.bt2 Fl.at_o Fl.web0 Fl.web1 Fl.web2 Fl.nt_t Fl.nt_f Fl.allV_0 Fl.allV_1 Fl.asV_v Fl.asI_int Fl.asO_obj Fl.asR_ref Fl.asN_inst Fl.asB_b Fl.oF_f".splitOn " ").toArray.map fun s=>Lean.mkIdent s.toName
 `(tactic| try dsimp only [$[$ids:term],*])
namespace Fl
open PySem (Str)
theorem fl {β γ:Type} {bd:γ→Loc→Option Loc} {fb:Loc→H→(Fw→Loc→H→Prop)→Prop} {t:H→Prop} {K:Fw→Loc→H→Prop} (f:β→γ) (P:List β→Loc→H→Prop)
  (hs:∀ x r m σ,P (x::r) m σ→∀ W:Loc→H→Prop,(∀ m σ,P r m σ→W m σ)→gL (bd (f x) m) fun m'=>fb m' σ (lpK t W K))
  (he:∀ m σ,P [] m σ→K .next m σ):∀ xs m σ,P xs m σ→forLoop bd fb t (xs.map f) m σ K
 | [],m,σ,h=>he m σ h
 | x::r,m,σ,h=>gL_get (hs x r m σ h (fun m σ=>forLoop bd fb t (r.map f) m σ K) (fun m σ h=>fl f P hs he r m σ h))
theorem wl {ft:Loc→H→(Bool→H→Prop)→Prop} {fb:Loc→H→(Fw→Loc→H→Prop)→Prop} {K:Fw→Loc→H→Prop} (I:Nat→Loc→H→Prop)
  (hs:∀ n m σ,I n m σ→∀ W:Loc→H→Prop,(∀ n' m σ,n'<n→I n' m σ→W m σ)→ft m σ (fun b σ'=>if b=true then fb m σ' (wlK W K) else K .next m σ')):∀ n m σ,I n m σ→∃ k,u1A ft fb K k m σ:=by
 have key:∀ k n m σ,n<k→I n m σ→u1A ft fb K k m σ:=by
  intro k
  induction k with
  | zero=>intro n m σ hn;exact absurd hn (z5Z _)
  | succ k ih=>
   intro n m σ hn h
   exact hs n m σ h (fun m σ=>u1A ft fb K k m σ) fun n' m σ hn' h'=>ih n' m σ (yQ hn' (rW hn)) h'
 intro n m σ h
 exact ⟨n+1,key _ n m σ (nZ n) h⟩
theorem fl1 {β γ a:Type} {bd:γ→Loc→Option Loc} {fb:Loc→H→(Fw→Loc→H→Prop)→Prop} {t:H→Prop} {K:Fw→Loc→H→Prop} (f:β→γ) (M:a→Loc) (G:a→H) (Q:List β→a→Prop)
  (hs:∀ x r x1,Q (x::r) x1→∀ W:Loc→H→Prop,(∀ x1,Q r x1→W (M x1) (G x1))→gL (bd (f x) (M x1)) fun m'=>fb m' (G x1) (lpK t W K))
  (he:∀ x1,Q [] x1→K .next (M x1) (G x1)) (xs:List β) (x1) (h:Q xs x1):forLoop bd fb t (xs.map f) (M x1) (G x1) K:=
 fl f (fun r m σ=>∃ x1,m=M x1∧σ=G x1∧Q r x1) (by rintro x r _ _ ⟨x1,rfl,rfl,h⟩ W hW;exact hs x r x1 h W fun x1 h=>hW _ _ ⟨x1,rfl,rfl,h⟩) (by rintro _ _ ⟨x1,rfl,rfl,h⟩;exact he x1 h) xs _ _ ⟨x1,rfl,rfl,h⟩
theorem fl2 {β γ a b:Type} {bd:γ→Loc→Option Loc} {fb:Loc→H→(Fw→Loc→H→Prop)→Prop} {t:H→Prop} {K:Fw→Loc→H→Prop} (f:β→γ) (M:a→b→Loc) (G:a→b→H) (Q:List β→a→b→Prop)
  (hs:∀ x r x1 x2,Q (x::r) x1 x2→∀ W:Loc→H→Prop,(∀ x1 x2,Q r x1 x2→W (M x1 x2) (G x1 x2))→gL (bd (f x) (M x1 x2)) fun m'=>fb m' (G x1 x2) (lpK t W K))
  (he:∀ x1 x2,Q [] x1 x2→K .next (M x1 x2) (G x1 x2)) (xs:List β) (x1 x2) (h:Q xs x1 x2):forLoop bd fb t (xs.map f) (M x1 x2) (G x1 x2) K:=
 fl f (fun r m σ=>∃ x1,∃ x2,m=M x1 x2∧σ=G x1 x2∧Q r x1 x2) (by rintro x r _ _ ⟨x1,x2,rfl,rfl,h⟩ W hW;exact hs x r x1 x2 h W fun x1 x2 h=>hW _ _ ⟨x1,x2,rfl,rfl,h⟩) (by rintro _ _ ⟨x1,x2,rfl,rfl,h⟩;exact he x1 x2 h) xs _ _ ⟨x1,x2,rfl,rfl,h⟩
theorem fl3 {β γ a b c:Type} {bd:γ→Loc→Option Loc} {fb:Loc→H→(Fw→Loc→H→Prop)→Prop} {t:H→Prop} {K:Fw→Loc→H→Prop} (f:β→γ) (M:a→b→c→Loc) (G:a→b→c→H) (Q:List β→a→b→c→Prop)
  (hs:∀ x r x1 x2 x3,Q (x::r) x1 x2 x3→∀ W:Loc→H→Prop,(∀ x1 x2 x3,Q r x1 x2 x3→W (M x1 x2 x3) (G x1 x2 x3))→gL (bd (f x) (M x1 x2 x3)) fun m'=>fb m' (G x1 x2 x3) (lpK t W K))
  (he:∀ x1 x2 x3,Q [] x1 x2 x3→K .next (M x1 x2 x3) (G x1 x2 x3)) (xs:List β) (x1 x2 x3) (h:Q xs x1 x2 x3):forLoop bd fb t (xs.map f) (M x1 x2 x3) (G x1 x2 x3) K:=
 fl f (fun r m σ=>∃ x1,∃ x2,∃ x3,m=M x1 x2 x3∧σ=G x1 x2 x3∧Q r x1 x2 x3) (by rintro x r _ _ ⟨x1,x2,x3,rfl,rfl,h⟩ W hW;exact hs x r x1 x2 x3 h W fun x1 x2 x3 h=>hW _ _ ⟨x1,x2,x3,rfl,rfl,h⟩) (by rintro _ _ ⟨x1,x2,x3,rfl,rfl,h⟩;exact he x1 x2 x3 h) xs _ _ ⟨x1,x2,x3,rfl,rfl,h⟩
theorem fl4 {β γ a b c d:Type} {bd:γ→Loc→Option Loc} {fb:Loc→H→(Fw→Loc→H→Prop)→Prop} {t:H→Prop} {K:Fw→Loc→H→Prop} (f:β→γ) (M:a→b→c→d→Loc) (G:a→b→c→d→H) (Q:List β→a→b→c→d→Prop)
  (hs:∀ x r x1 x2 x3 x4,Q (x::r) x1 x2 x3 x4→∀ W:Loc→H→Prop,(∀ x1 x2 x3 x4,Q r x1 x2 x3 x4→W (M x1 x2 x3 x4) (G x1 x2 x3 x4))→gL (bd (f x) (M x1 x2 x3 x4)) fun m'=>fb m' (G x1 x2 x3 x4) (lpK t W K))
  (he:∀ x1 x2 x3 x4,Q [] x1 x2 x3 x4→K .next (M x1 x2 x3 x4) (G x1 x2 x3 x4)) (xs:List β) (x1 x2 x3 x4) (h:Q xs x1 x2 x3 x4):forLoop bd fb t (xs.map f) (M x1 x2 x3 x4) (G x1 x2 x3 x4) K:=
 fl f (fun r m σ=>∃ x1,∃ x2,∃ x3,∃ x4,m=M x1 x2 x3 x4∧σ=G x1 x2 x3 x4∧Q r x1 x2 x3 x4) (by rintro x r _ _ ⟨x1,x2,x3,x4,rfl,rfl,h⟩ W hW;exact hs x r x1 x2 x3 x4 h W fun x1 x2 x3 x4 h=>hW _ _ ⟨x1,x2,x3,x4,rfl,rfl,h⟩) (by rintro _ _ ⟨x1,x2,x3,x4,rfl,rfl,h⟩;exact he x1 x2 x3 x4 h) xs _ _ ⟨x1,x2,x3,x4,rfl,rfl,h⟩
theorem fl5 {β γ a b c d e:Type} {bd:γ→Loc→Option Loc} {fb:Loc→H→(Fw→Loc→H→Prop)→Prop} {t:H→Prop} {K:Fw→Loc→H→Prop} (f:β→γ) (M:a→b→c→d→e→Loc) (G:a→b→c→d→e→H) (Q:List β→a→b→c→d→e→Prop)
  (hs:∀ x r x1 x2 x3 x4 x5,Q (x::r) x1 x2 x3 x4 x5→∀ W:Loc→H→Prop,(∀ x1 x2 x3 x4 x5,Q r x1 x2 x3 x4 x5→W (M x1 x2 x3 x4 x5) (G x1 x2 x3 x4 x5))→gL (bd (f x) (M x1 x2 x3 x4 x5)) fun m'=>fb m' (G x1 x2 x3 x4 x5) (lpK t W K))
  (he:∀ x1 x2 x3 x4 x5,Q [] x1 x2 x3 x4 x5→K .next (M x1 x2 x3 x4 x5) (G x1 x2 x3 x4 x5)) (xs:List β) (x1 x2 x3 x4 x5) (h:Q xs x1 x2 x3 x4 x5):forLoop bd fb t (xs.map f) (M x1 x2 x3 x4 x5) (G x1 x2 x3 x4 x5) K:=
 fl f (fun r m σ=>∃ x1,∃ x2,∃ x3,∃ x4,∃ x5,m=M x1 x2 x3 x4 x5∧σ=G x1 x2 x3 x4 x5∧Q r x1 x2 x3 x4 x5) (by rintro x r _ _ ⟨x1,x2,x3,x4,x5,rfl,rfl,h⟩ W hW;exact hs x r x1 x2 x3 x4 x5 h W fun x1 x2 x3 x4 x5 h=>hW _ _ ⟨x1,x2,x3,x4,x5,rfl,rfl,h⟩) (by rintro _ _ ⟨x1,x2,x3,x4,x5,rfl,rfl,h⟩;exact he x1 x2 x3 x4 x5 h) xs _ _ ⟨x1,x2,x3,x4,x5,rfl,rfl,h⟩
theorem wl2 {a b:Type} {ft:Loc→H→(Bool→H→Prop)→Prop} {fb:Loc→H→(Fw→Loc→H→Prop)→Prop} {K:Fw→Loc→H→Prop} (M:a→b→Loc) (G:a→b→H) (Q:Nat→a→b→Prop)
  (hs:∀ n x1 x2,Q n x1 x2→∀ W:Loc→H→Prop,(∀ n' x1 x2,n'<n→Q n' x1 x2→W (M x1 x2) (G x1 x2))→ft (M x1 x2) (G x1 x2) (fun b σ'=>if b=true then fb (M x1 x2) σ' (wlK W K) else K .next (M x1 x2) σ'))
  (n:Nat) (x1 x2) (h:Q n x1 x2):∃ k,u1A ft fb K k (M x1 x2) (G x1 x2):=
 wl (fun n m σ=>∃ x1,∃ x2,m=M x1 x2∧σ=G x1 x2∧Q n x1 x2) (by rintro n _ _ ⟨x1,x2,rfl,rfl,h⟩ W hW;exact hs n x1 x2 h W fun n' x1 x2 hn h=>hW n' _ _ hn ⟨x1,x2,rfl,rfl,h⟩) n _ _ ⟨x1,x2,rfl,rfl,h⟩
theorem wl3 {a b c:Type} {ft:Loc→H→(Bool→H→Prop)→Prop} {fb:Loc→H→(Fw→Loc→H→Prop)→Prop} {K:Fw→Loc→H→Prop} (M:a→b→c→Loc) (G:a→b→c→H) (Q:Nat→a→b→c→Prop)
  (hs:∀ n x1 x2 x3,Q n x1 x2 x3→∀ W:Loc→H→Prop,(∀ n' x1 x2 x3,n'<n→Q n' x1 x2 x3→W (M x1 x2 x3) (G x1 x2 x3))→ft (M x1 x2 x3) (G x1 x2 x3) (fun b σ'=>if b=true then fb (M x1 x2 x3) σ' (wlK W K) else K .next (M x1 x2 x3) σ'))
  (n:Nat) (x1 x2 x3) (h:Q n x1 x2 x3):∃ k,u1A ft fb K k (M x1 x2 x3) (G x1 x2 x3):=
 wl (fun n m σ=>∃ x1,∃ x2,∃ x3,m=M x1 x2 x3∧σ=G x1 x2 x3∧Q n x1 x2 x3) (by rintro n _ _ ⟨x1,x2,x3,rfl,rfl,h⟩ W hW;exact hs n x1 x2 x3 h W fun n' x1 x2 x3 hn h=>hW n' _ _ hn ⟨x1,x2,x3,rfl,rfl,h⟩) n _ _ ⟨x1,x2,x3,rfl,rfl,h⟩
theorem wl5 {a b c d e:Type} {ft:Loc→H→(Bool→H→Prop)→Prop} {fb:Loc→H→(Fw→Loc→H→Prop)→Prop} {K:Fw→Loc→H→Prop} (M:a→b→c→d→e→Loc) (G:a→b→c→d→e→H) (Q:Nat→a→b→c→d→e→Prop)
  (hs:∀ n x1 x2 x3 x4 x5,Q n x1 x2 x3 x4 x5→∀ W:Loc→H→Prop,(∀ n' x1 x2 x3 x4 x5,n'<n→Q n' x1 x2 x3 x4 x5→W (M x1 x2 x3 x4 x5) (G x1 x2 x3 x4 x5))→ft (M x1 x2 x3 x4 x5) (G x1 x2 x3 x4 x5) (fun b σ'=>if b=true then fb (M x1 x2 x3 x4 x5) σ' (wlK W K) else K .next (M x1 x2 x3 x4 x5) σ'))
  (n:Nat) (x1 x2 x3 x4 x5) (h:Q n x1 x2 x3 x4 x5):∃ k,u1A ft fb K k (M x1 x2 x3 x4 x5) (G x1 x2 x3 x4 x5):=
 wl (fun n m σ=>∃ x1,∃ x2,∃ x3,∃ x4,∃ x5,m=M x1 x2 x3 x4 x5∧σ=G x1 x2 x3 x4 x5∧Q n x1 x2 x3 x4 x5) (by rintro n _ _ ⟨x1,x2,x3,x4,x5,rfl,rfl,h⟩ W hW;exact hs n x1 x2 x3 x4 x5 h W fun n' x1 x2 x3 x4 x5 hn h=>hW n' _ _ hn ⟨x1,x2,x3,x4,x5,rfl,rfl,h⟩) n _ _ ⟨x1,x2,x3,x4,x5,rfl,rfl,h⟩
theorem wl6 {a b c d e f:Type} {ft:Loc→H→(Bool→H→Prop)→Prop} {fb:Loc→H→(Fw→Loc→H→Prop)→Prop} {K:Fw→Loc→H→Prop} (M:a→b→c→d→e→f→Loc) (G:a→b→c→d→e→f→H) (Q:Nat→a→b→c→d→e→f→Prop)
  (hs:∀ n x1 x2 x3 x4 x5 x6,Q n x1 x2 x3 x4 x5 x6→∀ W:Loc→H→Prop,(∀ n' x1 x2 x3 x4 x5 x6,n'<n→Q n' x1 x2 x3 x4 x5 x6→W (M x1 x2 x3 x4 x5 x6) (G x1 x2 x3 x4 x5 x6))→ft (M x1 x2 x3 x4 x5 x6) (G x1 x2 x3 x4 x5 x6) (fun b σ'=>if b=true then fb (M x1 x2 x3 x4 x5 x6) σ' (wlK W K) else K .next (M x1 x2 x3 x4 x5 x6) σ'))
  (n:Nat) (x1 x2 x3 x4 x5 x6) (h:Q n x1 x2 x3 x4 x5 x6):∃ k,u1A ft fb K k (M x1 x2 x3 x4 x5 x6) (G x1 x2 x3 x4 x5 x6):=
 wl (fun n m σ=>∃ x1,∃ x2,∃ x3,∃ x4,∃ x5,∃ x6,m=M x1 x2 x3 x4 x5 x6∧σ=G x1 x2 x3 x4 x5 x6∧Q n x1 x2 x3 x4 x5 x6) (by rintro n _ _ ⟨x1,x2,x3,x4,x5,x6,rfl,rfl,h⟩ W hW;exact hs n x1 x2 x3 x4 x5 x6 h W fun n' x1 x2 x3 x4 x5 x6 hn h=>hW n' _ _ hn ⟨x1,x2,x3,x4,x5,x6,rfl,rfl,h⟩) n _ _ ⟨x1,x2,x3,x4,x5,x6,rfl,rfl,h⟩
theorem cp {β:Type} {ft:Loc→H→(Bool→H→Prop)→Prop} {fe:Loc→H→(A→H→Prop)→Prop} {t:Tgt} {src:A} {m:Loc} {σ:H} {K:List V→H→Prop} (f:β→V) (p:β→Bool) (g:β→V) (xs:List β)
  (hs:∀ x∈xs,get (y5A t (f x) m) fun m'=>(∀ K:Bool→H→Prop,K (p x) σ→ft m' σ K)∧(p x=true→∀ K:A→H→Prop,K (.v (g x)) σ→fe m' σ K)) (h:K ((xs.filter p).map g) σ):compLoop ft fe t src (objA σ src) m (xs.map f) σ [] K:=by
 suffices key:∀ (xs:List β) acc,(∀ x∈xs,get (y5A t (f x) m) fun m'=>(∀ K:Bool→H→Prop,K (p x) σ→ft m' σ K)∧(p x=true→∀ K:A→H→Prop,K (.v (g x)) σ→fe m' σ K))→K (acc++(xs.filter p).map g) σ→compLoop ft fe t src (objA σ src) m (xs.map f) σ acc K from key xs [] hs h
 intro xs
 induction xs with
 | nil=>intro acc _ h;rw [List.filter_nil,List.map_nil,z1Q] at h;exact h
 | cons x xs ih=>
  intro acc hs h
  have h1:=hs x aQ
  refine getE h1 fun m' hm h1=>?_
  rw [z6Q,l5A,hm]
  refine h1.1 _ ?_
  cases hp:p x with
  | true=>
   rw [ite_t]
   rw [List.filter_cons,if_pos hp,z6Q,List.append_cons] at h
   exact h1.2 hp _ ⟨rfl,ih _ (fun y hy=>hs y (bQ _ hy)) h⟩
  | false=>
   rw [ite_f]
   rw [List.filter_cons,if_neg (by rw [hp];exact mZ)] at h
   exact ⟨rfl,ih _ (fun y hy=>hs y (bQ _ hy)) h⟩
theorem br {b:Bool} {A B:Prop} (h1:b=true→A) (h2:b=false→B):if b=true then A else B:=by
 cases b
 ·exact h2 rfl
 ·exact h1 rfl
theorem br0 {b:Bool} {A B:Prop} (h1:b=false→A) (h2:b=true→B):if b=false then A else B:=by
 cases b
 ·exact h1 rfl
 ·exact h2 rfl
theorem brT {b:Bool} {A B:Prop} (h:b=true) (a:A):if b=true then A else B:=by rw [if_pos h];exact a
theorem brF {b:Bool} {A B:Prop} (h:b=false) (a:B):if b=true then A else B:=by rw [h];exact a
theorem br0F {b:Bool} {A B:Prop} (h:b=false) (a:A):if b=false then A else B:=by rw [if_pos h];exact a
theorem gx {α:Type} {o:Option α} {a:α} {k:α→Prop} (h:o=some a) (h':k a):get o k:=by rw [h];exact h'
theorem nt {b:Bool} (h:b=false):(!b)=true:=by rw [h];rfl
theorem nf {b:Bool} (h:b=true):(!b)=false:=by rw [h];rfl
theorem nfi {b:Bool} (h:(!b)=false):b=true:=by
 cases b
 ·cases h
 ·rfl
theorem nti {b:Bool} (h:(!b)=true):b=false:=by
 cases b
 ·rfl
 ·cases h
theorem fnA {C:a0A} (hC:d1A C tab) (n:Nat) {f:String} {d:Fn} {as σ K} (hn:tab[n]?=some (f,d)) (hl:as.length=d.ps.length) (h:xSs C d.body ((d.ls.map fun x=>(x,Option.none))++w9A d.ps as) σ (retF K)):C f as σ K:=
 hC f d (wQ hn) as σ K ⟨hl,h⟩
theorem sm_map {α β:Type} {f:α→β} {xs:List α} (h:small xs):small (xs.map f):=by unfold small;rw [eQ];exact h
theorem f7B:1000<2 ^ 20:=by decide
theorem f1A {α:Type} {k:Nat} {xs:List α} (h:xs.length≤k) (d:Nat.ble k 1000=true):small xs:=vQ (dQ h (Nat.le_of_ble_eq_true d)) f7B
theorem sm_m {α β:Type} {f:α→β} {k:Nat} {xs:List α} (h:xs.length≤k) (d:Nat.ble k 1000=true):small (xs.map f):=sm_map (f1A h d)
theorem ap_m {α β:Type} {f:α→β} {k:Nat} {xs:List α} {y:β} (h:xs.length≤k) (d:Nat.ble k 999=true):(xs.map f++[y]).length<2 ^ 20:=by
 rw [fQ,eQ]
 exact vQ (tQ (dQ h (Nat.le_of_ble_eq_true d))) (by decide)
theorem ap1 {α β:Type} {f:α→β} {xs:List α} {y:α}:xs.map f++[f y]=(xs++[y]).map f:=by rw [z0Q];rfl
theorem v4B (i:Int):eqOk (.int i)=true:=rfl
theorem o9A (p:Int×Int):eqOk (tV p)=true:=rfl
theorem all_map {α:Type} {f:α→V} {p:V→Bool} (h:∀ x,p (f x)=true) (l:List α):(l.map f).all p=true:=by
 rw [List.all_map,z2Q];intro x _;exact h x
theorem d8B (p q:Int×Int):peq (tV p) (tV q)=decide (p=q):=by
 obtain ⟨a,b⟩:=p;obtain ⟨c,d⟩:=q
 show (decide (a=c) && (decide (b=d) && true))=_
 rw [Bool.and_true,← Bool.decide_and]
 exact decide_eq_decide.mpr (by rw [Prod.mk.injEq])
theorem f1C {α:Type} [DecidableEq α] {f:α→V} (hf:∀ x y,peq (f x) (f y)=decide (x=y)) (l:List α) (x:α):((l.map f).any fun k=>peq k (f x))=decide (x∈l):=by
 induction l with
 | nil=>rfl
 | cons y l ih=>
  rw [z6Q,List.any_cons,ih,hf]
  by_cases h:y=x
  ·rw [decide_eq_true h,Bool.true_or,decide_eq_true (by rw [h];exact aQ)]
  ·rw [decide_eq_false h,Bool.false_or]
   exact decide_eq_decide.mpr ⟨bQ _,fun hm=>(lQ.mp hm).resolve_left fun e=>h e.symm⟩
theorem inLi (x:Int) (l:List Int):inL (.int x) (l.map V.int)=some (decide (x∈l)):=by
 unfold inL
 rw [if_pos (by rw [v4B,all_map v4B];rfl),f1C peq_ii]
theorem inLt (x:Int×Int) (l:List (Int×Int)):inL (tV x) (l.map tV)=some (decide (x∈l)):=by
 unfold inL
 rw [if_pos (by rw [o9A,all_map o9A];rfl),f1C d8B]
 exact congrArg some (decide_eq_decide.mpr Iff.rfl)
end Fl
namespace Fl
open PySem (Str)
noncomputable def ile (a b:Int):Bool:=vle (.int a) (.int b)
noncomputable def srt (l:List Int):List Int:=l.mergeSort ile
noncomputable def tle (a b:Int×Int):Bool:=vle (tV a) (tV b)
noncomputable def srtT (l:List (Int×Int)):List (Int×Int):=l.mergeSort tle
theorem vs_i (l:List Int):a2A (l.map V.int)=(srt l).map V.int:=(List.map_mergeSort (r:=ile) (s:=vle) (f:=V.int) (fun _ _ _ _=>rfl)).symm
theorem vs_t (l:List (Int×Int)):a2A (l.map tV)=(srtT l).map tV:=(List.map_mergeSort (r:=tle) (s:=vle) (f:=tV) (fun _ _ _ _=>rfl)).symm
theorem v3A (l:List Int):(srt l).Perm l:=List.mergeSort_perm _ _
theorem l1A (l:List (Int×Int)):(srtT l).Perm l:=List.mergeSort_perm _ _
theorem h5A {a b:Int}:ile a b=true↔a≤b:=by
 unfold ile vle
 rw [t2A,z8W,decide_eq_false_iff_not,kZ]
theorem srt_le (l:List Int):(srt l).Pairwise (·≤·):=
 (List.pairwise_mergeSort (le:=ile) (fun a b c h1 h2=>h5A.mpr (rK (h5A.mp h1) (h5A.mp h2))) (fun a b=>by
  rw [Bool.or_eq_true,h5A,h5A];exact Int.le_total a b) l).imp fun h=>h5A.mp h
theorem a7B {l l':List Int} (h:l.Perm l'):srt l=srt l':=
 List.Perm.eq_of_pairwise (le:=(·≤·)) (fun a b _ _ h1 h2=>Int.le_antisymm h1 h2) (srt_le l) (srt_le l') ((v3A l).trans (h.trans (v3A l').symm))
theorem srt_srt (l:List Int):srt (srt l)=srt l:=a7B (v3A l)
theorem d2A {l:List Int} {x:Int}:x∈srt l↔x∈l:=(v3A l).mem_iff
theorem e2A (l:List Int):(srt l).length=l.length:=(v3A l).length_eq
theorem s7A {l:List Int} (h:l.Nodup):(srt l).Nodup:=(v3A l).nodup_iff.mpr h
theorem so_i (l:List Int):j0A (l.map V.int)=true:=by
 unfold j0A
 rw [all_map (p:=isInt) (fun _=>rfl)];rfl
theorem so_t (l:List (Int×Int)):j0A (l.map tV)=true:=by
 unfold j0A
 rw [all_map (p:=fun v=>c6A v && !(g0B v).isEmpty) (fun _=>rfl),Bool.or_true]
noncomputable def rI (n:Int):List Int:=(List.range n.toNat).map fun (k:Nat)=>(k:Int)
theorem g3A (n:Int):rngL 0 n=(rI n).map V.int:=by
 unfold rngL rI
 rw [fZ,Int.sub_zero]
 exact z4K fun k _=>congrArg V.int (Int.zero_add _)
theorem c4A (n:Int):(rI n).length=n.toNat:=by unfold rI;rw [eQ,mK]
theorem r0A {n i:Int}:i∈rI n↔0≤i∧i<n:=by
 unfold rI
 rw [qQ]
 constructor
 ·rintro ⟨k,hk,rfl⟩
  have:=lK.mp hk
  exact ⟨qW _,Int.lt_toNat.mp (lK.mp hk)⟩
 ·rintro ⟨h0,h1⟩
  exact ⟨i.toNat,lK.mpr (Int.lt_toNat.mpr (by rw [nW h0];exact h1)),nW h0⟩
theorem rI_nd (n:Int):(rI n).Nodup:=by
 unfold rI List.Nodup
 rw [z2Z]
 exact List.nodup_range.imp fun h e=>h (Int.ofNat.inj e)
theorem p9B {n:Nat} {i:Int} (h0:0≤i) (h1:i<n):idx n i=some i.toNat:=by
 unfold idx;rw [if_pos h0,if_pos h1]
theorem idx_ng {n:Nat} {i:Int} (h0:i<0) (h1:0≤i+n):idx n i=some (i+n).toNat:=by
 unfold idx;rw [if_neg (Int.not_le.mpr h0),if_pos h1]
theorem itL {xs:List V} {i:Int} {x:V} (h0:0≤i) (h:xs[i.toNat]?=some x):x1A xs (.v (.int i))=some x:=by
 have hl:i.toNat<xs.length:=(jQ.mp h).1
 show (idx xs.length i).bind _=_
 rw [p9B h0 (by lia)];exact h
theorem itR {f:Int→V} {n i:Int} (h0:0≤i) (h1:i<n):x1A ((rI n).map f) (.v (.int i))=some (f i):=by
 refine itL h0 ?_
 rw [oQ]
 unfold rI
 rw [oQ,List.getElem?_range (by lia)]
 exact congrArg (fun x=>some (f x)) (nW h0)
theorem t4B {α β:Type} (f:α→β):∀ (l:List α) (j:Nat),(l.map f).eraseIdx j=(l.eraseIdx j).map f
 | [],_=>rfl
 | _::_,0=>rfl
 | x::l,j+1=>congrArg (f x::·) (t4B f l j)
theorem nd1 {α:Type} (x:α):[x].Nodup:=by rw [rQ];exact ⟨fun h=>(nomatch h),tW⟩
noncomputable def kys (kvs:List (Ky×V)):List Ky:=kvs.map (·.1)
noncomputable abbrev dv (kvs:List (Ky×V)):V:=.dict (kvs.map (·.1)) (kvs.map (·.2))
theorem p7A:∀ kvs:List (Ky×V),(kvs.map (·.1)).zip (kvs.map (·.2))=kvs
 | []=>rfl
 | q::r=>congrArg (q::·) (p7A r)
noncomputable def kp (p:Int×Int):Ky:=.p p.1 p.2
structure KF {α:Type} (kf:α→Ky):Prop where
 inj:∀ {a b},kf a=kf b→a=b
 knd:∀ a b,kInt (kf a)=kInt (kf b)
noncomputable def kyA:Ky→Int×Int
 | .i n=>(n,0)
 | .p a b=>(a,b)
theorem kfI:KF Ky.i:=⟨fun e=>congrArg (fun k=>(kyA k).1) e,fun _ _=>rfl⟩
theorem kfP:KF kp:=⟨fun e=>congrArg kyA e,fun _ _=>rfl⟩
noncomputable def ins {α:Type} [DecidableEq α] (D:List α) (x:α):List α:=if x∈D then D else D++[x]
theorem o0A {α:Type} [DecidableEq α] {D:List α} {x y:α}:y∈ins D x↔y∈D∨y=x:=by
 unfold ins
 by_cases h:x∈D
 ·rw [if_pos h];exact ⟨.inl,fun q=>q.elim id fun e=>e ▸ h⟩
 ·rw [if_neg h,iQ,cQ]
theorem b1B {α:Type} [DecidableEq α] {D:List α} {x:α} (h:D.Nodup):(ins D x).Nodup:=by
 unfold ins
 by_cases hx:x∈D
 ·rw [if_pos hx];exact h
 ·rw [if_neg hx]
  exact z3Q.mpr ⟨h,nd1 x,fun a ha b hb e=>hx (by rw [← cQ.mp hb,← e];exact ha)⟩
theorem k9A {α:Type} [DecidableEq α] (D:List α) (x:α):(ins D x).length≤D.length+1:=by
 unfold ins
 by_cases hx:x∈D
 ·rw [if_pos hx];exact Nat.le_succ _
 ·rw [if_neg hx,fQ];exact uQ _
theorem m1A {α:Type} [DecidableEq α] {D:List α} {x:α} (h:x∉D):ins D x=D++[x]:=if_neg h
theorem ins_old {α:Type} [DecidableEq α] {D:List α} {x:α} (h:x∈D):ins D x=D:=if_pos h
structure Dm {α:Type} (kf:α→Ky) (kvs:List (Ky×V)) (D:List α) (f:α→V):Prop where
 ks:kys kvs=D.map kf
 nd:D.Nodup
 to:∀ x∈D,kget kvs (kf x)=some (f x)
section
variable {α:Type} [DecidableEq α] {kf:α→Ky} {kvs:List (Ky×V)} {D:List α} {f:α→V}
theorem Dm.nil:Dm kf [] [] f:=⟨rfl,tW,fun _ h=>nomatch h⟩
theorem Dm.fit (H:Dm kf kvs D f) (F:KF kf) (x:α):kFit kvs (kf x)=true:=by
 unfold kFit
 rw [z2Q]
 intro q hq
 have:q.1∈D.map kf:=H.ks ▸ zW hq
 obtain ⟨y,_,e⟩:=qQ.mp this
 rw [← e,F.knd y x,beq_self_eq_true]
theorem Dm.len (H:Dm kf kvs D f):kvs.length=D.length:=by
 have:=congrArg List.length H.ks
 rw [kys,eQ,eQ] at this
 exact this
theorem kxs {k:Ky} (h:k∈kys kvs):∃ j,kix kvs k=some j∧∃ v,kvs[j]?=some (k,v):=by
 cases hj:kix kvs k with
 | none=>
  unfold kix at hj
  rw [gK] at hj
  obtain ⟨q,hq,rfl⟩:=qQ.mp h
  exact absurd (hj q hq) (by rw [decide_eq_true rfl];exact Bool.noConfusion)
 | some j=>
  unfold kix at hj
  obtain ⟨hl,hp,_⟩:=List.findIdx?_eq_some_iff_getElem.mp hj
  have:=of_decide_eq_true hp
  exact ⟨j,rfl,kvs[j].2,by rw [nQ hl,← this]⟩
theorem kxn {k:Ky} (h:k∉kys kvs):kix kvs k=none:=by
 unfold kix
 rw [gK]
 exact fun q hq=>decide_eq_false fun e=>h (e ▸ zW hq)
theorem Dm.key (H:Dm kf kvs D f) (F:KF kf) {x:α}:kf x∈kys kvs↔x∈D:=by
 rw [H.ks,qQ]
 exact ⟨fun ⟨y,hy,e⟩=>F.inj e ▸ hy,fun h=>⟨x,h,rfl⟩⟩
theorem Dm.has (H:Dm kf kvs D f) (F:KF kf) (x:α):(kix kvs (kf x)).isSome=decide (x∈D):=by
 by_cases h:x∈D
 ·refine bc fun zZ=>?_
  obtain ⟨j,hj,_⟩:=kxs ((H.key F).mpr h)
  refine zZ ?_;clear zZ
  rw [hj,decide_eq_true h];rfl
 ·rw [kxn fun q=>h ((H.key F).mp q),decide_eq_false h];rfl
theorem Dm.inM (H:Dm kf kvs D f) (F:KF kf) (x:α):inM (kf x).toV kvs=some (decide (x∈D)):=by
 unfold Fl.inM
 rw [f3B,obind,if_pos (H.fit F x),H.has F]
theorem Dm.get (H:Dm kf kvs D f) (F:KF kf) {x:α} (h:x∈D):j9A kvs (.v (kf x).toV)=some (f x):=by
 unfold j9A
 rw [asV_v,obind,f3B,obind,if_pos (H.fit F x),H.to x h]
theorem i9A {k:Ky} {v:V} {j:Nat} (hj:kix kvs k=some j) (hv:kvs[j]?=some (k,v)):kget kvs k=some v:=by
 unfold kget;rw [hj,obind,hv];rfl
theorem y8B:∀ {kvs:List (Ky×V)} {k:Ky} {j:Nat},(kys kvs).Nodup→(kys kvs)[j]?=some k→kix kvs k=some j:=by
 intro kvs k j hn hj
 have hm:k∈kys kvs:=wQ hj
 obtain ⟨i,hi,v,hv⟩:=kxs hm
 rw [hi]
 have hi':(kys kvs)[i]?=some k:=by rw [kys,oQ,hv];rfl
 have l1:=(jQ.mp hi').1
 exact congrArg some ((z9Z l1 hn).mp (hi'.trans hj.symm))
theorem ks_nd (H:Dm kf kvs D f) (F:KF kf):(kys kvs).Nodup:=by
 rw [H.ks]
 unfold List.Nodup
 rw [z2Z]
 exact H.nd.imp fun h e=>h (F.inj e)
theorem n2B (k:Ky) (y:V):kys (kput kvs k y)=if k∈kys kvs then kys kvs else kys kvs++[k]:=by
 unfold kput
 by_cases h:k∈kys kvs
 ·refine bc fun zZ=>?_
  obtain ⟨j,hj,v,hv⟩:=kxs h
  refine zZ ?_;clear zZ
  rw [hj,if_pos h]
  show kys (kvs.set j (k,y))=_
  unfold kys
  rw [List.map_set]
  refine List.ext_getElem? fun i=>?_
  rw [List.getElem?_set]
  by_cases e:j=i
  ·subst e
   have hl:=(jQ.mp hv).1
   rw [if_pos rfl,if_pos (by rw [eQ];exact hl),oQ,hv];rfl
  ·rw [if_neg e]
 ·rw [kxn h,if_neg h]
  show kys (kvs++[(k,y)])=_
  unfold kys
  rw [z0Q];rfl
theorem kput_get (hn:(kys kvs).Nodup) (k k':Ky) (y:V):kget (kput kvs k y) k'=if k'=k then some y else kget kvs k':=by
 have hn':(kys (kput kvs k y)).Nodup:=by
  rw [n2B]
  by_cases h:k∈kys kvs
  ·rw [if_pos h];exact hn
  ·rw [if_neg h]
   exact z3Q.mpr ⟨hn,nd1 k,fun a ha b hb e=>h (by rw [← cQ.mp hb,← e];exact ha)⟩
 have one:∀ {q:List (Ky×V)} {i:Nat} {a:Ky} {v:V},(kys q).Nodup→q[i]?=some (a,v)→kget q a=some v:=fun hn h=>i9A (y8B hn (by rw [kys,oQ,h];rfl)) h
 by_cases e:k'=k
 ·subst e
  rw [if_pos rfl]
  unfold kput at hn' ⊢
  by_cases h:k'∈kys kvs
  ·refine bc fun zZ=>?_
   obtain ⟨j,hj,v,hv⟩:=kxs h
   refine zZ ?_;clear zZ
   rw [hj] at hn' ⊢
   exact one hn' (bJ (jQ.mp hv).1)
  ·rw [kxn h] at hn' ⊢
   exact one hn' vW
 ·rw [if_neg e]
  by_cases h:k'∈kys kvs
  ·refine bc fun zZ=>?_
   obtain ⟨i,hi,v,hv⟩:=kxs h
   refine zZ ?_;clear zZ
   rw [i9A hi hv]
   unfold kput at hn' ⊢
   by_cases hk:k∈kys kvs
   ·refine bc fun zZ=>?_
    obtain ⟨j,hj,w,hw⟩:=kxs hk
    refine zZ ?_;clear zZ
    rw [hj] at hn' ⊢
    have hne:j≠i:=fun q=>by subst q;rw [hw] at hv;exact e (congrArg Prod.fst (pQ hv)).symm
    exact one hn' (by rw [List.getElem?_set_ne hne];exact hv)
   ·rw [kxn hk] at hn' ⊢
    exact one hn' (by rw [cZ (jQ.mp hv).1];exact hv)
  ·have h1:kix kvs k'=none:=kxn h
   have h2:kix (kput kvs k y) k'=none:=kxn fun q=>by
    rw [n2B] at q
    by_cases hk:k∈kys kvs
    ·rw [if_pos hk] at q;exact h q
    ·rw [if_neg hk,iQ,cQ] at q
     exact q.elim h e
   unfold kget
   rw [h1,h2];rfl
theorem Dm.put (H:Dm kf kvs D f) (F:KF kf) (x:α) (y:V):Dm kf (kput kvs (kf x) y) (ins D x) (fun z=>if z=x then y else f z):=by
 refine ⟨?_,b1B H.nd,fun z hz=>?_⟩
 ·rw [n2B,H.ks]
  unfold ins
  by_cases h:x∈D
  ·rw [if_pos h,if_pos (zW h)]
  ·rw [if_neg h,if_neg fun q=>by obtain ⟨y,hy,e⟩:=qQ.mp q;exact h (F.inj e ▸ hy),z0Q];rfl
 ·rw [kput_get (ks_nd H F)]
  by_cases e:z=x
  ·rw [if_pos e,if_pos (congrArg kf e)]
  ·rw [if_neg e,if_neg fun q=>e (F.inj q)]
   exact H.to z ((o0A.mp hz).resolve_right e)
theorem Dm.of (H:Dm kf kvs D f) {g:α→V} (h:∀ x∈D,g x=f x):Dm kf kvs D g:=⟨H.ks,H.nd,fun x hx=>by rw [h x hx];exact H.to x hx⟩
theorem Dm.putO (H:Dm kf kvs D f) (F:KF kf) (x:α) (y:V) (hl:D.length≤1000):Fl.putO (.v (kf x).toV) y (.map kvs)=some (.map (kput kvs (kf x) y)):=by
 show ((asV (.v (kf x).toV)).bind vK).bind _=_
 rw [asV_v,obind,f3B,obind,if_pos]
 rw [H.fit F x,H.len,decide_eq_true (vQ hl f7B)];rfl
theorem Dm.its (H:Dm kf kvs D f):(kvs.map fun q=>q.1.toV)=D.map fun x=>(kf x).toV:=by
 have:(kys kvs).map Ky.toV=(D.map kf).map Ky.toV:=congrArg _ H.ks
 rw [kys,fZ,fZ] at this
 exact this
noncomputable def Ds (kf:α→Ky) (kvs:List (Ky×V)) (D:List α):Prop:=∃ f,Dm kf kvs D f
theorem Ds.nil:Ds kf [] ([]:List α):=⟨fun _=>.none,Dm.nil⟩
theorem Ds.put (H:Ds kf kvs D) (F:KF kf) (x:α) (y:V):Ds kf (kput kvs (kf x) y) (ins D x):=let ⟨_,h⟩:=H;⟨_,h.put F x y⟩
theorem Ds.inM (H:Ds kf kvs D) (F:KF kf) (x:α):inM (kf x).toV kvs=some (decide (x∈D)):=let ⟨_,h⟩:=H;h.inM F x
theorem Ds.putO (H:Ds kf kvs D) (F:KF kf) (x:α) (y:V) (hl:D.length≤1000):Fl.putO (.v (kf x).toV) y (.map kvs)=some (.map (kput kvs (kf x) y)):=let ⟨_,h⟩:=H;h.putO F x y hl
theorem Ds.its (H:Ds kf kvs D):(kvs.map fun q=>q.1.toV)=D.map fun x=>(kf x).toV:=let ⟨_,h⟩:=H;h.its
theorem Ds.nd (H:Ds kf kvs D):D.Nodup:=let ⟨_,h⟩:=H;h.nd
theorem Ds.len (H:Ds kf kvs D):kvs.length=D.length:=let ⟨_,h⟩:=H;h.len
end
section
variable {α:Type} [DecidableEq α] {kf:α→Ky} {kvs:List (Ky×V)} {D:List α} {f:α→V}
theorem Dm.getD (H:Dm kf kvs D f) (F:KF kf) {x:α} (h:x∈D):j9A ((kvs.map (·.1)).zip (kvs.map (·.2))) (.v (kf x).toV)=some (f x):=by rw [p7A];exact H.get F h
theorem Ds.inD (H:Ds kf kvs D) (F:KF kf) (x:α):Fl.inM (kf x).toV ((kvs.map (·.1)).zip (kvs.map (·.2)))=some (decide (x∈D)):=by rw [p7A];exact H.inM F x
theorem Ds.mk' (F:KF kf) (h:kys kvs=D.map kf) (hn:D.Nodup):Ds kf kvs D:=by
 refine ⟨fun x=>(kget kvs (kf x)).getD .none,h,hn,fun x hx=>?_⟩
 refine bc fun zZ=>?_
 obtain ⟨j,hj,v,hv⟩:=kxs (k:=kf x) (by rw [h];exact zW hx:kf x∈kys kvs)
 refine zZ ?_;clear zZ
 rw [i9A hj hv];rfl
theorem Ds.ks (H:Ds kf kvs D):kys kvs=D.map kf:=let ⟨_,h⟩:=H;h.ks
theorem Ds.fit (H:Ds kf kvs D) (F:KF kf) (x:α):kFit kvs (kf x)=true:=let ⟨_,h⟩:=H;h.fit F x
theorem Ds.del (H:Ds kf kvs D) (F:KF kf) {x:α} (h:x∈D):(∃ y,kget kvs (kf x)=some y)∧∃ D',Ds kf (kdel kvs (kf x)) D'∧(∀ y,y∈D'↔y∈D∧y≠x)∧D'.length+1=D.length:=by
 have hm:kf x∈kys kvs:=by rw [H.ks];exact zW h
 refine bc fun zZ=>?_
 obtain ⟨j,hj,v,hv⟩:=kxs hm
 refine zZ ?_;clear zZ
 have hk:(kys kvs)[j]?=some (kf x):=by rw [kys,oQ,hv];rfl
 rw [H.ks,oQ] at hk
 refine bc fun zZ=>?_
 obtain ⟨x',hx',e⟩:=xQ.mp hk
 refine zZ ?_;clear zZ
 rw [F.inj e] at hx'
 obtain ⟨hl,hg⟩:=jQ.mp hx'
 refine ⟨⟨v,i9A hj hv⟩,D.eraseIdx j,?_,fun y=>?_,by rw [List.length_eraseIdx_of_lt hl];exact Nat.sub_add_cancel (Nat.zero_lt_of_lt hl)⟩
 ·refine Ds.mk' F ?_ (H.nd.sublist (List.eraseIdx_sublist _ _))
  unfold kdel
  rw [hj]
  show kys (kvs.eraseIdx j)=_
  rw [kys,← t4B,← t4B]
  exact congrArg (fun l=>l.eraseIdx j) H.ks
 ·have hp:=H.nd
  rw [List.mem_eraseIdx_iff_getElem]
  constructor
  ·rintro ⟨i,hi,hne,rfl⟩
   exact ⟨List.getElem_mem _,fun e=>hne ((z9Z hi hp).mp (by rw [nQ hi,e,hx']))⟩
  ·rintro ⟨hy,hne⟩
   refine bc fun zZ=>?_
   obtain ⟨i,hi,rfl⟩:=List.getElem_of_mem hy
   refine zZ ?_;clear zZ
   exact ⟨i,hi,fun e=>hne (by subst e;exact hg),rfl⟩
theorem Ds.inT (H:Ds kf kvs D) (F:KF kf) {x:α} (h:x∈D):Fl.inM (kf x).toV kvs=some true:=by rw [H.inM F x,decide_eq_true h]
theorem Ds.inF (H:Ds kf kvs D) (F:KF kf) {x:α} (h:x∉D):Fl.inM (kf x).toV kvs=some false:=by rw [H.inM F x,decide_eq_false h]
theorem Ds.inDT (H:Ds kf kvs D) (F:KF kf) {x:α} (h:x∈D):Fl.inM (kf x).toV ((kvs.map (·.1)).zip (kvs.map (·.2)))=some true:=by rw [H.inD F x,decide_eq_true h]
theorem Ds.inDF (H:Ds kf kvs D) (F:KF kf) {x:α} (h:x∉D):Fl.inM (kf x).toV ((kvs.map (·.1)).zip (kvs.map (·.2)))=some false:=by rw [H.inD F x,decide_eq_false h]
theorem Dm.s (H:Dm kf kvs D f):Ds kf kvs D:=⟨f,H⟩
end
theorem Ds.itsD {kvs:List (Ky×V)} {D:List Int} (H:Ds Ky.i kvs D):(((kvs.map (·.1)).zip (kvs.map (·.2))).map fun q=>q.1.toV)=D.map V.int:=by rw [p7A];exact H.its
theorem Ds.itsDP {kvs:List (Ky×V)} {D:List (Int×Int)} (H:Ds kp kvs D):(((kvs.map (·.1)).zip (kvs.map (·.2))).map fun q=>q.1.toV)=D.map tV:=by rw [p7A];exact H.its
theorem Ds.itsI {kvs:List (Ky×V)} {D:List Int} (H:Ds Ky.i kvs D):(kvs.map fun q=>q.1.toV)=D.map V.int:=H.its
theorem Ds.itsP {kvs:List (Ky×V)} {D:List (Int×Int)} (H:Ds kp kvs D):(kvs.map fun q=>q.1.toV)=D.map tV:=H.its
end Fl
namespace Fl
open PySem (Str)
noncomputable def nb1 (p:Int) (t:Int×Int):List Int:=(if t.1=p then [t.2] else [])++if t.2=p then [t.1] else []
noncomputable def nbL (us:List (Int×Int)) (p:Int):List Int:=us.flatMap (nb1 p)
noncomputable def row (us:List (Int×Int)) (p:Int):List Int:=srt (nbL us p)
noncomputable def wb (n:Int) (us:List (Int×Int)):V:=.obj "Web" [.int n,lT (srtT us),.list ((rI n).map fun i=>lI (row us i))]
theorem nb1_len (p:Int) (t:Int×Int):(nb1 p t).length≤2:=by
 unfold nb1
 rw [fQ]
 refine Nat.add_le_add (b:=1) (d:=1) ?_ ?_
 ·split
  ·exact uQ 1
  ·exact sQ 1
 ·split
  ·exact uQ 1
  ·exact sQ 1
theorem nbL_len (us:List (Int×Int)) (p:Int):(nbL us p).length≤2 * us.length:=by
 induction us with
 | nil=>exact uQ _
 | cons t us ih=>
  show (nb1 p t++nbL us p).length≤_
  rw [fQ,mW,Nat.mul_succ,bZ]
  exact Nat.add_le_add ih (nb1_len p t)
section
variable {C:a0A} (hC:d1A C tab)
include hC
theorem y2A {i:Int} {K} (h:∀ σ',K (.bool true) σ'):C "is_whole" [iv i] [] K:=by
 refine fnA hC 0 rfl rfl (nx ?_)
 dsimp only [m8A]
 kd_p
 exact h _
theorem need_ok {n i:Int} {x y:V} {K} (h0:0≤i) (h1:i<n) (h:∀ σ',K .none σ'):C "Web.need_point" [.v (.obj "Web" [.int n,x,y]),iv i] [] K:=by
 refine fnA hC 3 rfl rfl (nx ?_)
 dsimp only [c3A]
 kd_p
 refine ⟨rfl,rfl,y2A hC fun _=>?_⟩
 kd_p
 refine brT (nt (n7A h0)) ?_
 rw [l9A h1]
 exact h _
theorem t6B {t:Int×Int} {n:Int} {K} (h1:0≤t.1∧t.1<n) (h2:0≤t.2∧t.2<n) (hne:t.1≠t.2) (h:∀ σ',K (tV (te t.1 t.2)) σ'):C "tie_of" [.v (tV t),iv n] [] K:=by
 refine fnA hC 1 rfl rfl (nx ?_)
 dsimp only [n4B]
 kd_p
 refine nx ?_
 kd_p
 refine fl1 V.int (fun o=>[("point", o),("thing", some (.v (tV t))),("many", some (iv n))]) (fun _=>[]) (fun r _=>∀ i∈r,0≤i∧i<n) ?_ ?_ [t.1,t.2] _ fun i hi=>?_
 ·intro i r o hr W hW
  kd_p
  refine nx ?_
  kd_p
  refine ⟨rfl,rfl,y2A hC fun _=>?_⟩
  kd_p
  have hi:=hr i aQ
  refine brT (nt (n7A hi.1)) ?_
  rw [l9A hi.2]
  exact ⟨rfl,hW _ fun j hj=>hr j (bQ _ hj)⟩
 ·intro o _
  kd_p
  refine nx ?_
  kd_p
  refine brF (decide_eq_false hne) ?_
  refine nx ?_
  kd_p
  exact h _
 ·rcases lQ.mp hi with rfl | hi
  ·exact h1
  ·rw [cQ.mp hi];exact h2
theorem s4A {us:List (Int×Int)} {p:Int} {K} (hl:us.length≤31∨(nbL us p).length≤62) (hu:us.length≤100) (h:∀ σ',K (lI (row us p)) σ'):C "neighbours" [.v (lT us),iv p] [] K:=by
 refine fnA hC 7 rfl rfl (nx ?_)
 dsimp only [o5A]
 kd_p
 refine ⟨f1A (sQ 0) rfl,nx ?_⟩
 kd_p
 refine fl2 tV (fun o _=>[("tie", o),("found", some (.ref 0)),("ties", some (.v (lT us))),("point", some (iv p))]) (fun _ acc=>[.list (acc.map V.int)]) (fun r _ acc=>acc++nbL r p=nbL us p) ?_ ?_ us _ [] rfl
 ·intro t r o acc e W hW
  have e:acc++(nb1 p t++nbL r p)=nbL us p:=e
  have hlen:acc.length+(nb1 p t).length≤200:=by
   have h1:=congrArg List.length e
   rw [fQ,fQ] at h1
   have h2:=nbL_len us p
   lia
  kd_p
  refine nx ?_
  kd_p
  have fin:∀ acc':List Int,acc'.length≤200→acc'++((if t.2=p then [t.1] else [])++nbL r p)=nbL us p→xSs C [.ite (.cmp (.item (.x "tie") (.c (.int 1))) .eq (.x "point")) [.ex (.lm (.x "found") .append [.item (.x "tie") (.c (.int 0))])] []] [("tie", some (.v (tV t))),("found", some (.ref 0)),("ties", some (.v (lT us))),("point", some (iv p))] [.list (acc'.map V.int)] (lpK (fun σ'=>Stay σ' (.v (lT us)) (objA [.list []] (.v (lT us)))) W (kK C [.ret (.fz (.sorted (.x "found")))] (retF K))):=by
   intro acc' hl' e'
   refine nx ?_
   kd_p
   refine br (fun q=>nx ?_) fun q=>?_
   ·kd_p
    refine ⟨rfl,ap_m hl' rfl,rfl,?_⟩
    rw [ap1]
    refine hW _ (acc'++[t.1]) ?_
    rw [← e',if_pos (of_decide_eq_true q),kQ]
   ·refine ⟨rfl,hW _ acc' ?_⟩
    rw [← e',if_neg (of_decide_eq_false q)];rfl
  refine br (fun q=>nx ?_) fun q=>?_
  ·kd_p
   have hq:=of_decide_eq_true q
   have hn:(nb1 p t).length=1+(if t.2=p then [t.1] else []).length:=by
    unfold nb1;rw [if_pos hq];exact fQ
   refine ⟨rfl,ap_m (k:=200) (by lia) rfl,?_⟩
   rw [ap1]
   refine fin (acc++[t.2]) (by rw [fQ];show acc.length+1≤_;lia) ?_
   rw [← e];unfold nb1;rw [if_pos hq]
   simp only [kQ]
  ·refine fin acc (by lia) ?_
   rw [← e];unfold nb1;rw [if_neg (of_decide_eq_false q)];rfl
 ·intro o acc e
  have e:acc=nbL us p:=by rw [← e];exact (z1Q acc).symm
  subst e
  kd_p
  refine nx ?_
  kd_p
  have hlen:(nbL us p).length≤62:=hl.elim (fun h=>dQ (nbL_len us p) (dK 2 h)) id
  refine ⟨so_i _,by rw [eQ];exact Nat.lt_succ_of_le (nK hlen),?_⟩
  rw [vs_i]
  exact ⟨sm_m (k:=62) (by rw [e2A];exact hlen) rfl,h _⟩
theorem init_ok {ts:List (Int×Int)} {n:Int} {K} (hn:1≤n∧n≤16) (hl:ts.length≤40) (ht:∀ t∈ts,(0≤t.1∧t.1<n)∧(0≤t.2∧t.2<n)∧t.1≠t.2) (hd:(ts.map fun t=>te t.1 t.2).Nodup) (hdeg:∀ p,(nbL (ts.map fun t=>te t.1 t.2) p).length≤62)
  (h:∀ σ',K .none (.fields [("many", .int n),("pairs", lT (srtT (ts.map fun t=>te t.1 t.2))),("rows", .list ((rI n).map fun i=>lI (row (ts.map fun t=>te t.1 t.2) i)))]::σ')):C "Web.__init__" [.inst "Web" 0,iv n,.v (lT ts)] [.fields []] K:=by
 refine fnA hC 2 rfl rfl (nx ?_)
 dsimp only [o8A]
 kd_p
 refine ⟨rfl,rfl,y2A hC fun _=>?_⟩
 kd_p
 refine brT (nt (n7A hn.1)) ?_
 rw [n7A hn.2]
 kd_p
 refine nx ?_
 kd_p
 rw [n7A (by rw [eQ];exact Int.ofNat_le.mpr hl)]
 kd_p
 refine nx ?_
 kd_p
 refine ⟨f1A (sQ 0) rfl,nx ?_⟩
 kd_p
 refine fl3 tV (fun o o' _=>[("tie", o'),("thing", o),("found", some (.ref 1)),("self", some (.inst "Web" 0)),("many", some (iv n)),("ties", some (.v (lT ts)))]) (fun _ _ acc=>[.fields [],.list (acc.map tV)]) (fun r _ _ acc=>(∀ t∈r,t∈ts)∧acc++r.map (fun t=>te t.1 t.2)=ts.map fun t=>te t.1 t.2) ?_ ?_ ts _ _ [] ⟨fun _ h=>h,rfl⟩
 ·rintro t r o o' acc ⟨hm,e⟩ W hW
  kd_p
  refine nx ?_
  kd_p
  have hr:=ht t (hm t aQ)
  refine ⟨rfl,rfl,t6B hC hr.1 hr.2.1 hr.2.2 fun _=>?_⟩
  kd_p
  refine nx ?_
  kd_p
  refine gx (inLt _ acc) (brF (decide_eq_false fun hin=>?_) ?_)
  ·rw [← e,z3Q] at hd
   exact hd.2.2 _ hin _ (by rw [z6Q];exact aQ) rfl
  ·refine nx ?_
   kd_p
   have hacc:acc.length≤40:=by
    have:=congrArg List.length e
    rw [fQ,eQ,eQ] at this
    lia
   refine ⟨rfl,ap_m hacc rfl,rfl,?_⟩
   rw [ap1]
   refine hW _ _ (acc++[te t.1 t.2]) ⟨fun u hu=>hm u (bQ _ hu),?_⟩
   rw [← e,z6Q,kQ];rfl
 ·rintro o o' acc ⟨hm,e⟩
  have e:acc=ts.map fun t=>te t.1 t.2:=by rw [← e];exact (z1Q acc).symm
  rw [← e] at hdeg h
  have hacc:acc.length≤40:=by rw [e,eQ];exact hl
  clear e hd
  kd_p
  refine nx ?_
  kd_p
  refine nx ?_
  kd_p
  refine ⟨vZ _,nx ?_⟩
  kd_p
  refine ⟨so_t _,by rw [eQ];exact vQ hacc (by decide),?_⟩
  rw [vs_t]
  refine ⟨sm_m (k:=40) (by rw [(l1A acc).length_eq];exact hacc) rfl,by show 1<100;decide,nx ?_⟩
  kd_p
  refine ⟨aZ hn.2 (by decide),yW (by decide) hn.1,?_⟩
  rw [g3A]
  refine cp V.int (fun _=>true) (fun i=>lI (row acc i)) (rI n) (fun x _=>?_) ?_
  ·kd_p
   refine ⟨fun K h=>h,fun _ K h=>⟨rfl,rfl,s4A hC (.inr (hdeg x)) (dQ hacc (by decide)) fun _=>h⟩⟩
  ·rw [z0Z.mpr (fun _ _=>rfl)]
   refine ⟨sm_m (k:=16) (by rw [c4A];lia) rfl,by show 2<100;decide,?_⟩
   exact h _
theorem new_ok {ts:List (Int×Int)} {n:Int} {σ K} (hn:1≤n∧n≤16) (hl:ts.length≤40) (ht:∀ t∈ts,(0≤t.1∧t.1<n)∧(0≤t.2∧t.2<n)∧t.1≠t.2) (hd:(ts.map fun t=>te t.1 t.2).Nodup) (hdeg:∀ p,(nbL (ts.map fun t=>te t.1 t.2) p).length≤62)
  (h:K (.v (wb n (ts.map fun t=>te t.1 t.2))) σ):j8B C "Web" [iv n,.v (lT ts)] σ K:=
 init_ok hC hn hl ht hd hdeg fun _=>⟨rfl,rfl,h⟩
theorem x1B {n:Int} {us:List (Int×Int)} {K} (hu:us.length≤40) (h:∀ σ',K (lT (srtT us)) σ'):C "Web.ties" [.v (wb n us)] [] K:=by
 refine fnA hC 4 rfl rfl (nx ?_)
 dsimp only [n8A,wb]
 kd_p
 exact ⟨sm_m (k:=40) (by rw [(l1A us).length_eq];exact hu) rfl,h _⟩
theorem z4A {n i:Int} {us:List (Int×Int)} {K} (h0:0≤i) (h1:i<n) (hdeg:(nbL us i).length≤62) (h:∀ σ',K (lI (row us i)) σ'):C "Web.beside" [.v (wb n us),iv i] [] K:=by
 refine fnA hC 5 rfl rfl (nx ?_)
 dsimp only [t5A,wb]
 kd_p
 refine need_ok hC h0 h1 fun _=>?_
 kd_p
 refine nx ?_
 kd_p
 refine gx (itR h0 h1) ?_
 kd_p
 exact ⟨sm_m (k:=62) (by rw [row,e2A];exact hdeg) rfl,h _⟩
end
end Fl
namespace Fl
open PySem (Str)
inductive Rc (nb:Int→List Int) (ok:Int→Prop) (s:Int):Int→Prop where
 | base:Rc nb ok s s
 | step {i j:Int}:Rc nb ok s i→j∈nb i→ok j→Rc nb ok s j
structure Gr (nb:Int→List Int) (ok:Int→Prop) (s:Int) (U D w:List Int) (p:Int) (dn:List Int):Prop where
 nd:D.Nodup
 rc:∀ k∈D,Rc nb ok s k
 un:∀ k∈D,k∈U
 st:s∈D
 ww:∀ i∈w,i∈D
 pd:p∈D
 cl:∀ i∈D,i∈w∨(i=p∧∀ j∈dn,ok j→j∈D)∨(∀ j∈nb i,ok j→j∈D)
 le:w.length≤D.length
section
variable {nb:Int→List Int} {ok:Int→Prop} {s:Int} {U D w dn:List Int} {p:Int}
theorem Gr.init (h:s∈U):Gr nb ok s U [s] [s] s (nb s):=
 ⟨nd1 s,fun k hk=>by rw [cQ.mp hk];exact .base,fun k hk=>by rw [cQ.mp hk];exact h,cQ.mpr rfl,fun _ h=>h,cQ.mpr rfl,fun i hi=>.inl hi,uQ _⟩
theorem Gr.pop (H:Gr nb ok s U D (w++[p]) q (nb q)):Gr nb ok s U D w p []:=by
 refine ⟨H.nd,H.rc,H.un,H.st,fun i hi=>H.ww i (mQ _ hi),H.ww p (gQ _ (cQ.mpr rfl)),fun i hi=>?_,dQ (by rw [fQ];exact z5Q _ _) H.le⟩
 rcases H.cl i hi with h | h | h
 ·rcases iQ.mp h with h | h
  ·exact .inl h
  ·exact .inr (.inl ⟨cQ.mp h,fun j hj=>nomatch hj⟩)
 ·exact .inr (.inr (by rw [h.1];exact h.2))
 ·exact .inr (.inr h)
theorem Gr.skip (H:Gr nb ok s U D w p dn) {j:Int} (hj:ok j→j∈D):Gr nb ok s U D w p (dn++[j]):=by
 refine ⟨H.nd,H.rc,H.un,H.st,H.ww,H.pd,fun i hi=>?_,H.le⟩
 rcases H.cl i hi with h | ⟨e,h⟩ | h
 ·exact .inl h
 ·refine .inr (.inl ⟨e,fun x hx ho=>?_⟩)
  rcases iQ.mp hx with hx | hx
  ·exact h x hx ho
  ·rw [cQ.mp hx] at ho ⊢;exact hj ho
 ·exact .inr (.inr h)
theorem Gr.add (H:Gr nb ok s U D w p dn) {j:Int} (hj:j∈nb p) (ho:ok j) (hn:j∉D) (hU:j∈U):Gr nb ok s U (D++[j]) (w++[j]) p (dn++[j]):=by
 have hl:∀ {x},x∈D→x∈D++[j]:=fun h=>mQ _ h
 have hr:j∈D++[j]:=gQ _ (cQ.mpr rfl)
 refine ⟨m1A hn ▸ b1B H.nd,fun k hk=>?_,fun k hk=>?_,hl H.st,fun i hi=>?_,hl H.pd,fun i hi=>?_,by rw [fQ,fQ];exact tQ H.le⟩
 ·rcases iQ.mp hk with hk | hk
  ·exact H.rc k hk
  ·rw [cQ.mp hk];exact (H.rc p H.pd).step hj ho
 ·rcases iQ.mp hk with hk | hk
  ·exact H.un k hk
  ·rw [cQ.mp hk];exact hU
 ·rcases iQ.mp hi with hi | hi
  ·exact hl (H.ww i hi)
  ·rw [cQ.mp hi];exact hr
 ·rcases iQ.mp hi with hi | hi
  ·rcases H.cl i hi with h | ⟨e,h⟩ | h
   ·exact .inl (mQ _ h)
   ·refine .inr (.inl ⟨e,fun x hx ho=>?_⟩)
    rcases iQ.mp hx with hx | hx
    ·exact hl (h x hx ho)
    ·rw [cQ.mp hx];exact hr
   ·exact .inr (.inr fun x hx ho=>hl (h x hx ho))
  ·rw [cQ.mp hi];exact .inl (gQ _ (cQ.mpr rfl))
theorem Gr.fin (H:Gr nb ok s U D [] p (nb p)) (j:Int):j∈D↔Rc nb ok s j:=by
 refine ⟨H.rc j,fun hr=>?_⟩
 induction hr with
 | base=>exact H.st
 | step _ hj ho ih=>
  rcases H.cl _ ih with h | ⟨e,h⟩ | h
  ·cases h
  ·exact h _ (e ▸ hj) ho
  ·exact h _ hj ho
theorem Gr.len (H:Gr nb ok s U D w p dn):D.length≤U.length:=b0A H.nd H.un
end
theorem t3B (w:List Int) (p:Int):c9A (-1) ((w++[p]).map V.int)=some (w.map V.int,.int p):=by
 unfold c9A
 rw [eQ,fQ,idx_ng (by decide) (by show (0:Int)≤-1+((w.length+1:Nat):Int);lia)]
 have e:((-1:Int)+((w.length+[p].length:Nat):Int)).toNat=w.length:=by
  show ((-1:Int)+((w.length+1:Nat):Int)).toNat=_
  lia
 rw [obind,e,oQ,vW,z0Q]
 show some (((w.map V.int++[V.int p]).eraseIdx w.length),V.int p)=_
 rw [List.eraseIdx_append_of_length_le (by rw [eQ];exact uQ _),eQ,Nat.sub_self]
 show some (w.map V.int++[],V.int p)=_
 rw [z1Q]
theorem ms0 {U:Nat} (h:1≤U):2 * 1+(2 * U+1 - 2)=2 * U+1:=aW (nK (dK 2 h))
theorem ms1 {D k U w:Nat} (h:2 * D+k=2 * U+(w+1)):2 * D+k > 2 * U+w:=by rw [h];exact nZ _
theorem ms2 {D k U w:Nat} (h:2 * D+k > 2 * U+w):2 * (D+1)+k > 2 * U+(w+1):=by lia
theorem ms3 {D k U w:Nat} (hl:D≤U) (h:2 * D+k > 2 * U+w):2 * U+w - 2 * D<k∧2 * D+(2 * U+w - 2 * D)=2 * U+w:=by
 have h1:2 * D≤2 * U+w:=dQ (dK 2 hl) (z5Q _ _)
 exact ⟨Nat.sub_lt_left_of_lt_add h1 h,aW h1⟩
section
variable {C:a0A} (hC:d1A C tab)
include hC
theorem w7A {n s:Int} {nb:Int→List Int} {wo:List Int} {K} (hn:n≤16) (hnb:∀ i∈rI n,∀ j∈nb i,j∈rI n) (hs:s∈rI n)
  (h:∀ D σ',D.Nodup→(∀ j∈D,j∈rI n)→(∀ j,j∈D↔Rc nb (·∉wo) s j)→K (lI (srt D)) σ'):C "reached" [.v (.list ((rI n).map fun i=>lI (nb i))),iv s,.v (lI wo)] [] K:=by
 refine fnA hC 8 rfl rfl (nx ?_)
 dsimp only [j1B]
 kd_p
 refine nx ?_
 kd_p
 refine gx (Ds.nil.putO kfI s _ (by decide)) ?_
 kd_p
 refine nx ?_
 kd_p
 refine ⟨f1A (k:=1) (uQ 1) rfl,nx ?_⟩
 kd_p
 have hU:(rI n).length≤16:=by rw [c4A];lia
 refine wl6 (fun o o' _ _ _ _=>[("other", o'),("point", o),("waiting", some (.ref 1)),("seen", some (.ref 0)),("rows", some (.v (.list ((rI n).map fun i=>lI (nb i))))),("start", some (iv s)),("without", some (.v (lI wo)))]) (fun _ _ kvs _ w _=>[.map kvs,.list (w.map V.int)]) (fun k _ _ kvs D w p=>Ds Ky.i kvs D∧Gr nb (·∉wo) s (rI n) D w p (nb p)∧2 * D.length+k=2 * (rI n).length+w.length) ?_ (2 * (rI n).length+1 - 2) _ _ _ [s] [s] s ⟨Ds.nil.put kfI s _,Gr.init hs,?_⟩
 ·intro k o o' kvs D w p zY0 W hW
  refine bc fun zZ=>?_
  obtain ⟨hD,G,hk⟩:=zY0
  refine zZ ?_;clear zZ
  kd_p
  have hD16:D.length≤16:=dQ G.len hU
  rcases List.eq_nil_or_concat w with rfl | ⟨w',q,rfl⟩
  ·refine brF (n7A (fK 0)) ?_
   refine nx ?_
   kd_p
   rw [hD.itsI]
   refine ⟨so_i D,by rw [eQ];exact vQ hD16 (by decide),?_⟩
   rw [vs_i]
   exact ⟨sm_m (k:=16) (by rw [e2A];exact hD16) rfl,h D _ G.nd G.un G.fin⟩
  ·rw [List.concat_eq_append] at *
   refine brT (l9A (by rw [eQ,fQ];exact rZ.mpr (vZ _))) ?_
   refine nx ?_
   kd_p
   refine ⟨rfl,rfl,gx (t3B w' q) ?_⟩
   have G:=G.pop
   have hq:=G.un q G.pd
   refine ⟨by rw [eQ];exact vQ (dQ G.le hD16) (by decide),nx ?_⟩
   kd_p
   refine gx (itR (r0A.mp hq).1 (r0A.mp hq).2) ?_
   kd_p
   rw [fQ] at hk
   refine fl5 V.int (fun o _ _ _ _=>[("other", o),("point", some (iv q)),("waiting", some (.ref 1)),("seen", some (.ref 0)),("rows", some (.v (.list ((rI n).map fun i=>lI (nb i))))),("start", some (iv s)),("without", some (.v (lI wo)))]) (fun _ _ kvs _ w=>[.map kvs,.list (w.map V.int)]) (fun r _ dn kvs D w=>Ds Ky.i kvs D∧dn++r=nb q∧Gr nb (·∉wo) s (rI n) D w q dn∧2 * D.length+k > 2 * (rI n).length+w.length) ?_ ?_ (nb q) _ [] _ D w' ⟨hD,rfl,G,ms1 hk⟩
   ·intro j r o dn kvs D w zY0 W' hW'
    refine bc fun zZ=>?_
    obtain ⟨hD,e,G,hk⟩:=zY0
    refine zZ ?_;clear zZ
    have hj:j∈nb q:=by rw [← e];exact gQ _ aQ
    have hjU:=hnb q hq j hj
    have e':(dn++[j])++r=nb q:=by rw [kQ];exact e
    kd_p
    refine nx ?_
    kd_p
    refine gx (congrArg _ (hD.inM kfI j)) ?_
    by_cases h1:j∈D
    ·exact brF (nf (decide_eq_true h1)) ⟨rfl,hW' _ (dn++[j]) _ D w ⟨hD,e',G.skip fun _=>h1,hk⟩⟩
    ·refine brT (nt (decide_eq_false h1)) ?_
     rw [inLi]
     kd_p
     by_cases h2:j∈wo
     ·exact brF (nf (decide_eq_true h2)) ⟨rfl,hW' _ (dn++[j]) _ D w ⟨hD,e',G.skip fun h=>absurd h2 h,hk⟩⟩
     ·refine brT (nt (decide_eq_false h2)) ?_
      refine nx ?_
      kd_p
      have G':=G.add hj h2 h1 hjU
      refine gx (hD.putO kfI j _ (dQ (dQ G.len hU) (by decide))) ?_
      kd_p
      refine nx ?_
      kd_p
      have hD':=hD.put kfI j (.bool true)
      rw [m1A h1] at hD'
      refine ⟨rfl,ap_m (dQ G.le (dQ G.len hU)) rfl,rfl,?_⟩
      rw [ap1]
      refine hW' _ (dn++[j]) _ _ (w++[j]) ⟨hD',e',G',?_⟩
      rw [fQ,fQ]
      exact ms2 hk
   ·intro o dn kvs D w zY0
    refine bc fun zZ=>?_
    obtain ⟨hD,e,G,hk⟩:=zY0
    refine zZ ?_;clear zZ
    kd_p
    rw [z1Q] at e
    subst e
    exact hW (2 * (rI n).length+w.length - 2 * D.length) _ _ _ _ _ _ (ms3 G.len hk).1 ⟨hD,G,(ms3 G.len hk).2⟩
 ·exact ms0 (uZ hs)
theorem grown_ok {lk pk:List (Ky×V)} {s:Int} {nb:Int→List Int} {U pl:List Int} {K} (hL:Dm Ky.i lk U (fun x=>lI (nb x))) (hP:Ds Ky.i pk pl) (hU:U.length≤16) (hnb:∀ i∈U,∀ j∈nb i,j∈U) (hs:s∈U)
  (h:∀ kvs D σ',Ds Ky.i kvs D→D.Nodup→(∀ j∈D,j∈U)→(∀ j,j∈D↔Rc nb (·∉pl) s j)→K (dv kvs) (.map pk::σ')):C "grown" [.v (dv lk),iv s,.ref 0] [.map pk] K:=by
 refine fnA hC 20 rfl rfl (nx ?_)
 dsimp only [d0C]
 kd_p
 refine nx ?_
 kd_p
 refine gx (Ds.nil.putO kfI s _ (by decide)) ?_
 kd_p
 refine nx ?_
 kd_p
 refine ⟨f1A (k:=1) (uQ 1) rfl,nx ?_⟩
 kd_p
 refine wl6 (fun o o' _ _ _ _=>[("other", o'),("point", o),("waiting", some (.ref 2)),("seen", some (.ref 1)),("links", some (.v (dv lk))),("start", some (iv s)),("placed", some (.ref 0))]) (fun _ _ kvs _ w _=>[.map pk,.map kvs,.list (w.map V.int)]) (fun k _ _ kvs D w p=>Ds Ky.i kvs D∧Gr nb (·∉pl) s U D w p (nb p)∧2 * D.length+k=2 * U.length+w.length) ?_ (2 * U.length+1 - 2) _ _ _ [s] [s] s ⟨Ds.nil.put kfI s _,Gr.init hs,?_⟩
 ·intro k o o' kvs D w p zY0 W hW
  refine bc fun zZ=>?_
  obtain ⟨hD,G,hk⟩:=zY0
  refine zZ ?_;clear zZ
  kd_p
  have hD16:D.length≤16:=dQ G.len hU
  rcases List.eq_nil_or_concat w with rfl | ⟨w',q,rfl⟩
  ·refine brF (n7A (fK 0)) ?_
   refine nx ?_
   kd_p
   exact h kvs D _ hD G.nd G.un G.fin
  ·rw [List.concat_eq_append] at *
   refine brT (l9A (by rw [eQ,fQ];exact rZ.mpr (vZ _))) ?_
   refine nx ?_
   kd_p
   refine ⟨rfl,rfl,gx (t3B w' q) ?_⟩
   have G:=G.pop
   have hq:=G.un q G.pd
   refine ⟨by rw [eQ];exact vQ (dQ G.le hD16) (by decide),nx ?_⟩
   kd_p
   refine gx (hL.getD kfI hq) ?_
   kd_p
   rw [fQ] at hk
   refine fl5 V.int (fun o _ _ _ _=>[("other", o),("point", some (iv q)),("waiting", some (.ref 2)),("seen", some (.ref 1)),("links", some (.v (dv lk))),("start", some (iv s)),("placed", some (.ref 0))]) (fun _ _ kvs _ w=>[.map pk,.map kvs,.list (w.map V.int)]) (fun r _ dn kvs D w=>Ds Ky.i kvs D∧dn++r=nb q∧Gr nb (·∉pl) s U D w q dn∧2 * D.length+k > 2 * U.length+w.length) ?_ ?_ (nb q) _ [] _ D w' ⟨hD,rfl,G,ms1 hk⟩
   ·intro j r o dn kvs D w zY0 W' hW'
    refine bc fun zZ=>?_
    obtain ⟨hD,e,G,hk⟩:=zY0
    refine zZ ?_;clear zZ
    have hj:j∈nb q:=by rw [← e];exact gQ _ aQ
    have hjU:=hnb q hq j hj
    have e':(dn++[j])++r=nb q:=by rw [kQ];exact e
    kd_p
    refine nx ?_
    kd_p
    refine gx (congrArg _ (hD.inM kfI j)) ?_
    by_cases h1:j∈D
    ·exact brF (nf (decide_eq_true h1)) ⟨rfl,hW' _ (dn++[j]) _ D w ⟨hD,e',G.skip fun _=>h1,hk⟩⟩
    ·refine brT (nt (decide_eq_false h1)) ?_
     refine gx (congrArg _ (hP.inM kfI j)) ?_
     by_cases h2:j∈pl
     ·exact brF (nf (decide_eq_true h2)) ⟨rfl,hW' _ (dn++[j]) _ D w ⟨hD,e',G.skip fun h=>absurd h2 h,hk⟩⟩
     ·refine brT (nt (decide_eq_false h2)) ?_
      refine nx ?_
      kd_p
      have G':=G.add hj h2 h1 hjU
      refine gx (hD.putO kfI j _ (dQ (dQ G.len hU) (by decide))) ?_
      kd_p
      refine nx ?_
      kd_p
      have hD':=hD.put kfI j (.bool true)
      rw [m1A h1] at hD'
      refine ⟨rfl,ap_m (dQ G.le (dQ G.len hU)) rfl,rfl,?_⟩
      rw [ap1]
      refine hW' _ (dn++[j]) _ _ (w++[j]) ⟨hD',e',G',?_⟩
      rw [fQ,fQ]
      exact ms2 hk
   ·intro o dn kvs D w zY0
    refine bc fun zZ=>?_
    obtain ⟨hD,e,G,hk⟩:=zY0
    refine zZ ?_;clear zZ
    kd_p
    rw [z1Q] at e
    subst e
    exact hW (2 * U.length+w.length - 2 * D.length) _ _ _ _ _ _ (ms3 G.len hk).1 ⟨hD,G,(ms3 G.len hk).2⟩
 ·exact ms0 (uZ hs)
end
end Fl
namespace Fl
noncomputable def itr (f:Dt→Dt) (s:Dt):Nat→Dt
 | 0=>s
 | k+1=>f (itr f s k)
theorem u6A (f:Dt→Dt) (s:Dt) (i:Nat):∀ j,itr f s (i+j)=itr f (itr f s i) j
 | 0=>rfl
 | j+1=>congrArg f (u6A f s i j)
structure Bij (f:Dt→Dt) (D:List Dt):Prop where
 to:∀ d∈D,f d∈D
 inj:∀ d∈D,∀ e∈D,f d=f e→d=e
theorem w1A {f:Dt→Dt} {D:List Dt} (B:Bij f D) {s:Dt} (hs:s∈D):∀ k,itr f s k∈D
 | 0=>hs
 | k+1=>B.to _ (w1A B hs k)
theorem e4B {f:Dt→Dt} {D:List Dt} (B:Bij f D) {a b:Dt} (ha:a∈D) (hb:b∈D):∀ i,itr f a i=itr f b i→a=b
 | 0,h=>h
 | i+1,h=>e4B B ha hb i (B.inj _ (w1A B ha i) _ (w1A B hb i) h)
theorem z8B {f:Dt→Dt} {D:List Dt} (B:Bij f D) {s:Dt} (hs:s∈D):∃ p,itr f s (p+1)=s:=by
 by_cases hn:((List.range (D.length+1)).map (itr f s)).Nodup
 ·have:=b0A hn (fun x hx=>by obtain ⟨k,_,rfl⟩:=qQ.mp hx;exact w1A B hs k:∀ x∈_,x∈D)
  rw [eQ,mK] at this
  exact absurd this (Nat.not_succ_le_self _)
 ·unfold List.Nodup at hn
  rw [z2Z] at hn
  have:∃ i j,i<j∧itr f s i=itr f s j:=Classical.byContradiction fun h=>hn (List.pairwise_lt_range.imp fun hlt e=>h ⟨_,_,hlt,e⟩)
  refine bc fun zZ=>?_
  obtain ⟨i,j,hij,e⟩:=this
  obtain ⟨p,rfl⟩:=Nat.exists_eq_add_of_lt hij
  refine zZ ?_;clear zZ
  refine ⟨p,(e4B B hs (w1A B hs _) i ?_).symm⟩
  rw [e,← u6A]
  congr 1
  rw [z3Z,bZ]
noncomputable def On (f:Dt→Dt) (a b:Dt):Prop:=∃ k,itr f a k=b
theorem On.refl (f:Dt→Dt) (a:Dt):On f a a:=⟨0,rfl⟩
theorem On.trans {f:Dt→Dt} {a b c:Dt}:On f a b→On f b c→On f a c
 | ⟨i,hi⟩,⟨j,hj⟩=>⟨i+j,by rw [u6A,hi,hj]⟩
theorem a9B {f:Dt→Dt} {s:Dt} {p:Nat} (h:itr f s p=s):∀ k,itr f s (k * p)=s
 | 0=>by rw [Nat.zero_mul];rfl
 | k+1=>by rw [Nat.succ_mul,u6A,a9B h k,h]
theorem On.symm {f:Dt→Dt} {D:List Dt} (B:Bij f D) {a b:Dt} (ha:a∈D):On f a b→On f b a
 | ⟨k,hk⟩=>by
  obtain ⟨p,hp⟩:=z8B B ha
  refine ⟨k * p,?_⟩
  rw [← hk,← u6A,bZ,← Nat.mul_succ]
  exact a9B hp k
theorem On.keep {f:Dt→Dt} {D:List Dt} (B:Bij f D) {α:Type} {g:Dt→α} (hg:∀ d∈D,g (f d)=g d) {a b:Dt} (ha:a∈D):On f a b→g b=g a
 | ⟨k,hk⟩=>by
  subst hk
  induction k with
  | zero=>rfl
  | succ k ih=>exact (hg _ (w1A B ha k)).trans ih
structure Rp (f:Dt→Dt) (D:List Dt) (M:Dt→Prop) (R:List Dt):Prop where
 sub:∀ r∈R,r∈D
 pw:R.Pairwise fun a b=>¬ On f a b
 cov:∀ y∈D,M y↔∃ r∈R,On f r y
theorem Rp.nil {f:Dt→Dt} {D:List Dt} {M:Dt→Prop} (h:∀ y∈D,¬ M y):Rp f D M []:=⟨fun _ h=>(nomatch h),List.Pairwise.nil,fun y hy=>⟨fun m=>absurd m (h y hy),fun ⟨_,h,_⟩=>nomatch h⟩⟩
theorem Rp.of {f:Dt→Dt} {D:List Dt} {M M':Dt→Prop} {R:List Dt} (H:Rp f D M R) (h:∀ y∈D,M' y↔M y):Rp f D M' R:=⟨H.sub,H.pw,fun y hy=>(h y hy).trans (H.cov y hy)⟩
theorem Rp.stop {f:Dt→Dt} {D:List Dt} {M M':Dt→Prop} {R:List Dt} (B:Bij f D) (H:Rp f D M R) {x:Dt} (hx:x∈D) (hM:¬ M x) {k:Nat} (hM':∀ y∈D,M' y↔M y∨∃ i,i<k∧itr f x i=y) (hk:M' (itr f x k)):Rp f D M' (R++[x]):=by
 have hno:∀ r∈R,¬ On f r x:=fun r hr ho=>hM ((H.cov x hx).mpr ⟨r,hr,ho⟩)
 have hrep:∃ i,i<k∧itr f x i=itr f x k:=by
  rcases (hM' _ (w1A B hx k)).mp hk with h | h
  ·refine bc fun zZ=>?_
   obtain ⟨r,hr,ho⟩:=(H.cov _ (w1A B hx k)).mp h
   refine zZ ?_;clear zZ
   exact absurd (ho.trans (On.symm B hx ⟨k,rfl⟩)) (hno r hr)
  ·exact h
 refine bc fun zZ=>?_
 obtain ⟨i,hi,e⟩:=hrep
 refine zZ ?_;clear zZ
 have hall:∀ j,∃ q,q<k∧itr f x q=itr f x j:=by
  intro j
  induction j with
  | zero=>exact ⟨0,Nat.zero_lt_of_lt hi,rfl⟩
  | succ j ih=>
   refine bc fun zZ=>?_
   obtain ⟨q,hq,eq⟩:=ih
   refine zZ ?_;clear zZ
   by_cases hl:q+1<k
   ·exact ⟨q+1,hl,congrArg f eq⟩
   ·have:q+1=k:=jW hq (z6W.mp hl)
    refine ⟨i,hi,e.trans ?_⟩
    rw [← this]
    exact congrArg f eq
 refine ⟨fun r hr=>?_,?_,fun y hy=>?_⟩
 ·rcases iQ.mp hr with hr | hr
  ·exact H.sub r hr
  ·rw [cQ.mp hr];exact hx
 ·rw [List.pairwise_append]
  exact ⟨H.pw,List.pairwise_singleton _ _,fun a ha b hb=>by rw [cQ.mp hb];exact hno a ha⟩
 ·rw [hM' y hy,H.cov y hy]
  constructor
  ·rintro (⟨r,hr,ho⟩ | ⟨i,_,e⟩)
   ·exact ⟨r,mQ _ hr,ho⟩
   ·exact ⟨x,gQ _ (cQ.mpr rfl),i,e⟩
  ·intro zY0
   refine bc fun zZ=>?_
   obtain ⟨r,hr,ho⟩:=zY0
   refine zZ ?_;clear zZ
   rcases iQ.mp hr with hr | hr
   ·exact .inl ⟨r,hr,ho⟩
   ·rw [cQ.mp hr] at ho
    refine bc fun zZ=>?_
    obtain ⟨j,hj⟩:=ho
    obtain ⟨q,hq,e⟩:=hall j
    refine zZ ?_;clear zZ
    exact .inr ⟨q,hq,e.trans hj⟩
theorem m3B {f:Dt→Dt} {D:List Dt} (B:Bij f D) {p:Dt→Bool} (hp:∀ d∈D,p (f d)=p d):∀ {R R':List Dt},(∀ r∈R,r∈D)→R.Pairwise (fun a b=>¬ On f a b)→(∀ r∈R',r∈D)→(∀ r∈R,p r=true→∃ r'∈R',On f r' r)→(R.filter p).length≤(R'.filter p).length
 | [],_,_,_,_,_=>sQ _
 | r::R,R',hs,hw,hs',hc=>by
  rw [List.pairwise_cons] at hw
  have hs0:∀ r∈R,r∈D:=fun x hx=>hs x (bQ _ hx)
  rw [List.filter_cons]
  by_cases hq:p r=true
  ·rw [if_pos hq]
   obtain ⟨r',hr',ho⟩:=hc r aQ hq
   have hq':p r'=true:=by rw [← On.keep B hp (hs' r' hr') ho];exact hq
   have:=m3B B hp (R:=R) (R':=R'.erase r') hs0 hw.2 (fun x hx=>hs' x (List.mem_of_mem_erase hx)) fun a ha hpa=>by
    obtain ⟨a',ha',hoa⟩:=hc a (bQ _ ha) hpa
    refine ⟨a',(List.mem_erase_of_ne fun e=>?_).mpr ha',hoa⟩
    subst e
    exact hw.1 a ha ((On.symm B (hs' a' hr') ho).trans hoa)
   refine dQ (tQ this) ?_
   have hmem:r'∈R'.filter p:=tZ.mpr ⟨hr',hq'⟩
   have:(R'.filter p).Perm (r'::(R'.erase r').filter p):=by
    have:=(List.perm_cons_erase hr').filter p
    rw [List.filter_cons,if_pos hq'] at this
    exact this
   rw [this.length_eq];exact uQ _
  ·rw [if_neg hq]
   exact m3B B hp hs0 hw.2 hs' fun a ha=>hc a (bQ _ ha)
theorem Rp.count {f:Dt→Dt} {D:List Dt} (B:Bij f D) {M M':Dt→Prop} {R R':List Dt} (H:Rp f D M R) (H':Rp f D M' R') (hM:∀ y∈D,M y) (hM':∀ y∈D,M' y) {p:Dt→Bool} (hp:∀ d∈D,p (f d)=p d):(R.filter p).length=(R'.filter p).length:=
 jW (m3B B hp H.sub H.pw H'.sub fun r hr _=>(H'.cov r (H.sub r hr)).mp (hM' r (H.sub r hr))) (m3B B hp H'.sub H'.pw H.sub fun r hr _=>(H.cov r (H'.sub r hr)).mp (hM r (H'.sub r hr)))
noncomputable def l7A (T:List Int) (x:Int):Int:=T.getD ((T.idxOf x+1) % T.length) 0
noncomputable def nxt (T:Int→List Int) (d:Dt):Dt:=(d.2,l7A (T d.2) d.1)
theorem x6B {T:List Int} {x:Int} (h:x∈T):l7A T x∈T:=by
 unfold l7A
 have this:=Nat.mod_lt (T.idxOf x+1) (uZ h)
 rw [aK,nQ this]
 exact List.getElem_mem this
theorem mod_succ {a b n:Nat} (ha:a<n) (hb:b<n) (h:(a+1) % n=(b+1) % n):a=b:=by
 rcases Nat.lt_or_ge (a+1) n with p | p <;> rcases Nat.lt_or_ge (b+1) n with q | q
 ·rw [z5K p,z5K q] at h;exact Nat.succ.inj h
 ·have e:b+1=n:=jW hb q
  rw [z5K p,e,Nat.mod_self] at h;exact absurd h (Nat.succ_ne_zero a)
 ·have e:a+1=n:=jW ha p
  rw [z5K q,e,Nat.mod_self] at h;exact absurd h.symm (Nat.succ_ne_zero b)
 ·exact Nat.succ.inj ((jW ha p).trans (jW hb q).symm)
theorem y6B {T:List Int} (hT:T.Nodup) {x y:Int} (hx:x∈T) (hy:y∈T) (h:l7A T x=l7A T y):x=y:=by
 unfold l7A at h
 have hl:0<T.length:=uZ hx
 have h1:=Nat.mod_lt (T.idxOf x+1) hl
 have h2:=Nat.mod_lt (T.idxOf y+1) hl
 rw [aK,nQ h1,aK,nQ h2] at h
 have h:T[(T.idxOf x+1) % T.length]=T[(T.idxOf y+1) % T.length]:=h
 have e:(T.idxOf x+1) % T.length=(T.idxOf y+1) % T.length:=(z9Z h1 hT).mp (by rw [nQ h1,nQ h2,h])
 have ix:=sK hx
 have iy:=sK hy
 have e':=mod_succ ix iy e
 rw [← List.getElem_idxOf ix,← List.getElem_idxOf iy]
 congr 1
theorem bij_of {D:List Dt} {T:Int→List Int} (hD:∀ d,d∈D→d.1∈T d.2) (hT:∀ d∈D,∀ x∈T d.2,(d.2,x)∈D) (hn:∀ d∈D,(T d.2).Nodup):Bij (nxt T) D where
 to:=fun d hd=>hT d hd _ (x6B (hD d hd))
 inj:=fun d hd e he h=>by
  have e1:d.2=e.2:=congrArg Prod.fst h
  have e2:l7A (T d.2) d.1=l7A (T e.2) e.1:=congrArg Prod.snd h
  rw [← e1] at e2
  exact Prod.ext (y6B (hn d hd) (hD d hd) (by rw [e1];exact hD e he) e2) e1
end Fl
namespace Fl
open PySem (Str)
structure Gw (n:Int) (us:List (Int×Int)):Prop where
 n1:1≤n
 n2:n≤16
 up:Up us
 rg:∀ t∈us,0≤t.1∧t.2<n
 nd:us.Nodup
 le:us.length≤40
theorem i2B {p x:Int} {t:Int×Int} (h:t.1<t.2):x∈nb1 p t↔te p x=t:=by
 unfold nb1
 rw [iQ]
 constructor
 ·rintro (hx | hx)
  ·by_cases q:t.1=p
   ·rw [if_pos q,cQ] at hx
    rw [hx,← q,x8A h]
   ·rw [if_neg q] at hx;cases hx
  ·by_cases q:t.2=p
   ·rw [if_pos q,cQ] at hx
    rw [hx,← q,v1A,x8A h]
   ·rw [if_neg q] at hx;cases hx
 ·intro e
  rcases w8A p x with q | q
  ·rw [← e,q];exact .inl (by rw [if_pos rfl];exact cQ.mpr rfl)
  ·rw [← e,q];exact .inr (by rw [if_pos rfl];exact cQ.mpr rfl)
theorem h2B {us:List (Int×Int)} (hu:Up us) {p x:Int}:x∈nbL us p↔te p x∈us:=by
 unfold nbL
 rw [List.mem_flatMap]
 constructor
 ·rintro ⟨t,ht,hx⟩
  rw [(i2B (hu t ht)).mp hx];exact ht
 ·exact fun h=>⟨_,h,(i2B (hu _ h)).mpr rfl⟩
theorem a8A:∀ {us:List (Int×Int)},Up us→us.Nodup→∀ p,(nbL us p).Nodup
 | [],_,_,_=>tW
 | t::us,hu,hn,p=>by
  rw [rQ] at hn
  have ht:=hu t aQ
  have hu':Up us:=fun t h=>hu t (bQ _ h)
  show (nb1 p t++nbL us p).Nodup
  refine z3Q.mpr ⟨?_,a8A hu' hn.2 p,fun a ha b hb e=>?_⟩
  ·unfold nb1
   by_cases q:t.1=p
   ·rw [if_pos q,if_neg fun e=>absurd ht (by rw [q,e];exact Int.lt_irrefl _)]
    exact nd1 _
   ·rw [if_neg q]
    by_cases q':t.2=p
    ·rw [if_pos q'];exact nd1 _
    ·rw [if_neg q'];exact tW
  ·rw [← (i2B ht).mp ha,e] at hn
   exact hn.1 ((h2B hu').mp hb)
theorem z0A {us:List (Int×Int)} (hu:Up us) {p x:Int}:x∈row us p↔adj us p x=true:=by
 rw [hu.adj,row,d2A,h2B hu]
section
variable {n:Int} {us:List (Int×Int)} (W:Gw n us)
include W
theorem Gw.row_nd (p:Int):(row us p).Nodup:=s7A (a8A W.up W.nd p)
theorem Gw.adj_rg {i j:Int} (h:adj us i j=true):i∈rI n∧j∈rI n:=by
 have key:∀ a b,(a,b)∈us→a∈rI n∧b∈rI n:=fun a b h=>by
  have h1:=W.rg _ h
  have h2:a<b:=W.up _ h
  exact ⟨r0A.mpr ⟨h1.1,Int.lt_trans h2 h1.2⟩,r0A.mpr ⟨z4Z (aZ h1.1 h2),h1.2⟩⟩
 rcases p0A.mp h with h | h
 ·exact key _ _ h
 ·exact (key _ _ h).symm
theorem Gw.row_rg (i:Int) (j:Int) (h:j∈row us i):j∈rI n:=(W.adj_rg ((z0A W.up).mp h)).2
theorem Gw.nlen:(rI n).length≤16:=by
 rw [c4A]
 have:=W.n2
 lia
theorem Gw.row_len (p:Int):(row us p).length≤16:=dQ (b0A (W.row_nd p) (W.row_rg p)) W.nlen
theorem Gw.nbL_len (p:Int):(nbL us p).length≤62:=by
 have:=W.row_len p
 rw [row,e2A] at this
 exact dQ this (by decide)
end
theorem rc_cn {us:List (Int×Int)} (hu:Up us) {wo:List Int} {s j:Int} (hs:s∉wo):Rc (row us) (·∉wo) s j↔Cn (tsq us wo) s j:=by
 have key:∀ {i},Rc (row us) (·∉wo) s i→i∉wo:=fun h=>by
  cases h with
  | base=>exact hs
  | step _ _ h=>exact h
 constructor
 ·intro h
  induction h with
  | base=>exact .refl
  | step hi hj ho ih=>exact ih.step (j1A.mpr ⟨(z0A hu).mp hj,key hi,ho⟩)
 ·intro h
  induction h with
  | refl=>exact .base
  | step _ ha ih=>exact ih.step ((z0A hu).mpr (j1A.mp ha).1) (j1A.mp ha).2.2
theorem tsq_nil (us:List (Int×Int)):tsq us []=us:=z0Z.mpr fun t _=>decide_eq_true ⟨fun h=>(nomatch h),fun h=>(nomatch h)⟩
noncomputable def z1A (n:Int) (us:List (Int×Int)):List Dt:=(rI n).flatMap fun i=>(row us i).map fun j=>(i,j)
theorem c1A {n:Int} {us:List (Int×Int)} (W:Gw n us) {d:Dt}:d∈z1A n us↔adj us d.1 d.2=true:=by
 unfold z1A
 rw [List.mem_flatMap]
 constructor
 ·rintro ⟨i,hi,h⟩
  obtain ⟨j,hj,rfl⟩:=qQ.mp h
  exact (z0A W.up).mp hj
 ·exact fun h=>⟨d.1,(W.adj_rg h).1,qQ.mpr ⟨d.2,(z0A W.up).mpr h,rfl⟩⟩
theorem y9B {α β:Type} {g:α→List β} {k:Nat}:∀ {l:List α},(∀ x∈l,(g x).length≤k)→(l.flatMap g).length≤l.length * k
 | [],_=>by rw [List.flatMap_nil];exact sQ _
 | x::l,h=>by
  rw [List.flatMap_cons,fQ,mW,Nat.succ_mul,bZ]
  exact Nat.add_le_add (y9B fun y hy=>h y (bQ _ hy)) (h x aQ)
theorem o0C {n:Int} {us:List (Int×Int)} (W:Gw n us):(z1A n us).length≤256:=by
 refine dQ (y9B (k:=16) fun x _=>?_) (Nat.mul_le_mul_right 16 W.nlen)
 rw [eQ];exact W.row_len x
noncomputable def tv (n:Int) (T:Int→List Int):V:=.list ((rI n).map fun i=>lI (T i))
structure Tn (n:Int) (us:List (Int×Int)) (T:Int→List Int):Prop where
 pm:∀ i∈rI n,(T i).Perm (row us i)
theorem Tn.len {n:Int} {us:List (Int×Int)} {T:Int→List Int} (W:Gw n us) (H:Tn n us T) {i:Int} (h:i∈rI n):(T i).length≤16:=by
 rw [(H.pm i h).length_eq];exact W.row_len i
theorem Tn.bij {n:Int} {us:List (Int×Int)} {T:Int→List Int} (W:Gw n us) (H:Tn n us T):Bij (nxt T) (z1A n us):=by
 refine bij_of (fun d hd=>?_) (fun d hd x hx=>?_) fun d hd=>?_
 ·have h:=(c1A W).mp hd
  exact (H.pm _ (W.adj_rg h).2).mem_iff.mpr ((z0A W.up).mpr (s0A h))
 ·have h:=(c1A W).mp hd
  exact (c1A W).mpr ((z0A W.up).mp ((H.pm _ (W.adj_rg h).2).mem_iff.mp hx))
 ·have h:=(c1A W).mp hd
  exact (H.pm _ (W.adj_rg h).2).nodup_iff.mpr (W.row_nd _)
theorem e8B:∀ a b:List Int,peqL (a.map V.int) (b.map V.int)=decide (a=b)
 | [],[]=>rfl
 | [],_::_=>rfl
 | _::_,[]=>rfl
 | x::a,y::b=>by
  show (decide (x=y) && peqL (a.map V.int) (b.map V.int))=_
  rw [e8B a b,← Bool.decide_and]
  exact decide_eq_decide.mpr (by rw [zK])
theorem l1B (l:List Int):eqOk (lI l)=true:=all_map (p:=f3A 7) (fun _=>rfl) l
theorem eqLI (σ:H) (a b:List Int):e7A σ (.v (lI a)) (.v (lI b))=some (decide (a=b)):=by
 show eqV (lI a) (lI b)=_
 unfold eqV
 rw [l1B,l1B]
 exact congrArg some (e8B a b)
theorem neLI (σ:H) (a b:List Int):u0A σ .ne (.v (lI a)) (.v (lI b))=some (!decide (a=b)):=by rw [q_ns,eqLI];rfl
theorem neRI {σ:H} {i:Nat} {a:List Int} (h:σ[i]?=some (.list (a.map V.int))) (b:List Int):u0A σ .ne (.ref i) (.v (lI b))=some (!decide (a=b)):=by
 have e:e7A σ (.ref i) (.v (lI b))=e7A σ (.v (lI a)) (.v (lI b)):=by
  unfold e7A
  rw [vo_r,h];rfl
 rw [q_ns,e,eqLI];rfl
theorem p6A:∀ {l:List V},(∀ x∈l,peq x x=true)→peqL l l=true
 | [],_=>rfl
 | x::l,h=>by
  show (peq x x && peqL l l)=true
  rw [h x aQ,p6A fun y hy=>h y (bQ _ hy)];rfl
theorem peq_lI (a:List Int):peq (lI a) (lI a)=true:=by
 show peqL _ _=true
 rw [e8B];exact decide_eq_true rfl
theorem i0C {σ:H} {x:V} (h1:eqOk x=true) (h2:peq x x=true):e7A σ (.v x) (.v x)=some true:=by
 show eqV x x=_
 unfold eqV
 rw [h1,h2];rfl
theorem eq_tv (σ:H) (n:Int) (T:Int→List Int):e7A σ (.v (tv n T)) (.v (tv n T))=some true:=by
 refine i0C (all_map (p:=f3A 7) (f:=fun i=>lI (T i)) (fun i=>all_map (p:=f3A 6) (f:=V.int) (fun _=>rfl) (T i)) (rI n)) (p6A fun x hx=>?_)
 obtain ⟨i,_,rfl⟩:=qQ.mp hx
 exact peq_lI _
theorem eq_lT (σ:H) (l:List (Int×Int)):e7A σ (.v (lT l)) (.v (lT l))=some true:=by
 refine i0C (all_map (p:=f3A 7) (fun _=>rfl) l) (p6A fun x hx=>?_)
 obtain ⟨i,_,rfl⟩:=qQ.mp hx
 rw [d8B];exact decide_eq_true rfl
end Fl
namespace Fl
open PySem (Str)
theorem zip_m {α β:Type} (f:α→β) (l:List α):(l.map f).zipIdx=l.zipIdx.map fun q=>(f q.1,q.2):=by
 rw [List.zipIdx_map];rfl
theorem rI_zip {n:Int} {q:Int×Nat} (h:q∈(rI n).zipIdx):q.1=(q.2:Int)∧q.1∈rI n:=by
 have h:=List.mem_zipIdx_iff_getElem?.mp h
 refine ⟨?_,wQ h⟩
 unfold rI at h
 rw [oQ] at h
 obtain ⟨k,hk,e⟩:=xQ.mp h
 rw [← e,← (jQ.mp hk).2,List.getElem_range]
theorem x3A (l:List Int):(l.map V.int).map t0A=l:=by rw [fZ];exact List.map_id l
theorem allI (l:List Int):(l.map V.int).all isInt=true:=all_map (fun _=>rfl) l
theorem d9B {T:List Int} {x:Int} (h:x∈T):x1A (T.map V.int) (.v (.int (Int.fmod ((T.idxOf x:Int)+1) ((T.map V.int).length:Nat))))=some (.int (l7A T x)):=by
 have hl:0<T.length:=uZ h
 have e:Int.fmod ((T.idxOf x:Int)+1) ((T.map V.int).length:Nat)=(((T.idxOf x+1) % T.length:Nat):Int):=by
  rw [eQ,Int.fmod_eq_emod_of_nonneg _ (qW _),Int.natCast_emod];rfl
 have hm:=Nat.mod_lt (T.idxOf x+1) hl
 rw [e]
 refine itL (qW _) ?_
 rw [z2W,oQ,l7A,aK,nQ hm];rfl
theorem gT2 (a b o:O) (g:H):(a::b::(g++[o]))[g.length+2]?=some o:=by
 show (g++[o])[g.length]?=some o
 exact vW
theorem sT2 (a b o p:O) (g:H):(a::b::(g++[o])).set (g.length+2) p=a::b::(g++[p]):=by
 show a::b::(g++[o]).set g.length p=_
 rw [List.set_append_right _ _ (uQ _),Nat.sub_self];rfl
section
variable {C:a0A} (hC:d1A C tab)
include hC
theorem t1B {n:Int} {us:List (Int×Int)} {T:Int→List Int} {K} (W:Gw n us) (H:Tn n us T) (h:∀ σ',K (.bool true) σ'):C "are_turns" [.v (wb n us),.v (tv n T)] [] K:=by
 refine fnA hC 9 rfl rfl (nx ?_)
 dsimp only [b7A,wb,tv]
 kd_p
 have el:((List.map (fun i=>lI (T i)) (rI n)).length:Int)=n:=by
  rw [eQ,c4A]
  exact nW (rK (by decide) W.n1)
 refine br0F (nf (decide_eq_true el)) ?_
 refine nx ?_
 kd_p
 rw [zip_m]
 refine fl3 (fun (q:Int×Nat)=>(lI (T q.1),q.2)) (fun o o' o''=>[("one", o),("turn", o'),("point", o''),("web", some (.v (wb n us))),("turns", some (.v (tv n T)))]) (fun _ _ _=>[]) (fun r _ _ _=>∀ q∈r,q.1=(q.2:Int)∧q.1∈rI n) ?_ ?_ _ _ _ _ fun q hq=>rI_zip hq
 ·intro q r o o' o'' hr W' hW
  obtain ⟨e,hq⟩:=hr q aQ
  kd_p
  refine nx ?_
  kd_p
  refine nx ?_
  kd_p
  refine fl1 V.int (fun o=>[("one", o),("turn", some (.v (lI (T q.1)))),("point", some (iv q.2)),("web", some (.v (wb n us))),("turns", some (.v (tv n T)))]) (fun _=>[]) (fun _ _=>True) ?_ ?_ _ _ True.intro
  ·intro i r o _ W' hW
   kd_p
   refine nx ?_
   kd_p
   refine ⟨rfl,rfl,y2A hC fun _=>?_⟩
   kd_p
   exact ⟨rfl,hW _ True.intro⟩
  ·intro o _
   kd_p
   refine nx ?_
   kd_p
   have hl:=H.len W hq
   refine ⟨so_i _,by rw [eQ];exact vQ hl (by decide),?_⟩
   rw [vs_i]
   refine ⟨sm_m (k:=16) (by rw [e2A];exact hl) rfl,?_⟩
   have hb:=r0A.mp (e ▸ hq)
   refine z4A hC hb.1 hb.2 (W.nbL_len _) fun _=>?_
   refine gx (neLI _ _ _) ?_
   refine brF (nf (decide_eq_true ?_)) ⟨rfl,hW _ _ _ fun q hq=>hr q (bQ _ hq)⟩
   rw [a7B (H.pm _ hq),← e]
   exact srt_srt _
 ·intro o o' o'' _
  kd_p
  refine nx ?_
  kd_p
  exact h _
theorem a1C {n:Int} {T:Int→List Int} {d:Dt} {K} (h2:d.2∈rI n) (hd:d.1∈T d.2) (h:∀ σ',K (tV (nxt T d)) σ'):C "behind" [.v (tv n T),.v (tV d)] [] K:=by
 refine fnA hC 10 rfl rfl (nx ?_)
 dsimp only [s4B,tv]
 kd_p
 refine gx (itR (r0A.mp h2).1 (r0A.mp h2).2) ?_
 refine nx ?_
 kd_p
 rw [x3A]
 refine ⟨rfl,allI _,hd,nx ?_⟩
 kd_p
 refine ⟨fun e=>?_,gx (d9B hd) (h _)⟩
 rw [eQ] at e
 exact absurd (uZ hd) (by lia)
end
end Fl
namespace Fl
open PySem (Str)
theorem lu_c {a k c n:Nat} (h:a+k+c=n) (h2:a+(k+1)≤n):c - 1<c∧a+(k+1)+(c - 1)=n:=by lia
noncomputable def orb (f:Dt→Dt) (x:Dt) (k:Nat):List Dt:=(List.range k).map (itr f x)
theorem u3B (f:Dt→Dt) (x:Dt) (k:Nat):orb f x (k+1)=orb f x k++[itr f x k]:=by
 unfold orb;rw [List.range_succ,z0Q];rfl
theorem f2B {f:Dt→Dt} {x y:Dt} {k:Nat}:y∈orb f x k↔∃ i,i<k∧itr f x i=y:=by
 unfold orb
 rw [qQ]
 exact ⟨fun ⟨i,h,e⟩=>⟨i,lK.mp h,e⟩,fun ⟨i,h,e⟩=>⟨i,lK.mpr h,e⟩⟩
theorem e9A (f:Dt→Dt) (x:Dt) (k:Nat):(orb f x k).length=k:=by unfold orb;rw [eQ,mK]
theorem orb_hd (f:Dt→Dt) (x:Dt) (k:Nat):∃ l,orb f x (k+1)=x::l:=by
 unfold orb;rw [List.range_succ_eq_map,z6Q];exact ⟨_,rfl⟩
structure Wi (f:Dt→Dt) (D:List Dt) (kvs:List (Ky×V)) (Mt:List Dt) (Z:List (Int×List Int)) (R:List Dt):Prop where
 ds:Ds kp kvs Mt
 sub:∀ d∈Mt,d∈D
 rp:Rp f D (·∈Mt) R
 zr:Z.map (·.1)=R.map (·.1)
theorem Wi.zlen {f D kvs Mt Z R} (H:Wi f D kvs Mt Z R) (B:Bij f D) (hD:D.length≤256):Z.length≤256:=by
 have h1:=congrArg List.length H.zr
 rw [eQ,eQ] at h1
 rw [h1]
 refine dQ (b0A (H.rp.pw.imp (S:=fun a b=>a≠b) fun h e=>h (e ▸ On.refl f _)) H.rp.sub) hD
section
variable {C:a0A} (hC:d1A C tab)
include hC
set_option maxHeartbeats 1000000 in
theorem walks_ok {n:Int} {us:List (Int×Int)} {T:Int→List Int} {K} (W:Gw n us) (H:Tn n us T) (h:∀ (Z:List (Int×List Int)) R σ',Rp (nxt T) (z1A n us) (fun _=>True) R→Z.map (·.1)=R.map (·.1)→Z.length≤256→K (.list (Z.map fun z=>lI (z.1::z.2))) σ'):C "walks" [.v (wb n us),.v (tv n T)] [] K:=by
 have hB:=H.bij W
 have hD:=o0C W
 refine fnA hC 11 rfl rfl (nx ?_)
 dsimp only [c0C]
 kd_p
 refine ⟨rfl,rfl,t1B hC W H fun _=>?_⟩
 kd_p
 refine nx ?_
 kd_p
 refine ⟨f1A (sQ 0) rfl,nx ?_⟩
 kd_p
 refine nx ?_
 dsimp only [wb]
 kd_p
 refine ⟨aZ W.n2 (by decide),yW (by decide) W.n1,?_⟩
 rw [g3A]
 refine fl4 V.int (fun (o:Option A×Option A×Option A×Option A) _ _ _=>[("walk", o.1),("step", o.2.1),("other", o.2.2.1),("point", o.2.2.2),("met", some (.ref 1)),("found", some (.ref 0)),("web", some (.v (wb n us))),("turns", some (.v (tv n T)))])
  (fun _ (kvs:List (Ky×V)) (Z:List (Int×List Int)) (g:List O)=>.list (Z.map fun z=>lI (z.1::z.2))::.map kvs::g) (fun r _ kvs Z g=>(∀ i∈r,i∈rI n)∧∃ Mt R,Wi (nxt T) (z1A n us) kvs Mt Z R∧∀ d∈z1A n us,d.1∈r∨d∈Mt) ?_ ?_ (rI n) (_,_,_,_) [] [] [] ⟨fun _ h=>h,[],[],⟨Ds.nil,fun _ h=>(nomatch h),Rp.nil (fun _ _ h=>(nomatch h)),rfl⟩,fun d hd=>.inl (W.adj_rg ((c1A W).mp hd)).1⟩
 ·intro p r o kvs Z g zY0 W' hW
  refine bc fun zZ=>?_
  obtain ⟨hr,Mt,R,I,hc⟩:=zY0
  refine zZ ?_;clear zZ
  have hp:=hr p aQ
  kd_p
  refine nx ?_
  kd_p
  refine z4A hC (r0A.mp hp).1 (r0A.mp hp).2 (W.nbL_len p) fun _=>?_
  kd_p
  refine fl4 V.int (fun (o:Option A×Option A×Option A) _ _ _=>[("walk", o.1),("step", o.2.1),("other", o.2.2),("point", some (iv p)),("met", some (.ref 1)),("found", some (.ref 0)),("web", some (.v (wb n us))),("turns", some (.v (tv n T)))])
   (fun _ (kvs:List (Ky×V)) (Z:List (Int×List Int)) (g:List O)=>.list (Z.map fun z=>lI (z.1::z.2))::.map kvs::g) (fun q _ kvs Z g=>(∀ i∈q,i∈row us p)∧∃ Mt R,Wi (nxt T) (z1A n us) kvs Mt Z R∧∀ d∈z1A n us,(d.1∈r∨(d.1=p∧d.2∈q))∨d∈Mt) ?_ ?_ (row us p) (_,_,_) kvs Z g ⟨fun _ h=>h,Mt,R,I,fun d hd=>?_⟩
  ·intro j q o kvs Z g zY0 W' hW
   refine bc fun zZ=>?_
   obtain ⟨hq,Mt,R,I,hc⟩:=zY0
   refine zZ ?_;clear zZ
   have hj:=hq j aQ
   have hx:(p,j)∈z1A n us:=(c1A W).mpr ((z0A W.up).mp hj)
   kd_p
   refine nx ?_
   kd_p
   refine nx ?_
   kd_p
   refine ⟨f1A (sQ 0) rfl,nx ?_⟩
   kd_p
   refine wl2 (fun k _=>[("walk", some (.ref (g.length+2))),("step", some (.v (tV (itr (nxt T) (p,j) k)))),("other", some (iv j)),("point", some (iv p)),("met", some (.ref 1)),("found", some (.ref 0)),("web", some (.v (wb n us))),("turns", some (.v (tv n T)))])
    (fun k kvs=>.list (Z.map fun z=>lI (z.1::z.2))::.map kvs::(g++[.list (((orb (nxt T) (p,j) k).map (·.1)).map V.int)])) (fun q k kvs=>Ds kp kvs (Mt++orb (nxt T) (p,j) k)∧Mt.length+k+q=(z1A n us).length) ?_ ((z1A n us).length - Mt.length) 0 kvs ⟨by rw [show orb (nxt T) (p,j) 0=[] from rfl,z1Q];exact I.ds,?_⟩
   ·rintro c k kvs ⟨hds,hk⟩ W2 hW2
    kd_p
    have hit:=w1A hB hx k
    have hsub:∀ d∈Mt++orb (nxt T) (p,j) k,d∈z1A n us:=fun d hd=>by
     rcases iQ.mp hd with hd | hd
     ·exact I.sub d hd
     ·refine bc fun zZ=>?_
      obtain ⟨i,_,rfl⟩:=f2B.mp hd
      refine zZ ?_;clear zZ
      exact w1A hB hx i
    by_cases hm:itr (nxt T) (p,j) k∈Mt++orb (nxt T) (p,j) k
    ·refine gx (congrArg _ (hds.inT kfP hm)) (brF rfl ?_)
     refine nx ?_
     kd_p
     rw [gT2]
     kd_p
     rw [eQ,eQ,e9A]
     cases k with
     | zero=>
      refine brF (n7A (fK 0)) ⟨rfl,hW (_,_,_) _ Z _ ⟨fun i hi=>hq i (bQ _ hi),Mt,R,⟨?_,I.sub,I.rp,I.zr⟩,fun d hd=>?_⟩⟩
      ·rw [show orb (nxt T) (p,j) 0=[] from rfl,z1Q] at hds;exact hds
      ·rcases hc d hd with (h1 | ⟨h1,h2⟩) | h1
       ·exact .inl (.inl h1)
       ·rcases lQ.mp h2 with h2 | h2
        ·have:d=itr (nxt T) (p,j) 0:=Prod.ext h1 h2
         rw [show orb (nxt T) (p,j) 0=[] from rfl,z1Q] at hm
         rw [this];exact .inr hm
        ·exact .inl (.inr ⟨h1,h2⟩)
       ·exact .inr h1
     | succ k=>
      obtain ⟨l,hl⟩:=orb_hd (nxt T) (p,j) k
      refine brT (l9A (rZ.mpr (vZ k))) ?_
      refine nx ?_
      kd_p
      rw [gT2]
      kd_p
      rw [sT2]
      kd_p
      have hz:=I.zlen hB hD
      refine ⟨rfl,ap_m hz rfl,rfl,?_⟩
      have e0:V.list (((orb (nxt T) (p,j) (k+1)).map (·.1)).map V.int)=(fun z:Int×List Int=>lI (z.1::z.2)) (p,l.map (·.1)):=by rw [hl];rfl
      rw [e0,ap1]
      have hno:(p,j)∉Mt:=fun hm'=>by
       have:=(z3Q.mp hds.nd).2.2 _ hm' (p,j) (by rw [hl];exact aQ)
       exact this rfl
      refine hW (_,_,_) _ (Z++[(p,l.map (·.1))]) _ ⟨fun i hi=>hq i (bQ _ hi),Mt++orb (nxt T) (p,j) (k+1),R++[(p,j)],⟨hds,hsub,I.rp.stop hB hx hno (k:=k+1) (fun y _=>by rw [iQ,f2B]) hm,?_⟩,fun d hd=>?_⟩
      ·rw [z0Q,z0Q,I.zr];rfl
      ·rcases hc d hd with (h1 | ⟨h1,h2⟩) | h1
       ·exact .inl (.inl h1)
       ·rcases lQ.mp h2 with h2 | h2
        ·have:d=(p,j):=Prod.ext h1 h2
         rw [this,hl];exact .inr (gQ _ aQ)
        ·exact .inl (.inr ⟨h1,h2⟩)
       ·exact .inr (mQ _ h1)
    ·refine gx (congrArg _ (hds.inF kfP hm)) (brT rfl ?_)
     have hlen:(Mt++orb (nxt T) (p,j) k).length≤(z1A n us).length:=b0A hds.nd hsub
     refine nx ?_
     kd_p
     refine gx (hds.putO kfP _ _ (dQ hlen (dQ hD (by decide)))) ?_
     kd_p
     refine nx ?_
     kd_p
     rw [gT2]
     kd_p
     rw [sT2]
     rw [fQ,e9A] at hlen
     refine ⟨rfl,ap_m (k:=256) (by rw [eQ,e9A];exact dQ (dQ (dJ _ _) hlen) hD) rfl,?_⟩
     refine nx ?_
     kd_p
     have hadj:=(c1A W).mp hit
     refine ⟨rfl,rfl,a1C hC (W.adj_rg hadj).2 ((H.pm _ (W.adj_rg hadj).2).mem_iff.mpr ((z0A W.up).mpr (s0A hadj))) fun _=>?_⟩
     kd_p
     rw [ap1,ap1 (f:=fun d:Dt=>d.1),← u3B]
     have hds':=hds.put kfP (itr (nxt T) (p,j) k) (.bool true)
     rw [m1A hm,kQ,← u3B] at hds'
     have hl2:(Mt++orb (nxt T) (p,j) (k+1)).length≤(z1A n us).length:=b0A hds'.nd fun d hd=>by
      rcases iQ.mp hd with hd | hd
      ·exact I.sub d hd
      ·refine bc fun zZ=>?_
       obtain ⟨i,_,rfl⟩:=f2B.mp hd
       refine zZ ?_;clear zZ
       exact w1A hB hx i
     rw [fQ,e9A] at hl2
     exact hW2 (c - 1) (k+1) _ (lu_c hk hl2).1 ⟨hds',(lu_c hk hl2).2⟩
   ·have:=b0A I.ds.nd I.sub
    exact aW this
  ·intro o kvs Z g zY0
   refine bc fun zZ=>?_
   obtain ⟨_,Mt,R,I,hc⟩:=zY0
   refine zZ ?_;clear zZ
   kd_p
   refine ⟨rfl,hW (_,_,_,_) _ Z _ ⟨fun i hi=>hr i (bQ _ hi),Mt,R,I,fun d hd=>?_⟩⟩
   rcases hc d hd with (h1 | ⟨_,h1⟩) | h1
   ·exact .inl h1
   ·cases h1
   ·exact .inr h1
  ·rcases hc d hd with h1 | h1
   ·rcases lQ.mp h1 with h1 | h1
    ·exact .inl (.inr ⟨h1,by rw [← h1];exact (z0A W.up).mpr ((c1A W).mp hd)⟩)
    ·exact .inl (.inl h1)
   ·exact .inr h1
 ·intro o kvs Z g zY0
  refine bc fun zZ=>?_
  obtain ⟨_,Mt,R,I,hc⟩:=zY0
  refine zZ ?_;clear zZ
  kd_p
  refine nx ?_
  kd_p
  exact h Z R _ ⟨I.rp.sub,I.rp.pw,fun y hy=>⟨fun _=>(I.rp.cov y hy).mp ((hc y hy).resolve_left fun h=>nomatch h),fun _=>True.intro⟩⟩ I.zr (I.zlen hB hD)
end
end Fl
namespace Fl
open PySem (Str)
theorem Cn.nil {a b:Int}:Cn [] a b↔a=b:=by
 constructor
 ·intro h
  induction h with
  | refl=>rfl
  | step _ hj _=>rcases p0A.mp hj with h | h <;> cases h
 ·rintro rfl;exact .refl
theorem Cn.snoc {ts:List (Int×Int)} {t:Int×Int} {a b:Int}:Cn (ts++[t]) a b↔Cn ts a b∨(Cn ts a t.1∧Cn ts t.2 b)∨(Cn ts a t.2∧Cn ts t.1 b):=by
 constructor
 ·intro h
  induction h with
  | refl=>exact .inl .refl
  | @step i j _ hj ih=>
   have hj':adj ts i j=true∨(i=t.1∧j=t.2)∨(i=t.2∧j=t.1):=by
    rcases p0A.mp hj with h | h
    ·rcases iQ.mp h with h | h
     ·exact .inl (p0A.mpr (.inl h))
     ·rw [← cQ.mp h];exact .inr (.inl ⟨rfl,rfl⟩)
    ·rcases iQ.mp h with h | h
     ·exact .inl (p0A.mpr (.inr h))
     ·rw [← cQ.mp h];exact .inr (.inr ⟨rfl,rfl⟩)
   rcases hj' with hj | ⟨rfl,rfl⟩ | ⟨rfl,rfl⟩
   ·rcases ih with h | ⟨h1,h2⟩ | ⟨h1,h2⟩
    ·exact .inl (h.step hj)
    ·exact .inr (.inl ⟨h1,h2.step hj⟩)
    ·exact .inr (.inr ⟨h1,h2.step hj⟩)
   ·rcases ih with h | ⟨h1,h2⟩ | ⟨h1,h2⟩
    ·exact .inr (.inl ⟨h,.refl⟩)
    ·exact .inr (.inl ⟨h1,.refl⟩)
    ·exact .inl h1
   ·rcases ih with h | ⟨h1,h2⟩ | ⟨h1,h2⟩
    ·exact .inr (.inr ⟨h,.refl⟩)
    ·exact .inl h1
    ·exact .inr (.inr ⟨h1,.refl⟩)
 ·have e:Cn (ts++[t]) t.1 t.2:=Cn.step .refl (p0A.mpr (.inl (gQ _ (cQ.mpr rfl))))
  have up:∀ {a b},Cn ts a b→Cn (ts++[t]) a b:=fun h=>h.mono fun p hp=>mQ _ hp
  rintro (h | ⟨h1,h2⟩ | ⟨h1,h2⟩)
  ·exact up h
  ·exact (up h1).trans (e.trans (up h2))
  ·exact (up h1).trans (e.symm.trans (up h2))
noncomputable def lst1 (L:Int→Int) (t:Int×Int) (i:Int):Int:=if L i=max (L t.1) (L t.2) then min (L t.1) (L t.2) else L i
structure Lab (n:Int) (ts:List (Int×Int)) (L:Int→Int):Prop where
 eqv:∀ i j,L i=L j↔Cn ts i j
 rg:∀ i∈rI n,L i∈rI n
theorem two_lab {a b i j:Int}:((if i=max a b then min a b else i)=if j=max a b then min a b else j)↔i=j∨(i=a∧b=j)∨(i=b∧a=j):=by
 have key:∀ {a b i j:Int},a≤b→(((if i=b then a else i)=if j=b then a else j)↔i=j∨(i=a∧b=j)∨(i=b∧a=j)):=by
  intro a b i j _
  by_cases h1:i=b
  ·rw [if_pos h1]
   by_cases h2:j=b
   ·rw [if_pos h2];exact ⟨fun _=>.inl (h1.trans h2.symm),fun _=>rfl⟩
   ·rw [if_neg h2]
    refine ⟨fun e=>.inr (.inr ⟨h1,e⟩),fun e=>?_⟩
    rcases e with e | ⟨_,e⟩ | ⟨_,e⟩
    ·exact absurd (e.symm.trans h1) h2
    ·exact absurd e.symm h2
    ·exact e
  ·rw [if_neg h1]
   by_cases h2:j=b
   ·rw [if_pos h2]
    refine ⟨fun e=>.inr (.inl ⟨e,h2.symm⟩),fun e=>?_⟩
    rcases e with e | ⟨e,_⟩ | ⟨e,_⟩
    ·exact absurd (e.trans h2) h1
    ·exact e
    ·exact absurd e h1
   ·rw [if_neg h2]
    refine ⟨.inl,fun e=>?_⟩
    rcases e with e | ⟨_,e⟩ | ⟨e,_⟩
    ·exact e
    ·exact absurd e.symm h2
    ·exact absurd e h1
 rcases Int.le_total a b with h | h
 ·rw [Int.max_eq_right h,z0K h];exact key h
 ·rw [Int.max_eq_left h,Int.min_eq_right h,key h]
  exact or_congr_right Or.comm
theorem Lab.step {n:Int} {ts:List (Int×Int)} {L:Int→Int} (H:Lab n ts L) {t:Int×Int} (h1:t.1∈rI n) (h2:t.2∈rI n):Lab n (ts++[t]) (lst1 L t):=by
 refine ⟨fun i j=>?_,fun i hi=>?_⟩
 ·unfold lst1
  rw [two_lab,Cn.snoc,H.eqv,H.eqv,H.eqv,H.eqv,H.eqv]
 ·unfold lst1
  split
  ·rcases Int.le_total (L t.1) (L t.2) with h | h
   ·rw [z0K h];exact H.rg _ h1
   ·rw [Int.min_eq_right h];exact H.rg _ h2
  ·exact H.rg i hi
theorem h1C {ts:List (Int×Int)} {i j:Int}:adj (ts.map fun t=>te t.1 t.2) i j=true↔adj ts i j=true:=by
 have key:∀ {i j},(i,j)∈(ts.map fun t=>te t.1 t.2)→adj ts i j=true:=fun h=>by
  obtain ⟨t,ht,e⟩:=qQ.mp h
  rcases w8A t.1 t.2 with q | q
  ·rw [e] at q
   exact p0A.mpr (.inl (by rw [q];exact ht))
  ·rw [e] at q
   have e1:=congrArg Prod.fst q
   have e2:=congrArg Prod.snd q
   exact p0A.mpr (.inr (by rw [show (_,_)=t from Prod.ext e2 e1];exact ht))
 have back:∀ {i j},(i,j)∈ts→adj (ts.map fun t=>te t.1 t.2) i j=true:=fun {i j} h=>by
  have:te i j∈ts.map fun t=>te t.1 t.2:=qQ.mpr ⟨_,h,rfl⟩
  rcases w8A i j with q | q <;> rw [q] at this
  ·exact p0A.mpr (.inl this)
  ·exact p0A.mpr (.inr this)
 constructor
 ·intro h
  rcases p0A.mp h with h | h
  ·exact key h
  ·exact s0A (key h)
 ·intro h
  rcases p0A.mp h with h | h
  ·exact back h
  ·exact s0A (back h)
theorem cn_te {ts:List (Int×Int)} {i j:Int}:Cn (ts.map fun t=>te t.1 t.2) i j↔Cn ts i j:=
 ⟨Cn.mono' fun _ _=>h1C.mp,Cn.mono' fun _ _=>h1C.mpr⟩
noncomputable def Gd (n:Int) (us:List (Int×Int)) (R:List Dt) (L:Int→Int) (l:Int):Prop:=
 0<(us.filter fun t=>decide (L t.1=l)).length→((R.filter fun t=>decide (L t.1=l)).length:Int)=((us.filter fun t=>decide (L t.1=l)).length:Int) - (((rI n).filter fun i=>decide (L i=l)).length:Int)+2
theorem len_eq {α:Type} [DecidableEq α] {a b:List α} (ha:a.Nodup) (hb:b.Nodup) (h:∀ x,x∈a↔x∈b):a.length=b.length:=
 jW (b0A ha fun x hx=>(h x).mp hx) (b0A hb fun x hx=>(h x).mpr hx)
theorem i5A {α β:Type} {f:α→β} {p:β→Bool} (l:List α):((l.map f).filter p).length=(l.filter fun x=>p (f x)).length:=by
 rw [List.filter_map,eQ];rfl
theorem piece_is {n:Int} {us:List (Int×Int)} {L:Int→Int} (W:Gw n us) (H:Lab n us L) {X:List Int} {s:Int} (hs:s∈rI n) (hn:X.Nodup) (hX:∀ j,j∈X↔Cn us s j) {Z:List (Int×List Int)} {R:List Dt} (hz:Z.map (·.1)=R.map (·.1)) (hR:∀ r∈R,r∈z1A n us) :
  (us.filter fun t=>decide (t.1∈X)).length=(us.filter fun t=>decide (L t.1=L s)).length∧(Z.filter fun z=>decide (z.1∈X)).length=(R.filter fun t=>decide (L t.1=L s)).length∧X.length=((rI n).filter fun i=>decide (L i=L s)).length:=by
 have key:∀ j,j∈X↔L j=L s:=fun j=>by rw [hX,← H.eqv];exact eq_comm
 have e:∀ j,decide (j∈X)=decide (L j=L s):=fun j=>decide_eq_decide.mpr (key j)
 refine ⟨?_,?_,len_eq hn ((rI_nd n).filter _) fun x=>?_⟩
 ·simp only [e]
 ·simp only [e]
  have h1:=i5A (f:=fun z:Int×List Int=>z.1) (p:=fun j=>decide (L j=L s)) Z
  have h2:=i5A (f:=fun z:Dt=>z.1) (p:=fun j=>decide (L j=L s)) R
  rw [← h1,← h2,hz]
 ·rw [tZ,decide_eq_true_eq]
  refine ⟨fun h=>⟨?_,(key x).mp h⟩,fun h=>(key x).mpr h.2⟩
  exact ((hX x).mp h).keep (P:=fun j=>j∈rI n) (fun i j _ ha=>(W.adj_rg ha).2) hs
end Fl
namespace Fl
open PySem (Str)
theorem tk {b:Bool} {σ:H} {K:Bool→H→Prop} (h:K b σ):if b=true then K true σ else K false σ:=by
 cases b <;> exact h
theorem flen {α:Type} {p:α→Bool} {l:List α} {k:Nat} (h:l.length≤k):(l.filter p).length≤k:=dQ (List.length_filter_le _ _) h
section
variable {C:a0A} (hC:d1A C tab)
include hC
theorem y7B {n:Int} {us:List (Int×Int)} {K} (W:Gw n us) (h:∀ (Z:List (List Int)) σ',Z.length≤16→(∀ X∈Z,X.Nodup∧∃ s∈rI n,∀ j,j∈X↔Cn us s j)→(∀ s∈rI n,∃ X∈Z,s∈X)→K (.list (Z.map lI)) σ'):C "Web.pieces" [.v (wb n us)] [] K:=by
 refine fnA hC 6 rfl rfl (nx ?_)
 dsimp only [s5A,wb]
 kd_p
 refine ⟨f1A (sQ 0) rfl,nx ?_⟩
 kd_p
 refine nx ?_
 kd_p
 refine ⟨aZ W.n2 (by decide),yW (by decide) W.n1,?_⟩
 rw [g3A]
 refine fl4 V.int (fun (o:Option A×Option A×Option A) _ _ _=>[("one", o.1),("piece", o.2.1),("point", o.2.2),("seen", some (.ref 1)),("found", some (.ref 0)),("self", some (.v (wb n us)))])
  (fun _ kvs _ Z=>[.list (Z.map lI),.map kvs]) (fun r _ kvs D Z=>(∀ i∈r,i∈rI n)∧Ds Ky.i kvs D∧(∀ X∈Z,X.Nodup∧∃ s∈rI n,∀ j,j∈X↔Cn us s j)∧(∀ j∈D,j∈rI n∧∃ X∈Z,j∈X)∧(∀ i∈rI n,i∈r∨i∈D)∧Z.length+r.length≤(rI n).length) ?_ ?_ (rI n) (_,_,_) [] [] [] ⟨fun _ h=>h,Ds.nil,fun _ h=>(nomatch h),fun _ h=>(nomatch h),fun i hi=>.inl hi,lZ (iZ _)⟩
 ·intro p r o kvs D Z zY0 W' hW
  refine bc fun zZ=>?_
  obtain ⟨hr,hD,hZ,hDZ,hc,hl⟩:=zY0
  refine zZ ?_;clear zZ
  have hp:=hr p aQ
  have hr':∀ i∈r,i∈rI n:=fun i hi=>hr i (bQ _ hi)
  have hl':Z.length+r.length+1≤(rI n).length:=hl
  kd_p
  refine nx ?_
  kd_p
  by_cases hpD:p∈D
  ·refine gx (congrArg _ (hD.inT kfI hpD)) (brF rfl ⟨rfl,hW (o.1,o.2.1,some (iv p)) _ D Z ⟨hr',hD,hZ,hDZ,fun i hi=>?_,z3W hl'⟩⟩)
   rcases hc i hi with h | h
   ·rcases lQ.mp h with rfl | h
    ·exact .inr hpD
    ·exact .inl h
   ·exact .inr h
  ·refine gx (congrArg _ (hD.inF kfI hpD)) (brT rfl ?_)
   refine nx ?_
   kd_p
   refine ⟨f1A (sQ 0) rfl,rfl,rfl,w7A hC (wo:=[]) W.n2 (fun i _ j hj=>W.row_rg i j hj) hp fun Dp σ' d1 d2 d3=>?_⟩
   have hX:∀ j,j∈srt Dp↔Cn us p j:=fun j=>by
    rw [d2A,d3,rc_cn (wo:=[]) W.up (fun h=>nomatch h),tsq_nil]
   kd_p
   refine nx ?_
   kd_p
   refine fl3 V.int (fun o _ _=>[("one", o),("piece", some (.v (lI (srt Dp)))),("point", some (iv p)),("seen", some (.ref 1)),("found", some (.ref 0)),("self", some (.v (wb n us)))])
    (fun _ kvs _=>[.list (Z.map lI),.map kvs]) (fun q _ kvs D'=>Ds Ky.i kvs D'∧(∀ j∈D',j∈D∨j∈srt Dp)∧(∀ j∈D,j∈D')∧(∀ j∈q,j∈srt Dp)∧∀ j∈srt Dp,j∈q∨j∈D') ?_ ?_ (srt Dp) _ kvs D ⟨hD,fun j hj=>.inl hj,fun j hj=>hj,fun _ h=>h,fun j hj=>.inl hj⟩
   ·intro i q o kvs D' zY0 W' hW
    refine bc fun zZ=>?_
    obtain ⟨e1,e2,e3,e4,e5⟩:=zY0
    refine zZ ?_;clear zZ
    kd_p
    refine nx ?_
    kd_p
    have hsub:∀ j∈D',j∈rI n:=fun j hj=>(e2 j hj).elim (fun h=>(hDZ j h).1) fun h=>d2 j (d2A.mp h)
    refine gx (e1.putO kfI i _ (dQ (dQ (b0A e1.nd hsub) W.nlen) (by decide))) ?_
    kd_p
    refine ⟨rfl,hW _ _ _ ⟨e1.put kfI i _,fun j hj=>?_,fun j hj=>o0A.mpr (.inl (e3 j hj)),fun j hj=>e4 j (bQ _ hj),fun j hj=>?_⟩⟩
    ·rcases o0A.mp hj with h | h
     ·exact e2 j h
     ·exact .inr (h ▸ e4 i aQ)
    ·rcases e5 j hj with h | h
     ·rcases lQ.mp h with h | h
      ·exact .inr (o0A.mpr (.inr h))
      ·exact .inl h
     ·exact .inr (o0A.mpr (.inl h))
   ·intro o kvs D' zY0
    refine bc fun zZ=>?_
    obtain ⟨e1,e2,e3,_,e5⟩:=zY0
    refine zZ ?_;clear zZ
    kd_p
    refine nx ?_
    kd_p
    have hz:Z.length≤16:=dQ (dQ (z5Q _ _) (z3W hl')) W.nlen
    refine ⟨rfl,ap_m hz rfl,?_⟩
    rw [ap1]
    refine ⟨rfl,hW (_,_,_) _ D' (Z++[srt Dp]) ⟨hr',e1,fun X hX'=>?_,fun j hj=>?_,fun i hi=>?_,?_⟩⟩
    ·rcases iQ.mp hX' with h | h
     ·exact hZ X h
     ·rw [cQ.mp h];exact ⟨s7A d1,p,hp,hX⟩
    ·rcases e2 j hj with h | h
     ·refine bc fun zZ=>?_
      obtain ⟨a,X,b,c⟩:=hDZ j h
      refine zZ ?_;clear zZ
      exact ⟨a,X,mQ _ b,c⟩
     ·exact ⟨d2 j (d2A.mp h),_,gQ _ (cQ.mpr rfl),h⟩
    ·rcases hc i hi with h | h
     ·rcases lQ.mp h with rfl | h
      ·exact .inr ((e5 i ((hX i).mpr .refl)).resolve_left fun h=>nomatch h)
      ·exact .inl h
     ·exact .inr (e3 i h)
    ·rw [fQ,wK];exact hl'
 ·intro o kvs D Z zY0
  refine bc fun zZ=>?_
  obtain ⟨_,hD,hZ,hDZ,hc,hl⟩:=zY0
  refine zZ ?_;clear zZ
  kd_p
  refine nx ?_
  kd_p
  exact h Z _ (dQ hl W.nlen) hZ fun s hs=>(hDZ s ((hc s hs).resolve_left fun h=>nomatch h)).2
theorem z9B {n:Int} {us:List (Int×Int)} {T:Int→List Int} {L:Int→Int} {K} (W:Gw n us) (H:Tn n us T) (hL:Lab n us L)
  (h:∀ b R σ',Rp (nxt T) (z1A n us) (fun _=>True) R→(b=true↔∀ s∈rI n,Gd n us R L (L s))→K (.bool b) σ'):C "flat" [.v (wb n us),.v (tv n T)] [] K:=by
 refine fnA hC 12 rfl rfl (nx ?_)
 dsimp only [f_flat]
 kd_p
 refine ⟨rfl,rfl,walks_ok hC W H fun Z R σ' hR hz hzl=>?_⟩
 kd_p
 refine nx ?_
 kd_p
 refine y7B hC W fun P σ' hl hP hall=>?_
 kd_p
 refine fl1 lI (fun (o:Option A×Option A×Option A)=>[("count", o.1),("many", o.2.1),("piece", o.2.2),("all_walks", some (.v (.list (Z.map fun z=>lI (z.1::z.2))))),("web", some (.v (wb n us))),("turns", some (.v (tv n T)))]) (fun _=>[])
  (fun r _=>(∀ X∈r,X∈P)∧∀ s∈rI n,(∃ X∈r,s∈X)∨Gd n us R L (L s)) ?_ ?_ P (_,_,_) ⟨fun _ h=>h,fun s hs=>.inl (hall s hs)⟩
 ·rintro X r o ⟨hr,hg⟩ W' hW
  refine bc fun zZ=>?_
  obtain ⟨hn,s,hs,hX⟩:=hP X (hr X aQ)
  obtain ⟨c1,c2,c3⟩:=piece_is W hL hs hn hX hz hR.sub
  refine zZ ?_;clear zZ
  kd_p
  refine nx ?_
  kd_p
  refine x1B hC W.le fun _=>?_
  kd_p
  refine cp tV (fun t=>decide (t.1∈X)) tV (srtT us) (fun t _=>?_) ?_
  ·kd_p
   exact ⟨fun K hk=>gx (inLi _ _) (tk hk),fun _ K hk=>hk⟩
  rw [eQ,((l1A us).filter _).length_eq,c1]
  refine ⟨sm_m (k:=40) (flen (by rw [(l1A us).length_eq];exact W.le)) rfl,nx ?_⟩
  kd_p
  refine cp (fun z:Int×List Int=>lI (z.1::z.2)) (fun z=>decide (z.1∈X)) (fun z:Int×List Int=>lI (z.1::z.2)) Z (fun z _=>?_) ?_
  ·kd_p
   refine ⟨fun K hk=>gx (itL (x:=.int z.1) (fK 0) rfl) ?_,fun _ K hk=>hk⟩
   kd_p
   exact gx (inLi _ _) (tk hk)
  rw [eQ,c2]
  refine ⟨sm_m (k:=256) (flen hzl) rfl,nx ?_⟩
  kd_p
  have hgd:∀ s'∈rI n,s'∈X→L s'=L s:=fun s' _ h=>((hL.eqv s s').mpr ((hX s').mp h)).symm
  have bad:¬ Gd n us R L (L s)→K (.bool false) []:=fun hb=>h false R _ hR ⟨fun h=>(nomatch h),fun h=>absurd (h s hs) hb⟩
  have good:Gd n us R L (L s)→∀ o,W' [("count", some (iv (R.filter fun t=>decide (L t.1=L s)).length)),("many", some (iv (us.filter fun t=>decide (L t.1=L s)).length)),("piece", o),("all_walks", some (.v (.list (Z.map fun z=>lI (z.1::z.2))))),("web", some (.v (wb n us))),("turns", some (.v (tv n T)))] []:=fun hg' o=>hW (_,_,_) ⟨fun Y hY=>hr Y (bQ _ hY),fun s' hs'=>by
   rcases hg s' hs' with ⟨Y,hY,h⟩ | h
   ·rcases lQ.mp hY with rfl | hY
    ·exact .inr (by rw [hgd s' hs' h];exact hg')
    ·exact .inl ⟨Y,hY,h⟩
   ·exact .inr h⟩
  refine br (fun q1=>br (fun q2=>nx ?_) fun q2=>?_) fun q1=>?_
  ·kd_p
   refine bad fun hg'=>?_
   have:=hg' (rZ.mp (c1B q1))
   rw [eQ,c3] at q2
   rw [this,decide_eq_true rfl] at q2
   cases q2
  ·refine ⟨rfl,good (fun _=>?_) _⟩
   rw [eQ,c3] at q2
   exact of_decide_eq_true (nfi q2)
  ·refine ⟨rfl,good (fun h=>?_) _⟩
   exact absurd (rZ.mpr h) (kZ.mpr (j4B q1))
 ·rintro o ⟨_,hg⟩
  kd_p
  refine nx ?_
  kd_p
  exact h true R _ hR ⟨fun _ s hs=>(hg s hs).resolve_left fun ⟨_,h,_⟩=>(nomatch h),fun _=>rfl⟩
end
end Fl
namespace Fl
open PySem (Str)
structure Gt (n:Int) (ts:List (Int×Int)):Prop where
 w:Gw n (ts.map fun t=>te t.1 t.2)
 rg:∀ t∈ts,t.1∈rI n∧t.2∈rI n
 le:ts.length≤40
noncomputable def unT (v:V):Int×Int:=match v with
 | .tup [.int a,.int b]=>(a,b)
 | _=>(0,0)
theorem perm_tV {ys:List V} {l:List (Int×Int)} (h:ys.Perm (l.map tV)):∃ zs:List (Int×Int),ys=zs.map tV∧zs.Perm l:=by
 refine ⟨ys.map unT,?_,?_⟩
 ·rw [fZ]
  have:ys.map (tV ∘ unT)=ys.map id:=z4K fun y hy=>by
   obtain ⟨p,_,rfl⟩:=qQ.mp (h.mem_iff.mp hy)
   rfl
  rw [this,List.map_id]
 ·have h2:=h.map unT
  rw [fZ] at h2
  have e:l.map (unT ∘ tV)=l:=List.map_id l
  rw [e] at h2
  exact h2
theorem i4B {ob:O} {kvs:List (Ky×V)} (h:oB ob=some kvs) (x:V):inO x ob=inM x kvs:=by
 cases ob <;> first | exact nons h | (cases h;rfl)
theorem e8A {n:Int} {L:Int→Int} {i:Int} (h:i∈rI n):x1A (((rI n).map L).map V.int) (.v (.int i))=some (.int (L i)):=by
 rw [fZ]
 exact itR (f:=fun i=>V.int (L i)) (r0A.mp h).1 (r0A.mp h).2
theorem ifx_k {b:Bool} {x y:V} {σ:H} {K:A→H→Prop} (h:K (.v (bif b then x else y)) σ):if b=true then K (.v x) σ else K (.v y) σ:=by
 cases b <;> exact h
theorem m1B {L:Int→Int} {l:Int}:∀ xs:List Int,(xs.map L).count l=(xs.filter fun i=>decide (L i=l)).length
 | []=>rfl
 | x::xs=>by
  rw [z6Q,List.count_cons,List.filter_cons,m1B xs]
  by_cases h:L x=l
  ·rw [if_pos (beq_iff_eq.mpr h),if_pos (decide_eq_true h)];rfl
  ·rw [if_neg fun e=>h (beq_iff_eq.mp e),if_neg (by rw [decide_eq_false h];exact mZ)];rfl
noncomputable def labF (ts:List (Int×Int)):Int→Int:=ts.foldl lst1 id
theorem lab_go {n:Int}:∀ {r dn:List (Int×Int)} {L:Int→Int},(∀ t∈r,t.1∈rI n∧t.2∈rI n)→Lab n dn L→Lab n (dn++r) (r.foldl lst1 L)
 | [],dn,L,_,H=>by rw [z1Q];exact H
 | t::r,dn,L,h,H=>by
  have:=lab_go (r:=r) (fun u hu=>h u (bQ _ hu)) (H.step (h t aQ).1 (h t aQ).2)
  rw [kQ] at this
  exact this
theorem Gt.lab {n:Int} {ts:List (Int×Int)} (G:Gt n ts):Lab n ts (labF ts):=
 lab_go (dn:=[]) G.rg ⟨fun i j=>by rw [Cn.nil];exact Iff.rfl,fun i hi=>hi⟩
section
variable {C:a0A} (hC:d1A C tab)
include hC
theorem w8B {n:Int} {ts:List (Int×Int)} {K} (G:Gt n ts) (h:∀ σ',K (lI ((rI n).map (labF ts))) σ'):C "_law_labels" [.v (lT ts),iv n] [] K:=by
 refine fnA hC 35 rfl rfl (nx ?_)
 dsimp only [x4A]
 kd_p
 refine ⟨aZ G.w.n2 (by decide),yW (by decide) G.w.n1,?_⟩
 rw [g3A,show (rI n).map V.int=((rI n).map id).map V.int by rw [List.map_id]]
 refine ⟨sm_m (k:=16) (by rw [eQ];exact G.w.nlen) rfl,nx ?_⟩
 kd_p
 refine fl2 tV (fun (o:Option A×Option A×Option A) L=>[("_law_high", o.1),("_law_low", o.2.1),("_law_tie", o.2.2),("_law_labels_here", some (.v (lI ((rI n).map L)))),("_law_ties_here", some (.v (lT ts))),("_law_many_here", some (iv n))]) (fun _ _=>[])
  (fun r _ L=>(∀ t∈r,t∈ts)∧r.foldl lst1 L=labF ts) ?_ ?_ ts (_,_,_) id ⟨fun _ h=>h,rfl⟩
 ·rintro t r o L ⟨hr,e⟩ W' hW
  have ht:=G.rg t (hr t aQ)
  kd_p
  refine nx ?_
  kd_p
  refine gx (e8A ht.1) ?_
  refine gx (e8A ht.2) ?_
  kd_p
  refine nx ?_
  kd_p
  refine gx (e8A ht.1) ?_
  refine gx (e8A ht.2) ?_
  kd_p
  refine nx ?_
  kd_p
  refine cp V.int (fun _=>true) (fun x=>V.int (if x=max (L t.1) (L t.2) then min (L t.1) (L t.2) else x)) ((rI n).map L) (fun x _=>?_) ?_
  ·kd_p
   refine ⟨fun K hk=>hk,fun _ K hk=>ifx_k ?_⟩
   by_cases hx:x=max (L t.1) (L t.2)
   ·rw [if_pos hx] at hk;rw [decide_eq_true hx];exact hk
   ·rw [if_neg hx] at hk;rw [decide_eq_false hx];exact hk
  ·rw [z0Z.mpr (fun _ _=>rfl)]
   refine ⟨sm_m (k:=16) (by rw [eQ];exact G.w.nlen) rfl,?_⟩
   have e2:((rI n).map L).map (fun x=>V.int (if x=max (L t.1) (L t.2) then min (L t.1) (L t.2) else x))=((rI n).map (lst1 L t)).map V.int:=by
    rw [fZ,fZ];rfl
   rw [e2]
   exact ⟨rfl,hW (_,_,_) _ ⟨fun u hu=>hr u (bQ _ hu),e⟩⟩
 ·rintro o L ⟨_,e⟩
  have e:L=labF ts:=e
  subst e
  kd_p
  refine nx ?_
  kd_p
  exact h _
theorem a0C {n:Int} {ts:List (Int×Int)} {T:Int→List Int} {K} (G:Gt n ts) (H:Tn n (ts.map fun t=>te t.1 t.2) T) (h:∀ F σ',Rp (nxt T) (z1A n (ts.map fun t=>te t.1 t.2)) (fun _=>True) F→F.length≤100→K (lT F) σ'):C "_law_firsts" [.v (tv n T),.v (lT ts)] [] K:=by
 have hB:=H.bij G.w
 refine fnA hC 36 rfl rfl (nx ?_)
 dsimp only [y4A]
 kd_p
 refine nx ?_
 kd_p
 refine fl4 tV (fun o _ _ _=>[("_law_turn", none),("_law_step", none),("_law_firsts_here", none),("_law_tie", o),("_law_left", some (.ref 0)),("_law_turns", some (.v (tv n T))),("_law_ties_here", some (.v (lT ts)))]) (fun _ kvs _ _=>[.map kvs])
  (fun r _ kvs D dn=>Ds kp kvs D∧dn++r=ts∧(∀ d,d∈D↔adj dn d.1 d.2=true)∧D.length≤2 * dn.length) ?_ ?_ ts _ [] [] [] ⟨Ds.nil,rfl,fun d=>⟨fun h=>(nomatch h),fun h=>by rcases p0A.mp h with h | h <;> cases h⟩,uQ _⟩
 ·intro t r o kvs D dn zY0 W' hW
  refine bc fun zZ=>?_
  obtain ⟨hD,e,hm,hl⟩:=zY0
  refine zZ ?_;clear zZ
  have hdn:dn.length≤40:=by have:=G.le;rw [← e,fQ] at this;exact dQ (z5Q _ _) this
  have hl':D.length≤1000:=dQ hl (dQ (dK 2 hdn) (by decide))
  kd_p
  refine nx ?_
  kd_p
  refine gx (hD.putO kfP t _ hl') ?_
  kd_p
  refine nx ?_
  kd_p
  have hD1:=hD.put kfP t (.bool true)
  have hl1:=k9A D t
  refine gx (hD1.putO kfP (t.2,t.1) _ (dQ hl1 (dQ (tQ (dQ hl (dK 2 hdn))) (by decide)))) ?_
  kd_p
  refine ⟨rfl,hW _ _ _ (dn++[t]) ⟨hD1.put kfP (t.2,t.1) (.bool true),by rw [kQ];exact e,fun d=>?_,?_⟩⟩
  ·rw [o0A,o0A,hm,p0A,p0A,iQ,iQ,cQ,cQ]
   constructor
   ·rintro (((h | h) | h) | h)
    ·exact .inl (.inl h)
    ·exact .inr (.inl h)
    ·exact .inl (.inr h)
    ·exact .inr (.inr (by rw [h]))
   ·rintro ((h | h) | (h | h))
    ·exact .inl (.inl (.inl h))
    ·exact .inl (.inr h)
    ·exact .inl (.inl (.inr h))
    ·exact .inr (by rw [← h])
  ·rw [fQ]
   exact dQ (k9A _ _) (tQ (dQ hl1 (tQ hl)))
 ·intro o0 kvs0 D dn zY0
  refine bc fun zZ=>?_
  obtain ⟨hD,e,hm,hl⟩:=zY0
  refine zZ ?_;clear zZ
  rw [z1Q] at e
  subst e
  have hmd:∀ d,d∈D↔d∈z1A n (dn.map fun t=>te t.1 t.2):=fun d=>by rw [hm,c1A G.w,h1C]
  have hl80:D.length≤80:=dQ hl (dK 2 G.le)
  kd_p
  refine nx ?_
  kd_p
  refine ⟨f1A (sQ 0) rfl,nx ?_⟩
  kd_p
  rw [hD.itsP]
  refine ⟨⟨so_t D,by rw [eQ];exact vQ hl80 (by decide)⟩,fun ys hys=>?_⟩
  refine bc fun zZ=>?_
  obtain ⟨zs,rfl,hp⟩:=perm_tV hys
  refine zZ ?_;clear zZ
  refine ⟨sm_m (k:=80) (by rw [hp.length_eq];exact hl80) rfl,?_⟩
  refine fl5 tV (fun (o:Option A×Option A) _ _ _ _=>[("_law_turn", o.1),("_law_step", o.2),("_law_firsts_here", some (.ref 1)),("_law_tie", o0),("_law_left", some (.ref 0)),("_law_turns", some (.v (tv n T))),("_law_ties_here", some (.v (lT dn)))]) (fun _ ob _ _ F=>[ob,.list (F.map tV)])
   (fun r _ ob kvs L F=>oB ob=some kvs∧Ds kp kvs L∧(∀ d∈L,d∈D)∧Rp (nxt T) (z1A n (dn.map fun t=>te t.1 t.2)) (·∉L) F∧(∀ d∈r,d∈D)∧∀ d∈D,d∈r∨d∉L) ?_ ?_ zs (_,_) (.map kvs0) kvs0 D [] ⟨rfl,hD,fun _ h=>h,Rp.nil fun y hy h=>h ((hmd y).mpr hy),fun d hd=>hp.mem_iff.mp hd,fun d hd=>.inl (hp.mem_iff.mpr hd)⟩
  ·intro x r o ob kvs L F zY0 W' hW
   refine bc fun zZ=>?_
   obtain ⟨hob,hL,hsub,hR,hr,hc⟩:=zY0
   refine zZ ?_;clear zZ
   have hxD:=hr x aQ
   have hx:x∈z1A n (dn.map fun t=>te t.1 t.2):=(hmd x).mp hxD
   have hF:F.length≤80:=dQ (b0A (hR.pw.imp (S:=fun a b=>a≠b) fun h e=>h (e ▸ On.refl _ _)) fun r hr=>(hmd r).mpr (hR.sub r hr)) hl80
   have key:∀ F',(x∈L→F'=F++[x])→(x∉L→F'=F)→∀ oT,xSs C [.whl (.cmp (.x "_law_step") .isin (.x "_law_left")) [.ex (.dpop (.x "_law_left") (.x "_law_step")),
     .asg "_law_turn" (.item (.x "_law_turns") (.item (.x "_law_step") (.c (.int 1)))),
     .asg "_law_step" (.tup [.item (.x "_law_step") (.c (.int 1)),.item (.x "_law_turn") (.bin .mod (.bin .add (.lm (.x "_law_turn") .index [.item (.x "_law_step") (.c (.int 0))]) (.c (.int 1))) (.bi .len [.x "_law_turn"]))])]]
     [("_law_turn", oT),("_law_step", some (.v (tV x))),("_law_firsts_here", some (.ref 1)),("_law_tie", o0),("_law_left", some (.ref 0)),("_law_turns", some (.v (tv n T))),("_law_ties_here", some (.v (lT dn)))] [ob,.list (F'.map tV)]
     (lpK (fun σ'=>Stay σ' (.v (.list (zs.map tV))) (objA [.map kvs0,.list []] (.v (.list (zs.map tV))))) W' (kK C [.ret (.frz (.x "_law_firsts_here"))] (retF K))):=by
    intro F' hF1 hF2 oT
    refine nx ?_
    kd_p
    refine wl5 (fun oT k _ _ _=>[("_law_turn", oT),("_law_step", some (.v (tV (itr (nxt T) x k)))),("_law_firsts_here", some (.ref 1)),("_law_tie", o0),("_law_left", some (.ref 0)),("_law_turns", some (.v (tv n T))),("_law_ties_here", some (.v (lT dn)))]) (fun _ _ ob _ _=>[ob,.list (F'.map tV)])
     (fun q _ k ob kvs L'=>oB ob=some kvs∧Ds kp kvs L'∧(∀ d,d∈L'↔d∈L∧∀ i,i<k→itr (nxt T) x i≠d)∧(x∉L→k=0)∧q=L'.length) ?_ _ oT 0 ob kvs L ⟨hob,hL,fun d=>⟨fun h=>⟨h,fun i hi=>absurd hi (z5Z i)⟩,fun h=>h.1⟩,fun _=>rfl,rfl⟩
    rintro q oT k ob kvs L' ⟨hob,hL',hm',hk0,rfl⟩ W2 hW2
    kd_p
    by_cases hm:itr (nxt T) x k∈L'
    ·refine gx ((i4B hob _).trans (hL'.inT kfP hm)) (brT rfl ?_)
     refine bc fun zZ=>?_
     obtain ⟨⟨y,hy⟩,L2,hL2,hm2,hlen⟩:=hL'.del kfP hm
     refine zZ ?_;clear zZ
     have hit:itr (nxt T) x k∈z1A n (dn.map fun t=>te t.1 t.2):=w1A hB hx k
     have hadj:=(c1A G.w).mp hit
     have h2:=(G.w.adj_rg hadj).2
     have hd:(itr (nxt T) x k).1∈T (itr (nxt T) x k).2:=(H.pm _ h2).mem_iff.mpr ((z0A G.w.up).mpr (s0A hadj))
     refine nx ?_
     kd_p
     refine ⟨⟨0,rfl,_,_,rfl,hob⟩,gx hob (gx (f3B (kp _)) ⟨hL'.fit kfP _,rfl,gx hy ?_⟩)⟩
     kd_p
     refine nx ?_
     dsimp only [tv]
     kd_p
     refine gx (itR (r0A.mp h2).1 (r0A.mp h2).2) ?_
     kd_p
     refine nx ?_
     kd_p
     rw [x3A]
     refine ⟨rfl,allI _,hd,fun e=>?_,gx (d9B hd) ?_⟩
     ·rw [eQ] at e
      exact absurd (uZ hd) (by lia)
     ·kd_p
      refine hW2 L2.length _ (k+1) _ _ L2 (by rw [← hlen];exact nZ _) ⟨rfl,hL2,fun d=>?_,fun hxL=>?_,rfl⟩
      ·rw [hm2,hm']
       constructor
       ·intro zY0
        refine bc fun zZ=>?_
        obtain ⟨⟨h1,h2⟩,h3⟩:=zY0
        refine zZ ?_;clear zZ
        refine ⟨h1,fun i hi=>?_⟩
        rcases Nat.lt_or_ge i k with h | h
        ·exact h2 i h
        ·rw [jW (rW hi) h];exact Ne.symm h3
       ·rintro ⟨h1,h2⟩
        exact ⟨⟨h1,fun i hi=>h2 i (z8Z hi)⟩,Ne.symm (h2 k (nZ k))⟩
      ·have:=hk0 hxL
       subst this
       exact absurd ((hm' _).mp hm).1 hxL
    ·refine gx ((i4B hob _).trans (hL'.inF kfP hm)) (brF rfl ⟨rfl,hW (_,_) ob kvs L' F' ⟨hob,hL',fun d hd=>hsub d ((hm' d).mp hd).1,?_,fun d hd=>hr d (bQ _ hd),fun d hd=>?_⟩⟩)
     ·by_cases hxL:x∈L
      ·rw [hF1 hxL]
       refine hR.stop hB hx (fun h=>h hxL) (k:=k) (fun y _=>?_) hm
       rw [hm']
       constructor
       ·intro hn
        by_cases hy:y∈L
        ·refine .inr (Classical.byContradiction fun hne=>hn ⟨hy,fun i hi e=>hne ⟨i,hi,e⟩⟩)
        ·exact .inl hy
       ·rintro (h | ⟨i,hi,e⟩) ⟨h1,h2⟩
        ·exact h h1
        ·exact h2 i hi e
      ·have:=hk0 hxL
       subst this
       rw [hF2 hxL]
       exact hR.of fun y _=>not_congr ((hm' y).trans ⟨fun h=>h.1,fun h=>⟨h,fun i hi=>absurd hi (z5Z i)⟩⟩)
     ·rcases hc d hd with h | h
      ·rcases lQ.mp h with rfl | h
       ·refine .inr fun hdL=>?_
        cases k with
        | zero=>exact hm hdL
        | succ k=>exact ((hm' d).mp hdL).2 0 (vZ k) rfl
       ·exact .inl h
      ·exact .inr fun hdL=>h ((hm' d).mp hdL).1
   kd_p
   refine nx ?_
   kd_p
   by_cases hxL:x∈L
   ·refine gx ((i4B hob _).trans (hL.inT kfP hxL)) (brT rfl (nx ?_))
    kd_p
    refine ⟨rfl,ap_m hF rfl,?_⟩
    rw [ap1]
    exact key _ (fun _=>rfl) (fun h=>absurd hxL h) _
   ·refine gx ((i4B hob _).trans (hL.inF kfP hxL)) (brF rfl ?_)
    exact key _ (fun h=>absurd h hxL) (fun _=>rfl) _
  ·intro o ob kvs L F zY0
   refine bc fun zZ=>?_
   obtain ⟨hob,hL,hsub,hR,hr,hc⟩:=zY0
   refine zZ ?_;clear zZ
   kd_p
   refine nx ?_
   kd_p
   have hF:F.length≤80:=dQ (b0A (hR.pw.imp (S:=fun a b=>a≠b) fun h e=>h (e ▸ On.refl _ _)) fun r hr=>(hmd r).mpr (hR.sub r hr)) hl80
   exact h F _ (hR.of fun y hy=>⟨fun _=>(hc y ((hmd y).mpr hy)).resolve_left fun h=>(nomatch h),fun _=>True.intro⟩) (dQ hF (by decide))
theorem g8A {n:Int} {ts:List (Int×Int)} {T:Int→List Int} {K} (G:Gt n ts) (H:Tn n (ts.map fun t=>te t.1 t.2) T)
  (h:∀ b F σ',Rp (nxt T) (z1A n (ts.map fun t=>te t.1 t.2)) (fun _=>True) F→(b=true↔∀ l∈rI n,Gd n ts F (labF ts) l)→K (.bool b) σ'):C "_law_is_flat" [.v (tv n T),.v (lT ts),iv n] [] K:=by
 refine fnA hC 37 rfl rfl (nx ?_)
 dsimp only [g4A]
 kd_p
 refine ⟨rfl,rfl,w8B hC G fun _=>?_⟩
 kd_p
 refine nx ?_
 kd_p
 refine ⟨rfl,rfl,a0C hC G H fun F _ hR hF=>?_⟩
 kd_p
 refine nx ?_
 kd_p
 refine ⟨aZ G.w.n2 (by decide),yW (by decide) G.w.n1,?_⟩
 rw [g3A]
 refine fl1 V.int (fun (o:Option A×Option A×Option A×Option A)=>[("_law_seen", o.1),("_law_points", o.2.1),("_law_own", o.2.2.1),("_law_label", o.2.2.2),("_law_firsts_here", some (.v (lT F))),("_law_labels_here", some (.v (lI ((rI n).map (labF ts))))),("_law_turns", some (.v (tv n T))),("_law_ties_here", some (.v (lT ts))),("_law_many_here", some (iv n))]) (fun _=>[])
  (fun r _=>(∀ l∈r,l∈rI n)∧∀ l∈rI n,l∈r∨Gd n ts F (labF ts) l) ?_ ?_ (rI n) (_,_,_,_) ⟨fun _ h=>h,fun l hl=>.inl hl⟩
 ·rintro l r o ⟨hr,hg⟩ W' hW
  kd_p
  refine nx ?_
  kd_p
  refine cp tV (fun t=>decide (labF ts t.1=l)) tV ts (fun t ht=>?_) ?_
  ·kd_p
   refine ⟨fun K hk=>gx (e8A (G.rg t ht).1) ?_,fun _ K hk=>hk⟩
   kd_p
   exact tk hk
  rw [eQ]
  refine ⟨sm_m (k:=40) (flen G.le) rfl,nx ?_⟩
  kd_p
  rw [x3A,m1B]
  refine ⟨rfl,allI _,nx ?_⟩
  kd_p
  refine cp tV (fun t=>decide (labF ts t.1=l)) tV F (fun t ht=>?_) ?_
  ·kd_p
   refine ⟨fun K hk=>gx (e8A (G.w.adj_rg ((c1A G.w).mp (hR.sub t ht))).1) ?_,fun _ K hk=>hk⟩
   kd_p
   exact tk hk
  refine ⟨sm_m (k:=100) (flen hF) rfl,nx ?_⟩
  kd_p
  rw [eQ]
  have nxt':Gd n ts F (labF ts) l→∀ o,W' [("_law_seen", some (.v (lT (F.filter fun t=>decide (labF ts t.1=l))))),("_law_points", some (iv ((rI n).filter fun i=>decide (labF ts i=l)).length)),("_law_own", some (iv (ts.filter fun t=>decide (labF ts t.1=l)).length)),("_law_label", o),("_law_firsts_here", some (.v (lT F))),("_law_labels_here", some (.v (lI ((rI n).map (labF ts))))),("_law_turns", some (.v (tv n T))),("_law_ties_here", some (.v (lT ts))),("_law_many_here", some (iv n))] []:=fun hg' o=>hW (_,_,_,_) ⟨fun k hk=>hr k (bQ _ hk),fun k hk=>by
   rcases hg k hk with h | h
   ·rcases lQ.mp h with rfl | h
    ·exact .inr hg'
    ·exact .inl h
   ·exact .inr h⟩
  refine br (fun q1=>br (fun q2=>nx ?_) fun q2=>?_) fun q1=>?_
  ·kd_p
   refine h false F _ hR ⟨fun h=>(nomatch h),fun h=>?_⟩
   have:=h l (hr l aQ) (rZ.mp (c1B q1))
   rw [this,decide_eq_true rfl] at q2
   cases q2
  ·exact ⟨rfl,nxt' (fun _=>of_decide_eq_true (nfi q2)) _⟩
  ·exact ⟨rfl,nxt' (fun h=>absurd (rZ.mpr h) (kZ.mpr (j4B q1))) _⟩
 ·rintro o ⟨_,hg⟩
  kd_p
  refine nx ?_
  kd_p
  exact h true F _ hR ⟨fun _ l hl=>(hg l hl).resolve_left fun h=>(nomatch h),fun _=>rfl⟩
end
theorem Gt.labU {n:Int} {ts:List (Int×Int)} (G:Gt n ts):Lab n (ts.map fun t=>te t.1 t.2) (labF ts):=⟨fun i j=>by rw [cn_te];exact G.lab.eqv i j,G.lab.rg⟩
theorem h1B {n:Int} {ts:List (Int×Int)} {T:Int→List Int} (G:Gt n ts) (H:Tn n (ts.map fun t=>te t.1 t.2) T) {R F:List Dt} {b b':Bool} (hR:Rp (nxt T) (z1A n (ts.map fun t=>te t.1 t.2)) (fun _=>True) R) (hF:Rp (nxt T) (z1A n (ts.map fun t=>te t.1 t.2)) (fun _=>True) F)
  (hb:b=true↔∀ s∈rI n,Gd n (ts.map fun t=>te t.1 t.2) R (labF ts) (labF ts s)) (hb':b'=true↔∀ l∈rI n,Gd n ts F (labF ts) l):b=b':=by
 have hB:=H.bij G.w
 have hsame:∀ l,Gd n (ts.map fun t=>te t.1 t.2) R (labF ts) l↔Gd n ts F (labF ts) l:=by
  intro l
  have e1:((ts.map fun t=>te t.1 t.2).filter fun t=>decide (labF ts t.1=l)).length=(ts.filter fun t=>decide (labF ts t.1=l)).length:=by
   rw [i5A]
   refine congrArg List.length (List.filter_congr fun t ht=>?_)
   rcases w8A t.1 t.2 with q | q
   ·rw [q]
   ·rw [q]
    refine decide_eq_decide.mpr ?_
    rw [(G.lab.eqv t.1 t.2).mpr (.step .refl (p0A.mpr (.inl ht)))]
  have e2:(R.filter fun t=>decide (labF ts t.1=l)).length=(F.filter fun t=>decide (labF ts t.1=l)).length:=by
   refine hR.count hB hF (fun _ _=>True.intro) (fun _ _=>True.intro) fun d hd=>?_
   have:=(c1A G.w).mp hd
   refine decide_eq_decide.mpr ?_
   show labF ts d.2=l↔_
   rw [(G.labU.eqv d.1 d.2).mpr (.step .refl this)]
  unfold Gd
  rw [e1,e2]
 have:b=true↔b'=true:=by
  rw [hb,hb']
  refine ⟨fun h l hl=>?_,fun h s hs=>(hsame _).mpr (h _ (G.lab.rg s hs))⟩
  intro hpos
  refine bc fun zZ=>?_
  obtain ⟨t,ht⟩:=List.exists_mem_of_length_pos hpos
  obtain ⟨ht,hl'⟩:=tZ.mp ht
  refine zZ ?_;clear zZ
  have:=(hsame _).mp (h t.1 (G.rg t ht).1)
  rw [of_decide_eq_true hl'] at this
  exact this hpos
 cases b <;> cases b' <;> first | rfl | exact absurd (this.mp rfl) mZ | exact absurd (this.mpr rfl) mZ
end Fl
namespace Fl
open PySem (Str)
theorem s0B {a n:Int} (h:0<n):0≤Int.fmod a n∧Int.fmod a n<n:=⟨Int.fmod_nonneg_of_pos a h,Int.fmod_lt_of_pos a h⟩
theorem w0A {α β:Type} (f:α→β) (l:List α) (lo hi:Option Int):o1A (l.map f) lo hi=(o1A l lo hi).map f:=by
 unfold o1A
 rw [eQ,← List.map_take,← List.map_drop]
theorem u5A {n:Nat} {k:Int} (h:0≤k):cut n k=min k.toNat n:=by
 unfold cut
 rw [if_neg (kZ.mpr h)]
theorem te_up {a b:Int} (h:a≠b):(te a b).1<(te a b).2:=by
 rcases Int.lt_or_gt_of_ne h with h | h
 ·rw [x8A h];exact h
 ·rw [v1A,x8A h];exact h
theorem nb1_te {p:Int} {t:Int×Int} (h:t.1≠t.2):nb1 p (te t.1 t.2)=if p=t.1∨p=t.2 then [t.1+t.2 - p] else []:=by
 have key:∀ a b:Int,a≠b→nb1 p (a,b)=if p=a∨p=b then [a+b - p] else []:=fun a b hab=>by
  unfold nb1
  by_cases h1:a=p
  ·rw [if_pos h1,if_neg (fun e=>hab (h1.trans e.symm)),if_pos (.inl h1.symm),h1,Int.add_comm,Int.add_sub_cancel];rfl
  ·rw [if_neg h1]
   by_cases h2:b=p
   ·rw [if_pos h2,if_pos (.inr h2.symm),h2,Int.add_sub_cancel];rfl
   ·rw [if_neg h2,if_neg (fun e=>e.elim (fun e=>h1 e.symm) fun e=>h2 e.symm)];rfl
 rcases w8A t.1 t.2 with q | q
 ·rw [q];exact key _ _ h
 ·rw [q,key _ _ h.symm,Int.add_comm]
  by_cases c:p=t.1∨p=t.2
  ·rw [if_pos c,if_pos c.symm]
  ·rw [if_neg c,if_neg fun e=>c e.symm]
theorem g8B {p:Int}:∀ {ts:List (Int×Int)},(∀ t∈ts,t.1≠t.2)→(ts.filter fun t=>decide (p=t.1∨p=t.2)).map (fun t=>t.1+t.2 - p)=nbL (ts.map fun t=>te t.1 t.2) p
 | [],_=>rfl
 | t::ts,h=>by
  show _=nb1 p (te t.1 t.2)++nbL (ts.map fun t=>te t.1 t.2) p
  rw [← g8B fun u hu=>h u (bQ _ hu),nb1_te (h t aQ),List.filter_cons]
  by_cases q:p=t.1∨p=t.2
  ·rw [if_pos (decide_eq_true q),if_pos q];rfl
  ·rw [if_neg (by rw [decide_eq_false q];exact mZ),if_neg q];rfl
theorem in2 (p a b:Int):inL (.int p) [.int a,.int b]=some (decide (p=a∨p=b)):=by
 rw [show [V.int a,V.int b]=[a,b].map V.int from rfl,inLi]
 exact congrArg some (decide_eq_decide.mpr (by rw [lQ,cQ]))
theorem g0C {α:Type}:∀ (L:List α) (j:Nat) (h:j<L.length),(L[j]::L.eraseIdx j).Perm L
 | [],j,h=>absurd h (z5Z j)
 | x::L,0,_=>List.Perm.refl _
 | x::L,j+1,h=>(List.Perm.swap _ _ _).trans ((g0C L j (Nat.lt_of_succ_lt_succ h)).cons x)
theorem popj {l:List Int} {k:Int} (h0:0≤k) (h1:k<l.length):∃ x l',c9A k (l.map V.int)=some (l'.map V.int,.int x)∧(x::l').Perm l:=by
 have hj:k.toNat<l.length:=(Int.toNat_lt h0).mpr h1
 refine ⟨l[k.toNat],l.eraseIdx k.toNat,?_,g0C l _ hj⟩
 unfold c9A
 rw [p9B h0 (by rw [eQ];exact h1),obind,oQ,nQ hj,t4B];rfl
theorem setR {f:Int→V} {n i:Int} {y:V} (h0:0≤i) (h1:i<n):putO (.v (.int i)) y (.list ((rI n).map f))=some (.list ((rI n).map fun k=>if k=i then y else f k)):=by
 show (if 0≤i then (idx ((rI n).map f).length i).map _ else none)=_
 rw [if_pos h0,p9B h0 (by rw [eQ,c4A,nW (z4Z (aZ h0 h1))];exact h1),omap]
 refine congrArg (fun l=>some (O.list l)) (List.ext_getElem? fun j=>?_)
 rw [List.getElem?_set,oQ,oQ,eQ,c4A]
 unfold rI
 rw [oQ]
 by_cases hj:j<n.toNat
 ·rw [List.getElem?_range hj,omap,omap,omap]
  by_cases e:i.toNat=j
  ·rw [if_pos e,if_pos (e ▸ hj),if_pos (show ((j:Nat):Int)=i by rw [← e,nW h0])]
  ·rw [if_neg e,if_neg (show ¬ ((j:Nat):Int)=i from fun q=>e (by rw [← q];rfl))]
 ·have:(List.range n.toNat)[j]?=none:=yK (by rw [mK];exact z6W.mp hj)
  have hi:i.toNat<n.toNat:=(Int.toNat_lt h0).mpr (by rw [nW (z4Z (aZ h0 h1))];exact h1)
  rw [this,if_neg (show ¬ i.toNat=j from fun q=>hj (q ▸ hi))];rfl
theorem w6B {l:List Int} {a:Nat} {x y:Int} (hx:l[a]?=some x) (hy:l[a+1]?=some y):(l.take a++[y,x]++l.drop (a+2)).Perm l:=by
 refine bc fun zZ=>?_
 obtain ⟨h1,e1⟩:=jQ.mp hx
 obtain ⟨h2,e2⟩:=jQ.mp hy
 refine zZ ?_;clear zZ
 have e:l=l.take a++[x,y]++l.drop (a+2):=by
  conv=>lhs;rw [← kW a l,sW h1,e1,sW h2,e2]
  rw [kQ];rfl
 conv=>rhs;rw [e]
 exact ((List.Perm.swap x y []).append_left _).append_right _
section
variable {C:a0A} (hC:d1A C tab)
include hC
theorem j4A {ns:List Int} {k:Int} {K} (hk:0≤k) (h:∀ c σ',K (.int c) σ'):C "_law_cell_at" [.v (lI ns),iv k] [] K:=by
 refine fnA hC 30 rfl rfl (nx ?_)
 dsimp only [h4A]
 kd_p
 refine br (fun q=>nx ?_) fun q=>nx ?_
 ·kd_p
  have q:=c1B q
  rw [eQ] at q
  have hl:k.toNat<ns.length:=(Int.toNat_lt hk).mpr q
  refine gx (itL (x:=.int ns[k.toNat]) hk ?_) (h _ _)
  rw [oQ,nQ hl];rfl
 ·kd_p
  exact h _ _
theorem many_ok {ns:List Int} {K} (h:∀ n σ',1≤n→n≤16→K (.int n) σ'):C "_law_many" [.v (lI ns)] [] K:=by
 refine fnA hC 31 rfl rfl (nx ?_)
 dsimp only [d7A]
 kd_p
 refine ⟨rfl,rfl,j4A hC (by decide) fun c _=>?_⟩
 kd_p
 refine ⟨by decide,br (fun _=>nx ?_) fun _=>nx ?_⟩
 ·kd_p
  refine ⟨rfl,rfl,j4A hC (by decide) fun c _=>?_⟩
  kd_p
  have:=s0B (a:=Int.fdiv c 6) (n:=8) (by decide)
  exact ⟨by decide,by decide,by decide,h _ _ (rK (b:=9) (by decide) (eK this.1 9)) (show _≤(9:Int)+7 from eK (Int.le_of_lt_add_one (b:=7) this.2) 9)⟩
 ·kd_p
  refine ⟨rfl,rfl,j4A hC (by decide) fun c _=>?_⟩
  kd_p
  have:=s0B (a:=Int.fdiv c 6) (n:=8) (by decide)
  exact ⟨by decide,by decide,by decide,h _ _ (eK this.1 1) (rK (b:=1+7) (eK (Int.le_of_lt_add_one (b:=7) this.2) 1) (by decide))⟩
omit hC in
theorem b2_sm (b:Bool):(b2i b).natAbs<2 ^ 40:=by cases b <;> decide
omit hC in
theorem nab {n:Int} (h0:0≤n) (h1:n≤63):n.natAbs<2 ^ 40:=by
 obtain ⟨m,rfl⟩:=Int.eq_ofNat_of_zero_le h0
 exact vQ (Int.ofNat_le.mp h1) (by decide)
omit hC in
theorem cut_sub (X L k:Nat):min (min X L) L - min k L≤X - k:=by
 rcases Nat.le_total L k with q | q
 ·rw [Nat.min_eq_right q,Nat.sub_eq_zero_of_le (z6K _ _)];exact sQ _
 ·rw [jZ q];exact Nat.sub_le_sub_right (dQ (z1K _ _) (z1K _ _)) k
theorem lties_ok {ns:List Int} {n:Int} {K} (hn1:1≤n) (hn2:n≤16) (h:∀ ts σ',Gt n ts→(∀ t∈ts,t.1≠t.2)→ts.length≤39→K (lT ts) σ'):C "_law_ties" [.v (lI ns),iv n] [] K:=by
 refine fnA hC 32 rfl rfl (nx ?_)
 dsimp only [c7A]
 kd_p
 refine ⟨f1A (sQ 0) rfl,nx ?_⟩
 kd_p
 refine ⟨rfl,rfl,j4A hC (by decide) fun c _=>?_⟩
 kd_p
 refine ⟨by decide,⟨rfl,rfl,j4A hC (by decide) fun c' _=>?_⟩⟩
 kd_p
 have hm:=s0B (a:=c) (n:=17) (by decide)
 have hb:∀ b,0≤b2i b∧b2i b≤1:=fun b=>by cases b <;> decide
 have hb':=hb (decide (Int.fmod (Int.fdiv c' 17) 8=7))
 refine ⟨by decide,by decide,by decide,by decide,b2_sm _,nx ?_⟩
 kd_p
 generalize hmo:Int.fmod c 17+23 * b2i (decide (Int.fmod (Int.fdiv c' 17) 8=7))=mo
 have h0:0≤mo∧mo≤39:=by
  rw [← hmo]
  exact ⟨Int.add_nonneg hm.1 (Int.mul_nonneg (by decide) hb'.1),show _≤(16:Int)+23 * 1 from Int.add_le_add (Int.le_of_lt_add_one (b:=16) hm.2) (Int.mul_le_mul_of_nonneg_left (c:=23) hb'.2 (by decide))⟩
 rw [w0A]
 have hsl:(o1A ns (some 4) (some (4+mo))).length≤39:=by
  show ((ns.take (cut ns.length (4+mo))).drop (cut ns.length 4)).length≤39
  rw [u5A (k:=4+mo) (Int.add_nonneg (by decide) h0.1),u5A (k:=4) (by decide),List.length_drop,uK]
  exact dQ (cut_sub _ _ _) (Nat.sub_le_sub_right (Int.toNat_le.mpr (eK h0.2 4)) 4)
 refine ⟨sm_m (k:=39) hsl rfl,?_⟩
 refine fl2 V.int (fun (o:Option A×Option A×Option A) _=>[("_law_other", o.1),("_law_one", o.2.1),("_law_cell", o.2.2),("_law_most", some (iv mo)),("_law_made", some (.ref 0)),("_law_script", some (.v (lI ns))),("_law_many_here", some (iv n))]) (fun _ ts=>[.list (ts.map tV)])
  (fun r _ ts=>(∀ t∈ts,(t.1∈rI n∧t.2∈rI n)∧t.1≠t.2)∧(ts.map fun t=>te t.1 t.2).Nodup∧ts.length+r.length≤39) ?_ ?_ _ (_,_,_) [] ⟨fun _ h=>(nomatch h),tW,by rw [List.length_nil,iZ];exact hsl⟩
 ·intro x r o ts zY0 W' hW
  refine bc fun zZ=>?_
  obtain ⟨h1,h2,h3⟩:=zY0
  refine zZ ?_;clear zZ
  have h3':ts.length+r.length+1≤39:=h3
  have hnp:0<n:=yW (by decide) hn1
  have hn0:n≠0:=z2K hnp
  kd_p
  refine nx ?_
  kd_p
  refine ⟨hn0,nx ?_⟩
  kd_p
  have hmx:max 1 (n - 1)≠0:=z2K (yW (by decide) (Int.le_max_left _ _))
  refine ⟨hn0,nab (z4Z hnp) (rK hn2 (by decide)),hmx,hn0,nx ?_⟩
  kd_p
  generalize hp:Int.fmod x n=p
  generalize hq:Int.fmod (p+1+Int.fmod (Int.fdiv x n) (max 1 (n - 1))) n=q
  have hpr:p∈rI n:=r0A.mpr (hp ▸ s0B hnp)
  have hqr:q∈rI n:=r0A.mpr (hq ▸ s0B hnp)
  have skip:∀ a b c,W' [("_law_other", a),("_law_one", b),("_law_cell", c),("_law_most", some (iv mo)),("_law_made", some (.ref 0)),("_law_script", some (.v (lI ns))),("_law_many_here", some (iv n))] [.list (ts.map tV)]:=fun a b c=>hW (_,_,_) ts ⟨h1,h2,z3W h3'⟩
  refine br (fun q1=>?_) fun q1=>⟨rfl,skip _ _ _⟩
  have hne:=of_decide_eq_false (nti q1)
  refine gx (congrArg _ (inLt (p,q) ts)) ?_
  refine br (fun q2=>gx (congrArg _ (inLt (q,p) ts)) ?_) fun q2=>⟨rfl,skip _ _ _⟩
  refine br (fun q3=>nx ?_) fun q3=>⟨rfl,skip _ _ _⟩
  kd_p
  refine ⟨rfl,ap_m (k:=39) (dQ (nK (z5Q _ r.length)) h3') rfl,?_⟩
  rw [ap1]
  refine ⟨rfl,hW (_,_,_) (ts++[(p,q)]) ⟨fun t ht=>?_,?_,?_⟩⟩
  ·rcases iQ.mp ht with ht | ht
   ·exact h1 t ht
   ·rw [cQ.mp ht];exact ⟨⟨hpr,hqr⟩,hne⟩
  ·rw [z0Q]
   refine z3Q.mpr ⟨h2,nd1 _,fun a ha b hb e=>?_⟩
   rw [cQ.mp hb] at e
   refine bc fun zZ=>?_
   obtain ⟨t,ht,rfl⟩:=qQ.mp ha
   refine zZ ?_;clear zZ
   rcases k0B e with ⟨a1,a2⟩ | ⟨a1,a2⟩
   ·exact of_decide_eq_false (nti q2) (by rw [← show t=(p,q) from Prod.ext a1 a2];exact ht)
   ·exact of_decide_eq_false (nti q3) (by rw [← show t=(q,p) from Prod.ext a1 a2];exact ht)
  ·rw [fQ,wK];exact h3'
 ·intro o ts zY0
  refine bc fun zZ=>?_
  obtain ⟨h1,h2,h3⟩:=zY0
  refine zZ ?_;clear zZ
  kd_p
  refine nx ?_
  kd_p
  have h3:ts.length≤39:=h3
  refine h ts _ ⟨⟨hn1,hn2,fun t ht=>?_,fun t ht=>?_,h2,by rw [eQ];exact dQ h3 (by decide)⟩,fun t ht=>(h1 t ht).1,dQ h3 (by decide)⟩ (fun t ht=>(h1 t ht).2) h3
  ·refine bc fun zZ=>?_
   obtain ⟨u,hu,rfl⟩:=qQ.mp ht
   refine zZ ?_;clear zZ
   exact te_up (h1 u hu).2
  ·refine bc fun zZ=>?_
   obtain ⟨u,hu,rfl⟩:=qQ.mp ht
   refine zZ ?_;clear zZ
   have a:=r0A.mp (h1 u hu).1.1
   have b:=r0A.mp (h1 u hu).1.2
   rcases w8A u.1 u.2 with q | q
   ·rw [q];exact ⟨a.1,b.2⟩
   ·rw [q];exact ⟨b.1,a.2⟩
theorem order_ok {c:Int} {row:List Int} {K} (hl:row.length≤62) (h:∀ m σ',m.Perm row→K (lI m) σ'):C "_law_order_by" [iv c,.v (lI row)] [] K:=by
 refine fnA hC 33 rfl rfl (nx ?_)
 dsimp only [r3A]
 kd_p
 refine ⟨sm_m (k:=62) hl rfl,nx ?_⟩
 kd_p
 refine ⟨f1A (sQ 0) rfl,nx ?_⟩
 kd_p
 refine wl3 (fun c _ _=>[("_law_made", some (.ref 1)),("_law_left", some (.ref 0)),("_law_cell", some (iv c)),("_law_row", some (.v (lI row)))]) (fun _ l m=>[.list (l.map V.int),.list (m.map V.int)])
  (fun q _ l m=>(m++l).Perm row∧q=l.length) ?_ _ c row [] ⟨List.Perm.refl _,rfl⟩
 rintro q c l m ⟨hp,rfl⟩ W' hW
 kd_p
 refine ⟨f1A (sQ 0) rfl,gx (neRI (b:=[]) rfl) ?_⟩
 have hlm:m.length+l.length≤62:=by
  have:=hp.length_eq
  rw [fQ] at this
  rw [this];exact hl
 by_cases hl0:l=[]
 ·refine brF (nf (decide_eq_true hl0)) ?_
  refine nx ?_
  kd_p
  rw [hl0,z1Q] at hp
  exact h m _ hp
 ·refine brT (nt (decide_eq_false hl0)) ?_
  have hpos:0<l.length:=List.length_pos_iff.mpr hl0
  refine nx ?_
  kd_p
  rw [eQ]
  have hpi:(0:Int)<l.length:=rZ.mpr hpos
  refine ⟨rfl,rfl,z2K hpi,?_⟩
  have hm:=s0B (a:=c) (n:=(l.length:Int)) hpi
  refine bc fun zZ=>?_
  obtain ⟨x,l',e,hx⟩:=popj hm.1 hm.2
  refine zZ ?_;clear zZ
  refine gx e ?_
  have hll:l'.length+1=l.length:=hx.length_eq
  refine ⟨by rw [eQ];exact vQ (dQ (z8Q (hll ▸ nZ _)) (dQ (dJ _ _) hlm)) (by decide),ap_m (k:=62) (dQ (z5Q _ _) hlm) rfl,?_⟩
  kd_p
  refine nx ?_
  kd_p
  rw [ap1,eQ]
  have hq:(0:Int)<(l'.length:Int)+1:=Int.lt_add_one_of_le (qW _)
  refine ⟨z2K hq,nab (z4Z hq) (Int.ofNat_le.mpr (show l'.length+1≤63 from hll ▸ dQ (dQ (dJ _ _) hlm) (by decide))),hW l'.length _ l' (m++[x]) (by lia) ⟨?_,rfl⟩⟩
  rw [kQ]
  exact (hx.append_left m).trans hp
theorem j6A {ns:List Int} {n:Int} {ts:List (Int×Int)} {K} (G:Gt n ts) (hne:∀ t∈ts,t.1≠t.2) (h:∀ T σ',Tn n (ts.map fun t=>te t.1 t.2) T→K (tv n T) σ'):C "_law_turns_by" [.v (lI ns),iv n,.v (lT ts)] [] K:=by
 refine fnA hC 34 rfl rfl (nx ?_)
 dsimp only [q3A]
 kd_p
 refine ⟨f1A (sQ 0) rfl,nx ?_⟩
 kd_p
 refine ⟨aZ G.w.n2 (by decide),yW (by decide) G.w.n1,?_⟩
 rw [g3A]
 refine fl3 V.int (fun (o:Option A×Option A) _ _=>[("_law_own", o.1),("_law_point", o.2),("_law_turns", some (.ref 0)),("_law_script", some (.v (lI ns))),("_law_many_here", some (iv n)),("_law_ties_here", some (.v (lT ts)))]) (fun _ dn T=>[.list (dn.map fun i=>lI (T i))])
  (fun r _ dn T=>dn++r=rI n∧∀ i∈dn,(T i).Perm (row (ts.map fun t=>te t.1 t.2) i)) ?_ ?_ (rI n) (_,_) [] (fun _=>[]) ⟨rfl,fun _ h=>(nomatch h)⟩
 ·rintro p r o dn T ⟨e,hT⟩ W' hW
  have hnd:=rI_nd n
  rw [← e] at hnd
  have hp:p∉dn:=fun hm=>(z3Q.mp hnd).2.2 p hm p aQ rfl
  have hpr:=r0A.mp (show p∈rI n by rw [← e];exact gQ _ aQ)
  have hdl:dn.length≤16:=by
   have:=G.w.nlen
   rw [← e,fQ] at this
   exact dQ (z5Q _ _) this
  kd_p
  refine nx ?_
  kd_p
  refine cp tV (fun t=>decide (p=t.1∨p=t.2)) (fun t=>V.int (t.1+t.2 - p)) ts (fun t _=>?_) ?_
  ·kd_p
   exact ⟨fun K hk=>gx (in2 _ _ _) (tk hk),fun _ K hk=>hk⟩
  have e2:(ts.filter fun t=>decide (p=t.1∨p=t.2)).map (fun t=>V.int (t.1+t.2 - p))=(nbL (ts.map fun t=>te t.1 t.2) p).map V.int:=by
   rw [← g8B hne,fZ];rfl
  have hlen:=G.w.nbL_len p
  rw [e2]
  refine ⟨sm_m (k:=62) hlen rfl,nx ?_⟩
  kd_p
  refine ⟨rfl,rfl,rfl,j4A hC (by decide) fun c _=>?_⟩
  kd_p
  have hp16:p<16:=yW hpr.2 G.w.n2
  have h0:=hpr.1
  have hp63:p≤63:=rK (z4Z hp16) (by decide)
  have h3:(0:Int)≤3 * p:=Int.mul_nonneg (by decide) h0
  refine ⟨by decide,nab h0 hp63,z2K (yW (by decide) (eK h3 1)),nab (rK (by decide) (eK h3 1)) (rK (eK (Int.mul_le_mul_of_nonneg_left (Int.le_of_lt_add_one (b:=15) hp16) (by decide:(0:Int)≤3)) 1) (by decide)),by decide,nab h0 hp63,so_i _,by rw [eQ];exact vQ hlen (by decide),?_⟩
  rw [vs_i]
  refine ⟨sm_m (k:=62) (by rw [e2A];exact hlen) rfl,rfl,rfl,order_ok hC (by rw [e2A];exact hlen) fun m _ hm=>?_⟩
  kd_p
  refine ⟨ap_m hdl rfl,rfl,?_⟩
  have e3:(dn.map fun i=>lI (T i))++[lI m]=(dn++[p]).map fun i=>lI (if i=p then m else T i):=by
   rw [z0Q]
   refine congr (congrArg _ (z4K fun i hi=>?_)) ?_
   ·rw [if_neg fun (e:i=p)=>hp (e ▸ hi)]
   ·show _=[lI (if p=p then m else T p)]
    rw [if_pos rfl]
  rw [e3]
  refine hW (_,_) (dn++[p]) _ ⟨by rw [kQ];exact e,fun i hi=>?_⟩
  by_cases q:i=p
  ·rw [if_pos q,q];exact hm
  ·rw [if_neg q]
   rcases iQ.mp hi with hi | hi
   ·exact hT i hi
   ·exact absurd (cQ.mp hi) q
 ·rintro o dn T ⟨e,hT⟩
  kd_p
  refine nx ?_
  kd_p
  rw [z1Q] at e
  subst e
  exact h T _ ⟨hT⟩
theorem stays_ok {n:Int} {ts:List (Int×Int)} {K} (G:Gt n ts) (hne:∀ t∈ts,t.1≠t.2) (h:∀ σ',K (.bool true) σ'):C "_law_stays" [.v (wb n (ts.map fun t=>te t.1 t.2)),.v (lT ts),iv n] [] K:=by
 have hle:(ts.map fun t=>te t.1 t.2).length≤40:=G.w.le
 refine fnA hC 39 rfl rfl (nx ?_)
 dsimp only [r5A]
 kd_p
 refine x1B hC hle fun _=>?_
 kd_p
 refine cp tV (fun _=>true) (fun t=>tV (te t.1 t.2)) ts (fun t _=>?_) ?_
 ·kd_p
  exact ⟨fun K hk=>hk,fun _ K hk=>hk⟩
 rw [z0Z.mpr (fun _ _=>rfl),show ts.map (fun t=>tV (te t.1 t.2))=(ts.map fun t=>te t.1 t.2).map tV by rw [fZ];rfl]
 refine ⟨sm_m (k:=40) hle rfl,so_t _,by rw [eQ];exact vQ hle (by decide),?_⟩
 rw [vs_t]
 refine ⟨sm_m (k:=40) (by rw [(l1A _).length_eq];exact hle) rfl,?_⟩
 rw [q_ns,eq_lT]
 kd_p
 refine nx ?_
 kd_p
 refine ⟨aZ G.w.n2 (by decide),yW (by decide) G.w.n1,?_⟩
 rw [g3A]
 refine fl1 V.int (fun o=>[("_law_point", o),("_law_web", some (.v (wb n (ts.map fun t=>te t.1 t.2)))),("_law_ties_here", some (.v (lT ts))),("_law_many_here", some (iv n))]) (fun _=>[]) (fun r _=>∀ i∈r,i∈rI n) ?_ ?_ (rI n) _ fun _ h=>h
 ·intro p r o hr W' hW
  have hpr:=r0A.mp (hr p aQ)
  have hlen:=G.w.nbL_len p
  kd_p
  refine nx ?_
  kd_p
  refine z4A hC hpr.1 hpr.2 hlen fun _=>?_
  kd_p
  refine cp tV (fun t=>decide (p=t.1∨p=t.2)) (fun t=>V.int (t.1+t.2 - p)) ts (fun t _=>?_) ?_
  ·kd_p
   exact ⟨fun K hk=>gx (in2 _ _ _) (tk hk),fun _ K hk=>hk⟩
  rw [show (ts.filter fun t=>decide (p=t.1∨p=t.2)).map (fun t=>V.int (t.1+t.2 - p))=(nbL (ts.map fun t=>te t.1 t.2) p).map V.int by rw [← g8B hne,fZ];rfl]
  refine ⟨sm_m (k:=62) hlen rfl,so_i _,by rw [eQ];exact vQ hlen (by decide),?_⟩
  rw [vs_i]
  refine ⟨sm_m (k:=62) (by rw [e2A];exact hlen) rfl,gx (neLI _ _ _) (brF (nf (decide_eq_true rfl)) ⟨rfl,hW _ fun i hi=>hr i (bQ _ hi)⟩)⟩
 ·intro o _
  kd_p
  refine nx ?_
  kd_p
  exact h _
theorem m7B {n c:Int} {us:List (Int×Int)} {T:Int→List Int} {K} (W:Gw n us) (H:Tn n us T) (h:∀ T σ',Tn n us T→K (tv n T) σ'):C "_law_shaken" [.v (tv n T),iv c] [] K:=by
 refine fnA hC 38 rfl rfl (nx ?_)
 dsimp only [w4A,tv]
 kd_p
 refine cp (fun i=>lI (T i)) (fun _=>true) (fun i=>lI (T i)) (rI n) (fun i hi=>?_) ?_
 ·kd_p
  exact ⟨fun K hk=>hk,fun _ K hk=>⟨sm_m (k:=16) (H.len W hi) rfl,hk⟩⟩
 rw [z0Z.mpr (fun _ _=>rfl)]
 refine ⟨sm_m (k:=16) W.nlen rfl,nx ?_⟩
 kd_p
 have el:((List.map (fun i=>lI (T i)) (rI n)).length:Int)=n:=by
  rw [eQ,c4A]
  exact nW (rK (by decide) W.n1)
 rw [el]
 have hn0:0<n:=yW (by decide) W.n1
 have hm:=s0B (a:=c) hn0
 refine ⟨z2K hn0,gx (itR hm.1 hm.2) ?_⟩
 generalize hpe:Int.fmod c n=p at hm ⊢
 have hp:=r0A.mpr hm
 kd_p
 refine nx ?_
 kd_p
 rw [eQ]
 refine br (fun q=>nx ?_) fun q=>nx ?_
 ·have q:=rZ.mp (c1B q)
  kd_p
  rw [eQ]
  have hl1:(0:Int)<((T p).length:Int) - 1:=Int.sub_pos_of_lt (rZ.mpr (bK q))
  have ha:=s0B (a:=Int.fdiv c 16) hl1
  refine ⟨by decide,by decide,z2K hl1,nx ?_⟩
  kd_p
  generalize Int.fmod (Int.fdiv c 16) (((T p).length:Int) - 1)=a at ha ⊢
  obtain ⟨k,rfl⟩:=Int.eq_ofNat_of_zero_le ha.1
  have hk:k+1<(T p).length:=by lia
  have e1:(T p)[k]?=some (T p)[k]:=nQ _
  have e2:(T p)[k+1]?=some (T p)[k+1]:=nQ _
  rw [w0A,w0A]
  have s1:o1A (T p) none (some (k:Int))=(T p).take k:=by
   show ((T p).take (cut (T p).length (k:Int))).drop 0=_
   rw [u5A (qW _),z2W,jZ (by lia)];rfl
  have s2:o1A (T p) (some ((k:Int)+2)) none=(T p).drop (k+2):=by
   show ((T p).take (T p).length).drop (cut (T p).length ((k:Int)+2))=_
   rw [u5A (by lia),List.take_length,show ((k:Int)+2).toNat=k+2 from rfl,jZ (by lia)]
  have hT16:=H.len W hp
  rw [s1,s2]
  have g1:x1A ((T p).map V.int) (.v (.int ((k:Int)+1)))=some (.int (T p)[k+1]):=itL (by lia) (by rw [oQ,show ((k:Int)+1).toNat=k+1 from rfl,e2];rfl)
  have g0:x1A ((T p).map V.int) (.v (.int (k:Int)))=some (.int (T p)[k]):=itL (by lia) (by rw [oQ,z2W,e1];rfl)
  have hperm:=w6B e1 e2
  have ee:(((T p).take k).map V.int++[V.int (T p)[k+1],V.int (T p)[k]])++((T p).drop (k+2)).map V.int=((T p).take k++[(T p)[k+1],(T p)[k]]++(T p).drop (k+2)).map V.int:=by
   rw [z0Q,z0Q];rfl
  have hle:((T p).take k++[(T p)[k+1],(T p)[k]]++(T p).drop (k+2)).length≤16:=by rw [hperm.length_eq];exact hT16
  refine ⟨sm_m (k:=16) (by rw [uK];exact dQ (z6K _ _) hT16) rfl,gx g1 (gx g0 ⟨f1A (k:=2) (uQ 2) rfl,?_⟩)⟩
  refine ⟨?_,sm_m (k:=16) (by rw [List.length_drop];exact dQ (pK _ _) hT16) rfl,?_⟩
  ·have:((T p).take k++[(T p)[k+1],(T p)[k]]).length≤16:=by
    rw [fQ] at hle;exact dQ (z5Q _ _) hle
   exact f1A (k:=16) (by rw [fQ,eQ];rw [fQ] at this;exact this) rfl
  rw [ee]
  refine ⟨sm_m hle rfl,?_⟩
  rw [el]
  refine ⟨z2K hn0,?_⟩
  rw [hpe]
  refine gx (setR hm.1 hm.2) ?_
  kd_p
  refine nx ?_
  kd_p
  have e4:((rI n).map fun i=>if i=p then V.list (((T p).take k++[(T p)[k+1],(T p)[k]]++(T p).drop (k+2)).map V.int) else lI (T i))=(rI n).map fun i=>lI (if i=p then (T p).take k++[(T p)[k+1],(T p)[k]]++(T p).drop (k+2) else T i):=z4K fun i _=>by
   by_cases q:i=p
   ·rw [if_pos q,if_pos q]
   ·rw [if_neg q,if_neg q]
  rw [e4]
  refine h _ _ ⟨fun i hi=>?_⟩
  by_cases q:i=p
  ·rw [if_pos q,q];exact hperm.trans (H.pm p hp)
  ·rw [if_neg q];exact H.pm i hi
 ·kd_p
  exact h T _ H
end
end Fl
namespace Fl
open PySem (Str)
noncomputable def mg (g:Dt→Dt) (a b t:Dt):Dt:=if g t=g b then g a else g t
theorem mg_keep {g:Dt→Dt} {a b t u:Dt} (h:g t=g u):mg g a b t=mg g a b u:=by unfold mg;rw [h]
theorem mg_join (g:Dt→Dt) (a b:Dt):mg g a b a=mg g a b b:=by
 unfold mg
 rw [if_pos rfl]
 split <;> rfl
theorem mg_sound {us:List Dt} {g:Dt→Dt} {a b:Dt} (hg:∀ t∈us,∀ u∈us,g t=g u→Sm us t u) (ha:a∈us) (hb:b∈us) (hab:Sm us a b):∀ t∈us,∀ u∈us,mg g a b t=mg g a b u→Sm us t u:=by
 intro t ht u hu h
 unfold mg at h
 by_cases h1:g t=g b
 ·rw [if_pos h1] at h
  have tb:=hg t ht b hb h1
  by_cases h2:g u=g b
  ·exact tb.trans (hg u hu b hb h2 |>.symm hu)
  ·rw [if_neg h2] at h
   exact tb.trans ((hab.symm ha).trans (hg a ha u hu h))
 ·rw [if_neg h1] at h
  by_cases h2:g u=g b
  ·rw [if_pos h2] at h
   exact (hg t ht a ha h).trans (hab.trans ((hg u hu b hb h2).symm hu))
  ·rw [if_neg h2] at h
   exact hg t ht u hu h
structure Gp (us:List Dt) (g:Dt→Dt):Prop where
 of:∀ t∈us,∀ u∈us,g t=g u→Sm us t u
 to:∀ t∈us,∀ u∈us,Jo us t u→g t=g u
theorem Gp.iff {us:List Dt} {g:Dt→Dt} (H:Gp us g) {t u:Dt} (ht:t∈us) (hu:u∈us):g t=g u↔Sm us t u:=by
 refine ⟨H.of t ht u hu,fun h=>?_⟩
 induction h with
 | refl=>rfl
 | step h1 hw hj ih=>
  have hm:=h1.mem ht
  exact (ih hm).trans (H.to _ hm _ hw hj)
theorem eqTV (σ:H) (p q:Int×Int):u0A σ .eq (.v (tV p)) (.v (tV q))=some (decide (p=q)):=by
 show eqV (tV p) (tV q)=_
 unfold eqV
 rw [o9A,o9A]
 exact congrArg some (d8B p q)
section
variable {C:a0A} (hC:d1A C tab)
include hC
theorem marks_ok {n p:Int} {us:List (Int×Int)} {w:V} {K} (W:Gw n us) (hp:p∈rI n) (h:∀ kvs (mk:Int→Int) σ',Dm Ky.i kvs (row us p) (fun j=>.int (mk j))→(∀ a∈row us p,∀ b∈row us p,mk a=mk b↔Cn (tsq us [p]) a b)→K (dv kvs) σ'):C "marks_round" [.v w,.v (.list ((rI n).map fun i=>lI (row us i))),iv p] [] K:=by
 refine fnA hC 13 rfl rfl (nx ?_)
 dsimp only [v4A]
 kd_p
 refine nx ?_
 kd_p
 refine gx (itR (r0A.mp hp).1 (r0A.mp hp).2) ?_
 refine fl4 V.int (fun o _ _ _=>[("other", o),("found", some (.ref 0)),("web", some (.v w)),("rows", some (.v (.list ((rI n).map fun i=>lI (row us i))))),("point", some (iv p))]) (fun _ kvs _ _=>[.map kvs])
  (fun r _ kvs dn (mk:Int→Int)=>dn++r=row us p∧Dm Ky.i kvs dn (fun j=>.int (mk j))∧∀ j∈dn,∃ X:List Int,X.Nodup∧(∀ k,k∈X↔Cn (tsq us [p]) j k)∧(srt X).head?=some (mk j)) ?_ ?_ (row us p) _ [] [] (fun _=>0) ⟨rfl,Dm.nil,fun _ h=>(nomatch h)⟩
 ·intro j r o kvs dn mk zY0 W' hW
  refine bc fun zZ=>?_
  obtain ⟨e,hD,hX⟩:=zY0
  refine zZ ?_;clear zZ
  have hnd:=W.row_nd p
  have hj:j∈row us p:=by rw [← e];exact gQ _ aQ
  rw [← e] at hnd
  have hjd:j∉dn:=fun hm=>(z3Q.mp hnd).2.2 j hm j aQ rfl
  have hjp:j∉[p]:=ne1 (W.up.ne (s0A ((z0A W.up).mp hj)))
  have hdl:dn.length≤1000:=by
   have:=W.row_len p
   rw [← e,fQ] at this
   exact dQ (dQ (z5Q _ _) this) (by decide)
  kd_p
  refine nx ?_
  kd_p
  refine ⟨f1A (k:=1) (uQ 1) rfl,rfl,rfl,w7A hC (wo:=[p]) W.n2 (fun i _ k hk=>W.row_rg i k hk) (W.row_rg p j hj) fun D _ d1 d2 d3=>?_⟩
  kd_p
  have hD':∀ k,k∈D↔Cn (tsq us [p]) j k:=fun k=>by rw [d3,rc_cn (wo:=[p]) W.up hjp]
  have hne:j∈srt D:=d2A.mpr ((hD' j).mpr .refl)
  cases hs:srt D with
  | nil=>rw [hs] at hne;cases hne
  | cons x l=>
   refine gx (itL (x:=.int x) (fK 0) rfl) ?_
   refine gx (hD.putO kfI j _ hdl) ?_
   kd_p
   have hD2:=hD.put kfI j (.int x)
   rw [m1A hjd] at hD2
   refine ⟨rfl,hW _ _ (dn++[j]) (fun z=>if z=j then x else mk z) ⟨by rw [kQ];exact e,hD2.of fun z hz=>?_,fun z hz=>?_⟩⟩
   ·by_cases q:z=j
    ·rw [if_pos q,if_pos q]
    ·rw [if_neg q,if_neg q]
   ·by_cases q:z=j
    ·rw [if_pos q,q];exact ⟨D,d1,hD',by rw [hs];rfl⟩
    ·rw [if_neg q]
     rcases iQ.mp hz with hz | hz
     ·exact hX z hz
     ·exact absurd (cQ.mp hz) q
 ·intro o kvs dn mk zY0
  refine bc fun zZ=>?_
  obtain ⟨e,hD,hX⟩:=zY0
  refine zZ ?_;clear zZ
  rw [z1Q] at e
  subst e
  kd_p
  refine nx ?_
  kd_p
  refine h kvs mk _ hD fun a ha b hb=>?_
  refine bc fun zZ=>?_
  obtain ⟨X,x1,x2,x3⟩:=hX a ha
  obtain ⟨Y,y1,y2,y3⟩:=hX b hb
  refine zZ ?_;clear zZ
  constructor
  ·intro e
   rw [e] at x3
   have m1:mk b∈X:=d2A.mp (List.mem_of_mem_head? x3)
   have m2:mk b∈Y:=d2A.mp (List.mem_of_mem_head? y3)
   exact ((x2 _).mp m1).trans ((y2 _).mp m2).symm
  ·intro hc
   have hm:∀ k,k∈X↔k∈Y:=fun k=>by rw [x2,y2];exact ⟨fun h=>hc.symm.trans h,fun h=>hc.trans h⟩
   have hp:X.Perm Y:=(List.perm_ext_iff_of_nodup x1 y1).mpr hm
   rw [a7B hp,y3] at x3
   exact (pQ x3).symm
theorem m8B {gk:List (Ky×V)} {us:List Dt} {g:Dt→Dt} {a b:Dt} {K} (hG:Dm kp gk us (fun t=>tV (g t))) (hl:us.length≤40) (ha:a∈us) (hb:b∈us) (h:∀ kvs σ',Dm kp kvs us (fun t=>tV (mg g a b t))→K (dv kvs) σ'):C "merged" [.v (dv gk),.v (tV a),.v (tV b)] [] K:=by
 refine fnA hC 14 rfl rfl (nx ?_)
 dsimp only [q4B]
 kd_p
 refine gx (hG.getD kfP ha) (nx ?_)
 kd_p
 refine gx (hG.getD kfP hb) (nx ?_)
 kd_p
 refine nx ?_
 kd_p
 rw [hG.s.itsDP]
 refine fl3 tV (fun o _ _=>[("tie", o),("found", some (.ref 0)),("second", some (.v (tV (g b)))),("first", some (.v (tV (g a)))),("groups", some (.v (dv gk))),("one", some (.v (tV a))),("other", some (.v (tV b)))]) (fun _ kvs _=>[.map kvs])
  (fun r _ kvs dn=>dn++r=us∧Dm kp kvs dn (fun t=>tV (mg g a b t))) ?_ ?_ us _ [] [] ⟨rfl,Dm.nil⟩
 ·rintro t r o kvs dn ⟨e,hD⟩ W' hW
  have hnd:=hG.nd
  have ht:t∈us:=by rw [← e];exact gQ _ aQ
  rw [← e] at hnd
  have htd:t∉dn:=fun hm=>(z3Q.mp hnd).2.2 t hm t aQ rfl
  have hdl:dn.length≤999:=by
   rw [← e,fQ] at hl
   exact dQ (dQ (z5Q _ _) hl) (by decide)
  have e':dn++[t]++r=us:=by rw [kQ];exact e
  have hD1:=hD.put kfP t (tV (g t))
  kd_p
  refine nx ?_
  kd_p
  refine gx (hG.getD kfP ht) (gx (hD.putO kfP t _ (nK hdl)) ?_)
  kd_p
  refine nx ?_
  kd_p
  refine gx (hG.getD kfP ht) (gx (eqTV _ _ _) (br (fun q=>nx ?_) fun q=>?_))
  ·have q:=of_decide_eq_true q
   kd_p
   refine gx (hD1.putO kfP t _ (dQ (k9A _ _) (tQ hdl))) ?_
   kd_p
   have hD2:=hD1.put kfP t (tV (g a))
   rw [ins_old (o0A.mpr (.inr rfl)),m1A htd] at hD2
   refine ⟨rfl,hW _ _ (dn++[t]) ⟨e',hD2.of fun z hz=>?_⟩⟩
   by_cases hz':z=t
   ·rw [if_pos hz',hz'];unfold mg;rw [if_pos q]
   ·rw [if_neg hz',if_neg hz']
  ·have q:=of_decide_eq_false q
   rw [m1A htd] at hD1
   refine ⟨rfl,hW _ _ (dn++[t]) ⟨e',hD1.of fun z hz=>?_⟩⟩
   by_cases hz':z=t
   ·rw [if_pos hz',hz'];unfold mg;rw [if_neg q]
   ·rw [if_neg hz']
 ·rintro o kvs dn ⟨e,hD⟩
  rw [z1Q] at e
  subst e
  kd_p
  refine nx ?_
  kd_p
  exact h kvs _ hD
end
end Fl
namespace Fl
open PySem (Str)
structure Bg (n:Int) (us:List Dt) (gk:List (Ky×V)) (g:Dt→Dt) (S:Int→Int→Int→Prop):Prop where
 dm:Dm kp gk (srtT us) (fun t=>tV (g t))
 of:∀ t∈us,∀ u∈us,g t=g u→Sm us t u
 jd:∀ p x y,x∈row us p→y∈row us p→x<y→Cn (tsq us [p]) x y→S p x y∨g (te p x)=g (te p y)
theorem Bg.mono {n us gk g S S'} (H:Bg n us gk g S) (h:∀ p x y,S p x y→S' p x y):Bg n us gk g S':=⟨H.dm,H.of,fun p x y h1 h2 h3 h4=>(H.jd p x y h1 h2 h3 h4).imp (h p x y) id⟩
theorem j2A {us:List Dt} {t:Dt}:t∈srtT us↔t∈us:=(l1A us).mem_iff
structure Bks (us:List Dt) (g:Dt→Dt) (Mt:List Dt):Prop where
 gp:Gp us g
 nd:Mt.Nodup
 of:∀ m∈Mt,∃ t∈us,g t=m
 to:∀ t∈us,g t∈Mt
noncomputable def blk (us:List Dt) (g:Dt→Dt) (m:Dt):List Dt:=(srtT us).filter fun u=>decide (g u=m)
section
variable {C:a0A} (hC:d1A C tab)
include hC
set_option maxHeartbeats 1000000 in
theorem w0C {n:Int} {us:List (Int×Int)} {K} (W:Gw n us) (h:∀ g Mt σ',Bks us g Mt→Mt.length≤40→K (.list (Mt.map fun m=>lT (blk us g m))) σ'):C "blocks" [.v (wb n us)] [] K:=by
 have hSl:(srtT us).length≤40:=by rw [(l1A us).length_eq];exact W.le
 have hSn:(srtT us).Nodup:=(l1A us).nodup_iff.mpr W.nd
 refine fnA hC 15 rfl rfl (nx ?_)
 dsimp only [r4B]
 kd_p
 refine x1B hC W.le fun _=>?_
 kd_p
 refine nx ?_
 dsimp only [wb]
 kd_p
 refine ⟨aZ W.n2 (by decide),yW (by decide) W.n1,?_⟩
 rw [g3A]
 refine cp V.int (fun _=>true) (fun i=>lI (row us i)) (rI n) (fun i hi=>?_) ?_
 ·kd_p
  exact ⟨fun K hk=>hk,fun _ K hk=>z4A hC (r0A.mp hi).1 (r0A.mp hi).2 (W.nbL_len i) fun _=>hk⟩
 rw [z0Z.mpr (fun _ _=>rfl)]
 refine ⟨sm_m (k:=16) W.nlen rfl,nx ?_⟩
 kd_p
 refine nx ?_
 kd_p
 refine fl3 tV (fun o _ _=>[("met", none),("found", none),("other", none),("one", none),("marks", none),("point", none),("tie", o),("groups", some (.ref 0)),("rows", some (.v (.list ((rI n).map fun i=>lI (row us i))))),("ties", some (.v (lT (srtT us)))),("web", some (.v (wb n us)))]) (fun _ kvs _=>[.map kvs])
  (fun r _ kvs dn=>dn++r=srtT us∧Dm kp kvs dn (fun t=>tV t)) ?_ ?_ (srtT us) _ [] [] ⟨rfl,Dm.nil⟩
 ·rintro t r o kvs dn ⟨e,hD⟩ W' hW
  have htd:t∉dn:=fun hm=>(z3Q.mp (e ▸ hSn:(dn++t::r).Nodup)).2.2 t hm t aQ rfl
  kd_p
  refine nx ?_
  kd_p
  refine gx (hD.putO kfP t _ ?_) ?_
  ·rw [← e,fQ] at hSl
   exact dQ (dQ (z5Q _ _) hSl) (by decide)
  kd_p
  have hD2:=hD.put kfP t (tV t)
  rw [m1A htd] at hD2
  refine ⟨rfl,hW _ _ (dn++[t]) ⟨by rw [kQ];exact e,hD2.of fun z _=>?_⟩⟩
  by_cases q:z=t
  ·rw [if_pos q,q]
  ·rw [if_neg q]
 rintro ot kvs dn ⟨e,hD⟩
 rw [z1Q] at e
 subst e
 kd_p
 refine nx ?_
 kd_p
 refine nx ?_
 dsimp only [wb]
 kd_p
 refine ⟨aZ W.n2 (by decide),yW (by decide) W.n1,?_⟩
 rw [g3A]
 refine fl3 V.int (fun (o:Option A×Option A×Option A×Option A) gk _=>[("met", none),("found", none),("other", o.1),("one", o.2.1),("marks", o.2.2.1),("point", o.2.2.2),("tie", ot),("groups", some (.v (dv gk))),("rows", some (.v (.list ((rI n).map fun i=>lI (row us i))))),("ties", some (.v (lT (srtT us)))),("web", some (.v (wb n us)))]) (fun _ _ _=>[.dead])
  (fun r _ gk g=>(∀ p∈r,p∈rI n)∧Bg n us gk g (fun p _ _=>p∈r)) ?_ ?_ (rI n) (_,_,_,_) kvs id ⟨fun _ h=>h,hD,fun t _ u _ (e:t=u)=>e ▸ .refl,fun p x y hx _ _ _=>.inl (W.adj_rg ((z0A W.up).mp hx)).1⟩
 ·rintro p r o gk g ⟨hr,I⟩ W1 hW1
  have hp:=hr p aQ
  kd_p
  refine nx ?_
  kd_p
  refine ⟨rfl,rfl,marks_ok hC W hp fun mk mf _ hM hmf=>?_⟩
  kd_p
  refine nx ?_
  kd_p
  refine gx (itR (r0A.mp hp).1 (r0A.mp hp).2) ?_
  refine fl3 V.int (fun (o:Option A×Option A) gk _=>[("met", none),("found", none),("other", o.1),("one", o.2),("marks", some (.v (dv mk))),("point", some (iv p)),("tie", ot),("groups", some (.v (dv gk))),("rows", some (.v (.list ((rI n).map fun i=>lI (row us i))))),("ties", some (.v (lT (srtT us)))),("web", some (.v (wb n us)))]) (fun _ _ _=>[.dead])
   (fun q _ gk g=>(∀ x∈q,x∈row us p)∧Bg n us gk g (fun p' x _=>p'∈r∨(p'=p∧x∈q))) ?_ ?_ (row us p) (_,_) gk g ⟨fun _ h=>h,I.dm,I.of,fun p' x y hx hy hl hc=>?_⟩
  ·rintro one q o gk g ⟨hq,I⟩ W2 hW2
   have h1:=hq one aQ
   kd_p
   refine nx ?_
   kd_p
   refine gx (itR (r0A.mp hp).1 (r0A.mp hp).2) ?_
   refine fl3 V.int (fun (o:Option A) gk _=>[("met", none),("found", none),("other", o),("one", some (iv one)),("marks", some (.v (dv mk))),("point", some (iv p)),("tie", ot),("groups", some (.v (dv gk))),("rows", some (.v (.list ((rI n).map fun i=>lI (row us i))))),("ties", some (.v (lT (srtT us)))),("web", some (.v (wb n us)))]) (fun _ _ _=>[.dead])
    (fun s _ gk g=>(∀ x∈s,x∈row us p)∧Bg n us gk g (fun p' x y=>p'∈r∨(p'=p∧(x∈q∨(x=one∧y∈s))))) ?_ ?_ (row us p) _ gk g ⟨fun _ h=>h,I.dm,I.of,fun p' x y hx hy hl hc=>?_⟩
   ·rintro oth s o gk g ⟨hs,I⟩ W3 hW3
    have h2:=hs oth aQ
    have hs':∀ x∈s,x∈row us p:=fun x hx=>hs x (bQ _ hx)
    have t1:te p one∈us:=W.up.adj.mp ((z0A W.up).mp h1)
    have t2:te p oth∈us:=W.up.adj.mp ((z0A W.up).mp h2)
    have skip:(one<oth→Cn (tsq us [p]) one oth→False)→∀ o,W3 [("met", none),("found", none),("other", o),("one", some (iv one)),("marks", some (.v (dv mk))),("point", some (iv p)),("tie", ot),("groups", some (.v (dv gk))),("rows", some (.v (.list ((rI n).map fun i=>lI (row us i))))),("ties", some (.v (lT (srtT us)))),("web", some (.v (wb n us)))] [.dead]:=fun hno o=>hW3 o gk g ⟨hs',I.dm,I.of,fun p' x y hx hy hl hc=>by
     rcases I.jd p' x y hx hy hl hc with (h | ⟨h,h' | ⟨h',h''⟩⟩) | h
     ·exact .inl (.inl h)
     ·exact .inl (.inr ⟨h,.inl h'⟩)
     ·rcases lQ.mp h'' with h'' | h''
      ·subst h h' h'';exact (hno hl hc).elim
      ·exact .inl (.inr ⟨h,.inr ⟨h',h''⟩⟩)
     ·exact .inr h⟩
    kd_p
    refine nx ?_
    kd_p
    refine br (fun q1=>gx (hM.getD kfI h1) (gx (hM.getD kfI h2) ?_)) fun q1=>⟨rfl,skip (fun hl _=>absurd hl (kZ.mpr (j4B q1))) _⟩
    kd_p
    refine br (fun q2=>nx ?_) fun q2=>⟨rfl,skip (fun _ hc=>of_decide_eq_false q2 ((hmf one h1 oth h2).mpr hc)) _⟩
    have hc:=(hmf one h1 oth h2).mp (of_decide_eq_true q2)
    kd_p
    refine ⟨rfl,rfl,m8B hC (a:=te p one) (b:=te p oth) I.dm hSl (j2A.mpr t1) (j2A.mpr t2) fun gk' _ hD'=>?_⟩
    kd_p
    refine ⟨rfl,hW3 _ gk' _ ⟨hs',hD',mg_sound I.of t1 t2 (.step .refl t2 ⟨p,one,oth,rfl,rfl,hc⟩),fun p' x y hx hy hl hc=>?_⟩⟩
    rcases I.jd p' x y hx hy hl hc with (h | ⟨h,h' | ⟨h',h''⟩⟩) | h
    ·exact .inl (.inl h)
    ·exact .inl (.inr ⟨h,.inl h'⟩)
    ·rcases lQ.mp h'' with h'' | h''
     ·subst h h' h'';exact .inr (mg_join g _ _)
     ·exact .inl (.inr ⟨h,.inr ⟨h',h''⟩⟩)
    ·exact .inr (mg_keep h)
   ·rintro o gk g ⟨_,I⟩
    kd_p
    refine ⟨rfl,hW2 (_,_) gk g ⟨fun x hx=>hq x (bQ _ hx),I.mono fun p' x y hS=>?_⟩⟩
    rcases hS with h | ⟨h,h' | ⟨_,h'⟩⟩
    ·exact .inl h
    ·exact .inr ⟨h,h'⟩
    ·cases h'
   ·rcases I.jd p' x y hx hy hl hc with (h | ⟨h,h'⟩) | h
    ·exact .inl (.inl h)
    ·rcases lQ.mp h' with h' | h'
     ·exact .inl (.inr ⟨h,.inr ⟨h',h ▸ hy⟩⟩)
     ·exact .inl (.inr ⟨h,.inl h'⟩)
    ·exact .inr h
  ·rintro o gk g ⟨_,I⟩
   kd_p
   refine ⟨rfl,hW1 (_,_,_,_) gk g ⟨fun x hx=>hr x (bQ _ hx),I.mono fun p' x y hS=>?_⟩⟩
   rcases hS with h | ⟨_,h⟩
   ·exact h
   ·cases h
  ·rcases I.jd p' x y hx hy hl hc with h | h
   ·rcases lQ.mp h with h | h
    ·exact .inl (.inr ⟨h,h ▸ hx⟩)
    ·exact .inl (.inl h)
   ·exact .inr h
 rintro o gk g ⟨_,I⟩
 have hgp:Gp us g:=⟨I.of,fun t ht u hu hj=>by
  refine bc fun zZ=>?_
  obtain ⟨p,x,y,rfl,rfl,hc⟩:=hj
  refine zZ ?_;clear zZ
  have hx:=(z0A W.up).mpr (W.up.adj.mpr ht)
  have hy:=(z0A W.up).mpr (W.up.adj.mpr hu)
  rcases Int.lt_trichotomy x y with hl | hl | hl
  ·exact (I.jd p x y hx hy hl hc).resolve_left fun h=>nomatch h
  ·rw [hl]
  ·exact ((I.jd p y x hy hx hl hc.symm).resolve_left fun h=>nomatch h).symm⟩
 have hgD:=I.dm
 clear I
 kd_p
 refine nx ?_
 kd_p
 refine ⟨f1A (sQ 0) rfl,nx ?_⟩
 kd_p
 refine nx ?_
 kd_p
 refine fl3 tV (fun o' _ _=>[("met", some (.ref 2)),("found", some (.ref 1)),("other", o.1),("one", o.2.1),("marks", o.2.2.1),("point", o.2.2.2),("tie", o'),("groups", some (.v (dv gk))),("rows", some (.v (.list ((rI n).map fun i=>lI (row us i))))),("ties", some (.v (lT (srtT us)))),("web", some (.v (wb n us)))]) (fun _ kvs Mt=>[.dead,.list (Mt.map fun m=>lT (blk us g m)),.map kvs])
  (fun r _ kvs Mt=>Ds kp kvs Mt∧(∀ t∈r,t∈us)∧(∀ m∈Mt,∃ t∈us,g t=m)∧(∀ t∈us,t∈r∨g t∈Mt)∧Mt.length+r.length≤40) ?_ ?_ (srtT us) _ [] [] ⟨Ds.nil,fun t ht=>j2A.mp ht,fun _ h=>(nomatch h),fun t ht=>.inl (j2A.mpr ht),by rw [List.length_nil,iZ];exact hSl⟩
 ·intro t r o' kvs Mt zY0 W1 hW1
  refine bc fun zZ=>?_
  obtain ⟨hD,hr,hof,hto,hlen⟩:=zY0
  refine zZ ?_;clear zZ
  have ht:=hr t aQ
  have hr':∀ t∈r,t∈us:=fun u hu=>hr u (bQ _ hu)
  have hlen':Mt.length+r.length+1≤40:=hlen
  have hMl:Mt.length≤40:=dQ (z5Q _ _) (z3W hlen')
  kd_p
  refine nx ?_
  kd_p
  refine gx (hgD.getD kfP (j2A.mpr ht)) ?_
  by_cases q:g t∈Mt
  ·refine gx (congrArg _ (hD.inT kfP q)) (brF rfl ⟨rfl,hW1 _ _ Mt ⟨hD,hr',hof,fun u hu=>?_,z3W hlen'⟩⟩)
   rcases hto u hu with h | h
   ·rcases lQ.mp h with rfl | h
    ·exact .inr q
    ·exact .inl h
   ·exact .inr h
  ·refine gx (congrArg _ (hD.inF kfP q)) (brT rfl (nx ?_))
   kd_p
   refine gx (hgD.getD kfP (j2A.mpr ht)) (gx (hD.putO kfP (g t) _ (dQ hMl (by decide))) ?_)
   kd_p
   refine nx ?_
   kd_p
   refine ⟨rfl,?_⟩
   refine cp tV (fun u=>decide (g u=g t)) tV (srtT us) (fun u hu=>?_) ?_
   ·kd_p
    exact ⟨fun K hk=>gx (hgD.getD kfP hu) (gx (hgD.getD kfP (j2A.mpr ht)) (gx (eqTV _ _ _) (tk hk))),fun _ K hk=>hk⟩
   have hD2:=hD.put kfP (g t) (.bool true)
   rw [m1A q] at hD2
   refine ⟨sm_m (k:=40) (flen hSl) rfl,ap_m hMl rfl,?_⟩
   kd_p
   rw [show (Mt.map fun m=>lT (blk us g m))++[V.list (((srtT us).filter fun u=>decide (g u=g t)).map tV)]=(Mt++[g t]).map fun m=>lT (blk us g m) by rw [z0Q];rfl]
   refine ⟨rfl,hW1 _ _ (Mt++[g t]) ⟨hD2,hr',fun m hm=>?_,fun u hu=>?_,by rw [fQ,wK];exact hlen'⟩⟩
   ·rcases iQ.mp hm with hm | hm
    ·exact hof m hm
    ·exact ⟨t,ht,(cQ.mp hm).symm⟩
   ·rcases hto u hu with h | h
    ·rcases lQ.mp h with rfl | h
     ·exact .inr (gQ _ (cQ.mpr rfl))
     ·exact .inl h
    ·exact .inr (mQ _ h)
 ·intro o' kvs Mt zY0
  refine bc fun zZ=>?_
  obtain ⟨hD,_,hof,hto,hlen⟩:=zY0
  refine zZ ?_;clear zZ
  kd_p
  refine nx ?_
  kd_p
  exact h g Mt _ ⟨hgp,hD.nd,hof,fun t ht=>(hto t ht).resolve_left fun h=>nomatch h⟩ hlen
end
end Fl
namespace Fl
open PySem (Str)
structure Lk (B:List Dt) (lk:List (Ky×V)) (P:List Int):Prop where
 dm:Dm Ky.i lk P (fun x=>lI (row B x))
 up:Up B
 nd:B.Nodup
 mem:∀ x,x∈P↔∃ y,adj B x y=true
 le:P.length≤16
 bl:B.length≤40
 rg:∀ x∈P,0≤x∧x<16
theorem Lk.nb {B lk P} (H:Lk B lk P) {i j:Int}:j∈row B i↔adj B i j=true:=z0A H.up
theorem Lk.cl {B lk P} (H:Lk B lk P) (i:Int) (_:i∈P) (j:Int) (h:j∈row B i):j∈P:=(H.mem j).mpr ⟨i,s0A (H.nb.mp h)⟩
theorem Lk.rlen {B lk P} (H:Lk B lk P) (i:Int):(row B i).length≤16:=by
 refine dQ (b0A (s7A (a8A H.up H.nd i)) fun j hj=>?_) H.le
 exact (H.mem j).mpr ⟨i,s0A (H.nb.mp hj)⟩
theorem d3B {α β:Type} (f:α→β):∀ a b:List α,(a.map f).zip (b.map f)=(a.zip b).map fun q=>(f q.1,f q.2)
 | [],_=>rfl
 | _::_,[]=>rfl
 | x::a,y::b=>congrArg ((f x,f y)::·) (d3B f a b)
theorem i7B {α:Type} (l:List α):o1A l (some 1) none=l.tail:=by
 show (l.take l.length).drop (cut l.length 1)=_
 rw [List.take_length,u5A (by decide)]
 cases l with
 | nil=>rfl
 | cons x l=>rw [show min (1:Int).toNat (x::l).length=1 from jZ (tQ (sQ _))];rfl
section
variable {C:a0A} (hC:d1A C tab)
include hC
theorem pair_ok {a b:Int} {K} (h:∀ σ',K (tV (te a b)) σ'):C "pair_of" [iv a,iv b] [] K:=by
 refine fnA hC 18 rfl rfl (nx ?_)
 dsimp only [k1B]
 kd_p
 exact h _
theorem lay_ok {row:List Int} {kvs:List (Ky×V)} {L:List Dt} {K} (hD:Ds kp kvs L) (hr:row.length≤100) (hL:L.length≤500) (h:∀ kvs' L' σ',Ds kp kvs' L'→(∀ t,t∈L'↔t∈L∨∃ q∈row.zip row.tail,t=te q.1 q.2)→K .none (.map kvs'::σ')):C "lay" [.ref 0,.v (lI row)] [.map kvs] K:=by
 refine fnA hC 19 rfl rfl (nx ?_)
 dsimp only [f_lay]
 kd_p
 rw [w0A,i7B,d3B]
 have hz:(row.zip row.tail).length≤100:=by rw [List.length_zip];exact dQ (z1K _ _) hr
 refine ⟨sm_m (k:=100) (by rw [List.length_tail];exact dQ (pK _ _) hr) rfl,?_⟩
 refine fl4 (fun q:Dt=>(V.int q.1,V.int q.2)) (fun (o:Option A×Option A) _ _ _=>[("other", o.1),("one", o.2),("laid", some (.ref 0)),("row", some (.v (lI row)))]) (fun _ kvs _ _=>[.map kvs])
  (fun r _ kvs L' dn=>dn++r=row.zip row.tail∧Ds kp kvs L'∧(∀ t,t∈L'↔t∈L∨∃ q∈dn,t=te q.1 q.2)∧L'.length≤500+dn.length) ?_ ?_ _ (_,_) kvs L [] ⟨rfl,hD,fun t=>⟨.inl,fun h=>h.elim id fun ⟨_,h,_⟩=>nomatch h⟩,hL⟩
 ·intro q r o kvs L' dn zY0 W' hW
  refine bc fun zZ=>?_
  obtain ⟨e,hD,hm,hl⟩:=zY0
  refine zZ ?_;clear zZ
  have hdn:dn.length≤100:=by
   rw [← e,fQ] at hz
   exact dQ (z5Q _ _) hz
  kd_p
  refine nx ?_
  kd_p
  refine ⟨rfl,rfl,pair_ok hC fun _=>?_⟩
  kd_p
  refine gx (hD.putO kfP (te q.1 q.2) _ (dQ hl (dQ (bW hdn 500) (by decide)))) ?_
  kd_p
  refine ⟨⟨rfl,rfl⟩,hW (_,_) _ _ (dn++[q]) ⟨by rw [kQ];exact e,hD.put kfP _ _,fun t=>?_,?_⟩⟩
  ·rw [o0A,hm]
   constructor
   ·rintro ((h | ⟨u,hu,e⟩) | h)
    ·exact .inl h
    ·exact .inr ⟨u,mQ _ hu,e⟩
    ·exact .inr ⟨q,gQ _ (cQ.mpr rfl),h⟩
   ·rintro (h | ⟨u,hu,e⟩)
    ·exact .inl (.inl h)
    ·rcases iQ.mp hu with hu | hu
     ·exact .inl (.inr ⟨u,hu,e⟩)
     ·rw [cQ.mp hu] at e;exact .inr e
  ·rw [fQ];exact dQ (k9A _ _) (tQ hl)
 ·intro o kvs L' dn zY0
  refine bc fun zZ=>?_
  obtain ⟨e,hD,hm,_⟩:=zY0
  refine zZ ?_;clear zZ
  rw [z1Q] at e
  subst e
  kd_p
  exact h _ _ _ hD hm
theorem o5B {B lk P} {x:Int} {ik:List (Ky×V)} {D:List Int} {K} (H:Lk B lk P) (hx:x∈P) (hD:Ds Ky.i ik D) (h:∀ b σ',(b=true↔∃ y∈D,adj B x y=true)→K (.bool b) σ'):C "touches" [.v (dv lk),iv x,.v (dv ik)] [] K:=by
 refine fnA hC 22 rfl rfl (nx ?_)
 dsimp only [i1B]
 kd_p
 refine gx (H.dm.getD kfI hx) ?_
 kd_p
 refine fl1 V.int (fun o=>[("other", o),("links", some (.v (dv lk))),("point", some (iv x)),("inner", some (.v (dv ik)))]) (fun _=>[]) (fun r _=>(∀ j∈r,j∈row B x)∧∀ y∈D,adj B x y=true→y∈r) ?_ ?_ (row B x) _ ⟨fun _ h=>h,fun y _ h=>H.nb.mpr h⟩
 ·rintro j r o ⟨hr,hc⟩ W' hW
  kd_p
  refine nx ?_
  kd_p
  by_cases q:j∈D
  ·refine gx (hD.inDT kfI q) (brT rfl (nx ?_))
   kd_p
   exact h true _ ⟨fun _=>⟨j,q,H.nb.mp (hr j aQ)⟩,fun _=>rfl⟩
  ·refine gx (hD.inDF kfI q) (brF rfl ⟨rfl,hW _ ⟨fun j hj=>hr j (bQ _ hj),fun y hy ha=>?_⟩⟩)
   rcases lQ.mp (hc y hy ha) with rfl | h
   ·exact absurd hy q
   ·exact h
 ·rintro o ⟨_,hc⟩
  kd_p
  refine nx ?_
  kd_p
  exact h false _ ⟨fun h=>(nomatch h),fun ⟨y,hy,ha⟩=>nomatch hc y hy ha⟩
theorem n9A {fs:List (List Int)} {ends:List Int} {K} (hf:fs.length≤100) (he:ends.length≤100) (h:∀ ix σ',(∀ k∈ix,∃ j:Nat,k=(j:Int)∧∃ f,fs[j]?=some f∧∀ e∈ends,e∈f)→ix.length≤100→K (lI ix) σ'):C "fields_for" [.v (.list (fs.map lI)),.v (lI ends)] [] K:=by
 refine fnA hC 23 rfl rfl (nx ?_)
 dsimp only [q5A]
 kd_p
 refine ⟨f1A (sQ 0) rfl,nx ?_⟩
 kd_p
 rw [zip_m]
 refine fl2 (fun q:List Int×Nat=>(lI q.1,q.2)) (fun (o:Option A×Option A) _=>[("field", o.1),("at", o.2),("found", some (.ref 0)),("fields", some (.v (.list (fs.map lI)))),("ends", some (.v (lI ends)))]) (fun _ ix=>[.list (ix.map V.int)])
  (fun r _ ix=>(∀ q∈r,fs[q.2]?=some q.1)∧(∀ k∈ix,∃ j:Nat,k=(j:Int)∧∃ f,fs[j]?=some f∧∀ e∈ends,e∈f)∧ix.length+r.length≤100) ?_ ?_ _ (_,_) [] ⟨fun q hq=>List.mem_zipIdx_iff_getElem?.mp hq,fun _ h=>(nomatch h),by rw [List.length_nil,iZ,List.length_zipIdx];exact hf⟩
 ·intro q r o ix zY0 W' hW
  refine bc fun zZ=>?_
  obtain ⟨hr,hx,hl⟩:=zY0
  refine zZ ?_;clear zZ
  have hl':ix.length+r.length+1≤100:=hl
  have hr':∀ q∈r,fs[q.2]?=some q.1:=fun q hq=>hr q (bQ _ hq)
  kd_p
  refine nx ?_
  kd_p
  refine cp V.int (fun e=>!decide (e∈q.1)) V.int ends (fun e _=>?_) ?_
  ·kd_p
   exact ⟨fun K hk=>gx (congrArg _ (inLi _ _)) (tk hk),fun _ K hk=>hk⟩
  rw [eQ]
  refine ⟨sm_m (k:=100) (flen he) rfl,br (fun c=>nx ?_) fun c=>⟨rfl,hW (_,_) ix ⟨hr',hx,z3W hl'⟩⟩⟩
  kd_p
  refine ⟨rfl,ap_m (k:=100) (by lia) rfl,?_⟩
  rw [ap1]
  refine ⟨rfl,hW (_,_) (ix++[(q.2:Int)]) ⟨hr',fun k hk=>?_,by rw [fQ,wK];exact hl'⟩⟩
  rcases iQ.mp hk with hk | hk
  ·exact hx k hk
  ·refine ⟨q.2,cQ.mp hk,q.1,hr q aQ,fun e he=>?_⟩
   have h0:(ends.filter fun e=>!decide (e∈q.1))=[]:=List.eq_nil_of_length_eq_zero (Int.ofNat.inj (of_decide_eq_true c))
   have:=List.filter_eq_nil_iff.mp h0 e he
   exact Classical.byContradiction fun hn=>this (nt (decide_eq_false hn))
 ·intro o ix zY0
  refine bc fun zZ=>?_
  obtain ⟨_,hx,hl⟩:=zY0
  refine zZ ?_;clear zZ
  kd_p
  refine nx ?_
  kd_p
  exact h ix _ hx hl
end
end Fl
namespace Fl
theorem qk1 {q k n:Nat} (hq:q+k=20) (hk:k<n) (hn:n≤16):q - 1<q∧q - 1+(k+1)=20:=by
 have hq0:0<q:=Nat.pos_of_ne_zero fun e=>by
  rw [e,iZ] at hq
  exact absurd (hq ▸ hk) (z6W.mpr (dQ hn (by decide)))
 exact ⟨Nat.sub_lt hq0 Nat.one_pos,by rw [bZ k,← z3Z,Nat.sub_add_cancel hq0];exact hq⟩
open PySem (Str)
theorem sl_to {α:Type} {l:List α} {k:Nat} (h:k≤l.length):o1A l none (some (k:Int))=l.take k:=by
 show (l.take (cut l.length (k:Int))).drop 0=_
 rw [u5A (qW _),z2W,jZ h];rfl
theorem a2B {α:Type} {l:List α} {k:Nat} (h:k≤l.length):o1A l (some (k:Int)) none=l.drop k:=by
 show (l.take l.length).drop (cut l.length (k:Int))=_
 rw [u5A (qW _),z2W,jZ h,List.take_length]
theorem sl_mid {α:Type} (a b:α) (l:List α):o1A (a::(l++[b])) (some 1) (some (-1))=l:=by
 have hl:(a::(l++[b])).length=l.length+2:=by rw [mW,fQ];rfl
 show ((a::(l++[b])).take (cut _ (-1))).drop (cut _ 1)=_
 rw [hl,u5A (by decide)]
 have e1:cut (l.length+2) (-1)=l.length+1:=by
  unfold cut
  rw [if_pos (by decide)]
  show ((-1:Int)+((l.length+2:Nat):Int)).toNat=_
  lia
 have e2:min (1:Int).toNat (l.length+2)=1:=jZ (by show 1≤_;lia)
 rw [e1,e2]
 show (l++[b]).take l.length=l
 rw [List.take_append_of_le_length (uQ _),List.take_length]
theorem f9B (a b:Int) (l:List Int):x1A ((a::(l++[b])).map V.int) (.v (.int (-1)))=some (.int b):=by
 have hl:(a::(l++[b])).length=l.length+2:=by rw [mW,fQ];rfl
 show (idx _ (-1)).bind _=_
 rw [eQ,hl,idx_ng (by decide) (by show (0:Int)≤-1+((l.length+2:Nat):Int);lia),obind]
 have e:((-1:Int)+((l.length+2:Nat):Int)).toNat=l.length+1:=by lia
 rw [e,oQ]
 show ((l++[b])[l.length]?).map V.int=_
 rw [vW];rfl
theorem turn_cut {f:List Int} {a b:Int} (hn:f.Nodup) (ha:a∈f) (hb:b∈f) (hab:a≠b):∃ X Y,f.drop (f.idxOf a)++f.take (f.idxOf a)=a::(X++b::Y)∧(a::(X++b::Y)).idxOf b=X.length+1∧(cyc f).Perm (cyc (a::(X++b::Y)))∧f.Perm (a::(X++b::Y)):=by
 have hi:=sK ha
 have e0:f.drop (f.idxOf a)++f.take (f.idxOf a)=a::(f.drop (f.idxOf a+1)++f.take (f.idxOf a)):=by
  rw [sW hi,List.getElem_idxOf hi];rfl
 have hp:f.Perm (f.drop (f.idxOf a)++f.take (f.idxOf a)):=by
  have:=z9Q (l₁:=f.take (f.idxOf a)) (l₂:=f.drop (f.idxOf a))
  rw [kW] at this
  exact this
 have hc:(cyc f).Perm (cyc (f.drop (f.idxOf a)++f.take (f.idxOf a))):=by
  have:=f6A (f.take (f.idxOf a)) (f.drop (f.idxOf a))
  rw [kW] at this
  exact this
 rw [e0] at hp hc ⊢
 have hbR:b∈f.drop (f.idxOf a+1)++f.take (f.idxOf a):=(lQ.mp (hp.mem_iff.mp hb)).resolve_left (Ne.symm hab)
 refine bc fun zZ=>?_
 obtain ⟨X,Y,e⟩:=aJ hbR
 refine zZ ?_;clear zZ
 rw [e] at hp hc ⊢
 have hnd:=hp.nodup_iff.mp hn
 have hbX:b∉X:=fun hm=>(z3Q.mp (rQ.mp hnd).2).2.2 b hm b aQ rfl
 refine ⟨X,Y,rfl,?_,hc,hp⟩
 rw [List.idxOf_cons,cond_eq_ite,if_neg fun e=>hab (beq_iff_eq.mp e),List.idxOf_append,if_neg hbX,List.idxOf_cons_self,iZ]
section
variable {C:a0A} (hC:d1A C tab)
include hC
theorem f8B {f inn:List Int} {a b:Int} {K} (hn:f.Nodup) (ha:a∈f) (hb:b∈f) (hab:a≠b) (hf:f.length≤100) (hi:inn.length≤100)
  (h:∀ X Y σ',(cyc f).Perm (cyc (a::(X++b::Y)))→f.Perm (a::(X++b::Y))→K (.list [lI (a::(X++b::inn.reverse)),lI (b::(Y++a::inn))]) σ'):C "parted" [.v (lI f),.v (lI (a::(inn++[b])))] [] K:=by
 refine bc fun zZ=>?_
 obtain ⟨X,Y,et,ex,hc,hp⟩:=turn_cut hn ha hb hab
 refine zZ ?_;clear zZ
 have hlen:(a::(X++b::Y)).length≤100:=by rw [← hp.length_eq];exact hf
 have hXY:X.length+Y.length+2≤100:=by
  rw [mW,fQ,mW] at hlen
  exact hlen
 refine fnA hC 24 rfl rfl (nx ?_)
 dsimp only [p4B]
 kd_p
 refine ⟨rfl,gx (itL (x:=.int a) (fK 0) rfl) ?_⟩
 kd_p
 rw [x3A]
 have hia:f.idxOf a≤f.length:=z8Q (sK ha)
 refine ⟨allI _,ha,nx ?_⟩
 kd_p
 rw [w0A,w0A,a2B hia,sl_to hia,← z0Q,et]
 refine ⟨sm_m (k:=100) (by rw [List.length_drop];exact dQ (pK _ _) hf) rfl,sm_m (k:=100) (by rw [uK];exact dQ (z6K _ _) hf) rfl,sm_m hlen rfl,nx ?_⟩
 kd_p
 refine ⟨rfl,gx (f9B a b inn) ?_⟩
 kd_p
 rw [x3A,ex]
 refine ⟨allI _,bQ _ (gQ _ aQ),nx ?_⟩
 kd_p
 rw [w0A,sl_mid]
 refine ⟨sm_m hi rfl,nx ?_⟩
 kd_p
 have hk:X.length+1≤(a::(X++b::Y)).length:=tQ (by rw [fQ];exact z5Q _ _)
 have hk2:X.length+2≤(a::(X++b::Y)).length:=tQ (by rw [fQ,mW];exact bW (tQ (sQ _)) _)
 have e1:o1A (a::(X++b::Y)) none (some (((X.length+1:Nat):Int)+1))=a::(X++[b]):=by
  rw [show (((X.length+1:Nat):Int)+1)=((X.length+2:Nat):Int) from rfl,sl_to hk2]
  show a::(X++b::Y).take (X.length+1)=_
  rw [List.take_append,tK (Nat.le_succ _),oK];rfl
 have e2:o1A (a::(X++b::Y)) (some ((X.length+1:Nat):Int)) none=b::Y:=by
  rw [a2B hk]
  show (X++b::Y).drop X.length=_
  rw [List.drop_append,List.drop_length,Nat.sub_self];rfl
 rw [w0A,w0A,e1,e2,← List.map_reverse,← z0Q]
 have m1:((b::Y).map V.int++[V.int a])++inn.map V.int=(b::(Y++a::inn)).map V.int:=by
  rw [kQ,z6Q,z6Q,z0Q];rfl
 have m2:a::(X++[b])++inn.reverse=a::(X++b::inn.reverse):=by
  show a::(X++[b]++inn.reverse)=_
  rw [kQ];rfl
 rw [m2]
 refine ⟨sm_m (k:=100) (by rw [mW,fQ];show X.length+1+1≤100;lia) rfl,sm_m (k:=100) (by rw [List.length_reverse];exact hi) rfl,sm_m (k:=300) (by rw [mW,fQ,mW,List.length_reverse];lia) rfl,sm_m (k:=100) (by rw [mW];lia) rfl,gx (itL (x:=.int a) (fK 0) rfl) ⟨f1A (k:=1) (uQ 1) rfl,?_⟩⟩
 refine ⟨f1A (k:=200) (by rw [fQ,eQ,mW];show Y.length+1+1≤200;lia) rfl,?_⟩
 rw [m1]
 exact ⟨sm_m (k:=300) (by rw [mW,fQ,mW];lia) rfl,f1A (k:=2) (uQ 2) rfl,h X Y _ hc hp⟩
end
noncomputable def ov:Option Int→V
 | none=>.none
 | some y=>.int y
inductive Bk (B:List Dt) (f:Int→Option Int) (s:Int):Int→List Int→Prop where
 | base:f s=none→Bk B f s s []
 | step {y z:Int} {l:List Int}:Bk B f s y l→f z=some y→z∉s::l→adj B y z=true→Bk B f s z (l++[z])
theorem Bk.of {B f f' s z l} (H:Bk B f s z l) (h:∀ x∈s::l,f' x=f x):Bk B f' s z l:=by
 induction H with
 | base h0=>exact .base (by rw [h _ aQ];exact h0)
 | @step y z l h1 h2 h3 h4 ih=>
  have hl:∀ x∈s::l,x∈s::(l++[z]):=fun x hx=>(lQ.mp hx).elim (fun e=>e ▸ aQ) fun h=>bQ _ (mQ _ h)
  refine .step (ih fun x hx=>h x (hl x hx)) ?_ h3 h4
  rw [h z (bQ _ (gQ _ (cQ.mpr rfl)))];exact h2
theorem Bk.nd {B f s z l} (H:Bk B f s z l):(s::l).Nodup:=by
 induction H with
 | base _=>exact nd1 s
 | @step y z l h1 h2 h3 h4 ih=>
  have:s::(l++[z])=ins (s::l) z:=(m1A h3).symm
  rw [this];exact b1B ih
theorem Bk.la {B f s z l} (H:Bk B f s z l):la s l=z:=by
 cases H with
 | base _=>rfl
 | step _ _ _ _=>exact o3A 0 _ [] _ _
theorem Bk.ch {B f s z l} (H:Bk B f s z l):∀ q∈cs s l,adj B q.1 q.2=true:=by
 induction H with
 | base _=>intro q h;cases h
 | @step y z l h1 h2 h3 h4 ih=>
  intro q hq
  rw [s3A] at hq
  rcases iQ.mp hq with hq | hq
  ·exact ih q hq
  ·rw [cQ.mp hq]
   show adj B (Fl.la s l) z=true
   rw [h1.la];exact h4
section
variable {C:a0A} (hC:d1A C tab)
include hC
theorem n6A {B:List Dt} {f:Int→Option Int} {s z:Int} {l D:List Int} {kvs:List (Ky×V)} {K} (hD:Dm Ky.i kvs D (fun x=>ov (f x))) (H:Bk B f s z l) (hl:∀ x∈s::l,x∈D) (hlen:l.length≤100) (h:∀ σ',K (lI (s::l)) (.map kvs::σ')):C "row_back" [.ref 0,iv z] [.map kvs] K:=by
 refine fnA hC 17 rfl rfl (nx ?_)
 dsimp only [l8A]
 kd_p
 refine ⟨f1A (sQ 0) rfl,nx ?_⟩
 kd_p
 refine wl3 (fun (c:Option Int) r _=>[("row", some (.v (lI r))),("ahead", some (.ref 0)),("point", some (.v (ov c)))]) (fun _ _ _=>[.map kvs])
  (fun q c r l'=>(match c with | some z=>Bk B f s z l'∧(s::l')++r=s::l∧q=l'.length+1 | none=>r=s::l∧q=0)) ?_ (l.length+1) (some z) [] l ⟨H,z1Q _,rfl⟩
 rintro q c r l' hq W' hW
 cases c with
 | none=>
  obtain ⟨rfl,_⟩:=hq
  dsimp only [ov]
  kd_p
  refine nx ?_
  kd_p
  exact h _
 | some z=>
  refine bc fun zZ=>?_
  obtain ⟨hB,e,rfl⟩:=hq
  refine zZ ?_;clear zZ
  have hr:r.length≤101:=by
   have:=congrArg List.length e
   rw [fQ,mW,mW] at this
   lia
  have hzl:z∈s::l':=by rw [← hB.la];exact e4A l' s
  have hzD:z∈D:=hl z (by rw [← e];exact mQ _ hzl)
  dsimp only [ov]
  kd_p
  refine nx ?_
  kd_p
  refine ⟨f1A (k:=1) (uQ 1) rfl,f1A (k:=102) (by show (List.map V.int r).length+1≤102;rw [eQ];exact tQ hr) rfl,nx ?_⟩
  kd_p
  refine gx (hD.get kfI hzD) ?_
  show W' [("row", some (.v (lI (z::r)))),("ahead", some (.ref 0)),("point", some (.v (ov (f z))))] [.map kvs]
  cases hB with
  | base h0=>
   rw [h0]
   exact hW 0 none (s::r) [] (vZ _) ⟨e,rfl⟩
  | @step y _ l'' h1 h2 h3 h4=>
   rw [h2]
   refine hW (l''.length+1) (some y) (z::r) l'' (by rw [fQ];exact nZ _) ⟨h1,?_,rfl⟩
   rw [← e]
   show s::(l''++z::r)=s::(l''++[z]++r)
   rw [kQ];rfl
end
end Fl
namespace Fl
open PySem (Str)
structure Bf (B:List Dt) (D:List Int) (s:Int) (w:List Int) (f:Int→Option Int):Prop where
 st:s∈w
 nd:w.Nodup
 bk:∀ z∈w,∃ l,Bk B f s z l∧∀ x∈l,x∈w
 inn:∀ z∈w,z=s∨z∈D
theorem Bf.init {B D s}:Bf B D s [s] (fun _=>none):=
 ⟨cQ.mpr rfl,nd1 s,fun z hz=>⟨[],by rw [cQ.mp hz];exact .base rfl,fun _ h=>nomatch h⟩,fun z hz=>.inl (cQ.mp hz)⟩
theorem Bf.add {B D s w f} (H:Bf B D s w f) {p j:Int} (hp:p∈w) (ha:adj B p j=true) (hj:j∉w) (hD:j∈D):Bf B D s (w++[j]) (fun z=>if z=j then some p else f z):=by
 have hl:∀ {x},x∈w→x∈w++[j]:=fun h=>mQ _ h
 have old:∀ {z l},Bk B f s z l→(∀ x∈l,x∈w)→Bk B (fun z=>if z=j then some p else f z) s z l:=fun hb hw=>hb.of fun x hx=>by
  have:x∈w:=(lQ.mp hx).elim (fun e=>e ▸ H.st) (hw x)
  exact if_neg fun (e:x=j)=>hj (e ▸ this)
 refine ⟨hl H.st,m1A hj ▸ b1B H.nd,fun z hz=>?_,fun z hz=>?_⟩
 ·rcases iQ.mp hz with hz | hz
  ·obtain ⟨l,h1,h2⟩:=H.bk z hz
   exact ⟨l,old h1 h2,fun x hx=>hl (h2 x hx)⟩
  ·rw [cQ.mp hz]
   obtain ⟨l,h1,h2⟩:=H.bk p hp
   refine ⟨l++[j],.step (old h1 h2) (if_pos rfl) (fun hm=>?_) ha,fun x hx=>?_⟩
   ·rcases lQ.mp hm with e | h
    ·exact hj (e ▸ H.st)
    ·exact hj (h2 j h)
   ·rcases iQ.mp hx with hx | hx
    ·exact hl (h2 x hx)
    ·exact gQ _ hx
 ·rcases iQ.mp hz with hz | hz
  ·exact H.inn z hz
  ·rw [cQ.mp hz];exact .inr hD
theorem Bf.row {B D s w f} (H:Bf B D s w f) {z:Int} (hz:z∈w) (hne:z≠s):∃ l,Bk B f s z l∧(∀ x∈s::l,x∈w)∧l≠[]∧∀ x∈l,x∈D:=by
 refine bc fun zZ=>?_
 obtain ⟨l,h1,h2⟩:=H.bk z hz
 refine zZ ?_;clear zZ
 refine ⟨l,h1,fun x hx=>(lQ.mp hx).elim (fun e=>e ▸ H.st) (h2 x),fun e=>?_,fun x hx=>?_⟩
 ·subst e;exact hne h1.la.symm
 ·refine (H.inn x (h2 x hx)).resolve_left fun e=>?_
  have:=h1.nd
  rw [rQ] at this
  exact this.1 (e ▸ hx)
noncomputable def Dn (B:List Dt) (D:List Int) (G:Int→Int→Prop) (w:List Int) (k:Nat):Prop:=∀ i,i<k→∀ p,w[i]?=some p→∀ j,adj B p j=true→(j∈D→j∈w)∧¬ G p j
theorem Dn.add {B D G w k} (H:Dn B D G w k) (hk:k≤w.length) (j:Int):Dn B D G (w++[j]) k:=fun i hi p hp x hx=>by
 rw [cZ (yQ hi hk)] at hp
 exact ⟨fun h=>mQ _ ((H i hi p hp x hx).1 h),(H i hi p hp x hx).2⟩
section
variable {C:a0A} (hC:d1A C tab)
include hC
theorem way_ok {B lk P} {ik:List (Ky×V)} {D G:List Int} {s:Int} {K} (H:Lk B lk P) (hs:s∈P) (hD:Ds Ky.i ik D) (hDP:∀ x∈D,x∈P) (hsD:s∉D)
  (hno:∀ w:List Int,s∈w→(∀ z∈w,z=s∨z∈D)→(∀ p∈w,∀ j,adj B p j=true→(j∈D→j∈w)∧¬ (j∈G∧p≠s))→False)
  (h:∀ l g σ',l≠[]→(s::l).Nodup→(∀ x∈l,x∈D)→g∈G→(∀ q∈cs s (l++[g]),adj B q.1 q.2=true)→l.length≤16→K (lI (s::(l++[g]))) σ'):C "way" [.v (dv lk),iv s,.v (lI G),.v (dv ik)] [] K:=by
 have hwP:∀ {w f},Bf B D s w f→w.length≤16:=fun H'=>dQ (b0A H'.nd fun x hx=>(H'.inn x hx).elim (fun e=>e ▸ hs) (hDP x)) H.le
 refine fnA hC 16 rfl rfl (nx ?_)
 dsimp only [f_way]
 kd_p
 refine nx ?_
 kd_p
 refine gx (Ds.nil.putO kfI s _ (by decide)) ?_
 kd_p
 refine nx ?_
 kd_p
 refine ⟨f1A (k:=1) (uQ 1) rfl,nx ?_⟩
 kd_p
 refine nx ?_
 kd_p
 refine wl5 (fun (o:Option A×Option A) k _ _ _=>[("other", o.1),("point", o.2),("at", some (iv ((k:Nat):Int))),("waiting", some (.ref 1)),("ahead", some (.ref 0)),("links", some (.v (dv lk))),("start", some (iv s)),("goals", some (.v (lI G))),("inner", some (.v (dv ik)))]) (fun _ _ kvs w _=>[.map kvs,.list (w.map V.int)])
  (fun q _ k kvs w f=>Dm Ky.i kvs w (fun x=>ov (f x))∧Bf B D s w f∧Dn B D (fun p j=>j∈G∧p≠s) w k∧k≤w.length∧q+k=20) ?_ 20 (_,_) 0 _ [s] (fun _=>none) ⟨(Dm.nil (f:=fun _=>.none).put kfI s .none).of fun x _=>(by split <;> rfl),Bf.init,fun i hi=>absurd hi (z5Z i),sQ _,rfl⟩
 intro q o k kvs w f zY0 W' hW
 refine bc fun zZ=>?_
 obtain ⟨hd,hb,hdn,hk,hq⟩:=zY0
 refine zZ ?_;clear zZ
 have hw16:=hwP hb
 kd_p
 rw [eQ]
 by_cases hkl:k<w.length
 ·refine brT (l9A (rZ.mpr hkl)) ?_
  have hpw:w[k]?=some w[k]:=nQ hkl
  generalize w[k]=p at hpw
  have hp:p∈w:=wQ hpw
  have hpP:p∈P:=(hb.inn p hp).elim (fun e=>e ▸ hs) (hDP p)
  refine nx ?_
  kd_p
  refine gx (itL (x:=.int p) (qW _) (by rw [z2W,oQ,hpw];rfl)) ?_
  refine nx ?_
  kd_p
  refine nx ?_
  kd_p
  refine gx (H.dm.getD kfI hpP) ?_
  refine fl5 V.int (fun (o:Option A) _ _ _ _=>[("other", o),("point", some (iv p)),("at", some (iv ((k:Int)+1))),("waiting", some (.ref 1)),("ahead", some (.ref 0)),("links", some (.v (dv lk))),("start", some (iv s)),("goals", some (.v (lI G))),("inner", some (.v (dv ik)))]) (fun _ kvs w _ _=>[.map kvs,.list (w.map V.int)])
   (fun r _ kvs w f dn=>dn++r=row B p∧Dm Ky.i kvs w (fun x=>ov (f x))∧Bf B D s w f∧Dn B D (fun p j=>j∈G∧p≠s) w k∧k<w.length∧w[k]?=some p∧∀ j∈dn,(j∈D→j∈w)∧¬ (j∈G∧p≠s)) ?_ ?_ (row B p) _ kvs w f [] ⟨rfl,hd,hb,hdn,hkl,hpw,fun _ h=>(nomatch h)⟩
  ·intro j r o' kvs w f dn zY0 W2 hW2
   refine bc fun zZ=>?_
   obtain ⟨e,hd,hb,hdn,hkl,hpw,hj⟩:=zY0
   refine zZ ?_;clear zZ
   have hp:p∈w:=wQ hpw
   have hw16:=hwP hb
   have haj:adj B p j=true:=H.nb.mp (by rw [← e];exact gQ _ aQ)
   have e':dn++[j]++r=row B p:=by rw [kQ];exact e
   have snd:¬ (j∈G∧p≠s)→xSs C [.ite (.and [.cmp (.x "other") .isin (.x "inner"),.cmp (.x "other") .notin (.x "ahead")]) [.setI (.x "ahead") (.x "other") (.x "point"),.ex (.lm (.x "waiting") .append [.x "other"])] []]
     [("other", some (iv j)),("point", some (iv p)),("at", some (iv ((k:Int)+1))),("waiting", some (.ref 1)),("ahead", some (.ref 0)),("links", some (.v (dv lk))),("start", some (iv s)),("goals", some (.v (lI G))),("inner", some (.v (dv ik)))] [.map kvs,.list (w.map V.int)] (lpK (fun σ'=>Stay σ' (.v (lI (row B p))) none) W2 (kK C [] (wlK W' (kK C [.ret (.c .none)] (retF K))))):=by
    intro hng
    have skip:(j∈D→j∈w)→W2 [("other", some (iv j)),("point", some (iv p)),("at", some (iv ((k:Int)+1))),("waiting", some (.ref 1)),("ahead", some (.ref 0)),("links", some (.v (dv lk))),("start", some (iv s)),("goals", some (.v (lI G))),("inner", some (.v (dv ik)))] [.map kvs,.list (w.map V.int)]:=fun hjw=>hW2 _ kvs w f (dn++[j]) ⟨e',hd,hb,hdn,hkl,hpw,fun x hx=>by
     rcases iQ.mp hx with hx | hx
     ·exact hj x hx
     ·rw [cQ.mp hx];exact ⟨hjw,hng⟩⟩
    refine nx ?_
    kd_p
    by_cases c1:j∈D
    ·refine gx (hD.inDT kfI c1) (brT rfl ?_)
     by_cases c2:j∈w
     ·exact gx (congrArg _ (hd.s.inT kfI c2)) (brF rfl ⟨rfl,skip fun _=>c2⟩)
     ·refine gx (congrArg _ (hd.s.inF kfI c2)) (brT rfl (nx ?_))
      kd_p
      refine gx (hd.putO kfI j _ (dQ hw16 (by decide))) ?_
      kd_p
      refine nx ?_
      kd_p
      refine ⟨rfl,ap_m hw16 rfl,?_⟩
      rw [ap1]
      have hd2:=hd.put kfI j (.int p)
      rw [m1A c2] at hd2
      refine ⟨rfl,hW2 _ _ (w++[j]) (fun z=>if z=j then some p else f z) (dn++[j]) ⟨e',hd2.of fun x _=>(by split <;> rfl),hb.add hp haj c2 c1,hdn.add (z8Q hkl) j,by rw [fQ];exact z8Z hkl,by rw [cZ hkl];exact hpw,fun x hx=>?_⟩⟩
      rcases iQ.mp hx with hx | hx
      ·exact ⟨fun h=>mQ _ ((hj x hx).1 h),(hj x hx).2⟩
      ·rw [cQ.mp hx];exact ⟨fun _=>gQ _ (cQ.mpr rfl),hng⟩
    ·exact gx (hD.inDF kfI c1) (brF rfl ⟨rfl,skip fun h=>absurd h c1⟩)
   kd_p
   refine nx ?_
   kd_p
   refine gx (inLi _ _) ?_
   by_cases c1:j∈G
   ·refine brT (decide_eq_true c1) ?_
    by_cases c2:p=s
    ·exact brF (nf (decide_eq_true c2)) (snd fun h=>h.2 c2)
    ·refine brT (nt (decide_eq_false c2)) (nx ?_)
     kd_p
     refine bc fun zZ=>?_
     obtain ⟨l,b1,b2,b3,b4⟩:=hb.row hp c2
     refine zZ ?_;clear zZ
     have hl16:l.length≤16:=dQ (b0A (rQ.mp b1.nd).2 fun x hx=>b2 x (bQ _ hx)) hw16
     refine ⟨rfl,rfl,n6A hC hd b1 b2 (dQ hl16 (by decide)) fun σ'=>?_⟩
     kd_p
     refine ⟨f1A (k:=1) (uQ 1) rfl,?_⟩
     rw [ap1]
     refine ⟨sm_m (k:=18) (by rw [fQ];exact tQ (tQ hl16)) rfl,h l j _ b3 b1.nd b4 c1 (fun q hq=>?_) hl16⟩
     rw [s3A] at hq
     rcases iQ.mp hq with hq | hq
     ·exact b1.ch q hq
     ·rw [cQ.mp hq]
      show adj B (la s l) j=true
      rw [b1.la];exact haj
   ·exact brF (decide_eq_false c1) (snd fun h=>c1 h.1)
  ·intro o' kvs w f dn zY0
   refine bc fun zZ=>?_
   obtain ⟨e,hd,hb,hdn,hkl,hpw,hj⟩:=zY0
   refine zZ ?_;clear zZ
   rw [z1Q] at e
   subst e
   kd_p
   refine hW (q - 1) (_,_) (k+1) kvs w f (qk1 hq hkl (hwP hb)).1 ⟨hd,hb,fun i hi p' hp' x hx=>?_,hkl,(qk1 hq hkl (hwP hb)).2⟩
   rcases Nat.lt_or_ge i k with c | c
   ·exact hdn i c p' hp' x hx
   ·rw [jW (rW hi) c,hpw] at hp'
    rw [← pQ hp'] at hx ⊢
    exact hj x (H.nb.mpr hx)
 ·refine absurd (hno w hb.st hb.inn fun p hp j hj=>?_) id
  refine bc fun zZ=>?_
  obtain ⟨i,hi,e⟩:=List.getElem_of_mem hp
  refine zZ ?_;clear zZ
  exact hdn i (yQ hi (z6W.mp hkl)) p (by rw [nQ hi,e]) j hj
end
end Fl
namespace Fl
open PySem (Str)
section
variable {C:a0A} (hC:d1A C tab)
include hC
theorem m9A {B lk P} {K} (H:Lk B lk P) (HB:Blk B) (hP0:P≠[]) (h3:∀ s o,adj B s o=true→∃ w x,adj B w x=true∧w≠s∧w≠o)
  (h:∀ o l s σ',l≠[]→(o::(l++[s])).Nodup→(∀ q∈cs o (l++[s]),adj B q.1 q.2=true)→adj B s o=true→(∀ x∈o::(l++[s]),x∈P)→l.length≤16→K (lI (o::(l++[s]))) σ'):C "first_ring" [.v (dv lk)] [] K:=by
 refine fnA hC 25 rfl rfl (nx ?_)
 dsimp only [p5A]
 kd_p
 rw [H.dm.s.itsD]
 refine ⟨so_i P,by rw [eQ];exact vQ H.le (by decide),?_⟩
 rw [vs_i]
 refine ⟨sm_m (k:=16) (by rw [e2A];exact H.le) rfl,?_⟩
 cases hsP:srt P with
 | nil=>
  have:=e2A P
  rw [hsP] at this
  exact absurd (List.eq_nil_of_length_eq_zero this.symm) hP0
 | cons s0 lP=>
 have hs0:s0∈P:=d2A.mp (by rw [hsP];exact aQ)
 refine gx (itL (x:=.int s0) (fK 0) rfl) (nx ?_)
 kd_p
 refine gx (H.dm.getD kfI hs0) ?_
 kd_p
 cases hrw:row B s0 with
 | nil=>
  obtain ⟨y,hy⟩:=(H.mem s0).mp hs0
  have:=H.nb.mpr hy
  rw [hrw] at this
  cases this
 | cons s lR=>
 have hso:adj B s0 s=true:=H.nb.mp (by rw [hrw];exact aQ)
 have hs:s∈P:=(H.mem s).mpr ⟨s0,s0A hso⟩
 have hne:s0≠s:=H.up.ne hso
 refine gx (itL (x:=.int s) (fK 0) rfl) (nx ?_)
 kd_p
 refine nx ?_
 kd_p
 rw [H.dm.s.itsD]
 refine fl4 V.int (fun o _ _ _=>[("more", none),("at", none),("waiting", none),("ahead", none),("point", o),("inner", some (.ref 0)),("other", some (iv s)),("start", some (iv s0)),("links", some (.v (dv lk)))]) (fun _ kvs _ _=>[.map kvs])
  (fun r _ kvs D dn=>dn++r=P∧Ds Ky.i kvs D∧∀ x,x∈D↔x∈dn∧x≠s0) ?_ ?_ P _ [] [] [] ⟨rfl,Ds.nil,fun x=>⟨fun h=>(nomatch h),fun h=>nomatch h.1⟩⟩
 ·intro x r o kvs D dn zY0 W' hW
  refine bc fun zZ=>?_
  obtain ⟨e,hD,hm⟩:=zY0
  refine zZ ?_;clear zZ
  have e':dn++[x]++r=P:=by rw [kQ];exact e
  kd_p
  refine nx ?_
  kd_p
  refine br (fun q=>nx ?_) fun q=>?_
  ·have q:=of_decide_eq_false (nti q)
   kd_p
   refine gx (hD.putO kfI x _ ?_) ?_
   ·refine dQ (b0A hD.nd fun y hy=>((hm y).mp hy).1) ?_
    have:=H.le
    rw [← e,fQ] at this
    exact dQ (dQ (z5Q _ _) this) (by decide)
   kd_p
   refine ⟨rfl,hW _ _ _ (dn++[x]) ⟨e',hD.put kfI x _,fun y=>?_⟩⟩
   rw [o0A,hm,iQ,cQ]
   exact ⟨fun h=>h.elim (fun h=>⟨.inl h.1,h.2⟩) fun h=>⟨.inr h,h ▸ q⟩,fun h=>h.1.elim (fun h'=>.inl ⟨h',h.2⟩) .inr⟩
  ·have q:=of_decide_eq_true (nfi q)
   refine ⟨rfl,hW _ _ D (dn++[x]) ⟨e',hD,fun y=>?_⟩⟩
   rw [hm,iQ,cQ]
   exact ⟨fun h=>⟨.inl h.1,h.2⟩,fun h=>⟨h.1.resolve_right fun e=>h.2 (e.trans q),h.2⟩⟩
 intro o1 ik D dn zY0
 refine bc fun zZ=>?_
 obtain ⟨e,hD,hDm⟩:=zY0
 refine zZ ?_;clear zZ
 rw [z1Q] at e
 subst e
 have hDP:∀ x∈D,x∈dn:=fun x hx=>((hDm x).mp hx).1
 have hwP:∀ {w f},Bf B D s w f→w.length≤16:=fun H'=>dQ (b0A H'.nd fun x hx=>(H'.inn x hx).elim (fun e=>e ▸ hs) (hDP x)) H.le
 kd_p
 refine nx ?_
 kd_p
 refine nx ?_
 kd_p
 refine gx (Ds.nil.putO kfI s _ (by decide)) ?_
 kd_p
 refine nx ?_
 kd_p
 refine ⟨f1A (k:=1) (uQ 1) rfl,nx ?_⟩
 kd_p
 refine nx ?_
 kd_p
 refine wl5 (fun (o:Option A×Option A) k _ _ _=>[("more", o.1),("at", some (iv ((k:Nat):Int))),("waiting", some (.ref 2)),("ahead", some (.ref 1)),("point", o.2),("inner", some (.ref 0)),("other", some (iv s)),("start", some (iv s0)),("links", some (.v (dv lk)))]) (fun _ _ kvs w _=>[.map ik,.map kvs,.list (w.map V.int)])
  (fun q _ k kvs w f=>Dm Ky.i kvs w (fun x=>ov (f x))∧Bf B D s w f∧Dn B D (fun p j=>j=s0∧p≠s) w k∧k≤w.length∧q+k=20) ?_ 20 (_,_) 0 _ [s] (fun _=>none) ⟨(Dm.nil (f:=fun _=>.none).put kfI s .none).of fun x _=>(by split <;> rfl),Bf.init,fun i hi=>absurd hi (z5Z i),sQ _,rfl⟩
 intro q o k kvs w f zY0 W' hW
 refine bc fun zZ=>?_
 obtain ⟨hd,hb,hdn,hk,hq⟩:=zY0
 refine zZ ?_;clear zZ
 have hw16:=hwP hb
 kd_p
 rw [eQ]
 by_cases hkl:k<w.length
 ·refine brT (l9A (rZ.mpr hkl)) ?_
  have hpw:w[k]?=some w[k]:=nQ hkl
  generalize w[k]=p at hpw
  have hp:p∈w:=wQ hpw
  have hpP:p∈dn:=(hb.inn p hp).elim (fun e=>e ▸ hs) (hDP p)
  refine nx ?_
  kd_p
  refine gx (itL (x:=.int p) (qW _) (by rw [z2W,oQ,hpw];rfl)) ?_
  refine nx ?_
  kd_p
  refine nx ?_
  kd_p
  refine gx (H.dm.getD kfI hpP) ?_
  refine fl5 V.int (fun (o:Option A) _ _ _ _=>[("more", o),("at", some (iv ((k:Int)+1))),("waiting", some (.ref 2)),("ahead", some (.ref 1)),("point", some (iv p)),("inner", some (.ref 0)),("other", some (iv s)),("start", some (iv s0)),("links", some (.v (dv lk)))]) (fun _ kvs w _ _=>[.map ik,.map kvs,.list (w.map V.int)])
   (fun r _ kvs w f dn=>dn++r=row B p∧Dm Ky.i kvs w (fun x=>ov (f x))∧Bf B D s w f∧Dn B D (fun p j=>j=s0∧p≠s) w k∧k<w.length∧w[k]?=some p∧∀ j∈dn,(j∈D→j∈w)∧¬ (j=s0∧p≠s)) ?_ ?_ (row B p) _ kvs w f [] ⟨rfl,hd,hb,hdn,hkl,hpw,fun _ h=>(nomatch h)⟩
  ·intro j r o' kvs w f dn zY0 W2 hW2
   refine bc fun zZ=>?_
   obtain ⟨e,hd,hb,hdn,hkl,hpw,hj⟩:=zY0
   refine zZ ?_;clear zZ
   have hp:p∈w:=wQ hpw
   have hw16:=hwP hb
   have haj:adj B p j=true:=H.nb.mp (by rw [← e];exact gQ _ aQ)
   have e':dn++[j]++r=row B p:=by rw [kQ];exact e
   have snd:¬ (j=s0∧p≠s)→xSs C [.ite (.and [.cmp (.x "more") .isin (.x "inner"),.cmp (.x "more") .notin (.x "ahead")]) [.setI (.x "ahead") (.x "more") (.x "point"),.ex (.lm (.x "waiting") .append [.x "more"])] []]
     [("more", some (iv j)),("at", some (iv ((k:Int)+1))),("waiting", some (.ref 2)),("ahead", some (.ref 1)),("point", some (iv p)),("inner", some (.ref 0)),("other", some (iv s)),("start", some (iv s0)),("links", some (.v (dv lk)))] [.map ik,.map kvs,.list (w.map V.int)] (lpK (fun σ'=>Stay σ' (.v (lI (row B p))) none) W2 (kK C [] (wlK W' (kK C [.ret (.fz (.disp []))] (retF K))))):=by
    intro hng
    have skip:(j∈D→j∈w)→W2 [("more", some (iv j)),("at", some (iv ((k:Int)+1))),("waiting", some (.ref 2)),("ahead", some (.ref 1)),("point", some (iv p)),("inner", some (.ref 0)),("other", some (iv s)),("start", some (iv s0)),("links", some (.v (dv lk)))] [.map ik,.map kvs,.list (w.map V.int)]:=fun hjw=>hW2 _ kvs w f (dn++[j]) ⟨e',hd,hb,hdn,hkl,hpw,fun x hx=>by
     rcases iQ.mp hx with hx | hx
     ·exact hj x hx
     ·rw [cQ.mp hx];exact ⟨hjw,hng⟩⟩
    refine nx ?_
    kd_p
    by_cases c1:j∈D
    ·refine gx (hD.inT kfI c1) (brT rfl ?_)
     by_cases c2:j∈w
     ·exact gx (congrArg _ (hd.s.inT kfI c2)) (brF rfl ⟨rfl,skip fun _=>c2⟩)
     ·refine gx (congrArg _ (hd.s.inF kfI c2)) (brT rfl (nx ?_))
      kd_p
      refine gx (hd.putO kfI j _ (dQ hw16 (by decide))) ?_
      kd_p
      refine nx ?_
      kd_p
      refine ⟨rfl,ap_m hw16 rfl,?_⟩
      rw [ap1]
      have hd2:=hd.put kfI j (.int p)
      rw [m1A c2] at hd2
      refine ⟨rfl,hW2 _ _ (w++[j]) (fun z=>if z=j then some p else f z) (dn++[j]) ⟨e',hd2.of fun x _=>(by split <;> rfl),hb.add hp haj c2 c1,hdn.add (z8Q hkl) j,by rw [fQ];exact z8Z hkl,by rw [cZ hkl];exact hpw,fun x hx=>?_⟩⟩
      rcases iQ.mp hx with hx | hx
      ·exact ⟨fun h=>mQ _ ((hj x hx).1 h),(hj x hx).2⟩
      ·rw [cQ.mp hx];exact ⟨fun _=>gQ _ (cQ.mpr rfl),hng⟩
    ·exact gx (hD.inF kfI c1) (brF rfl ⟨rfl,skip fun h=>absurd h c1⟩)
   kd_p
   refine nx ?_
   kd_p
   by_cases c1:j=s0
   ·refine brT (decide_eq_true c1) ?_
    by_cases c2:p=s
    ·exact brF (nf (decide_eq_true c2)) (snd fun h=>h.2 c2)
    ·refine brT (nt (decide_eq_false c2)) (nx ?_)
     kd_p
     refine bc fun zZ=>?_
     obtain ⟨l,b1,b2,b3,b4⟩:=hb.row hp c2
     refine zZ ?_;clear zZ
     have hl16:l.length≤16:=dQ (b0A (rQ.mp b1.nd).2 fun x hx=>b2 x (bQ _ hx)) hw16
     refine ⟨rfl,rfl,n6A hC hd b1 b2 (dQ hl16 (by decide)) fun σ'=>?_⟩
     kd_p
     refine ⟨f1A (k:=1) (uQ 1) rfl,?_⟩
     rw [ap1]
     refine ⟨sm_m (k:=18) (by rw [fQ];exact tQ (tQ hl16)) rfl,?_⟩
     subst c1
     refine h s l j _ b3 ?_ (fun q hq=>?_) hso (fun x hx=>?_) hl16
     ·have:s::(l++[j])=ins (s::l) j:=(m1A fun hm=>(lQ.mp hm).elim (fun e=>hne e) fun h=>((hDm j).mp (b4 j h)).2 rfl).symm
      rw [this];exact b1B b1.nd
     ·rw [s3A] at hq
      rcases iQ.mp hq with hq | hq
      ·exact b1.ch q hq
      ·rw [cQ.mp hq]
       show adj B (la s l) j=true
       rw [b1.la];exact haj
     ·rcases lQ.mp hx with e | hx
      ·rw [e];exact hs
      ·rcases iQ.mp hx with hx | hx
       ·exact hDP x (b4 x hx)
       ·rw [cQ.mp hx];exact hs0
   ·exact brF (decide_eq_false c1) (snd fun h=>c1 h.1)
  ·intro o' kvs w f dn zY0
   refine bc fun zZ=>?_
   obtain ⟨e,hd,hb,hdn,hkl,hpw,hj⟩:=zY0
   refine zZ ?_;clear zZ
   rw [z1Q] at e
   subst e
   kd_p
   refine hW (q - 1) (_,_) (k+1) kvs w f (qk1 hq hkl (hwP hb)).1 ⟨hd,hb,fun i hi p' hp' x hx=>?_,hkl,(qk1 hq hkl (hwP hb)).2⟩
   rcases Nat.lt_or_ge i k with c | c
   ·exact hdn i c p' hp' x hx
   ·rw [jW (rW hi) c,hpw] at hp'
    rw [← pQ hp'] at hx ⊢
    exact hj x (H.nb.mpr hx)
 ·refine bc fun zZ=>?_
  obtain ⟨w0,x0,hw0,hw1,hw2⟩:=h3 s0 s hso
  refine zZ ?_;clear zZ
  have hall:∀ p∈w,∀ j,adj B p j=true→(j∈D→j∈w)∧¬ (j=s0∧p≠s):=fun p hp j hj=>by
   refine bc fun zZ=>?_
   obtain ⟨i,hi,e⟩:=List.getElem_of_mem hp
   refine zZ ?_;clear zZ
   exact hdn i (yQ hi (z6W.mp hkl)) p (by rw [nQ hi,e]) j hj
  refine bc fun zZ=>?_
  obtain ⟨i,hi,hine,hia⟩:=HB.ring hso hw0 hw1 hw2 (A:=fun i=>i∈w) hb.st fun i j hi ha hj=>(hall i hi j ha).1 ((hDm j).mpr ⟨(H.mem j).mpr ⟨i,s0A ha⟩,hj⟩)
  refine zZ ?_;clear zZ
  exact absurd ⟨rfl,hine⟩ (hall i hi s0 hia).2
end
end Fl
namespace Fl
open PySem (Str)
noncomputable def shV (z:List Int×List (Ky×V)):V:=.tup [lI z.1,dv z.2]
structure Sh (B:List Dt) (P pl:List Int) (ld:List Dt) (z:List Int×List (Ky×V)) (D:List Int):Prop where
 ds:Ds Ky.i z.2 D
 nd:z.1.Nodup
 en:∀ e∈z.1,e∈pl
 tie:D=[]→∃ a b,z.1=[a,b]∧adj B a b=true∧te a b∉ld
 inn:∀ y∈D,y∈P∧y∉pl
 cl:∀ y∈D,∀ k,adj B y k=true→k∉pl→k∈D
 tch:D≠[]→∀ e∈z.1,∃ y∈D,adj B e y=true
 hang:D≠[]→∀ e,e∈pl→(∃ y∈D,adj B e y=true)→e∈z.1
theorem Sh.len {B P pl ld z D} (H:Sh B P pl ld z D):lenA [] (.v (dv z.2))=some D.length:=by
 show (if (((z.2.map (·.1)).zip (z.2.map (·.2))).all fun q=>kInt q.1) then some ((z.2.map (·.1)).zip (z.2.map (·.2))).length else none)=_
 rw [p7A,if_pos,H.ds.len]
 rw [z2Q]
 intro q hq
 have:q.1∈D.map Ky.i:=H.ds.ks ▸ zW hq
 obtain ⟨y,_,e⟩:=qQ.mp this
 rw [← e];rfl
theorem v6A {α:Type} {p:α→Bool} {l:List α} (h:l.Nodup):(l.filter p).Nodup:=h.sublist (List.filter_sublist)
section
variable {C:a0A} (hC:d1A C tab)
include hC
set_option maxHeartbeats 1000000 in
theorem l7B {B lk P} {pk lv:List (Ky×V)} {pl:List Int} {ld:List Dt} {K} (H:Lk B lk P) (hp:Ds Ky.i pk pl) (hl:Ds kp lv ld) (hpP:∀ x∈pl,x∈P)
  (h:∀ (Z:List (List Int×List (Ky×V))) σ',(∀ z∈Z,∃ D,Sh B P pl ld z D)→(Z=[]→(∀ a∈pl,∀ b∈pl,adj B a b=true→te a b∈ld)∧∀ x∈P,x∈pl)→Z.length≤300→K (.list (Z.map shV)) (.map pk::.map lv::σ')):C "shreds" [.v (dv lk),.ref 0,.ref 1] [.map pk,.map lv] K:=by
 have hpl16:pl.length≤16:=dQ (b0A hp.nd hpP) H.le
 refine fnA hC 21 rfl rfl (nx ?_)
 dsimp only [o4B]
 kd_p
 refine ⟨f1A (sQ 0) rfl,nx ?_⟩
 kd_p
 rw [hp.itsI]
 refine fl3 V.int (fun (o:Option A×Option A) _ _=>[("inner", none),("point", none),("met", none),("other", o.1),("one", o.2),("found", some (.ref 2)),("links", some (.v (dv lk))),("placed", some (.ref 0)),("laid", some (.ref 1))]) (fun _ Z _=>[.map pk,.map lv,.list (Z.map shV)])
  (fun r _ Z dn=>dn++r=pl∧(∀ z∈Z,∃ D,Sh B P pl ld z D)∧(Z=[]→∀ a∈dn,∀ b∈pl,adj B a b=true→a<b→te a b∈ld)∧Z.length≤16 * dn.length) ?_ ?_ pl (_,_) [] [] ⟨rfl,fun _ h=>(nomatch h),fun _ _ h=>(nomatch h),sQ _⟩
 ·intro a r o Z dn zY0 W1 hW1
  refine bc fun zZ=>?_
  obtain ⟨e,hZ,hc,hlen⟩:=zY0
  refine zZ ?_;clear zZ
  have hap:a∈pl:=by rw [← e];exact gQ _ aQ
  have hdn:dn.length≤16:=by rw [← e,fQ] at hpl16;exact dQ (z5Q _ _) hpl16
  kd_p
  refine nx ?_
  kd_p
  refine gx (H.dm.getD kfI (hpP a hap)) ?_
  refine fl3 V.int (fun (o:Option A) _ _=>[("inner", none),("point", none),("met", none),("other", o),("one", some (iv a)),("found", some (.ref 2)),("links", some (.v (dv lk))),("placed", some (.ref 0)),("laid", some (.ref 1))]) (fun _ Z _=>[.map pk,.map lv,.list (Z.map shV)])
   (fun q _ Z dn2=>dn2++q=row B a∧(∀ z∈Z,∃ D,Sh B P pl ld z D)∧(Z=[]→(∀ a∈dn,∀ b∈pl,adj B a b=true→a<b→te a b∈ld)∧∀ b∈dn2,b∈pl→a<b→te a b∈ld)∧Z.length≤16 * dn.length+dn2.length) ?_ ?_ (row B a) _ Z [] ⟨rfl,hZ,fun e=>⟨hc e,fun _ h=>(nomatch h)⟩,hlen⟩
  ·intro b q o Z dn2 zY0 W2 hW2
   refine bc fun zZ=>?_
   obtain ⟨e,hZ,hc,hlen⟩:=zY0
   refine zZ ?_;clear zZ
   have e':dn2++[b]++q=row B a:=by rw [kQ];exact e
   have hab:adj B a b=true:=H.nb.mp (by rw [← e];exact gQ _ aQ)
   have hd2:dn2.length≤16:=by
    have:=H.rlen a
    rw [← e,fQ] at this
    exact dQ (z5Q _ _) this
   have hlen':Z.length+1≤16 * dn.length+(dn2++[b]).length:=by rw [fQ];exact tQ hlen
   have skip:(b∈pl→a<b→te a b∈ld)→W2 [("inner", none),("point", none),("met", none),("other", some (iv b)),("one", some (iv a)),("found", some (.ref 2)),("links", some (.v (dv lk))),("placed", some (.ref 0)),("laid", some (.ref 1))] [.map pk,.map lv,.list (Z.map shV)]:=fun hb=>hW2 _ Z (dn2++[b]) ⟨e',hZ,fun ez=>⟨(hc ez).1,fun x hx=>by
    rcases iQ.mp hx with hx | hx
    ·exact (hc ez).2 x hx
    ·rw [cQ.mp hx];exact hb⟩,z3W hlen'⟩
   kd_p
   refine nx ?_
   kd_p
   refine br (fun c1=>?_) fun c1=>⟨rfl,skip fun _ hlt=>absurd hlt (kZ.mpr (j4B c1))⟩
   have c1:=c1B c1
   by_cases c2:b∈pl
   ·refine gx (hp.inT kfI c2) (brT rfl ?_)
    by_cases c3:(a,b)∈ld
    ·exact gx (congrArg _ (hl.inT kfP c3)) (brF rfl ⟨rfl,skip fun _ hlt=>by rw [x8A hlt];exact c3⟩)
    ·refine gx (congrArg _ (hl.inF kfP c3)) (brT rfl (nx ?_))
     kd_p
     refine ⟨rfl,f1A (k:=2) (uQ 2) rfl,ap_m (k:=300) (by lia) rfl,?_⟩
     rw [show Z.map shV++[V.tup [V.list [V.int a,V.int b],V.dict [] []]]=(Z++[([a,b],[])]).map shV by rw [z0Q];rfl]
     refine ⟨rfl,hW2 _ (Z++[([a,b],[])]) (dn2++[b]) ⟨e',fun z hz=>?_,fun ez=>absurd (List.append_eq_nil_iff.mp ez).2 (fun h=>nomatch h),by rw [fQ];exact hlen'⟩⟩
     rcases iQ.mp hz with hz | hz
     ·exact hZ z hz
     ·rw [cQ.mp hz]
      refine ⟨[],Ds.nil,rQ.mpr ⟨fun hm=>Int.ne_of_lt c1 (cQ.mp hm),nd1 b⟩,fun x hx=>?_,fun _=>⟨a,b,rfl,hab,by rw [x8A c1];exact c3⟩,fun _ h=>(nomatch h),fun _ h=>(nomatch h),fun hn=>absurd rfl hn,fun hn=>absurd rfl hn⟩
      rcases lQ.mp hx with e | hx
      ·rw [e];exact hap
      ·rw [cQ.mp hx];exact c2
   ·exact gx (hp.inF kfI c2) (brF rfl ⟨rfl,skip fun h=>absurd h c2⟩)
  ·intro o Z dn2 zY0
   refine bc fun zZ=>?_
   obtain ⟨e2,hZ,hc,hlen⟩:=zY0
   refine zZ ?_;clear zZ
   rw [z1Q] at e2
   subst e2
   kd_p
   refine ⟨rfl,hW1 (_,_) Z (dn++[a]) ⟨by rw [kQ];exact e,hZ,fun ez x hx b hb hab hlt=>?_,?_⟩⟩
   ·rcases iQ.mp hx with hx | hx
    ·exact (hc ez).1 x hx b hb hab hlt
    ·rw [cQ.mp hx] at hab hlt ⊢
     exact (hc ez).2 b (H.nb.mpr hab) hb hlt
   ·rw [fQ]
    refine dQ hlen ?_
    rw [Nat.mul_add]
    exact bW (H.rlen a) _
 intro o1 Z dn zY0
 refine bc fun zZ=>?_
 obtain ⟨e,hZ,hc,hlen⟩:=zY0
 refine zZ ?_;clear zZ
 rw [z1Q] at e
 subst e
 have hc':Z=[]→∀ a∈dn,∀ b∈dn,adj B a b=true→te a b∈ld:=fun ez a ha b hb hab=>by
  rcases Int.lt_or_gt_of_ne (H.up.ne hab) with hlt | hlt
  ·exact hc ez a ha b hb hab hlt
  ·rw [v1A];exact hc ez b hb a ha (s0A hab) hlt
 have hlen:Z.length≤256:=dQ hlen (dK 16 hpl16)
 clear hc
 kd_p
 refine nx ?_
 kd_p
 refine nx ?_
 kd_p
 rw [H.dm.s.itsD]
 refine fl5 V.int (fun (o:Option A×Option A×Option A) _ _ _ _=>[("inner", o.1),("point", o.2.1),("met", some (.ref 3)),("other", o1.1),("one", o.2.2),("found", some (.ref 2)),("links", some (.v (dv lk))),("placed", some (.ref 0)),("laid", some (.ref 1))]) (fun _ Z kvs _ _=>[.map pk,.map lv,.list (Z.map shV),.map kvs])
  (fun r _ Z kvs M dn2=>dn2++r=P∧(∀ z∈Z,∃ D,Sh B P dn ld z D)∧(Z=[]→(∀ a∈dn,∀ b∈dn,adj B a b=true→te a b∈ld)∧M=[]∧∀ x∈dn2,x∈dn)∧Ds Ky.i kvs M∧(∀ x∈M,x∈P)∧Z.length≤256+dn2.length) ?_ ?_ P (_,_,_) Z [] [] [] ⟨rfl,hZ,fun ez=>⟨hc' ez,rfl,fun _ h=>(nomatch h)⟩,Ds.nil,fun _ h=>(nomatch h),hlen⟩
 ·intro x r o Z kvs M dn2 zY0 W1 hW1
  refine bc fun zZ=>?_
  obtain ⟨e,hZ,hc,hM,hMP,hlen⟩:=zY0
  refine zZ ?_;clear zZ
  have hxP:x∈P:=by rw [← e];exact gQ _ aQ
  have e':dn2++[x]++r=P:=by rw [kQ];exact e
  have hd2:dn2.length≤16:=by
   have:=H.le
   rw [← e,fQ] at this
   exact dQ (z5Q _ _) this
  have hlen':Z.length+1≤256+(dn2++[x]).length:=by rw [fQ];exact tQ hlen
  kd_p
  refine nx ?_
  kd_p
  by_cases c1:x∈dn
  ·refine gx (congrArg _ (hp.inT kfI c1)) (brF rfl ⟨rfl,hW1 (o.1,some (iv x),o.2.2) Z kvs M (dn2++[x]) ⟨e',hZ,fun ez=>⟨(hc ez).1,(hc ez).2.1,fun y hy=>?_⟩,hM,hMP,z3W hlen'⟩⟩)
   rcases iQ.mp hy with hy | hy
   ·exact (hc ez).2.2 y hy
   ·rw [cQ.mp hy];exact c1
  ·refine gx (congrArg _ (hp.inF kfI c1)) (brT rfl ?_)
   by_cases c2:x∈M
   ·refine gx (congrArg _ (hM.inT kfI c2)) (brF rfl ⟨rfl,hW1 (o.1,some (iv x),o.2.2) Z kvs M (dn2++[x]) ⟨e',hZ,fun ez=>?_,hM,hMP,z3W hlen'⟩⟩)
    rw [(hc ez).2.1] at c2;cases c2
   ·refine gx (congrArg _ (hM.inF kfI c2)) (brT rfl (nx ?_))
    kd_p
    refine ⟨rfl,rfl,grown_ok hC H.dm hp H.le H.cl hxP fun ik D σ' hD hDn hDP hDr=>?_⟩
    kd_p
    have hDpl:∀ y∈D,y∉dn:=fun y hy=>by
     cases (hDr y).mp hy with
     | base=>exact c1
     | step _ _ ho=>exact ho
    refine nx ?_
    kd_p
    rw [hD.itsD]
    refine fl3 V.int (fun (o:Option A) _ _=>[("inner", some (.v (dv ik))),("point", some (iv x)),("met", some (.ref 3)),("other", o1.1),("one", o),("found", some (.ref 2)),("links", some (.v (dv lk))),("placed", some (.ref 0)),("laid", some (.ref 1))]) (fun _ kvs _=>[.map pk,.map lv,.list (Z.map shV),.map kvs])
     (fun q _ kvs M=>Ds Ky.i kvs M∧(∀ x∈M,x∈P)∧∀ x∈q,x∈D) ?_ ?_ D _ kvs M ⟨hM,hMP,fun _ h=>h⟩
    ·intro y q o kvs M zY0 W2 hW2
     refine bc fun zZ=>?_
     obtain ⟨hM,hMP,hq⟩:=zY0
     refine zZ ?_;clear zZ
     kd_p
     refine nx ?_
     kd_p
     refine gx (hM.putO kfI y _ (dQ (dQ (b0A hM.nd hMP) H.le) (by decide))) ?_
     kd_p
     refine ⟨rfl,hW2 _ _ _ ⟨hM.put kfI y _,fun k hk=>?_,fun k hk=>hq k (bQ _ hk)⟩⟩
     rcases o0A.mp hk with hk | hk
     ·exact hMP k hk
     ·rw [hk];exact hDP y (hq y aQ)
    ·intro o2 kvs M zY0
     refine bc fun zZ=>?_
     obtain ⟨hM,hMP,_⟩:=zY0
     refine zZ ?_;clear zZ
     kd_p
     refine nx ?_
     kd_p
     refine ⟨rfl,?_⟩
     rw [hp.itsI]
     refine cp V.int (fun e=>D.any fun y=>adj B e y) V.int dn (fun e he=>?_) ?_
     ·kd_p
      refine ⟨fun K hk=>⟨rfl,rfl,o5B hC H (hpP e he) hD fun b _ hb=>?_⟩,fun _ K hk=>hk⟩
      have:b=D.any fun y=>adj B e y:=Bool.eq_iff_iff.mpr (by rw [hb,List.any_eq_true])
      subst this
      kd_p
      exact tk hk
     have hf16:=flen (p:=fun e=>D.any fun y=>adj B e y) hpl16
     rw [x3A,vs_i]
     refine ⟨sm_m (k:=16) hf16 rfl,⟨allI _,v6A hp.nd⟩,fun k hk=>H.rg k (hpP k (tZ.mp hk).1),sm_m (k:=16) (by rw [e2A];exact hf16) rfl,ap_m (k:=300) (by lia) rfl,?_⟩
     kd_p
     rw [show Z.map shV++[V.tup [V.list ((srt (dn.filter fun e=>D.any fun y=>adj B e y)).map V.int),dv ik]]=(Z++[(srt (dn.filter fun e=>D.any fun y=>adj B e y),ik)]).map shV by rw [z0Q];rfl]
     have hxD:x∈D:=(hDr x).mpr .base
     refine ⟨rfl,hW1 (_,_,_) (Z++[(srt (dn.filter fun e=>D.any fun y=>adj B e y),ik)]) kvs M (dn2++[x]) ⟨e',fun z hz=>?_,fun ez=>absurd (List.append_eq_nil_iff.mp ez).2 (fun h=>nomatch h),hM,hMP,by rw [fQ];exact hlen'⟩⟩
     rcases iQ.mp hz with hz | hz
     ·exact hZ z hz
     ·rw [cQ.mp hz]
      refine ⟨D,hD,s7A (v6A hp.nd),fun e he=>(tZ.mp (d2A.mp he)).1,fun e0=>?_,fun y hy=>⟨hDP y hy,hDpl y hy⟩,fun y hy k hk hkn=>(hDr k).mpr (((hDr y).mp hy).step (H.nb.mpr hk) hkn),fun _ e he=>List.any_eq_true.mp (tZ.mp (d2A.mp he)).2,fun _ e he hey=>d2A.mpr (tZ.mpr ⟨he,List.any_eq_true.mpr hey⟩)⟩
      rw [e0] at hxD;cases hxD
 ·intro o Z kvs M dn2 zY0
  refine bc fun zZ=>?_
  obtain ⟨e,hZ,hc,hM,hMP,hlen⟩:=zY0
  refine zZ ?_;clear zZ
  rw [z1Q] at e
  subst e
  kd_p
  refine nx ?_
  kd_p
  refine h Z _ hZ (fun ez=>⟨(hc ez).1,(hc ez).2.2⟩) (dQ hlen ?_)
  have:=H.le
  lia
end
end Fl
namespace Fl
open PySem (Str)
noncomputable def bv:Option ((List Int×List (Ky×V))×List Int)→V
 | none=>.none
 | some (z,ix)=>.tup [lI z.1,dv z.2,lI ix]
noncomputable def Fits (fs:List (List Int)) (ends ix:List Int):Prop:=(∀ k∈ix,∃ j:Nat,k=(j:Int)∧∃ f,fs[j]?=some f∧∀ e∈ends,e∈f)∧ix.length≤100
noncomputable def Full (B:List Dt) (P pl:List Int) (ld:List Dt):Prop:=(∀ a∈pl,∀ b∈pl,adj B a b=true→te a b∈ld)∧∀ x∈P,x∈pl
section
variable {C:a0A} (hC:d1A C tab)
include hC
theorem x3B {B lk P} {pk lv:List (Ky×V)} {pl:List Int} {ld:List Dt} {fs:List (List Int)} {K} (H:Lk B lk P) (hp:Ds Ky.i pk pl) (hl:Ds kp lv ld) (hpP:∀ x∈pl,x∈P) (hf:fs.length≤100)
  (h:∀ o σ',(o=none→Full B P pl ld)→(∀ z ix,o=some (z,ix)→(∃ D,Sh B P pl ld z D)∧Fits fs z.1 ix)→K (bv o) (.map pk::.map lv::σ')):C "next_shred" [.v (dv lk),.ref 0,.ref 1,.v (.list (fs.map lI))] [.map pk,.map lv] K:=by
 have hpl16:pl.length≤16:=dQ (b0A hp.nd hpP) H.le
 refine fnA hC 26 rfl rfl (nx ?_)
 dsimp only [n5A]
 kd_p
 refine nx ?_
 kd_p
 refine ⟨rfl,rfl,l7B hC H hp hl hpP fun Z σ' hZ hful hZl=>?_⟩
 kd_p
 refine fl2 shV (fun (q:Option A×Option A×Option A) o=>[("places", q.1),("inner", q.2.1),("ends", q.2.2),("best", some (.v (bv o))),("links", some (.v (dv lk))),("placed", some (.ref 0)),("laid", some (.ref 1)),("fields", some (.v (.list (fs.map lI))))]) (fun _ _=>[.map pk,.map lv])
  (fun r _ o=>(∀ z∈r,z∈Z)∧(o=none→r=Z)∧∀ z ix,o=some (z,ix)→(∃ D,Sh B P pl ld z D)∧Fits fs z.1 ix) ?_ ?_ Z (_,_,_) none ⟨fun _ h=>h,fun _=>rfl,fun _ _ h=>(nomatch h)⟩
 ·intro z r q o zY0 W1 hW1
  refine bc fun zZ=>?_
  obtain ⟨hr,ho,hs⟩:=zY0
  refine zZ ?_;clear zZ
  obtain ⟨D,hD⟩:=hZ z (hr z aQ)
  have hr':∀ z∈r,z∈Z:=fun z hz=>hr z (bQ _ hz)
  have hen:z.1.length≤100:=dQ (dQ (b0A hD.nd hD.en) hpl16) (by decide)
  dsimp only [shV]
  kd_p
  refine nx ?_
  kd_p
  refine ⟨rfl,rfl,n9A hC hf hen fun ix _ h1 h2=>?_⟩
  kd_p
  have take:W1 [("places", some (.v (lI ix))),("inner", some (.v (dv z.2))),("ends", some (.v (lI z.1))),("best", some (.v (bv (some (z,ix))))),("links", some (.v (dv lk))),("placed", some (.ref 0)),("laid", some (.ref 1)),("fields", some (.v (.list (fs.map lI))))] [.map pk,.map lv]:=
   hW1 (_,_,_) (some (z,ix)) ⟨hr',fun e=>(nomatch e),fun z' ix' e=>by cases e;exact ⟨⟨D,hD⟩,h1,h2⟩⟩
  refine nx ?_
  cases o with
  | none=>
   dsimp only [bv]
   kd_p
   refine nx ?_
   kd_p
   exact ⟨rfl,take⟩
  | some q'=>
   dsimp only [bv]
   kd_p
   refine br0F rfl (br0 (fun c=>⟨rfl,hW1 (_,_,_) (some q') ⟨hr',fun e=>(nomatch e),hs⟩⟩) fun c=>nx ?_)
   kd_p
   exact ⟨rfl,take⟩
 ·intro q o zY0
  refine bc fun zZ=>?_
  obtain ⟨_,ho,hs⟩:=zY0
  refine zZ ?_;clear zZ
  kd_p
  refine nx ?_
  kd_p
  exact h o _ (fun e=>hful (ho e).symm) hs
end
end Fl
namespace Fl
open PySem (Str)
theorem l6B:∀ (l:List Int) (a:Int),(a::l).zip (a::l).tail=cs a l
 | [],_=>rfl
 | x::l,a=>congrArg ((a,x)::·) (l6B l x)
structure Fs (B:List Dt) (P:List Int) (pk:List (Ky×V)) (pl:List Int) (lv:List (Ky×V)) (ld:List Dt) (fs:List (List Int)):Prop where
 dp:Ds Ky.i pk pl
 dl:Ds kp lv ld
 plP:∀ x∈pl,x∈P
 ldB:∀ t∈ld,t∈B
 fi:Fi pl ld fs
 three:∀ s,∃ w∈pl,w≠s
section
variable {B:List Dt} {lk pk lv:List (Ky×V)} {P pl:List Int} {ld:List Dt} {fs:List (List Int)} (H:Lk B lk P) (HB:Blk B) (F:Fs B P pk pl lv ld fs) {z:List Int×List (Ky×V)} {D:List Int} (S:Sh B P pl ld z D) (hD:D≠[])
include H HB F S hD
theorem ends_ne:z.1≠[]:=by
 intro e0
 obtain ⟨a,ha⟩:=List.exists_mem_of_ne_nil D hD
 obtain ⟨w0,hw0,hwa⟩:=F.three a
 obtain ⟨x,hx⟩:=(H.mem a).mp (S.inn a ha).1
 obtain ⟨y,hy⟩:=(H.mem w0).mp (F.plP w0 hw0)
 have:w0∈D:=HB.leave (s:=max a w0+1) hx hy (Int.ne_of_lt (Int.lt_add_one_of_le (Int.le_max_left _ _))) (Int.ne_of_lt (Int.lt_add_one_of_le (Int.le_max_right _ _))) (A:=fun i=>i∈D) ha fun i j hi hij _=>by
  by_cases hj:j∈pl
  ·have:=S.hang hD j hj ⟨i,hi,s0A hij⟩
   rw [e0] at this;cases this
  ·exact S.cl i hi j hij hj
 exact (S.inn w0 this).2 hw0
theorem way_no {s:Int} {G:List Int} (hz:z.1=s::G) (w:List Int) (hs:s∈w) (hw:∀ x∈w,x=s∨x∈D) (hc:∀ p∈w,∀ j,adj B p j=true→(j∈D→j∈w)∧¬ (j∈G∧p≠s)):False:=by
 have hsz:s∈z.1:=by rw [hz];exact aQ
 obtain ⟨y,hy,hsy⟩:=S.tch hD s hsz
 have hys:y≠s:=fun e=>(S.inn y hy).2 (e ▸ S.en s hsz)
 obtain ⟨w0,hw0,hws⟩:=F.three s
 obtain ⟨x,hx⟩:=(H.mem w0).mp (F.plP w0 hw0)
 have:=HB.leave (s:=s) (s0A hsy) hx hys hws (A:=fun i=>i∈w∧i≠s) ⟨(hc s hs y hsy).1 hy,hys⟩ fun i j hi hij hj=>by
  have hiD:=(hw i hi.1).resolve_left hi.2
  by_cases hjp:j∈pl
  ·have hjz:=S.hang hD j hjp ⟨i,hiD,s0A hij⟩
   rw [hz] at hjz
   exact absurd ⟨(lQ.mp hjz).resolve_left hj,hi.2⟩ (hc i hi.1 j hij).2
  ·exact ⟨(hc i hi.1 j hij).1 (S.cl i hiD j hij hjp),hj⟩
 exact (S.inn w0 ((hw w0 this.1).resolve_left this.2)).2 hw0
end
theorem Fs.step {B:List Dt} {lk pk lv pk' lv':List (Ky×V)} {P pl pl':List Int} {ld ld':List Dt} {A E:List (List Int)} {f X Y inn:List Int} {a b:Int} (H:Lk B lk P) (F:Fs B P pk pl lv ld (A++f::E)) (hf:(cyc f).Perm (cyc (a::(X++b::Y)))) (hfp:f.Perm (a::(X++b::Y)))
  (ha:a∈pl) (hb:b∈pl) (hi:inn.Nodup) (hip:∀ x∈inn,x∉pl) (hiP:∀ x∈inn,x∈P) (hab:inn=[]→te a b∉ld) (hch:∀ q∈cs a (inn++[b]),adj B q.1 q.2=true)
  (hp':Ds Ky.i pk' pl') (hpl:∀ x,x∈pl'↔x∈pl∨x∈a::(inn++[b])) (hl':Ds kp lv' ld') (hld:∀ t,t∈ld'↔t∈ld∨∃ q∈cs a (inn++[b]),t=te q.1 q.2) :
  Fs B P pk' pl' lv' ld' (A++[a::(X++b::inn.reverse),b::(Y++a::inn)]++E)∧ld.length+1≤ld'.length:=by
 have hpl2:∀ x,x∈pl'↔x∈pl∨x∈inn:=fun x=>by
  rw [hpl]
  constructor
  ·rintro (h | h)
   ·exact .inl h
   ·rcases lQ.mp h with h | h
    ·exact .inl (h ▸ ha)
    ·rcases iQ.mp h with h | h
     ·exact .inr h
     ·exact .inl (cQ.mp h ▸ hb)
  ·exact fun h=>h.imp id fun h=>bQ _ (mQ _ h)
 have hld2:∀ p x,te p x∈ld'↔te p x∈ld∨(p,x)∈cs a (inn++[b])∨(x,p)∈cs a (inn++[b]):=fun p x=>by
  rw [hld]
  constructor
  ·rintro (h | ⟨q,hq,e⟩)
   ·exact .inl h
   ·rcases k0B e with ⟨e1,e2⟩ | ⟨e1,e2⟩
    ·exact .inr (.inl (by rw [e1,e2];exact hq))
    ·exact .inr (.inr (by rw [e1,e2];exact hq))
  ·rintro (h | h | h)
   ·exact .inl h
   ·exact .inr ⟨_,h,rfl⟩
   ·exact .inr ⟨_,h,v1A _ _⟩
 refine ⟨⟨hp',hl',fun x hx=>?_,fun t ht=>?_,F.fi.step hf hfp hi hip hab hpl2 hld2,fun s=>?_⟩,?_⟩
 ·exact ((hpl2 x).mp hx).elim (F.plP x) (hiP x)
 ·rcases (hld t).mp ht with h | ⟨q,hq,rfl⟩
  ·exact F.ldB t h
  ·exact H.up.adj.mp (hch q hq)
 ·obtain ⟨w,hw,hne⟩:=F.three s
  exact ⟨w,(hpl2 w).mpr (.inl hw),hne⟩
 ·have hsub:∀ t∈ld,t∈ld':=fun t ht=>(hld t).mpr (.inl ht)
  have hnew:∃ t,t∈ld'∧t∉ld:=by
   cases inn with
   | nil=>exact ⟨te a b,(hld _).mpr (.inr ⟨(a,b),aQ,rfl⟩),hab rfl⟩
   | cons i inn=>exact ⟨te a i,(hld _).mpr (.inr ⟨(a,i),aQ,rfl⟩),fun h=>hip i aQ (F.fi.lp i a (by rw [v1A];exact h))⟩
  obtain ⟨t,h1,h2⟩:=hnew
  exact b0A (l:=t::ld) (rQ.mpr ⟨h2,F.dl.nd⟩) fun u hu=>(lQ.mp hu).elim (fun e=>e ▸ h1) (hsub u)
end Fl
namespace Fl
open PySem (Str)
theorem sl_one {α:Type} (a:α) (l:List α):o1A (a::l) none (some 1)=[a]:=sl_to (k:=1) (tQ (sQ _))
theorem asgI {C:a0A} {x:String} {e:E} {m:Loc} {σ:H} {K:Fw→Loc→H→Prop} (v:V) (he:∀ K':A→H→Prop,K' (.v v) σ→xE C e m σ K') (h:K .next (st m x (.v v)) σ):xS C (.asg x e) m σ K:=he _ h
section
variable {C:a0A} (hC:d1A C tab)
include hC
set_option maxHeartbeats 1000000 in
theorem b0C {B lk P} {K} (H:Lk B lk P) (HB:Blk B) (hP0:P≠[]) (h3:∀ s o,adj B s o=true→∃ w x,adj B w x=true∧w≠s∧w≠o) (h0:∀ σ',K .none σ')
  (h:∀ pk pl lv ld fs σ',Fs B P pk pl lv ld fs→Full B P pl ld→fs.length≤42→K (.list (fs.map lI)) σ'):C "fields_of" [.v (dv lk)] [] K:=by
 refine fnA hC 27 rfl rfl (nx ?_)
 dsimp only [a7A]
 kd_p
 refine ⟨rfl,rfl,m9A hC H HB hP0 h3 fun o l0 s σ' r1 r2 r3 r4 r5 r6=>?_⟩
 have hl2:2≤(l0++[s]).length:=by
  rw [fQ]
  exact tQ (List.length_pos_iff.mpr r1)
 have hl17:(l0++[s]).length≤17:=by rw [fQ];exact tQ r6
 have hla:la o (l0++[s])=s:=o3A 0 s [] l0 o
 have hcy:∀ q∈cyp o (l0++[s]),adj B q.1 q.2=true:=fun q hq=>by
  rcases iQ.mp hq with hq | hq
  ·exact r3 q hq
  ·rw [cQ.mp hq,hla];exact r4
 clear r3 r4 r1 r6 hla
 generalize l0++[s]=l at r2 r5 hl2 hl17 hcy ⊢
 kd_p
 refine nx ?_
 kd_p
 refine nx ?_
 kd_p
 refine nx ?_
 kd_p
 refine fl3 V.int (fun q _ _=>[("at", none),("row", none),("best", none),("fields", none),("point", q),("laid", some (.ref 1)),("placed", some (.ref 0)),("ring", some (.v (lI (o::l)))),("links", some (.v (dv lk)))]) (fun _ pk _=>[.map pk,.map []])
  (fun r _ pk pl=>Ds Ky.i pk pl∧(∀ x,x∈o::l↔x∈pl∨x∈r)∧∀ x∈pl,x∈P) ?_ ?_ (o::l) _ [] [] ⟨Ds.nil,fun x=>⟨.inr,fun h=>h.elim (fun h=>nomatch h) id⟩,fun _ h=>(nomatch h)⟩
 ·intro x r q pk pl zY0 W1 hW1
  refine bc fun zZ=>?_
  obtain ⟨hD,hm,hP⟩:=zY0
  refine zZ ?_;clear zZ
  kd_p
  refine nx ?_
  kd_p
  refine gx (hD.putO kfI x _ (dQ (dQ (b0A hD.nd hP) H.le) (by decide))) ?_
  kd_p
  refine ⟨rfl,hW1 _ _ _ ⟨hD.put kfI x _,fun y=>?_,fun y hy=>?_⟩⟩
  ·rw [hm,o0A,lQ]
   exact ⟨fun h=>h.elim (fun h=>.inl (.inl h)) fun h=>h.elim (fun h=>.inl (.inr h)) .inr,fun h=>h.elim (fun h=>h.elim .inl fun h=>.inr (.inl h)) fun h=>.inr (.inr h)⟩
  ·rcases o0A.mp hy with hy | hy
   ·exact hP y hy
   ·exact r5 y ((hm y).mpr (.inr (by rw [hy];exact aQ)))
 intro op pk pl zY0
 refine bc fun zZ=>?_
 obtain ⟨hpD,hpm,hpP⟩:=zY0
 refine zZ ?_;clear zZ
 have hpm:∀ x,x∈pl↔x∈o::l:=fun x=>by rw [hpm];exact ⟨.inl,fun h=>h.elim id fun h=>nomatch h⟩
 kd_p
 refine nx ?_
 kd_p
 rw [w0A,sl_one]
 refine ⟨sm_m (k:=1) (uQ 1) rfl,?_⟩
 rw [← z0Q]
 have hrl:((o::l)++[o]).length≤100:=by rw [fQ];exact tQ (tQ (dQ hl17 (by decide)))
 refine ⟨sm_m hrl rfl,rfl,rfl,lay_ok hC Ds.nil hrl (sQ _) fun lv ld σ' hlD hlm=>?_⟩
 have hzip:((o::l)++[o]).zip ((o::l)++[o]).tail=cyp o l:=by
  rw [show (o::l)++[o]=o::(l++[o]) from rfl,l6B,s3A];rfl
 rw [hzip] at hlm
 kd_p
 refine nx ?_
 kd_p
 rw [← List.map_reverse]
 refine ⟨sm_m (k:=18) (by rw [List.length_reverse];exact tQ hl17) rfl,f1A (k:=2) (uQ 2) rfl,nx ?_⟩
 kd_p
 have hF:Fs B P pk pl lv ld [o::l,(o::l).reverse]:=by
  refine ⟨hpD,hlD,hpP,fun t ht=>?_,Fi.init r2 hl2 hpm fun p x=>?_,fun s=>?_⟩
  ·refine bc fun zZ=>?_
   obtain ⟨q,hq,rfl⟩:=((hlm t).mp ht).resolve_left fun h=>nomatch h
   refine zZ ?_;clear zZ
   exact H.up.adj.mp (hcy q hq)
  ·rw [hlm]
   constructor
   ·rintro (h | ⟨q,hq,e⟩)
    ·cases h
    ·rcases k0B e with ⟨e1,e2⟩ | ⟨e1,e2⟩
     ·exact .inl (by rw [e1,e2];exact hq)
     ·exact .inr (by rw [e1,e2];exact hq)
   ·rintro (h | h)
    ·exact .inr ⟨_,h,rfl⟩
    ·exact .inr ⟨_,h,v1A _ _⟩
  ·by_cases e:o=s
   ·obtain ⟨x,hx⟩:=List.exists_mem_of_ne_nil l fun e0=>by rw [e0] at hl2;exact absurd hl2 (by decide)
    exact ⟨x,(hpm x).mpr (bQ _ hx),fun e'=>(rQ.mp r2).1 (by rw [e,← e'];exact hx)⟩
   ·exact ⟨o,(hpm o).mpr aQ,e⟩
 have hBl:=H.bl
 refine ⟨rfl,rfl,x3B hC (fs:=[o::l,(o::l).reverse]) H hpD hlD hpP (show 2≤100 by decide) fun bo σ' hb1 hb2=>?_⟩
 kd_p
 refine nx ?_
 kd_p
 have hld0:ld.length≤B.length:=b0A hlD.nd hF.ldB
 refine wl5 (fun (t:Option A×Option A×Option A) bo fs _ _=>[("at", t.1),("row", t.2.1),("best", some (.v (bv bo))),("fields", some (.v (.list (fs.map lI)))),("point", t.2.2),("laid", some (.ref 1)),("placed", some (.ref 0)),("ring", some (.v (lI (o::l)))),("links", some (.v (dv lk)))]) (fun _ _ _ pk lv=>[.map pk,.map lv])
  (fun q _ bo fs pk lv=>∃ pl ld,Fs B P pk pl lv ld fs∧(bo=none→Full B P pl ld)∧(∀ z ix,bo=some (z,ix)→(∃ D,Sh B P pl ld z D)∧Fits fs z.1 ix)∧ld.length+q=B.length∧fs.length+q≤42) ?_ (B.length - ld.length) (_,_,_) bo [o::l,(o::l).reverse] pk lv ⟨pl,ld,hF,hb1,hb2,aW hld0,bW (dQ (pK _ _) hBl) 2⟩
 clear hb1 hb2 hF hlm hlD hpD hpm hpP hld0 hzip
 intro q t bo fs pk lv zY0 W1 hW1
 refine bc fun zZ=>?_
 obtain ⟨pl,ld,F,hb1,hb2,hq,hfl⟩:=zY0
 refine zZ ?_;clear zZ
 cases bo with
 | none=>
  dsimp only [bv]
  kd_p
  refine nx ?_
  kd_p
  exact h pk pl lv ld fs _ F (hb1 rfl) (dQ (z5Q _ _) hfl)
 | some zz=>
  refine bc fun zZ=>?_
  obtain ⟨z,ix⟩:=zz
  obtain ⟨⟨D,S⟩,hfit,hixl⟩:=hb2 z ix rfl
  refine zZ ?_;clear zZ
  dsimp only [bv]
  kd_p
  refine nx ?_
  kd_p
  rw [eQ]
  cases ix with
  | nil=>
   refine brT (decide_eq_true rfl) (nx ?_)
   kd_p
   exact h0 _
  | cons k ix=>
   refine bc fun zZ=>?_
   obtain ⟨j,rfl,f,hfj,hfe⟩:=hfit k aQ
   refine zZ ?_;clear zZ
   refine brF (decide_eq_false fun e=>Nat.succ_ne_zero _ (Int.ofNat.inj e)) ?_
   refine nx (asgI (lI z.1) (fun K' hk=>?_) ?_)
   ·kd_p
    exact hk
   kd_p
   have main:∀ (a b:Int) (inn:List Int),a∈z.1→b∈z.1→a≠b→inn.Nodup→(∀ x∈inn,x∉pl)→(∀ x∈inn,x∈P)→(inn=[]→te a b∉ld)→(∀ q∈cs a (inn++[b]),adj B q.1 q.2=true)→
     xSs C [.asg "at" (.item (.item (.x "best") (.c (.int 2))) (.c (.int 0))),
      .asg "fields" (.fz (.concat (.fz (.concat (.fz (.slice (.x "fields") Option.none (some (.x "at")))) (.call "parted" [.item (.x "fields") (.x "at"),.x "row"]))) (.fz (.slice (.x "fields") (some (.bin .add (.x "at") (.c (.int 1)))) Option.none)))),
      .for_ (.one "point") (.x "row") [.setI (.x "placed") (.x "point") (.c (.bool true))],
      .ex (.call "lay" [.x "laid", .x "row"]),
      .asg "best" (.call "next_shred" [.x "links", .x "placed", .x "laid", .x "fields"])]
     [("at", t.1),("row", some (.v (lI (a::(inn++[b]))))),("best", some (.v (bv (some (z,(j:Int)::ix))))),("fields", some (.v (.list (fs.map lI)))),("point", t.2.2),("laid", some (.ref 1)),("placed", some (.ref 0)),("ring", some (.v (lI (o::l)))),("links", some (.v (dv lk)))] [.map pk,.map lv] (wlK W1 (kK C [.ret (.x "fields")] (retF K))):=by
    intro a b inn ha hb hab hin hip hiP hte hch
    have hjl:j<fs.length:=(jQ.mp hfj).1
    have hpl16:pl.length≤16:=dQ (b0A F.dp.nd F.plP) H.le
    have hff:f∈fs:=wQ hfj
    have hf16:f.length≤16:=dQ (b0A (F.fi.nd f hff) (F.fi.inp f hff)) hpl16
    have hi16:inn.length≤16:=dQ (b0A hin hiP) H.le
    have hfl42:fs.length≤42:=dQ (z5Q _ _) hfl
    have hfs:fs=fs.take j++f::fs.drop (j+1):=by
     have e1:=(jQ.mp hfj).2
     conv=>lhs;rw [← kW j fs,sW hjl,e1]
    refine nx (asgI (.int (j:Int)) (fun K' hk=>?_) ?_)
    ·dsimp only [bv]
     kd_p
     exact gx (itL (x:=.int (j:Int)) (fK 0) rfl) hk
    kd_p
    refine nx ?_
    kd_p
    have es:o1A (fs.map lI) (some ((j:Int)+1)) none=(fs.drop (j+1)).map lI:=by
     rw [w0A,show ((j:Int)+1)=((j+1:Nat):Int) from rfl,a2B hjl]
    rw [es,w0A,sl_to (z8Q hjl)]
    have ht42:(fs.take j).length≤42:=by rw [uK];exact dQ (z6K _ _) hfl42
    have hd42:(fs.drop (j+1)).length≤42:=by rw [List.length_drop];exact dQ (pK _ _) hfl42
    refine ⟨sm_m ht42 rfl,gx (itL (x:=lI f) (qW _) (by rw [z2W,oQ,hfj];rfl)) ?_⟩
    refine ⟨rfl,rfl,f8B hC (F.fi.nd f hff) (hfe a ha) (hfe b hb) hab (dQ hf16 (by decide)) (dQ hi16 (by decide)) fun X Y _ hcy hpm=>?_⟩
    kd_p
    have ev:(fs.take j).map lI++[lI (a::(X++b::inn.reverse)),lI (b::(Y++a::inn))]++(fs.drop (j+1)).map lI=(fs.take j++[a::(X++b::inn.reverse),b::(Y++a::inn)]++fs.drop (j+1)).map lI:=by
     rw [z0Q,z0Q];rfl
    have hnl:(fs.take j++[a::(X++b::inn.reverse),b::(Y++a::inn)]++fs.drop (j+1)).length=fs.length+1:=by
     have hs:=congrArg List.length hfs
     rw [fQ,mW] at hs
     rw [fQ,fQ,hs]
     show _+2+_=_
     exact wK _ 2 _
    refine ⟨f1A (k:=44) (by rw [fQ,eQ];exact Nat.add_le_add ht42 (uQ 2)) rfl,sm_m hd42 rfl,?_⟩
    rw [ev]
    refine ⟨sm_m (k:=43) (by rw [hnl];exact tQ hfl42) rfl,nx ?_⟩
    kd_p
    generalize hnf:fs.take j++[a::(X++b::inn.reverse),b::(Y++a::inn)]++fs.drop (j+1)=nf at hnl ⊢
    have hrP:∀ x∈a::(inn++[b]),x∈P:=fun x hx=>by
     rcases lQ.mp hx with e | hx
     ·rw [e];exact F.plP a (S.en a ha)
     ·rcases iQ.mp hx with hx | hx
      ·exact hiP x hx
      ·rw [cQ.mp hx];exact F.plP b (S.en b hb)
    refine fl3 V.int (fun q _ _=>[("at", some (iv (j:Int))),("row", some (.v (lI (a::(inn++[b]))))),("best", some (.v (bv (some (z,(j:Int)::ix))))),("fields", some (.v (.list (nf.map lI)))),("point", q),("laid", some (.ref 1)),("placed", some (.ref 0)),("ring", some (.v (lI (o::l)))),("links", some (.v (dv lk)))]) (fun _ pk _=>[.map pk,.map lv])
     (fun r _ pk pl'=>Ds Ky.i pk pl'∧(∀ x∈pl',x∈P)∧(∀ x∈r,x∈a::(inn++[b]))∧(∀ x,x∈pl∨x∈a::(inn++[b])↔x∈pl'∨x∈r)) ?_ ?_ (a::(inn++[b])) _ pk pl ⟨F.dp,F.plP,fun _ h=>h,fun _=>Iff.rfl⟩
    ·intro x r q pk pl' zY0 W2 hW2
     refine bc fun zZ=>?_
     obtain ⟨hD,hP,hr,hm⟩:=zY0
     refine zZ ?_;clear zZ
     have hxr:=hr x aQ
     kd_p
     refine nx ?_
     kd_p
     refine gx (hD.putO kfI x _ (dQ (dQ (b0A hD.nd hP) H.le) (by decide))) ?_
     kd_p
     refine ⟨rfl,hW2 _ _ _ ⟨hD.put kfI x _,fun y hy=>(o0A.mp hy).elim (hP y) fun e=>e ▸ hrP x hxr,fun y hy=>hr y (bQ _ hy),fun y=>?_⟩⟩
     rw [hm,o0A,lQ]
     exact ⟨fun h=>h.elim (fun h=>.inl (.inl h)) fun h=>h.elim (fun h=>.inl (.inr h)) .inr,fun h=>h.elim (fun h=>h.elim .inl fun h=>.inr (.inl h)) fun h=>.inr (.inr h)⟩
    ·intro qp pk' pl' zY0
     refine bc fun zZ=>?_
     obtain ⟨hD',hP',_,hm'⟩:=zY0
     refine zZ ?_;clear zZ
     have hm':∀ x,x∈pl'↔x∈pl∨x∈a::(inn++[b]):=fun x=>by rw [hm'];exact ⟨.inl,fun h=>h.elim id fun h=>nomatch h⟩
     kd_p
     refine nx ?_
     kd_p
     have hld40:ld.length≤500:=dQ (dQ (b0A F.dl.nd F.ldB) hBl) (by decide)
     refine ⟨rfl,rfl,lay_ok hC F.dl (by rw [mW,fQ];exact dQ (tQ (tQ hi16)) (by decide)) hld40 fun lv' ld' _ hl' hlm=>?_⟩
     rw [l6B] at hlm
     rw [hfs] at F
     obtain ⟨F',hgrow⟩:=F.step H hcy hpm (S.en a ha) (S.en b hb) hin hip hiP hte hch hD' hm' hl' hlm
     rw [hnf] at F'
     kd_p
     refine nx ?_
     kd_p
     have hld':ld'.length≤B.length:=b0A F'.dl.nd F'.ldB
     refine ⟨rfl,rfl,x3B hC H F'.dp F'.dl F'.plP (by rw [hnl];exact dQ (tQ hfl42) (by decide)) fun bo' _ hb1' hb2'=>?_⟩
     kd_p
     have hD:B.length - ld'.length<q:=Nat.sub_lt_left_of_lt_add hld' (by rw [← hq];exact Nat.add_lt_add_right hgrow q)
     exact hW1 (B.length - ld'.length) (_,_,_) bo' nf pk' lv' hD ⟨pl',ld',F',hb1',hb2',aW hld',by rw [hnl,z3Z,bZ 1];exact dQ (bW hD _) hfl⟩
   refine nx ?_
   kd_p
   refine gx S.len ?_
   kd_p
   by_cases hD:D=[]
   ·refine bc fun zZ=>?_
    obtain ⟨a,b,hz,hab,hte⟩:=S.tie hD
    refine zZ ?_;clear zZ
    refine brF (n7A (by rw [hD];exact fK 0)) ?_
    have ha:a∈z.1:=by rw [hz];exact aQ
    have hb:b∈z.1:=by rw [hz];exact bQ _ aQ
    have:=main a b [] ha hb (H.up.ne hab) tW (fun _ h=>(nomatch h)) (fun _ h=>(nomatch h)) (fun _=>hte) fun q hq=>by rw [cQ.mp hq];exact hab
    rw [show lI (a::([]++[b]))=lI z.1 by rw [hz];rfl] at this
    exact this
   ·refine brT (l9A (rZ.mpr (List.length_pos_iff.mpr hD))) (nx ?_)
    have hze:∃ s G,z.1=s::G:=by
     cases hz:z.1 with
     | nil=>exact absurd hz (ends_ne H HB F S hD)
     | cons s G=>exact ⟨s,G,rfl⟩
    refine bc fun zZ=>?_
    obtain ⟨s,G,hz⟩:=hze
    refine zZ ?_;clear zZ
    have hs:s∈z.1:=by rw [hz];exact aQ
    have hzl:z.1.length≤16:=dQ (dQ (b0A S.nd S.en) (b0A F.dp.nd F.plP)) H.le
    rw [hz] at hzl
    have hnd:=S.nd
    rw [hz] at hnd
    have es:o1A (z.1.map V.int) (some 1) none=G.map V.int:=by rw [hz,w0A,i7B];rfl
    kd_p
    refine gx (itL (x:=.int s) (fK 0) (by rw [hz];rfl)) ?_
    rw [es]
    refine ⟨sm_m (k:=16) (z3W hzl) rfl,rfl,rfl,way_ok hC H (F.plP s (S.en s hs)) S.ds (fun x hx=>(S.inn x hx).1) (fun h=>(S.inn s h).2 (S.en s hs)) (way_no H HB F S hD hz) fun l1 g _ w1 w2 w3 w4 w5 w6=>?_⟩
    have hg:g∈z.1:=by rw [hz];exact bQ _ w4
    exact main s g l1 hs hg (fun e=>(rQ.mp hnd).1 (e ▸ w4)) (rQ.mp w2).2 (fun x hx=>(S.inn x (w3 x hx)).2) (fun x hx=>(S.inn x (w3 x hx)).1) (fun e=>absurd e w1) w5
end
end Fl
namespace Fl
open PySem (Str)
theorem lx_n {n:Nat} (h:n≤16):(n:Int)<2 ^ 20∧-2 ^ 20<(n:Int):=by lia
theorem lx_0 {a n:Nat} (h:a<n):(n:Int)≠0:=by lia
theorem cyc_at (A E:List Int) (y:Int):(la y (E++A),y,hd (E++A++[y]))∈cyc (A++y::E):=by
 refine (f6A A (y::E)).mem_iff.mpr ?_
 show _∈tr (la y (E++A)) y ((E++A)++[y])
 rw [r6B]
 exact aQ
theorem cyc_un {f:List Int} (hn:f.Nodup) {x x' y z z':Int} (h1:(x,y,z)∈cyc f) (h2:(x',y,z')∈cyc f):x=x'∧z=z':=by
 have:((cyc f).map (·.2.1)).Nodup:=by rw [r9A];exact hn
 have e:=l2B this h1 h2 rfl
 exact ⟨congrArg (·.1) e,congrArg (·.2.2) e⟩
theorem e9B (A E:List Int) (y:Int):x1A ((A++y::E).map V.int) (.v (.int ((A.length:Int) - 1)))=some (.int (la y (E++A))):=by
 rcases List.eq_nil_or_concat A with rfl | ⟨A',u,rfl⟩
 ·show x1A ((y::E).map V.int) (.v (.int (-1)))=_
  rw [z1Q]
  rcases List.eq_nil_or_concat E with rfl | ⟨E',v,rfl⟩
  ·rfl
  ·rw [List.concat_eq_append,f9B,o3A 0];rfl
 ·rw [List.concat_eq_append,← kQ,o3A 0]
  have e:(((A'++[u]).length:Nat):Int) - 1=(A'.length:Int):=by
   rw [fQ]
   show ((A'.length+1:Nat):Int) - 1=_
   lia
  rw [e]
  refine itL (qW _) ?_
  rw [z2W,oQ,kQ,List.getElem?_append_right (uQ _),Nat.sub_self];rfl
theorem it_next (A E:List Int) (y:Int):x1A ((A++y::E).map V.int) (.v (.int (Int.fmod ((A.length:Int)+1) (((A++y::E).map V.int).length:Nat))))=some (.int (hd (E++A++[y]))):=by
 have e:Int.fmod ((A.length:Int)+1) (((A++y::E).map V.int).length:Nat)=(((A.length+1) % (A++y::E).length:Nat):Int):=by
  rw [eQ,Int.fmod_eq_emod_of_nonneg _ (qW _),Int.natCast_emod];rfl
 rw [e]
 refine itL (qW _) ?_
 rw [z2W,oQ]
 cases E with
 | nil=>
  rw [show (A++[y]).length=A.length+1 from fQ,Nat.mod_self]
  cases A <;> rfl
 | cons v E=>
  rw [z5K (by rw [fQ];exact Nat.add_lt_add_left (Nat.succ_lt_succ (vZ _)) _),List.getElem?_append_right (Nat.le_succ _),show A.length.succ - A.length=1 from oK A.length 1];rfl
theorem cyp_next (y:Int) (T1 T2:List Int):(la y T1,hd (T2++[y]))∈cyp y (T1++T2):=by
 unfold cyp
 cases T2 with
 | nil=>rw [z1Q];exact gQ _ (cQ.mpr rfl)
 | cons v T2=>rw [s3A];exact mQ _ (gQ _ aQ)
theorem it_la (y:Int) (T:List Int):x1A ((y::T).map V.int) (.v (.int (-1)))=some (.int (la y T)):=by
 have:=e9B [] T y
 rw [z1Q] at this
 exact this
section
variable {C:a0A} (hC:d1A C tab)
include hC
set_option maxHeartbeats 1000000 in
theorem q7B {B lk P} {pk lv:List (Ky×V)} {pl:List Int} {ld:List Dt} {fs:List (List Int)} {K} (H:Lk B lk P) (F:Fs B P pk pl lv ld fs) (hful:Full B P pl ld) (hfl:fs.length≤42)
  (h:∀ kvs (tn:Int→List Int) σ',Dm Ky.i kvs P (fun p=>lI (tn p))→(∀ p∈P,(tn p).Perm (row B p))→K (dv kvs) σ'):C "rounds_of" [.v (dv lk),.v (.list (fs.map lI))] [] K:=by
 have hpl16:pl.length≤16:=dQ (b0A F.dp.nd F.plP) H.le
 have hkey:∀ t∈fs.flatMap cyc,t.2.1∈pl∧t.1∈pl:=fun t ht=>by
  refine bc fun zZ=>?_
  obtain ⟨f,hf,ht⟩:=List.mem_flatMap.mp ht
  refine zZ ?_;clear zZ
  have hy:t.2.1∈f:=by rw [← r9A f];exact zW ht
  refine ⟨F.fi.inp f hf _ hy,?_⟩
  refine bc fun zZ=>?_
  obtain ⟨A,E,rfl⟩:=aJ hy
  refine zZ ?_;clear zZ
  have:=(cyc_un (F.fi.nd _ hf) ht (cyc_at A E t.2.1)).1
  rw [this]
  refine F.fi.inp _ hf _ ?_
  rcases lQ.mp (e4A (E++A) t.2.1) with e | e
  ·rw [e];exact gQ _ aQ
  ·rcases iQ.mp e with e | e
   ·exact gQ _ (bQ _ e)
   ·exact mQ _ e
 have hkl:∀ {L:List Dt},L.Nodup→(∀ q∈L,q.1∈pl∧q.2∈pl)→L.length≤1000:=fun {L} hn hL=>by
  have:=b0A (D:=pl.flatMap fun a=>pl.map fun b=>(a,b)) hn fun q hq=>List.mem_flatMap.mpr ⟨q.1,(hL q hq).1,qQ.mpr ⟨q.2,(hL q hq).2,rfl⟩⟩
  refine dQ this (dQ (y9B (k:=16) fun x _=>by rw [eQ];exact hpl16) (dQ (Nat.mul_le_mul_right 16 hpl16) (by decide)))
 refine fnA hC 28 rfl rfl (nx ?_)
 dsimp only [z6A]
 kd_p
 refine nx ?_
 kd_p
 refine fl5 lI (fun (o:Option A×Option A) _ _ _ _=>[("turn", none),("point", none),("found", none),("at", o.1),("field", o.2),("follows", some (.ref 0)),("links", some (.v (dv lk))),("fields", some (.v (.list (fs.map lI))))]) (fun _ kvs _ _ _=>[.map kvs])
  (fun r _ kvs L fol dn=>dn++r=fs∧Dm kp kvs L (fun q=>.int (fol q))∧(∀ q∈L,(q.2,q.1,fol q)∈fs.flatMap cyc)∧∀ t∈dn.flatMap cyc,(t.2.1,t.1)∈L) ?_ ?_ fs (_,_) [] [] (fun _=>0) [] ⟨rfl,Dm.nil,fun _ h=>(nomatch h),fun _ h=>(nomatch h)⟩
 ·intro f r o kvs L fol dn zY0 W1 hW1
  refine bc fun zZ=>?_
  obtain ⟨e,hD,hL,hc⟩:=zY0
  refine zZ ?_;clear zZ
  have hf:f∈fs:=by rw [← e];exact gQ _ aQ
  have hf16:f.length≤16:=dQ (b0A (F.fi.nd f hf) (F.fi.inp f hf)) hpl16
  kd_p
  refine nx ?_
  kd_p
  rw [eQ]
  refine ⟨(lx_n hf16).1,(lx_n hf16).2,?_⟩
  rw [g3A]
  refine fl5 V.int (fun (o:Option A) _ _ _ _=>[("turn", none),("point", none),("found", none),("at", o),("field", some (.v (lI f))),("follows", some (.ref 0)),("links", some (.v (dv lk))),("fields", some (.v (.list (fs.map lI))))]) (fun _ kvs _ _ _=>[.map kvs])
   (fun q _ kvs L fol k=>Dm kp kvs L (fun q=>.int (fol q))∧(∀ q∈L,(q.2,q.1,fol q)∈fs.flatMap cyc)∧(∀ t∈dn.flatMap cyc,(t.2.1,t.1)∈L)∧(rI (f.length:Int)).drop k=q∧∀ t∈cyc f,t.2.1∈f.take k→(t.2.1,t.1)∈L) ?_ ?_ _ _ kvs L fol 0 ⟨hD,hL,hc,rfl,fun t _ h=>(nomatch h)⟩
  ·intro i q o kvs L fol k zY0 W2 hW2
   refine bc fun zZ=>?_
   obtain ⟨hD,hL,hc,hk,hcf⟩:=zY0
   refine zZ ?_;clear zZ
   have hkl':k<f.length:=by
    have h1:k<(rI (f.length:Int)).length:=Nat.lt_of_not_le fun hge=>by rw [List.drop_eq_nil_of_le hge] at hk;cases hk
    rw [c4A,z2W] at h1;exact h1
   have hi:i=(k:Int)∧(rI (f.length:Int)).drop (k+1)=q:=by
    rw [sW (by rw [c4A,z2W];exact hkl')] at hk
    obtain ⟨h1,h2⟩:=List.cons.inj hk
    refine ⟨?_,h2⟩
    rw [← h1]
    unfold rI
    rw [List.getElem_map,List.getElem_range]
   obtain ⟨rfl,hq⟩:=hi
   have hfe:f=f.take k++f[k]::f.drop (k+1):=by
    conv=>lhs;rw [← kW k f,sW hkl']
   have htl:(f.take k).length=k:=by rw [uK];exact jZ (z8Q hkl')
   generalize hA:f.take k=A at hfe htl hcf
   generalize f[k]=y at hfe
   generalize f.drop (k+1)=E at hfe
   subst htl
   have hc0:=cyc_at A E y
   rw [← hfe] at hc0
   have hT:(la y (E++A),y,hd (E++A++[y]))∈fs.flatMap cyc:=List.mem_flatMap.mpr ⟨f,hf,hc0⟩
   kd_p
   refine nx ?_
   kd_p
   have g1:=it_next A E y
   have g2:=e9B A E y
   have g3:x1A ((A++y::E).map V.int) (.v (.int (A.length:Int)))=some (.int y):=itL (qW _) (by rw [z2W,oQ,List.getElem?_append_right (uQ _),Nat.sub_self];rfl)
   rw [← hfe] at g1 g2 g3
   refine ⟨?_,gx g1 (gx g3 (gx g2 ?_))⟩
   ·rw [eQ];exact lx_0 hkl'
   kd_p
   refine gx (hD.putO kfP (y,la y (E++A)) _ (hkl hD.nd fun q hq=>⟨(hkey _ (hL q hq)).1,(hkey _ (hL q hq)).2⟩)) ?_
   kd_p
   refine ⟨rfl,hW2 _ _ _ (fun q=>if q=(y,la y (E++A)) then hd (E++A++[y]) else fol q) (A.length+1) ⟨(hD.put kfP (y,la y (E++A)) _).of fun q _=>?_,fun q hq=>?_,fun t ht=>o0A.mpr (.inl (hc t ht)),hq,fun t ht hm=>?_⟩⟩
   ·by_cases c:q=(y,la y (E++A))
    ·rw [if_pos c,if_pos c]
    ·rw [if_neg c,if_neg c]
   ·by_cases c:q=(y,la y (E++A))
    ·rw [if_pos c,c];exact hT
    ·rw [if_neg c]
     exact hL q ((o0A.mp hq).resolve_right c)
   ·rw [hfe,List.take_append,tK (Nat.le_succ _),oK] at hm
    rcases iQ.mp hm with hm | hm
    ·exact o0A.mpr (.inl (hcf t ht hm))
    ·have hty:t.2.1=y:=cQ.mp hm
     have ht':(t.1,y,t.2.2)∈cyc f:=by rw [← hty];exact ht
     have:=(cyc_un (F.fi.nd f hf) ht' hc0).1
     exact o0A.mpr (.inr (by rw [hty,this]))
  ·intro o kvs L fol k zY0
   refine bc fun zZ=>?_
   obtain ⟨hD,hL,hc,hk,hcf⟩:=zY0
   refine zZ ?_;clear zZ
   kd_p
   refine ⟨rfl,hW1 (_,_) _ L fol (dn++[f]) ⟨by rw [kQ];exact e,hD,hL,fun t ht=>?_⟩⟩
   rw [List.flatMap_append] at ht
   rcases iQ.mp ht with ht | ht
   ·exact hc t ht
   ·rw [List.flatMap_cons,List.flatMap_nil,z1Q] at ht
    refine hcf t ht ?_
    have hkf:f.length≤k:=by
     have:=List.drop_eq_nil_iff.mp hk
     rw [c4A,z2W] at this;exact this
    rw [tK hkf,← r9A f]
    exact zW ht
 intro o1 fk L fol dn zY0
 refine bc fun zZ=>?_
 obtain ⟨e,hfD,hL,hc⟩:=zY0
 refine zZ ?_;clear zZ
 rw [z1Q] at e
 subst e
 have hfol:∀ p∈pl,∀ x r,(x,r)∈co p (dn.flatMap cyc)→(p,x)∈L∧fol (p,x)=r:=fun p hp x r hx=>by
  have h1:=co_mem.mp hx
  have h2:=hc _ h1
  exact ⟨h2,(F.fi.rn p hp).fn (co_mem.mpr (hL _ h2)) hx⟩
 clear hc hL
 kd_p
 refine nx ?_
 kd_p
 refine nx ?_
 kd_p
 rw [H.dm.s.itsD]
 refine fl5 V.int (fun (o:Option A×Option A) _ _ _ _=>[("turn", o.1),("point", o.2),("found", some (.ref 1)),("at", o1.1),("field", o1.2),("follows", some (.ref 0)),("links", some (.v (dv lk))),("fields", some (.v (.list (dn.map lI))))]) (fun _ kvs _ _ (g:List O)=>.map fk::.map kvs::g)
  (fun r _ kvs dp tn _=>dp++r=P∧Dm Ky.i kvs dp (fun p=>lI (tn p))∧∀ p∈dp,(tn p).Perm (row B p)) ?_ ?_ P (_,_) [] [] (fun _=>[]) [] ⟨rfl,Dm.nil,fun _ h=>(nomatch h)⟩
 ·intro p r o kvs dp tn g zY0 W1 hW1
  refine bc fun zZ=>?_
  obtain ⟨e,hD,ht⟩:=zY0
  refine zZ ?_;clear zZ
  have hpP:p∈P:=by rw [← e];exact gQ _ aQ
  have hp:=hful.2 p hpP
  have hnP:=H.dm.nd
  have hdl:dp.length≤16:=by
   have:=H.le
   rw [← e,fQ] at this
   exact dQ (z5Q _ _) this
  rw [← e] at hnP
  have hpd:p∉dp:=fun hm=>(z3Q.mp hnP).2.2 p hm p aQ rfl
  cases hrw:row B p with
  | nil=>
   obtain ⟨y,hy⟩:=(H.mem p).mp hpP
   have:=H.nb.mpr hy
   rw [hrw] at this;cases this
  | cons y0 lR=>
  have hy0:adj B p y0=true:=H.nb.mp (by rw [hrw];exact aQ)
  have hin:∀ x,adj B p x=true→te p x∈ld:=fun x hx=>hful.1 p hp x (hful.2 x ((H.mem x).mpr ⟨p,s0A hx⟩)) hx
  refine bc fun zZ=>?_
  obtain ⟨T,hn,hperm,hP⟩:=(F.fi.rn p hp).at (hin y0 hy0)
  refine zZ ?_;clear zZ
  have hmem:∀ x,x∈y0::T↔x∈row B p:=fun x=>by
   rw [← hP,H.nb]
   exact ⟨fun h=>H.up.adj.mpr (F.ldB _ h),hin x⟩
  have hTl:(y0::T).length≤16:=dQ (b0A hn fun x hx=>(hmem x).mp hx) (H.rlen p)
  have hTp:(y0::T).Perm (row B p):=(List.perm_ext_iff_of_nodup hn (s7A (a8A H.up H.nd p))).mpr hmem
  kd_p
  refine nx ?_
  kd_p
  refine gx (H.dm.getD kfI hpP) (gx (itL (x:=.int y0) (fK 0) (by rw [hrw];rfl)) ⟨f1A (k:=1) (uQ 1) rfl,?_⟩)
  refine nx ?_
  kd_p
  refine wl2 (fun _ _=>[("turn", some (.ref (g.length+2))),("point", some (iv p)),("found", some (.ref 1)),("at", o1.1),("field", o1.2),("follows", some (.ref 0)),("links", some (.v (dv lk))),("fields", some (.v (.list (dn.map lI))))]) (fun T1 _=>.map fk::.map kvs::(g++[.list ((y0::T1).map V.int)]))
   (fun q T1 T2=>T1++T2=T∧q=T2.length) ?_ _ [] T ⟨rfl,rfl⟩
  rintro q T1 T2 ⟨eT,rfl⟩ W2 hW2
  have hin2:=cyp_next y0 T1 T2
  rw [eT] at hin2
  obtain ⟨f1,f2⟩:=hfol p hp _ _ (hperm.mem_iff.mpr hin2)
  have hT1:(y0::T1).length≤16:=by
   rw [← eT] at hTl
   refine dQ ?_ hTl
   rw [mW,mW,fQ]
   exact tQ (z5Q _ _)
  kd_p
  rw [gT2]
  kd_p
  refine gx (it_la y0 T1) (gx (hfD.get kfP f1) ?_)
  rw [f2]
  refine gx (itL (x:=.int y0) (fK 0) rfl) ?_
  kd_p
  cases T2 with
  | nil=>
   refine brF (nf (decide_eq_true rfl)) ?_
   rw [z1Q] at eT
   subst eT
   refine nx ?_
   kd_p
   rw [gT2]
   kd_p
   rw [sT2]
   kd_p
   refine gx (hD.putO kfI p _ (dQ hdl (by decide))) ?_
   kd_p
   have hD2:=hD.put kfI p (lI (y0::T1))
   rw [m1A hpd] at hD2
   refine ⟨rfl,hW1 (_,_) _ (dp++[p]) (fun z=>if z=p then y0::T1 else tn z) _ ⟨by rw [kQ];exact e,hD2.of fun z _=>?_,fun z hz=>?_⟩⟩
   ·by_cases c:z=p
    ·rw [if_pos c,if_pos c]
    ·rw [if_neg c,if_neg c]
   ·by_cases c:z=p
    ·rw [if_pos c,c];exact hTp
    ·rw [if_neg c]
     rcases iQ.mp hz with hz | hz
     ·exact ht z hz
     ·exact absurd (cQ.mp hz) c
  | cons v T2=>
   have hvy:v≠y0:=fun ev=>(rQ.mp hn).1 (by rw [← eT,← ev];exact gQ _ aQ)
   refine brT (nt (decide_eq_false hvy)) ?_
   refine nx ?_
   kd_p
   rw [gT2]
   kd_p
   refine ⟨rfl,gx (it_la y0 T1) (gx (hfD.get kfP f1) ?_)⟩
   rw [f2]
   refine ⟨ap_m hT1 rfl,?_⟩
   rw [sT2,show ((y0::T1).map V.int++[V.int (hd (v::T2++[y0]))])=(y0::(T1++[v])).map V.int by rw [z6Q,z6Q,z0Q];rfl]
   exact hW2 T2.length (T1++[v]) T2 (nZ _) ⟨by rw [kQ];exact eT,rfl⟩
 ·intro o kvs dp tn g zY0
  refine bc fun zZ=>?_
  obtain ⟨e,hD,ht⟩:=zY0
  refine zZ ?_;clear zZ
  rw [z1Q] at e
  subst e
  kd_p
  refine nx ?_
  kd_p
  exact h kvs tn _ hD ht
end
end Fl
namespace Fl
open PySem (Str)
theorem gT1 (a o:O) (g:H):(a::(g++[o]))[g.length+1]?=some o:=by
 show (g++[o])[g.length]?=some o
 exact vW
theorem sT1 (a o p:O) (g:H):(a::(g++[o])).set (g.length+1) p=a::(g++[p]):=by
 show a::(g++[o]).set g.length p=_
 rw [List.set_append_right _ _ (uQ _),Nat.sub_self];rfl
section
variable {n:Int} {us:List Dt} {g:Dt→Dt} {Mt:List Dt} (W:Gw n us) (G:Bks us g Mt) {m:Dt}
theorem v9A {t:Dt}:t∈blk us g m↔t∈us∧g t=m:=by
 unfold blk
 rw [tZ,j2A,decide_eq_true_eq]
include W
theorem r1B:Up (blk us g m):=fun t ht=>W.up t (v9A.mp ht).1
theorem blk_nd:(blk us g m).Nodup:=v6A ((l1A us).nodup_iff.mpr W.nd)
theorem blk_len:(blk us g m).length≤40:=flen (by rw [(l1A us).length_eq];exact W.le)
theorem blk_adj {i x:Int}:adj (blk us g m) i x=true↔te i x∈us∧g (te i x)=m:=by
 rw [(r1B W).adj,v9A]
include G
theorem blk_blk (hm:m∈Mt):Blk (blk us g m):=by
 obtain ⟨t,ht,e⟩:=G.of m hm
 refine blk_of W.up ht fun u=>?_
 rw [v9A]
 refine ⟨fun h=>⟨h.1,(G.gp.iff ht h.1).mp (e.trans h.2.symm)⟩,fun h=>⟨h.1,((G.gp.iff ht h.1).mpr h.2).symm.trans e⟩⟩
theorem x0C (hl:1<(blk us g m).length) (s o:Int) (ha:adj (blk us g m) s o=true):∃ w x,adj (blk us g m) w x=true∧w≠s∧w≠o:=by
 have hte:=(r1B W).adj.mp ha
 have:∃ t∈blk us g m,t≠te s o:=Classical.byContradiction fun hno=>by
  have:=b0A (D:=[te s o]) (blk_nd (g:=g) (m:=m) W) fun t ht=>cQ.mpr (Classical.byContradiction fun hn=>hno ⟨t,ht,hn⟩)
  exact absurd hl (z6W.mpr this)
 obtain ⟨t,ht,hne⟩:=this
 have hadj:adj (blk us g m) t.1 t.2=true:=p0A.mpr (.inl ht)
 have htt:t=te t.1 t.2:=(x8A (r1B W t ht)).symm
 have h12:=(r1B W).ne hadj
 by_cases h1:t.1=s∨t.1=o
 ·refine ⟨t.2,t.1,s0A hadj,fun e=>?_,fun e=>?_⟩
  ·rcases h1 with h1 | h1
   ·exact h12 (h1.trans e.symm)
   ·exact hne (by rw [htt,h1,e,v1A])
  ·rcases h1 with h1 | h1
   ·exact hne (by rw [htt,h1,e])
   ·exact h12 (h1.trans e.symm)
 ·exact ⟨t.1,t.2,hadj,fun e=>h1 (.inl e),fun e=>h1 (.inr e)⟩
end
section
variable {C:a0A} (hC:d1A C tab)
include hC
set_option maxHeartbeats 1000000 in
theorem drawn_ok {n:Int} {us:List (Int×Int)} {K} (W:Gw n us) (h0:∀ σ',K .none σ') (h:∀ T σ',Tn n us T→K (tv n T) σ'):C "drawn" [.v (wb n us)] [] K:=by
 refine fnA hC 29 rfl rfl (nx ?_)
 dsimp only [e0C,wb]
 kd_p
 refine ⟨aZ W.n2 (by decide),yW (by decide) W.n1,?_⟩
 rw [g3A]
 refine cp V.int (fun _=>true) (fun _=>lI []) (rI n) (fun i hi=>?_) ?_
 ·kd_p
  exact ⟨fun K hk=>hk,fun _ K hk=>⟨f1A (sQ 0) rfl,hk⟩⟩
 rw [z0Z.mpr (fun _ _=>rfl)]
 refine ⟨sm_m (k:=16) W.nlen rfl,nx ?_⟩
 kd_p
 refine ⟨rfl,rfl,w0C hC W fun g Mt _ G hMl=>?_⟩
 kd_p
 refine fl4 (fun m=>lT (blk us g m)) (fun (o:(Option A×Option A×Option A)×Option A×Option A×Option A) _ _ _=>[("fields", o.1.1),("rounds", o.1.2.1),("point", o.1.2.2),("tie", o.2.1),("links", o.2.2.1),("block", o.2.2.2),("turns", some (.ref 0)),("web", some (.v (wb n us)))]) (fun _ T (gb:List O) _=>.list ((rI n).map fun i=>lI (T i))::gb)
  (fun r _ T _ dn=>dn++r=Mt∧∀ i∈rI n,(T i).Nodup∧∀ x,x∈T i↔te i x∈us∧g (te i x)∈dn) ?_ ?_ Mt ((_,_,_),_,_,_) (fun _=>[]) [] [] ⟨rfl,fun i _=>⟨tW,fun x=>⟨fun h=>(nomatch h),fun h=>nomatch h.2⟩⟩⟩
 ·rintro m r o T gb dn ⟨e,hT⟩ W1 hW1
  have hm:m∈Mt:=by rw [← e];exact gQ _ aQ
  have hnd:=G.nd
  rw [← e] at hnd
  have hmd:m∉dn:=fun hq=>(z3Q.mp hnd).2.2 m hq m aQ rfl
  have hBu:Up (blk us g m):=r1B W
  have hBn:(blk us g m).Nodup:=blk_nd W
  have hBl:(blk us g m).length≤40:=blk_len W
  have hBadj:∀ {i x},adj (blk us g m) i x=true↔te i x∈us∧g (te i x)=m:=blk_adj W
  have hrg:∀ {i x},adj (blk us g m) i x=true→i∈rI n:=fun ha=>(W.adj_rg (W.up.adj.mpr (hBadj.mp ha).1)).1
  have hBB:=blk_blk W G hm
  have hB3:=x0C (m:=m) W G
  have hBne:blk us g m≠[]:=fun e0=>by
   refine bc fun zZ=>?_
   obtain ⟨t,ht,et⟩:=G.of m hm
   refine zZ ?_;clear zZ
   have:=v9A.mpr ⟨ht,et⟩
   rw [e0] at this;cases this
  generalize blk us g m=B at hBu hBn hBl hBadj hrg hBB hB3 hBne ⊢
  kd_p
  refine nx ?_
  kd_p
  refine nx ?_
  kd_p
  refine fl4 tV (fun (q:Option A×Option A) _ _ _=>[("fields", o.1.1),("rounds", o.1.2.1),("point", q.1),("tie", q.2),("links", some (.ref (gb.length+1))),("block", some (.v (lT B))),("turns", some (.ref 0)),("web", some (.v (wb n us)))]) (fun _ kvs _ _=>.list ((rI n).map fun i=>lI (T i))::(gb++[.map kvs]))
   (fun s _ kvs P db=>db++s=B∧Dm Ky.i kvs P (fun x=>lI (row B x))∧(∀ x∈P,∃ y,adj B x y=true)∧∀ t∈db,t.1∈P∧t.2∈P) ?_ ?_ B (_,_) [] [] [] ⟨rfl,Dm.nil,fun _ h=>(nomatch h),fun _ h=>(nomatch h)⟩
  ·intro t s q kvs P db zY0 W2 hW2
   refine bc fun zZ=>?_
   obtain ⟨eb,hD,hP,hc⟩:=zY0
   refine zZ ?_;clear zZ
   have htB:t∈B:=by rw [← eb];exact gQ _ aQ
   have hta:adj B t.1 t.2=true:=p0A.mpr (.inl htB)
   kd_p
   refine nx ?_
   kd_p
   refine fl3 V.int (fun (q:Option A) _ _=>[("fields", o.1.1),("rounds", o.1.2.1),("point", q),("tie", some (.v (tV t))),("links", some (.ref (gb.length+1))),("block", some (.v (lT B))),("turns", some (.ref 0)),("web", some (.v (wb n us)))]) (fun _ kvs _=>.list ((rI n).map fun i=>lI (T i))::(gb++[.map kvs]))
    (fun s _ kvs P=>Dm Ky.i kvs P (fun x=>lI (row B x))∧(∀ x∈P,∃ y,adj B x y=true)∧(∀ x∈s,∃ y,adj B x y=true)∧(∀ t∈db,t.1∈P∧t.2∈P)∧∀ x,x=t.1∨x=t.2→x∈P∨x∈s) ?_ ?_ [t.1,t.2] _ kvs P ⟨hD,hP,fun x hx=>?_,hc,fun x hx=>.inr ?_⟩
   ·intro x s q kvs P zY0 W3 hW3
    refine bc fun zZ=>?_
    obtain ⟨hD,hP,hs,hc,hx⟩:=zY0
    refine zZ ?_;clear zZ
    have hP16:P.length≤16:=dQ (b0A hD.nd fun x hx=>let ⟨y,hy⟩:=hP x hx;hrg hy) W.nlen
    have hnb:(nbL B x).length≤62:=by
     have h1:(nbL B x).length≤(rI n).length:=b0A (a8A hBu hBn x) fun y hy=>hrg (s0A (hBu.adj.mpr ((h2B hBu).mp hy)))
     exact dQ (dQ h1 W.nlen) (by decide)
    kd_p
    refine nx ?_
    kd_p
    refine ⟨rfl,rfl,s4A hC (.inr hnb) (dQ hBl (by decide)) fun _=>?_⟩
    kd_p
    rw [gT1]
    kd_p
    refine gx (hD.putO kfI x _ (dQ hP16 (by decide))) ?_
    rw [sT1]
    refine ⟨rfl,hW3 _ _ _ ⟨(hD.put kfI x (lI (row B x))).of fun z _=>?_,fun z hz=>?_,fun z hz=>hs z (bQ _ hz),fun u hu=>⟨o0A.mpr (.inl (hc u hu).1),o0A.mpr (.inl (hc u hu).2)⟩,fun z hz=>?_⟩⟩
    ·by_cases c:z=x
     ·rw [if_pos c,c]
     ·rw [if_neg c]
    ·rcases o0A.mp hz with hz | hz
     ·exact hP z hz
     ·rw [hz];exact hs x aQ
    ·rcases hx z hz with h | h
     ·exact .inl (o0A.mpr (.inl h))
     ·rcases lQ.mp h with h | h
      ·exact .inl (o0A.mpr (.inr h))
      ·exact .inr h
   ·intro q kvs P zY0
    refine bc fun zZ=>?_
    obtain ⟨hD,hP,_,hc,hx⟩:=zY0
    refine zZ ?_;clear zZ
    kd_p
    refine ⟨rfl,hW2 (_,_) _ P (db++[t]) ⟨by rw [kQ];exact eb,hD,hP,fun u hu=>?_⟩⟩
    rcases iQ.mp hu with hu | hu
    ·exact hc u hu
    ·rw [cQ.mp hu]
     exact ⟨(hx _ (.inl rfl)).resolve_right fun h=>(nomatch h),(hx _ (.inr rfl)).resolve_right fun h=>(nomatch h)⟩
   ·rcases lQ.mp hx with e1 | hx
    ·rw [e1];exact ⟨_,hta⟩
    ·rw [cQ.mp hx];exact ⟨_,s0A hta⟩
   ·rcases hx with e1 | e1
    ·rw [e1];exact aQ
    ·rw [e1];exact bQ _ aQ
  intro q lk P db zY0
  refine bc fun zZ=>?_
  obtain ⟨eb,hD,hP,hc⟩:=zY0
  refine zZ ?_;clear zZ
  rw [z1Q] at eb
  subst eb
  have HL:Lk db lk P:=⟨hD,hBu,hBn,fun x=>⟨hP x,fun ⟨y,hy⟩=>by
   rcases p0A.mp hy with h | h
   ·exact (hc _ h).1
   ·exact (hc _ h).2⟩,dQ (b0A hD.nd fun x hx=>let ⟨y,hy⟩:=hP x hx;hrg hy) W.nlen,hBl,fun x hx=>let ⟨y,hy⟩:=hP x hx;have h:=r0A.mp (hrg hy);⟨h.1,yW h.2 W.n2⟩⟩
  have hP0:P≠[]:=fun e0=>by
   obtain ⟨t,ht⟩:=List.exists_mem_of_ne_nil db hBne
   have:=(hc t ht).1
   rw [e0] at this;cases this
  kd_p
  refine nx ?_
  kd_p
  rw [gT1]
  kd_p
  rw [sT1]
  refine nx ?_
  kd_p
  have fin:∀ (rk:List (Ky×V)) (tn:Int→List Int) (oF:Option A),Dm Ky.i rk P (fun x=>lI (tn x))→(∀ x∈P,(tn x).Perm (row db x))→
    xSs C [.for_ (.one "point") (.x "links") [.setI (.x "turns") (.x "point") (.fz (.concat (.item (.x "turns") (.x "point")) (.item (.x "rounds") (.x "point"))))]]
    [("fields", oF),("rounds", some (.v (dv rk))),("point", q.1),("tie", q.2),("links", some (.v (dv lk))),("block", some (.v (lT db))),("turns", some (.ref 0)),("web", some (.v (wb n us)))] (.list ((rI n).map fun i=>lI (T i))::(gb++[.dead]))
    (lpK (fun σ'=>Stay σ' (.v (.list (Mt.map fun m=>lT (blk us g m)))) none) W1 (kK C [.ret (.frz (.x "turns"))] (retF K))):=by
   intro rk tn oF hr hp
   have hPr:∀ x∈P,x∈rI n:=fun x hx=>let ⟨y,hy⟩:=hP x hx;hrg hy
   have hTl:∀ i∈rI n,(T i).length≤16:=fun i hi=>dQ (b0A (hT i hi).1 fun x hx=>(W.adj_rg (W.up.adj.mpr (((hT i hi).2 x).mp hx).1)).2) W.nlen
   have htl:∀ x∈P,(tn x).length≤16:=fun x hx=>by rw [(hp x hx).length_eq];exact HL.rlen x
   refine nx ?_
   kd_p
   rw [hD.s.itsD]
   refine fl3 V.int (fun (q1:Option A) _ _=>[("fields", oF),("rounds", some (.v (dv rk))),("point", q1),("tie", q.2),("links", some (.v (dv lk))),("block", some (.v (lT db))),("turns", some (.ref 0)),("web", some (.v (wb n us)))]) (fun _ T' _=>.list ((rI n).map fun i=>lI (T' i))::(gb++[.dead]))
    (fun s _ T' dp=>dp++s=P∧∀ i,(i∈dp→T' i=T i++tn i)∧(i∉dp→T' i=T i)) ?_ ?_ P _ T [] ⟨rfl,fun i=>⟨fun h=>(nomatch h),fun _=>rfl⟩⟩
   ·rintro x s q1 T' dp ⟨ep,hT'⟩ W3 hW3
    have hxP:x∈P:=by rw [← ep];exact gQ _ aQ
    have hxr:=r0A.mp (hPr x hxP)
    have hnP:=hD.nd
    rw [← ep] at hnP
    have hxd:x∉dp:=fun hq=>(z3Q.mp hnP).2.2 x hq x aQ rfl
    kd_p
    refine nx ?_
    kd_p
    refine gx (itR hxr.1 hxr.2) (gx (hr.getD kfI hxP) ?_)
    kd_p
    rw [← z0Q,(hT' x).2 hxd]
    refine ⟨sm_m (k:=32) (by rw [fQ];exact Nat.add_le_add (hTl x (hPr x hxP)) (htl x hxP)) rfl,?_⟩
    refine gx (setR hxr.1 hxr.2) ?_
    kd_p
    rw [show ((rI n).map fun k=>if k=x then V.list ((T x++tn x).map V.int) else lI (T' k))=(rI n).map fun k=>lI (if k=x then T x++tn x else T' k) from z4K fun k _=>by
     by_cases c:k=x
     ·rw [if_pos c,if_pos c]
     ·rw [if_neg c,if_neg c]]
    refine ⟨rfl,hW3 _ _ (dp++[x]) ⟨by rw [kQ];exact ep,fun i=>⟨fun hi=>?_,fun hi=>?_⟩⟩⟩
    ·by_cases c:i=x
     ·rw [if_pos c,c]
     ·rw [if_neg c]
      rcases iQ.mp hi with hi | hi
      ·exact (hT' i).1 hi
      ·exact absurd (cQ.mp hi) c
    ·rw [if_neg fun (c:i=x)=>hi (c ▸ gQ _ (cQ.mpr rfl))]
     exact (hT' i).2 fun h=>hi (mQ _ h)
   ·rintro q1 T' dp ⟨ep,hT'⟩
    rw [z1Q] at ep
    subst ep
    kd_p
    refine ⟨rfl,hW1 ((_,_,_),_,_,_) T' (gb++[.dead]) (dn++[m]) ⟨by rw [kQ];exact e,fun i hi=>?_⟩⟩
    have hTi:=hT i hi
    by_cases c:i∈dp
    ·have hm2:∀ x,x∈tn i↔te i x∈us∧g (te i x)=m:=fun x=>by rw [(hp i c).mem_iff,HL.nb,hBadj]
     rw [(hT' i).1 c]
     refine ⟨z3Q.mpr ⟨hTi.1,(hp i c).nodup_iff.mpr (s7A (a8A hBu hBn i)),fun a ha b hb e2=>?_⟩,fun x=>?_⟩
     ·have h1:=((hTi.2 a).mp ha).2
      rw [e2,((hm2 b).mp hb).2] at h1
      exact hmd h1
     ·rw [iQ,hTi.2,hm2,iQ,cQ]
      exact ⟨fun h=>h.elim (fun h=>⟨h.1,.inl h.2⟩) fun h=>⟨h.1,.inr h.2⟩,fun h=>h.2.elim (fun h'=>.inl ⟨h.1,h'⟩) fun h'=>.inr ⟨h.1,h'⟩⟩
    ·rw [(hT' i).2 c]
     refine ⟨hTi.1,fun x=>?_⟩
     rw [hTi.2,iQ,cQ]
     refine ⟨fun h=>⟨h.1,.inl h.2⟩,fun h=>⟨h.1,h.2.resolve_right fun h'=>c ?_⟩⟩
     exact (HL.mem i).mpr ⟨x,hBadj.mpr ⟨h.1,h'⟩⟩
  refine nx ?_
  kd_p
  rw [eQ]
  by_cases hl:1<db.length
  ·refine brT (l9A (rZ.mpr hl)) (nx ?_)
   kd_p
   refine ⟨rfl,rfl,b0C hC HL hBB hP0 (hB3 hl) (fun _=>?_) fun pk pl lv ld fs _ F hful hfl=>?_⟩
   ·kd_p
    refine nx ?_
    kd_p
    refine nx ?_
    kd_p
    exact h0 _
   ·kd_p
    refine nx ?_
    kd_p
    refine nx ?_
    kd_p
    refine ⟨rfl,rfl,q7B hC HL F hful hfl fun rk tn _ hr hp=>?_⟩
    exact fin rk tn _ hr hp
  ·refine brF (n7A (Int.ofNat_le.mpr (z6W.mp hl))) ?_
   exact fin lk (row db) _ hD fun x _=>List.Perm.refl _
 ·rintro o T gb dn ⟨e,hT⟩
  rw [z1Q] at e
  subst e
  kd_p
  refine nx ?_
  kd_p
  refine h T _ ⟨fun i hi=>(List.perm_ext_iff_of_nodup (hT i hi).1 (W.row_nd i)).mpr fun x=>?_⟩
  rw [(hT i hi).2,z0A W.up,W.up.adj]
  exact ⟨fun h=>h.1,fun h=>⟨h,G.to _ h⟩⟩
end
end Fl
namespace Fl
open PySem (Str)
theorem neBB (σ:H) (b:Bool):u0A σ .ne (.v (.bool b)) (.v (.bool b))=some false:=by cases b <;> rfl
theorem neTV (σ:H) (n:Int) (T:Int→List Int):u0A σ .ne (.v (tv n T)) (.v (tv n T))=some false:=by rw [q_ns,eq_tv];rfl
theorem law_ok (ns:List Int) (C:a0A) (hC:d1A C tab):C "law" [.v (.list (ns.map V.int))] [] (fun x _=>x=.bool true):=by
 refine fnA hC 40 rfl rfl (nx ?_)
 dsimp only [f_law]
 kd_p
 refine ⟨rfl,rfl,many_ok hC fun n _ n1 n2=>?_⟩
 kd_p
 refine nx ?_
 kd_p
 refine ⟨rfl,rfl,lties_ok hC n1 n2 fun ts _ G hne hl39=>?_⟩
 kd_p
 refine nx ?_
 kd_p
 refine ⟨rfl,rfl,j6A hC G hne fun T1 _ H1=>?_⟩
 kd_p
 refine nx ?_
 kd_p
 refine ⟨sm_m (k:=40) G.le rfl,new_ok hC ⟨n1,n2⟩ G.le (fun t ht=>⟨r0A.mp (G.rg t ht).1,r0A.mp (G.rg t ht).2,hne t ht⟩) G.w.nd G.w.nbL_len ?_⟩
 kd_p
 refine nx ?_
 kd_p
 refine ⟨rfl,rfl,j4A hC (by decide) fun c _=>?_⟩
 kd_p
 have fin:∀ (T:Int→List Int) (oF:Option A),Tn n (ts.map fun t=>te t.1 t.2) T→
   xSs C [.asg "_law_other" (.call "_law_turns_by" [.x "_law_script", .x "_law_many_here", .x "_law_ties_here"]),
    .ite (.cmp (.call "flat" [.x "_law_web", .fz (.comp (.fz (.copy (.x "_law_turn"))) (.one "_law_turn") (.x "_law_other") [])]) .ne (.call "_law_is_flat" [.x "_law_other", .x "_law_ties_here", .x "_law_many_here"])) [.ret (.c (.bool false))] [],
    .asg "_law_handed" (.fz (.comp (.fz (.copy (.x "_law_turn"))) (.one "_law_turn") (.x "_law_turns") [])),
    .asg "_law_seen" (.call "flat" [.x "_law_web", .x "_law_handed"]),
    .ite (.or [.not (.isi (.x "_law_seen") .bool),.cmp (.x "_law_seen") .ne (.call "_law_is_flat" [.x "_law_turns", .x "_law_ties_here", .x "_law_many_here"]),.cmp (.x "_law_handed") .ne (.x "_law_turns")]) [.ret (.c (.bool false))] [],
    .ret (.call "_law_stays" [.x "_law_web", .x "_law_ties_here", .x "_law_many_here"])]
   [("_law_seen", none),("_law_handed", none),("_law_other", none),("_law_found", oF),("_law_cell", some (iv c)),("_law_web", some (.v (wb n (ts.map fun t=>te t.1 t.2)))),("_law_turns", some (.v (tv n T))),("_law_ties_here", some (.v (lT ts))),("_law_many_here", some (iv n)),("_law_script", some (.v (lI ns)))] [] (retF fun x _=>x=.bool true):=by
  intro T oF H
  have cpy:∀ {T':Int→List Int} {m:Loc} {K:List V→Fl.H→Prop},Tn n (ts.map fun t=>te t.1 t.2) T'→K ((rI n).map fun i=>lI (T' i)) []→
    compLoop (fun m σ K=>K true σ) (fun m σ K=>get (lk m "_law_turn") fun a=>get (seqV σ a) fun xs=>small xs∧K (.v (.list xs)) σ) (.one "_law_turn") (.v (tv n T')) (objA [] (.v (tv n T'))) (m) ((rI n).map fun i=>lI (T' i)) [] [] K:=fun {T' m K} hT hk=>by
   refine cp (fun i=>lI (T' i)) (fun _=>true) (fun i=>lI (T' i)) (rI n) (fun i hi=>?_) ?_
   ·kd_p
    refine ⟨fun K hk=>hk,fun _ K hk=>?_⟩
    refine gx (f5A _ _ _ _ |>.trans (if_pos rfl)) ?_
    kd_p
    exact ⟨sm_m (k:=16) (hT.len G.w hi) rfl,hk⟩
   ·rw [z0Z.mpr (fun _ _=>rfl)]
    exact hk
  refine nx ?_
  kd_p
  refine ⟨rfl,rfl,j6A hC G hne fun T2 _ H2=>?_⟩
  kd_p
  refine nx ?_
  dsimp only [tv]
  kd_p
  refine cpy H2 ⟨sm_m (k:=16) G.w.nlen rfl,rfl,rfl,z9B hC G.w H2 G.labU fun b R _ hR hb=>?_⟩
  kd_p
  refine ⟨rfl,rfl,g8A hC G H2 fun b' F _ hF hb'=>?_⟩
  rw [← h1B G H2 hR hF hb hb']
  kd_p
  refine gx (neBB _ _) (brF rfl (nx ?_))
  kd_p
  refine cpy H ⟨sm_m (k:=16) G.w.nlen rfl,nx ?_⟩
  kd_p
  refine ⟨rfl,rfl,z9B hC G.w H G.labU fun b R _ hR hb=>?_⟩
  kd_p
  refine nx ?_
  kd_p
  refine ⟨rfl,rfl,g8A hC G H fun b' F _ hF hb'=>?_⟩
  rw [← h1B G H hR hF hb hb']
  kd_p
  refine gx (neBB _ _) (br0F rfl (gx (neTV _ _ _) (br0F rfl (nx ?_))))
  kd_p
  exact ⟨rfl,rfl,stays_ok hC G hne fun _=>rfl⟩
 refine nx ?_
 kd_p
 refine ⟨by decide,br (fun _=>nx ?_) fun _=>fin T1 _ H1⟩
 kd_p
 refine ⟨rfl,rfl,drawn_ok hC G.w (fun _=>?_) fun T _ H=>?_⟩
 ·kd_p
  refine nx ?_
  kd_p
  exact fin T1 _ H1
 ·kd_p
  refine nx ?_
  dsimp only [tv]
  kd_p
  refine nx ?_
  kd_p
  refine cp (fun i=>lI (T i)) (fun _=>true) (fun i=>lI (T i)) (rI n) (fun i hi=>?_) ?_
  ·kd_p
   exact ⟨fun K hk=>hk,fun _ K hk=>⟨sm_m (k:=16) (H.len G.w hi) rfl,hk⟩⟩
  rw [z0Z.mpr (fun _ _=>rfl)]
  refine ⟨sm_m (k:=16) G.w.nlen rfl,nx ?_⟩
  kd_p
  refine ⟨by decide,by decide,by decide,br (fun _=>nx ?_) fun _=>fin T _ H⟩
  kd_p
  refine ⟨by decide,by decide,rfl,rfl,m7B hC G.w H fun T' _ H'=>?_⟩
  exact fin T' _ H'
end Fl
namespace Fl
open PySem
structure Bs where
 prog:Program
 w:World
 h0:Heap
 cls:String→Option Addr
 fn:String→Option Addr
 K:List (Addr×Obj)
noncomputable abbrev Zm:=Addr→Option Obj
noncomputable abbrev Led:=List (Addr×Obj)
noncomputable def c0A (items:List Value) (n:Nat):Obj:=⟨.type "list", none,.seq items.toArray n,#[]⟩
noncomputable def h0B (items:List Value) (n:Nat):Obj:=⟨.type "tuple", none,.seq items.toArray n,#[]⟩
noncomputable def e0A (es:List DictEntry) (n:Nat):Obj:=⟨.type "dict", none,.dict es.toArray n,#[]⟩
noncomputable def y5B (C d:Addr):Obj:=⟨.ref C,some d,.plain,#[]⟩
noncomputable def q3B (lo hi st:Int) (t u v:Tok):Obj:=⟨.type "range", none,.fields #[.int lo t,.int hi u,.int st v],#[]⟩
noncomputable def t3A (Z:Zm):Ky→Value→Prop
 | .i n,v=>∃ t,v=.int n t
 | .p a b,v=>∃ l t u n,v=.ref l∧Z l=some (h0B [.int a t,.int b u] n)
noncomputable def t9B (B:Bs):Ky→Int
 | .i n=>(intKind B.prog B.w).hash n
 | .p a b=>(tupleKind (intKind B.prog B.w)).hash [a,b]
noncomputable def KsAt (B:Bs) (Z:Zm):List Ky→List DictEntry→Prop
 | [],es=>es=[]
 | k::ks,es=>∃ e r,es=e::r∧t3A Z k e.key∧e.hash=t9B B k∧KsAt B Z ks r
noncomputable def Ks (B:Bs) (Z:Zm) (ks:List Ky) (es:List DictEntry):Prop:=KsAt B Z ks es∧ks.Nodup∧ks.length<2 ^ 21
mutual
noncomputable def RepV (B:Bs) (Z:Zm):V→Value→Prop
 | .none,v=>v=.none
 | .bool b,v=>v=.bool b
 | .int i,v=>∃ t,v=.int i t
 | .tup xs,v=>∃ a items n,v=.ref a∧Z a=some (h0B items n)∧xs.length<2 ^ 21∧RepL B Z xs items
 | .list xs,v=>∃ a items n,v=.ref a∧Z a=some (c0A items n)∧xs.length<2 ^ 21∧RepL B Z xs items
 | .dict ks vs,v=>∃ a es n,v=.ref a∧Z a=some (e0A es n)∧((a == sysModules)=false∧Ks B Z ks es)∧RepL B Z vs (es.map (·.val))
 | .obj c fs,v=>∃ a C d es n o,v=.ref a∧B.cls c=some C∧Z a=some (y5B C d)∧Z d=some o∧o=e0A es n∧
   (∃ ts:List Tok,es.map (·.key)=List.zipWith (fun x t=>Value.str (Str.ofString x) t) (h0A c) ts∧ts.length=(h0A c).length)∧RepL B Z fs (es.map (·.val))
 | .range lo hi,v=>∃ a t u w,v=.ref a∧Z a=some (q3B lo hi 1 t u w)∧-(2 ^ 20)<lo∧lo<2 ^ 20∧-(2 ^ 20)<hi∧hi<2 ^ 20
noncomputable def RepL (B:Bs) (Z:Zm):List V→List Value→Prop
 | [],vs=>vs=[]
 | x::xs,vs=>∃ v r,vs=v::r∧RepV B Z x v∧RepL B Z xs r
end
theorem n0A (B Z vs):RepL B Z [] vs=(vs=[]):=rfl
theorem m0A (B Z x xs vs):RepL B Z (x::xs) vs=∃ v r,vs=v::r∧RepV B Z x v∧RepL B Z xs r:=rfl
noncomputable def RepA (B:Bs) (Z:Zm) (ρ:List Addr):A→Value→Prop
 | .v x,v=>RepV B Z x v
 | .ref i,v=>∃ a,ρ[i]?=some a∧v=.ref a
 | .inst c i,v=>∃ a C d,v=.ref a∧B.cls c=some C∧ρ[i]?=some d∧Z a=some (y5B C d)
noncomputable def p2A (B:Bs) (Z:Zm) (ρ:List Addr):List A→List Value→Prop
 | [],vs=>vs=[]
 | x::xs,vs=>∃ v r,vs=v::r∧RepA B Z ρ x v∧p2A B Z ρ xs r
theorem a3B (B Z ρ vs):p2A B Z ρ [] vs=(vs=[]):=rfl
theorem z2B (B Z ρ x xs vs):p2A B Z ρ (x::xs) vs=∃ v r,vs=v::r∧RepA B Z ρ x v∧p2A B Z ρ xs r:=rfl
noncomputable def RepO (B:Bs) (Z:Zm):O→Obj→Prop
 | .list xs,o=>∃ items n,o=c0A items n∧xs.length<2 ^ 21∧RepL B Z xs items
 | .map kvs,o=>∃ es,o=e0A es kvs.length∧Ks B Z (kvs.map (·.1)) es∧RepL B Z (kvs.map (·.2)) (es.map (·.val))
 | .bag kvs,o=>∃ es n,o=e0A es n∧Ks B Z (kvs.map (·.1)) es∧RepL B Z (kvs.map (·.2)) (es.map (·.val))
 | .fields fs,o=>∃ es n,o=e0A es n∧
   (∃ ts:List Tok,es.map (·.key)=List.zipWith (fun x t=>Value.str (Str.ofString x) t) (fs.map (·.1)) ts∧ts.length=fs.length)∧RepL B Z (fs.map (·.2)) (es.map (·.val))
 | .dead,_=>True
noncomputable def Ext (Z Z':Zm):Prop:=∀ a o,Z a=some o→Z' a=some o
theorem Ext.refl (Z:Zm):Ext Z Z:=fun _ _ h=>h
theorem Ext.trans {Z Z' Z'':Zm} (h:Ext Z Z') (h':Ext Z' Z''):Ext Z Z'':=fun a o e=>h' a o (h a o e)
theorem t3A.mono {Z Z':Zm} (hz:Ext Z Z'):∀ {k:Ky} {v:Value},t3A Z k v→t3A Z' k v
 | .i _,_,h=>h
 | .p _ _,_,h=>Exists.imp (fun _=>Exists.imp fun _=>Exists.imp fun _=>Exists.imp fun _=>And.imp_right (hz _ _)) h
theorem KsAt.mono {B:Bs} {Z Z':Zm} (hz:Ext Z Z'):∀ {ks:List Ky} {es:List DictEntry},KsAt B Z ks es→KsAt B Z' ks es
 | [],_,h=>h
 | _::_,_,h=>Exists.imp (fun _=>Exists.imp fun _=>And.imp_right (And.imp (t3A.mono hz) (And.imp_right (KsAt.mono hz)))) h
theorem Ks.mono {B:Bs} {Z Z':Zm} (hz:Ext Z Z') {ks:List Ky} {es:List DictEntry} (h:Ks B Z ks es):Ks B Z' ks es:=And.imp_left (KsAt.mono hz) h
mutual
theorem RepV.mono {B:Bs} {Z Z':Zm} (hz:Ext Z Z'):∀ {x:V} {v:Value},RepV B Z x v→RepV B Z' x v
 | .none,_,h=>h
 | .bool _,_,h=>h
 | .int _,_,h=>h
 | .tup xs,_,h=>Exists.imp (fun a=>Exists.imp fun items=>Exists.imp fun n=>And.imp_right (And.imp (hz _ _) (And.imp_right (RepL.mono hz)))) h
 | .list xs,_,h=>Exists.imp (fun a=>Exists.imp fun items=>Exists.imp fun n=>And.imp_right (And.imp (hz _ _) (And.imp_right (RepL.mono hz)))) h
 | .dict ks vs,_,h=>Exists.imp (fun a=>Exists.imp fun es=>Exists.imp fun n=>And.imp_right (And.imp (hz _ _) (And.imp (And.imp_right (Ks.mono hz)) (RepL.mono hz)))) h
 | .obj c fs,_,h=>Exists.imp (fun a=>Exists.imp fun C=>Exists.imp fun d=>Exists.imp fun es=>Exists.imp fun n=>Exists.imp fun o=>And.imp_right (And.imp_right (And.imp (hz _ _) (And.imp (hz _ _) (And.imp_right (And.imp_right (RepL.mono hz))))))) h
 | .range lo hi,_,h=>Exists.imp (fun a=>Exists.imp fun t=>Exists.imp fun u=>Exists.imp fun w=>And.imp_right (And.imp_left (hz _ _))) h
theorem RepL.mono {B:Bs} {Z Z':Zm} (hz:Ext Z Z'):∀ {xs:List V} {vs:List Value},RepL B Z xs vs→RepL B Z' xs vs
 | [],_,h=>h
 | x::xs,_,h=>Exists.imp (fun v=>Exists.imp fun r=>And.imp_right (And.imp (RepV.mono hz) (RepL.mono hz))) h
end
theorem e5A {ρ ρ':List Addr} (h:ρ <+: ρ') {i:Nat} {a:Addr} (e:ρ[i]?=some a):ρ'[i]?=some a:=by
 obtain ⟨t,rfl⟩:=h
 have:=(jQ.mp e).1
 rw [cZ this];exact e
theorem RepA.mono {B:Bs} {Z Z':Zm} {ρ ρ':List Addr} (hz:Ext Z Z') (hr:ρ <+: ρ') {x:A} {v:Value} (h:RepA B Z ρ x v):RepA B Z' ρ' x v:=by
 cases x with
 | v x=>exact RepV.mono hz h
 | ref i=>obtain ⟨a,e,h⟩:=h;exact ⟨a,e5A hr e,h⟩
 | inst c i=>obtain ⟨a,C,d,e,hc,h1,h2⟩:=h;exact ⟨a,C,d,e,hc,e5A hr h1,hz _ _ h2⟩
theorem p2A.mono {B:Bs} {Z Z':Zm} {ρ ρ':List Addr} (hz:Ext Z Z') (hr:ρ <+: ρ'):∀ {xs:List A} {vs:List Value},p2A B Z ρ xs vs→p2A B Z' ρ' xs vs:=by
 intro xs
 induction xs with
 | nil=>intro _ h;exact h
 | cons x xs ih=>intro vs h;exact Exists.imp (fun v=>Exists.imp fun r=>And.imp_right (And.imp (fun h=>h.mono hz hr) ih)) h
theorem RepO.mono {B:Bs} {Z Z':Zm} (hz:Ext Z Z') {x:O} {o:Obj} (h:RepO B Z x o):RepO B Z' x o:=by
 cases x with
 | list xs=>exact Exists.imp (fun _=>Exists.imp fun _=>And.imp_right (And.imp_right (RepL.mono hz))) h
 | map kvs=>exact Exists.imp (fun _=>And.imp_right (And.imp (Ks.mono hz) (RepL.mono hz))) h
 | bag kvs=>exact Exists.imp (fun _=>Exists.imp fun _=>And.imp_right (And.imp (Ks.mono hz) (RepL.mono hz))) h
 | fields fs=>exact Exists.imp (fun _=>Exists.imp fun _=>And.imp_right (And.imp_right (RepL.mono hz))) h
 | dead=>trivial
structure Inv (B:Bs) (Z:Zm) (N:Led) (ρ:List Addr) (σ:H) (h:Heap):Prop where
 base:∀ a o,B.h0.get? a=some o→Z a=some o
 zin:∀ a o,Z a=some o→h.get? a=some o
 led:∀ p∈N,h.get? p.1=some p.2∧Z p.1=none
 len:ρ.length=σ.length
 live:∀ (i:Nat) (a:Addr) (ob:O),ρ[i]?=some a→σ[i]?=some ob→ob≠O.dead→Z a=none∧∃ o,h.get? a=some o∧RepO B Z ob o
 rin:∀ a∈ρ,∃ o,h.get? a=some o
 nd:(N.map (·.1)++ρ).Nodup
namespace Inv
variable {B:Bs} {Z:Zm} {N:Led} {ρ:List Addr} {σ:H} {h:Heap}
theorem keep (I:Inv B Z N ρ σ h):∀ a o,B.h0.get? a=some o→h.get? a=some o:=fun a o e=>I.zin a o (I.base a o e)
theorem led_lt (I:Inv B Z N ρ σ h) {p} (hp:p∈N):p.1<h.objs.size:=iW (I.led p hp).1
theorem z_lt (I:Inv B Z N ρ σ h) {a o} (e:Z a=some o):a<h.objs.size:=iW (I.zin a o e)
theorem rlt (I:Inv B Z N ρ σ h):∀ a∈ρ,a<h.objs.size:=fun a ha=>let ⟨_,e⟩:=I.rin a ha;iW e
theorem push (I:Inv B Z N ρ σ h) (o:Obj) (hf:o.isFreed=false):Inv B Z ((h.objs.size,o)::N) ρ σ (h.push o) where
 base:=I.base
 zin:=fun a o' e=>z7Q _ (I.zin a o' e)
 led:=fun p hp=>by
  rcases lQ.mp hp with rfl | hp
  ·refine ⟨z0W _ hf,?_⟩
   cases hz:Z h.objs.size with
   | none=>rfl
   | some o'=>exact absurd (I.z_lt hz) (wW _)
  ·exact ⟨z7Q _ (I.led p hp).1,(I.led p hp).2⟩
 len:=I.len
 live:=fun i a ob e1 e2 e3=>let ⟨h1,o',h2,h3⟩:=I.live i a ob e1 e2 e3;⟨h1,o',z7Q _ h2,h3⟩
 rin:=fun a ha=>let ⟨o',e⟩:=I.rin a ha;⟨o',z7Q _ e⟩
 nd:=by
  rw [z6Q,z5W,rQ]
  refine ⟨fun hm=>?_,I.nd⟩
  rcases iQ.mp hm with hm | hm
  ·obtain ⟨p,hp,e⟩:=qQ.mp hm
   have:=I.led_lt hp
   rw [e] at this;exact wW _ this
  ·exact wW _ (I.rlt _ hm)
theorem drop {p} (I:Inv B Z (p::N) ρ σ h):Inv B Z N ρ σ h where
 base:=I.base
 zin:=I.zin
 led:=fun q hq=>I.led q (bQ _ hq)
 len:=I.len
 live:=I.live
 rin:=I.rin
 nd:=by have:=I.nd;rw [z6Q,z5W,rQ] at this;exact this.2
theorem sub {N':Led} (I:Inv B Z N ρ σ h) (hs:N'.Sublist N):Inv B Z N' ρ σ h where
 base:=I.base
 zin:=I.zin
 led:=fun q hq=>I.led q (hs.subset hq)
 len:=I.len
 live:=I.live
 rin:=I.rin
 nd:=(List.Sublist.append (hs.map _) (List.Sublist.refl _)).nodup I.nd
theorem perm {N':Led} (I:Inv B Z N ρ σ h) (hs:N'.Perm N):Inv B Z N' ρ σ h where
 base:=I.base
 zin:=I.zin
 led:=fun q hq=>I.led q (hs.mem_iff.mp hq)
 len:=I.len
 live:=I.live
 rin:=I.rin
 nd:=((hs.map (·.1)).append_right ρ).nodup_iff.mpr I.nd
noncomputable def zset (Z:Zm) (a:Addr) (o:Obj):Zm:=fun b=>if b=a then some o else Z b
theorem y3A {a:Addr} {o:Obj} (hz:Z a=none):Ext Z (zset Z a o):=fun b o' e=>by
 unfold zset
 rw [if_neg];· exact e
 rintro rfl;rw [hz] at e;cases e
theorem freeze {a:Addr} {o:Obj} (I:Inv B Z ((a,o)::N) ρ σ h):Inv B (zset Z a o) N ρ σ h where
 base:=fun b o' e=>y3A (I.led _ (aQ)).2 _ _ (I.base b o' e)
 zin:=fun b o' e=>by
  unfold zset at e
  split at e
  ·rename_i q;cases e;rw [q];exact (I.led _ (aQ)).1
  ·exact I.zin b o' e
 led:=fun p hp=>by
  refine ⟨(I.led p (bQ _ hp)).1,?_⟩
  unfold zset
  rw [if_neg]
  ·exact (I.led p (bQ _ hp)).2
  ·intro e
   have:=I.nd
   rw [z6Q,z5W,rQ] at this
   exact this.1 (mQ _ (qQ.mpr ⟨p,hp,e⟩))
 len:=I.len
 live:=fun i b ob e1 e2 e3=>by
  obtain ⟨h1,o',h2,h3⟩:=I.live i b ob e1 e2 e3
  refine ⟨?_,o',h2,h3.mono (y3A (I.led _ (aQ)).2)⟩
  unfold zset
  rw [if_neg]
  ·exact h1
  ·rintro rfl
   have:=I.nd
   rw [z6Q,z5W,rQ] at this
   exact this.1 (gQ _ (wQ e1))
 rin:=I.rin
 nd:=I.drop.nd
theorem freeze_ext {a:Addr} {o:Obj} (I:Inv B Z ((a,o)::N) ρ σ h):Ext Z (zset Z a o):=y3A (I.led _ (aQ)).2
theorem newRef {a:Addr} {o:Obj} {ob:O} (I:Inv B Z ((a,o)::N) ρ σ h) (hr:RepO B Z ob o):Inv B Z N (ρ++[a]) (σ++[ob]) h where
 base:=I.base
 zin:=I.zin
 led:=fun p hp=>I.led p (bQ _ hp)
 len:=by simp [I.len]
 live:=fun i b ob' e1 e2 e3=>by
  by_cases hi:i<ρ.length
  ·rw [cZ hi] at e1
   rw [cZ (by rw [← I.len];exact hi)] at e2
   obtain ⟨h1,o',h2,h3⟩:=I.live i b ob' e1 e2 e3
   exact ⟨h1,o',h2,h3⟩
  ·have hi':i=ρ.length:=by
    have:=(jQ.mp e1).1
    simp at this;lia
   subst hi'
   rw [vW] at e1
   rw [I.len,vW] at e2
   cases e1;cases e2
   exact ⟨(I.led _ (aQ)).2,o,(I.led _ (aQ)).1,hr⟩
 rin:=fun b hb=>by
  rcases iQ.mp hb with hb | hb
  ·exact I.rin b hb
  ·rw [cQ.mp hb];exact ⟨_,(I.led _ (aQ)).1⟩
 nd:=by
  have:=I.nd
  rw [z6Q,z5W] at this
  rw [← kQ]
  exact (List.perm_append_singleton _ _).nodup_iff.mpr this
theorem frz {i:Nat} {a:Addr} {ob:O} {o:Obj} (I:Inv B Z N ρ σ h) (e1:ρ[i]?=some a) (e2:σ[i]?=some ob) (e3:ob≠O.dead) (ho:h.get? a=some o) :
  Inv B (zset Z a o) N ρ (σ.set i .dead) h where
 base:=fun b o' e=>y3A (I.live i a ob e1 e2 e3).1 _ _ (I.base b o' e)
 zin:=fun b o' e=>by
  unfold zset at e
  split at e
  ·rename_i q;cases e;rw [q];exact ho
  ·exact I.zin b o' e
 led:=fun p hp=>by
  refine ⟨(I.led p hp).1,?_⟩
  unfold zset
  rw [if_neg]
  ·exact (I.led p hp).2
  ·intro e
   have:=I.nd
   rw [z3Q] at this
   exact this.2.2 _ (qQ.mpr ⟨p,hp,rfl⟩) _ (wQ e1) e
 len:=by simp [I.len]
 live:=fun j b ob' e1' e2' e3'=>by
  have hij:j≠i:=by
   rintro rfl
   have hlt:j<σ.length:=(jQ.mp e2).1
   rw [bJ hlt] at e2'
   cases e2';exact e3' rfl
  rw [List.getElem?_set_ne (Ne.symm hij)] at e2'
  obtain ⟨h1,o',h2,h3⟩:=I.live j b ob' e1' e2' e3'
  refine ⟨?_,o',h2,h3.mono (y3A (I.live i a ob e1 e2 e3).1)⟩
  unfold zset
  rw [if_neg]
  ·exact h1
  ·rintro rfl
   have:=I.nd
   rw [z3Q] at this
   have hlt:=(jQ.mp e1).1
   exact hij ((z9Z (jQ.mp e1').1 this.2.1).mp (e1'.trans e1.symm))
 rin:=I.rin
 nd:=I.nd
theorem frz_ext {i:Nat} {a:Addr} {ob:O} {o:Obj} (I:Inv B Z N ρ σ h) (e1:ρ[i]?=some a) (e2:σ[i]?=some ob) (e3:ob≠O.dead):Ext Z (zset Z a o):=y3A (I.live i a ob e1 e2 e3).1
theorem updRef {i:Nat} {a:Addr} {ob ob':O} {o:Obj} {h':Heap} (I:Inv B Z N ρ σ h) (e1:ρ[i]?=some a) (e2:σ[i]?=some ob) (e3:ob≠O.dead)
  (hs:Heap.SameBut a h h') (ho:h'.get? a=some o) (hr:RepO B Z ob' o):Inv B Z N ρ (σ.set i ob') h' where
 base:=I.base
 zin:=fun b o' e=>by
  have hne:b≠a:=by rintro rfl;have:=(I.live i b ob e1 e2 e3).1;rw [this] at e;cases e
  rw [hs.2 b hne];exact I.zin b o' e
 led:=fun p hp=>by
  have hne:p.1≠a:=by
   intro e
   have:=I.nd
   rw [z3Q] at this
   exact this.2.2 _ (qQ.mpr ⟨p,hp,rfl⟩) _ (wQ e1) e
  exact ⟨(hs.2 _ hne).trans (I.led p hp).1,(I.led p hp).2⟩
 len:=by simp [I.len]
 live:=fun j b obj e1' e2' e3'=>by
  by_cases hij:j=i
  ·subst hij
   have hlt:j<σ.length:=(jQ.mp e2).1
   rw [bJ hlt] at e2'
   cases e2'
   rw [e1] at e1';cases e1'
   exact ⟨(I.live j a ob e1 e2 e3).1,o,ho,hr⟩
  ·rw [List.getElem?_set_ne (Ne.symm hij)] at e2'
   obtain ⟨h1,o',h2,h3⟩:=I.live j b obj e1' e2' e3'
   have hne:b≠a:=by
    rintro rfl
    have:=I.nd
    rw [z3Q] at this
    exact hij ((z9Z (jQ.mp e1').1 this.2.1).mp (e1'.trans e1.symm))
   exact ⟨h1,o',(hs.2 b hne).trans h2,h3⟩
 rin:=fun b hb=>by
  by_cases hba:b=a
  ·rw [hba];exact ⟨o,ho⟩
  ·obtain ⟨o',e⟩:=I.rin b hb;exact ⟨o',(hs.2 b hba).trans e⟩
 nd:=I.nd
theorem updLed {a:Addr} {o o':Obj} {h':Heap} (I:Inv B Z ((a,o)::N) ρ σ h) (hs:Heap.SameBut a h h') (ho:h'.get? a=some o'):Inv B Z ((a,o')::N) ρ σ h' where
 base:=I.base
 zin:=fun b o'' e=>by
  have hne:b≠a:=by rintro rfl;have:=(I.led _ (aQ)).2;rw [this] at e;cases e
  rw [hs.2 b hne];exact I.zin b o'' e
 led:=fun p hp=>by
  rcases lQ.mp hp with rfl | hp
  ·exact ⟨ho,(I.led _ (aQ)).2⟩
  ·have hne:p.1≠a:=by
    intro e
    have:=I.nd
    rw [z6Q,z5W,rQ] at this
    exact this.1 (mQ _ (qQ.mpr ⟨p,hp,e⟩))
   exact ⟨(hs.2 _ hne).trans (I.led p (bQ _ hp)).1,(I.led p (bQ _ hp)).2⟩
 len:=I.len
 live:=fun j b obj e1' e2' e3'=>by
  obtain ⟨h1,o'',h2,h3⟩:=I.live j b obj e1' e2' e3'
  have hne:b≠a:=by
   rintro rfl
   have:=I.nd
   rw [z6Q,z5W,rQ] at this
   exact this.1 (gQ _ (wQ e1'))
  exact ⟨h1,o'',(hs.2 b hne).trans h2,h3⟩
 rin:=fun b hb=>by
  by_cases hba:b=a
  ·rw [hba];exact ⟨o',ho⟩
  ·obtain ⟨o'',e⟩:=I.rin b hb;exact ⟨o'',(hs.2 b hba).trans e⟩
 nd:=I.nd
theorem keeps {h':Heap} (I:Inv B Z N ρ σ h) (hk:∀ b o,h.get? b=some o→h'.get? b=some o):Inv B Z N ρ σ h' where
 base:=I.base
 zin:=fun a o e=>hk _ _ (I.zin a o e)
 led:=fun p hp=>⟨hk _ _ (I.led p hp).1,(I.led p hp).2⟩
 len:=I.len
 live:=fun i a ob e1 e2 e3=>let ⟨h1,o,h2,h3⟩:=I.live i a ob e1 e2 e3;⟨h1,o,hk _ _ h2,h3⟩
 rin:=fun a ha=>let ⟨o,e⟩:=I.rin a ha;⟨o,hk _ _ e⟩
 nd:=I.nd
theorem keepsNew {h':Heap} {a:Addr} {o:Obj} (I:Inv B Z N ρ σ h) (hk:∀ b o,h.get? b=some o→h'.get? b=some o) (ha:h.objs.size≤a) (ho:h'.get? a=some o):Inv B Z ((a,o)::N) ρ σ h' where
 base:=I.base
 zin:=fun a o e=>hk _ _ (I.zin a o e)
 led:=fun p hp=>by
  rcases lQ.mp hp with rfl | hp
  ·refine ⟨ho,?_⟩
   cases hz:Z a with
   | none=>rfl
   | some o'=>exact absurd (I.z_lt hz) (z6W.mpr ha)
  ·exact ⟨hk _ _ (I.led p hp).1,(I.led p hp).2⟩
 len:=I.len
 live:=fun i a ob e1 e2 e3=>let ⟨h1,o,h2,h3⟩:=I.live i a ob e1 e2 e3;⟨h1,o,hk _ _ h2,h3⟩
 rin:=fun a ha=>let ⟨o,e⟩:=I.rin a ha;⟨o,hk _ _ e⟩
 nd:=by
  rw [z6Q,z5W,rQ]
  refine ⟨fun hm=>?_,I.nd⟩
  rcases iQ.mp hm with hm | hm
  ·obtain ⟨p,hp,e⟩:=qQ.mp hm
   have:=I.led_lt hp
   rw [e] at this;exact absurd this (z6W.mpr ha)
  ·exact absurd (I.rlt _ hm) (z6W.mpr ha)
end Inv
end Fl
namespace Fl
open PySem
theorem i5B {i:Nat} {is:List Nat} (h:apart (i::is)=true):i∉is∧apart is=true:=by
 have h:(!is.contains i && apart is)=true:=h
 refine an2 h fun h1 h2=>?_
 refine ⟨fun hm=>?_,h2⟩
 rw [iK.mpr hm] at h1;exact nomatch h1
theorem f5B:∀ (is:List Nat) (σ os:H),(back is σ os).length=σ.length
 | [],_,_=>rfl
 | _::is,σ,os=>(f5B is _ _).trans List.length_set
theorem b1C:∀ {is:List Nat} {σ os:H},apart is=true→(∀ i∈is,i<σ.length)→is.length≤os.length→∀ j:Nat,(∀ k:Nat,is[k]?=some j→(back is σ os)[j]?=os[k]?)∧(j∉is→(back is σ os)[j]?=σ[j]?)
 | [],_,_,_,_,_,_=>⟨fun _ h=>nons h,fun _=>rfl⟩
 | i::is,σ,[],_,_,hl,_=>absurd hl (Nat.not_succ_le_zero _)
 | i::is,σ,o::os,ha,hb,hl,j=>by
  obtain ⟨h1,h2⟩:=i5B ha
  have ih:=b1C (is:=is) (σ:=σ.set i o) (os:=os) h2 (fun i hi=>by rw [List.length_set];exact hb i (bQ _ hi)) (Nat.le_of_succ_le_succ hl) j
  rw [back_1]
  refine ⟨fun k hk=>?_,fun hj=>?_⟩
  ·cases k with
   | zero=>
    cases hk
    rw [ih.2 h1,bJ (hb i aQ)];rfl
   | succ k=>exact ih.1 k hk
  ·have hne:i≠j:=fun e=>hj (e ▸ aQ)
   rw [ih.2 fun h=>hj (bQ _ h),List.getElem?_set_ne hne]
theorem b8B {σ:H}:∀ {is:List Nat} {σl:H},pick σ is=some σl→σl.length=is.length∧∀ k i:Nat,is[k]?=some i→∃ o,σ[i]?=some o∧σl[k]?=some o∧o≠.dead
 | [],σl,h=>by cases h;exact ⟨rfl,fun _ _ h=>nons h⟩
 | i::is,σl,h=>by
  rw [pick_1] at h
  obtain ⟨o,ho,h⟩:=Option.bind_eq_some_iff.mp h
  cases hd:h9B o with
  | true=>rw [hd] at h;exact nons h
  | false=>
   rw [hd] at h
   obtain ⟨r,hr,rfl⟩:=xQ.mp h
   obtain ⟨h1,h2⟩:=b8B hr
   refine ⟨congrArg (·+1) h1,fun k j hk=>?_⟩
   cases k with
   | zero=>cases hk;exact ⟨o,ho,rfl,fun e=>by rw [e] at hd;exact nomatch hd⟩
   | succ k=>exact h2 k j hk
theorem f9A {α:Type} {l:List α} {a:α} (h:a∈l):∃ k:Nat,l[k]?=some a:=List.mem_iff_getElem?.mp h
noncomputable def o6A (h:Heap) (l:List Addr):Led:=l.filterMap fun a=>(h.get? a).map fun o=>(a,o)
theorem y7A {h:Heap}:∀ {l:List Addr},(∀ a∈l,∃ o,h.get? a=some o)→(o6A h l).map (·.1)=l
 | [],_=>rfl
 | a::l,hl=>by
  obtain ⟨o,ho⟩:=hl a aQ
  unfold o6A
  rw [qK,ho]
  exact congrArg (a::·) (y7A fun b hb=>hl b (bQ _ hb))
theorem s5B {h:Heap} {l:List Addr} {p:Addr×Obj} (hp:p∈o6A h l):p.1∈l∧h.get? p.1=some p.2:=by
 obtain ⟨a,ha,e⟩:=List.mem_filterMap.mp hp
 obtain ⟨o,ho,rfl⟩:=xQ.mp e
 exact ⟨ha,ho⟩
theorem q0B {h:Heap} {l:List Addr} {a:Addr} {o:Obj} (ha:a∈l) (ho:h.get? a=some o):(a,o)∈o6A h l:=
 List.mem_filterMap.mpr ⟨a,ha,by rw [ho];rfl⟩
section
variable {B:Bs} {Z:Zm} {N:Led} {ρ:List Addr} {σ:H} {h:Heap}
open Classical in
theorem Inv.lend (I:Inv B Z N ρ σ h) {is:List Nat} {σl:H} (ha:apart is=true) (hp:pick σ is=some σl):∃ (Nr:Led) (ρl:List Addr),ρl.length=is.length∧(∀ k i:Nat,is[k]?=some i→ρl[k]?=ρ[i]?)∧Inv B Z (Nr++N) ρl σl h∧
  ∀ Z' ρ' σ' h',Ext Z Z'→ρl <+: ρ'→Inv B Z' (Nr++N) ρ' σ' h'→Inv B Z' N ρ (back is σ σ') h':=by
 obtain ⟨hl,hat⟩:=b8B hp
 have hlt:∀ i∈is,i<σ.length:=fun i hi=>by
  obtain ⟨k,hk⟩:=f9A hi
  obtain ⟨o,ho,_⟩:=hat k i hk
  exact (jQ.mp ho).1
 have hnd:=z3Q.mp I.nd
 let ρl:=is.map fun i=>ρ.getD i 0
 have hρl:∀ k i:Nat,is[k]?=some i→ρl[k]?=ρ[i]?:=fun k i hk=>by
  have hi:=hlt i (wQ hk)
  rw [← I.len] at hi
  rw [oQ,hk,nQ hi]
  show some (ρ.getD i 0)=_
  rw [List.getD,nQ hi];rfl
 have hsub:∀ a∈ρl,a∈ρ:=fun a hm=>by
  obtain ⟨k,hk⟩:=f9A hm
  have hk':k<is.length:=by rw [← eQ (f:=fun i=>ρ.getD i 0)];exact (jQ.mp hk).1
  rw [hρl k is[k] (nQ hk')] at hk
  exact wQ hk
 have hin:∀ {i j:Nat} {a:Addr},ρ[i]?=some a→ρ[j]?=some a→i=j:=fun {i j a} h1 h2=>(z9Z (jQ.mp h1).1 hnd.2.1).mp (h1.trans h2.symm)
 have hρnd:ρl.Nodup:=by
  have key:∀ {js:List Nat},apart js=true→(∀ i∈js,i<ρ.length)→(js.map fun i=>ρ.getD i 0).Nodup:=by
   intro js
   induction js with
   | nil=>exact fun _ _=>tW
   | cons i js ih=>
    intro h1 h2
    obtain ⟨h3,h4⟩:=i5B h1
    refine rQ.mpr ⟨fun hm=>?_,ih h4 fun j hj=>h2 j (bQ _ hj)⟩
    obtain ⟨j,hj,e⟩:=qQ.mp hm
    have g:∀ i,i<ρ.length→ρ[i]?=some (ρ.getD i 0):=fun i hi=>by rw [List.getD,nQ hi];rfl
    have e1:=g j (h2 j (bQ _ hj))
    rw [e] at e1
    exact h3 (hin (g i (h2 i aQ)) e1 ▸ hj)
  exact key ha fun i hi=>by rw [I.len];exact hlt i hi
 let Lr:=ρ.filter fun a=>decide (a∉ρl∧Z a=none)
 have hLr:∀ a∈Lr,a∈ρ∧a∉ρl∧Z a=none:=fun a hm=>by
  obtain ⟨h1,h2⟩:=tZ.mp hm
  exact ⟨h1,of_decide_eq_true h2⟩
 have hmp:(o6A h Lr).map (·.1)=Lr:=y7A fun a hm=>I.rin a (hLr a hm).1
 refine ⟨o6A h Lr,ρl,eQ _,hρl,⟨I.base,I.zin,fun p hpm=>?_,?_,fun k a ob e1 e2 e3=>?_,fun a hm=>I.rin a (hsub a hm),?_⟩,fun Z' ρ' σ' h' hz hr I'=>?_⟩
 ·rcases iQ.mp hpm with hm | hm
  ·obtain ⟨h1,h2⟩:=s5B hm
   exact ⟨h2,(hLr _ h1).2.2⟩
  ·exact I.led p hm
 ·rw [hl];exact eQ _
 ·have hk:k<is.length:=by rw [← hl];exact (jQ.mp e2).1
  have hik:=nQ hk
  obtain ⟨o,ho,ho',_⟩:=hat k _ hik
  rw [ho'] at e2;cases e2
  rw [hρl k _ hik] at e1
  exact I.live _ a ob e1 ho e3
 ·rw [z0Q,hmp,kQ,z3Q]
  refine ⟨(List.filter_sublist).nodup hnd.2.1,z3Q.mpr ⟨hnd.1,hρnd,fun a h1 b h2=>hnd.2.2 a h1 b (hsub b h2)⟩,fun a h1 b h2 e=>?_⟩
  subst e
  rcases iQ.mp h2 with h2 | h2
  ·exact hnd.2.2 a h2 a (hLr a h1).1 rfl
  ·exact (hLr a h1).2.1 h2
 ·have hl':is.length≤σ'.length:=by
   rw [← I'.len,← eQ (f:=fun i=>ρ.getD i 0)]
   exact hr.length_le
  have hba:=b1C (σ:=σ) (os:=σ') ha hlt hl'
  have hother:∀ j (a:Addr),ρ[j]?=some a→j∉is→a∉ρl:=fun j a e hj hm=>by
   obtain ⟨k,hk⟩:=f9A hm
   have hk':k<is.length:=by rw [← eQ (f:=fun i=>ρ.getD i 0)];exact (jQ.mp hk).1
   have hik:=nQ hk'
   rw [hρl k _ hik] at hk
   exact hj (hin hk e ▸ List.getElem_mem hk')
  refine ⟨I'.base,I'.zin,fun p hpm=>I'.led p (gQ _ hpm),?_,fun j a ob e1 e2 e3=>?_,fun a hm=>?_,I.nd⟩
  ·rw [f5B];exact I.len
  ·by_cases hj:j∈is
   ·obtain ⟨k,hk⟩:=f9A hj
    rw [(hba j).1 k hk] at e2
    exact I'.live k a ob (e5A hr ((hρl k j hk).trans e1)) e2 e3
   ·rw [(hba j).2 hj] at e2
    obtain ⟨h1,o,h2,h3⟩:=I.live j a ob e1 e2 e3
    have hm:(a,o)∈o6A h Lr:=q0B (tZ.mpr ⟨wQ e1,decide_eq_true ⟨hother j a e1 hj,h1⟩⟩) h2
    obtain ⟨h4,h5⟩:=I'.led _ (mQ _ hm)
    exact ⟨h5,o,h4,h3.mono hz⟩
  ·cases hza:Z a with
   | some o=>exact ⟨o,I'.zin _ _ (hz _ _ hza)⟩
   | none=>
    by_cases hm':a∈ρl
    ·obtain ⟨t,rfl⟩:=hr
     exact I'.rin a (mQ _ hm')
    ·obtain ⟨o,ho⟩:=I.rin a hm
     exact ⟨o,(I'.led _ (mQ _ (q0B (tZ.mpr ⟨hm,decide_eq_true ⟨hm',hza⟩⟩) ho))).1⟩
theorem e2B {ρl:List Addr}:∀ {as:List A} {vs:List Value} (k:Nat),p2A B Z ρ as vs→w3B as=true→(∀ j i:Nat,(lent as)[j]?=some i→ρl[k+j]?=ρ[i]?)→p2A B Z ρl (s7B k as) vs:=by
 intro as
 induction as with
 | nil=>intro _ _ h _ _;exact h
 | cons a as ih=>
  intro vs k h hn hl
  obtain ⟨v,r,e,h1,h2⟩:=h
  cases a with
  | v x=>exact ⟨v,r,e,h1,ih k h2 hn hl⟩
  | ref i=>
   obtain ⟨a,h1,h1'⟩:=h1
   exact ⟨v,r,e,⟨a,(hl 0 i rfl).trans h1,h1'⟩,ih (k+1) h2 hn fun j i' hj=>by rw [z3Z,bZ 1 j];exact hl (j+1) i' hj⟩
  | inst _ _=>exact nomatch hn
end
end Fl
namespace Fl
open PySem PyProof.Rows
noncomputable def NameHeld (env:Env) (N:Led) (x:Str) (v:Value):Prop:=
 (env.kindOf x=some .local∧∃ o es ep,(env.locals,o)∈N∧o.data=.dict es ep∧StrKeys es∧nsFind es x=some v)∨
 ((env.kindOf x=some .cell∨env.kindOf x=some .free)∧∃ c o,env.cells.lookup x=some c∧(c,o)∈N∧o.data=.cell (some v))
noncomputable def ownK:Option NameKind→Bool
 | some .local=>true
 | some .cell=>true
 | some .free=>true
 | _=>false
noncomputable def ownN (env:Env) (x:String):Bool:=ownK (env.kindOf (Str.ofString x)) && x != ".0"
structure Frm (B:Bs) (env:Env) (Z:Zm) (ρ:List Addr) (m:Loc) (N:Led):Prop where
 kind:env.scope.kind=.function
 glob:env.globals=mainGlobals
 blt:env.builtins=builtinsNs
 rd:∀ x a,lk m x=some a→ownN env x=true→∃ v,RepA B Z ρ a v∧NameHeld env N (Str.ofString x) v
 loc:∃ o es ep,(env.locals,o)∈N∧o.data=.dict es ep∧StrKeys es
 cel:∀ x c,env.cells.lookup x=some c→∃ o v,(c,o)∈N∧o.data=.cell v
 cok:∀ x,env.kindOf x=some .cell∨env.kindOf x=some .free→∃ c,env.cells.lookup x=some c
 cinj:∀ x y c,env.cells.lookup x=some c→env.cells.lookup y=some c→x=y
theorem Frm.mono {B:Bs} {env:Env} {Z Z':Zm} {ρ ρ':List Addr} {m:Loc} {N:Led} (F:Frm B env Z ρ m N) (hz:Ext Z Z') (hr:ρ <+: ρ'):Frm B env Z' ρ' m N:=
 { F with rd:=fun x a h hk=>let ⟨v,h1,h2⟩:=F.rd x a h hk;⟨v,h1.mono hz hr,h2⟩ }
noncomputable def z5A (B:Bs) (x:Str) (v:Value):Prop:=
 ∃ mg mb,B.h0.Ns mainGlobals mg∧B.h0.Ns builtinsNs mb∧(mg x=some v∨(mg x=none∧mb x=some v))
noncomputable def Room (A:Around) (r:Nat):Prop:=A.handled=none∧A.depth+4 * r+4≤900∧A.units+30 * r+233≤cLine
noncomputable def Post (B:Bs) (Z:Zm) (N:Led) (ρ:List Addr) (s:Shared) (K:A→H→Prop) (Q:Value→Shared→Prop):Prop:=
 ∀ a v Z' ρ' σ' h' tk,K a σ'→Ext Z Z'→ρ <+: ρ'→Inv B Z' N ρ' σ' h'→RepA B Z' ρ' a v→Q v { s with heap:=h',toks:=tk }
theorem Post.go {B:Bs} {Z Z':Zm} {N:Led} {ρ ρ':List Addr} {s:Shared} {K:A→H→Prop} {Q:Value→Shared→Prop} (P:Post B Z N ρ s K Q) (hz:Ext Z Z') (hr:ρ <+: ρ') (h':Heap) (tk:Nat) :
  Post B Z' N ρ' { s with heap:=h',toks:=tk } K Q:=
 fun a v Z'' ρ'' σ'' h'' tk' hk hz' hr' I R=>P a v Z'' ρ'' σ'' h'' tk' hk (hz.trans hz') (hr.trans hr') I R
noncomputable def EOk (B:Bs) (C:a0A) (Ar:Around) (env:Env) (ir:E) (e:Expr):Prop:=
 ∀ (Z:Zm) (N:Led) (ρ:List Addr) (σ:H) (m:Loc) (s:Shared) (K:A→H→Prop) (Q:Value→Shared→Prop) (F:Value→Shared→Prop),
  Inv B Z N ρ σ s.heap→Frm B env Z ρ m N→xE C ir m σ K→Post B Z N ρ s K Q→wpAny (model B.prog B.w) Ar (eval e env) Q F s
section
variable {B:Bs} {C:a0A} {Ar:Around} {env:Env} {F:Value→Shared→Prop}
theorem u8B {Z N ρ σ m} {s:Shared} {x:String} {a:A} {pos:Pos} {Q:Value→Shared→Prop} (I:Inv B Z N ρ σ s.heap) (Fr:Frm B env Z ρ m N) (hm:lk m x=some a)
  (hd:(Str.ofString x == ("__debug__" : Str))=false) (hc:(Str.ofString x == ("__classdict__" : Str))=false) (hw:ownN env x=true)
  (h:∀ v,RepA B Z ρ a v→Q v s):wpAny (model B.prog B.w) Ar (eval (.Name (Str.ofString x) pos) env) Q F s:=by
 obtain ⟨v,hr,hh⟩:=Fr.rd x a hm hw
 refine wpAny_Name ?_ hd
 rcases hh with ⟨hk,o,es,ep,hN,hD,hS,hF⟩ | ⟨hk,c,o,hl,hN,hD⟩
 ·exact wpAny_loadName_local Fr.kind hk ⟨o,es,ep,(I.led _ hN).1,hD,hS,fun _=>rfl⟩ hF (h v hr)
 ·rcases hk with hk | hk
  ·exact wpAny_loadName_cell Fr.kind hk hl ⟨o,(I.led _ hN).1,hD⟩ (h v hr)
  ·exact wpAny_loadName_free Fr.kind hk hl ⟨o,(I.led _ hN).1,hD⟩ (h v hr) hc
theorem n3A {Z N ρ σ m} {s:Shared} {x:Str} {v:Value} {pos:Pos} {Q:Value→Shared→Prop} (I:Inv B Z N ρ σ s.heap) (Fr:Frm B env Z ρ m N) (hg:z5A B x v)
  (hk:env.kindOf x=some .globalImplicit) (hd:(x == ("__debug__" : Str))=false)
  (h:Q v s):wpAny (model B.prog B.w) Ar (eval (.Name x pos) env) Q F s:=by
 refine bc fun zZ=>?_
 obtain ⟨mg,mb,h1,h2,h3⟩:=hg
 refine zZ ?_;clear zZ
 refine wpAny_Name ?_ hd
 rw [loadName_read Fr.kind hk]
 unfold loadGlobal
 rw [Fr.glob,Fr.blt]
 refine wpAny_bind (wpAny_nsGet (h1.keeps I.keep) ?_)
 rcases h3 with h3 | ⟨h3,h4⟩
 ·rw [h3];exact wpAny_pure h
 ·rw [h3]
  refine wpAny_bind (wpAny_nsGet (h2.keeps I.keep) ?_)
  rw [h4];exact wpAny_pure h
theorem eok_x {x:String} {pos:Pos} (hd:(Str.ofString x == ("__debug__" : Str))=false) (hc:(Str.ofString x == ("__classdict__" : Str))=false) (hw:ownN env x=true) :
  EOk B C Ar env (.x x) (.Name (Str.ofString x) pos):=by
 intro Z N ρ σ m s K Q F I Fr hx P
 rw [xE_x] at hx
 cases hm:lk m x with
 | none=>rw [hm] at hx;exact hx.elim
 | some a=>
  rw [hm] at hx
  exact u8B I Fr hm hd hc hw fun v hr=>P a v Z ρ σ _ _ hx (Ext.refl _) (eW _) I hr
theorem eok_int {i:Int} {k pos}:EOk B C Ar env (.c (.int i)) (.Constant (.int i) k pos):=by
 intro Z N ρ σ m s K Q F I Fr hx P
 exact wpAny_Constant_int (P (.v (.int i)) _ Z ρ σ _ _ hx (Ext.refl _) (eW _) I ⟨_,rfl⟩)
theorem u5B {x y:Int} (h:y.natAbs<2 ^ 40):Builtin.divisionGoesByPylong x y=false:=by
 refine PyProof.noPylong_of_log2 ?_
 by_cases h0:y.natAbs=0
 ·rw [h0];decide +kernel
 ·have h30:y.natAbs.log2<40:=(Nat.log2_lt h0).mpr h
  lia
theorem h6B {a:Int} (h:a.natAbs<2 ^ 40):Builtin.Int.intBits a≤64:=by
 unfold Builtin.Int.intBits
 split
 ·lia
 ·rename_i h0
  have hn:a.natAbs≠0:=by
   intro e;apply h0;simp;lia
  have h30:a.natAbs.log2<40:=(Nat.log2_lt hn).mpr h
  lia
theorem bin_ok {op:Op} {o:Operator} {a b:A} {va vb:Value} {Z N ρ σ} {s:Shared} {Kv:V→Prop} {Q:Value→Shared→Prop}
  (ho:o=(match op with | .add=>.Add | .sub=>.Sub | .mul=>.Mult | .fdiv=>.FloorDiv | .mod=>.Mod))
  (I:Inv B Z N ρ σ s.heap) (ha:RepA B Z ρ a va) (hb:RepA B Z ρ b vb) (h:v5A op a b Kv)
  (hQ:∀ x v tk,Kv x→RepV B Z x v→Q v { s with toks:=tk }):wpAny (model B.prog B.w) Ar (binaryOp o va vb) Q F s:=by
 subst ho
 refine getE h fun i hi h=>?_
 refine getE h fun j hj h=>?_
 rw [e3A hi] at ha
 rw [e3A hj] at hb
 obtain ⟨t,rfl⟩:=ha
 obtain ⟨u,rfl⟩:=hb
 cases op with
 | add=>exact add_int (hQ _ _ _ h ⟨_,rfl⟩)
 | sub=>exact sub_int (hQ _ _ _ h ⟨_,rfl⟩)
 | mul=>exact mul_int (hQ _ _ _ h.2.2 ⟨_,rfl⟩) (.of_left (h6B h.1))
 | fdiv=>exact floordiv_int h.1 (hQ _ _ _ h.2.2 ⟨_,rfl⟩) (.inl (u5B h.2.1))
 | mod=>exact mod_int' h.1 (hQ _ _ _ h.2 ⟨_,rfl⟩)
theorem eok_bin {op:Op} {o:Operator} {a b:E} {l r:Expr} {pos:Pos} (ho:o=(match op with | .add=>.Add | .sub=>.Sub | .mul=>.Mult | .fdiv=>.FloorDiv | .mod=>.Mod))
  (ha:EOk B C Ar env a l) (hb:EOk B C Ar env b r):EOk B C Ar env (.bin op a b) (.BinOp l o r pos):=by
 intro Z N ρ σ m s K Q F I Fr hx P
 rw [xE_bin] at hx
 refine wpAny_BinOp (ha Z N ρ σ m s _ _ F I Fr hx ?_)
 intro va v Z1 ρ1 σ1 h1 t1 hx1 e1 p1 I1 R1
 refine hb Z1 N ρ1 σ1 m _ _ _ F I1 (Fr.mono e1 p1) hx1 ?_
 intro vb w Z2 ρ2 σ2 h2 t2 hx2 e2 p2 I2 R2
 refine bin_ok ho I2 (R1.mono e2 p2) R2 hx2 ?_
 intro x v' tk hk hr
 exact P _ _ _ _ _ _ _ hk (e1.trans e2) (p1.trans p2) I2 hr
end
end Fl
namespace Fl
open PySem PyProof.Rows
mutual
noncomputable def toP:V→PyData
 | .none=>.none
 | .bool b=>.bool b
 | .int i=>.int i
 | .tup xs=>.tuple (toPs xs)
 | .list xs=>.list (toPs xs)
 | _=>.none
noncomputable def toPs:List V→List PyData
 | []=>[]
 | x::xs=>toP x::toPs xs
end
theorem j0B:toPs []=[]:=rfl
theorem i0B (x xs):toPs (x::xs)=toP x::toPs xs:=rfl
theorem s2A {B:Bs} {Z:Zm} {h:Heap} {P:V→Bool} (ih:∀ (x:V) (v:Value),P x=true→RepV B Z x v→∃ as,Reads h v (toP x) as) :
  ∀ (xs:List V) (vs:List Value),xs.all P=true→RepL B Z xs vs→∃ as,ReadsAll h vs (toPs xs) as
 | [],vs,_,hr=>by simp only [n0A,m0A] at hr;subst hr;rw [j0B];exact ⟨_,.nil⟩
 | x::xs,vs,ho,hr=>by
  simp only [n0A,m0A] at hr
  refine bc fun zZ=>?_
  obtain ⟨v,r,rfl,h1,h2⟩:=hr
  refine zZ ?_;clear zZ
  simp only [z7Z,z4Q] at ho
  refine bc fun zZ=>?_
  obtain ⟨as,ha⟩:=ih x v ho.1 h1
  obtain ⟨bs,hb⟩:=s2A ih xs r ho.2 h2
  refine zZ ?_;clear zZ
  rw [i0B];exact ⟨_,.cons ha hb⟩
inductive EqK (P:V→Bool):V→Prop
 | none:EqK P .none
 | bool (b):EqK P (.bool b)
 | int (i):EqK P (.int i)
 | tup (xs):xs.all P=true→EqK P (.tup xs)
 | list (xs):xs.all P=true→EqK P (.list xs)
theorem noB {P:Prop} (h:false=true):P:=nomatch h
theorem w4B {P:V→Bool} {x:V} (h:m4B x=true):EqK P x:=by
 cases x with
 | none=>exact .none
 | bool b=>exact .bool b
 | int i=>exact .int i
 | _=>exact noB h
noncomputable def dn:Nat→V→Bool
 | 0=>fun _=>false
 | n+1=>f3A n
theorem p8A {n:Nat} {x:V} (h:f3A n x=true):EqK (dn n) x:=by
 cases n with
 | zero=>exact w4B h
 | succ n=>
  cases x with
  | tup xs=>exact .tup xs h
  | list xs=>exact .list xs h
  | _=>exact w4B h
theorem p3B {B:Bs} {Z:Zm} {h:Heap} (hz:∀ a o,Z a=some o→h.get? a=some o) {P:V→Bool} (ih:∀ (x:V) (v:Value),P x=true→RepV B Z x v→∃ as,Reads h v (toP x) as) {x:V} {v:Value} (e:EqK P x) (hr:RepV B Z x v):∃ as,Reads h v (toP x) as:=by
 cases e with
 | none=>obtain rfl:=hr;exact ⟨_,.none⟩
 | bool b=>obtain rfl:=hr;exact ⟨_,.bool b⟩
 | int i=>obtain ⟨t,rfl⟩:=hr;exact ⟨_,.int i t⟩
 | tup xs ho=>
  refine bc fun zZ=>?_
  obtain ⟨a,items,k,rfl,hza,_,hl⟩:=hr
  obtain ⟨as,ha⟩:=s2A ih xs items ho hl
  refine zZ ?_;clear zZ
  exact ⟨_,.tuple (hz _ _ hza) rfl rfl ha⟩
 | list xs ho=>
  refine bc fun zZ=>?_
  obtain ⟨a,items,k,rfl,hza,_,hl⟩:=hr
  obtain ⟨as,ha⟩:=s2A ih xs items ho hl
  refine zZ ?_;clear zZ
  exact ⟨_,.list (hz _ _ hza) rfl rfl ha⟩
theorem h3A {B:Bs} {Z:Zm} {h:Heap} (hz:∀ a o,Z a=some o→h.get? a=some o):∀ (n:Nat) (x:V) (v:Value),f3A n x=true→RepV B Z x v→∃ as,Reads h v (toP x) as:=by
 intro n
 induction n with
 | zero=>exact fun x v ho hr=>p3B hz (fun _ _ e=>noB e) (p8A ho) hr
 | succ n ih=>exact fun x v ho hr=>p3B hz ih (p8A ho) hr
theorem layL {n:Nat} (ih:∀ (x:V),f3A n x=true→(toP x).canLay0=true∧(toP x).depth≤n) :
  ∀ (xs:List V),xs.all (f3A n)=true→PyData.canLayAll0 (toPs xs)=true∧PyData.depthAll (toPs xs)≤n
 | [],_=>by simp [j0B,i0B,PyData.canLayAll0,PyData.depthAll]
 | x::xs,ho=>by
  simp only [z7Z,z4Q] at ho
  have h1:=ih x ho.1
  have h2:=layL ih xs ho.2
  simp only [j0B,i0B,PyData.canLayAll0,PyData.depthAll,h1.1,h2.1]
  exact ⟨rfl,by lia⟩
theorem lay:∀ (n:Nat) (x:V),f3A n x=true→(toP x).canLay0=true∧(toP x).depth≤n:=by
 have fl:∀ (n:Nat) (x:V),m4B x=true→(toP x).canLay0=true∧(toP x).depth≤n:=by
  intro n x h
  cases x with
  | none=>exact ⟨rfl,sQ _⟩
  | bool b=>exact ⟨rfl,sQ _⟩
  | int i=>exact ⟨rfl,sQ _⟩
  | _=>exact noB h
 intro n
 induction n with
 | zero=>intro x ho;exact fl 0 x ho
 | succ n ih=>
  intro x ho
  cases x with
  | tup xs=>
   have:=layL ih xs ho
   exact ⟨this.1,tQ this.2⟩
  | list xs=>
   have:=layL ih xs ho
   exact ⟨this.1,tQ this.2⟩
  | _=>exact fl _ _ ho
theorem eqvL {P P':V→Bool} (ih:∀ (x y:V),P x=true→P' y=true→PyData.eqv (toP x) (toP y)=peq x y) :
  ∀ (xs ys:List V),xs.all P=true→ys.all P'=true→PyData.eqvAll (toPs xs) (toPs ys)=peqL xs ys
 | [],[],_,_=>rfl
 | [],_::_,_,_=>rfl
 | _::_,[],_,_=>rfl
 | x::xs,y::ys,h1,h2=>by
  simp only [z7Z,z4Q] at h1 h2
  show (PyData.eqv (toP x) (toP y) && PyData.eqvAll (toPs xs) (toPs ys))=(peq x y && peqL xs ys)
  rw [ih x y h1.1 h2.1,eqvL ih xs ys h1.2 h2.2]
theorem e1A {a b:String} (h:Str.ofString a=Str.ofString b):a=b:=by
 rw [Str.ofString_eq_toList,Str.ofString_eq_toList] at h
 have h1:(a.toList.map Char.toNat).toArray=(b.toList.map Char.toNat).toArray:=by injection h
 have h2:a.toList.map Char.toNat=b.toList.map Char.toNat:=by simpa using h1
 have h3:a.toList=b.toList:=by
  have inj:∀ (x y:List Char),x.map Char.toNat=y.map Char.toNat→x=y:=by
   intro x
   induction x with
   | nil=>intro y h;cases y <;> simp at h ⊢
   | cons c cs ih=>
    intro y h
    cases y with
    | nil=>simp at h
    | cons d ds=>
     simp only [z6Q,zK] at h
     have:c=d:=by
      have h1:=h.1
      unfold Char.toNat at h1
      exact Char.ext (UInt32.toNat_inj.mp h1)
     rw [this,ih ds h.2]
  exact inj _ _ h2
 exact String.toList_inj.mp h3
theorem eqv_st {P P':V→Bool} (ih:∀ (x y:V),P x=true→P' y=true→PyData.eqv (toP x) (toP y)=peq x y) {x y:V} (e1:EqK P x) (e2:EqK P' y):PyData.eqv (toP x) (toP y)=peq x y:=by
 cases e1 with
 | none=>cases e2 <;> rfl
 | bool b=>cases e2 <;> first | rfl | (cases b <;> rfl) | (next c=>cases b <;> cases c <;> rfl)
 | int i=>cases e2 <;> first | rfl | (next c=>cases c <;> rfl)
 | tup xs h1=>cases e2 <;> first | rfl | exact eqvL ih _ _ h1 (by assumption)
 | list xs h1=>cases e2 <;> first | rfl | exact eqvL ih _ _ h1 (by assumption)
theorem h0C:∀ (n k:Nat) (x y:V),f3A n x=true→f3A k y=true→PyData.eqv (toP x) (toP y)=peq x y:=by
 intro n
 induction n with
 | zero=>exact fun k x y h1 h2=>eqv_st (fun _ _ e=>noB e) (p8A h1) (p8A h2)
 | succ n ih=>
  intro k x y h1 h2
  refine eqv_st (fun x y a b=>?_) (p8A h1) (p8A h2)
  cases k with
  | zero=>exact noB b
  | succ k=>exact ih k x y a b
end Fl
namespace Fl
open PySem PyProof.Rows
theorem f0A {B:Bs} {Z:Zm}:∀ {xs:List V} {vs:List Value},RepL B Z xs vs→vs.length=xs.length
 | [],vs,h=>by simp only [n0A,m0A] at h;subst h;rfl
 | x::xs,vs,h=>by
  simp only [n0A,m0A] at h
  obtain ⟨v,r,rfl,_,h2⟩:=h
  simp [f0A h2]
theorem a1A {B:Bs} {Z:Zm}:∀ {xs:List V} {vs:List Value} {j:Nat} {x:V},RepL B Z xs vs→xs[j]?=some x→∃ v,vs[j]?=some v∧RepV B Z x v
 | [],vs,j,x,h,e=>by simp at e
 | y::xs,vs,j,x,h,e=>by
  simp only [n0A,m0A] at h
  refine bc fun zZ=>?_
  obtain ⟨v,r,rfl,h1,h2⟩:=h
  refine zZ ?_;clear zZ
  cases j with
  | zero=>simp at e;subst e;exact ⟨v,rfl,h1⟩
  | succ j=>simp only [List.getElem?_cons_succ] at e ⊢;exact a1A h2 e
theorem p0B {B:Bs} {Z:Zm} {ρ:List Addr}:∀ {xs:List A} {vs:List Value},p2A B Z ρ xs vs→vs.length=xs.length
 | [],vs,h=>by simp only [a3B,z2B] at h;subst h;rfl
 | x::xs,vs,h=>by obtain ⟨v,r,rfl,_,h2⟩:=h;simp [p0B h2]
theorem g2B {B:Bs} {Z:Zm} {N:Led} {ρ:List Addr} {σ:H} {h:Heap} {k:Nat} {l:Addr} {xs:List V} (I:Inv B Z N ρ σ h) (e:ρ[k]?=some l) (hi:(σ[k]?).bind oL=some xs):∃ vals n,h.get? l=some (c0A vals n)∧xs.length<2 ^ 21∧RepL B Z xs vals:=by
 refine binE hi fun ob hx hi=>?_
 rw [oL_of hi] at hx
 refine bc fun zZ=>?_
 obtain ⟨_,o,hg,vals,n,rfl,r⟩:=I.live k l _ e hx (fun e=>nomatch e)
 refine zZ ?_;clear zZ
 exact ⟨vals,n,hg,r⟩
theorem g1A {B:Bs} {Z:Zm}:∀ {xs ys:List V} {vs ws:List Value},RepL B Z xs vs→RepL B Z ys ws→RepL B Z (xs++ys) (vs++ws)
 | [],ys,vs,ws,h,h'=>by simp only [n0A,m0A] at h;subst h;exact h'
 | x::xs,ys,vs,ws,h,h'=>by
  simp only [n0A,m0A] at h
  obtain ⟨v,r,rfl,h1,h2⟩:=h
  simp only [z5W,n0A,m0A]
  exact ⟨v,r++ws,rfl,h1,g1A h2 h'⟩
theorem s1A {B:Bs} {Z:Zm}:RepL B Z [] []:=by simp [n0A,m0A]
theorem x0A {B:Bs} {Z:Zm} {x:V} {xs:List V} {v:Value} {vs:List Value} (h:RepV B Z x v) (h':RepL B Z xs vs):RepL B Z (x::xs) (v::vs):=by
 simp only [n0A,m0A];exact ⟨v,vs,rfl,h,h'⟩
theorem n4A {B:Bs} {Z:Zm} {x:V} {v:Value} (h:RepV B Z x v):RepL B Z [x] [v]:=x0A h s1A
theorem m4A {B:Bs} {Z:Zm}:∀ {xs:List V} {vs:List Value} (n:Nat),RepL B Z xs vs→RepL B Z (xs.take n) (vs.take n)
 | [],vs,n,h=>by simp only [n0A,m0A] at h;subst h;simp [n0A,m0A]
 | x::xs,vs,0,h=>by simp [n0A,m0A]
 | x::xs,vs,n+1,h=>by
  simp only [n0A,m0A] at h
  refine bc fun zZ=>?_
  obtain ⟨v,r,rfl,h1,h2⟩:=h
  refine zZ ?_;clear zZ
  exact x0A h1 (m4A n h2)
theorem o4A {B:Bs} {Z:Zm}:∀ {xs:List V} {vs:List Value} (n:Nat),RepL B Z xs vs→RepL B Z (xs.drop n) (vs.drop n)
 | [],vs,n,h=>by simp only [n0A,m0A] at h;subst h;simp [n0A,m0A]
 | x::xs,vs,0,h=>h
 | x::xs,vs,n+1,h=>by
  simp only [n0A,m0A] at h
  refine bc fun zZ=>?_
  obtain ⟨v,r,rfl,h1,h2⟩:=h
  refine zZ ?_;clear zZ
  exact o4A n h2
theorem n3B {B:Bs} {Z:Zm}:∀ {xs:List V} {vs:List Value},RepL B Z xs vs→RepL B Z xs.reverse vs.reverse
 | [],vs,h=>by simp only [n0A,m0A] at h;subst h;simp [n0A,m0A]
 | x::xs,vs,h=>by
  simp only [n0A,m0A] at h
  obtain ⟨v,r,rfl,h1,h2⟩:=h
  simp only [List.reverse_cons]
  exact g1A (n3B h2) (n4A h1)
theorem a9A {B:Bs} {Z:Zm} {y:V} {w:Value} (hy:RepV B Z y w):∀ {xs:List V} {vs:List Value} (n:Nat),RepL B Z xs vs→RepL B Z (xs.set n y) (vs.set n w)
 | [],vs,n,h=>by simp only [n0A,m0A] at h;subst h;simp [n0A,m0A]
 | x::xs,vs,0,h=>by
  simp only [n0A,m0A] at h
  refine bc fun zZ=>?_
  obtain ⟨v,r,rfl,h1,h2⟩:=h
  refine zZ ?_;clear zZ
  exact x0A hy h2
 | x::xs,vs,n+1,h=>by
  simp only [n0A,m0A] at h
  refine bc fun zZ=>?_
  obtain ⟨v,r,rfl,h1,h2⟩:=h
  refine zZ ?_;clear zZ
  exact x0A h1 (a9A hy n h2)
theorem o3B {B:Bs} {Z:Zm} {xs:List V} {vs:List Value}:RepL B Z xs vs↔vs.length=xs.length∧∀ (j:Nat) (x:V),xs[j]?=some x→∃ v,vs[j]?=some v∧RepV B Z x v:=by
 constructor
 ·exact fun h=>⟨f0A h,fun j x e=>a1A h e⟩
 ·intro ⟨hl,hg⟩
  induction xs generalizing vs with
  | nil=>simp at hl;subst hl;exact s1A
  | cons x xs ih=>
   cases vs with
   | nil=>simp at hl
   | cons v vs=>
    obtain ⟨v',e,h⟩:=hg 0 x rfl
    simp at e;subst e
    refine x0A h (ih (by simpa using hl) fun j y e=>?_)
    simpa using hg (j+1) y (by simpa using e)
section
variable {B:Bs} {C:a0A} {Ar:Around} {env:Env} {F:Value→Shared→Prop} {Z:Zm} {N:Led} {ρ:List Addr} {σ:H}
theorem b1A {h:Heap} {a:A} {v:Value} {xs:List V} (I:Inv B Z N ρ σ h) (R:RepA B Z ρ a v) (hl:y0A σ a=some xs) :
  ∃ l items n,v=.ref l∧h.get? l=some (c0A items n)∧xs.length<2 ^ 21∧RepL B Z xs items:=by
 rcases listV_of hl with rfl | ⟨i,rfl,hx⟩
 ·refine bc fun zZ=>?_
  obtain ⟨l,items,n,rfl,hz,hs,hr⟩:=R
  refine zZ ?_;clear zZ
  exact ⟨l,items,n,rfl,I.zin _ _ hz,hs,hr⟩
 ·refine bc fun zZ=>?_
  obtain ⟨l,e,rfl⟩:=R
  obtain ⟨_,o,ho,items,n,rfl,hs,hr⟩:=I.live i l _ e hx (fun e=>nomatch e)
  refine zZ ?_;clear zZ
  exact ⟨l,items,n,rfl,ho,hs,hr⟩
theorem i0A {h:Heap} {l:Addr} {items:List Value} {n:Nat} (e:h.get? l=some (c0A items n)):h.IsList l items.toArray:=⟨_,e,rfl,n,rfl⟩
theorem v7A {h:Heap} {k:Nat} {l:Addr} {items:List Value} {n:Nat} {xs:List V} (hz:∀ a o,Z a=some o→h.get? a=some o) (e:h.get? l=some (c0A items n)) (hr:RepL B Z xs items) (ho:xs.all (f3A k)=true) :
  ∃ as,Reads h (.ref l) (.list (toPs xs)) as:=by
 obtain ⟨as,ha⟩:=s2A (fun x v=>h3A hz k x v) xs items ho hr
 exact ⟨_,.list e rfl rfl (by simpa using ha)⟩
theorem p4A {h:Heap} {a:A} {v:Value} {x:V} (I:Inv B Z N ρ σ h) (R:RepA B Z ρ a v) (hv:v1B σ a=some x) (ho:eqOk x=true):∃ as,Reads h v (toP x) as:=by
 cases a with
 | v y=>obtain rfl:=pQ hv;exact h3A I.zin 8 _ _ ho R
 | ref i=>
  obtain ⟨l,e,rfl⟩:=R
  obtain ⟨xs,hx,rfl⟩:=xQ.mp hv
  obtain ⟨items,n,hg,_,hr⟩:=g2B I e hx
  exact v7A (k:=7) I.zin hg hr ho
 | inst _ _=>exact nons hv
theorem k7A {n k:Nat} {x:V} (hx:f3A k x=true):∀ {xs:List V},xs.all (f3A n)=true→(toPs xs).any (fun y=>PyData.eqv y (toP x))=xs.any (fun y=>peq y x)
 | [],_=>by simp [j0B,i0B]
 | y::ys,h=>by
  simp only [z7Z,z4Q] at h
  simp only [j0B,i0B,List.any_cons,h0C n k y x h.1 hx,k7A hx h.2]
theorem y1B {h:Heap} {i:Nat} {l:Addr} {ob:O} (hs:∃ o,B.h0.get? sysModules=some o) (I:Inv B Z N ρ σ h) (e:ρ[i]?=some l) (e2:σ[i]?=some ob) (e3:ob≠.dead):(l == sysModules)=false:=by
 cases hq:l == sysModules with
 | false=>rfl
 | true=>
  obtain ⟨o,ho⟩:=hs
  have h1:=(I.live i l ob e e2 e3).1
  rw [beq_iff_eq.mp hq] at h1
  rw [I.base _ _ ho] at h1;cases h1
end
end Fl
namespace Fl
open PySem PyProof.Rows
section
variable {B:Bs} {Z:Zm}
theorem k2A:∀ {ks:List Ky} {es:List DictEntry},KsAt B Z ks es→es.length=ks.length
 | [],_,h=>by rw [show _=[] from h];rfl
 | _::_,_,⟨_,_,e,_,_,h⟩=>by rw [e];exact congrArg (·+1) (k2A h)
theorem ksAt_get {k:Ky}:∀ {ks:List Ky} {es:List DictEntry} {j:Nat},KsAt B Z ks es→ks[j]?=some k→∃ e,es[j]?=some e∧t3A Z k e.key:=by
 intro ks
 induction ks with
 | nil=>intro es j _ h;exact nons h
 | cons k' ks ih=>
  intro es j h hj
  refine bc fun zZ=>?_
  obtain ⟨e,r,he,h1,_,h2⟩:=h
  refine zZ ?_;clear zZ
  rw [he]
  cases j with
  | zero=>cases hj;exact ⟨e,rfl,h1⟩
  | succ j=>have:=ih h2 hj;exact this
theorem d4B {k:Ky} {v w:Value} (hk:t3A Z k v):∀ {ks:List Ky} {es:List DictEntry},KsAt B Z ks es→KsAt B Z (ks++[k]) (es++[⟨t9B B k,v,w⟩])
 | [],_,h=>by rw [show _=[] from h];exact ⟨_,_,rfl,hk,rfl,rfl⟩
 | _::_,_,⟨e,r,he,h1,h2,h⟩=>by rw [he];exact ⟨e,_,rfl,h1,h2,d4B hk h⟩
theorem f8A:∀ {ks:List Ky} {es:List DictEntry} (j:Nat),KsAt B Z ks es→KsAt B Z (ks.eraseIdx j) (es.eraseIdx j)
 | [],_,_,h=>by rw [show _=[] from h];rfl
 | _::_,_,0,⟨_,_,he,_,_,h⟩=>by rw [he];exact h
 | _::_,_,j+1,⟨e,_,he,h1,h2,h⟩=>by rw [he];exact ⟨e,_,rfl,h1,h2,f8A j h⟩
theorem c4B (w:Value):∀ {ks:List Ky} {es:List DictEntry} (j:Nat),KsAt B Z ks es→KsAt B Z ks (es.modify j fun e=>{ e with val:=w })
 | [],_,_,h=>by rw [show _=[] from h,List.modify_nil];rfl
 | _::_,_,0,⟨e,r,he,h1,h2,h⟩=>by rw [he];exact ⟨{ e with val:=w },r,rfl,h1,h2,h⟩
 | _::_,_,j+1,⟨e,_,he,h1,h2,h⟩=>by rw [he];exact ⟨e,_,rfl,h1,h2,c4B w j h⟩
theorem n6B (w:Value):∀ (es:List DictEntry) (j:Nat),(es.modify j fun e=>{ e with val:=w }).map (·.val)=(es.map (·.val)).set j w
 | [],j=>by rw [List.modify_nil];rfl
 | _::_,0=>rfl
 | e::es,j+1=>congrArg (e.val::·) (n6B w es j)
theorem b6A {k:Ky} {v:Value} (h:RepV B Z k.toV v):t3A Z k v:=by
 cases k with
 | i n=>exact h
 | p a b=>
  refine bc fun zZ=>?_
  obtain ⟨l,items,n,rfl,hz,_,v1,r,rfl,⟨t,rfl⟩,v2,r2,rfl,⟨u,rfl⟩,hr⟩:=h
  refine zZ ?_;clear zZ
  rw [show r2=[] from hr] at hz
  exact ⟨l,t,u,n,rfl,hz⟩
theorem x0B {k:Ky} {v:Value} (h:t3A Z k v):RepV B Z k.toV v:=by
 cases k with
 | i n=>exact h
 | p a b=>
  obtain ⟨l,t,u,n,rfl,hz⟩:=h
  exact ⟨l,_,n,rfl,hz,(show (2:Nat)<2 ^ 21 by decide),x0A ⟨t,rfl⟩ (n4A ⟨u,rfl⟩)⟩
theorem b4B:∀ {ks:List Ky} {es:List DictEntry},KsAt B Z ks es→RepL B Z (ks.map Ky.toV) (es.map (·.key))
 | [],_,h=>by rw [show _=[] from h];exact s1A
 | _::_,_,⟨_,_,he,h1,_,h⟩=>by rw [he];exact x0A (x0B h1) (b4B h)
theorem z0B (k:Int) (t:Tok):(intKind B.prog B.w).is k (.int k t)=true:=by simp [intKind,Value.isInt]
noncomputable def unI:Ky→Int
 | .i n=>n
 | .p _ _=>0
theorem x8B:∀ {ks:List Ky} {es:List DictEntry},KsAt B Z ks es→(∀ k∈ks,kInt k=true)→∃ iw:List (Int×Value),KeysOf (intKind B.prog B.w) es.toArray∧Pairs (intKind B.prog B.w) es iw∧iw.map (·.1)=ks.map unI:=by
 intro ks
 induction ks with
 | nil=>intro es h _;rw [show es=[] from h];exact ⟨[],fun e he=>absurd he (Array.not_mem_empty e),.nil,rfl⟩
 | cons k ks ih=>
  intro es h hk
  cases k with
  | p _ _=>exact nomatch hk _ aQ
  | i n=>
  refine bc fun zZ=>?_
  obtain ⟨e,r,he,⟨t,h1⟩,h2,h⟩:=h
  obtain ⟨iw,h3,h4,h5⟩:=ih h fun k hm=>hk k (bQ _ hm)
  refine zZ ?_;clear zZ
  have hi:(intKind B.prog B.w).is n e.key=true:=by rw [h1];exact z0B n t
  refine ⟨(n,e.val)::iw,?_,by rw [he];exact .cons hi rfl h4,congrArg (n::·) h5⟩
  intro x hx
  rw [he,List.mem_toArray] at hx
  rcases lQ.mp hx with rfl | hx
  ·exact ⟨n,hi,h2⟩
  ·exact h3 x (List.mem_toArray.mpr hx)
theorem p6B {ks:List Ky} (hk:∀ k∈ks,kInt k=true) (h:ks.Nodup):(ks.map unI).Nodup:=by
 induction ks with
 | nil=>exact tW
 | cons k ks ih=>
  obtain ⟨h1,h2⟩:=rQ.mp h
  refine rQ.mpr ⟨fun hm=>?_,ih (fun k hm=>hk k (bQ _ hm)) h2⟩
  obtain ⟨q,hq,e⟩:=qQ.mp hm
  have e1:=hk k aQ
  have e2:=hk q (bQ _ hq)
  cases k with
  | p _ _=>exact nomatch e1
  | i a=>
   cases q with
   | p _ _=>exact nomatch e2
   | i b=>
    have e:b=a:=e
    exact h1 (e ▸ hq)
theorem d9A {h:Heap} {i j:Int} {t u:Tok} {a:Addr} {n:Nat} (hg:h.get? a=some (h0B [.int i t,.int j u] n)):IsTupleKey (intKind B.prog B.w) h [i,j] a:=
 ⟨_,_,n,hg,rfl,rfl,.cons (z0B i t) (.cons (z0B j u) .nil)⟩
noncomputable def unP:Ky→List Int
 | .i _=>[]
 | .p a b=>[a,b]
theorem unP_eq {a b:Int} {k:Ky} (h:unP k=[a,b]):k=.p a b:=by
 cases k with
 | i n=>exact nomatch h
 | p c d=>
  injection h with h1 h2
  injection h2 with h2 _
  rw [h1,h2]
theorem ks_pairs {h:Heap} (hz:∀ a o,Z a=some o→h.get? a=some o):∀ {ks:List Ky} {es:List DictEntry},KsAt B Z ks es→(∀ k∈ks,kInt k=false)→∃ xs:List (List Int×Addr×Value),es=xs.map (entryOfKey (tupleKind (intKind B.prog B.w)))∧(∀ x∈xs,IsTupleKey (intKind B.prog B.w) h x.1 x.2.1)∧xs.map (·.1)=ks.map unP:=by
 intro ks
 induction ks with
 | nil=>intro es h _;rw [show es=[] from h];exact ⟨[],rfl,fun _ h=>(nomatch h),rfl⟩
 | cons k ks ih=>
  intro es h hk
  cases k with
  | i _=>exact nomatch hk _ aQ
  | p a b=>
  refine bc fun zZ=>?_
  obtain ⟨e,r,he,⟨l,t,u,n,h1,hl⟩,h2,h⟩:=h
  obtain ⟨xs,h3,h4,h5⟩:=ih h fun k hm=>hk k (bQ _ hm)
  refine zZ ?_;clear zZ
  refine ⟨([a,b],l,e.val)::xs,?_,fun x hx=>?_,congrArg ([a,b]::·) h5⟩
  ·rw [he,h3]
   refine bc fun zZ=>?_
   obtain ⟨eh,ek,ev⟩:=e
   refine zZ ?_;clear zZ
   simp only at h1 h2
   rw [h1,h2];rfl
  ·rcases lQ.mp hx with rfl | hx
   ·exact d9A (hz _ _ hl)
   ·exact h4 x hx
theorem unP_nd {ks:List Ky} (hk:∀ k∈ks,kInt k=false) (h:ks.Nodup):(ks.map unP).Nodup:=by
 induction ks with
 | nil=>exact tW
 | cons k ks ih=>
  obtain ⟨h1,h2⟩:=rQ.mp h
  refine rQ.mpr ⟨fun hm=>?_,ih (fun k hm=>hk k (bQ _ hm)) h2⟩
  obtain ⟨q,hq,e⟩:=qQ.mp hm
  have e1:=hk k aQ
  cases k with
  | i _=>exact nomatch e1
  | p a b=>exact h1 (unP_eq (show unP q=[a,b] from e) ▸ hq)
variable {Ar:Around} {F:Value→Shared→Prop} {s:Shared} {k:Ky} {v:Value} {d:Addr} {es:List DictEntry} {ep:Nat} {kvs:List (Ky×V)}
theorem q2B {Q:Int→Shared→Prop} (hu:Ar.units<cLine) (hz:∀ a o,Z a=some o→s.heap.get? a=some o) (hk:t3A Z k v) (h:∀ tk,Q (t9B B k) { s with toks:=tk }):wpAny (model B.prog B.w) Ar (pyHash v) Q F s:=by
 cases k with
 | i n=>
  obtain ⟨t,rfl⟩:=hk
  exact (intKind B.prog B.w).pyHash (z0B n t) (h _)
 | p a b=>
  obtain ⟨l,t,u,n,rfl,hl⟩:=hk
  exact (tupleKind (intKind B.prog B.w)).pyHash (k:=[a,b]) hu (d9A (hz _ _ hl)) (h _)
theorem fit_at (h:kFit kvs k=true):∀ q∈kvs.map (·.1),kInt q=kInt k:=fun q hq=>by
 obtain ⟨x,hx,rfl⟩:=qQ.mp hq
 exact eq_of_beq (z2Q.mp h x hx)
theorem h9A:kix kvs k=none↔k∉kvs.map (·.1):=by
 unfold kix
 rw [gK]
 constructor
 ·intro h hm
  obtain ⟨q,hq,e⟩:=qQ.mp hm
  have:=h q hq
  rw [e,decide_eq_true rfl] at this;exact nomatch this
 ·exact fun h q hq=>decide_eq_false fun e=>h (e ▸ zW hq)
theorem t4A {j:Nat} (h:kix kvs k=some j):∃ y,kvs[j]?=some (k,y):=by
 obtain ⟨hl,h1,_⟩:=List.findIdx?_eq_some_iff_getElem.mp h
 have:kvs[j].1=k:=of_decide_eq_true h1
 exact ⟨kvs[j].2,by rw [nQ hl,← this]⟩
theorem kix_eq {j:Nat} {y:V} (hn:(kvs.map (·.1)).Nodup) (h:kvs[j]?=some (k,y)):kix kvs k=some j:=by
 cases hx:kix kvs k with
 | none=>exact absurd (qQ.mpr ⟨_,wQ h,rfl⟩) (h9A.mp hx)
 | some i=>
  obtain ⟨y',h'⟩:=t4A hx
  have e1:(kvs.map (·.1))[i]?=some k:=by rw [oQ,h'];rfl
  have e2:(kvs.map (·.1))[j]?=some k:=by rw [oQ,h];rfl
  rw [(z9Z (jQ.mp e1).1 hn).mp (e1.trans e2.symm)]
theorem t2B {Q:Option Nat→Shared→Prop} (hu:Ar.units<cLine) (hz:∀ a o,Z a=some o→s.heap.get? a=some o) (hg:s.heap.get? d=some (e0A es ep)) (hK:Ks B Z (kvs.map (·.1)) es) (hf:kFit kvs k=true) (hk:t3A Z k v)
  (h:Q (kix kvs k) s):wpAny (model B.prog B.w) Ar (dictFind d v (t9B B k)) Q F s:=by
 refine bc fun zZ=>?_
 obtain ⟨h1,h2,_⟩:=hK
 refine zZ ?_;clear zZ
 have hft:=fit_at hf
 cases k with
 | i n=>
  refine bc fun zZ=>?_
  obtain ⟨t,rfl⟩:=hk
  obtain ⟨iw,h3,h4,h5⟩:=x8B h1 hft
  refine zZ ?_;clear zZ
  refine wpAny_dictFind_of (knd:=intKind B.prog B.w) (k:=n) (z0B n t) hg rfl h3 ?_
  have e:(es.toArray.findIdx? fun e=>(intKind B.prog B.w).is n e.key)=kix kvs (.i n):=by
   rw [List.findIdx?_toArray,h4.findIdx]
   cases hx:kix kvs (.i n) with
   | none=>
    rw [gK]
    intro q hq
    refine decide_eq_false fun e=>h9A.mp hx ?_
    have:n∈(kvs.map (·.1)).map unI:=by rw [← h5,← e];exact zW hq
    refine bc fun zZ=>?_
    obtain ⟨y,hy,e'⟩:=qQ.mp this
    refine zZ ?_;clear zZ
    have hy':=hft y hy
    cases y with
    | i m=>
     have e2:m=n:=e'
     rw [e2] at hy;exact hy
    | p _ _=>exact nomatch hy'
   | some j=>
    obtain ⟨y,hj⟩:=t4A hx
    have hi:(iw.map (·.1))[j]?=some n:=by rw [h5,oQ,oQ,hj];rfl
    have hnd:(iw.map (·.1)).Nodup:=by rw [h5];exact p6B hft h2
    refine bc fun zZ=>?_
    obtain ⟨q,hq,e⟩:=xQ.mp (oQ ▸ hi)
    refine zZ ?_;clear zZ
    cases hy:iw.findIdx? fun kv=>decide (kv.1=n) with
    | none=>
     have:=gK.mp hy q (wQ hq)
     rw [e,decide_eq_true rfl] at this;exact nomatch this
    | some i=>
     refine bc fun zZ=>?_
     obtain ⟨hl,h6,_⟩:=List.findIdx?_eq_some_iff_getElem.mp hy
     refine zZ ?_;clear zZ
     have h7:(iw.map (·.1))[i]?=some n:=by rw [oQ,nQ hl];exact congrArg some (of_decide_eq_true h6)
     rw [(z9Z (jQ.mp h7).1 hnd).mp (h7.trans hi.symm)]
  rw [e];exact h
 | p a b=>
  refine bc fun zZ=>?_
  obtain ⟨l,t,u,n,rfl,hl⟩:=hk
  obtain ⟨xs,h3,h4,h5⟩:=ks_pairs hz h1 hft
  refine zZ ?_;clear zZ
  have hnd:(xs.map (·.1)).Nodup:=by rw [h5];exact unP_nd hft h2
  have at':∀ (j:Nat) (p:Addr×Value),xs[j]?=some ([a,b],p)→kix kvs (.p a b)=some j:=fun j p hj=>by
   have e1:((kvs.map (·.1)).map unP)[j]?=some [a,b]:=by rw [← h5,oQ,hj];rfl
   rw [oQ,oQ] at e1
   refine bc fun zZ=>?_
   obtain ⟨q,hq,e⟩:=xQ.mp e1
   obtain ⟨x,hx,rfl⟩:=xQ.mp hq
   refine zZ ?_;clear zZ
   exact kix_eq h2 (y:=x.2) (by rw [hx,← unP_eq e])
  refine wpAny_dictFind_heap (knd:=tupleKind (intKind B.prog B.w)) (k:=[a,b]) hu (d9A (hz _ _ hl)) hg rfl (by rw [List.toList_toArray];exact h3) h4 hnd (fun hno=>?_) fun j p hj=>?_
  ·cases hx:kix kvs (.p a b) with
   | none=>rw [hx] at h;exact h
   | some j=>
    obtain ⟨y,hj⟩:=t4A hx
    have hi:(xs.map (·.1))[j]?=some [a,b]:=by rw [h5,oQ,oQ,hj];rfl
    rw [oQ] at hi
    refine bc fun zZ=>?_
    obtain ⟨q,hq,e⟩:=xQ.mp hi
    refine zZ ?_;clear zZ
    exact absurd (by rw [hq,← e]) (hno j q.2)
  ·rw [← at' j p hj];exact h
theorem get_ok {Q:Option Value→Shared→Prop} (hu:Ar.units<cLine) (hz:∀ a o,Z a=some o→s.heap.get? a=some o) (hg:s.heap.get? d=some (e0A es ep)) (hK:Ks B Z (kvs.map (·.1)) es) (hf:kFit kvs k=true) (hk:t3A Z k v)
  (h:∀ tk,Q ((kix kvs k).bind fun j=>(es[j]?).map (·.val)) { s with toks:=tk }):wpAny (model B.prog B.w) Ar (dictGet d v) Q F s:=by
 unfold dictGet
 try with_reducible refine wpAny_holding ?_
 refine wpAny_bind (q2B hu hz hk fun tk=>wpAny_bind (t2B (s:={ s with toks:=tk }) hu hz hg hK hf hk ?_))
 have h:=h tk
 cases hx:kix kvs k with
 | none=>rw [hx] at h;exact wpAny_pure h
 | some j=>
  rw [hx] at h
  refine wpAny_bind (wpAny_dictEntries (s:={ s with toks:=tk }) hg rfl (wpAny_pure ?_))
  rw [eJ];exact h
end
end Fl
namespace Fl
open PySem PyProof.Rows
section
variable {B:Bs} {Z:Zm} {A:Around} {E:Value→Shared→Prop} {s:Shared} {k:Ky} {v:Value} {d:Addr} {es:List DictEntry} {ep:Nat} {kvs:List (Ky×V)}
theorem ks_val {j:Nat} {y:V} (hK:Ks B Z (kvs.map (·.1)) es) (hV:RepL B Z (kvs.map (·.2)) (es.map (·.val))) (hj:kvs[j]?=some (k,y)):∃ e,es[j]?=some e∧RepV B Z y e.val:=by
 refine bc fun zZ=>?_
 obtain ⟨w,hw,hr⟩:=a1A (j:=j) (x:=y) hV (by rw [oQ,hj];rfl)
 refine zZ ?_;clear zZ
 rw [oQ] at hw
 refine bc fun zZ=>?_
 obtain ⟨e,he,rfl⟩:=xQ.mp hw
 refine zZ ?_;clear zZ
 exact ⟨e,he,hr⟩
theorem has_ok {Q:Value→Shared→Prop} (hu:A.units+1<cLine) (hd:(d == sysModules)=false) (hz:∀ a o,Z a=some o→s.heap.get? a=some o) (hg:s.heap.get? d=some (e0A es ep)) (hK:Ks B Z (kvs.map (·.1)) es) (hf:kFit kvs k=true) (hk:t3A Z k v) (neg:Bool)
  (h:∀ tk,Q (.bool (if neg then !(kix kvs k).isSome else (kix kvs k).isSome)) { s with toks:=tk }):wpAny (model B.prog B.w) A (compareOp (if neg then .NotIn else .In) v (.ref d)) Q E s:=by
 have hT:s.TypeIs (.ref d) "dict" := ⟨_,hg,rfl⟩
 have key:∀ {Q:Bool→Shared→Prop},(∀ tk,Q (kix kvs k).isSome { s with toks:=tk })→wpAny (model B.prog B.w) A (contains (.ref d) v) Q E s:=by
  intro Q h
  unfold contains
  try with_reducible refine wpAny_holding ?_
  refine wpAny_bind (wpAny_specialOf hT slot_dict_contains.lookup ?_)
  show wpAny _ _ (if (some (Value.builtin "dict.__contains__") == some Value.none)=true then _ else _) _ E s
  rw [if_neg (by rw [beq_builtin_none];exact mZ)]
  refine wpAny_bind (wpAny_callSpecialUnlessNone?_slot (name:=Str.ofString "__contains__") hT slot_dict_contains
   (wpAny_call_entry slot_dict_contains hT entry_dict_contains ?_ (args_dict_contains _ _)))
  show wpAny _ _ (dictGet d v >>= _) _ _ s
  refine wpAny_bind (get_ok hu hz hg hK hf hk fun tk=>?_)
  have h:=h tk
  cases hx:kix kvs k with
  | some j=>
   rw [hx] at h
   obtain ⟨y,hj⟩:=t4A hx
   have hl:j<es.length:=by
    rw [k2A hK.1,eQ];exact (jQ.mp hj).1
   rw [Option.bind_some,nQ hl]
   show wpAny _ _ (ret (.bool true)) _ _ _
   exact wpAny_pure ⟨_,rfl,wpAny_truthy_bool h⟩
  | none=>
   rw [hx] at h
   show wpAny _ _ (Builtin.Dict.pendingKey? d v >>= _) _ _ _
   exact wpAny_bind (wpAny_pendingKey_other hd (wpAny_pure ⟨_,rfl,wpAny_truthy_bool h⟩))
 cases neg with
 | true=>
  show wpAny _ _ (do return .bool (!(← contains (.ref d) v))) Q E s
  exact wpAny_bind (key fun tk=>wpAny_pure (h tk))
 | false=>
  show wpAny _ _ (do return .bool (← contains (.ref d) v)) Q E s
  exact wpAny_bind (key fun tk=>wpAny_pure (h tk))
theorem ditem_ok {Q:Value→Shared→Prop} {y:V} (hu:A.units+1<cLine) (hz:∀ a o,Z a=some o→s.heap.get? a=some o) (hg:s.heap.get? d=some (e0A es ep)) (hK:Ks B Z (kvs.map (·.1)) es) (hV:RepL B Z (kvs.map (·.2)) (es.map (·.val))) (hf:kFit kvs k=true) (hk:t3A Z k v)
  (hy:kget kvs k=some y) (h:∀ w tk,RepV B Z y w→Q w { s with toks:=tk }):wpAny (model B.prog B.w) A (getItem (.ref d) v) Q E s:=by
 have hT:s.TypeIs (.ref d) "dict" := ⟨_,hg,rfl⟩
 unfold getItem
 try with_reducible refine wpAny_holding ?_
 refine wpAny_bind (wpAny_sequenceKey hT (by decide) ?_)
 refine wpAny_bind (wpAny_callSpecial?_slot (name:=Str.ofString "__getitem__") hT slot_dict_getitem
  (wpAny_call_entry slot_dict_getitem hT entry_dict_getitem ?_ (args_dict_getitem _ _)))
 show wpAny _ _ (dictGet d v >>= _) _ _ s
 refine wpAny_bind (get_ok hu hz hg hK hf hk fun tk=>?_)
 refine binE hy fun j hj hy=>?_
 refine bc fun zZ=>?_
 obtain ⟨q,hq,rfl⟩:=xQ.mp hy
 obtain ⟨e,he,hr⟩:=ks_val (k:=q.1) hK hV hq
 refine zZ ?_;clear zZ
 rw [hj,Option.bind_some,he]
 exact wpAny_pure ⟨e.val,rfl,wpAny_pure (h _ _ hr)⟩
theorem kput_new {y:V} (h:kix kvs k=none):kput kvs k y=kvs++[(k,y)]:=by unfold kput;rw [h]
theorem kput_old {j:Nat} {y:V} (h:kix kvs k=some j):kput kvs k y=kvs.set j (k,y):=by unfold kput;rw [h]
theorem b2B {j:Nat} {y y':V} (h:kvs[j]?=some (k,y)):(kvs.set j (k,y')).map (·.1)=kvs.map (·.1):=by
 rw [List.map_set]
 refine List.ext_getElem? fun i=>?_
 by_cases e:j=i
 ·subst e
  have hl:=(jQ.mp h).1
  rw [bJ (by rw [eQ];exact hl),oQ,h];rfl
 ·rw [List.getElem?_set_ne e]
theorem dput_ok {Q:Unit→Shared→Prop} {y:V} {w:Value} (hu:A.units+1<cLine) (hz:∀ a o,Z a=some o→s.heap.get? a=some o) (hg:s.heap.get? d=some (e0A es kvs.length)) (hK:Ks B Z (kvs.map (·.1)) es) (hV:RepL B Z (kvs.map (·.2)) (es.map (·.val))) (hf:kFit kvs k=true) (hk:t3A Z k v)
  (hw:RepV B Z y w) (hl:kvs.length<2 ^ 20) (hQ:∀ h' o tk,h'.get? d=some o→RepO B Z (.map (kput kvs k y)) o→Heap.SameBut d s.heap h'→Q () { s with heap:=h',toks:=tk }):wpAny (model B.prog B.w) A (setItem (.ref d) v w) Q E s:=by
 have hT:s.TypeIs (.ref d) "dict" := ⟨_,hg,rfl⟩
 have hel:es.length=kvs.length:=by rw [k2A hK.1,eQ]
 unfold setItem
 try with_reducible refine wpAny_holding ?_
 refine wpAny_bind (wpAny_sequenceKey hT (by decide) ?_)
 refine wpAny_bind (wpAny_callSpecial?_slot (name:=Str.ofString "__setitem__") hT slot_dict_setitem
  (wpAny_call_entry slot_dict_setitem hT entry_dict_setitem ?_ (args_dict_setitem _ _ _)))
 show wpAny _ _ (Builtin.Dict.notOrdered "__setitem__" ⟨[.ref d,v,w],[]⟩ >>= _) _ _ s
 refine wpAny_bind (wpAny_notOrdered_dict hT ?_)
 show wpAny _ _ (dictSet d v w >>= _) _ _ s
 refine wpAny_bind ?_
 unfold dictSet
 try with_reducible refine wpAny_holding ?_
 refine wpAny_bind (q2B hu hz hk fun tk=>?_)
 unfold dictSetHashed
 try with_reducible refine wpAny_holding ?_
 refine wpAny_bind (t2B (s:={ s with toks:=tk }) hu hz hg hK hf hk ?_)
 cases hx:kix kvs k with
 | none=>
  refine wpAny_bind (wpAny_rule (wpAny_updateDictKeys (hz:=by rw [z4W,hel];unfold sizeLine;lia) (s:={ s with toks:=tk }) hg rfl (wpAny_pure ⟨.none,rfl,wpAny_pure (hQ _ (e0A (es++[⟨t9B B k,v,w⟩]) (kvs.length+1)) _ ?_ ?_ (pZ ..))⟩)))
  ·refine (qZ _ hg (Obj.isFreed_of_dict (Obj.data_mapDictKeys rfl _))).trans ?_
   simp [Obj.mapDictKeys,e0A]
  ·rw [kput_new hx]
   refine ⟨_,by rw [fQ];rfl,⟨?_,?_,?_⟩,?_⟩
   ·rw [z0Q];exact d4B hk hK.1
   ·rw [z0Q,z3Q]
    exact ⟨hK.2.1,rQ.mpr ⟨pW,tW⟩,fun a ha b hb e=>h9A.mp hx (by have h2:b=k:=cQ.mp hb;rw [← h2,← e];exact ha)⟩
   ·rw [eQ,fQ];exact yQ (Nat.succ_lt_succ hl) (by decide)
   ·rw [z0Q,z0Q];exact g1A hV (n4A hw)
 | some j=>
  obtain ⟨y',hj⟩:=t4A hx
  refine wpAny_bind (wpAny_rule (wpAny_bind (wpAny_updateDict (s:={ s with toks:=tk }) hg rfl (wpAny_point (wpAny_pure ⟨.none,rfl,wpAny_pure (hQ _ (e0A (es.modify j fun e=>{ e with val:=w }) kvs.length) _ ?_ ?_ (pZ ..))⟩)))))
  ·refine (qZ _ hg (Obj.isFreed_of_dict (Obj.data_mapDict rfl _))).trans ?_
   simp [Obj.mapDict,e0A]
  ·rw [kput_old hx]
   refine ⟨_,by rw [List.length_set],⟨?_,?_,?_⟩,?_⟩
   ·rw [b2B hj];exact c4B w j hK.1
   ·rw [b2B hj];exact hK.2.1
   ·rw [b2B hj];exact hK.2.2
   ·rw [List.map_set,n6B];exact a9A hw j hV
theorem dpop_ok {Q:Value→Shared→Prop} {y:V} (hu:A.units+1<cLine) (hz:∀ a o,Z a=some o→s.heap.get? a=some o) (hg:s.heap.get? d=some (e0A es ep)) (hK:Ks B Z (kvs.map (·.1)) es) (hV:RepL B Z (kvs.map (·.2)) (es.map (·.val))) (hf:kFit kvs k=true) (hp:kInt k=false) (hk:t3A Z k v)
  (hy:kget kvs k=some y) (hQ:∀ w h' o tk,RepV B Z y w→h'.get? d=some o→RepO B Z (.bag (kdel kvs k)) o→Heap.SameBut d s.heap h'→Q w { s with heap:=h',toks:=tk }):wpAny (model B.prog B.w) A (call (.builtin "dict.pop") [.ref d,v]) Q E s:=by
 have hT:s.TypeIs (.ref d) "dict" := ⟨_,hg,rfl⟩
 have hel:es.length=kvs.length:=by rw [k2A hK.1,eQ]
 refine binE hy fun j hx hy=>?_
 refine bc fun zZ=>?_
 obtain ⟨q,hq,rfl⟩:=xQ.mp hy
 obtain ⟨e,he,hr⟩:=ks_val (k:=q.1) hK hV hq
 refine zZ ?_;clear zZ
 have hjl:j<es.length:=(jQ.mp he).1
 have hkl:kvs.length<2 ^ 21:=by have:=hK.2.2;rwa [eQ] at this
 refine wpAny_call_entry PySem.F.slot_dict_pop hT PySem.F.entry_dict_pop ?_ (PySem.F.args_dict_pop_2 _ _)
 unfold Builtin.«dict.pop»
 refine wpAny_bind ?_
 unfold Builtin.Dict.keyAndDefault
 refine wpAny_bind (wpAny_notOrdered_dict hT ?_)
 show wpAny _ _ (pure (d,v,none)) _ _ s
 refine wpAny_pure ?_
 have hkp:(keyPart v).isSome=false:=by
  cases k with
  | i _=>exact nomatch hp
  | p _ _=>obtain ⟨l,_,_,_,rfl,_⟩:=hk;rfl
 simp only [hkp,fW,if_false]
 refine wpAny_bind (wpAny_dictEntries hg rfl (wpAny_bind (wpAny_pure ?_)))
 have hne:es.toArray.isEmpty=false:=by
  rw [Array.isEmpty_eq_false_iff]
  intro h0
  have:=congrArg Array.size h0
  rw [z4W] at this
  rw [show es.length=0 from this] at hjl;exact absurd hjl (z5Z _)
 simp only [hne,fW,if_false]
 refine wpAny_bind ?_
 unfold Builtin.Dict.takeOut
 try with_reducible refine wpAny_holding ?_
 refine wpAny_bind (q2B hu hz hk fun tk=>?_)
 refine wpAny_bind (t2B (s:={ s with toks:=tk }) hu hz hg hK hf hk ?_)
 rw [hx]
 refine wpAny_bind (wpAny_dictEntries (s:={ s with toks:=tk }) hg rfl ?_)
 rw [eJ,he]
 refine wpAny_bind (wpAny_updateDictKeys (hz:=by rw [z4W,hel];unfold sizeLine;lia) (s:={ s with toks:=tk }) hg rfl (wpAny_pure ?_))
 simp only [Option.isNone_some,fW,if_false]
 refine wpAny_bind (wpAny_letGo (wpAny_pure ⟨e.val,rfl,hQ _ _ (e0A (es.eraseIdx j) (ep+1)) _ hr ?_ ?_ (pZ ..)⟩))
 ·refine (qZ _ hg (Obj.isFreed_of_dict (Obj.data_mapDictKeys rfl _))).trans ?_
  simp [Obj.mapDictKeys,e0A]
 ·have hd:kdel kvs k=kvs.eraseIdx j:=by unfold kdel;rw [hx]
  have hm:∀ {β:Type} (f:Ky×V→β),(kvs.eraseIdx j).map f=(kvs.map f).eraseIdx j:=fun f=>by
   rw [z1W,z1W,z0Q,List.map_take,List.map_drop]
  rw [hd]
  refine ⟨_,_,rfl,⟨?_,?_,?_⟩,?_⟩
  ·rw [hm];exact f8A j hK.1
  ·rw [hm];exact (List.eraseIdx_sublist _ _).nodup hK.2.1
  ·exact vQ (by rw [hm];exact (List.eraseIdx_sublist _ _).length_le) hK.2.2
  ·rw [hm]
   have:(es.eraseIdx j).map (·.val)=(es.map (·.val)).eraseIdx j:=by
    rw [z1W,z1W,z0Q,List.map_take,List.map_drop]
   rw [this,z1W,z1W]
   exact g1A (m4A _ hV) (o4A _ hV)
end
section
variable {prog:Program} {w:World} {A:Around} {E:Value→Shared→Prop} {s:Shared}
theorem y0B {d:Addr} {es:List DictEntry} {ep:Nat} {Q:Value→Shared→Prop} (hd:(d == sysModules)=false) (hg:s.heap.get? d=some (e0A es ep))
  (hQ:Q (.ref s.heap.objs.size) { s with heap:=s.heap.push { cls:=.type "dict_keyiterator", data:=.fields #[.ref d,.int 0 0,.int es.length 0,.int ep 0] } }):wpAny (model prog w) A (pyIter (.ref d)) Q E s:=by
 have hT:s.TypeIs (.ref d) "dict" := ⟨_,hg,rfl⟩
 refine wpAny_pyIter_slot hT PySem.F.slot_dict_iter (wpAny_call_entry PySem.F.slot_dict_iter hT PySem.F.entry_dict_iter ?_ (PySem.F.args_dict_iter_1 _))
 unfold Builtin.«dict.__iter__»
 refine wpAny_bind ?_
 unfold Builtin.Dict.dictSlotNone
 refine wpAny_bind (wpAny_notOrdered_dict hT ?_)
 show wpAny _ _ (pure (Value.ref d)) _ _ s
 refine wpAny_pure ?_
 show wpAny _ _ (Builtin.Dict.showsAll d >>= _) _ _ s
 unfold Builtin.Dict.showsAll
 rw [if_neg (by rw [hd];exact mZ)]
 refine wpAny_bind (wpAny_pure ?_)
 refine wpAny_bind (wpAny_dictEntries hg rfl ?_)
 refine wpAny_bind (wpAny_dictEpoch hg rfl ?_)
 refine wpAny_bind (wpAny_newObj_type (wpAny_pure ⟨_,rfl, "dict_keyiterator", _,⟨_,z0W _ rfl,rfl⟩,PySem.F.slot_dict_keyiterator_next.lookup,?_⟩))
 simpa [rawInt] using hQ
theorem x7A {α:Type} {Q:α→Shared→Prop} (hh:A.handled=none) (h:∀ a h',(∀ b o,s.heap.get? b=some o→h'.get? b=some o)→(∃ o,h'.get? a=some o∧o.cls=.type "StopIteration")→E (.ref a) { s with heap:=h' }) :
  wpAny (model prog w) A (newExc (.type "StopIteration") [] >>= fun e=>raiseNew e) Q E s:=by
 refine wpAny_bind ?_
 simp only [newExc,newTuple]
 refine wpAny_bind (wpAny_newObj_type ?_ (by size_fits))
 refine wpAny_bind (m:=firstArgMember _ _) (wpAny_of_eq (a:=Value.none) (by first | rfl | (simp only [firstArgMember];rfl)) ?_)
 refine wpAny_newObj_type ?_ (by size_fits)
 refine wpAny_bind (wpAny_handled ?_)
 rw [hh]
 refine wpAny_bind (wpAny_pure (wpAny_throw ?_))
 exact h _ _ (fun b o e=>z7Q _ (z7Q _ e)) ⟨_,z0W _ rfl,rfl⟩
theorem r6A {it d:Addr} {i ep:Nat} {es:List DictEntry} {Q:Option Value→Shared→Prop} (hh:A.handled=none) (hit:s.heap.IsKeyIter it d i es.length ep) (hg:s.heap.get? d=some (e0A es ep))
  (hS:∀ e h',es[i]?=some e→h'.IsKeyIter it d (i+1) es.length ep→Heap.SameBut it s.heap h'→Q (some e.key) { s with heap:=h' })
  (hN:es[i]?=none→∀ h',Heap.ExtBut it s.heap h'→Q none { s with heap:=h' }):wpAny (model prog w) A (pyNext (.ref it)) Q E s:=by
 obtain ⟨o,ho,hc,hd⟩:=id hit
 unfold pyNext
 refine wpAny_bind (wpAny_attempt (wpAny_callSpecial?_slot (name:=Str.ofString "__next__") hit.typeIs PySem.F.slot_dict_keyiterator_next
  (wpAny_call_entry PySem.F.slot_dict_keyiterator_next hit.typeIs PySem.F.entry_dict_keyiterator_next ?_ (PySem.F.args_dict_keyiterator_next_1 _))))
 refine wpAny_bind (wpAny_pure ?_)
 refine wpAny_bind ?_
 refine wpAny_bind ?_
 first | refine wpAny_bind (wpAny_typeNameOfWhole_keyiter hit.typeIs (wpAny_pure ?_)) | refine wpAny_bind (wpAny_typeNameOf_keyiter hit.typeIs (wpAny_pure ?_))
 refine wpAny_bind (wpAny_fieldsOf ho hd ?_)
 have hown:Builtin.Dict_items.ownsTuple "dict_keyiterator" = false:=by decide
 rw [hown,if_neg mZ]
 show wpAny _ _ (if (Value.ref d == Value.none)=true then _ else _) _ _ s
 rw [if_neg (show ¬ ((Value.ref d == Value.none)=true) from mZ)]
 refine wpAny_bind (wpAny_pure ?_)
 refine wpAny_bind (wpAny_dictEntries hg rfl ?_)
 rw [if_neg (by simp)]
 refine wpAny_bind (wpAny_pure ?_)
 refine wpAny_bind (wpAny_dictEpoch hg rfl ?_)
 rw [if_neg (by simp)]
 refine wpAny_pure ?_
 cases hx:es[i]? with
 | some e=>
  have hxa:es.toArray[((i:Nat):Int).toNat]?=some e:=by rw [z2W,eJ];exact hx
  dsimp only
  rw [if_neg (show ¬ ((i:Int)<0) from kZ.mpr (qW i)),hxa]
  refine wpAny_bind ?_
  first | refine wpAny_bind (wpAny_typeNameOfWhole_keyiter hit.typeIs (wpAny_pure ?_)) | refine wpAny_bind (wpAny_typeNameOf_keyiter hit.typeIs (wpAny_pure ?_))
  refine wpAny_bind (wpAny_isOneOf_keyiter hit.typeIs ?_)
  show wpAny _ _ (setField (.ref it) 1 (rawInt ((i:Int)+1)) >>= _) _ _ s
  refine wpAny_bind (wpAny_setField ho hd (by simp) ?_)
  have hit':(s.heap.update it (Obj.mapFields (·.setIfInBounds 1 (rawInt ((i:Int)+1))))).IsKeyIter it d (i+1) es.length ep:=
   ⟨_,qZ _ ho (Obj.isFreed_of_fields (Obj.data_mapFields hd _)),(Obj.cls_mapFields ..).trans hc,by rw [Obj.data_mapFields hd];simp [rawInt]⟩
  refine wpAny_bind (wpAny_holding ?_)
  refine wpAny_bind (wpAny_isOneOf_keyiter (s:={ s with heap:=s.heap.update it (Obj.mapFields (·.setIfInBounds 1 (rawInt ((i:Int)+1)))) }) hit'.typeIs ?_)
  show wpAny _ _ (pure e.key) _ _ _
  exact wpAny_pure (wpAny_pure ⟨_,rfl,wpAny_pure (hS e _ hx hit' (pZ ..))⟩)
 | none=>
  have hxa:es.toArray[((i:Nat):Int).toNat]?=none:=by rw [z2W,eJ];exact hx
  dsimp only
  rw [if_neg (show ¬ ((i:Int)<0) from kZ.mpr (qW i)),hxa]
  refine wpAny_bind ?_
  first | refine wpAny_bind (wpAny_typeNameOfWhole_keyiter hit.typeIs (wpAny_pure ?_)) | refine wpAny_bind (wpAny_typeNameOf_keyiter hit.typeIs (wpAny_pure ?_))
  show wpAny _ _ (setField (.ref it) 0 .none >>= _) _ _ s
  refine wpAny_bind (wpAny_setField ho hd (by simp) ?_)
  refine x7A (A:=A.in1) hh fun a h' hk hT=>?_
  refine wpAny_bind (wpAny_isInstance (T:= "StopIteration") (b:=true) hT isSubtype_stop ?_)
  exact wpAny_pure (hN hx _ fun b o hb e=>hk b o ((pZ ..).extBut b o hb e))
end
end Fl
namespace Fl
open PySem PyProof.Rows
noncomputable def b4A:Cmp→CmpOp
 | .eq=>.Eq | .ne=>.NotEq | .lt=>.Lt | .le=>.LtE | .gt=>.Gt | .ge=>.GtE | .isin=>.In | .notin=>.NotIn | .isn=>.Is | .isnn=>.IsNot
section
variable {B:Bs} {C:a0A} {Ar:Around} {env:Env} {F:Value→Shared→Prop} {Z:Zm} {N:Led} {ρ:List Addr} {σ:H}
theorem ord_ints {x y:V} {a b:Value} (h:ordOk x y=true) (hx:RepV B Z x a) (hy:RepV B Z y b):∃ i j t u,x=.int i∧y=.int j∧a=.int i t∧b=.int j u:=by
 simp only [ordOk,z4Q] at h
 rw [v0A h.1] at hx ⊢
 rw [v0A h.2] at hy ⊢
 obtain ⟨t,rfl⟩:=hx
 obtain ⟨u,rfl⟩:=hy
 exact ⟨_,_,t,u,rfl,rfl,rfl,rfl⟩
inductive Look:A→Value→Prop
 | none:Look (.v .none) .none
 | bool (b):Look (.v (.bool b)) (.bool b)
 | int (i t):Look (.v (.int i)) (.int i t)
 | ref (a l):(∀ b,a≠.v (.bool b))→a≠.v .none→Look a (.ref l)
theorem q8B {a:A} {v:Value} (R:RepA B Z ρ a v):Look a v:=by
 cases a with
 | v x=>
  cases x with
  | none=>obtain rfl:=R;exact .none
  | bool b=>obtain rfl:=R;exact .bool _
  | int i=>obtain ⟨t,rfl⟩:=R;exact .int _ _
  | tup xs=>obtain ⟨l,_,_,rfl,_⟩:=R;exact .ref _ _ nofun nofun
  | list xs=>obtain ⟨l,_,_,rfl,_⟩:=R;exact .ref _ _ nofun nofun
  | dict ks vs=>obtain ⟨l,_,_,rfl,_⟩:=R;exact .ref _ _ nofun nofun
  | obj c fs=>obtain ⟨l,_,_,_,_,_,rfl,_⟩:=R;exact .ref _ _ nofun nofun
  | range lo hi=>obtain ⟨l,_,_,_,rfl,_⟩:=R;exact .ref _ _ nofun nofun
 | ref i=>obtain ⟨l,_,rfl⟩:=R;exact .ref _ _ nofun nofun
 | inst c i=>obtain ⟨l,_,_,rfl,_⟩:=R;exact .ref _ _ nofun nofun
theorem n5B {u d e L:Nat} (hu:u+80<L) (h:e≤8):u+1+min d e<L:=
 vQ (bW (dQ (z6K d e) h) (u+1)) (vQ (bW (show 1+8≤80 by decide) u) hu)
theorem h8A {x:V} {xs:List V} {l:Addr} {items:List Value} {n:Nat} {vx:Value} {s:Shared} {Q:Value→Shared→Prop} (hu:Ar.units+80<cLine) (I:Inv B Z N ρ σ s.heap) (Rx:RepV B Z x vx)
  (hl:s.heap.get? l=some (c0A items n)) (hr:RepL B Z xs items) (ho:eqOk x=true) (hos:xs.all eqOk=true) (neg:Bool)
  (hQ:Q (.bool (if neg then !(xs.any fun k=>peq k x) else xs.any fun k=>peq k x)) s):wpAny (model B.prog B.w) Ar (compareOp (if neg then .NotIn else .In) vx (.ref l)) Q F s:=by
 obtain ⟨as,ha⟩:=v7A (k:=8) I.zin hl hr hos
 obtain ⟨bs,hb⟩:=h3A I.zin 8 _ _ ho Rx
 have hL:=layL (fun x=>lay 8 x) xs hos
 have hx:=lay 8 x ho
 cases neg with
 | true=>exact SeqAt.notIn_list_reads ha hb hL.1 hx.1 (n5B hu hx.2) (by rw [k7A ho hos];exact hQ)
 | false=>exact SeqAt.in_list_reads ha hb hL.1 hx.1 (n5B hu hx.2) (by rw [k7A ho hos];exact hQ)
theorem l9B {x:V} {xs:List V} {l:Addr} {items:List Value} {n:Nat} {vx:Value} {s:Shared} {Q:Value→Shared→Prop} (hu:Ar.units+80<cLine) (I:Inv B Z N ρ σ s.heap) (Rx:RepV B Z x vx)
  (hl:s.heap.get? l=some (h0B items n)) (hr:RepL B Z xs items) (ho:eqOk x=true) (hos:xs.all eqOk=true) (neg:Bool)
  (hQ:Q (.bool (if neg then !(xs.any fun k=>peq k x) else xs.any fun k=>peq k x)) s):wpAny (model B.prog B.w) Ar (compareOp (if neg then .NotIn else .In) vx (.ref l)) Q F s:=by
 obtain ⟨as,ha'⟩:=s2A (fun x v=>h3A I.zin 8 x v) xs items hos hr
 have ha:∃ as,Reads s.heap (.ref l) (.tuple (toPs xs)) as:=⟨_,.tuple hl rfl rfl (by simpa using ha')⟩
 obtain ⟨as,ha⟩:=ha
 obtain ⟨bs,hb⟩:=h3A I.zin 8 _ _ ho Rx
 have hL:=layL (fun x=>lay 8 x) xs hos
 have hx:=lay 8 x ho
 cases neg with
 | true=>exact SeqAt.notIn_tuple_reads ha hb hL.1 hx.1 (n5B hu hx.2) (by rw [k7A ho hos];exact hQ)
 | false=>exact SeqAt.in_tuple_reads ha hb hL.1 hx.1 (n5B hu hx.2) (by rw [k7A ho hos];exact hQ)
theorem w2A {h:Heap} {i:Nat} {l:Addr} {ob:O} {kvs:List (Ky×V)} (hsm:∃ o,B.h0.get? sysModules=some o) (I:Inv B Z N ρ σ h) (e:ρ[i]?=some l) (hx:σ[i]?=some ob) (hb:oB ob=some kvs) :
  ∃ es n,h.get? l=some (e0A es n)∧(l == sysModules)=false∧Ks B Z (kvs.map (·.1)) es∧RepL B Z (kvs.map (·.2)) (es.map (·.val))∧(ob=.map kvs→n=kvs.length):=by
 rcases oB_of hb with rfl | rfl
 ·have hne:=y1B hsm I e hx (fun e=>nomatch e)
  refine bc fun zZ=>?_
  obtain ⟨_,o,hg,es,rfl,h1,h2⟩:=I.live i l _ e hx (fun e=>nomatch e)
  refine zZ ?_;clear zZ
  exact ⟨es,_,hg,hne,h1,h2,fun _=>rfl⟩
 ·have hne:=y1B hsm I e hx (fun e=>nomatch e)
  refine bc fun zZ=>?_
  obtain ⟨_,o,hg,es,n,rfl,h1,h2⟩:=I.live i l _ e hx (fun e=>nomatch e)
  refine zZ ?_;clear zZ
  exact ⟨es,n,hg,hne,h1,h2,fun e=>nomatch e⟩
theorem zip_maps {ks:List Ky} {vs:List V} (h:ks.length=vs.length):(ks.zip vs).map (·.1)=ks∧(ks.zip vs).map (·.2)=vs:=⟨List.map_fst_zip (lZ h),List.map_snd_zip (lZ h.symm)⟩
theorem q9A {h:Heap} {ks:List Ky} {vs:List V} {v:Value} (I:Inv B Z N ρ σ h) (R:RepV B Z (.dict ks vs) v) :
  ∃ l es n,v=.ref l∧h.get? l=some (e0A es n)∧(l == sysModules)=false∧Ks B Z ((ks.zip vs).map (·.1)) es∧RepL B Z ((ks.zip vs).map (·.2)) (es.map (·.val)):=by
 refine bc fun zZ=>?_
 obtain ⟨l,es,n,rfl,hz,⟨hne,hK⟩,hV⟩:=R
 refine zZ ?_;clear zZ
 have e:ks.length=vs.length:=by rw [← k2A hK.1,← f0A hV,eQ]
 obtain ⟨e1,e2⟩:=zip_maps e
 rw [e1,e2]
 exact ⟨l,es,n,rfl,I.zin _ _ hz,hne,hK,hV⟩
theorem m9B {x:V} {kvs:List (Ky×V)} {l:Addr} {es:List DictEntry} {n:Nat} {r:Bool} {vx:Value} {s:Shared} {Q:Value→Shared→Prop} (hu:Ar.units+80<cLine) (I:Inv B Z N ρ σ s.heap) (Rx:RepV B Z x vx) (hg:s.heap.get? l=some (e0A es n)) (hne:(l == sysModules)=false) (hK:Ks B Z (kvs.map (·.1)) es)
  (h:inM x kvs=some r) (neg:Bool) (hQ:∀ tk,Q (.bool (if neg then !r else r)) { s with toks:=tk }):wpAny (model B.prog B.w) Ar (compareOp (if neg then .NotIn else .In) vx (.ref l)) Q F s:=by
 refine binE h fun k hk h=>?_
 by_cases hf:kFit kvs k=true
 ·rw [if_pos hf] at h
  rw [vK_of hk] at Rx
  refine has_ok (vQ (bW (by decide) _) hu) hne I.zin hg hK hf (b6A Rx) neg fun tk=>?_
  rw [pQ h];exact hQ tk
 ·rw [if_neg hf] at h;exact nons h
theorem n9B {x:V} {xs:List V} {r:Bool} (h:inL x xs=some r):eqOk x=true∧xs.all eqOk=true∧r=xs.any fun k=>peq k x:=by
 unfold inL at h
 by_cases hc:(eqOk x && xs.all eqOk)=true
 ·rw [if_pos hc] at h
  refine an2 hc fun h1 h2=>?_
  exact ⟨h1,h2,(pQ h).symm⟩
 ·rw [if_neg hc] at h;exact nons h
theorem inn_ok {a b:A} {r:Bool} {va vb:Value} {s:Shared} {Q:Value→Shared→Prop} (hsm:∃ o,B.h0.get? sysModules=some o) (hu:Ar.units+80<cLine) (I:Inv B Z N ρ σ s.heap) (Ra:RepA B Z ρ a va) (Rb:RepA B Z ρ b vb)
  (h:inSem σ a b=some r) (neg:Bool) (hQ:∀ tk,Q (.bool (if neg then !r else r)) { s with toks:=tk }):wpAny (model B.prog B.w) Ar (compareOp (if neg then .NotIn else .In) va vb) Q F s:=by
 refine binE h fun x hx h=>?_
 rw [i2A hx] at Ra
 cases b with
 | v y=>
  cases y with
  | list xs=>
   obtain ⟨h1,h2,rfl⟩:=n9B h
   obtain ⟨l,items,n,rfl,hz,_,hr⟩:=Rb
   exact h8A hu I Ra (I.zin _ _ hz) hr h1 h2 neg (hQ s.toks)
  | tup xs=>
   obtain ⟨h1,h2,rfl⟩:=n9B h
   obtain ⟨l,items,n,rfl,hz,_,hr⟩:=Rb
   exact l9B hu I Ra (I.zin _ _ hz) hr h1 h2 neg (hQ s.toks)
  | dict ks vs=>
   obtain ⟨l,es,n,rfl,hg,hne,hK,_⟩:=q9A I Rb
   exact m9B hu I Ra hg hne hK h neg hQ
  | _=>exact nons h
 | ref i=>
  obtain ⟨l,e,rfl⟩:=Rb
  refine binE h fun o ho h=>?_
  cases o with
  | list xs=>
   obtain ⟨h1,h2,rfl⟩:=n9B h
   obtain ⟨_,o,hg,items,n,rfl,hs,hr⟩:=I.live i l _ e ho (fun e=>nomatch e)
   exact h8A hu I Ra hg hr h1 h2 neg (hQ s.toks)
  | map kvs=>
   obtain ⟨es,n,hg,hne,hK,_,_⟩:=w2A hsm I e ho rfl
   exact m9B hu I Ra hg hne hK h neg hQ
  | bag kvs=>
   obtain ⟨es,n,hg,hne,hK,_,_⟩:=w2A hsm I e ho rfl
   exact m9B hu I Ra hg hne hK h neg hQ
  | _=>exact nons h
 | inst _ _=>exact nons h
theorem v3B {a:A} (h:y1A a=true):a=.v .none:=by
 cases a with
 | v x=>cases x <;> first | rfl | exact noB h
 | ref _=>exact noB h
 | inst _ _=>exact noB h
theorem is_ok {a b:A} {r:Bool} {va vb:Value} {s:Shared} {Q:Value→Shared→Prop} (Ra:RepA B Z ρ a va) (Rb:RepA B Z ρ b vb) (h:isSem a b=some r) (neg:Bool) (hQ:Q (.bool (if neg then !r else r)) s):wpAny (model B.prog B.w) Ar (compareOp (if neg then .IsNot else .Is) va vb) Q F s:=by
 unfold isSem at h
 by_cases hb:y1A b=true
 ·rw [if_pos hb] at h
  obtain rfl:=pQ h
  rw [v3B hb] at Rb
  obtain rfl:vb=.none:=Rb
  have key:wpAny (model B.prog B.w) Ar (compareOp (if neg then .IsNot else .Is) va .none) Q F s:=by
   cases q8B Ra with
   | none=>cases neg <;> exact wpAny_pure hQ
   | bool b=>cases neg <;> exact wpAny_pure hQ
   | int i t=>cases neg <;> exact wpAny_pure hQ
   | ref _ l h1 h2=>
    have hn:y1A a=false:=by
     cases hq:y1A a with
     | false=>rfl
     | true=>exact absurd (v3B hq) h2
    rw [hn] at hQ
    cases neg <;> exact wpAny_pure hQ
  exact key
 ·rw [if_neg hb] at h;exact nons h
theorem u4B {a b:A} {r:Bool} (h:e7A σ a b=some r):∃ x y,v1B σ a=some x∧v1B σ b=some y∧eqOk x=true∧eqOk y=true∧r=peq x y:=by
 refine binE h fun x hx h=>?_
 refine binE h fun y hy h=>?_
 have h:eqV x y=some r:=h
 unfold eqV at h
 by_cases hc:(eqOk x && eqOk y)=true
 ·rw [if_pos hc] at h
  refine an2 hc fun h1 h2=>?_
  exact ⟨x,y,hx,hy,h1,h2,(pQ h).symm⟩
 ·rw [if_neg hc] at h;exact nons h
theorem q4A {a b:A} {r:Bool} {f:V→V→Bool} {va vb:Value} (Ra:RepA B Z ρ a va) (Rb:RepA B Z ρ b vb) (h:r0B f a b=some r):∃ i j t u,va=.int i t∧vb=.int j u∧r=f (.int i) (.int j):=by
 refine binE h fun x hx h=>?_
 refine binE h fun y hy h=>?_
 rw [i2A hx] at Ra
 rw [i2A hy] at Rb
 have h:ordV f x y=some r:=h
 unfold ordV at h
 by_cases hc:ordOk x y=true
 ·rw [if_pos hc] at h
  refine bc fun zZ=>?_
  obtain ⟨i,j,t,u,rfl,rfl,rfl,rfl⟩:=ord_ints hc Ra Rb
  refine zZ ?_;clear zZ
  exact ⟨i,j,t,u,rfl,rfl,(pQ h).symm⟩
 ·rw [if_neg hc] at h;exact nons h
theorem t6A {o:Option Bool} {r:Bool} (h:o.map (!·)=some r):∃ q,o=some q∧r=!q:=by
 obtain ⟨q,h1,h2⟩:=xQ.mp h
 exact ⟨q,h1,h2.symm⟩
theorem b5B {o:Cmp} {a b:A} {r:Bool} {va vb:Value} {s:Shared} {Q:Value→Shared→Prop} (hsm:∃ o,B.h0.get? sysModules=some o) (hu:Ar.units+80<cLine) (I:Inv B Z N ρ σ s.heap) (Ra:RepA B Z ρ a va) (Rb:RepA B Z ρ b vb)
  (h:u0A σ o a b=some r) (hQ:∀ tk,Q (.bool r) { s with toks:=tk }):wpAny (model B.prog B.w) Ar (compareOp (b4A o) va vb) Q F s:=by
 cases o with
 | eq=>
  refine bc fun zZ=>?_
  obtain ⟨x,y,hx,hy,h1,h2,rfl⟩:=u4B h
  obtain ⟨as,ha⟩:=p4A I Ra hx h1
  obtain ⟨bs,hb⟩:=p4A I Rb hy h2
  refine zZ ?_;clear zZ
  have l1:=lay 8 x h1
  have l2:=lay 8 y h2
  exact SeqAt.compareEq_reads ha hb l1.1 l2.1 (bK (vQ (lZ (wK _ _ 1)) (n5B hu l2.2))) (by rw [h0C 8 8 x y h1 h2];exact hQ s.toks)
 | ne=>
  refine bc fun zZ=>?_
  obtain ⟨q,h',rfl⟩:=t6A h
  obtain ⟨x,y,hx,hy,h1,h2,rfl⟩:=u4B h'
  obtain ⟨as,ha⟩:=p4A I Ra hx h1
  obtain ⟨bs,hb⟩:=p4A I Rb hy h2
  refine zZ ?_;clear zZ
  have l1:=lay 8 x h1
  have l2:=lay 8 y h2
  exact SeqAt.compareNe_reads ha hb l1.1 l2.1 (bK (vQ (lZ (wK _ _ 1)) (n5B hu l2.2))) (by rw [h0C 8 8 x y h1 h2];exact hQ s.toks)
 | isin=>exact inn_ok hsm hu I Ra Rb h false hQ
 | notin=>
  refine bc fun zZ=>?_
  obtain ⟨q,h',rfl⟩:=t6A h
  refine zZ ?_;clear zZ
  exact inn_ok hsm hu I Ra Rb h' true hQ
 | isn=>exact is_ok Ra Rb h false (hQ s.toks)
 | isnn=>
  refine bc fun zZ=>?_
  obtain ⟨q,h',rfl⟩:=t6A h
  refine zZ ?_;clear zZ
  exact is_ok Ra Rb h' true (hQ s.toks)
 | lt=>
  refine bc fun zZ=>?_
  obtain ⟨i,j,t,u,rfl,rfl,rfl⟩:=q4A Ra Rb h
  refine zZ ?_;clear zZ
  exact lt_int (by rw [← t2A];exact hQ s.toks)
 | gt=>
  refine bc fun zZ=>?_
  obtain ⟨i,j,t,u,rfl,rfl,rfl⟩:=q4A Ra Rb h
  refine zZ ?_;clear zZ
  exact gt_int (by rw [← t2A];exact hQ s.toks)
 | le=>
  refine bc fun zZ=>?_
  obtain ⟨i,j,t,u,rfl,rfl,rfl⟩:=q4A Ra Rb h
  refine zZ ?_;clear zZ
  exact le_int (by rw [← z7A];exact hQ s.toks)
 | ge=>
  refine bc fun zZ=>?_
  obtain ⟨i,j,t,u,rfl,rfl,rfl⟩:=q4A Ra Rb h
  refine zZ ?_;clear zZ
  exact ge_int (by rw [← z7A];exact hQ s.toks)
end
end Fl
namespace Fl
open PySem PyProof.Rows
noncomputable def PostB (B:Bs) (Z:Zm) (N:Led) (ρ:List Addr) (s:Shared) (K:Bool→H→Prop) (Q:Bool→Shared→Prop):Prop:=
 ∀ b Z' ρ' σ' h' tk,K b σ'→Ext Z Z'→ρ <+: ρ'→Inv B Z' N ρ' σ' h'→Q b { s with heap:=h',toks:=tk }
noncomputable def o1C (B:Bs) (n:Nat) (Z:Zm) (N:Led) (ρ:List Addr) (s:Shared) (K:List A→H→Prop) (Q:List Value→Shared→Prop):Prop:=
 ∀ as vs Z' ρ' σ' h' tk,as.length=n→K as σ'→Ext Z Z'→ρ <+: ρ'→Inv B Z' N ρ' σ' h'→p2A B Z' ρ' as vs→Q vs { s with heap:=h',toks:=tk }
noncomputable def TOk (B:Bs) (C:a0A) (Ar:Around) (env:Env) (ir:E) (e:Expr):Prop:=
 ∀ (Z:Zm) (N:Led) (ρ:List Addr) (σ:H) (m:Loc) (s:Shared) (K:Bool→H→Prop) (Q:Bool→Shared→Prop) (F:Value→Shared→Prop),
  Inv B Z N ρ σ s.heap→Frm B env Z ρ m N→xT C ir m σ K→PostB B Z N ρ s K Q→wpAny (model B.prog B.w) Ar (isTrue e env (eval e env)) Q F s
noncomputable def n1A (e:Expr):Bool:=Nat.ble 23 e.ctorIdx || Nat.ble e.ctorIdx 21
theorem k0A {env:Env} {e:Expr} {r:List Expr}:n1A e=true→starEach (e::r) env=(false,eval e env)::starEach r env:=
 Expr.casesOn (motive_1:=fun e=>n1A e=true→starEach (e::r) env=(false,eval e env)::starEach r env) e (fun _ _ _ _=>rfl) (fun _ _ _ _=>rfl) (fun _ _ _ _ _=>rfl) (fun _ _ _ _=>rfl) (fun _ _ _ _ _=>rfl) (fun _ _ _ _ _=>rfl) (fun _ _ _ _=>rfl) (fun _ _ _ _=>rfl) (fun _ _ _ _ _=>rfl) (fun _ _ _ _ _=>rfl) (fun _ _ _ _ _ _=>rfl) (fun _ _ _ _ _=>rfl) (fun _ _ _=>rfl) (fun _ _ _=>rfl) (fun _ _ _=>rfl) (fun _ _ _ _ _=>rfl) (fun _ _ _ _ _=>rfl) (fun _ _ _ _ _=>rfl) (fun _ _ _=>rfl) (fun _ _ _ _=>rfl) (fun _ _ _ _=>rfl) (fun _ _ _ _=>rfl) (fun _ _=>fun h=>nomatch h) (fun _ _ _=>rfl) (fun _ _ _=>rfl) (fun _ _ _ _=>rfl) (fun _ _ _ _ _=>rfl)
theorem q0A {env:Env} {pos:Pos}:∀ {args:List Expr},args.all n1A=true→(backTo pos (starEach args env)).any (·.1)=false
 | [],_=>rfl
 | e::r,h=>by
  simp only [z7Z,z4Q] at h
  rw [k0A h.1]
  have:=q0A (env:=env) (pos:=pos) h.2
  simp only [backTo,z6Q,List.any_cons] at this ⊢
  simpa using this
inductive EsOk (B:Bs) (C:a0A) (Ar:Around) (env:Env):List E→List Expr→Prop
 | nil:EsOk B C Ar env [] []
 | cons {ir e irs es}:EOk B C Ar env ir e→n1A e=true→EsOk B C Ar env irs es→EsOk B C Ar env (ir::irs) (e::es)
section
variable {B:Bs} {C:a0A} {Ar:Around} {env:Env} {F:Value→Shared→Prop}
theorem EsOk.un {irs:List E} {es:List Expr} (h:EsOk B C Ar env irs es):es.all n1A=true:=by
 induction h with
 | nil=>rfl
 | cons _ h _ ih=>simp [h,ih]
theorem EsOk.len {irs:List E} {es:List Expr} (h:EsOk B C Ar env irs es):es.length=irs.length:=by
 induction h with
 | nil=>rfl
 | cons _ _ _ ih=>simp [ih]
theorem j7A {irs:List E} {es:List Expr} (h:EsOk B C Ar env irs es):∀ {Z N ρ σ m} {s:Shared} {K:List A→H→Prop} {Q:List Value→Shared→Prop} {pos:Pos},
  Inv B Z N ρ σ s.heap→Frm B env Z ρ m N→xEs C irs m σ K→o1C B irs.length Z N ρ s K Q→wpAny (model B.prog B.w) Ar (spliced (backTo pos (starEach es env))) Q F s:=by
 induction h with
 | nil=>
  intro Z N ρ σ m s K Q pos I Fr hx P
  simp only [xEs_nil,xEs_cons] at hx
  exact args_nil (P [] [] Z ρ σ _ _ rfl hx (Ext.refl _) (eW _) I rfl)
 | cons he hu _ ih=>
  intro Z N ρ σ m s K Q pos I Fr hx P
  simp only [xEs_nil,xEs_cons] at hx
  refine args_cons (he Z N ρ σ m s _ _ F I Fr hx ?_) (k0A hu)
  intro a v Z1 ρ1 σ1 h1 t1 hx1 e1 p1 I1 R1
  refine ih I1 (Fr.mono e1 p1) hx1 ?_
  intro as vs Z2 ρ2 σ2 h2 t2 hl hx2 e2 p2 I2 R2
  exact P (a::as) (v::vs) Z2 ρ2 σ2 _ _ (by simp [hl]) hx2 (e1.trans e2) (p1.trans p2) I2 ⟨v,vs,rfl,R1.mono e2 p2,R2⟩
theorem k6A {Z N ρ σ} {s:Shared} {a:A} {v:Value} {b:Bool} {Q:Bool→Shared→Prop} (hsm:∃ o,B.h0.get? sysModules=some o) (I:Inv B Z N ρ σ s.heap) (R:RepA B Z ρ a v) (h:asB a=some b) (hQ:∀ tk,Q b { s with toks:=tk }) :
  wpAny (model B.prog B.w) Ar (PySem.truthy v) Q F s:=by
 rw [asB_of h] at R
 obtain rfl:=R
 exact wpAny_truthy_bool (hQ s.toks)
theorem i3B {ir:E} {e:Expr} (hsm:∃ o,B.h0.get? sysModules=some o) (he:EOk B C Ar env ir e)
  (hx:∀ m σ K,xT C ir m σ K=xE C ir m σ (fun a σ=>get (asB a) fun b=>K b σ)) (hi:∀ whole,isTrue e env whole=(do let v ← whole;standAt e.pos;holding [v] (PySem.truthy v))):TOk B C Ar env ir e:=by
 intro Z N ρ σ m s K Q F I Fr h P
 rw [hx] at h
 refine wpAny_isTrue_value (he Z N ρ σ m s _ _ F I Fr h ?_) (hi _)
 intro a v Z1 ρ1 σ1 h1 t1 hx1 e1 p1 I1 R1
 cases ht:asB a with
 | none=>rw [ht] at hx1;exact hx1.elim
 | some b=>
  rw [ht] at hx1
  exact k6A hsm I1 R1 ht fun tk=>P b Z1 ρ1 σ1 _ _ hx1 e1 p1 I1
theorem eok_none {k pos}:EOk B C Ar env (.c .none) (.Constant .none k pos):=by
 intro Z N ρ σ m s K Q F I Fr hx P
 exact wpAny_Constant_none (P (.v .none) _ Z ρ σ _ s.toks hx (Ext.refl _) (eW _) I (by first | exact rfl | exact ⟨_,rfl⟩))
theorem eok_bool {b k pos}:EOk B C Ar env (.c (.bool b)) (.Constant (.bool b) k pos):=by
 intro Z N ρ σ m s K Q F I Fr hx P
 exact wpAny_Constant_bool (P (.v (.bool b)) _ Z ρ σ _ s.toks hx (Ext.refl _) (eW _) I (by first | exact rfl | exact ⟨_,rfl⟩))
theorem eok_g {x:String} {i:Int} {pos:Pos} (hg:∃ t,z5A B (Str.ofString x) (.int i t)) (hk:env.kindOf (Str.ofString x)=some .globalImplicit) (hd:(Str.ofString x == ("__debug__" : Str))=false) :
  EOk B C Ar env (.g x i) (.Name (Str.ofString x) pos):=by
 intro Z N ρ σ m s K Q F I Fr hx P
 obtain ⟨t,hg⟩:=hg
 exact n3A I Fr hg hk hd (P (.v (.int i)) _ Z ρ σ _ s.toks hx (Ext.refl _) (eW _) I (by first | exact rfl | exact ⟨_,rfl⟩))
theorem eok_neg {a:E} {x:Expr} {pos:Pos} (ha:EOk B C Ar env a x):EOk B C Ar env (.neg a) (.UnaryOp .USub x pos):=by
 intro Z N ρ σ m s K Q F I Fr hx P
 rw [xE_neg] at hx
 refine wpAny_UnaryOp (ha Z N ρ σ m s _ _ F I Fr hx ?_)
 intro va v Z1 ρ1 σ1 h1 t1 hx1 e1 p1 I1 R1
 refine getE hx1 fun i hi hx1=>?_
 rw [e3A hi] at R1
 obtain ⟨t,rfl⟩:=R1
 exact neg_int (P _ _ Z1 ρ1 σ1 _ _ hx1 e1 p1 I1 ⟨_,rfl⟩)
theorem eok_not {a:E} {x:Expr} {pos:Pos} (hsm:∃ o,B.h0.get? sysModules=some o) (ha:EOk B C Ar env a x):EOk B C Ar env (.not a) (.UnaryOp .Not x pos):=by
 intro Z N ρ σ m s K Q F I Fr hx P
 rw [xE_not] at hx
 refine wpAny_UnaryOp (ha Z N ρ σ m s _ _ F I Fr hx ?_)
 intro va v Z1 ρ1 σ1 h1 t1 hx1 e1 p1 I1 R1
 cases ht:asB va with
 | none=>rw [ht] at hx1;exact hx1.elim
 | some b=>
  rw [ht] at hx1
  exact not_of (k6A hsm I1 R1 ht fun tk=>P _ _ Z1 ρ1 σ1 _ _ hx1 e1 p1 I1 (by first | exact rfl | exact ⟨_,rfl⟩))
theorem eok_cmp {o:Cmp} {a b:E} {l r:Expr} {pos:Pos} (hsm:∃ o,B.h0.get? sysModules=some o) (hu:Ar.units+80<cLine) (hm:behindInMarks (b4A o) r=false)
  (ha:EOk B C Ar env a l) (hb:EOk B C Ar env b r):EOk B C Ar env (.cmp a o b) (.Compare l [b4A o] [r] pos):=by
 intro Z N ρ σ m s K Q F I Fr hx P
 rw [xE_cmp] at hx
 refine wpAny_Compare1 (ha Z N ρ σ m s _ _ F I Fr hx ?_) hm
 intro va v Z1 ρ1 σ1 h1 t1 hx1 e1 p1 I1 R1
 refine hb Z1 N ρ1 σ1 m _ _ _ F I1 (Fr.mono e1 p1) hx1 ?_
 intro vb w Z2 ρ2 σ2 h2 t2 hx2 e2 p2 I2 R2
 cases hc:u0A σ2 o va vb with
 | none=>rw [hc] at hx2;exact hx2.elim
 | some q=>
  rw [hc] at hx2
  exact b5B hsm hu I2 (R1.mono e2 p2) R2 hc fun tk=>P _ _ Z2 ρ2 σ2 _ _ hx2 (e1.trans e2) (p1.trans p2) I2 (by first | exact rfl | exact ⟨_,rfl⟩)
theorem tok_cmp {o:Cmp} {a b:E} {l r:Expr} {pos:Pos} (hsm:∃ o,B.h0.get? sysModules=some o) (hu:Ar.units+80<cLine) (hm:behindInMarks (b4A o) r=false)
  (ha:EOk B C Ar env a l) (hb:EOk B C Ar env b r):TOk B C Ar env (.cmp a o b) (.Compare l [b4A o] [r] pos):=by
 intro Z N ρ σ m s K Q F I Fr hx P
 rw [xT_cmp] at hx
 refine wpAny_isTrue_Compare1 (ha Z N ρ σ m s _ _ F I Fr hx ?_) hm
 intro va v Z1 ρ1 σ1 h1 t1 hx1 e1 p1 I1 R1
 refine hb Z1 N ρ1 σ1 m _ _ _ F I1 (Fr.mono e1 p1) hx1 ?_
 intro vb w Z2 ρ2 σ2 h2 t2 hx2 e2 p2 I2 R2
 cases hc:u0A σ2 o va vb with
 | none=>rw [hc] at hx2;exact hx2.elim
 | some q=>
  rw [hc] at hx2
  exact b5B hsm hu I2 (R1.mono e2 p2) R2 hc fun tk=>wpAny_truthy_bool (P _ Z2 ρ2 σ2 _ _ hx2 (e1.trans e2) (p1.trans p2) I2)
theorem tok_not {a:E} {x:Expr} {pos:Pos} (ha:TOk B C Ar env a x):TOk B C Ar env (.not a) (.UnaryOp .Not x pos):=by
 intro Z N ρ σ m s K Q F I Fr hx P
 rw [xT_not] at hx
 refine wpAny_isTrue_Not (ha Z N ρ σ m s _ _ F I Fr hx ?_)
 intro b Z1 ρ1 σ1 h1 t1 hx1 e1 p1 I1
 exact P _ Z1 ρ1 σ1 _ _ hx1 e1 p1 I1
inductive TsOk (B:Bs) (C:a0A) (Ar:Around) (env:Env):List E→List Expr→Prop
 | nil:TsOk B C Ar env [] []
 | cons {ir e irs es}:TOk B C Ar env ir e→TsOk B C Ar env irs es→TsOk B C Ar env (ir::irs) (e::es)
theorem ts_ok {op:BoolOp} {irs:List E} {es:List Expr} (h:TsOk B C Ar env irs es):∀ {Z N ρ σ m} {s:Shared} {K:Bool→H→Prop} {Q:Bool→Shared→Prop},
  Inv B Z N ρ σ s.heap→Frm B env Z ρ m N→xTs C (match op with | .And=>true | .Or=>false) irs m σ K→PostB B Z N ρ s K Q→wpAny (model B.prog B.w) Ar (allTrue op es env) Q F s:=by
 induction h with
 | nil=>
  intro Z N ρ σ m s K Q I Fr hx P
  simp only [xTs_nil,xTs_cons] at hx
  cases op with
  | And=>exact wpAny_allTrue_And_nil (P _ Z ρ σ _ s.toks hx (Ext.refl _) (eW _) I)
  | Or=>exact wpAny_allTrue_Or_nil (P _ Z ρ σ _ s.toks hx (Ext.refl _) (eW _) I)
 | cons he _ ih=>
  intro Z N ρ σ m s K Q I Fr hx P
  simp only [xTs_nil,xTs_cons] at hx
  cases op with
  | And=>
   refine wpAny_allTrue_And_cons (he Z N ρ σ m s _ _ F I Fr hx ?_)
   intro b Z1 ρ1 σ1 h1 t1 hx1 e1 p1 I1
   cases b with
   | true=>
    simp only [if_true] at hx1 ⊢
    refine ih I1 (Fr.mono e1 p1) hx1 ?_
    intro b Z2 ρ2 σ2 h2 t2 hx2 e2 p2 I2
    exact P _ Z2 ρ2 σ2 _ _ hx2 (e1.trans e2) (p1.trans p2) I2
   | false=>
    simp only [fW,if_false,Bool.not_true] at hx1 ⊢
    exact P _ Z1 ρ1 σ1 _ _ hx1 e1 p1 I1
  | Or=>
   refine wpAny_allTrue_Or_cons (he Z N ρ σ m s _ _ F I Fr hx ?_)
   intro b Z1 ρ1 σ1 h1 t1 hx1 e1 p1 I1
   cases b with
   | false=>
    simp only [if_true,fW,if_false] at hx1 ⊢
    refine ih I1 (Fr.mono e1 p1) hx1 ?_
    intro b Z2 ρ2 σ2 h2 t2 hx2 e2 p2 I2
    exact P _ Z2 ρ2 σ2 _ _ hx2 (e1.trans e2) (p1.trans p2) I2
   | true=>
    simp only [Bool.true_eq_false,if_false,if_true,Bool.not_false] at hx1 ⊢
    exact P _ Z1 ρ1 σ1 _ _ hx1 e1 p1 I1
theorem tok_and {irs:List E} {es:List Expr} {pos:Pos} (h:TsOk B C Ar env irs es):TOk B C Ar env (.and irs) (.BoolOp .And es pos):=by
 intro Z N ρ σ m s K Q F I Fr hx P
 rw [xT_and] at hx
 exact wpAny_isTrue_BoolOp (ts_ok (op:=.And) h I Fr hx P)
theorem tok_or {irs:List E} {es:List Expr} {pos:Pos} (h:TsOk B C Ar env irs es):TOk B C Ar env (.or irs) (.BoolOp .Or es pos):=by
 intro Z N ρ σ m s K Q F I Fr hx P
 rw [xT_or] at hx
 exact wpAny_isTrue_BoolOp (ts_ok (op:=.Or) h I Fr hx P)
end
end Fl
namespace Fl
open PySem PyProof.Rows
section
variable {B:Bs} {C:a0A} {Ar:Around} {env:Env} {F:Value→Shared→Prop}
theorem k_sz {n:Nat} (h:n<1000):n≤sizeLine:=by unfold sizeLine;lia
theorem k21 {n:Nat} (h:n<1000):n<2 ^ 21:=by lia
theorem sm21 {α:Type} {xs:List α} (h:small xs):xs.length<2 ^ 21:=by unfold small at h;lia
theorem tok_cmp2 {o o':Cmp} {a b c:E} {l r r':Expr} {pos:Pos} (hsm:∃ o,B.h0.get? sysModules=some o) (hu:Ar.units+80<cLine) (hm:lastMarks [b4A o,b4A o'] [r,r']=false)
  (ha:EOk B C Ar env a l) (hb:EOk B C Ar env b r) (hc:EOk B C Ar env c r'):TOk B C Ar env (.cmp2 a o b o' c) (.Compare l [b4A o,b4A o'] [r,r'] pos):=by
 intro Z N ρ σ m s K Q F I Fr hx P
 rw [xT_cmp2] at hx
 refine isTrue_chain (ha Z N ρ σ m s _ _ F I Fr hx ?_) hm
 intro va v Z1 ρ1 σ1 h1 t1 hx1 e1 p1 I1 R1
 show wpAny _ _ (do
  let rv ← holding [v] (eval r env)
  standAt pos
  let c ← holding [v,rv] (compareOp (b4A o) v rv)
  release [v,rv] [c]
  if ← holding [c,rv] (PySem.truthy c) then (do
   let rv' ← holding [rv] (eval r' env)
   standAt pos
   let c ← operate [rv,rv'] (compareOp (b4A o') rv rv')
   holding [c] (PySem.truthy c)) else pure false) _ _ _
 refine wpAny_bind (wpAny_holding (hb Z1 N ρ1 σ1 m _ _ _ F I1 (Fr.mono e1 p1) hx1 ?_))
 intro vb w Z2 ρ2 σ2 h2 t2 hx2 e2 p2 I2 R2
 refine wpAny_bind (wpAny_standAt (wpAny_bind (wpAny_holding ?_)))
 cases hq:u0A σ2 o va vb with
 | none=>rw [hq] at hx2;exact hx2.elim
 | some q=>
  rw [hq] at hx2
  refine b5B hsm hu I2 (R1.mono e2 p2) R2 hq fun tk=>?_
  refine wpAny_bind (wpAny_release' (wpAny_bind (wpAny_holding (wpAny_truthy_bool ?_))))
  have hx2:(if q=true then _ else _):=hx2
  cases q with
  | false=>
   simp only [fW,if_false] at hx2 ⊢
   exact wpAny_pure (P _ Z2 ρ2 σ2 _ _ hx2 (e1.trans e2) (p1.trans p2) I2)
  | true=>
   simp only [if_true] at hx2 ⊢
   refine wpAny_bind (wpAny_holding (hc Z2 N ρ2 σ2 m _ _ _ F I2 ((Fr.mono e1 p1).mono e2 p2) hx2 ?_))
   intro vc u Z3 ρ3 σ3 h3 t3 hx3 e3 p3 I3 R3
   refine wpAny_bind (wpAny_standAt (wpAny_bind (wpAny_operate' ?_)))
   cases hq':u0A σ3 o' vb vc with
   | none=>rw [hq'] at hx3;exact hx3.elim
   | some q'=>
    rw [hq'] at hx3
    exact b5B hsm hu I3 (R2.mono e3 p3) R3 hq' fun tk=>wpAny_holding (wpAny_truthy_bool (P _ Z3 ρ3 σ3 _ _ hx3 ((e1.trans e2).trans e3) ((p1.trans p2).trans p3) I3))
set_option backward.match.sparseCases true in
theorem bs_ok (hsm:∃ o,B.h0.get? sysModules=some o) {op:BoolOp} {pos:Pos} {irs:List E} {es:List Expr} (h:EsOk B C Ar env irs es):∀ {Z N ρ σ m} {s:Shared} {K:A→H→Prop} {Q:Value→Shared→Prop},
  Inv B Z N ρ σ s.heap→Frm B env Z ρ m N→xBs C (match op with | .And=>true | .Or=>false) irs m σ K→Post B Z N ρ s K Q→wpAny (model B.prog B.w) Ar (boolOp pos op (evalEach es env)) Q F s:=by
 induction h with
 | nil=>intro Z N ρ σ m s K Q I Fr hx P;exact (show False from hx).elim
 | @cons ir e irs es he hu hr ih=>
  intro Z N ρ σ m s K Q I Fr hx P
  cases hr with
  | nil=>
   simp only [xBs_one,xBs_two] at hx
   show wpAny _ _ (eval e env) _ _ _
   exact he Z N ρ σ m s _ _ F I Fr hx P
  | @cons ir' e' irs' es' he' hu' hr'=>
   simp only [xBs_one,xBs_two] at hx
   show wpAny _ _ (do
    let v ← eval e env
    standAt pos
    let t ← holding [v] (PySem.truthy v)
    match op,t with
    | .And,false | .Or,true=>pure v
    | _,_=>boolOp pos op (evalEach (e'::es') env)) _ _ _
   refine wpAny_bind (he Z N ρ σ m s _ _ F I Fr hx ?_)
   intro va v Z1 ρ1 σ1 h1 t1 hx1 e1 p1 I1 R1
   refine wpAny_bind (wpAny_standAt (wpAny_bind (wpAny_holding ?_)))
   cases ht:asB va with
   | none=>rw [ht] at hx1;exact hx1.elim
   | some b=>
    rw [ht] at hx1
    refine k6A hsm I1 R1 ht fun tk=>?_
    have hx1:(if b=_ then _ else _):=hx1
    cases op <;> cases b <;> simp only [if_true,if_false,fW,Bool.true_eq_false] at hx1 ⊢
    ·exact wpAny_pure (P _ _ Z1 ρ1 σ1 _ _ hx1 e1 p1 I1 R1)
    ·exact ih (s:={ s with heap:=h1,toks:=tk }) I1 (Fr.mono e1 p1) hx1 (P.go e1 p1 _ _)
    ·exact ih (s:={ s with heap:=h1,toks:=tk }) I1 (Fr.mono e1 p1) hx1 (P.go e1 p1 _ _)
    ·exact wpAny_pure (P _ _ Z1 ρ1 σ1 _ _ hx1 e1 p1 I1 R1)
theorem eok_and {irs:List E} {es:List Expr} {pos:Pos} (hsm:∃ o,B.h0.get? sysModules=some o) (h:EsOk B C Ar env irs es):EOk B C Ar env (.and irs) (.BoolOp .And es pos):=by
 intro Z N ρ σ m s K Q F I Fr hx P
 rw [xE_and] at hx
 exact bs_ok hsm (op:=.And) h I Fr hx P
theorem eok_or {irs:List E} {es:List Expr} {pos:Pos} (hsm:∃ o,B.h0.get? sysModules=some o) (h:EsOk B C Ar env irs es):EOk B C Ar env (.or irs) (.BoolOp .Or es pos):=by
 intro Z N ρ σ m s K Q F I Fr hx P
 rw [xE_or] at hx
 exact bs_ok hsm (op:=.Or) h I Fr hx P
theorem c5A {Z:Zm} {ρ:List Addr}:∀ {as:List A} {vals:List Value} {vs:List V},p2A B Z ρ as vals→allV as=some vs→RepL B Z vs vals
 | [],vals,vs,hr,ha=>by
  simp only [a3B,z2B] at hr;subst hr;simp only [allV_0,allV_1,x5A,w5A,fJ] at ha;subst ha;exact s1A
 | .v x::as,vals,vs,hr,ha=>by
  obtain ⟨v,r,rfl,h1,h2⟩:=hr
  simp only [allV_0,allV_1,x5A,w5A] at ha
  cases h:allV as with
  | none=>rw [h] at ha;cases ha
  | some ws=>rw [h] at ha;cases ha;exact x0A h1 (c5A h2 h)
 | .ref _::_,_,_,_,ha=>by simp [allV_0,allV_1,x5A,w5A] at ha
 | .inst _ _::_,_,_,_,ha=>by simp [allV_0,allV_1,x5A,w5A] at ha
theorem a0B:∀ {as:List A} {vs:List V},allV as=some vs→vs.length=as.length
 | [],vs,h=>by simp [allV_0,allV_1,x5A,w5A] at h;subst h;rfl
 | .v x::as,vs,h=>by
  simp only [allV_0,allV_1,x5A,w5A] at h
  cases h':allV as with
  | none=>rw [h'] at h;cases h
  | some ws=>rw [h'] at h;cases h;simp [a0B h']
 | .ref _::_,_,h=>by simp [allV_0,allV_1,x5A,w5A] at h
 | .inst _ _::_,_,h=>by simp [allV_0,allV_1,x5A,w5A] at h
theorem eok_tup {irs:List E} {es:List Expr} {k:Nat} {pos:Pos} (h:EsOk B C Ar env irs es) (hlen:irs.length<1000):EOk B C Ar env (.tup irs) (.Tuple es k pos):=by
 intro Z N ρ σ m s K Q F I Fr hx P
 rw [xE_tup] at hx
 refine wpAny_Tuple_spliced (j7A h I Fr hx ?_)
 intro as vs Z1 ρ1 σ1 h1 t1 hl hx1 e1 p1 I1 R1
 cases ha:allV as with
 | none=>rw [ha] at hx1;exact hx1.elim
 | some ws=>
  rw [ha] at hx1
  have hr:=c5A R1 ha
  have hlv:ws.length<1000:=by rw [a0B ha,hl];exact hlen
  have hlv':vs.length<1000:=by rw [f0A hr];exact hlv
  refine ⟨k_sz hlv',?_⟩
  have I2:=I1.push (h0B vs 0) rfl
  refine P _ _ _ ρ1 σ1 _ _ hx1 (e1.trans I2.freeze_ext) p1 I2.freeze ?_
  exact ⟨_,vs,0,rfl,by simp [Inv.zset],k21 hlv,hr.mono I2.freeze_ext⟩
theorem eok_ifx {c a b:E} {ce ae be:Expr} {pos:Pos} (hc:TOk B C Ar env c ce) (ha:EOk B C Ar env a ae) (hb:EOk B C Ar env b be):EOk B C Ar env (.ifx c a b) (.IfExp ce ae be pos):=by
 intro Z N ρ σ m s K Q F I Fr hx P
 rw [xE_ifx] at hx
 refine wpAny_IfExp (hc Z N ρ σ m s _ _ F I Fr hx ?_)
 intro r Z1 ρ1 σ1 h1 t1 hx1 e1 p1 I1
 cases r with
 | true=>exact ha Z1 N ρ1 σ1 m _ K Q F I1 (Fr.mono e1 p1) hx1 (P.go e1 p1 _ _)
 | false=>exact hb Z1 N ρ1 σ1 m _ K Q F I1 (Fr.mono e1 p1) hx1 (P.go e1 p1 _ _)
noncomputable def PostN (B:Bs) (Z:Zm) (N:Led) (ρ:List Addr) (s:Shared) (K:List V→H→Prop) (Q:Value→Shared→Prop):Prop:=
 ∀ xs a items n Z' ρ' σ' h' tk,small xs→K xs σ'→Ext Z Z'→ρ <+: ρ'→Inv B Z' ((a,c0A items n)::N) ρ' σ' h'→RepL B Z' xs items→Q (.ref a) { s with heap:=h',toks:=tk }
noncomputable def LOk (B:Bs) (C:a0A) (Ar:Around) (env:Env) (ir:L) (e:Expr):Prop:=
 ∀ (Z:Zm) (N:Led) (ρ:List Addr) (σ:H) (m:Loc) (s:Shared) (K:List V→H→Prop) (Q:Value→Shared→Prop) (F:Value→Shared→Prop),
  Inv B Z N ρ σ s.heap→Frm B env Z ρ m N→xL C ir m σ (fun xs σ=>small xs∧K xs σ)→PostN B Z N ρ s K Q→wpAny (model B.prog B.w) Ar (eval e env) Q F s
theorem eok_fz {l:L} {e:Expr} (h:LOk B C Ar env l e):EOk B C Ar env (.fz l) e:=by
 intro Z N ρ σ m s K Q F I Fr hx P
 rw [xE_fz] at hx
 refine h Z N ρ σ m s (fun xs σ=>K (.v (.list xs)) σ) Q F I Fr hx ?_
 intro xs a items n Z1 ρ1 σ1 h1 t1 hsm hk e1 p1 I1 R1
 refine P _ _ _ ρ1 σ1 _ _ hk (e1.trans I1.freeze_ext) p1 I1.freeze ?_
 exact ⟨a,items,n,rfl,by simp [Inv.zset],sm21 hsm,R1.mono I1.freeze_ext⟩
theorem eok_mu {l:L} {e:Expr} (h:LOk B C Ar env l e):EOk B C Ar env (.mu l) e:=by
 intro Z N ρ σ m s K Q F I Fr hx P
 rw [xE_mu] at hx
 refine h Z N ρ σ m s (fun xs σ=>K (.ref σ.length) (σ++[.list xs])) Q F I Fr hx ?_
 intro xs a items n Z1 ρ1 σ1 h1 t1 hsm hk e1 p1 I1 R1
 refine P _ _ _ (ρ1++[a]) _ _ _ hk e1 (p1.trans (List.prefix_append _ _)) (I1.newRef ⟨items,n,rfl,sm21 hsm,R1⟩) ?_
 exact ⟨a,by rw [← I1.len];simp,rfl⟩
theorem lok_disp {irs:List E} {es:List Expr} {pos:Pos} (h:EsOk B C Ar env irs es) (hlen:irs.length<1000):LOk B C Ar env (.disp irs) (.List es pos):=by
 intro Z N ρ σ m s K Q F I Fr hx P
 rw [xL_disp] at hx
 refine wpAny_List_spliced (j7A h I Fr hx ?_)
 intro as vs Z1 ρ1 σ1 h1 t1 hl hx1 e1 p1 I1 R1
 cases ha:allV as with
 | none=>rw [ha] at hx1;exact hx1.elim
 | some ws=>
  rw [ha] at hx1
  have hr:=c5A R1 ha
  have hlv:ws.length<1000:=by rw [a0B ha,hl];exact hlen
  have hlv':vs.length<1000:=by rw [f0A hr];exact hlv
  refine ⟨k_sz hlv',?_⟩
  exact P ws _ vs 0 Z1 ρ1 σ1 _ _ hx1.1 hx1.2 e1 p1 (I1.push (c0A vs 0) rfl) hr
theorem o9B {n:Nat} {k:Int} {j:Nat} (hi:idx n k=some j) (hn:n<2 ^ 21):seqIndex? k n=some j∧-(2 ^ 63)≤k∧k<2 ^ 63:=by
 unfold idx at hi
 unfold seqIndex?
 by_cases h0:0≤k
 ·rw [if_pos h0] at hi
  by_cases h1:k<(n:Nat)
  ·rw [if_pos h1] at hi;cases hi
   have h2:¬ k<0:=by lia
   simp only [h2,if_false]
   refine ⟨?_,by lia,by lia⟩
   rw [if_pos (by simp;lia)]
  ·rw [if_neg h1] at hi;exact nons hi
 ·rw [if_neg h0] at hi
  by_cases h1:0≤k+(n:Nat)
  ·rw [if_pos h1] at hi;cases hi
   have h2:k<0:=by lia
   simp only [h2,if_true]
   refine ⟨?_,by lia,by lia⟩
   rw [if_pos (by simp;lia)]
  ·rw [if_neg h1] at hi;exact nons hi
theorem f4B {xs:List V} {i:A} {r:V} {ρ:List Addr} {Z:Zm} {vi:Value} (Ri:RepA B Z ρ i vi) (h:x1A xs i=some r):∃ k t j,vi=.int k t∧idx xs.length k=some j∧xs[j]?=some r:=by
 refine binE h fun k hk h=>?_
 refine binE h fun j hj h=>?_
 rw [e3A hk] at Ri
 obtain ⟨t,rfl⟩:=Ri
 exact ⟨k,t,j,rfl,hj,h⟩
theorem itemM_of {kvs:List (Ky×V)} {i:A} {r:V} {ρ:List Addr} {Z:Zm} {vi:Value} (Ri:RepA B Z ρ i vi) (h:j9A kvs i=some r):∃ k,t3A Z k vi∧kFit kvs k=true∧kget kvs k=some r:=by
 refine binE h fun k hk h=>?_
 refine binE hk fun x hx hk=>?_
 rw [i2A hx,vK_of hk] at Ri
 by_cases hf:kFit kvs k=true
 ·rw [if_pos hf] at h;exact ⟨k,b6A Ri,hf,h⟩
 ·rw [if_neg hf] at h;exact nons h
theorem item_ok {Z N ρ σ} {s:Shared} {a i:A} {r:V} {va vi:Value} {Q:Value→Shared→Prop} {ev es:Expr} (hsm:∃ o,B.h0.get? sysModules=some o) (hu:Ar.units+80<cLine) (hsl:∀ b c d p,es≠.Slice b c d p) (I:Inv B Z N ρ σ s.heap) (Ra:RepA B Z ρ a va) (Ri:RepA B Z ρ i vi) (h:o2A σ a i=some r)
  (hQ:∀ v tk,RepV B Z r v→Q v { s with toks:=tk }):wpAny (model B.prog B.w) Ar (subscriptTail ev es va vi) Q F s:=by
 have hs:∀ o i,subscripted es false o i=operate [o,i] (getItem o i):=by
  intro o i
  cases es <;> first | rfl | (exact absurd rfl (hsl _ _ _ _))
 have lst:∀ (l:Addr) (items:List Value) (n:Nat) (xs:List V),s.heap.get? l=some (c0A items n)→xs.length<2 ^ 21→RepL B Z xs items→x1A xs i=some r→wpAny (model B.prog B.w) Ar (subscriptTail ev es (.ref l) vi) Q F s:=by
  intro l items n xs hg hlt hr h
  refine bc fun zZ=>?_
  obtain ⟨k,t,j,rfl,hj,hx⟩:=f4B Ri h
  obtain ⟨v,hv,hrv⟩:=a1A hr hx
  refine zZ ?_;clear zZ
  have hL:=i0A hg
  have hl:=f0A hr
  have hjlt:j<items.length:=(jQ.mp hv).1
  unfold idx at hj
  split at hj
  ·rename_i h0
   split at hj
   ·rename_i h1;cases hj
    exact tail_any hL.typeIs slot_list_getitem.lookup (wpAny_getItem_list hL h0 (by lia) (by simpa using hv) (hQ v s.toks hrv)) (hs _ _)
   ·cases hj
  ·rename_i h0
   split at hj
   ·rename_i h1;cases hj
    exact tail_any hL.typeIs slot_list_getitem.lookup (wpAny_getItem_list_neg hL (by lia) (by simp;lia) (by lia) (by rw [← hl] at hv;simpa using hv) (hQ v s.toks hrv)) (hs _ _)
   ·cases hj
 have dct:∀ (l:Addr) (des:List DictEntry) (n:Nat) (kvs:List (Ky×V)),s.heap.get? l=some (e0A des n)→Ks B Z (kvs.map (·.1)) des→RepL B Z (kvs.map (·.2)) (des.map (·.val))→j9A kvs i=some r→wpAny (model B.prog B.w) Ar (subscriptTail ev es (.ref l) vi) Q F s:=by
  intro l des n kvs hg hK hV h
  refine bc fun zZ=>?_
  obtain ⟨k,hk,hf,hy⟩:=itemM_of Ri h
  refine zZ ?_;clear zZ
  exact tail_any (T:= "dict") ⟨_,hg,rfl⟩ slot_dict_getitem.lookup (ditem_ok (vQ (bW (by decide) _) hu) I.zin hg hK hV hf hk hy hQ) (hs _ _)
 cases a with
 | v y=>
  cases y with
  | list xs=>
   refine bc fun zZ=>?_
   obtain ⟨l,items,n,rfl,hz,hlt,hr⟩:=Ra
   refine zZ ?_;clear zZ
   exact lst l items n xs (I.zin _ _ hz) hlt hr h
  | tup xs=>
   refine bc fun zZ=>?_
   obtain ⟨k,t,j,rfl,hi,hx⟩:=f4B Ri h
   obtain ⟨l,items,n,rfl,hz,hlt,hr⟩:=Ra
   obtain ⟨v,hv,hrv⟩:=a1A hr hx
   refine zZ ?_;clear zZ
   have hl:=f0A hr
   have hT:IsTup s.heap l items.toArray:=⟨_,I.zin _ _ hz,rfl,n,rfl⟩
   have hsi:=o9B (hl ▸ hi) (by lia)
   exact tail_any hT.typeIs slot_tuple_getitem.lookup (PyProof.Rows.getItem_tuple hT hsi.2.1 hsi.2.2 (by simpa using hsi.1) (by simpa using hv) (hQ v s.toks hrv)) (hs _ _)
  | dict ks vs=>
   refine bc fun zZ=>?_
   obtain ⟨l,des,n,rfl,hg,_,hK,hV⟩:=q9A I Ra
   refine zZ ?_;clear zZ
   exact dct l des n _ hg hK hV h
  | _=>exact nons h
 | ref rr=>
  refine bc fun zZ=>?_
  obtain ⟨l,e,rfl⟩:=Ra
  refine zZ ?_;clear zZ
  refine binE h fun o ho h=>?_
  cases o with
  | list xs=>
   refine bc fun zZ=>?_
   obtain ⟨_,o,hg,items,n,rfl,hlt,hr⟩:=I.live rr l _ e ho (fun e=>nomatch e)
   refine zZ ?_;clear zZ
   exact lst l items n xs hg hlt hr h
  | map kvs=>
   refine bc fun zZ=>?_
   obtain ⟨des,n,hg,_,hK,hV,_⟩:=w2A hsm I e ho rfl
   refine zZ ?_;clear zZ
   exact dct l des n kvs hg hK hV h
  | _=>exact nons h
 | inst _ _=>exact nons h
theorem eok_item {a i:E} {ev es:Expr} {pos:Pos} (hsm:∃ o,B.h0.get? sysModules=some o) (hu:Ar.units+80<cLine) (hsl:∀ b c d p,es≠.Slice b c d p) (ha:EOk B C Ar env a ev) (hi:EOk B C Ar env i es):EOk B C Ar env (.item a i) (.Subscript ev es pos):=by
 intro Z N ρ σ m s K Q F I Fr hx P
 rw [xE_item] at hx
 refine Subscript_ (ha Z N ρ σ m s _ _ F I Fr hx ?_)
 intro va v Z1 ρ1 σ1 h1 t1 hx1 e1 p1 I1 R1
 refine hi Z1 N ρ1 σ1 m _ _ _ F I1 (Fr.mono e1 p1) hx1 ?_
 intro vi w Z2 ρ2 σ2 h2 t2 hx2 e2 p2 I2 R2
 cases hq:o2A σ2 va vi with
 | none=>rw [hq] at hx2;exact hx2.elim
 | some r=>
  rw [hq] at hx2
  exact item_ok hsm hu hsl I2 (R1.mono e2 p2) R2 hq fun v tk hr=>P _ _ Z2 ρ2 σ2 _ _ hx2 (e1.trans e2) (p1.trans p2) I2 hr
end
end Fl
namespace Fl
open PySem PyProof.Rows
section
variable {B:Bs} {C:a0A} {Ar:Around} {env:Env} {F:Value→Shared→Prop}
theorem v0C {f:Value} {irs:List E} {es:List Expr} {pos:Pos} (hf:(∃ id,f=.builtin id)∨(∃ T,f=.type T)) (h:EsOk B C Ar env irs es)
  {Z N ρ σ m} {s:Shared} {K:List A→H→Prop} {Q:Value→Shared→Prop} (I:Inv B Z N ρ σ s.heap) (Fr:Frm B env Z ρ m N) (hx:xEs C irs m σ K)
  (P:o1C B irs.length Z N ρ s K (fun vs s'=>wpAny (model B.prog B.w) Ar (call f vs) Q F s')):wpAny (model B.prog B.w) Ar (callWith pos f [] (backTo pos (starEach es env)) []) Q F s:=by
 have hp:=q0A (env:=env) (pos:=pos) h.un
 have key:wpAny (model B.prog B.w) Ar (evalArgs f true (backTo pos (starEach es env)) []) (fun a s₁=>wpAny (model B.prog B.w) Ar (call f ([]++a.pos) a.kw) Q F s₁) F s:=by
  cases h with
  | nil=>
   simp only [xEs_nil,xEs_cons] at hx
   refine PyProof.Rows.evalArgs_none ?_
   exact P [] [] Z ρ σ s.heap s.toks rfl hx (Ext.refl _) (eW _) I rfl
  | cons he hu hr=>
   have h':=j7A (F:=F) (pos:=pos) (EsOk.cons he hu hr) I Fr hx P
   rw [k0A hu] at h' ⊢
   exact Calls.evalArgs_plain h'
 rcases hf with ⟨id,rfl⟩ | ⟨T,rfl⟩
 ·exact Calls.callWith_builtin hp key
 ·exact PySem.callWith_type hp key
theorem s1B {nm:Str} {f:Value} {irs:List E} {es:List Expr} {p pos:Pos} (hg:z5A B nm f) (hk:env.kindOf nm=some .globalImplicit) (hd:(nm == ("__debug__" : Str))=false) (hf:(∃ id,f=.builtin id)∨(∃ T,f=.type T)) (h:EsOk B C Ar env irs es)
  {Z N ρ σ m} {s:Shared} {K:List A→H→Prop} {Q:Value→Shared→Prop} (I:Inv B Z N ρ σ s.heap) (Fr:Frm B env Z ρ m N) (hx:xEs C irs m σ K)
  (P:o1C B irs.length Z N ρ s K (fun vs s'=>wpAny (model B.prog B.w) Ar (call f vs) Q F s')):wpAny (model B.prog B.w) Ar (eval (.Call (.Name nm p) es [] pos) env) Q F s:=
 wpAny_Call_NameR (n3A I Fr hg hk hd (v0C hf h I Fr hx P))
theorem len_ok {Z N ρ σ} {s:Shared} {a:A} {v:Value} {n:Nat} {Q:Value→Shared→Prop} (hsm:∃ o,B.h0.get? sysModules=some o) (I:Inv B Z N ρ σ s.heap) (R:RepA B Z ρ a v) (h:lenA σ a=some n)
  (hQ:∀ t tk,Q (.int n t) { s with toks:=tk }):wpAny (model B.prog B.w) Ar (call (.builtin "len") [v]) Q F s:=by
 have lst:∀ (l:Addr) (items:List Value) (k:Nat),s.heap.get? l=some (c0A items k)→items.length=n→n<2 ^ 21→wpAny (model B.prog B.w) Ar (call (.builtin "len") [.ref l]) Q F s:=by
  intro l items k hg hk hlt
  exact len_list (i0A hg) (by simp;lia) (by simpa [hk] using hQ _ _)
 cases a with
 | v x=>
  cases x with
  | list xs=>
   obtain rfl:=pQ h
   obtain ⟨l,items,k,rfl,hz,hs,hr⟩:=R
   exact lst l items k (I.zin _ _ hz) (f0A hr) hs
  | tup xs=>
   obtain rfl:=pQ h
   obtain ⟨l,items,k,rfl,hz,hs,hr⟩:=R
   have hT:IsTup s.heap l items.toArray:=⟨_,I.zin _ _ hz,rfl,k,rfl⟩
   have hl:=f0A hr
   exact len_tuple hT (by simp;lia) (by simpa [hl] using hQ _ _)
  | dict ks vs=>
   obtain ⟨l,es,k,rfl,hg,hne,hK,hV⟩:=q9A I R
   have h:(if (ks.zip vs).all (fun q=>kInt q.1) then some (ks.zip vs).length else Option.none)=some n:=h
   by_cases hc:(ks.zip vs).all (fun q=>kInt q.1)=true
   ·rw [if_pos hc] at h
    have hki:∀ q∈(ks.zip vs).map (·.1),kInt q=true:=fun q hq=>by
     obtain ⟨y,hy,rfl⟩:=qQ.mp hq
     exact z2Q.mp hc y hy
    obtain ⟨iw,h3,h4,h5⟩:=x8B hK.1 hki
    have hil:iw.length=n:=by
     have:=congrArg List.length h5
     rw [eQ,eQ,eQ] at this
     rw [this];exact pQ h
    have hb:=hK.2.2
    rw [eQ,pQ h] at hb
    refine call_len_dict (knd:=intKind B.prog B.w) (kvs:=iw) hne ⟨_,_,k,hg,⟨rfl,rfl,rfl⟩,rfl,h3,by rw [List.toList_toArray];exact h4,by rw [h5];exact p6B hki hK.2.1⟩ (by rw [hil];exact rZ.mpr (z7W hb (by decide))) ?_
    rw [hil];exact hQ _ _
   ·rw [if_neg hc] at h;exact nons h
  | _=>exact nons h
 | ref i=>
  obtain ⟨l,e,rfl⟩:=R
  obtain ⟨xs,hi,rfl⟩:=xQ.mp h
  obtain ⟨items,k,hg,hs,hr⟩:=g2B I e hi
  exact lst l items k hg (f0A hr) hs
 | inst _ _=>exact nons h
theorem min2_ok {Z N ρ σ} {s:Shared} {i j:Int} {t u:Tok} {Q:Value→Shared→Prop} (hh:Ar.handled=none) (I:Inv B Z N ρ σ s.heap)
  (hQ:∀ t h' tk,Inv B Z N ρ σ h'→Q (.int (min i j) t) { s with heap:=h',toks:=tk }):wpAny (model B.prog B.w) Ar (call (.builtin "min") [.int i t,.int j u]) Q F s:=by
 refine min_two_ints hh fun h' tk hk=>?_
 have:=fun t=>hQ t h' tk (I.keeps hk)
 by_cases h:j<i
 ·rw [if_pos h];rw [Int.min_eq_right (z4Z h)] at this;exact this u
 ·rw [if_neg h];rw [z0K (kZ.mp h)] at this;exact this t
theorem max2_ok {Z N ρ σ} {s:Shared} {i j:Int} {t u:Tok} {Q:Value→Shared→Prop} (hh:Ar.handled=none) (I:Inv B Z N ρ σ s.heap)
  (hQ:∀ t h' tk,Inv B Z N ρ σ h'→Q (.int (max i j) t) { s with heap:=h',toks:=tk }):wpAny (model B.prog B.w) Ar (call (.builtin "max") [.int i t,.int j u]) Q F s:=by
 refine max_two_ints hh fun h' tk hk=>?_
 have:=fun t=>hQ t h' tk (I.keeps hk)
 by_cases h:j > i
 ·rw [if_pos h];rw [Int.max_eq_right (z4Z h)] at this;exact this u
 ·rw [if_neg h];rw [Int.max_eq_left (kZ.mp h)] at this;exact this t
theorem mm_ok {Z N ρ σ} {s:Shared} {mx:Bool} {i j:Int} {v:Value} {Q:Value→Shared→Prop} (hh:Ar.handled=none) (I:Inv B Z N ρ σ s.heap) (R:RepV B Z (.tup [.int i,.int j]) v)
  (hQ:∀ t h' tk,Inv B Z N ρ σ h'→Q (.int (if mx then max i j else min i j) t) { s with heap:=h',toks:=tk }):wpAny (model B.prog B.w) Ar (call (.builtin (if mx then "max" else "min")) [v]) Q F s:=by
 refine bc fun zZ=>?_
 obtain ⟨l,items,n,rfl,hz,_,v1,r1,rfl,⟨t,rfl⟩,v2,r2,rfl,⟨u,rfl⟩,hr2⟩:=R
 refine zZ ?_;clear zZ
 obtain rfl:r2=[]:=hr2
 have hg:=I.zin _ _ hz
 have hlt:l<s.heap.objs.size:=iW hg
 have hT:s.heap.IsTuple l [Value.int i t,.int j u].toArray:=⟨_,hg,rfl,n,rfl⟩
 have fp:∀ b∈[s.heap.objs.size,l],b<(s.heap.push { cls:=.type "tuple_iterator", data:=.fields #[.ref l,.int 0 0] }).objs.size:=by
  intro b hb;rw [z7K];simp only [lQ,pW,or_false] at hb;rcases hb with e | e <;> rw [e] <;> first | exact nZ _ | exact z8Z hlt
 have old:∀ {oi:Obj} {h':Heap},(∀ b o,b∉[s.heap.objs.size]→(s.heap.push oi).get? b=some o→h'.get? b=some o)→∀ b o,s.heap.get? b=some o→h'.get? b=some o:=by
  intro oi h' hk b o e
  refine hk b o (fun hm=>?_) (z7Q _ e)
  simp at hm
  exact absurd (hm ▸ iW e) (wW _)
 have val:∀ (k:Nat) (w:Value),[Value.int i t,.int j u].toArray[k]?=some w→∃ t,w=.int ([i,j].getD k 0) t:=by
  intro k w h
  match k,h with
  | 0,h=>cases h;exact ⟨_,rfl⟩
  | 1,h=>cases h;exact ⟨_,rfl⟩
 cases mx with
 | true=>
  refine call_max_walk (wpAny_pyIter_tuple hT ?_)
  refine ⟨_,_,_,_,_,_,fun a b=>decide ([i,j].getD a 0 > [i,j].getD b 0),rfl,Walks.tuple (A:=Ar.in1) hh _ l (z9W hlt) _,⟨⟨_,z0W _ rfl,rfl,rfl⟩,hT.push _⟩,fp,vZ 1,CmpOf.ints_gt _ val,fun w h' tk hP hk=>?_⟩
  have hI:=I.keeps (old hk)
  have hP:[Value.int i t,.int j u].toArray[if decide (j > i)=true then 1 else 0]?=some w:=hP
  by_cases h:j > i
  ·rw [decide_eq_true h] at hP
   cases hP
   have:=hQ u h' tk hI
   rw [if_pos rfl,Int.max_eq_right (z4Z h)] at this;exact this
  ·rw [decide_eq_false h] at hP
   cases hP
   have:=hQ t h' tk hI
   rw [if_pos rfl,Int.max_eq_left (kZ.mp h)] at this;exact this
 | false=>
  refine call_min_walk (wpAny_pyIter_tuple hT ?_)
  refine ⟨_,_,_,_,_,_,fun a b=>decide ([i,j].getD a 0<[i,j].getD b 0),rfl,Walks.tuple (A:=Ar.in1) hh _ l (z9W hlt) _,⟨⟨_,z0W _ rfl,rfl,rfl⟩,hT.push _⟩,fp,vZ 1,CmpOf.ints_lt _ val,fun w h' tk hP hk=>?_⟩
  have hI:=I.keeps (old hk)
  have hP:[Value.int i t,.int j u].toArray[if decide (j<i)=true then 1 else 0]?=some w:=hP
  by_cases h:j<i
  ·rw [decide_eq_true h] at hP
   cases hP
   have:=hQ u h' tk hI
   rw [if_neg (fun e=>nomatch e),Int.min_eq_right (z4Z h)] at this;exact this
  ·rw [decide_eq_false h] at hP
   cases hP
   have:=hQ t h' tk hI
   rw [if_neg (fun e=>nomatch e),z0K (kZ.mp h)] at this;exact this
end
end Fl
namespace Fl
open PySem PyProof.Rows
noncomputable def i7A:List (String×Value):=[("len", .builtin "len"),("min", .builtin "min"),("max", .builtin "max"),("sorted", .builtin "sorted"),("isinstance", .builtin "isinstance"),
 ("list", .type "list"),("tuple", .type "tuple"),("range", .type "range"),("int", .type "int"),("bool", .type "bool"),("set", .type "set"),("reversed", .type "reversed"),("enumerate", .type "enumerate"),("zip", .type "zip")]
structure BOk (B:Bs):Prop where
 sysm:∃ o,B.h0.get? sysModules=some o
 nolim:B.h0.NoLimit
 bn:∀ x v,(x,v)∈i7A→z5A B (Str.ofString x) v
theorem w3A {α:Type} {l:List (String×α)} {x:String} {a:α} (h:l.lookup x=some a):(x,a)∈l:=by
 induction l with
 | nil=>simp at h
 | cons p r ih=>
  obtain ⟨y,b⟩:=p
  rw [wZ] at h
  cases hq:x == y with
  | true=>rw [hq] at h;cases h;rw [beq_iff_eq.mp hq];exact aQ
  | false=>rw [hq] at h;exact bQ _ (ih h)
theorem BOk.at {B:Bs} (O:BOk B) (x:String) (v:Value) (h:i7A.lookup x=some v):z5A B (Str.ofString x) v:=O.bn x v (w3A h)
noncomputable def z0C:Bi→String
 | .len=> "len" | .min=> "min" | .max=> "max" | .range=> "range" | .int=> "int"
noncomputable def biVal:Bi→Value
 | .len=>.builtin "len" | .min=>.builtin "min" | .max=>.builtin "max" | .range=>.type "range" | .int=>.type "int"
theorem bi_in (f:Bi):(z0C f,biVal f)∈i7A:=by cases f <;> repeat (first | exact List.Mem.head _ | apply List.Mem.tail)
theorem bi_fn (f:Bi):(∃ id,biVal f=.builtin id)∨(∃ T,biVal f=.type T):=by
 cases f <;> first | exact .inl ⟨_,rfl⟩ | exact .inr ⟨_,rfl⟩
theorem bi_dbg (f:Bi):(Str.ofString (z0C f) == ("__debug__" : Str))=false:=by cases f <;> decide +kernel
section
variable {B:Bs} {C:a0A} {Ar:Around} {env:Env} {F:Value→Shared→Prop}
theorem a4A {Z:Zm} {ρ:List Addr} {a:A} {vs:List Value} (h:p2A B Z ρ [a] vs):∃ v,vs=[v]∧RepA B Z ρ a v:=by
 obtain ⟨v,r,rfl,h1,h2⟩:=h;simp only [a3B,z2B] at h2;subst h2;exact ⟨v,rfl,h1⟩
theorem reps2 {Z:Zm} {ρ:List Addr} {a b:A} {vs:List Value} (h:p2A B Z ρ [a,b] vs):∃ v w,vs=[v,w]∧RepA B Z ρ a v∧RepA B Z ρ b w:=by
 obtain ⟨v,r,rfl,h1,h2⟩:=h;obtain ⟨w,rfl,h3⟩:=a4A h2;exact ⟨v,w,rfl,h1,h3⟩
theorem mms_ok {mx:Bool} {Z N ρ σ} {s:Shared} {as:List A} {vs:List Value} {K:A→Prop} {Q:Value→Shared→Prop} (hh:Ar.handled=none) (I:Inv B Z N ρ σ s.heap) (R:p2A B Z ρ as vs) (h:mmSem mx K as)
  (hQ:∀ a v h' tk,K a→Inv B Z N ρ σ h'→RepA B Z ρ a v→Q v { s with heap:=h',toks:=tk }):wpAny (model B.prog B.w) Ar (call (.builtin (if mx then "max" else "min")) vs) Q F s:=by
 rcases as with _ | ⟨a,_ | ⟨b,_ | ⟨c,r⟩⟩⟩
 ·exact (show False from h).elim
 ·obtain ⟨v,rfl,Ra⟩:=a4A R
  refine getE (show get (asT a) _ from h) fun xs hl h=>?_
  refine getE h fun p hp h=>?_
  refine getE h fun i hi h=>?_
  refine getE h fun j hj hK=>?_
  rw [asT_of hl,m2A hp,o6B hi,o6B hj] at Ra
  exact mm_ok hh I Ra fun t h' tk I'=>hQ _ _ h' tk hK I' ⟨_,rfl⟩
 ·refine getE (show get (asI a) _ from h) fun i hi h=>?_
  refine getE h fun j hj hK=>?_
  obtain ⟨v,w,rfl,R1,R2⟩:=reps2 R
  rw [e3A hi] at R1
  rw [e3A hj] at R2
  obtain ⟨t,rfl⟩:=R1
  obtain ⟨u,rfl⟩:=R2
  cases mx with
  | false=>exact min2_ok hh I fun t h' tk I'=>hQ _ _ h' tk hK I' ⟨_,rfl⟩
  | true=>exact max2_ok hh I fun t h' tk I'=>hQ _ _ h' tk hK I' ⟨_,rfl⟩
 ·exact (show False from h).elim
theorem bi_ok {f:Bi} {Z N ρ σ} {s:Shared} {as:List A} {vs:List Value} {K:A→Prop} {Q:Value→Shared→Prop} (O:BOk B) (hh:Ar.handled=none) (hu:Ar.units+80<cLine) (I:Inv B Z N ρ σ s.heap) (R:p2A B Z ρ as vs) (h:o7A σ K f as)
  (hQ:∀ a v Z' h' tk,K a→Ext Z Z'→Inv B Z' N ρ σ h'→RepA B Z' ρ a v→Q v { s with heap:=h',toks:=tk }):wpAny (model B.prog B.w) Ar (call (biVal f) vs) Q F s:=by
 cases f with
 | len=>
  refine getE h fun a ha h=>?_
  refine getE h fun n hl h=>?_
  rw [k1A ha] at R
  refine bc fun zZ=>?_
  obtain ⟨v,rfl,Ra⟩:=a4A R
  refine zZ ?_;clear zZ
  exact len_ok O.sysm I Ra hl fun t tk=>hQ _ _ Z _ tk h (Ext.refl _) I ⟨_,rfl⟩
 | min=>exact mms_ok (mx:=false) hh I R h fun a v h' tk hk I' R'=>hQ a v Z h' tk hk (Ext.refl _) I' R'
 | max=>exact mms_ok (mx:=true) hh I R h fun a v h' tk hk I' R'=>hQ a v Z h' tk hk (Ext.refl _) I' R'
 | range=>
  refine getE h fun a ha h=>?_
  refine getE h fun n0 hi zQ=>?_
  refine bc fun zZ=>?_
  obtain ⟨h1,h2,h⟩:=zQ
  refine zZ ?_;clear zZ
  rw [k1A ha] at R
  refine bc fun zZ=>?_
  obtain ⟨v,rfl,R1⟩:=a4A R
  refine zZ ?_;clear zZ
  rw [e3A hi] at R1
  obtain ⟨t,rfl⟩:=R1
  refine call_range_1 ?_
  have I1:=I.push (q3B 0 n0 1 s.toks t (s.toks+1)) rfl
  refine hQ _ _ _ _ _ h I1.freeze_ext I1.freeze ?_
  exact ⟨_,s.toks,t,s.toks+1,rfl,by simp [Inv.zset],by lia,by lia,h2,h1⟩
 | int=>
  refine getE h fun a ha h=>?_
  refine getE h fun b hb h=>?_
  rw [k1A ha] at R
  refine bc fun zZ=>?_
  obtain ⟨v,rfl,R1⟩:=a4A R
  refine zZ ?_;clear zZ
  rw [asB_of hb] at R1
  obtain rfl:=R1
  refine call_int_bool ?_
  exact hQ _ _ Z _ _ h (Ext.refl _) I ⟨_,rfl⟩
theorem eok_bi {f:Bi} {irs:List E} {es:List Expr} {p pos:Pos} (O:BOk B) (hh:Ar.handled=none) (hu:Ar.units+80<cLine) (hk:env.kindOf (Str.ofString (z0C f))=some .globalImplicit) (h:EsOk B C Ar env irs es):EOk B C Ar env (.bi f irs) (.Call (.Name (Str.ofString (z0C f)) p) es [] pos):=by
 intro Z N ρ σ m s K Q F I Fr hx P
 rw [xE_bi] at hx
 refine s1B (O.bn _ _ (bi_in f)) hk (bi_dbg f) (bi_fn f) h I Fr hx ?_
 intro as vs Z1 ρ1 σ1 h1 t1 _ hx1 e1 p1 I1 R1
 exact bi_ok O hh hu I1 R1 hx1 fun a v Z2 h2 tk hk e2 I2 R2=>P a v Z2 ρ1 σ1 h2 tk hk (e1.trans e2) p1 I2 R2
end
end Fl
namespace Fl
open PySem PyProof.Rows
section
variable {B:Bs} {C:a0A} {Ar:Around} {env:Env} {F:Value→Shared→Prop}
noncomputable def q1B:Cl→Str
 | .int=> "int" | .bool=> "bool" | .list=> "list" | .tuple=> "tuple"
noncomputable def clVal:Cl→Option Value
 | .int=>some (.type "int") | .bool=>some (.type "bool") | .list=>some (.type "list") | .tuple=>some (.type "tuple")
theorem isi_ok {c:Cl} {cv:Value} {Z N ρ σ} {s:Shared} {a:A} {v:Value} {r:Bool} {Q:Value→Shared→Prop} (hc:clVal c=some cv) (I:Inv B Z N ρ σ s.heap) (R:RepA B Z ρ a v) (h:b3A σ a c=some r)
  (hQ:∀ tk,Q (.bool r) { s with toks:=tk }):wpAny (model B.prog B.w) Ar (call (.builtin "isinstance") [v,cv]) Q F s:=by
 have lst:∀ (l:Addr) (items:List Value) (n:Nat),s.heap.get? l=some (c0A items n)→iL c=some r→wpAny (model B.prog B.w) Ar (call (.builtin "isinstance") [.ref l,cv]) Q F s:=by
  intro l items n hg h
  cases c <;> first | exact nons h | (cases hc;obtain rfl:=pQ h;exact IsiPair.list_list hg rfl (hQ s.toks))
 cases a with
 | v x=>
  cases x with
  | int i=>
   obtain ⟨t,rfl⟩:=R
   cases c with
   | int=>cases hc;obtain rfl:=pQ h;exact IsiPair.int_int (hQ s.toks)
   | bool=>cases hc;obtain rfl:=pQ h;exact IsiPair.int_bool (hQ _)
   | _=>exact nons h
  | bool b=>
   obtain rfl:=R
   cases c with
   | bool=>cases hc;obtain rfl:=pQ h;exact IsiPair.bool_bool (hQ s.toks)
   | _=>exact nons h
  | tup xs=>
   obtain ⟨l,items,n,rfl,hz,_,_⟩:=R
   have hg:=I.zin _ _ hz
   cases c <;> first | exact nons h | (cases hc;obtain rfl:=pQ h;exact IsiPair.tuple_tuple hg rfl (hQ s.toks))
  | list xs=>
   obtain ⟨l,items,n,rfl,hz,_,_⟩:=R
   exact lst l items n (I.zin _ _ hz) h
  | _=>exact nons h
 | ref i=>
  obtain ⟨l,e,rfl⟩:=R
  refine binE h fun its hi h=>?_
  obtain ⟨items,n,hg,_⟩:=g2B I e hi
  exact lst l items n hg h
 | inst _ _=>exact nons h
theorem eok_isi {c:Cl} {cv:Value} {a:E} {e:Expr} {p pc pos:Pos} (O:BOk B) (hcv:clVal c=some cv) (hk:env.kindOf ("isinstance" : Str)=some .globalImplicit) (hkc:env.kindOf (q1B c)=some .globalImplicit) (hu:n1A e=true) (ha:EOk B C Ar env a e) :
  EOk B C Ar env (.isi a c) (.Call (.Name "isinstance" p) [e,.Name (q1B c) pc] [] pos):=by
 intro Z N ρ σ m s K Q F I Fr hx P
 rw [xE_isi] at hx
 refine wpAny_Call_NameR (n3A I Fr (O.at "isinstance" (.builtin "isinstance") rfl) hk (by decide) ?_)
 have hgc:z5A B (q1B c) cv:=by
  cases c <;> cases hcv
  ·exact O.at "int" _ rfl
  ·exact O.at "bool" _ rfl
  ·exact O.at "list" _ rfl
  ·exact O.at "tuple" _ rfl
 have hdc:(q1B c == ("__debug__" : Str))=false:=by cases c <;> cases hcv <;> decide +kernel
 have hp:(backTo pos (starEach [e,.Name (q1B c) pc] env)).any (·.1)=false:=q0A (by rw [z7Z,hu];rfl)
 refine Calls.callWith_builtin hp ?_
 have h':wpAny (model B.prog B.w) Ar (spliced (backTo pos (starEach [e,.Name (q1B c) pc] env))) (fun vs s'=>wpAny (model B.prog B.w) Ar (call (.builtin "isinstance") ([]++vs) []) Q F s') F s:=by
  refine args_cons (ha Z N ρ σ m s _ _ F I Fr hx ?_) (k0A hu)
  intro va v Z1 ρ1 σ1 h1 t1 hx1 e1 p1 I1 R1
  refine args_cons (n3A I1 (Fr.mono e1 p1) hgc hkc hdc (args_nil ?_)) (k0A rfl)
  cases hi:b3A σ1 va c with
  | none=>rw [hi] at hx1;exact hx1.elim
  | some r=>
   rw [hi] at hx1
   exact isi_ok hcv I1 R1 hi fun tk=>P _ _ Z1 ρ1 σ1 _ tk hx1 e1 p1 I1 (by first | exact rfl | exact ⟨_,rfl⟩)
 rw [k0A hu] at h' ⊢
 exact Calls.evalArgs_plain h'
theorem smallR {lo hi:Int} (b1:-(2 ^ 20)<lo) (b2:lo<2 ^ 20) (b3:-(2 ^ 20)<hi) (b4:hi<2 ^ 20):Builtin.Range.small lo hi 1=true:=small_one (by lia) (by lia) (by lia) (by lia)
theorem lok_copy {a:E} {e:Expr} {p pos:Pos} (O:BOk B) (hh:Ar.handled=none) (hk:env.kindOf ("list" : Str)=some .globalImplicit) (hu:n1A e=true) (ha:EOk B C Ar env a e):LOk B C Ar env (.copy a) (.Call (.Name "list" p) [e] [] pos):=by
 intro Z N ρ σ m s K Q F I Fr hx P
 rw [xL_copy] at hx
 have hE:EsOk B C Ar env [a] [e]:=.cons ha hu .nil
 refine s1B (K:=fun as σ=>get (one1 as) fun va=>get (seqV σ va) fun xs=>small xs∧K xs σ) (O.at "list" (.type "list") rfl) hk (by decide) (.inr ⟨_,rfl⟩) hE I Fr (show xEs C [a] m σ _ from hx) ?_
 intro as vs Z1 ρ1 σ1 h1 t1 hl hx1 e1 p1 I1 R1
 cases as with
 | nil=>exact nomatch hl
 | cons va r=>
  cases r with
  | cons _ _=>exact nomatch hl
  | nil=>
   obtain ⟨v,rfl,Ra⟩:=a4A R1
   have hx1:get (seqV σ1 va) fun xs=>small xs∧K xs σ1:=hx1
   refine getE hx1 fun xs hs zQ=>?_
   obtain ⟨hsm,hK⟩:=zQ
   have hlt20:xs.length<2 ^ 20:=hsm
   by_cases hr:∃ lo hi,va=.v (.range lo hi)
   ·obtain ⟨lo,hi,rfl⟩:=hr
    obtain ⟨l,t,u,w,rfl,hz,b1,b2,b3,b4⟩:=Ra
    have hs:(List.range (hi - lo).toNat).map (fun (k:Nat)=>V.int (lo+(k:Int)))=xs:=pQ hs
    have hn:(hi - lo).toNat=xs.length:=by rw [← hs];simp
    refine call_list_range (n:=xs.length) hh (show IsRange _ l lo hi 1 t u w from I1.zin _ _ hz) (smallR b1 b2 b3 b4) (by rw [rangeSize_nat,hn]) (by lia) fun h' tk acc' c' hk' hg hit=>?_
    have I2:=I1.keepsNew (a:=h1.objs.size) (o:=c0A acc'.toList c') hk' (uQ _) (by rw [hg];simp [c0A])
    refine P xs _ acc'.toList c' Z1 ρ1 σ1 h' tk hsm hK e1 p1 I2 ?_
    rw [o3B]
    refine ⟨by simp [hit.1],fun j x hj=>?_⟩
    have hjl:j<xs.length:=(jQ.mp hj).1
    have hja:acc'[j]?=some acc'[j]!:=by
     have:j<acc'.size:=by rw [hit.1];exact hjl
     simp [this]
    obtain ⟨tt,htt⟩:=hit.2 j _ hja
    refine ⟨acc'[j]!,by simpa using hja,?_⟩
    have hx:x=.int (lo+(j:Int)):=by
     rw [← hs] at hj
     simp only [oQ] at hj
     cases hr':(List.range (hi - lo).toNat)[j]? with
     | none=>rw [hr'] at hj;cases hj
     | some k=>
      rw [hr'] at hj
      simp only [Option.map_some,fJ] at hj
      have:k=j:=by
       have:=jQ.mp hr'
       obtain ⟨h1',h2'⟩:=this
       simpa using h2'.symm
      rw [← hj,this]
    rw [hx,htt];exact ⟨tt,by simp⟩
   ·have hlt:y0A σ1 va=some xs:=by
     cases va with
     | v x=>cases x <;> first | exact hs | exact absurd ⟨_,_,rfl⟩ hr | exact nons hs
     | ref i=>exact hs
     | inst _ _=>exact nons hs
    obtain ⟨l,items,n,rfl,hg,hlt',hr'⟩:=b1A I1 Ra hlt
    have hlen:=f0A hr'
    refine call_list_seq l (.inl rfl) hg rfl rfl (fun h' c' hk' hg'=>?_) (by unfold sizeLine;simp;lia)
    have I2:=I1.keepsNew (a:=h1.objs.size) (o:=c0A items c') hk' (uQ _) hg'
    exact P xs _ items c' Z1 ρ1 σ1 h' _ hsm hK e1 p1 I2 hr'
theorem j0C {o:Option E} {eo:Option Expr} (h:match o,eo with | some a,some e=>EOk B C Ar env a e | Option.none,Option.none=>True | _,_=>False)
  {Z N ρ σ m} {s:Shared} {K:Option Int→H→Prop} {Q:Value→Shared→Prop} (I:Inv B Z N ρ σ s.heap) (Fr:Frm B env Z ρ m N) (hx:xO C o m σ K)
  (P:∀ k v Z' ρ' σ' h' tk,K k σ'→Ext Z Z'→ρ <+: ρ'→Inv B Z' N ρ' σ' h'→IsPart v k→Q v { s with heap:=h',toks:=tk }):wpAny (model B.prog B.w) Ar (evalPart eo env) Q F s:=by
 cases o with
 | none=>
  cases eo with
  | none=>simp only [xO_none,xO_some] at hx;exact wpAny_evalPart_none (P Option.none _ Z ρ σ _ s.toks hx (Ext.refl _) (eW _) I .none)
  | some _=>exact h.elim
 | some a=>
  cases eo with
  | none=>exact h.elim
  | some e=>
   simp only [xO_none,xO_some] at hx
   refine wpAny_evalPart_some (h Z N ρ σ m s _ _ F I Fr hx ?_)
   intro va v Z1 ρ1 σ1 h1 t1 hx1 e1 p1 I1 R1
   refine getE hx1 fun i hi hx1=>?_
   rw [e3A hi] at R1
   obtain ⟨t,rfl⟩:=R1
   exact P _ _ Z1 ρ1 σ1 _ _ hx1 e1 p1 I1 (.int _ _)
theorem h7B {Z:Zm} {xs:List V} {items:List Value} (hr:RepL B Z xs items) (lo hi:Option Int):RepL B Z (o1A xs lo hi) (slicePick items.toArray lo hi none).toList:=by
 have hl:=f0A hr
 rw [slicePick_plain]
 have hc:∀ k:Int,clipAt items.toArray.size k=cut xs.length k:=by
  intro k
  have h1:=clipAt_cast items.toArray.size k
  unfold cut
  simp only [z4W,hl] at h1 ⊢
  split at h1
  ·rename_i h0
   rw [if_pos h0]
   refine Int.ofNat.inj (h1.trans ?_)
   rw [z0K (rK (Int.add_le_add_right (z4Z h0) _) (Int.le_of_eq (Int.zero_add _))),Int.max_comm]
   exact (Int.toNat_eq_max _).symm
  ·rename_i h0
   rw [if_neg h0]
   have h0:0≤k:=kZ.mp h0
   refine Int.ofNat.inj (h1.trans ?_)
   rw [Int.max_eq_right (Int.le_min.mpr ⟨h0,qW _⟩)]
   show _=((min k.toNat xs.length:Nat):Int)
   rcases Nat.le_total k.toNat xs.length with q | q
   ·rw [jZ q,nW h0,z0K (by rw [← nW h0];exact Int.ofNat_le.mpr q)]
   ·rw [Nat.min_eq_right q,Int.min_eq_right (by rw [← nW h0];exact Int.ofNat_le.mpr q)]
 have hlo:lo.elim 0 (clipAt items.toArray.size)=loN xs.length lo:=by cases lo <;> simp only [Option.elim,loN,hc]
 have hhi:hi.elim items.toArray.size (clipAt items.toArray.size)=hiN xs.length hi:=by
  cases hi with
  | none=>simp only [Option.elim,hiN,z4W,hl]
  | some k=>simp only [Option.elim,hiN,hc]
 rw [hlo,hhi]
 unfold o1A
 have:=o4A (loN xs.length lo) (m4A (hiN xs.length hi) hr)
 rw [List.drop_take,List.drop_take] at this
 rw [List.drop_take]
 simpa using this
theorem s8B {a:E} {lo hi:Option E} {ev:Expr} {el eh:Option Expr} {p pos:Pos} (ha:EOk B C Ar env a ev) (hl:match lo,el with | some a,some e=>EOk B C Ar env a e | Option.none,Option.none=>True | _,_=>False)
  (hhi:match hi,eh with | some a,some e=>EOk B C Ar env a e | Option.none,Option.none=>True | _,_=>False):LOk B C Ar env (.slice a lo hi) (.Subscript ev (.Slice el eh none p) pos):=by
 intro Z N ρ σ m s K Q F I Fr hx P
 rw [xL_slice] at hx
 refine Subscript_ (ha Z N ρ σ m s _ _ F I Fr hx ?_)
 intro va v Z1 ρ1 σ1 h1 t1 hx1 e1 p1 I1 R1
 refine wpAny_Slice (j0C hl I1 (Fr.mono e1 p1) hx1 ?_)
 intro k vk Z2 ρ2 σ2 h2 t2 hx2 e2 p2 I2 pk
 refine j0C hhi I2 ((Fr.mono e1 p1).mono e2 p2) hx2 ?_
 intro k' vk' Z3 ρ3 σ3 h3 t3 hx3 e3 p3 I3 pk'
 refine wpAny_evalPart_none ?_
 have R3:=(R1.mono e2 p2).mono e3 p3
 cases hL:y0A σ3 va with
 | none=>rw [hL] at hx3;exact hx3.elim
 | some xs=>
  rw [hL] at hx3
  obtain ⟨hsm,hK⟩:=(show small _∧K _ σ3 from hx3)
  have I4:=I3.push ⟨.type "slice", none,.fields #[vk,vk',.none],#[]⟩ rfl
  refine bc fun zZ=>?_
  obtain ⟨l,items,n,rfl,hg,hlt,hr⟩:=b1A I4 R3 hL
  refine zZ ?_;clear zZ
  have hlen:=f0A hr
  refine tail_any (T:= "list") (i0A hg).typeIs slot_list_getitem.lookup ?_ rfl
  refine wpAny_getItem_list_slice (i0A hg) (Heap.IsSliceOf.new _ _ _ _) pk pk' .none (by simp) ?_ (by clear hl hhi;unfold sizeLine;simp;lia)
  have I5:=I4.push (c0A (slicePick items.toArray k k' none).toList 0) rfl
  have I6:Inv B Z3 ((_,c0A (slicePick items.toArray k k' none).toList 0)::N) ρ3 σ3 _:=I5.sub (List.Sublist.cons_cons _ (List.sublist_cons_self _ _))
  refine P (o1A xs k k') _ _ 0 Z3 ρ3 σ3 _ _ hsm hK ((e1.trans e2).trans e3) ((p1.trans p2).trans p3) (by simpa [c0A] using I6) (h7B hr k k')
theorem w5B {a b:E} {l r:Expr} {pos:Pos} (ha:EOk B C Ar env a l) (hb:EOk B C Ar env b r):LOk B C Ar env (.concat a b) (.BinOp l .Add r pos):=by
 intro Z N ρ σ m s K Q F I Fr hx P
 rw [xL_concat] at hx
 refine wpAny_BinOp (ha Z N ρ σ m s _ _ F I Fr hx ?_)
 intro va v Z1 ρ1 σ1 h1 t1 hx1 e1 p1 I1 R1
 refine hb Z1 N ρ1 σ1 m _ _ _ F I1 (Fr.mono e1 p1) hx1 ?_
 intro vb w Z2 ρ2 σ2 h2 t2 hx2 e2 p2 I2 R2
 have R1':=R1.mono e2 p2
 refine getE hx2 fun xs hL hx2=>?_
 refine getE hx2 fun ys hM zQ=>?_
 refine bc fun zZ=>?_
 obtain ⟨hsm,hK⟩:=zQ
 obtain ⟨l,items,n,rfl,hg,hlt,hr⟩:=b1A I2 R1' hL
 obtain ⟨l',items',n',rfl,hg',hlt',hr'⟩:=b1A I2 R2 hM
 refine zZ ?_;clear zZ
 have hlen:=f0A hr
 have hlen':=f0A hr'
 unfold small at hsm
 rw [fQ] at hsm
 have e:items.toArray++items'.toArray=(items++items').toArray:=by simp
 refine concat_meets ⟨_,hg,rfl⟩ ⟨_,hg',rfl⟩ noFill_list_add seq_list_add PySem.F.slot_list_add PySem.F.entry_list_add (PySem.F.args_list_add_2 _ _) (list_addW l l' items.toArray items'.toArray n n' none none #[] #[] (by simp;unfold sizeLine;lia)) ⟨hg,hg',?_⟩
 rw [e]
 exact P (xs++ys) _ (items++items') 0 Z2 ρ2 σ2 _ _ (by unfold small;simp;lia) hK (e1.trans e2) (p1.trans p2) (I2.push (c0A (items++items') 0) rfl) (g1A hr hr')
end
end Fl
namespace Fl
open PySem PyProof.Rows PySem.W
structure COk (B:Bs):Prop where
 kin:Frag.In B.K B.h0
 pg:∀ c C,B.cls c=some C→findIn B.K (.ref C) "__getattribute__" = some (some (.builtin "object.__getattribute__"))∧findIn B.K (.ref C) "__getattr__" = some none∧hasDictIn B.K C=true∧
  findIn B.K (.ref C) "__setattr__" = some (some (.builtin "object.__setattr__"))∧plainOver B.K C=true
 fld:∀ c C f,B.cls c=some C→f∈h0A c→findIn B.K (.ref C) (Str.ofString f)=some none
noncomputable def r1A (ns:List String) (es:List DictEntry):Prop:=∃ ts:List Tok,es.map (·.key)=List.zipWith (fun x t=>Value.str (Str.ofString x) t) ns ts∧ts.length=ns.length
theorem l2A {n:String} {ns:List String} {es:List DictEntry} (h:r1A (n::ns) es):∃ e r t,es=e::r∧e.key=.str (Str.ofString n) t∧r1A ns r:=by
 obtain ⟨ts,h1,h2⟩:=h
 cases ts with
 | nil=>simp at h2
 | cons t ts=>
  cases es with
  | nil=>simp at h1
  | cons e r=>
   simp only [z6Q,List.zipWith_cons_cons,zK] at h1
   exact ⟨e,r,t,rfl,h1.1,ts,h1.2,by simpa using h2⟩
theorem i4A {es:List DictEntry} (h:r1A [] es):es=[]:=by
 obtain ⟨ts,h1,h2⟩:=h;cases es <;> simp at h1 ⊢
section
variable {B:Bs} {C:a0A} {Ar:Around} {env:Env} {F:Value→Shared→Prop}
theorem a6B {Z:Zm} {f:String}:∀ {ns:List String} {es:List DictEntry} {fs:List V} {r:V},r1A ns es→RepL B Z fs (es.map (·.val))→g2A ns fs f=some r→∃ v,getL (Str.ofString f) es=some (some v)∧RepV B Z r v:=by
 intro ns
 induction ns with
 | nil=>intro es fs r _ _ h;simp [y6A,x6A,w6A] at h
 | cons n ns ih=>
  intro es fs r hk hr h
  refine bc fun zZ=>?_
  obtain ⟨e,es',t,rfl,he,hk'⟩:=l2A hk
  refine zZ ?_;clear zZ
  cases fs with
  | nil=>simp [y6A,x6A,w6A] at h
  | cons x fs=>
   simp only [z6Q,n0A,m0A,zK] at hr
   refine bc fun zZ=>?_
   obtain ⟨v,vs,⟨rfl,rfl⟩,h1,h2⟩:=hr
   refine zZ ?_;clear zZ
   simp only [y6A,x6A,w6A] at h
   by_cases hnf:n=f
   ·rw [if_pos hnf] at h;cases h
    refine ⟨e.val,?_,h1⟩
    simp only [getL,List.find?_cons,he,Value.isStr,hnf,beq_self_eq_true]
   ·rw [if_neg hnf] at h
    refine bc fun zZ=>?_
    obtain ⟨w,hw,hrw⟩:=ih hk' h2 h
    refine zZ ?_;clear zZ
    refine ⟨w,?_,hrw⟩
    have hne:(Str.ofString n == Str.ofString f)=false:=by
     cases hq:Str.ofString n == Str.ofString f with
     | false=>rfl
     | true=>exact absurd (e1A (beq_iff_eq.mp hq)) hnf
    simp only [getL,List.find?_cons,he,Value.isStr,hne] at hw ⊢
    split at hw
    ·rename_i e' he';rw [he'];exact hw
    ·rename_i he';rw [he']
     have hrk:e.refKey=false:=by simp [DictEntry.refKey,he]
     simpa [List.any_cons,hrk] using hw
theorem v9B {f:String}:∀ {ns:List String} {es:List DictEntry},r1A ns es→f∉ns→getL (Str.ofString f) es=some none:=by
 intro ns
 induction ns with
 | nil=>intro es hk _;rw [i4A hk];rfl
 | cons n ns ih=>
  intro es hk hn
  obtain ⟨e,es',t,rfl,he,hk'⟩:=l2A hk
  have hne:(Str.ofString n == Str.ofString f)=false:=by
   cases hq:Str.ofString n == Str.ofString f with
   | false=>rfl
   | true=>exact absurd (e1A (beq_iff_eq.mp hq)) (fun e=>hn (by rw [e];simp))
  have:=ih hk' (fun h=>hn (by simp [h]))
  simp only [getL,List.find?_cons,he,Value.isStr,hne] at this ⊢
  have hrk:e.refKey=false:=by simp [DictEntry.refKey,he]
  split at this
  ·rename_i e' he';rw [he'];exact this
  ·rename_i he';rw [he'];simpa [List.any_cons,hrk] using this
theorem z5B {Z:Zm} {x:V} {v:Value} (h:RepV B Z x v):handedIn v=true:=by
 have:=q8B (ρ:=[]) (show RepA B Z [] (.v x) v from h)
 cases this <;> rfl
theorem attr_ok {Z N ρ σ} {s:Shared} {a:A} {v:Value} {f:String} {r:V} {Q:Value→Shared→Prop} (O:COk B) (I:Inv B Z N ρ σ s.heap) (R:RepA B Z ρ a v) (h:y9A a f=some r)
  (hf:∀ c C,B.cls c=some C→f∈h0A c) (hQ:∀ w tk,RepV B Z r w→Q w { s with toks:=tk }):wpAny (model B.prog B.w) Ar (getAttr v (Str.ofString f) true) Q F s:=by
 refine bc fun zZ=>?_
 obtain ⟨⟨c,fs⟩,ha,h⟩:=e5B h
 refine zZ ?_;clear zZ
 rw [asO_of ha] at R
 refine bc fun zZ=>?_
 obtain ⟨x,Cl,d,es,n,o,rfl,hcl,hz1,hz2,rfl,hk,hr⟩:=R
 obtain ⟨w,hw,hrw⟩:=a6B hk hr h
 obtain ⟨p1,p2,p3,p4,p5⟩:=O.pg c Cl hcl
 refine zZ ?_;clear zZ
 have hfi:=O.fld c Cl f hcl (hf c Cl hcl)
 have IA:InstAt s.heap x (y5B Cl d) Cl (some (dictOf es n)):=⟨I.zin _ _ hz1,rfl,rfl,I.zin _ _ hz2⟩
 exact get_value (O.kin.keeps I.keep) IA p1 (findObj_own p3 hfi rfl (by rw [lookIn_dict];exact hw)) (z5B hrw) (hQ w _ hrw)
end
end Fl
namespace Fl
open PySem PyProof.Rows
noncomputable def upd (a:Addr) (o:Obj) (p:Addr×Obj):Addr×Obj:=if p.1=a then (a,o) else p
theorem upd_fst (a:Addr) (o:Obj) (p:Addr×Obj):(upd a o p).1=p.1:=by
 unfold upd;split
 ·rename_i h;exact h.symm
 ·rfl
theorem w1B (a:Addr) (o:Obj) (N:Led):(N.map (upd a o)).map (·.1)=N.map (·.1):=by
 rw [fZ];exact z4K fun p _=>upd_fst a o p
theorem Inv.updAt {B:Bs} {Z:Zm} {Nf N:Led} {ρ:List Addr} {σ:H} {h h':Heap} {a:Addr} {o':Obj} (I:Inv B Z (Nf++N) ρ σ h) (ha:a∈Nf.map (·.1)) (hs:Heap.SameBut a h h') (ho:h'.get? a=some o') :
  Inv B Z (Nf.map (upd a o')++N) ρ σ h':=by
 obtain ⟨⟨a',o⟩,hm,rfl⟩:=qQ.mp ha
 have hnd:=I.nd
 refine ⟨I.base,fun b o'' e=>?_,fun p hp=>?_,I.len,fun j b ob e1 e2 e3=>?_,fun b hb=>?_,?_⟩
 ·have hne:b≠a':=by
   rintro rfl
   have:=(I.led _ (mQ _ hm)).2
   rw [this] at e;cases e
  rw [hs.2 b hne];exact I.zin b o'' e
 ·rcases iQ.mp hp with hp | hp
  ·obtain ⟨q,hq,rfl⟩:=qQ.mp hp
   have hz:=(I.led _ (mQ _ hq)).2
   by_cases hqa:q.1=a'
   ·have:upd a' o' q=(a',o'):=by unfold upd;rw [if_pos hqa]
    rw [this];exact ⟨ho,hqa ▸ hz⟩
   ·have:upd a' o' q=q:=by unfold upd;rw [if_neg hqa]
    rw [this];exact ⟨(hs.2 _ hqa).trans (I.led _ (mQ _ hq)).1,hz⟩
  ·have hne:p.1≠a':=by
    intro e
    rw [z0Q,kQ] at hnd
    exact (z3Q.mp hnd).2.2 _ (qQ.mpr ⟨_,hm,rfl⟩) _ (mQ _ (qQ.mpr ⟨p,hp,rfl⟩)) e.symm
   exact ⟨(hs.2 _ hne).trans (I.led _ (gQ _ hp)).1,(I.led _ (gQ _ hp)).2⟩
 ·obtain ⟨h1,o'',h2,h3⟩:=I.live j b ob e1 e2 e3
  have hne:b≠a':=by
   intro e
   exact (z3Q.mp hnd).2.2 _ (qQ.mpr ⟨_,mQ _ hm,rfl⟩) _ (wQ e1) e.symm
  exact ⟨h1,o'',(hs.2 b hne).trans h2,h3⟩
 ·by_cases hba:b=a'
  ·rw [hba];exact ⟨o',ho⟩
  ·obtain ⟨o'',e⟩:=I.rin b hb;exact ⟨o'',(hs.2 b hba).trans e⟩
 ·rw [z0Q,w1B,← z0Q];exact hnd
structure OwnF (Nf:Led) (env:Env):Prop where
 loc:env.locals∈Nf.map (·.1)
 cel:∀ x,env.kindOf x=some .cell→∃ c,env.cells.lookup x=some c∧c∈Nf.map (·.1)
theorem OwnF.of {Nf Nf':Led} {env:Env} (h:OwnF Nf env) (e:Nf'.map (·.1)=Nf.map (·.1)):OwnF Nf' env:=⟨e ▸ h.loc,fun x hx=>let ⟨c,h1,h2⟩:=h.cel x hx;⟨c,h1,e ▸ h2⟩⟩
noncomputable def stK:Option NameKind→Bool
 | some .local=>true
 | some .cell=>true
 | _=>false
section
variable {B:Bs} {C:a0A} {Ar:Around} {env:Env} {F:Value→Shared→Prop}
theorem l4A {Z Nf N ρ σ m} {s:Shared} {x:String} {a:A} {v:Value} {Q:Unit→Shared→Prop} (I:Inv B Z (Nf++N) ρ σ s.heap) (Fr:Frm B env Z ρ m (Nf++N)) (hr:RepA B Z ρ a v) (hk:stK (env.kindOf (Str.ofString x))=true)
  (hL:env.locals∈Nf.map (·.1)) (hC:env.kindOf (Str.ofString x)=some .cell→∃ c,env.cells.lookup (Str.ofString x)=some c∧c∈Nf.map (·.1))
  (h:∀ Nf' h' tk,Nf'.map (·.1)=Nf.map (·.1)→Inv B Z (Nf'++N) ρ σ h'→Frm B env Z ρ (st m x a) (Nf'++N)→Q () { s with heap:=h',toks:=tk }) :
  wpAny (model B.prog B.w) Ar (storeName env (Str.ofString x) v) Q F s:=by
 refine bc fun zZ=>?_
 obtain ⟨o,es,ep,hN,hD,hS⟩:=Fr.loc
 refine zZ ?_;clear zZ
 have hget:∀ p∈Nf++N,s.heap.get? p.1=some p.2:=fun p hp=>(I.led p hp).1
 have ne_of:∀ c o',(c,o')∈Nf++N→∀ v,o'.data=.cell v→c≠env.locals:=by
  intro c o' hc v hd e
  have h1:=hget _ hc;have h2:=hget _ hN
  simp only at h1 h2
  rw [e,h2] at h1;cases h1;rw [hD] at hd;cases hd
 have mem_keep:∀ (a':Addr) (o':Obj) (p:Addr×Obj),p∈Nf++N→p.1≠a'→p∈Nf.map (upd a' o')++N:=by
  intro a' o' p hp hne
  rcases iQ.mp hp with hp | hp
  ·exact mQ _ (qQ.mpr ⟨p,hp,by unfold upd;rw [if_neg hne]⟩)
  ·exact gQ _ hp
 have mem_new:∀ (a':Addr) (o':Obj),a'∈Nf.map (·.1)→(a',o')∈Nf.map (upd a' o')++N:=by
  intro a' o' ha
  refine bc fun zZ=>?_
  obtain ⟨p,hp,rfl⟩:=qQ.mp ha
  refine zZ ?_;clear zZ
  exact mQ _ (qQ.mpr ⟨p,hp,by unfold upd;rw [if_pos rfl]⟩)
 cases hq:env.kindOf (Str.ofString x) with
 | none=>rw [hq] at hk;cases hk
 | some k=>
  cases k with
  | «local» =>
   refine wpAny_storeName_local hq ⟨o,es,ep,hget _ hN,hD,hS,fun _=>rfl⟩ (fun h' hn hs=>?_) (by rw [Fr.kind];rfl)
   refine bc fun zZ=>?_
   obtain ⟨o',es',ep',ho',hD',hS',hf'⟩:=hn
   refine zZ ?_;clear zZ
   refine h (Nf.map (upd env.locals o')) h' _ (w1B _ _ _) (I.updAt hL hs ho') ?_
   refine { Fr with rd:=fun y b hy hw=>?_,loc:=⟨o',es',ep',mem_new _ _ hL,hD',hS'⟩,cel:=fun y c hc=>?_ }
   ·rw [f5A] at hy
    split at hy
    ·rename_i e;cases hy;subst e
     exact ⟨v,hr,.inl ⟨hq,o',es',ep',mem_new _ _ hL,hD',hS',by rw [hf'];exact if_pos rfl⟩⟩
    ·rename_i e
     refine bc fun zZ=>?_
     obtain ⟨u,hu,hh⟩:=Fr.rd y b hy hw
     refine zZ ?_;clear zZ
     refine ⟨u,hu,?_⟩
     rcases hh with ⟨hk',o1,es1,ep1,hN1,hD1,hS1,hF1⟩ | ⟨hk',c,o1,hl1,hN1,hD1⟩
     ·refine .inl ⟨hk',o',es',ep',mem_new _ _ hL,hD',hS',?_⟩
      have h1:=hget _ hN1;have h2:=hget _ hN
      simp only at h1 h2
      rw [h2] at h1;cases h1
      rw [hD] at hD1;cases hD1
      rw [hf'];exact (if_neg (fun e'=>e (e1A e'))).trans hF1
     ·exact .inr ⟨hk',c,o1,hl1,mem_keep _ _ _ hN1 (ne_of c o1 hN1 _ hD1),hD1⟩
   ·refine bc fun zZ=>?_
    obtain ⟨o1,v1,hN1,hD1⟩:=Fr.cel y c hc
    refine zZ ?_;clear zZ
    exact ⟨o1,v1,mem_keep _ _ _ hN1 (ne_of c o1 hN1 _ hD1),hD1⟩
  | cell=>
   refine bc fun zZ=>?_
   obtain ⟨c,hl,hcm⟩:=hC hq
   obtain ⟨o1,v1,hN1,hD1⟩:=Fr.cel _ c hl
   refine zZ ?_;clear zZ
   refine wpAny_storeName_cell Fr.kind hq hl ⟨o1,hget _ hN1,hD1⟩ (fun h' hn hs=>?_)
   refine bc fun zZ=>?_
   obtain ⟨o',ho',hd'⟩:=hn
   refine zZ ?_;clear zZ
   refine h (Nf.map (upd c o')) h' s.toks (w1B _ _ _) (I.updAt hcm hs ho') ?_
   refine { Fr with rd:=fun y b hy hw=>?_,loc:=⟨o,es,ep,mem_keep _ _ _ hN (fun e=>ne_of c o1 hN1 _ hD1 e.symm),hD,hS⟩,cel:=fun y c' hc=>?_ }
   ·rw [f5A] at hy
    split at hy
    ·rename_i e;cases hy;subst e
     exact ⟨v,hr,.inr ⟨.inl hq,c,o',hl,mem_new _ _ hcm,hd'⟩⟩
    ·rename_i e
     refine bc fun zZ=>?_
     obtain ⟨u,hu,hh⟩:=Fr.rd y b hy hw
     refine zZ ?_;clear zZ
     refine ⟨u,hu,?_⟩
     rcases hh with ⟨hk',o2,es1,ep1,hN2,hD2,hS2,hF2⟩ | ⟨hk',c2,o2,hl2,hN2,hD2⟩
     ·exact .inl ⟨hk',o2,es1,ep1,mem_keep _ _ _ hN2 (fun e'=>ne_of c o1 hN1 _ hD1 e'.symm),hD2,hS2,hF2⟩
     ·refine .inr ⟨hk',c2,o2,hl2,mem_keep _ _ _ hN2 (fun e'=>?_),hD2⟩
      simp only at e'
      subst e'
      exact e (e1A (Fr.cinj _ _ _ hl2 hl))
   ·by_cases hcc:c'=c
    ·subst hcc;exact ⟨o',some v,mem_new _ _ hcm,hd'⟩
    ·refine bc fun zZ=>?_
     obtain ⟨o2,v2,hN2,hD2⟩:=Fr.cel y c' hc
     refine zZ ?_;clear zZ
     exact ⟨o2,v2,mem_keep _ _ _ hN2 hcc,hD2⟩
  | _=>rw [hq] at hk;cases hk
inductive RepF (B:Bs) (Z:Zm) (ρ:List Addr):Fw→Flow→Prop
 | next:RepF B Z ρ .next .next
 | brk:RepF B Z ρ .brk .brk
 | cont:RepF B Z ρ .cont .cont
 | ret {a v}:RepA B Z ρ a v→RepF B Z ρ (.ret a) (.ret v)
noncomputable def n1C (B:Bs) (env:Env) (Z:Zm) (Nf N:Led) (ρ:List Addr) (s:Shared) (K:Fw→Loc→H→Prop) (Q:Flow→Shared→Prop):Prop:=
 ∀ fw fl m' Z' Nf' ρ' σ' h' tk,K fw m' σ'→RepF B Z' ρ' fw fl→Ext Z Z'→ρ <+: ρ'→Nf'.map (·.1)=Nf.map (·.1)→Inv B Z' (Nf'++N) ρ' σ' h'→Frm B env Z' ρ' m' (Nf'++N)→Q fl { s with heap:=h',toks:=tk }
theorem n1C.go {Z Z':Zm} {Nf Nf' N:Led} {ρ ρ':List Addr} {s:Shared} {K:Fw→Loc→H→Prop} {Q:Flow→Shared→Prop} (P:n1C B env Z Nf N ρ s K Q) (hz:Ext Z Z') (hr:ρ <+: ρ') (hn:Nf'.map (·.1)=Nf.map (·.1)) (h':Heap) (tk:Nat) :
  n1C B env Z' Nf' N ρ' { s with heap:=h',toks:=tk } K Q:=
 fun fw fl m' Z'' Nf'' ρ'' σ'' h'' tk' hk hf hz' hr' hn' I R=>P fw fl m' Z'' Nf'' ρ'' σ'' h'' tk' hk hf (hz.trans hz') (hr.trans hr') (hn'.trans hn) I R
noncomputable def SOk (B:Bs) (C:a0A) (Ar:Around) (env:Env) (ir:S) (st:Stmt):Prop:=
 ∀ (Z:Zm) (Nf N:Led) (ρ:List Addr) (σ:H) (m:Loc) (s:Shared) (K:Fw→Loc→H→Prop) (Q:Flow→Shared→Prop) (F:Value→Shared→Prop),
  Inv B Z (Nf++N) ρ σ s.heap→Frm B env Z ρ m (Nf++N)→OwnF Nf env→xS C ir m σ K→n1C B env Z Nf N ρ s K Q→wpAny (model B.prog B.w) Ar (exec st env) Q F s
noncomputable def SsOk (B:Bs) (C:a0A) (Ar:Around) (env:Env) (irs:List S) (sts:List Stmt):Prop:=
 ∀ (Z:Zm) (Nf N:Led) (ρ:List Addr) (σ:H) (m:Loc) (s:Shared) (K:Fw→Loc→H→Prop) (Q:Flow→Shared→Prop) (F:Value→Shared→Prop),
  Inv B Z (Nf++N) ρ σ s.heap→Frm B env Z ρ m (Nf++N)→OwnF Nf env→xSs C irs m σ K→n1C B env Z Nf N ρ s K Q→wpAny (model B.prog B.w) Ar (execs sts env) Q F s
theorem sok_asg {x:String} {e:E} {ex:Expr} {p pos:Pos} (hk:stK (env.kindOf (Str.ofString x))=true) (he:EOk B C Ar env e ex) (hs:swapsWith ex (some (.Name (Str.ofString x) p)) pos.line env=pure false) :
  SOk B C Ar env (.asg x e) (.Assign [.Name (Str.ofString x) p] ex pos):=by
 intro Z Nf N ρ σ m s K Q F I Fr O hx P
 rw [xS_asg] at hx
 refine wpAny_Assign_Name (he Z (Nf++N) ρ σ m s _ _ F I Fr hx ?_) hs
 intro a v Z1 ρ1 σ1 h1 t1 hx1 e1 p1 I1 R1
 refine l4A I1 (Fr.mono e1 p1) R1 hk O.loc (O.cel _) ?_
 intro Nf' h' tk hn I2 F2
 exact P _ _ _ Z1 Nf' ρ1 σ1 h' tk hx1 .next e1 p1 hn I2 F2
theorem sok_ex {e:E} {ex:Expr} {pos:Pos} (he:EOk B C Ar env e ex) (hs:swapsWith ex none pos.line env=pure false) (hi:interactive env=false):SOk B C Ar env (.ex e) (.Expr ex pos):=by
 intro Z Nf N ρ σ m s K Q F I Fr O hx P
 rw [xS_ex] at hx
 refine wpAny_Expr_any (he Z (Nf++N) ρ σ m s _ _ F I Fr hx ?_) hi hs
 intro a v Z1 ρ1 σ1 h1 t1 hx1 e1 p1 I1 R1
 exact P _ _ _ Z1 Nf ρ1 σ1 h1 t1 hx1 .next e1 p1 rfl I1 (Fr.mono e1 p1)
theorem sok_ret {e:E} {ex:Expr} {pos:Pos} (he:EOk B C Ar env e ex):SOk B C Ar env (.ret e) (.Return (some ex) pos):=by
 intro Z Nf N ρ σ m s K Q F I Fr O hx P
 rw [xS_ret] at hx
 refine wpAny_Return_some (he Z (Nf++N) ρ σ m s _ _ F I Fr hx ?_)
 intro a v Z1 ρ1 σ1 h1 t1 hx1 e1 p1 I1 R1
 exact P _ _ _ Z1 Nf ρ1 σ1 h1 t1 hx1 (.ret R1) e1 p1 rfl I1 (Fr.mono e1 p1)
theorem sok_ite {c:E} {t f:List S} {ex:Expr} {ts fs:List Stmt} {pos:Pos} (hc:TOk B C Ar env c ex) (ht:SsOk B C Ar env t ts) (hf:SsOk B C Ar env f fs):SOk B C Ar env (.ite c t f) (.If ex ts fs pos):=by
 intro Z Nf N ρ σ m s K Q F I Fr O hx P
 rw [xS_ite] at hx
 refine wpAny_If (hc Z (Nf++N) ρ σ m s _ _ F I Fr hx ?_)
 intro b Z1 ρ1 σ1 h1 t1 hx1 e1 p1 I1
 cases b with
 | true=>simp only [if_true] at hx1 ⊢;exact ht Z1 Nf N ρ1 σ1 m _ K Q F I1 (Fr.mono e1 p1) O hx1 (P.go e1 p1 rfl _ _)
 | false=>simp only [fW,if_false] at hx1 ⊢;exact hf Z1 Nf N ρ1 σ1 m _ K Q F I1 (Fr.mono e1 p1) O hx1 (P.go e1 p1 rfl _ _)
theorem ss_nil:SsOk B C Ar env [] []:=by
 intro Z Nf N ρ σ m s K Q F I Fr O hx P
 simp only [xSs_nil,e3B] at hx
 exact wpAny_execs_nil (P _ _ _ Z Nf ρ σ s.heap s.toks hx .next (Ext.refl _) (eW _) rfl I Fr)
theorem ss_cons {ir:S} {irs:List S} {st:Stmt} {sts:List Stmt} (h:SOk B C Ar env ir st) (hr:SsOk B C Ar env irs sts):SsOk B C Ar env (ir::irs) (st::sts):=by
 intro Z Nf N ρ σ m s K Q F I Fr O hx P
 simp only [xSs_nil,e3B] at hx
 refine wpAny_execs_cons (h Z Nf N ρ σ m s _ _ F I Fr O hx ?_)
 intro fw fl m1 Z1 Nf1 ρ1 σ1 h1 t1 hx1 hf e1 p1 hn I1 F1
 cases hf with
 | next=>exact hr Z1 Nf1 N ρ1 σ1 m1 _ K Q F I1 F1 (O.of hn) hx1 (P.go e1 p1 hn _ _)
 | brk=>exact P _ _ _ Z1 Nf1 ρ1 σ1 h1 t1 hx1 .brk e1 p1 hn I1 F1
 | cont=>exact P _ _ _ Z1 Nf1 ρ1 σ1 h1 t1 hx1 .cont e1 p1 hn I1 F1
 | ret r=>exact P _ _ _ Z1 Nf1 ρ1 σ1 h1 t1 hx1 (.ret r) e1 p1 hn I1 F1
theorem frz_ok {Z:Zm} {N:Led} {ρ:List Addr} {σ:H} {h:Heap} {a:A} {v:Value} {K:A→H→Prop} (hsm:∃ o,B.h0.get? sysModules=some o) (I:Inv B Z N ρ σ h) (R:RepA B Z ρ a v) (hx:i8A σ a K):∃ x Z' σ',K (.v x) σ'∧Ext Z Z'∧Inv B Z' N ρ σ' h∧RepV B Z' x v:=by
 refine getE hx fun i hi hx=>?_
 refine getE hx fun x hof hK=>?_
 refine binE hof fun o ho hz=>?_
 obtain rfl:=d1C hi
 refine bc fun zZ=>?_
 obtain ⟨l,e,rfl⟩:=R
 refine zZ ?_;clear zZ
 cases o with
 | list xs=>
  obtain rfl:=pQ hz
  refine bc fun zZ=>?_
  obtain ⟨_,o,hg,items,n,rfl,hs,hr⟩:=I.live i l _ e ho (fun e=>nomatch e)
  refine zZ ?_;clear zZ
  exact ⟨_,_,_,hK,I.frz_ext e ho (fun e=>nomatch e),I.frz e ho (fun e=>nomatch e) hg,l,items,n,rfl,if_pos rfl,hs,hr.mono (I.frz_ext e ho (fun e=>nomatch e))⟩
 | map kvs=>
  obtain rfl:=pQ hz
  have hne:=y1B hsm I e ho (fun e=>nomatch e)
  refine bc fun zZ=>?_
  obtain ⟨_,o,hg,es,rfl,h1,h2⟩:=I.live i l _ e ho (fun e=>nomatch e)
  refine zZ ?_;clear zZ
  have x:=I.frz_ext (o:=e0A es kvs.length) e ho (fun e=>nomatch e)
  exact ⟨_,_,_,hK,x,I.frz e ho (fun e=>nomatch e) hg,l,es,_,rfl,if_pos rfl,⟨hne,h1.mono x⟩,h2.mono x⟩
 | _=>exact nons hz
theorem eok_frz {a:E} {e:Expr} (hsm:∃ o,B.h0.get? sysModules=some o) (ha:EOk B C Ar env a e):EOk B C Ar env (.frz a) e:=by
 intro Z N ρ σ m s K Q F I Fr hx P
 rw [xE_frz] at hx
 refine ha Z N ρ σ m s _ Q F I Fr hx ?_
 intro va v Z1 ρ1 σ1 h1 t1 hx1 e1 p1 I1 R1
 obtain ⟨x,Z2,σ2,hK,e2,I2,R2⟩:=frz_ok hsm I1 R1 hx1
 exact P _ _ Z2 ρ1 σ2 _ _ hK (e1.trans e2) p1 I2 R2
theorem ss_frzx {x:String} {irs:List S} {sts:List Stmt} (hsm:∃ o,B.h0.get? sysModules=some o) (hw:ownN env x=true) (h:SsOk B C Ar env irs sts):SsOk B C Ar env (.frzx x::irs) sts:=by
 intro Z Nf N ρ σ m s K Q F I Fr O hx P
 refine getE (show get (lk m x) _ from hx) fun a hm hx=>?_
 refine bc fun zZ=>?_
 obtain ⟨v,hr,hh⟩:=Fr.rd x a hm hw
 obtain ⟨y,Z1,σ1,hK,e1,I1,R1⟩:=frz_ok hsm I hr hx
 refine zZ ?_;clear zZ
 have F1:=Fr.mono e1 (eW ρ)
 refine h Z1 Nf N ρ σ1 (st m x (.v y)) s K Q F I1 { F1 with rd:=fun z b hz hw'=>?_ } O hK (P.go e1 (eW _) rfl s.heap s.toks)
 rw [f5A] at hz
 by_cases q:z=x
 ·rw [if_pos q] at hz;cases hz;subst q
  exact ⟨v,R1,hh⟩
 ·rw [if_neg q] at hz;exact F1.rd z b hz hw'
end
end Fl
namespace Fl
open PySem PyProof.Rows
theorem Inv.dropExt {B:Bs} {Z:Zm} {N:Led} {ρ:List Addr} {σ:H} {h h':Heap} {a:Addr} {o:Obj} (I:Inv B Z ((a,o)::N) ρ σ h) (hk:∀ b o',b≠a→h.get? b=some o'→h'.get? b=some o'):Inv B Z N ρ σ h':=by
 have hnd:=I.nd
 rw [z6Q,z5W,rQ] at hnd
 have hza:=(I.led _ (aQ)).2
 refine ⟨I.base,fun b o' e=>hk _ _ ?_ (I.zin b o' e),fun p hp=>⟨hk _ _ ?_ (I.led p (bQ _ hp)).1,(I.led p (bQ _ hp)).2⟩,I.len,fun j b ob e1 e2 e3=>?_,fun b hb=>?_,hnd.2⟩
 ·rintro rfl;simp only at hza;rw [hza] at e;cases e
 ·intro e;exact hnd.1 (mQ _ (qQ.mpr ⟨p,hp,e⟩))
 ·refine bc fun zZ=>?_
  obtain ⟨h1,o',h2,h3⟩:=I.live j b ob e1 e2 e3
  refine zZ ?_;clear zZ
  exact ⟨h1,o',hk _ _ (fun e=>hnd.1 (gQ _ (e ▸ wQ e1))) h2,h3⟩
 ·obtain ⟨o',e⟩:=I.rin b hb
  exact ⟨o',hk _ _ (fun e'=>hnd.1 (gQ _ (e' ▸ hb))) e⟩
noncomputable def dictA (σ:H):A→Option (List (Ky×V))
 | .v x=>vD x
 | .ref i=>(σ[i]?).bind oM
 | .inst _ _=>none
inductive Src (σ:H):A→List V→Nat→Prop
 | lst {a xs}:y0A σ a=some xs→Src σ a xs 0
 | tup {xs}:Src σ (.v (.tup xs)) xs 1
 | rng {lo hi}:Src σ (.v (.range lo hi)) (rngL lo hi) 2
 | dct {a kvs}:dictA σ a=some kvs→Src σ a (kvs.map fun q=>q.1.toV) 3
theorem b7B {σ:H} {a:A} {its:List V} (h:items σ a=some its):∃ κ,Src σ a its κ:=by
 cases a with
 | v x=>
  cases x with
  | list xs=>obtain rfl:=pQ h;exact ⟨_,.lst rfl⟩
  | tup xs=>obtain rfl:=pQ h;exact ⟨_,.tup⟩
  | range lo hi=>obtain rfl:=pQ h;exact ⟨_,.rng⟩
  | dict ks vs=>obtain rfl:=pQ h;exact ⟨_,.dct rfl⟩
  | _=>exact nons h
 | ref i=>
  refine binE h fun o ho h=>?_
  cases o with
  | list xs=>obtain rfl:=pQ h;exact ⟨_,.lst (by show (σ[i]?).bind oL=_;rw [ho];rfl)⟩
  | map kvs=>obtain rfl:=pQ h;exact ⟨_,.dct (by show (σ[i]?).bind oM=_;rw [ho];rfl)⟩
  | _=>exact nons h
 | inst _ _=>exact nons h
theorem r4A {σ σ':H} {a:A} (h:objA σ' a=objA σ a):y0A σ' a=y0A σ a:=by
 cases a with
 | ref i=>show (σ'[i]?).bind oL=(σ[i]?).bind oL;rw [show σ'[i]?=σ[i]? from h]
 | _=>rfl
theorem Src.stay {σ σ':H} {a:A} {its:List V} {κ:Nat} (h:Src σ a its κ) (hs:objA σ' a=objA σ a):Src σ' a its κ:=by
 cases h with
 | lst h=>exact .lst ((r4A hs).trans h)
 | tup=>exact .tup
 | rng=>exact .rng
 | dct h=>
  refine .dct (Eq.trans ?_ h)
  cases a with
  | ref i=>show (σ'[i]?).bind oM=(σ[i]?).bind oM;rw [show σ'[i]?=σ[i]? from hs]
  | _=>rfl
inductive ItAt (B:Bs) (Z:Zm) (ρ:List Addr) (L:Nat):A→Nat→Nat→Obj→Prop
 | list {a i l o}:RepA B Z ρ a (.ref l)→o.cls=.type "list_iterator" →o.data=.fields #[.ref l,.int (i:Nat) 0]→ItAt B Z ρ L a 0 i o
 | tup {xs i l o}:RepA B Z ρ (.v (.tup xs)) (.ref l)→o.cls=.type "tuple_iterator" →o.data=.fields #[.ref l,.int (i:Nat) 0]→ItAt B Z ρ L (.v (.tup xs)) 1 i o
 | range {lo hi:Int} {i:Nat} {o}:i≤(hi - lo).toNat→o=⟨.type "range_iterator", none,.fields #[rawInt (lo+i),rawInt (((hi - lo).toNat:Int) - i),rawInt 1],#[]⟩→ItAt B Z ρ L (.v (.range lo hi)) 2 i o
 | dict {a:A} {i ep:Nat} {l:Addr} {o}:RepA B Z ρ a (.ref l)→o.cls=.type "dict_keyiterator" →o.data=.fields #[.ref l,.int (i:Nat) 0,.int (L:Nat) 0,.int ep 0]→((∃ k,a=.ref k)∧ep=L∨∃ es,Z l=some (e0A es ep))→ItAt B Z ρ L a 3 i o
theorem ItAt.mono {B:Bs} {Z Z':Zm} {ρ ρ':List Addr} (hz:Ext Z Z') (hr:ρ <+: ρ') {a:A} {L κ i:Nat} {o:Obj} (h:ItAt B Z ρ L a κ i o):ItAt B Z' ρ' L a κ i o:=by
 cases h with
 | list h1 h3 h4=>exact .list (h1.mono hz hr) h3 h4
 | tup h1 h2 h3=>exact .tup (h1.mono hz hr) h2 h3
 | range h1 h2=>exact .range h1 h2
 | dict h1 h2 h3 h4=>exact .dict (h1.mono hz hr) h2 h3 (h4.imp_right fun ⟨es,h⟩=>⟨es,hz _ _ h⟩)
section
variable {B:Bs} {C:a0A} {Ar:Around} {env:Env} {F:Value→Shared→Prop}
theorem u7B {lo hi:Int} {i:Nat}:(rngL lo hi)[i]?=if i<(hi - lo).toNat then some (.int (lo+i)) else none:=by
 unfold rngL
 rw [oQ]
 split
 ·rename_i h;rw [List.getElem?_range h];rfl
 ·rename_i h;rw [yK (by simpa using h)];rfl
theorem y4B {Z N ρ σ} {h:Heap} {a:A} {v:Value} {kvs:List (Ky×V)} (hsm:∃ o,B.h0.get? sysModules=some o) (I:Inv B Z N ρ σ h) (R:RepA B Z ρ a v) (hd:dictA σ a=some kvs) :
  ∃ l es n,v=.ref l∧h.get? l=some (e0A es n)∧(l == sysModules)=false∧Ks B Z (kvs.map (·.1)) es∧((∃ k,a=.ref k)∧n=kvs.length∨∃ es,Z l=some (e0A es n)):=by
 cases a with
 | v x=>
  refine bc fun zZ=>?_
  obtain ⟨ks,vs,rfl,rfl⟩:=vD_of hd
  obtain ⟨l,es,n,rfl,hg,hne,hK,_⟩:=q9A I R
  obtain ⟨l',es',n',e,hz,_⟩:=R
  refine zZ ?_;clear zZ
  cases e
  have hg':=I.zin _ _ hz
  rw [hg] at hg'
  exact ⟨l,es,n,rfl,hg,hne,hK,.inr ⟨es,by rw [hz,pQ hg']⟩⟩
 | ref i=>
  refine binE hd fun o ho h=>?_
  rw [oM_of h] at ho
  refine bc fun zZ=>?_
  obtain ⟨l,e,rfl⟩:=R
  obtain ⟨es,n,hg,hne,hK,_,hn⟩:=w2A hsm I e ho rfl
  refine zZ ?_;clear zZ
  exact ⟨l,es,n,rfl,hg,hne,hK,.inl ⟨⟨i,rfl⟩,hn rfl⟩⟩
 | inst _ _=>exact nons hd
theorem h8B {Z N ρ σ} {s:Shared} {a:A} {its:List V} {κ i:Nat} {it:Addr} {o:Obj} {Q:Option Value→Shared→Prop} (hsm:∃ o,B.h0.get? sysModules=some o) (hh:Ar.handled=none) (I:Inv B Z ((it,o)::N) ρ σ s.heap) (h:ItAt B Z ρ its.length a κ i o) (hi:Src σ a its κ)
  (hS:∀ x v o' h' tk,its[i]?=some x→RepV B Z x v→ItAt B Z ρ its.length a κ (i+1) o'→Inv B Z ((it,o')::N) ρ σ h'→Q (some v) { s with heap:=h',toks:=tk })
  (hN:its[i]?=none→∀ h' tk,Inv B Z N ρ σ h'→Q none { s with heap:=h',toks:=tk }):wpAny (model B.prog B.w) Ar (pyNext (.ref it)) Q F s:=by
 have hit:=(I.led _ (aQ)).1
 simp only at hit
 cases h with
 | @list _ _ l _ h1 h3 h4=>
  cases hi with
  | lst hi=>
   obtain ⟨l',vals,n,e,hg,hlt,hr⟩:=b1A I h1 hi
   cases e
   have hI:s.heap.IsListIter it l i:=⟨o,hit,h3,h4⟩
   cases hx:its[i]? with
   | some x=>
    obtain ⟨v,hv,hrv⟩:=a1A hr hx
    refine wpAny_pyNext_list_item hI (i0A hg) (x:=v) (by simpa using hv) fun h' hit' hs=>?_
    obtain ⟨o',ho',hc',hd'⟩:=hit'
    exact hS x v o' h' s.toks hx hrv (.list h1 hc' hd') (I.updLed hs ho')
   | none=>
    have hnone:vals[i]?=none:=by
     have:=f0A hr
     rw [dZ] at hx ⊢
     rw [this];exact hx
    refine wpAny_pyNext_list_end hh hI (i0A hg) (by simpa using hnone) fun h' he=>?_
    exact hN hx h' s.toks (I.dropExt he)
 | @tup xs _ l _ h1 h2 h3=>
  cases hi with
  | tup=>
   obtain ⟨l',vals,n,q,hz,hs,hr⟩:=h1
   cases q
   have hg:=I.zin _ _ hz
   have hT:s.heap.IsTuple l vals.toArray:=⟨_,hg,rfl,n,rfl⟩
   have hI:s.heap.IsTupleIter it l i:=⟨o,hit,h2,h3⟩
   cases hx:its[i]? with
   | some x=>
    obtain ⟨v,hv,hrv⟩:=a1A hr hx
    refine wpAny_pyNext_tuple_item hI hT (x:=v) (by simpa using hv) fun h' hit' hs'=>?_
    obtain ⟨o',ho',hc',hd'⟩:=hit'
    refine hS x v o' h' s.toks hx hrv (.tup ?_ hc' hd') (I.updLed hs' ho')
    exact ⟨l,vals,n,rfl,hz,hs,hr⟩
   | none=>
    have hnone:vals[i]?=none:=by
     have:=f0A hr
     rw [dZ] at hx ⊢
     rw [this];exact hx
    refine wpAny_pyNext_tuple_end hh hI hT (by simpa using hnone) fun h' he=>?_
    exact hN hx h' s.toks (I.dropExt he)
 | @range lo hi' _ _ h1 h2=>
  cases hi with
  | rng=>
   subst h2
   have hI:IsRangeIter s.heap it (lo+i) (((hi' - lo).toNat:Int) - i) 1:=hit
   have hget:(rngL lo hi')[i]?=if i<(hi' - lo).toNat then some (.int (lo+i)) else none:=u7B
   by_cases hlt:i<(hi' - lo).toNat
   ·rw [if_pos hlt] at hget
    refine wpAny_pyNext_range_item hI (Int.sub_pos_of_lt (rZ.mpr hlt)) fun h' hit' hs=>?_
    refine hS _ _ _ h' _ hget (by exact ⟨_,rfl⟩) (.range (i:=i+1) hlt ?_) (I.updLed hs hit')
    have e1:lo+(i:Int)+1=lo+((i+1:Nat):Int):=by rw [Int.add_assoc];rfl
    have e2:((hi' - lo).toNat:Int) - (i:Int) - 1=((hi' - lo).toNat:Int) - ((i+1:Nat):Int):=by rw [Int.sub_sub];rfl
    rw [e1,e2]
   ·rw [if_neg hlt] at hget
    refine wpAny_pyNext_range_end hh hI (Int.sub_nonpos_of_le (Int.ofNat_le.mpr (z6W.mp hlt))) fun h' he=>?_
    exact hN hget h' s.toks (I.dropExt he)
 | @dict _ _ ep l _ h1 h2 h3 h4=>
  cases hi with
  | @dct _ kvs hd=>
   obtain ⟨l',es,n',e,hg,_,hK,hc⟩:=y4B hsm I h1 hd
   cases e
   have hel:es.length=kvs.length:=by rw [k2A hK.1,eQ]
   have hep:n'=ep:=by
    rcases h4 with ⟨⟨k,rfl⟩,e⟩ | ⟨es',hz⟩
    ·rcases hc with ⟨_,e'⟩ | ⟨es',hz⟩
     ·rw [e',e,eQ]
     ·obtain ⟨l',hl',e'⟩:=h1
      cases e'
      refine binE hd fun ob ho _=>?_
      have:=(I.live k l ob hl' ho (fun e=>by subst e;rw [show dictA σ (.ref k)=(σ[k]?).bind oM from rfl,ho] at hd;exact nons hd)).1
      rw [hz] at this;exact nons this.symm
    ·have:=I.zin _ _ hz
     rw [hg] at this
     exact congrArg (fun o:Option Obj=>match o with | some ⟨_,_,.dict _ n,_⟩=>n | _=>0) this
   subst hep
   have hI:s.heap.IsKeyIter it l i es.length n':=⟨o,hit,h2,by rw [hel];rw [eQ] at h3;exact h3⟩
   ·skip
    refine r6A hh hI hg (fun en h' hen hit' hs=>?_) fun hnone h' he=>?_
    ·obtain ⟨o',ho',hc',hd'⟩:=hit'
     have hilt:i<kvs.length:=by rw [← hel];exact (jQ.mp hen).1
     have hk:(kvs.map (·.1))[i]?=some kvs[i].1:=by rw [oQ,nQ hilt];rfl
     obtain ⟨e',he',hka⟩:=ksAt_get hK.1 hk
     rw [hen] at he';cases he'
     exact hS _ _ o' h' s.toks (by rw [oQ,nQ hilt];rfl) (x0B hka) (.dict h1 hc' (by rw [hel] at hd';rw [eQ];exact hd') h4) (I.updLed hs ho')
    ·refine hN ?_ h' s.toks (I.dropExt he)
     rw [dZ] at hnone ⊢
     rw [eQ,← hel];exact hnone
theorem b9B {Z N ρ σ} {s:Shared} {a:A} {v:Value} {its:List V} {κ:Nat} {Q:Value→Shared→Prop} (hsm:∃ o,B.h0.get? sysModules=some o) (I:Inv B Z N ρ σ s.heap) (R:RepA B Z ρ a v) (hi:Src σ a its κ)
  (hQ:∀ it o h' tk,ItAt B Z ρ its.length a κ 0 o→Inv B Z ((it,o)::N) ρ σ h'→Q (.ref it) { s with heap:=h',toks:=tk }):wpAny (model B.prog B.w) Ar (pyIter v) Q F s:=by
 cases hi with
 | lst hi=>
  obtain ⟨l,vals,n,rfl,hg,hlt,hr⟩:=b1A I R hi
  exact wpAny_pyIter_list (i0A hg) (hQ _ _ _ s.toks (.list R rfl rfl) (I.push _ rfl))
 | tup=>
  have R':=R
  obtain ⟨l,vals,n,rfl,hz,hs,hr⟩:=R'
  have hT:s.heap.IsTuple l vals.toArray:=⟨_,I.zin _ _ hz,rfl,n,rfl⟩
  exact wpAny_pyIter_tuple hT (hQ _ _ _ s.toks (.tup R rfl rfl) (I.push _ rfl))
 | @rng lo hi'=>
  obtain ⟨r,t,u,w,rfl,hz,b1,b2,b3,b4⟩:=R
  have hR:IsRange s.heap r lo hi' 1 t u w:=I.zin _ _ hz
  have hsz:Builtin.Range.rangeSize lo hi' 1=((hi' - lo).toNat:Int):=rangeSize_nat _ _
  have hsm:Builtin.Range.small lo hi' 1=true:=smallR b1 b2 b3 b4
  refine wpAny_pyIter_range hR hsm ?_
  rw [hsz]
  refine hQ _ _ _ s.toks (.range (i:=0) (sQ _) ?_) (I.push _ rfl)
  simp
 | @dct _ kvs hd=>
  obtain ⟨l,es,n,rfl,hg,hne,hK,hc⟩:=y4B hsm I R hd
  have hel:es.length=kvs.length:=by rw [k2A hK.1,eQ]
  refine y0B hne hg ?_
  rw [hel]
  refine hQ _ _ _ s.toks (.dict R rfl (by rw [eQ];rfl) (hc.imp_left fun h=>⟨h.1,by rw [eQ];exact h.2⟩)) (I.push _ rfl)
end
end Fl
namespace Fl
open PySem PyProof.Rows PySem.W
section
variable {B:Bs} {C:a0A} {Ar:Around} {env:Env} {F:Value→Shared→Prop}
theorem Frm.mem {Z:Zm} {ρ:List Addr} {m:Loc} {N N':Led} (Fr:Frm B env Z ρ m N) (h:∀ p∈N,p∈N'):Frm B env Z ρ m N' where
 kind:=Fr.kind
 glob:=Fr.glob
 blt:=Fr.blt
 rd:=fun x a hx hw=>by
  obtain ⟨v,hv,hh⟩:=Fr.rd x a hx hw
  refine ⟨v,hv,?_⟩
  rcases hh with ⟨hk,o,es,ep,hN,hD⟩ | ⟨hk,c,o,hl,hN,hD⟩
  ·exact .inl ⟨hk,o,es,ep,h _ hN,hD⟩
  ·exact .inr ⟨hk,c,o,hl,h _ hN,hD⟩
 loc:=let ⟨o,es,ep,hN,hD⟩:=Fr.loc;⟨o,es,ep,h _ hN,hD⟩
 cel:=fun x c hc=>let ⟨o,v,hN,hD⟩:=Fr.cel x c hc;⟨o,v,h _ hN,hD⟩
 cok:=Fr.cok
 cinj:=Fr.cinj
theorem Frm.dropF {Z:Zm} {ρ:List Addr} {m:Loc} {Nf N:Led} {it:Addr} {o:Obj} {vs:Array Value} (Fr:Frm B env Z ρ m (Nf++(it,o)::N)) (hd:o.data=.fields vs):Frm B env Z ρ m (Nf++N):=by
 have h:∀ p∈Nf++(it,o)::N,(∀ vs,p.2.data≠.fields vs)→p∈Nf++N:=by
  intro p hp hne
  rcases iQ.mp hp with hp | hp
  ·exact mQ _ hp
  ·rcases lQ.mp hp with rfl | hp
   ·exact absurd hd (hne vs)
   ·exact gQ _ hp
 refine ⟨Fr.kind,Fr.glob,Fr.blt,fun x a hx hw=>?_,?_,fun x c hc=>?_,Fr.cok,Fr.cinj⟩
 ·obtain ⟨v,hv,hh⟩:=Fr.rd x a hx hw
  refine ⟨v,hv,?_⟩
  rcases hh with ⟨hk,o,es,ep,hN,hD,r⟩ | ⟨hk,c,o,hl,hN,hD⟩
  ·exact .inl ⟨hk,o,es,ep,h _ hN (by simp [hD]),hD,r⟩
  ·exact .inr ⟨hk,c,o,hl,h _ hN (by simp [hD]),hD⟩
 ·obtain ⟨o,es,ep,hN,hD,r⟩:=Fr.loc
  exact ⟨o,es,ep,h _ hN (by simp [hD]),hD,r⟩
 ·obtain ⟨o,v,hN,hD⟩:=Fr.cel x c hc
  exact ⟨o,v,h _ hN (by simp [hD]),hD⟩
theorem ItAt.fields {Z:Zm} {ρ:List Addr} {a:A} {L κ i:Nat} {o:Obj} (h:ItAt B Z ρ L a κ i o):∃ vs,o.data=.fields vs:=by
 cases h with
 | list _ _ h=>exact ⟨_,h⟩
 | tup _ _ h=>exact ⟨_,h⟩
 | range _ h=>subst h;exact ⟨_,rfl⟩
 | dict _ _ h _=>exact ⟨_,h⟩
noncomputable def tgN:Tgt→List String
 | .one x=>[x]
 | .two x y=>[x,y]
inductive TgE:Tgt→Expr→Prop
 | one (x:String) (p:Pos):TgE (.one x) (.Name (Str.ofString x) p)
 | two (x y:String) (p q r:Pos) (k:Nat):TgE (.two x y) (.Tuple [.Name (Str.ofString x) p,.Name (Str.ofString y) q] k r)
theorem k4B {elts:List Expr} {k:Nat} {p:Pos} {it T:Addr} {o:Obj} {nm:String} {vs:Array Value} {s:Shared} {Q:Unit→Shared→Prop} (hit:s.heap.get? it=some o) (hc:o.cls=.type nm) (hd:o.data=.fields vs)
  (hn:["enumerate", "zip", "dict_itemiterator", "dict_reverseitemiterator", "odict_iterator", "itertools.zip_longest", "itertools.pairwise"].contains nm=false) (hQ:Q () s):wpAny (model B.prog B.w) Ar (letOwnedTupleGo (.Tuple elts k p) (.ref it) (.ref T)) Q F s:=by
 obtain ⟨c,d,dt,sl⟩:=o
 simp only at hc hd
 subst hc;subst hd
 unfold letOwnedTupleGo
 refine wpAny_bind (wpAny_load hit ?_)
 show wpAny _ _ (if (["enumerate", "zip", "dict_itemiterator", "dict_reverseitemiterator", "odict_iterator", "itertools.zip_longest", "itertools.pairwise"].contains nm && vs[0]? == some (rawInt T))=true then _ else _) Q F s
 rw [hn,if_neg (by simp)]
 exact wpAny_pure hQ
theorem c1C {Z Nf N ρ σ m} {s:Shared} {x y:String} {a b:A} {v w:Value} {T:Addr} {p q r:Pos} {k:Nat} {Q:Unit→Shared→Prop} (hh:Ar.handled=none) (hT:s.heap.IsTuple T #[v,w]) (I:Inv B Z (Nf++N) ρ σ s.heap) (Fr:Frm B env Z ρ m (Nf++N)) (Ra:RepA B Z ρ a v) (Rb:RepA B Z ρ b w)
  (hkx:stK (env.kindOf (Str.ofString x))=true) (hky:stK (env.kindOf (Str.ofString y))=true) (hL:env.locals∈Nf.map (·.1)) (hC:∀ z,z=x∨z=y→env.kindOf (Str.ofString z)=some .cell→∃ c,env.cells.lookup (Str.ofString z)=some c∧c∈Nf.map (·.1))
  (P:∀ Nf' h' tk,Nf'.map (·.1)=Nf.map (·.1)→Inv B Z (Nf'++N) ρ σ h'→Frm B env Z ρ (st (st m x a) y b) (Nf'++N)→Q () { s with heap:=h',toks:=tk }) :
  wpAny (model B.prog B.w) Ar (assign (.Tuple [.Name (Str.ofString x) p,.Name (Str.ofString y) q] k r) env (.ref T)) Q F s:=by
 refine wpAny_assign_Tuple hh hT rfl rfl fun h5 hx5=>?_
 have I5:=I.keeps (h':=h5) fun b o eb=>hx5 b o (z9W (iW eb)) eb
 show wpAny _ Ar (do holding [w] (assign (.Name (Str.ofString x) p) env v);do holding [] (assign (.Name (Str.ofString y) q) env w);pure ()) _ _ _
 refine wpAny_bind (wpAny_holding (wpAny_assign_Name (l4A I5 Fr Ra hkx hL (hC x (.inl rfl)) ?_)))
 intro Nf6 h6 t6 hn6 I6 F6
 refine wpAny_bind (wpAny_holding (wpAny_assign_Name (l4A I6 F6 Rb hky (by rw [hn6];exact hL) (fun hc=>by rw [hn6];exact hC y (.inr rfl) hc) ?_)))
 intro Nf7 h7 t7 hn7 I7 F7
 exact wpAny_pure (P Nf7 h7 t7 (hn7.trans hn6) I7 F7)
theorem y0C {Z Nf N ρ σ m m'} {s:Shared} {t:Tgt} {tg:Expr} {x:V} {v:Value} {it:Addr} {L κ i:Nat} {o:Obj} {b:A} {Q:Unit→Shared→Prop} (hh:Ar.handled=none) (ht:TgE t tg) (I:Inv B Z (Nf++N) ρ σ s.heap) (Fr:Frm B env Z ρ m (Nf++N)) (hit:ItAt B Z ρ L b κ i o) (hio:s.heap.get? it=some o) (hr:RepV B Z x v) (hb:y5A t x m=some m')
  (hk:∀ x∈tgN t,stK (env.kindOf (Str.ofString x))=true) (hL:env.locals∈Nf.map (·.1)) (hC:∀ x∈tgN t,env.kindOf (Str.ofString x)=some .cell→∃ c,env.cells.lookup (Str.ofString x)=some c∧c∈Nf.map (·.1))
  (P:∀ Nf' h' tk,Nf'.map (·.1)=Nf.map (·.1)→Inv B Z (Nf'++N) ρ σ h'→Frm B env Z ρ m' (Nf'++N)→Q () { s with heap:=h',toks:=tk }) :
  wpAny (model B.prog B.w) Ar (letOwnedTupleGo tg (.ref it) v) (fun _ s1=>wpAny (model B.prog B.w) Ar (assign tg env v) Q F s1) F s:=by
 cases ht with
 | one y p=>
  obtain rfl:=pQ hb
  refine wpAny_pure ?_
  exact wpAny_assign_Name (l4A (a:=.v x) I Fr hr (hk y aQ) hL (hC y aQ) P)
 | two y z p q r k=>
  refine binE hb fun xs hxs hb=>?_
  refine bc fun zZ=>?_
  obtain ⟨pr,hpr,rfl⟩:=xQ.mp hb
  refine zZ ?_;clear zZ
  rw [vT_of hxs,m2A hpr] at hr
  refine bc fun zZ=>?_
  obtain ⟨T,items,n,rfl,hz,_,hl⟩:=hr
  obtain ⟨v1,r1,rfl,R1,hl⟩:=hl
  obtain ⟨v2,r2,rfl,R2,hl⟩:=hl
  refine zZ ?_;clear zZ
  obtain rfl:r2=[]:=hl
  have hT:=I.zin _ _ hz
  have go:wpAny (model B.prog B.w) Ar (letOwnedTupleGo (.Tuple [.Name (Str.ofString y) p,.Name (Str.ofString z) q] k r) (.ref it) (.ref T)) (fun _ s1=>s1=s) F s:=by
   cases hit with
   | list h1 h3 h4=>exact k4B hio h3 h4 rfl rfl
   | tup h1 h2 h3=>exact k4B hio h2 h3 rfl rfl
   | range h1 h2=>subst h2;exact k4B hio rfl rfl rfl rfl
   | dict h1 h2 h3 h4=>exact k4B hio h2 h3 rfl rfl
  refine wpAny_mono go (fun _ s1 e=>?_) fun _ _ e=>e
  subst e
  exact c1C (a:=.v pr.1) (b:=.v pr.2) hh ⟨_,hT,rfl,_,rfl⟩ I Fr R1 R2 (hk y aQ) (hk z (bQ _ aQ)) hL (fun w hw=>hC w (by rcases hw with rfl | rfl <;> simp [tgN])) P
inductive ForSt (B:Bs) (env:Env) (a:A) (oa:Option O) (its:List V) (κ:Nat) (Z1:Zm) (Nf N:Led) (ρ1:List Addr) (it:Addr) (s:Shared) (L:List V→Loc→H→Prop) (n:Nat) (s':Shared):Prop
 | mk (i:Nat) (m':Loc) (Z':Zm) (Nf':Led) (ρ':List Addr) (σ':H) (h':Heap) (tk:Nat) (o:Obj) (h1:n=its.length+1 - i) (h2:i≤its.length) (h3:s'={ s with heap:=h',toks:=tk }) (h4:Ext Z1 Z') (h5:ρ1 <+: ρ') (h6:Nf'.map (·.1)=Nf.map (·.1)) (h7:ItAt B Z' ρ' its.length a κ i o)
   (h8:Inv B Z' ((it,o)::(Nf'++N)) ρ' σ' h') (h9:Frm B env Z' ρ' m' (Nf'++N)) (h10:objA σ' a=oa) (h11:L (its.drop i) m' σ')
theorem sok_for {t:Tgt} {tg:Expr} {e:E} {ex:Expr} {body:List S} {bs:List Stmt} {pos:Pos} (hsm:∃ o,B.h0.get? sysModules=some o) (hh:Ar.handled=none) (ht:TgE t tg) (hk:∀ x∈tgN t,stK (env.kindOf (Str.ofString x))=true) (he:EOk B C Ar env e ex) (hb:SsOk B C Ar env body bs)
  (hfs:∀ v,foldedSetIterable ex env v=pure v):SOk B C Ar env (.for_ t e body) (.For tg ex bs [] pos):=by
 intro Z Nf N ρ σ m s K Q F I Fr O hx P
 rw [xS_for] at hx
 refine wpAny_For (he Z (Nf++N) ρ σ m s _ _ F I Fr hx ?_) hfs
 intro a v Z1 ρ1 σ1 h1 t1 hx1 e1 p1 I1 R1
 refine getE hx1 fun its hi hx1=>?_
 obtain ⟨κ,hi⟩:=b7B hi
 refine b9B hsm I1 R1 hi ?_
 intro it o h2 t2 hit I2
 refine codeAny_forLoop_any (ForSt B env a (objA σ1 a) its κ Z1 Nf N ρ1 it s fun l m' σ'=>forLoop (y5A t) (fun m σ K=>xSs C body m σ K) (fun σ=>Stay σ a (objA σ1 a)) l m' σ' K) ?_ (its.length+1)
  ⟨0,m,Z1,Nf,ρ1,σ1,h2,t2,o,rfl,sQ _,rfl,Ext.refl _,eW _,rfl,hit,I2,Fr.mono e1 p1,rfl,hx1⟩
 rintro n s' ⟨i,m',Z',Nf',ρ',σ',h',tk,o,rfl,hile,rfl,e2,p2,hn,hit,I',Fr',hi',hx'⟩
 refine h8B hsm hh I' hit (hi.stay hi') ?_ ?_
 ·intro y w o' h3 t3 hy hw hit' I3
  have hlt:i<its.length:=(jQ.mp hy).1
  have hdrop:its.drop i=y::its.drop (i+1):=by
   rw [sW hlt]
   rw [nQ hlt] at hy
   cases hy;rfl
  rw [hdrop,e1B] at hx'
  refine getE hx' fun my hmy hx'=>?_
  have hpm:((it,o')::(Nf'++N)).Perm (Nf'++(it,o')::N):=xZ.symm
  have I3p:=I3.perm hpm.symm
  refine y0C (Nf:=Nf') (N:=(it,o')::N) hh ht I3p (Fr'.mem (fun p hp=>hpm.mem_iff.mp (bQ _ hp))) hit' (I3.led _ aQ).1 hw hmy hk (O.of hn).loc (fun x _=>(O.of hn).cel _) ?_
  intro Nf'' h4 t4 hn' I4 F4
  refine hb Z' Nf'' ((it,o')::N) ρ' σ' my _ _ _ _ I4 F4 (O.of (hn'.trans hn)) hx' ?_
  intro fw fl m5 Z5 Nf5 ρ5 σ5 h5 t5 hx5 hf5 e5 p5 hn5 I5 F5
  obtain ⟨vs,hvs⟩:=hit'.fields
  have F5':=F5.dropF hvs
  have I5':Inv B Z5 ((it,o')::(Nf5++N)) ρ5 σ5 h5:=I5.perm xZ.symm
  have hnn:Nf5.map (·.1)=Nf.map (·.1):=hn5.trans (hn'.trans hn)
  cases hf5 with
  | next=>exact ⟨its.length+1 - (i+1),x20 hlt,i+1,m5,Z5,Nf5,ρ5,σ5,h5,t5,o',rfl,hlt,rfl,e2.trans e5,p2.trans p5,hnn,hit'.mono e5 p5,I5',F5',hx5.1,hx5.2⟩
  | cont=>exact ⟨its.length+1 - (i+1),x20 hlt,i+1,m5,Z5,Nf5,ρ5,σ5,h5,t5,o',rfl,hlt,rfl,e2.trans e5,p2.trans p5,hnn,hit'.mono e5 p5,I5',F5',hx5.1,hx5.2⟩
  | brk=>exact P _ _ _ Z5 Nf5 ρ5 σ5 h5 t5 hx5 .next ((e1.trans e2).trans e5) ((p1.trans p2).trans p5) hnn I5'.drop F5'
  | ret r=>exact P _ _ _ Z5 Nf5 ρ5 σ5 h5 t5 hx5 (.ret r) ((e1.trans e2).trans e5) ((p1.trans p2).trans p5) hnn I5'.drop F5'
 ·intro hnone h3 t3 I3
  have hge:its.length≤i:=by rwa [dZ] at hnone
  rw [List.drop_eq_nil_of_le hge,f1B] at hx'
  exact wpAny_execs_nil (P _ _ _ Z' Nf' ρ' σ' h3 t3 hx' .next (e1.trans e2) (p1.trans p2) hn I3 Fr')
end
end Fl
namespace Fl
open PySem PyProof.Rows PySem.W
theorem Inv.keepsMany {B:Bs} {Z:Zm} {N M:Led} {ρ:List Addr} {σ:H} {h h':Heap} (I:Inv B Z N ρ σ h) (hk:∀ b o,h.get? b=some o→h'.get? b=some o)
  (hM:∀ p∈M,h'.get? p.1=some p.2∧h.objs.size≤p.1) (hd:(M.map (·.1)).Nodup):Inv B Z (M++N) ρ σ h' where
 base:=I.base
 zin:=fun a o e=>hk _ _ (I.zin a o e)
 led:=fun p hp=>by
  rcases iQ.mp hp with hp | hp
  ·refine ⟨(hM p hp).1,?_⟩
   cases hz:Z p.1 with
   | none=>rfl
   | some o'=>exact absurd (I.z_lt hz) (z6W.mpr (hM p hp).2)
  ·exact ⟨hk _ _ (I.led p hp).1,(I.led p hp).2⟩
 len:=I.len
 live:=fun i a ob e1 e2 e3=>let ⟨h1,o,h2,h3⟩:=I.live i a ob e1 e2 e3;⟨h1,o,hk _ _ h2,h3⟩
 rin:=fun a ha=>let ⟨o,e⟩:=I.rin a ha;⟨o,hk _ _ e⟩
 nd:=by
  rw [z0Q,kQ,z3Q]
  refine ⟨hd,I.nd,fun a ha b hb=>?_⟩
  obtain ⟨p,hp,rfl⟩:=qQ.mp ha
  rintro rfl
  rcases iQ.mp hb with hb | hb
  ·obtain ⟨q,hq,e⟩:=qQ.mp hb
   have:=I.led_lt hq
   rw [e] at this;exact absurd this (z6W.mpr (hM p hp).2)
  ·exact absurd (I.rlt _ hb) (z6W.mpr (hM p hp).2)
theorem f7A {h:Heap}:∀ {cs:List (Str×Addr)},(∀ n c,(n,c)∈cs→∃ v,h.IsCell c v)→∃ M:Led,M.map (·.1)=cs.map (·.2)∧∀ p∈M,h.get? p.1=some p.2
 | [],_=>⟨[],rfl,fun _ h=>by cases h⟩
 | (n,c)::r,hc=>by
  refine bc fun zZ=>?_
  obtain ⟨M,h1,h2⟩:=f7A (cs:=r) (fun n' c' h'=>hc n' c' (bQ _ h'))
  obtain ⟨v,o,ho,hd⟩:=hc n c aQ
  refine zZ ?_;clear zZ
  refine ⟨(c,o)::M,by simp [h1],fun p hp=>?_⟩
  rcases lQ.mp hp with rfl | hp
  ·exact ho
  ·exact h2 p hp
section
variable {B:Bs} {C:a0A} {Ar:Around} {env:Env} {F:Value→Shared→Prop}
theorem lk_app {x:String} {a:A} {m:Loc}:∀ {ls:List String},lk ((ls.map fun x=>(x,Option.none))++m) x=some a→lk m x=some a
 | [],h=>h
 | y::ls,h=>by
  have h:(bif y == x then Option.none else lk ((ls.map fun x=>(x,Option.none))++m) x)=some a:=h
  cases hq:y == x with
  | true=>rw [hq] at h;exact nons h
  | false=>rw [hq] at h;exact lk_app h
theorem d5B:∀ {ps:List String} {as:List A} {x:String} {a:A},lk (w9A ps as) x=some a→x∈ps
 | [],as,x,a,h=>nons h
 | p::ps,[],x,a,h=>nons h
 | p::ps,b::as,x,a,h=>by
  rw [bindP_0,lk_1] at h
  cases hq:p == x with
  | true=>rw [← beq_iff_eq.mp hq];exact aQ
  | false=>rw [hq] at h;exact bQ _ (d5B h)
theorem g7A (kindOf:Str→Option NameKind):∀ (binds:List (Str×Value)) (m:Str→Option Value) (y:Str),(∀ p∈binds,p.1≠y)→bindL kindOf binds m y=m y
 | [],_,_,_=>rfl
 | (n,v)::r,m,y,h=>by
  have hn:y≠n:=fun e=>h (n,v) aQ e.symm
  unfold bindL
  rw [g7A kindOf r _ y (fun p hp=>h p (bQ _ hp))]
  split
  ·exact if_neg hn
  ·rfl
theorem h7A (kindOf:Str→Option NameKind):∀ (binds:List (Str×Value)) (m:Str→Option Value) (y:Str),(∀ p∈binds,p.1≠y)→bindC kindOf binds m y=m y
 | [],_,_,_=>rfl
 | (n,v)::r,m,y,h=>by
  have hn:y≠n:=fun e=>h (n,v) aQ e.symm
  unfold bindC
  rw [h7A kindOf r _ y (fun p hp=>h p (bQ _ hp))]
  split
  ·rfl
  ·exact if_neg hn
theorem e0B {ps:List String} {vs:List Value} {x:String} (h:x∉ps):∀ p∈(ps.map Str.ofString).zip vs,p.1≠Str.ofString x:=by
 intro p hp e
 have:=(List.of_mem_zip hp).1
 rw [e] at this
 obtain ⟨y,hy,he⟩:=qQ.mp this
 exact h (e1A he ▸ hy)
theorem bind_get (kindOf:Str→Option NameKind) {Z:Zm} {ρ:List Addr} {x:String} {a:A} {ps:List String}:∀ {as:List A} {vs:List Value},ps.Nodup→as.length=ps.length→p2A B Z ρ as vs→lk (w9A ps as) x=some a→
  ∃ v,RepA B Z ρ a v∧(kindOf (Str.ofString x)=some .local→∀ m,bindL kindOf ((ps.map Str.ofString).zip vs) m (Str.ofString x)=some v)∧(kindOf (Str.ofString x)≠some .local→∀ m,bindC kindOf ((ps.map Str.ofString).zip vs) m (Str.ofString x)=some v):=by
 induction ps with
 | nil=>intro as vs _ _ _ h;exact nons h
 | cons p ps ih=>
  intro as vs hnd hl hr h
  cases as with
  | nil=>exact nomatch hl
  | cons b as=>
   refine bc fun zZ=>?_
   obtain ⟨v,r,rfl,h1,h2⟩:=hr
   refine zZ ?_;clear zZ
   rw [rQ] at hnd
   rw [bindP_0,lk_1] at h
   cases hq:p == x with
   | true=>
    rw [hq] at h;cases h
    obtain rfl:=beq_iff_eq.mp hq
    refine ⟨v,h1,fun hk m=>?_,fun hk m=>?_⟩
    ·refine (g7A _ _ _ _ (e0B hnd.1)).trans ?_
     rw [if_pos hk];exact if_pos rfl
    ·refine (h7A _ _ _ _ (e0B hnd.1)).trans ?_
     rw [if_neg hk];exact if_pos rfl
   | false=>
    rw [hq] at h
    refine bc fun zZ=>?_
    obtain ⟨w,hw,hL,hC⟩:=ih hnd.2 (Nat.succ.inj hl) h2 h
    refine zZ ?_;clear zZ
    exact ⟨w,hw,fun hk m=>hL hk _,fun hk m=>hC hk _⟩
noncomputable def PostC (B:Bs) (Z:Zm) (N:Led) (ρ:List Addr) (s:Shared) (K:V→H→Prop) (Q:Value→Shared→Prop):Prop:=
 ∀ x v Z' ρ' σ' h' tk,K x σ'→Ext Z Z'→ρ <+: ρ'→Inv B Z' N ρ' σ' h'→RepV B Z' x v→Q v { s with heap:=h',toks:=tk }
noncomputable def d0A (B:Bs) (rank:String→Nat):a0A:=fun f as σ K=>∀ (Ar:Around) (Z:Zm) (N:Led) (ρ:List Addr) (s:Shared) (vs:List Value) (R:Result→Shared→Prop) (fa:Addr),
 B.fn f=some fa→Room Ar (rank f)→Inv B Z N ρ σ s.heap→p2A B Z ρ as vs→PostC B Z N ρ s K (fun v s'=>R (.ok (.ret v)) s')→codeAny (model B.prog B.w) Ar (.call (.ref fa) ⟨vs,[]⟩) R s
inductive FnAt (B:Bs) (C:a0A) (rank:String→Nat) (f:String) (d:Fn):Prop
 | mk (fa:Addr) (o:Obj) (fd:FuncData) (body:List Stmt) (h1:B.fn f=some fa) (h2:B.h0.get? fa=some o) (h3:o.data=.func fd) (h4:fd.body=.stmts body) (h5:fd.closure=[]) (h6:fd.globals=mainGlobals) (h7:fd.builtins=builtinsNs) (h8:B.h0.CodeRec fd.code fd.qualname)
   (h9:fd.scope.kind=.function) (h10:fd.scope.isCoroutine=false) (h11:fd.scope.isGenerator=false) (h12:d.ps.Nodup) (h13:∀ vs:List Value,vs.length=d.ps.length→bindArgs fd ⟨vs,[]⟩=pure ((d.ps.map Str.ofString).zip vs))
   (h14:∀ x∈d.ps,fd.scope.names.lookup (Str.ofString x)=some .local∨fd.scope.names.lookup (Str.ofString x)=some .cell) (h15:((cellsFrom 0 fd.scope.names []).map (·.1)).Nodup) (h16:fd.scope.names.all (fun p=>p.2 != .free)=true)
   (h17:∀ Ar env,env.scope=fd.scope→Ar.handled=none→Ar.depth+4 * rank f+3≤900→Ar.units+30 * rank f+230≤cLine→SsOk B C Ar env d.body body)
theorem u0C {rank:String→Nat} {tab:List (String×Fn)} (hlim:B.h0.NoLimit) (h:∀ f d,(f,d)∈tab→FnAt B (d0A B rank) rank f d):d1A (d0A B rank) tab:=by
 intro f d hfd as σ K hrun Ar Z N ρ s vs R fa hfa hroom I Ra P
 refine bc fun zZ=>?_
 obtain ⟨fa',o,fd,body,hfa',ho,hdat,hbody,hclo,hglob,hblt,hcode,hkind,hco,hgen,hnd,hbind,hloc,hcn,hfree,hsound⟩:=h f d hfd
 refine zZ ?_;clear zZ
 rw [hfa] at hfa';cases hfa'
 refine bc fun zZ=>?_
 obtain ⟨hlen,hx⟩:=hrun
 obtain ⟨hh,hdep,hun⟩:=hroom
 refine zZ ?_;clear zZ
 have hvl:vs.length=d.ps.length:=by rw [p0B Ra,hlen]
 have kinds:∀ n,∀ x∈(d.ps.map Str.ofString).zip vs,fd.scope.names.lookup x.1=some .local∨(fd.scope.names.lookup x.1=some .cell∧((cellsFrom n fd.scope.names []).lookup x.1).isSome=true):=by
  intro n x hx
  have:=(List.of_mem_zip hx).1
  refine bc fun zZ=>?_
  obtain ⟨y,hy,he⟩:=qQ.mp this
  refine zZ ?_;clear zZ
  rw [← he]
  rcases hloc y hy with h1 | h1
  ·exact .inl h1
  ·exact .inr ⟨h1,cellsFrom_some _ _ _ (.inl h1)⟩
 refine codeAny_call_cells (fd:=fd) (by unfold recursionLimit;lia) (I.keep _ _ ho) hdat (hlim.keeps I.keep) (hcode.keeps I.keep) hbody (hbind vs hvl) hclo (kinds _) (fun s₁ x=>?_) hco hgen hkind
 refine bc fun zZ=>?_
 obtain ⟨h₁,tk,rfl,_⟩:=x.done
 refine zZ ?_;clear zZ
 have hk₁:=x.toInCall.keep
 have hmem:∀ n c,(n,c)∈cellsFrom (s.heap.objs.size+1) fd.scope.names []→(cellsFrom (s.heap.objs.size+1) fd.scope.names []).lookup n=some c:=fun n c hm=>
  lookup_of_mem_nodup (cellsFrom_names fd.scope.names 0 (s.heap.objs.size+1) [] [] rfl ▸ hcn) hm
 refine bc fun zZ=>?_
 obtain ⟨oL,es,ep,hgL,hdL,hsL,hfL⟩:=x.toInCall.ns
 obtain ⟨M,hM1,hM2⟩:=f7A (h:=h₁) (cs:=cellsFrom (s.heap.objs.size+1) fd.scope.names []) (fun n c hm=>⟨_,x.cell n c (hmem n c hm)⟩)
 refine zZ ?_;clear zZ
 have hab:∀ p∈M,s.heap.objs.size<p.1:=by
  intro p hp
  have:p.1∈(cellsFrom (s.heap.objs.size+1) fd.scope.names []).map (·.2):=hM1 ▸ qQ.mpr ⟨p,hp,rfl⟩
  refine bc fun zZ=>?_
  obtain ⟨⟨n,c⟩,hm,e⟩:=qQ.mp this
  refine zZ ?_;clear zZ
  simp only at e;rw [← e]
  exact x.above n c hm
 have hndM:(M.map (·.1)).Nodup:=by
  rw [hM1]
  rw [xK,z2Z]
  exact x.apart
 have hnf:(((s.heap.objs.size,oL)::M).map (·.1)).Nodup:=by
  rw [z6Q,rQ]
  refine ⟨fun hm=>?_,hndM⟩
  refine bc fun zZ=>?_
  obtain ⟨p,hp,e⟩:=qQ.mp hm
  refine zZ ?_;clear zZ
  exact absurd (hab p hp) (by rw [e];exact wW _)
 have I1:Inv B Z (((s.heap.objs.size,oL)::M)++N) ρ σ h₁:=I.keepsMany hk₁ (fun p hp=>by
  rcases lQ.mp hp with rfl | hp
  ·exact ⟨hgL,uQ _⟩
  ·exact ⟨hM2 p hp,z8Q (hab p hp)⟩) hnf
 have cell_in:∀ y c,(cellsFrom (s.heap.objs.size+1) fd.scope.names []).lookup y=some c→∃ oc,(c,oc)∈M∧h₁.get? c=some oc:=by
  intro y c hc
  have:c∈M.map (·.1):=hM1 ▸ qQ.mpr ⟨(y,c),mem_of_lookup hc,rfl⟩
  refine bc fun zZ=>?_
  obtain ⟨p,hp,e⟩:=qQ.mp this
  refine zZ ?_;clear zZ
  refine ⟨p.2,?_,?_⟩
  ·rw [← e];exact hp
  ·rw [← e];exact hM2 p hp
 have Fr1:Frm B (callEnvC fd s.heap.objs.size fa) Z ρ ((d.ls.map fun x=>(x,Option.none))++w9A d.ps as) (((s.heap.objs.size,oL)::M)++N):=by
  refine ⟨hkind,hglob,hblt,fun y a hy hw=>?_,⟨oL,es,ep,mQ _ aQ,hdL,hsL⟩,fun y c hc=>?_,fun y hy=>?_,fun y z c h1 h2=>?_⟩
  ·have hy:=lk_app hy
   refine bc fun zZ=>?_
   obtain ⟨v,hv,hL,hCc⟩:=bind_get (B:=B) (callEnvC fd s.heap.objs.size fa).kindOf hnd hlen Ra hy
   refine zZ ?_;clear zZ
   refine ⟨v,hv,?_⟩
   rcases hloc y (d5B hy) with h1 | h1
   ·exact .inl ⟨h1,oL,es,ep,mQ _ aQ,hdL,hsL,(hfL _).trans (hL h1 _)⟩
   ·have hne:(callEnvC fd s.heap.objs.size fa).kindOf (Str.ofString y)≠some .local:=by
     show fd.scope.names.lookup _≠_
     rw [h1];decide
    refine bc fun zZ=>?_
    obtain ⟨c,hc⟩:=oZ.mp (cellsFrom_some fd.scope.names (s.heap.objs.size+1) [] (.inl h1))
    obtain ⟨oc,hm,hg⟩:=cell_in _ c hc
    obtain ⟨o',ho',hd'⟩:=x.cell _ c hc
    refine zZ ?_;clear zZ
    have:oc=o':=by rw [hg] at ho';cases ho';rfl
    subst this
    rw [hCc hne] at hd'
    exact .inr ⟨.inl h1,c,oc,hc,mQ _ (bQ _ hm),hd'⟩
  ·refine bc fun zZ=>?_
   obtain ⟨oc,hm,hg⟩:=cell_in _ c hc
   obtain ⟨o',ho',hd'⟩:=x.cell _ c hc
   refine zZ ?_;clear zZ
   have:oc=o':=by rw [hg] at ho';cases ho';rfl
   subst this
   exact ⟨oc,_,mQ _ (bQ _ hm),hd'⟩
  ·rcases hy with hy | hy
   ·exact oZ.mp (cellsFrom_some fd.scope.names (s.heap.objs.size+1) [] (.inl hy))
   ·have hm:(y,NameKind.free)∈fd.scope.names:=mem_of_lookup hy
    exact absurd (z2Q.mp hfree _ hm) (by simp)
  ·exact name_of_addr x.apart (mem_of_lookup h1) (mem_of_lookup h2)
 have hown:OwnF ((s.heap.objs.size,oL)::M) (callEnvC fd s.heap.objs.size fa):=by
  refine ⟨qQ.mpr ⟨_,aQ,rfl⟩,fun y hy=>?_⟩
  refine bc fun zZ=>?_
  obtain ⟨c,hc⟩:=oZ.mp (cellsFrom_some fd.scope.names (s.heap.objs.size+1) [] (.inl hy))
  obtain ⟨oc,hm,_⟩:=cell_in _ c hc
  refine zZ ?_;clear zZ
  exact ⟨c,hc,qQ.mpr ⟨(c,oc),bQ _ hm,rfl⟩⟩
 refine hsound (Ar.deeper (callEnvC fd s.heap.objs.size fa)) _ rfl hh (by show Ar.depth+1+_+_≤_;lia) (by show Ar.units+3+_+_≤_;lia) Z ((s.heap.objs.size,oL)::M) N ρ σ _ { s with heap:=h₁,toks:=tk } _ _ _ I1 Fr1 hown hx ?_
 intro fw fl m2 Z2 Nf2 ρ2 σ2 h2 t2 hk2 hf2 e2 p2 hn2 I2 F2
 have I3:Inv B Z2 N ρ2 σ2 h2:=I2.sub (List.sublist_append_right _ _)
 cases hf2 with
 | next=>exact P _ _ Z2 ρ2 σ2 h2 t2 hk2 e2 p2 I3 rfl
 | ret r=>
  refine getE hk2 fun x hx hk2=>?_
  rw [i2A hx] at r
  exact P _ _ Z2 ρ2 σ2 h2 t2 hk2 e2 p2 I3 r
 | brk=>exact hk2.elim
 | cont=>exact hk2.elim
end
end Fl
namespace Fl
open PySem PyProof.Rows PySem.W
section
variable {B:Bs} {C:a0A} {Ar:Around} {env:Env} {F:Value→Shared→Prop} {rank:String→Nat}
theorem j5A {f:Value} {first:List Value} {irs:List E} {es:List Expr} {pos:Pos} (hin:Frag.In B.K B.h0) (hf:keepIn B.K f=true) (h:EsOk B C Ar env irs es)
  {Z N ρ σ m} {s:Shared} {K:List A→H→Prop} {Q:Value→Shared→Prop} (I:Inv B Z N ρ σ s.heap) (Fr:Frm B env Z ρ m N) (hx:xEs C irs m σ K)
  (P:o1C B irs.length Z N ρ s K (fun vs s'=>wpAny (model B.prog B.w) Ar (call f (first++vs)) Q F s')):wpAny (model B.prog B.w) Ar (callWith pos f first (backTo pos (starEach es env)) []) Q F s:=by
 have hp:=q0A (env:=env) (pos:=pos) h.un
 refine callWith_of (P:=fun h=>Frag.In B.K h) (by rw [hp];rfl) (keeps_K hf) ?_
 cases h with
 | nil=>
  simp only [xEs_nil,xEs_cons] at hx
  refine PyProof.Rows.evalArgs_none ⟨hin.keeps I.keep,?_⟩
  exact P [] [] Z ρ σ s.heap s.toks rfl hx (Ext.refl _) (eW _) I rfl
 | cons he hu hr=>
  have h':=j7A (F:=F) (pos:=pos) (Q:=fun vs s₁=>Frag.In B.K s₁.heap∧wpAny (model B.prog B.w) Ar (call f (first++vs)) Q F s₁) (EsOk.cons he hu hr) I Fr hx (fun as vs Z' ρ' σ' h' tk hl hk e p I' R'=>⟨hin.keeps I'.keep,P as vs Z' ρ' σ' h' tk hl hk e p I' R'⟩)
  rw [k0A hu] at h' ⊢
  exact Calls.evalArgs_plain h'
theorem eok_call {f:String} {fa:Addr} {irs:List E} {es:List Expr} {p pos:Pos} (hin:Frag.In B.K B.h0) (hroom:Room Ar (rank f)) (hfa:B.fn f=some fa) (hg:z5A B (Str.ofString f) (.ref fa)) (hf:keepIn B.K (.ref fa)=true)
  (hk:env.kindOf (Str.ofString f)=some .globalImplicit) (hd:(Str.ofString f == ("__debug__" : Str))=false) (h:EsOk B (d0A B rank) Ar env irs es):EOk B (d0A B rank) Ar env (.call f irs) (.Call (.Name (Str.ofString f) p) es [] pos):=by
 intro Z N ρ σ m s K Q F I Fr hx P
 rw [xE_call] at hx
 refine wpAny_Call_NameR (n3A I Fr hg hk hd (j5A hin hf h I Fr hx ?_))
 intro as vs Z1 ρ1 σ1 h1 t1 hl hx1 e1 p1 I1 R1
 refine bc fun zZ=>?_
 obtain ⟨hn,ha,hx1⟩:=hx1
 refine zZ ?_;clear zZ
 refine getE hx1 fun σl hp hx1=>?_
 refine bc fun zZ=>?_
 obtain ⟨Nr,ρl,_,hat,Il,bk⟩:=I1.lend ha hp
 refine zZ ?_;clear zZ
 refine wpAny_call (hx1 Ar Z1 (Nr++N) ρl _ vs _ fa hfa hroom Il (e2B 0 R1 hn fun j i hj=>by rw [iZ];exact hat j i hj) ?_)
 intro x v Z2 ρ2 σ2 h2 t2 hk e2 p2 I2 R2
 exact P _ _ Z2 ρ1 _ h2 t2 hk (e1.trans e2) p1 (bk _ _ _ _ e2 p2 I2) R2
theorem u7A {Z:Zm} {ρ ρ':List Addr}:∀ {as:List A} {vs:List Value} {ws:List V},allV as=some ws→p2A B Z ρ as vs→p2A B Z ρ' as vs:=by
 intro as
 induction as with
 | nil=>intro _ _ _ h;exact h
 | cons a as ih=>
  intro vs ws ha h
  cases a with
  | v x=>
   obtain ⟨ws,hw,_⟩:=xQ.mp ha
   obtain ⟨v,r,e,h1,h2⟩:=h
   exact ⟨v,r,e,h1,ih hw h2⟩
  | ref _=>exact nons ha
  | inst _ _=>exact nons ha
noncomputable def t1A (e:Expr):Bool:=Expr.casesOn (motive_1:=fun _=>Bool) e (fun _ _ _=>true) (fun _ _ _=>true) (fun _ _ _ _=>true) (fun _ _ _=>true) (fun _ _ _ _=>true) (fun _ _ _ _=>true) (fun _ _ _=>true) (fun _ _ _=>true) (fun _ _ _ _=>true) (fun _ _ _ _=>true) (fun _ _ _ _ _=>true) (fun _ _ _ _=>true) (fun _ _=>true) (fun _ _=>true) (fun _ _=>true) (fun _ _ _ _=>true) (fun f _ _ _=>Nat.beq f.ctorIdx 20) (fun _ _ _ _=>true) (fun _ _=>true) (fun _ _ _=>true) (fun _ _ _=>true) (fun _ _ _=>true) (fun _ _=>true) (fun _ _=>true) (fun _ _=>true) (fun _ _ _=>true) (fun _ _ _ _=>true)
theorem x9A {o:Expr} {name:Str} (h:t1A o=true) (whole:Sem Value):attributeBase o name env whole=whole:=
 Expr.casesOn (motive_1:=fun o=>t1A o=true→attributeBase o name env whole=whole) o (fun _ _ _ _=>rfl) (fun _ _ _ _=>rfl) (fun _ _ _ _ _=>rfl) (fun _ _ _ _=>rfl) (fun _ _ _ _ _=>rfl) (fun _ _ _ _ _=>rfl) (fun _ _ _ _=>rfl) (fun _ _ _ _=>rfl) (fun _ _ _ _ _=>rfl) (fun _ _ _ _ _=>rfl) (fun _ _ _ _ _ _=>rfl) (fun _ _ _ _ _=>rfl) (fun _ _ _=>rfl) (fun _ _ _=>rfl) (fun _ _ _=>rfl) (fun _ _ _ _ _=>rfl) (fun f a k p h=>Expr.Attribute.elim (motive_1:=fun f=>attributeBase (.Call f a k p) name env whole=whole) f (Nat.eq_of_beq_eq_true h) fun _ _ _=>rfl) (fun _ _ _ _ _=>rfl) (fun _ _ _=>rfl) (fun _ _ _ _=>rfl) (fun _ _ _ _=>rfl) (fun _ _ _ _=>rfl) (fun _ _ _=>rfl) (fun _ _ _=>rfl) (fun _ _ _=>rfl) (fun _ _ _ _=>rfl) (fun _ _ _ _ _=>rfl) h
theorem s6A {o:Expr} {name:Str} {apos pos:Pos} {args:List Expr} {Q:Value→Shared→Prop} {s:Shared} {f:Value} {first:List Value} {ov:Value} (hs:args.all n1A=true) (hl:args.length<30) (hline:(apos.endLine == pos.line)=true)
  (hm:∀ Q':Value×List Value→Shared→Prop,Q' (f,first) s→∀ pl,wpAny (model B.prog B.w) Ar (getMethod ov name pl) Q' F s)
  (hc:wpAny (model B.prog B.w) Ar (callWith pos f first (backTo pos (starEach args env)) []) Q F s) :
  wpAny (model B.prog B.w) Ar (methodCall o name apos pos env ov (args.length+([]:List Keyword).length) (backTo pos (starEach args env)) (backToKw pos (keywordEach [] env))) Q F s:=by
 have hp:=q0A (env:=env) (pos:=pos) hs
 have hform:methodCallForm (args.length+([]:List Keyword).length) (backTo pos (starEach args env)) (backToKw pos (keywordEach [] env))=true:=by
  unfold methodCallForm
  have h1:(backTo pos (starEach args env)).all (fun x=>!x.1)=true:=by
   rw [z2Q]
   intro x hx
   rw [List.any_eq_false] at hp
   simpa using hp x hx
  rw [h1,show backToKw pos (keywordEach [] env)=[] from rfl]
  simp [hl]
 have hpos:methodCallPos true o env apos pos=pure pos:=by unfold methodCallPos;simp [hline]
 unfold methodCall
 rw [hform]
 refine wpAny_bind (wpAny_holding ?_)
 unfold calleeOf
 simp only [if_true]
 exact hm _ (wpAny_bind (wpAny_of_eq hpos hc)) _
theorem eok_meth {a:E} {f:String} {irs:List E} {o:Expr} {es:List Expr} {apos pos:Pos} (O:COk B) (hns:t1A o=true) (hline:(apos.endLine == pos.line)=true) (hlen:es.length<30)
  (hfn:∀ c C,B.cls c=some C→∃ fa,B.fn (c ++ "." ++ f)=some fa∧keepIn B.K (.ref fa)=true∧Room Ar (rank (c ++ "." ++ f))∧findIn B.K (.ref C) (Str.ofString f)=some (some (.ref fa))∧typeIn B.K (.ref fa)=some (.type "function")∧f∉h0A c)
  (ha:EOk B (d0A B rank) Ar env a o) (h:EsOk B (d0A B rank) Ar env irs es):EOk B (d0A B rank) Ar env (.meth a f irs) (.Call (.Attribute o (Str.ofString f) apos) es [] pos):=by
 intro Z N ρ σ m s K Q F I Fr hx P
 rw [xE_meth] at hx
 rw [arm_eval_Call,x9A hns]
 refine wpAny_bind (ha Z N ρ σ m s _ _ F I Fr hx ?_)
 intro va v Z1 ρ1 σ1 h1 t1 hx1 e1 p1 I1 R1
 refine bc fun zZ=>?_
 obtain ⟨⟨c,fs⟩,hva,hx1⟩:=u9B hx1
 refine zZ ?_;clear zZ
 ·have hva:=asO_of hva
  simp only at hva
  subst hva
  refine wpAny_bind (wpAny_standAt ?_)
  have R1':=R1
  refine bc fun zZ=>?_
  obtain ⟨x,Cl,d,es',n,o',rfl,hcl,hz1,hz2,rfl,hk,hr⟩:=R1'
  obtain ⟨fa,hfa,hkeep,hroom,m1,m2,m3⟩:=hfn c Cl hcl
  obtain ⟨q1,q2,q3,q4,q5⟩:=O.pg c Cl hcl
  refine zZ ?_;clear zZ
  have IA:InstAt h1 x (y5B Cl d) Cl (some (dictOf es' n)):=⟨I1.zin _ _ hz1,rfl,rfl,I1.zin _ _ hz2⟩
  refine s6A (f:=.ref fa) (first:=[.ref x]) h.un hlen hline (fun Q' hq pl=>?_) ?_
  ·refine method_fn (O.kin.keeps I1.keep) IA q1 q2 m1 m2 ?_ hq
   show (lookIn _ (dictOf es' n)).map _=_
   rw [lookIn_dict,v9B hk m3];rfl
  ·refine j5A O.kin hkeep h I1 (Fr.mono e1 p1) hx1 ?_
   intro as vs Z2 ρ2 σ2 h2 t2 hl hx2 e2 p2 I2 R2
   refine getE (show get (allV as) _ from hx2) fun ws hw hx2=>?_
   refine bc fun zZ=>?_
   obtain ⟨Nr,ρl,hρl,_,Il,bk⟩:=I2.lend (is:=[]) rfl rfl
   refine zZ ?_;clear zZ
   refine wpAny_call (hx2 Ar Z2 (Nr++N) ρl _ (.ref x::vs) _ fa hfa hroom Il ⟨.ref x,vs,rfl,RepV.mono e2 R1,u7A hw R2⟩ ?_)
   intro y v Z3 ρ3 σ3 h3 t3 hk e3 p3 I3 R3
   exact P _ _ Z3 ρ2 _ h3 t3 hk ((e1.trans e2).trans e3) (p1.trans p2) (bk _ _ _ _ e3 p3 I3) R3
theorem eok_attr {a:E} {f:String} {o:Expr} {pos:Pos} (O:COk B) (hns:t1A o=true) (hf:∀ c C,B.cls c=some C→f∈h0A c) (ha:EOk B C Ar env a o):EOk B C Ar env (.attr a f) (.Attribute o (Str.ofString f) pos):=by
 intro Z N ρ σ m s K Q F I Fr hx P
 rw [xE_attr] at hx
 refine Attribute_any_ (ha Z N ρ σ m s _ _ F I Fr hx ?_) (by rw [arm_eval_Attribute,x9A hns])
 intro va v Z1 ρ1 σ1 h1 t1 hx1 e1 p1 I1 R1
 refine getE hx1 fun r hq hx1=>?_
 exact attr_ok O I1 R1 hq hf fun w tk hr=>P _ _ Z1 ρ1 σ1 _ _ hx1 e1 p1 I1 hr
theorem room_new {A:Around} {r:Nat} (Cl:Addr) (hh:A.handled=none) (hd:A.depth+4 * r+5≤900) (hu:A.units+30 * r+240≤cLine) (vs:List Value):Room (A.under (.builtin "type.__call__" ⟨.ref Cl::vs,[]⟩)) r:=by
 have h1:(A.under (.builtin "type.__call__" ⟨.ref Cl::vs,[]⟩)).depth=A.depth+1:=rfl
 have h2:(A.under (.builtin "type.__call__" ⟨.ref Cl::vs,[]⟩)).units=A.units+1:=rfl
 refine ⟨hh,?_,?_⟩
 ·rw [h1];lia
 ·rw [h2];lia
theorem eok_new {c:String} {Cl fI:Addr} {irs:List E} {es:List Expr} {p pos:Pos} (O:COk B) (hcl:B.cls c=some Cl) (hroom:∀ vs,Room (Ar.under (.builtin "type.__call__" ⟨.ref Cl::vs,[]⟩)) (rank (c ++ ".__init__"))) (hfI:B.fn (c ++ ".__init__")=some fI) (hmk:makesIn B.K Cl=true)
  (hi:findIn B.K (.ref Cl) "__init__" = some (some (.ref fI))) (hft:typeIn B.K (.ref fI)=some (.type "function")) (hkeep:keepIn B.K (.ref Cl)=true) (hg:z5A B (Str.ofString c) (.ref Cl))
  (hk:env.kindOf (Str.ofString c)=some .globalImplicit) (hd:(Str.ofString c == ("__debug__" : Str))=false) (h:EsOk B (d0A B rank) Ar env irs es):EOk B (d0A B rank) Ar env (.new c irs) (.Call (.Name (Str.ofString c) p) es [] pos):=by
 intro Z N ρ σ m s K Q F I Fr hx P
 rw [xE_new] at hx
 refine wpAny_Call_NameR (n3A I Fr hg hk hd (j5A O.kin hkeep h I Fr hx ?_))
 intro as vs Z1 ρ1 σ1 h1 t1 hl hx1 e1 p1 I1 R1
 refine getE hx1 fun ws hw hx1=>?_
 have X1:=O.kin.keeps I1.keep
 refine wpAny_call (make_core (makes_of X1 hmk) (looks_findIn X1 hi) (fun self=>bind_fn X1 self hft) (.inl rfl) ?_)
 refine bc fun zZ=>?_
 obtain ⟨Nr,ρl,hρl,_,Il,bk⟩:=I1.lend (is:=[]) rfl rfl
 refine zZ ?_;clear zZ
 obtain rfl:ρl=[]:=List.length_eq_zero_iff.mp hρl
 have I2:=(Il.push emptyDict rfl).push (instObj Cl h1.objs.size) rfl
 rw [z7K] at I2
 have I4:=I2.freeze.newRef (ob:=.fields []) ⟨[],0,rfl,⟨[],rfl,rfl⟩,s1A⟩
 refine hx1 _ _ (Nr++N) _ _ (.ref (h1.objs.size+1)::vs) _ fI hfI (hroom _) I4 ⟨_,vs,rfl,?_,u7A hw (R1.mono I2.freeze_ext (eW _))⟩ ?_
 ·exact ⟨_,Cl,h1.objs.size,rfl,hcl,rfl,if_pos rfl⟩
 ·intro r v Z5 ρ5 σ5 h5 t5 hk5 e5 p5 I5 R5
  obtain ⟨hno,hk5⟩:=hk5
  refine getE hk5 fun fs hfs hk5=>?_
  refine binE hfs fun ob hob hof=>?_
  rw [List.head?_eq_getElem?] at hob
  rw [oF_of hof] at hob
  have hr:r=.none:=by cases r <;> first | rfl | exact noB hno
  subst hr
  obtain rfl:v=.none:=R5
  refine ⟨rfl,?_⟩
  have hρ:ρ5[0]?=some h1.objs.size:=e5A p5 rfl
  refine bc fun zZ=>?_
  obtain ⟨hz,o,hgo,es',n',rfl,hks,hrl⟩:=I5.live _ _ _ hρ hob (fun e=>nomatch e)
  refine zZ ?_;clear zZ
  have I6:=I5.frz hρ hob (fun e=>nomatch e) hgo
  have x6:=I5.frz_ext (o:=e0A es' n') hρ hob (fun e=>nomatch e)
  have x7:=I2.freeze_ext.trans (e5.trans x6)
  refine P _ _ _ ρ1 σ1 h5 t5 hk5.2 (e1.trans x7) p1 (bk _ _ _ _ x7 List.nil_prefix I6) ?_
  refine ⟨_,Cl,h1.objs.size,es',n',_,rfl,hcl,?_,if_pos rfl,rfl,?_,hrl.mono x6⟩
  ·exact x6 _ _ (e5 _ _ (if_pos rfl))
  ·refine bc fun zZ=>?_
   obtain ⟨ts,hts1,hts2⟩:=hks
   refine zZ ?_;clear zZ
   refine ⟨ts,?_,?_⟩
   ·rw [← hk5.1];exact hts1
   ·rw [← hk5.1,eQ];exact hts2
theorem tok_call {f:String} {irs:List E} {g:Expr} {es:List Expr} {pos:Pos} (hsm:∃ o,B.h0.get? sysModules=some o) (h:EOk B C Ar env (.call f irs) (.Call g es [] pos)):TOk B C Ar env (.call f irs) (.Call g es [] pos):=
 i3B hsm h (fun _ _ _=>rfl) (fun _=>rfl)
theorem tok_isi {a:E} {c:Cl} {g:Expr} {es:List Expr} {pos:Pos} (hsm:∃ o,B.h0.get? sysModules=some o) (h:EOk B C Ar env (.isi a c) (.Call g es [] pos)):TOk B C Ar env (.isi a c) (.Call g es [] pos):=
 i3B hsm h (fun _ _ _=>rfl) (fun _=>rfl)
end
end Fl
namespace Fl
open PySem PyProof.Rows PySem.W
theorem g5A {n:String} {ns:List String} {es:List DictEntry} {e:DictEntry} {t:Tok} (he:e.key=.str (Str.ofString n) t) (h:r1A ns es):r1A (n::ns) (e::es):=by
 obtain ⟨ts,h1,h2⟩:=h
 exact ⟨t::ts,by simp [he,h1],by simp [h2]⟩
theorem w0B:r1A [] []:=⟨[],by simp,rfl⟩
section
variable {B:Bs} {C:a0A} {Ar:Around} {env:Env} {F:Value→Shared→Prop} {rank:String→Nat}
theorem v7B {Z:Zm} {f:String} {x:V} {v:Value} {hsh:Int} {tk:Tok} (hv:RepV B Z x v):∀ {fs:List (String×V)} {es:List DictEntry},r1A (fs.map (·.1)) es→RepL B Z (fs.map (·.2)) (es.map (·.val))→
  r1A ((q1A fs f x).map (·.1)) (putL (Str.ofString f) hsh (.str (Str.ofString f) tk) v es)∧RepL B Z ((q1A fs f x).map (·.2)) ((putL (Str.ofString f) hsh (.str (Str.ofString f) tk) v es).map (·.val))
 | [],es,hk,hr=>by
  rw [i4A hk]
  simp only [k8A,j8A,putL,z6Q,List.map_nil]
  exact ⟨g5A (t:=tk) rfl w0B,x0A hv s1A⟩
 | (n,y)::fs,es,hk,hr=>by
  refine bc fun zZ=>?_
  obtain ⟨e,r,t,rfl,he,hk'⟩:=l2A hk
  refine zZ ?_;clear zZ
  simp only [z6Q,n0A,m0A,zK] at hr
  refine bc fun zZ=>?_
  obtain ⟨w,ws,⟨rfl,rfl⟩,h1,h2⟩:=hr
  refine zZ ?_;clear zZ
  simp only [k8A,j8A,putL,he,Value.isStr]
  by_cases hnf:n=f
  ·subst hnf
   simp only [if_true,beq_self_eq_true,z6Q]
   exact ⟨g5A (t:=t) rfl hk',x0A hv h2⟩
  ·have hne:(Str.ofString n == Str.ofString f)=false:=by
    cases hq:Str.ofString n == Str.ofString f with
    | false=>rfl
    | true=>exact absurd (e1A (beq_iff_eq.mp hq)) hnf
   simp only [if_neg hnf,hne,fW,if_false,z6Q]
   obtain ⟨i1,i2⟩:=v7B (hsh:=hsh) (tk:=tk) (f:=f) hv hk' h2
   exact ⟨g5A he i1,x0A h1 i2⟩
theorem u4A:∀ {ns:List String} {es:List DictEntry},r1A ns es→es.any (·.refKey)=false∧es.length=ns.length
 | [],es,h=>by rw [i4A h];exact ⟨rfl,rfl⟩
 | n::ns,es,h=>by
  refine bc fun zZ=>?_
  obtain ⟨e,r,t,rfl,he,hk'⟩:=l2A h
  obtain ⟨h1,h2⟩:=u4A hk'
  refine zZ ?_;clear zZ
  have hrk:e.refKey=false:=by simp [DictEntry.refKey,he]
  exact ⟨by simp [List.any_cons,hrk,h1],by simp [h2]⟩
theorem s3B {name:Str} {hsh:Int} {k v:Value}:∀ {es:List DictEntry},(putL name hsh k v es).length≤es.length+1
 | []=>by simp [putL]
 | e::r=>by
  simp only [putL]
  split
  ·simp
  ·have:=s3B (name:=name) (hsh:=hsh) (k:=k) (v:=v) (es:=r);simp;lia
theorem osa_put {K:Frag} {x dx Cl:Addr} {es:List DictEntry} {n:Nat} {name:Str} {tk:Tok} {v:Value} {s:Shared} {R:Result→Shared→Prop} (Xk:K.In s.heap) (I:InstAt s.heap x (y5B Cl dx) Cl (some (dictOf es n))) (hp:plainOver K Cl=true) (ht:takerIn K Cl name=some none)
  (hh:hasDictIn K Cl=true) (hno:es.any (·.refKey)=false) (hz:es.length<1000)
  (h:∀ h' hs t n',h'.get? dx=some (dictOf (putL name hs (.str name t) v es) n')→Heap.SameBut dx s.heap h'→R (.ok (.ret .none)) { s with heap:=h',toks:=s.toks+1 }) :
  codeAny (model B.prog B.w) Ar (.call (.builtin "object.__setattr__") ⟨[.ref x,.str name tk,v],[]⟩) R s:=by
 refine osa_open Xk I hp ht fun b=>?_
 refine bc fun zZ=>?_
 obtain ⟨cd,hc,hd'⟩:=any_some hh
 obtain ⟨hx,hcl,hn,D⟩:=I
 refine zZ ?_;clear zZ
 have D:s.heap.get? dx=some (dictOf es n):=D
 refine wpAny_bind (wpAny_pure (wpAny_bind (wpAny_bind (wpAny_loadPart hx (wpAny_bind ((looks_clsIn Xk hc).here ?_))))))
 rw [hd']
 refine wpAny_pure (a:=some dx) (wpAny_bind (wpAny_pure (wpAny_bind ?_)))
 unfold nsSet
 refine wpAny_bind (wpAny_bind (wpAny_askSetting (wpAny_pure (wpAny_bind (wpAny_mkText (wpAny_bind (wpAny_loadPart D ?_)))))))
 have c:(!es.toArray.any (·.key.isStr name) && es.toArray.any (·.refKey))=false:=by
  rw [List.any_toArray,List.any_toArray,hno,Bool.and_false]
 show wpAny _ _ (if aRefKeyMayBeTheName name _=true then _ else _) _ _ _
 rw [show aRefKeyMayBeTheName name es.toArray=false from by rw [aRefKeyMayBeTheName_at,c]]
 rw [if_neg (by decide)]
 refine wpAny_updatePart D ?_
 have hput:=putName_dict name (PyData.keyHash B.w.params name) (.str name s.toks) v es n
 have D':=qZ (h:=s.heap) (a:=dx) (Obj.putName name (PyData.keyHash B.w.params name) (.str name s.toks) v) D (by rw [hput];rfl)
 rw [hput] at D'
 refine wpAny_bind (wpAny_lookBehind D' (by exact pastItsLine_dict (by rw [z4W,sizeLine_eq];have:=s3B (name:=name) (hsh:=PyData.keyHash B.w.params name) (k:=.str name s.toks) (v:=v) (es:=es);lia)) ?_)
 exact wpAny_pure (h _ _ _ _ D' (pZ ..))
theorem sok_setA {x f:String} {e:E} {ex:Expr} {p apos pos:Pos} (O:COk B) (hd:(Str.ofString x == ("__debug__" : Str))=false) (hcd:(Str.ofString x == ("__classdict__" : Str))=false) (hw:ownN env x=true) (hf:∀ c C,B.cls c=some C→f∈h0A c)
  (he:EOk B C Ar env e ex) (hs:swapsWith ex (some (.Attribute (.Name (Str.ofString x) p) (Str.ofString f) apos)) pos.line env=pure false) :
  SOk B C Ar env (.setA x f e) (.Assign [.Attribute (.Name (Str.ofString x) p) (Str.ofString f) apos] ex pos):=by
 intro Z Nf N ρ σ m s K Q F I Fr O' hx P
 rw [xS_setA] at hx
 refine plainObj_wpAny_Assign_Attribute (he Z (Nf++N) ρ σ m s _ _ F I Fr hx ?_) hs
 intro a v Z1 ρ1 σ1 h1 t1 hx1 e1 p1 I1 R1
 refine getE hx1 fun y hy hx1=>?_
 refine getE hx1 fun i hi hx1=>?_
 refine getE hx1 fun fs hfs hx1=>?_
 refine binE hi fun aa hm hi=>?_
 obtain ⟨c,rfl⟩:=asN_of hi
 refine binE hfs fun ob hob hof=>?_
 have hfs:=hob
 rw [oF_of hof] at hfs
 rw [i2A hy] at R1
 ··refine u8B I1 (Fr.mono e1 p1) hm hd hcd hw fun w hrw=>?_
   refine bc fun zZ=>?_
   obtain ⟨xx,Cl,d,rfl,hcl,hρ,hz⟩:=hrw
   obtain ⟨_,o,hg2,es,n,rfl,hk',hr⟩:=I1.live i d _ hρ hfs (fun e=>nomatch e)
   refine zZ ?_;clear zZ
   have hk:r1A (fs.map (·.1)) es:=by simpa [r1A] using hk'
   refine bc fun zZ=>?_
   obtain ⟨q1,q2,q3,q4,q5⟩:=O.pg c Cl hcl
   refine zZ ?_;clear zZ
   have IA:InstAt h1 xx (y5B Cl d) Cl (some (dictOf es n)):=⟨I1.zin _ _ hz,rfl,rfl,hg2⟩
   obtain ⟨k1,k2⟩:=u4A hk
   refine set_plain (O.kin.keeps I1.keep) IA q4 ?_
   refine osa_put (s:={ s with heap:=h1,toks:=t1+1 }) (O.kin.keeps I1.keep) IA q5 ?_ q3 k1 ?_ ?_
   ·unfold takerIn;rw [O.fld c Cl f hcl (hf c Cl hcl)];rfl
   ·rw [k2];have:=hx1.1;clear IA;simp;lia
   ·intro h' hsh t n' hg' hsb
    obtain ⟨r1,r2⟩:=v7B (hsh:=hsh) (tk:=t) (f:=f) R1 hk hr
    refine P _ _ _ Z1 Nf ρ1 _ h' _ hx1.2 .next e1 p1 rfl (I1.updRef hρ hfs (by simp) hsb hg' ⟨_,n',rfl,by simpa [r1A] using r1,r2⟩) (Fr.mono e1 p1)
end
end Fl
namespace Fl
open PySem PyProof.Rows PySem.W
theorem x2A (f:Array Value→Array Value) (items:List Value) (n:Nat):Obj.mapSeq f (c0A items n)=c0A (f items.toArray).toList (if (f items.toArray).size=items.length then n else n+1):=by
 by_cases h:(f items.toArray).size=items.length <;> simp [Obj.mapSeq,c0A,h]
section
variable {B:Bs} {C:a0A} {Ar:Around} {env:Env} {F:Value→Shared→Prop} {rank:String→Nat}
theorem isLst_at {Z N ρ σ} {h:Heap} {a:A} {v:Value} (I:Inv B Z N ρ σ h) (R:RepA B Z ρ a v) (hl:g9B σ a=true):∃ l vals n,v=.ref l∧h.get? l=some (c0A vals n):=by
 refine bc fun zZ=>?_
 obtain ⟨xs,hx⟩:=oZ.mp hl
 obtain ⟨l,vals,n,rfl,hg,_⟩:=b1A I R hx
 refine zZ ?_;clear zZ
 exact ⟨l,vals,n,rfl,hg⟩
theorem s8A {id:String} {first:List Value} {irs:List E} {es:List Expr} {pos:Pos} (h:EsOk B C Ar env irs es)
  {Z N ρ σ m} {s:Shared} {K:List A→H→Prop} {Q:Value→Shared→Prop} (I:Inv B Z N ρ σ s.heap) (Fr:Frm B env Z ρ m N) (hx:xEs C irs m σ K)
  (P:o1C B irs.length Z N ρ s K (fun vs s'=>wpAny (model B.prog B.w) Ar (call (.builtin id) (first++vs)) Q F s')):wpAny (model B.prog B.w) Ar (callWith pos (.builtin id) first (backTo pos (starEach es env)) []) Q F s:=by
 have hp:=q0A (env:=env) (pos:=pos) h.un
 refine Calls.callWith_builtin hp ?_
 cases h with
 | nil=>
  simp only [xEs_nil,xEs_cons] at hx
  refine PyProof.Rows.evalArgs_none ?_
  exact P [] [] Z ρ σ s.heap s.toks rfl hx (Ext.refl _) (eW _) I rfl
 | cons he hu hr=>
  have h':=j7A (F:=F) (pos:=pos) (EsOk.cons he hu hr) I Fr hx P
  rw [k0A hu] at h' ⊢
  exact Calls.evalArgs_plain h'
noncomputable def lmStr:Lm→String
 | .append=> "append"
 | .pop=> "pop"
 | .pop0=> "pop"
 | .index=> "index"
 | .count=> "count"
noncomputable def lmId:Lm→String
 | .append=> "list.append"
 | .pop=> "list.pop"
 | .pop0=> "list.pop"
 | .index=> "list.index"
 | .count=> "list.count"
theorem lm_slot (f:Lm):Slot "list" (Str.ofString (lmStr f)) (lmId f)∧typeOf (.builtin (lmId f))=pure (.type "method_descriptor"):=by
 cases f with
 | append=>exact ⟨PySem.F.slot_list_append,PySem.F.type_list_append⟩
 | pop=>exact ⟨PySem.F.slot_list_pop,PySem.F.type_list_pop⟩
 | pop0=>exact ⟨PySem.F.slot_list_pop,PySem.F.type_list_pop⟩
 | index=>exact ⟨PySem.F.slot_list_index,PySem.F.type_list_index⟩
 | count=>exact ⟨PySem.F.slot_list_count,PySem.F.type_list_count⟩
noncomputable def PostM (B:Bs) (Z:Zm) (N:Led) (ρ:List Addr) (s:Shared) (K:A→H→Prop) (Q:Value→Shared→Prop):Prop:=
 ∀ a v σ' h' tk,K a σ'→Inv B Z N ρ σ' h'→RepA B Z ρ a v→Q v { s with heap:=h',toks:=tk }
noncomputable def LmOk (B:Bs) (Ar:Around) (f:Lm):Prop:=
 ∀ (Z:Zm) (N:Led) (ρ:List Addr) (σ:H) (s:Shared) (a:A) (as:List A) (v:Value) (vs:List Value) (K:A→H→Prop) (Q:Value→Shared→Prop) (F:Value→Shared→Prop),
  Inv B Z N ρ σ s.heap→RepA B Z ρ a v→p2A B Z ρ as vs→v0B σ a K f as→PostM B Z N ρ s K Q→wpAny (model B.prog B.w) Ar (call (.builtin (lmId f)) (v::vs)) Q F s
theorem eok_lm {a:E} {f:Lm} {irs:List E} {o:Expr} {es:List Expr} {apos pos:Pos} (hns:t1A o=true) (hline:(apos.endLine == pos.line)=true) (hlen:es.length<30)
  (ha:EOk B C Ar env a o) (h:EsOk B C Ar env irs es) (hm:LmOk B Ar f):EOk B C Ar env (.lm a f irs) (.Call (.Attribute o (Str.ofString (lmStr f)) apos) es [] pos):=by
 intro Z N ρ σ m s K Q F I Fr hx P
 rw [xE_lm] at hx
 rw [arm_eval_Call,x9A hns]
 refine wpAny_bind (ha Z N ρ σ m s _ _ F I Fr hx ?_)
 intro va v Z1 ρ1 σ1 h1 t1 hx1 e1 p1 I1 R1
 refine bc fun zZ=>?_
 obtain ⟨hl,hx1⟩:=hx1
 obtain ⟨l,vals,n,rfl,hg⟩:=isLst_at I1 R1 hl
 refine zZ ?_;clear zZ
 refine wpAny_bind (wpAny_standAt ?_)
 obtain ⟨sl,ty⟩:=lm_slot f
 refine s6A (f:=.builtin (lmId f)) (first:=[.ref l]) h.un hlen hline (fun Q' hq pl=>?_) ?_
 ·exact getMethod_builtin (T:= "list") ⟨_,hg,rfl⟩ PySem.F.plainAttrs_list sl ty (fun a e=>by cases e;exact ⟨_,hg,rfl⟩) hq
 ·refine s8A h I1 (Fr.mono e1 p1) hx1 ?_
  intro as vs Z2 ρ2 σ2 h2 t2 hl2 hx2 e2 p2 I2 R2
  refine hm Z2 N ρ2 σ2 _ va as (.ref l) vs K _ F I2 (R1.mono e2 p2) R2 hx2 ?_
  intro a' v' σ3 h3 t3 hk3 I3 R3
  exact P a' v' Z2 ρ2 σ3 h3 t3 hk3 (e1.trans e2) (p1.trans p2) I3 R3
theorem o8B {Z N ρ σ} {h:Heap} {a:A} {v:Value} {f:List V→Option (List V×V)} {K:A→H→Prop} (I:Inv B Z N ρ σ h) (R:RepA B Z ρ a v) (hx:u0B σ a f K) :
  ∃ l k xs r vals n,a=.ref k∧v=.ref l∧ρ[k]?=some l∧σ[k]?=some (.list xs)∧h.get? l=some (c0A vals n)∧xs.length<2 ^ 21∧RepL B Z xs vals∧f xs=some r∧r.1.length<2 ^ 20∧K (.v r.2) (σ.set k (.list r.1)):=by
 refine getE hx fun k hk hx=>?_
 refine getE hx fun xs hxs hx=>?_
 refine getE hx fun r hf zQ=>?_
 obtain ⟨hsm,hK⟩:=zQ
 refine binE hxs fun o ho hl=>?_
 rw [oL_of hl] at ho
 obtain rfl:=d1C hk
 refine bc fun zZ=>?_
 obtain ⟨l,e,rfl⟩:=R
 obtain ⟨_,o,hg,vals,n,rfl,hs,hr⟩:=I.live k l _ e ho (fun e=>nomatch e)
 refine zZ ?_;clear zZ
 exact ⟨l,k,xs,r,vals,n,rfl,rfl,e,ho,hg,hs,hr,hf,hsm,hK⟩
theorem t8B:LmOk B Ar .append:=by
 intro Z N ρ σ s a as v vs K Q F I R Rs hx P
 refine getE hx fun b hb hx=>?_
 refine getE hx fun x hxv hx=>?_
 rw [k1A hb] at Rs
 refine bc fun zZ=>?_
 obtain ⟨w,rfl,Rb⟩:=a4A Rs
 refine zZ ?_;clear zZ
 rw [i2A hxv] at Rb
 refine bc fun zZ=>?_
 obtain ⟨l,k,xs,r,vals,n,rfl,rfl,e,hxs,hg,hs,hr,hf,hsm,hK⟩:=o8B I R hx
 refine zZ ?_;clear zZ
 obtain rfl:=pQ hf
 have hlen:=f0A hr
 refine wpAny_list_append_plain ⟨n,hg⟩ (fun h' hp hsb=>?_) (by unfold sizeLine;simp;lia)
 obtain ⟨n',hg'⟩:=hp
 exact P _ _ _ h' s.toks hK (I.updRef e hxs (fun e=>nomatch e) hsb hg' ⟨vals++[w],n',by simp [c0A],z7W hsm (by decide),g1A hr (n4A Rb)⟩) rfl
theorem r5B {Z:Zm} {xs:List V} {vs:List Value} (h:RepL B Z xs vs) (j:Nat):RepL B Z (xs.eraseIdx j) (vs.eraseIdx j):=by
 rw [z1W,z1W]
 exact g1A (m4A _ h) (o4A _ h)
theorem pop_at {q:Int} {Z N ρ σ} {s:Shared} {a:A} {v:Value} {K:A→H→Prop} {Q:Value→Shared→Prop} {as:List Value} (ha:as=[]∧q=-1∨∃ t,as=[.int q t]) (I:Inv B Z N ρ σ s.heap) (R:RepA B Z ρ a v) (hx:u0B σ a (c9A q) K) (P:PostM B Z N ρ s K Q):wpAny (model B.prog B.w) Ar (call (.builtin "list.pop") (v::as)) Q F s:=by
 refine bc fun zZ=>?_
 obtain ⟨l,k,xs,r,vals,n,rfl,rfl,e,hxs,hg,hs,hr,hf,hsm,hK⟩:=o8B I R hx
 refine zZ ?_;clear zZ
 have hlen:=f0A hr
 refine binE hf fun j hi hf=>?_
 refine bc fun zZ=>?_
 obtain ⟨x,hj,rfl⟩:=xQ.mp hf
 obtain ⟨y,hy,hry⟩:=a1A hr hj
 refine zZ ?_;clear zZ
 have hsi:=o9B (n:=vals.length) (hlen ▸ hi) (by rw [hlen];exact hs)
 have hsl:vals.toArray.size≤sizeLine:=by rw [z4W,hlen];unfold sizeLine;lia
 have fin:Q y { s with heap:=s.heap.update l (Obj.mapSeq fun xs=>xs.eraseIdxIfInBounds j) }:=by
  have hg':=qZ (h:=s.heap) (a:=l) (Obj.mapSeq fun xs=>xs.eraseIdxIfInBounds j) hg (by rw [x2A];rfl)
  rw [x2A] at hg'
  refine P _ _ _ _ s.toks hK (I.updRef e hxs (fun e=>nomatch e) (pZ ..) hg' ⟨_,_,rfl,z7W hsm (by decide),?_⟩) hry
  have:(vals.toArray.eraseIdxIfInBounds j).toList=vals.eraseIdx j:=by
   rw [List.eraseIdxIfInBounds_toArray,List.toList_toArray]
  rw [this]
  exact r5B hr j
 rcases ha with ⟨rfl,rfl⟩ | ⟨t,rfl⟩
 ·have hjl:j=vals.length - 1:=by
   have hi:=hlen ▸ hi
   unfold idx at hi
   rw [if_neg (by decide)] at hi
   by_cases h1:0≤(-1:Int)+(vals.length:Nat)
   ·rw [if_pos h1] at hi
    rw [← pQ hi,Int.add_comm];exact Int.toNat_sub _ 1
   ·rw [if_neg h1] at hi;exact nons hi
  subst hjl
  exact call_meets PySem.F.slot_list_pop ⟨_,hg,rfl⟩ PySem.F.entry_list_pop (PySem.F.args_list_pop_1 _) (PySem.MeetsSeq.list_pop_last l vals.toArray n y (by simpa using hy) hsl) ⟨hg,by simpa using fin⟩
 ·have hft:Builtin.List.listFitsIndex q=true:=by
   unfold Builtin.List.listFitsIndex
   rw [z4Q]
   exact ⟨decide_eq_true hsi.2.1,decide_eq_true hsi.2.2⟩
  exact call_meets PySem.F.slot_list_pop ⟨_,hg,rfl⟩ PySem.F.entry_list_pop (PySem.F.args_list_pop_2 _ _) (PySem.MeetsSeq.list_pop_at l vals.toArray n q t j y hft hsi.1 (by simpa using hy) hsl) ⟨hg,fin⟩
theorem lm_pop:LmOk B Ar .pop:=by
 intro Z N ρ σ s a as v vs K Q F I R Rs hx P
 refine getE hx fun b hb hx=>?_
 refine getE hx fun q hq hx=>?_
 rw [k1A hb] at Rs
 refine bc fun zZ=>?_
 obtain ⟨w,rfl,Rb⟩:=a4A Rs
 refine zZ ?_;clear zZ
 rw [e3A hq] at Rb
 obtain ⟨t,rfl⟩:=Rb
 exact pop_at (.inr ⟨t,rfl⟩) I R hx P
theorem lm_pop0:LmOk B Ar .pop0:=by
 intro Z N ρ σ s a as v vs K Q F I R Rs hx P
 obtain ⟨rfl,hx⟩:=hx
 obtain rfl:vs=[]:=Rs
 exact pop_at (.inl ⟨rfl,rfl⟩) I R hx P
noncomputable def eInt (i:Int):Value→Bool
 | .int j _=>decide (j=i)
 | _=>false
theorem ints_rep {Z:Zm}:∀ {xs:List V} {vals:List Value},xs.all isInt=true→RepL B Z xs vals→∀ (m:Nat) (y:Value),vals[m]?=some y→∃ k t,y=.int k t∧(xs.map t0A)[m]?=some k:=by
 intro xs vals ha hr m y hy
 have hm:m<xs.length:=by rw [← f0A hr];exact (jQ.mp hy).1
 obtain ⟨y',hy',hry⟩:=a1A hr (nQ hm)
 rw [hy] at hy';cases hy'
 have hi:=v0A (z2Q.mp ha _ (List.getElem_mem hm))
 rw [hi] at hry
 obtain ⟨t,rfl⟩:=hry
 exact ⟨_,t,rfl,by rw [oQ,nQ hm];rfl⟩
theorem eGives {Z:Zm} {xs:List V} {vals:List Value} {i:Int} {t:Tok} (ha:xs.all isInt=true) (hr:RepL B Z xs vals):∀ y,y∈vals.toArray→PySem.MeetsSeq.EqGives y (.int i t) (eInt i y):=fun y hy=>by
 obtain ⟨m,hm⟩:=List.mem_iff_getElem?.mp (List.mem_toArray.mp hy)
 obtain ⟨k,t',rfl,_⟩:=ints_rep ha hr m y hm
 intro prog w A E s Q hq
 exact (intKind prog w).eqBool (a:=k) (b:=i) (by simp [intKind,Value.isInt]) (by simp [intKind,Value.isInt]) hq
theorem x4B {Z:Zm} {i:Int}:∀ {xs:List V} {vals:List Value},xs.all isInt=true→RepL B Z xs vals→vals.map (eInt i)=(xs.map t0A).map fun k=>decide (k=i):=by
 intro xs
 induction xs with
 | nil=>intro vals _ h;rw [show vals=[] from h];rfl
 | cons x xs ih=>
  intro vals ha h
  refine bc fun zZ=>?_
  obtain ⟨v,r,e,h1,h2⟩:=h
  refine zZ ?_;clear zZ
  refine an2 ha fun a1 a2=>?_
  rw [v0A a1] at h1
  obtain ⟨t,rfl⟩:=h1
  rw [e,z6Q,ih a2 h2];rfl
theorem lm_index:LmOk B Ar .index:=by
 intro Z N ρ σ s a as v vs K Q F I R Rs hx P
 refine getE hx fun b hb hx=>?_
 refine getE hx fun i hq hx=>?_
 refine getE hx fun xs hxs zQ=>?_
 refine bc fun zZ=>?_
 obtain ⟨hall,hin,hK⟩:=zQ
 refine zZ ?_;clear zZ
 rw [k1A hb] at Rs
 refine bc fun zZ=>?_
 obtain ⟨w,rfl,Rb⟩:=a4A Rs
 refine zZ ?_;clear zZ
 rw [e3A hq] at Rb
 refine bc fun zZ=>?_
 obtain ⟨t,rfl⟩:=Rb
 obtain ⟨l,vals,n,rfl,hg,hs,hr⟩:=b1A I R hxs
 refine zZ ?_;clear zZ
 have hlen:=f0A hr
 have hm:=x4B (i:=i) hall hr
 have hat:∀ m (hm':m<vals.toArray.size),eInt i vals.toArray[m]=decide ((xs.map t0A)[m]'(by rw [eQ,← hlen];simpa using hm')=i):=fun m hm'=>by
  have h1:(vals.map (eInt i))[m]?=some (eInt i vals.toArray[m]):=by rw [oQ,nQ (by simpa using hm')];simp
  rw [hm,oQ,nQ (by rw [eQ,← hlen];simpa using hm')] at h1
  exact (pQ h1).symm
 have hj:(xs.map t0A).idxOf i<(xs.map t0A).length:=sK hin
 have hjl:(xs.map t0A).idxOf i<vals.toArray.size:=by rw [z4W,hlen,← eQ (f:=t0A)];exact hj
 refine call_meets PySem.F.slot_list_index ⟨_,hg,rfl⟩ PySem.F.entry_list_index (PySem.F.args_list_index_2 _ _) (PySem.MeetsSeq.list_index l vals.toArray n (.int i t) (eInt i) (eGives hall hr) ((xs.map t0A).idxOf i) hjl (by rw [eQ] at hj;lia)
  (by rw [hat _ hjl,List.getElem_idxOf hj];exact decide_eq_true rfl) (fun m hm' hmj=>by
   rw [hat m hm']
   exact decide_eq_false (beq_eq_false_iff_ne.mp (List.not_of_lt_findIdx (p:=fun y=>y == i) hmj)))) ⟨hg,?_⟩
 exact P _ _ _ _ _ hK I ⟨_,rfl⟩
theorem lm_count:LmOk B Ar .count:=by
 intro Z N ρ σ s a as v vs K Q F I R Rs hx P
 refine getE hx fun b hb hx=>?_
 refine getE hx fun i hq hx=>?_
 refine getE hx fun xs hxs zQ=>?_
 obtain ⟨hall,hK⟩:=zQ
 rw [k1A hb] at Rs
 refine bc fun zZ=>?_
 obtain ⟨w,rfl,Rb⟩:=a4A Rs
 refine zZ ?_;clear zZ
 rw [e3A hq] at Rb
 refine bc fun zZ=>?_
 obtain ⟨t,rfl⟩:=Rb
 obtain ⟨l,vals,n,rfl,hg,hs,hr⟩:=b1A I R hxs
 refine zZ ?_;clear zZ
 refine call_meets PySem.F.slot_list_count ⟨_,hg,rfl⟩ PySem.F.entry_list_count (PySem.F.args_list_count_2 _ _) (PySem.MeetsSeq.list_count l vals.toArray n (.int i t) (eInt i) (eGives hall hr)) ⟨hg,?_⟩
 have e:vals.toArray.toList.countP (eInt i)=(xs.map t0A).count i:=by
  have h1:vals.countP (eInt i)=(vals.map (eInt i)).countP id:=by rw [List.countP_map];rfl
  rw [List.toList_toArray,h1,x4B hall hr,List.countP_map]
  refine List.countP_congr fun x _=>?_
  simp only [Function.comp_apply,id_eq,decide_eq_true_eq,beq_iff_eq]
 rw [e]
 exact P _ _ _ _ _ hK I ⟨_,rfl⟩
end
end Fl
namespace Fl
open PySem PyProof.Rows PySem.W
theorem c2A:∀ (names:List (Str×NameKind)) (n:Nat) (acc:List (Str×Addr)),cellsFrom n names acc=cellsFrom n names []++acc
 | [],_,_=>rfl
 | (x,k)::r,n,acc=>by
  unfold cellsFrom
  split
  ·rw [c2A r (n+1) ((x,n)::acc),c2A r (n+1) [(x,n)],kQ];rfl
  ·exact c2A r n acc
theorem c8A {α:Type} {x:Str}:∀ {l l':List (Str×α)},(l++l').lookup x=(l.lookup x).or (l'.lookup x)
 | [],l'=>rfl
 | (y,a)::r,l'=>by
  simp only [z5W,wZ]
  split
  ·rfl
  ·exact c8A
noncomputable def d3A (env:Env):List (Str×NameKind)→List (Str×Addr)→List (Str×Addr)
 | [],acc=>acc
 | (x,k)::r,acc=>if k == .free then d3A env r ((x,(env.cells.lookup x).getD 0)::acc) else d3A env r acc
theorem t9A {env:Env} {scope:Scope} (h:∀ x,(x,NameKind.free)∈scope.names→∃ c,env.cells.lookup x=some c):closureFor scope env=pure (d3A env scope.names []):=by
 have go:∀ (names:List (Str×NameKind)) (acc:List (Str×Addr)),(∀ x,(x,NameKind.free)∈names→∃ c,env.cells.lookup x=some c)→
   (forIn names acc fun (x:Str×NameKind) (cs:List (Str×Addr))=>if x.2 == .free then (do let a ← cellOf env x.1;pure (ForInStep.yield ((x.1,a)::cs))) else pure (ForInStep.yield cs):Sem (List (Str×Addr)))=pure (d3A env names acc):=by
  intro names
  induction names with
  | nil=>intro acc _;rfl
  | cons p r ih=>
   intro acc hp
   obtain ⟨x,k⟩:=p
   rw [List.forIn_cons]
   unfold d3A
   have hr:=fun acc=>ih acc (fun y hy=>hp y (bQ _ hy))
   cases hk:(k == NameKind.free) with
   | true=>
    have hkk:k=.free:=by simpa using hk
    subst hkk
    obtain ⟨c,hc⟩:=hp x aQ
    simp only [hk,if_true,cellOf,hc,Option.getD_some]
    exact hr _
   | false=>
    simp only [hk,fW,if_false]
    exact hr _
 exact (congrArg (fun t:Sem (List (Str×Addr))=>t >>= fun r=>pure r) (go scope.names [] h)).trans rfl
noncomputable def u2A (scope sc:Scope):Scope:=
 { scope with names:=scope.names.map fun (n,k)=>if (k == .free && sc.kind == .function && sc.names.lookup n == some .cell) then (n,.cell) else (n,k) }
theorem r2A (scope:Scope) (env:Env):relabel scope env=u2A scope env.scope:=rfl
noncomputable def a5B (scope sc:Scope) (xs:List String):Bool:=
 scope.kind == .function && scope.names.all (fun p=>match p.2 with
   | .local=>xs.any (fun x=>p.1 == Str.ofString x) || p.1 == Str.ofString ".0"
   | .cell=>xs.any (fun x=>p.1 == Str.ofString x) || p.1 == Str.ofString ".0"
   | .free=>(sc.names.lookup p.1 == some .cell || sc.names.lookup p.1 == some .free)
   | _=>true) &&
 xs.all (fun x=>scope.names.lookup (Str.ofString x) == some .local || scope.names.lookup (Str.ofString x) == some .cell) &&
 scope.names.all (fun p=>p.2 != .local || scope.names.lookup p.1 == some .local) &&
 decide (((cellsFrom 0 scope.names []).map (·.1)).Nodup) && xs.all (· != ".0")
structure CompOk (scope sc:Scope) (xs:List String):Prop where
 kind:scope.kind=.function
 own:∀ y k,(y,k)∈scope.names→k=.local∨k=.cell→(∃ x∈xs,y=Str.ofString x)∨y=Str.ofString ".0"
 free:∀ y,(y,NameKind.free)∈scope.names→sc.names.lookup y=some .cell∨sc.names.lookup y=some .free
 var:∀ x∈xs,scope.names.lookup (Str.ofString x)=some .local∨scope.names.lookup (Str.ofString x)=some .cell
 names:∀ y∈scope.names,y.2=.local→scope.names.lookup y.1=some .local
 nd:((cellsFrom 0 scope.names []).map (·.1)).Nodup
 ne:∀ x∈xs,x ≠ ".0"
theorem o1B {scope sc:Scope} {xs:List String} (h:a5B scope sc xs=true):CompOk scope sc xs:=by
 unfold a5B at h
 simp only [z4Q,decide_eq_true_eq,bne_iff_ne] at h
 obtain ⟨⟨⟨⟨⟨h1,h2⟩,h3⟩,h4⟩,h5⟩,h6⟩:=h
 refine ⟨by simpa using h1,fun y k hm hk=>?_,fun y hm=>?_,fun x hx=>?_,fun y hm hk=>?_,h5,fun x hx=>by simpa using z2Q.mp h6 x hx⟩
 ·have:=z2Q.mp h2 _ hm
  rcases hk with rfl | rfl <;> simpa using this
 ·have:=z2Q.mp h2 _ hm
  simpa using this
 ·simpa using z2Q.mp h3 x hx
 ·have:=z2Q.mp h4 _ hm
  simpa [hk] using this
theorem d4A {scope sc:Scope} {y:Str}:(u2A scope sc).names.lookup y=(scope.names.lookup y).map fun k=>if (k == .free && sc.kind == .function && sc.names.lookup y == some .cell) then .cell else k:=by
 unfold u2A
 simp only
 induction scope.names with
 | nil=>rfl
 | cons p r ih=>
  obtain ⟨n,k⟩:=p
  simp only [z6Q]
  cases hx:y == n with
  | true=>
   have:y=n:=by simpa using hx
   subst this
   split
   ·rename_i hc
    simp only [wZ,beq_self_eq_true,Option.map_some]
    rw [if_pos hc]
   ·rename_i hc
    simp only [wZ,beq_self_eq_true,Option.map_some]
    rw [if_neg hc]
  | false=>
   split <;> simp only [wZ,hx] <;> exact ih
theorem b2A {env:Env} {y:Str}:∀ (names:List (Str×NameKind)) (acc:List (Str×Addr)),((y,NameKind.free)∈names∨acc.lookup y=some ((env.cells.lookup y).getD 0))→(d3A env names acc).lookup y=some ((env.cells.lookup y).getD 0)
 | [],acc,h=>by
  rcases h with h | h
  ·cases h
  ·exact h
 | (x,k)::r,acc,h=>by
  unfold d3A
  split
  ·refine b2A r _ ?_
   by_cases hxy:y=x
   ·subst hxy;exact .inr (by simp [wZ])
   ·rcases h with h | h
    ·rcases lQ.mp h with e | h
     ·cases e;exact absurd rfl hxy
     ·exact .inl h
    ·refine .inr ?_
     have:(y == x)=false:=by simpa using hxy
     simp only [wZ,this];exact h
  ·rename_i hk
   refine b2A r _ ?_
   rcases h with h | h
   ·rcases lQ.mp h with e | h
    ·cases e;exact absurd rfl hk
    ·exact .inl h
   ·exact .inr h
theorem z3A {env:Env} {y:Str} {c:Addr}:∀ (names:List (Str×NameKind)) (acc:List (Str×Addr)),(y,c)∈d3A env names acc→(y,c)∈acc∨((y,NameKind.free)∈names∧c=(env.cells.lookup y).getD 0)
 | [],acc,h=>.inl h
 | (x,k)::r,acc,h=>by
  unfold d3A at h
  split at h
  ·rename_i hk
   have hkk:k=.free:=by simpa using hk
   rcases z3A r _ h with h' | ⟨h',e⟩
   ·rcases lQ.mp h' with e | h'
    ·cases e;exact .inr ⟨by rw [hkk];exact aQ,rfl⟩
    ·exact .inl h'
   ·exact .inr ⟨bQ _ h',e⟩
  ·rcases z3A r _ h with h' | ⟨h',e⟩
   ·exact .inl h'
   ·exact .inr ⟨bQ _ h',e⟩
theorem a3A {y:Str} {c:Addr}:∀ (names:List (Str×NameKind)) (n:Nat) (acc:List (Str×Addr)),(y,c)∈cellsFrom n names acc→(y,c)∈acc∨(y,NameKind.cell)∈names
 | [],n,acc,h=>.inl h
 | (x,k)::r,n,acc,h=>by
  unfold cellsFrom at h
  split at h
  ·rename_i hk
   have hkk:k=.cell:=by simpa using hk
   rcases a3A r _ _ h with h' | h'
   ·rcases lQ.mp h' with e | h'
    ·cases e;exact .inr (by rw [hkk];exact aQ)
    ·exact .inl h'
   ·exact .inr (bQ _ h')
  ·rcases a3A r _ _ h with h' | h'
   ·exact .inl h'
   ·exact .inr (bQ _ h')
noncomputable def r8A (scope:Scope) (env:Env) (Cd:Addr):Env:=
 { scope:=relabel scope env,locals:=Cd,globals:=env.globals,cells:=cellsFrom (Cd+1) scope.names (d3A env scope.names []),qual:=env.qual,func:=none,code:=env.code,frame:=env.frame,builtins:=env.builtins }
theorem new_cenv {M:Model} {A:Around} {E:Value→Shared→Prop} {s:Shared} {scope:Scope} {env:Env} {cl:List (Str×Addr)} {Q:Env→Shared→Prop}
  (h:Q { scope:=scope,locals:=s.heap.objs.size,globals:=env.globals,cells:=cellsFrom (s.heap.objs.size+1) scope.names cl,qual:=env.qual,func:=none,code:=env.code,frame:=env.frame,builtins:=env.builtins }
   { s with heap:=pushCells (s.heap.push (e0A [] 0)) scope.names }):wpAny M A (newFunctionEnv scope env.globals cl [] env.qual none .none (some env)) Q E s:=by
 simp only [newFunctionEnv,Option.isSome_some,if_true]
 refine wpAny_bind (wpAny_alloc ?_)
 refine wpAny_bind (wpAny_layCells _ (fun name kind cells=>by cases hkc:kind == NameKind.cell <;> simp [hkc]) _ _ _ _ ?_)
 rw [show ({ s with heap:=s.heap.push { cls:=.type "dict", data:=.dict #[] } }:Shared).heap.objs.size=s.heap.objs.size+1 from z7K ..]
 exact wpAny_bind (wpAny_pure (wpAny_pure h))
noncomputable def Loc.del (m:Loc) (xs:List String):Loc:=m.map fun p=>if p.1∈xs then (p.1,none) else p
theorem d8A (xs:List String) (y:String):∀ m:Loc,lk (Loc.del m xs) y=if y∈xs then none else lk m y
 | []=>(ite_self (c:=y∈xs) none).symm
 | (z,b)::m=>by
  have ih:lk (m.map fun p=>if p.1∈xs then (p.1,none) else p) y=_:=d8A xs y m
  unfold Loc.del
  rw [z6Q]
  by_cases hz:z∈xs
  ·rw [if_pos hz,lk_1,lk_1,ih]
   cases hq:z == y with
   | true=>obtain rfl:=beq_iff_eq.mp hq;show none=_;rw [if_pos hz]
   | false=>rfl
  ·rw [if_neg hz,lk_1,lk_1,ih]
   cases hq:z == y with
   | true=>obtain rfl:=beq_iff_eq.mp hq;show b=_;rw [if_neg hz];rfl
   | false=>rfl
section
variable {B:Bs} {C:a0A} {Ar:Around} {env:Env} {F:Value→Shared→Prop}
theorem Frm.less {Z:Zm} {ρ:List Addr} {m m':Loc} {N:Led} (Fr:Frm B env Z ρ m N) (h:∀ x a,lk m' x=some a→lk m x=some a):Frm B env Z ρ m' N:=
 { Fr with rd:=fun x a hx hw=>Fr.rd x a (h x a hx) hw }
theorem comp_frm {Z N ρ σ m} {h:Heap} {scope:Scope} {xs:List String} (I:Inv B Z N ρ σ h) (Fr:Frm B env Z ρ m N) (O:CompOk scope env.scope xs) :
  ∃ M:Led,Inv B Z (((h.objs.size,e0A [] 0)::M)++N) ρ σ (pushCells (h.push (e0A [] 0)) scope.names)∧Frm B (r8A scope env h.objs.size) Z ρ (Loc.del m xs) (((h.objs.size,e0A [] 0)::M)++N)∧
   ∀ x,(scope.names.lookup (Str.ofString x)=some .cell→∃ c,(r8A scope env h.objs.size).cells.lookup (Str.ofString x)=some c∧c∈M.map (·.1)):=by
 have ok:=cellsFrom_ok scope.names (h.push (e0A [] 0)) (h.objs.size+1) [] ⟨fun _ _ hm=>(nomatch hm),List.Pairwise.nil⟩ (by rw [z7K];exact uQ _)
 rw [z7K] at ok
 have hk:∀ b o,h.get? b=some o→(pushCells (h.push (e0A [] 0)) scope.names).get? b=some o:=fun b o e=>pushCells_keeps _ _ b o (z7Q _ e)
 refine bc fun zZ=>?_
 obtain ⟨M,hM1,hM2⟩:=f7A (h:=pushCells (h.push (e0A [] 0)) scope.names) (cs:=cellsFrom (h.objs.size+1) scope.names []) (fun n c hm=>⟨_,(ok.empty n c hm).1⟩)
 refine zZ ?_;clear zZ
 have hgD:(pushCells (h.push (e0A [] 0)) scope.names).get? h.objs.size=some (e0A [] 0):=pushCells_keeps _ _ _ _ (z0W _ rfl)
 have hab:∀ p∈M,h.objs.size<p.1:=by
  intro p hp
  have:p.1∈(cellsFrom (h.objs.size+1) scope.names []).map (·.2):=hM1 ▸ qQ.mpr ⟨p,hp,rfl⟩
  refine bc fun zZ=>?_
  obtain ⟨⟨n,c⟩,hm,e⟩:=qQ.mp this
  refine zZ ?_;clear zZ
  simp only at e;rw [← e]
  exact (ok.empty n c hm).2
 have hndM:(M.map (·.1)).Nodup:=by
  rw [hM1,xK,z2Z]
  exact ok.apart
 have hnf:(((h.objs.size,e0A [] 0)::M).map (·.1)).Nodup:=by
  rw [z6Q,rQ]
  refine ⟨fun hm=>?_,hndM⟩
  refine bc fun zZ=>?_
  obtain ⟨p,hp,e⟩:=qQ.mp hm
  refine zZ ?_;clear zZ
  exact absurd (hab p hp) (by rw [e];exact wW _)
 have I1:Inv B Z (((h.objs.size,e0A [] 0)::M)++N) ρ σ (pushCells (h.push (e0A [] 0)) scope.names):=I.keepsMany hk (fun p hp=>by
  rcases lQ.mp hp with rfl | hp
  ·exact ⟨hgD,uQ _⟩
  ·exact ⟨hM2 p hp,z8Q (hab p hp)⟩) hnf
 have cell_in:∀ y c,(y,c)∈cellsFrom (h.objs.size+1) scope.names []→∃ oc,(c,oc)∈M∧oc.data=.cell none:=by
  intro y c hc
  have:c∈M.map (·.1):=hM1 ▸ qQ.mpr ⟨(y,c),hc,rfl⟩
  refine bc fun zZ=>?_
  obtain ⟨p,hp,e⟩:=qQ.mp this
  obtain ⟨o',ho',hd'⟩:=(ok.empty y c hc).1
  refine zZ ?_;clear zZ
  refine ⟨p.2,?_,?_⟩
  ·rw [← e];exact hp
  ·have h1:=hM2 p hp
   have h2:(pushCells (h.push (e0A [] 0)) scope.names).get? p.1=some o':=by rw [e];exact ho'
   rw [h1] at h2;cases h2;exact hd'
 have hlook:∀ y,(r8A scope env h.objs.size).cells.lookup y=((cellsFrom (h.objs.size+1) scope.names []).lookup y).or ((d3A env scope.names []).lookup y):=by
  intro y
  show (cellsFrom _ _ _).lookup y=_
  rw [c2A,c8A]
 have hkind:∀ y,(r8A scope env h.objs.size).kindOf y=(scope.names.lookup y).map fun k=>if (k == .free && env.scope.kind == .function && env.scope.names.lookup y == some .cell) then .cell else k:=fun y=>d4A
 have hfree:∀ y,(y,NameKind.free)∈scope.names→∃ c,env.cells.lookup y=some c:=fun y hy=>Fr.cok y (O.free y hy)
 refine ⟨M,I1,⟨O.kind,Fr.glob,Fr.blt,fun y a hy hw=>?_,⟨_,_,_,mQ _ aQ,rfl,fun e he=>by simp at he⟩,fun y c hc=>?_,fun y hy=>?_,fun y z c h1 h2=>?_⟩,fun x hx=>?_⟩
 ·rw [d8A] at hy
  by_cases hyx:y∈xs
  ·rw [if_pos hyx] at hy;exact nons hy
  ·rw [if_neg hyx] at hy
   unfold ownN at hw
   simp only [z4Q,bne_iff_ne] at hw
   obtain ⟨hw,h0⟩:=hw
   rw [hkind] at hw
   have hfr:scope.names.lookup (Str.ofString y)=some .free:=by
    cases hq:scope.names.lookup (Str.ofString y) with
    | none=>rw [hq] at hw;simp [ownK] at hw
    | some k=>
     have hno:¬ (k=.local∨k=.cell):=by
      intro hk'
      rcases O.own _ _ (mem_of_lookup hq) hk' with ⟨x,hx,e⟩ | e
      ·exact hyx (e1A e ▸ hx)
      ·exact h0 (e1A e)
     cases k <;> first | rfl | (exact absurd (.inl rfl) hno) | (exact absurd (.inr rfl) hno) | (rw [hq] at hw;simp [ownK] at hw)
   have hek:=O.free _ (mem_of_lookup hfr)
   obtain ⟨v,hv,hh⟩:=Fr.rd y a hy (by
    unfold ownN
    simp only [z4Q,bne_iff_ne]
    refine ⟨?_,h0⟩
    rcases hek with e | e <;> (show ownK (env.scope.names.lookup _)=true;rw [e];rfl))
   refine ⟨v,hv,.inr ⟨?_,?_⟩⟩
   ·rw [hkind,hfr]
    simp only [Option.map_some]
    split
    ·exact .inl rfl
    ·exact .inr rfl
   ·rcases hh with ⟨hk',_⟩ | ⟨hk',c,o,hl,hN,hD⟩
    ·have hk'':env.scope.names.lookup (Str.ofString y)=some .local:=hk'
     rcases hek with e | e <;> (rw [e] at hk'';cases hk'')
    ·refine ⟨c,o,?_,gQ _ hN,hD⟩
     rw [hlook,b2A _ _ (.inl (mem_of_lookup hfr)),hl]
     have hnone:(cellsFrom (h.objs.size+1) scope.names []).lookup (Str.ofString y)=none:=by
      cases hq:(cellsFrom (h.objs.size+1) scope.names []).lookup (Str.ofString y) with
      | none=>rfl
      | some c'=>
       rcases a3A _ _ _ (mem_of_lookup hq) with h' | h'
       ·cases h'
       ·rcases O.own _ _ h' (.inr rfl) with ⟨x,hx,e⟩ | e
        ·exact absurd (e1A e ▸ hx) hyx
        ·exact absurd (e1A e) h0
     rw [hnone];rfl
 ·rw [hlook] at hc
  cases hq:(cellsFrom (h.objs.size+1) scope.names []).lookup y with
  | some c'=>
   rw [hq] at hc
   simp only [Option.some_or,fJ] at hc
   subst hc
   refine bc fun zZ=>?_
   obtain ⟨oc,h1,h2⟩:=cell_in y c' (mem_of_lookup hq)
   refine zZ ?_;clear zZ
   exact ⟨oc,none,mQ _ (bQ _ h1),h2⟩
  | none=>
   rw [hq] at hc
   simp only [Option.none_or] at hc
   rcases z3A _ _ (mem_of_lookup hc) with h' | ⟨h',e⟩
   ·cases h'
   ·obtain ⟨c',hc'⟩:=hfree y h'
    rw [hc'] at e
    simp only [Option.getD_some] at e
    subst e
    refine bc fun zZ=>?_
    obtain ⟨o,v,h1,h2⟩:=Fr.cel y c hc'
    refine zZ ?_;clear zZ
    exact ⟨o,v,gQ _ h1,h2⟩
 ·rw [hkind] at hy
  rw [hlook]
  cases hq:scope.names.lookup y with
  | none=>rw [hq] at hy;simp at hy
  | some k=>
   have hkk:k=.cell∨k=.free:=by
    rw [hq] at hy
    simp only [Option.map_some,fJ] at hy
    by_cases hkf:k=.free
    ·exact .inr hkf
    ·have:(k == NameKind.free)=false:=by simpa using hkf
     simp only [this,Bool.false_and,fW,if_false] at hy
     rcases hy with hy | hy
     ·exact .inl hy
     ·exact .inr hy
   rcases hkk with rfl | rfl
   ·obtain ⟨c,hc⟩:=oZ.mp (cellsFrom_some scope.names (h.objs.size+1) [] (.inl hq))
    exact ⟨c,by rw [hc];rfl⟩
   ·cases hq':(cellsFrom (h.objs.size+1) scope.names []).lookup y with
    | some c'=>exact ⟨c',rfl⟩
    | none=>rw [b2A _ _ (.inl (mem_of_lookup hq))];exact ⟨_,rfl⟩
 ·rw [hlook] at h1 h2
  have key:∀ y,((cellsFrom (h.objs.size+1) scope.names []).lookup y).or ((d3A env scope.names []).lookup y)=some c→((y,c)∈cellsFrom (h.objs.size+1) scope.names []∧h.objs.size<c)∨(env.cells.lookup y=some c∧c<h.objs.size):=by
   intro y hc
   cases hq:(cellsFrom (h.objs.size+1) scope.names []).lookup y with
   | some c'=>
    rw [hq] at hc
    simp only [Option.some_or,fJ] at hc
    subst hc
    exact .inl ⟨mem_of_lookup hq,(ok.empty y c' (mem_of_lookup hq)).2⟩
   | none=>
    rw [hq] at hc
    simp only [Option.none_or] at hc
    rcases z3A _ _ (mem_of_lookup hc) with h' | ⟨h',e⟩
    ·cases h'
    ·obtain ⟨c',hc'⟩:=hfree y h'
     rw [hc'] at e
     simp only [Option.getD_some] at e
     subst e
     refine bc fun zZ=>?_
     obtain ⟨o,v,h1,h2⟩:=Fr.cel y c hc'
     refine zZ ?_;clear zZ
     exact .inr ⟨hc',I.led_lt h1⟩
  rcases key y h1 with ⟨a1,a2⟩ | ⟨a1,a2⟩ <;> rcases key z h2 with ⟨b1,b2⟩ | ⟨b1,b2⟩
  ·exact name_of_addr ok.apart a1 b1
  ·exact absurd (z7W a2 b2) (wW _)
  ·exact absurd (z7W b2 a2) (wW _)
  ·exact Fr.cinj _ _ _ a1 b1
 ·obtain ⟨c,hc⟩:=oZ.mp (cellsFrom_some scope.names (h.objs.size+1) [] (.inl hx))
  refine ⟨c,by rw [hlook,hc];rfl,?_⟩
  refine bc fun zZ=>?_
  obtain ⟨oc,h1,_⟩:=cell_in _ c (mem_of_lookup hc)
  refine zZ ?_;clear zZ
  exact qQ.mpr ⟨_,h1,rfl⟩
end
end Fl
namespace Fl
open PySem PyProof.Rows PySem.W
theorem w_sz {xs:List Value} {b n:Nat} (h1:xs.length=b) (h2:b≤n) (h4:n<2 ^ 21):xs.toArray.size≤sizeLine:=by unfold sizeLine;rw [z4W];lia
section
variable {B:Bs} {C:a0A} {Ar:Around} {env:Env} {F:Value→Shared→Prop}
theorem Frm.drop2 {Z:Zm} {ρ:List Addr} {m:Loc} {Nf N D:Led} (Fr:Frm B env Z ρ m (Nf++(D++N))) (hd:∀ p∈D,(∀ es ep,p.2.data≠.dict es ep)∧∀ v,p.2.data≠.cell v):Frm B env Z ρ m (Nf++N):=by
 have h:∀ p∈Nf++(D++N),((∃ es ep,p.2.data=.dict es ep)∨∃ v,p.2.data=.cell v)→p∈Nf++N:=by
  intro p hp hne
  rcases iQ.mp hp with hp | hp
  ·exact mQ _ hp
  ·rcases iQ.mp hp with hp | hp
   ·rcases hne with ⟨es,ep,e⟩ | ⟨v,e⟩
    ·exact absurd e ((hd p hp).1 es ep)
    ·exact absurd e ((hd p hp).2 v)
   ·exact gQ _ hp
 refine ⟨Fr.kind,Fr.glob,Fr.blt,fun x a hx hw=>?_,?_,fun x c hc=>?_,Fr.cok,Fr.cinj⟩
 ·obtain ⟨v,hv,hh⟩:=Fr.rd x a hx hw
  refine ⟨v,hv,?_⟩
  rcases hh with ⟨hk,o,es,ep,hN,hD,r⟩ | ⟨hk,c,o,hl,hN,hD⟩
  ·exact .inl ⟨hk,o,es,ep,h _ hN (.inl ⟨_,_,hD⟩),hD,r⟩
  ·exact .inr ⟨hk,c,o,hl,h _ hN (.inr ⟨_,hD⟩),hD⟩
 ·obtain ⟨o,es,ep,hN,hD,r⟩:=Fr.loc
  exact ⟨o,es,ep,h _ hN (.inl ⟨_,_,hD⟩),hD,r⟩
 ·obtain ⟨o,v,hN,hD⟩:=Fr.cel x c hc
  exact ⟨o,v,h _ hN (.inr ⟨_,hD⟩),hD⟩
theorem Frm.narrow {Z:Zm} {ρ:List Addr} {σ:H} {h:Heap} {m:Loc} {Nf N D:Led} (Fr:Frm B env Z ρ m (Nf++(D++N))) (I:Inv B Z (Nf++(D++N)) ρ σ h) (hL:env.locals∈(Nf++N).map (·.1)) (hC:∀ y c,env.cells.lookup y=some c→c∈(Nf++N).map (·.1)):Frm B env Z ρ m (Nf++N):=by
 have key:∀ a o,(a,o)∈Nf++(D++N)→a∈(Nf++N).map (·.1)→(a,o)∈Nf++N:=by
  intro a o hm ha
  refine bc fun zZ=>?_
  obtain ⟨⟨a',o'⟩,hq,e⟩:=qQ.mp ha
  refine zZ ?_;clear zZ
  simp only at e
  subst e
  have h1:=(I.led _ hm).1
  have h2:=(I.led (a',o') (by
   rcases iQ.mp hq with hq | hq
   ·exact mQ _ hq
   ·exact gQ _ (gQ _ hq))).1
  simp only at h1 h2
  rw [h1] at h2;cases h2;exact hq
 refine ⟨Fr.kind,Fr.glob,Fr.blt,fun x a hx hw=>?_,?_,fun x c hc=>?_,Fr.cok,Fr.cinj⟩
 ·refine bc fun zZ=>?_
  obtain ⟨v,hv,hh⟩:=Fr.rd x a hx hw
  refine zZ ?_;clear zZ
  refine ⟨v,hv,?_⟩
  rcases hh with ⟨hk,o,es,ep,hN,hD,r⟩ | ⟨hk,c,o,hl,hN,hD⟩
  ·exact .inl ⟨hk,o,es,ep,key _ _ hN hL,hD,r⟩
  ·exact .inr ⟨hk,c,o,hl,key _ _ hN (hC _ _ hl),hD⟩
 ·refine bc fun zZ=>?_
  obtain ⟨o,es,ep,hN,hD,r⟩:=Fr.loc
  refine zZ ?_;clear zZ
  exact ⟨o,es,ep,key _ _ hN hL,hD,r⟩
 ·refine bc fun zZ=>?_
  obtain ⟨o,v,hN,hD⟩:=Fr.cel x c hc
  refine zZ ?_;clear zZ
  exact ⟨o,v,key _ _ hN (hC _ _ hc),hD⟩
theorem self_ok {Z N ρ σ} {s:Shared} {a:A} {L κ i:Nat} {it:Addr} {o:Obj} {Q:Value→Shared→Prop} (I:Inv B Z ((it,o)::N) ρ σ s.heap) (h:ItAt B Z ρ L a κ i o) (hQ:Q (.ref it) s):wpAny (model B.prog B.w) Ar (pyIter (.ref it)) Q F s:=by
 have hit:=(I.led _ (aQ)).1
 simp only at hit
 cases h with
 | @list _ _ l _ h1 h3 h4=>exact wpAny_pyIter_listiter (l:=l) (i:=i) ⟨o,hit,h3,h4⟩ hQ
 | @tup xs _ l _ h1 h2 h3=>exact wpAny_pyIter_tupleiter (t:=l) (i:=i) ⟨o,hit,h2,h3⟩ hQ
 | @range lo hi' _ _ h1 h2=>subst h2;exact wpAny_pyIter_rangeiter hit hQ
 | @dict _ _ ep l _ h1 h2 h3 h4=>exact wpAny_pyIter_keyiter (d:=l) (i:=i) (n:=L) (ep:=ep) ⟨o,hit,h2,h3⟩ hQ
theorem c9B {Z N ρ σ} {h:Heap} {a:A} {v:Value} {its:List V} {κ:Nat} (hsm:∃ o,B.h0.get? sysModules=some o) (I:Inv B Z N ρ σ h) (R:RepA B Z ρ a v) (hi:Src σ a its κ):its.length<2 ^ 21:=by
 cases hi with
 | lst hi=>obtain ⟨_,_,_,_,_,hs,_⟩:=b1A I R hi;exact hs
 | tup=>obtain ⟨l,vals,n,rfl,hz,hs,hr⟩:=R;exact hs
 | rng=>
  obtain ⟨r,t,u,w,rfl,hz,b1,b2,b3,b4⟩:=R
  simp [rngL];lia
 | dct hd=>
  obtain ⟨l,es,n,rfl,_,_,hK,_⟩:=y4B hsm I R hd
  have:=hK.2.2
  rw [eQ] at this ⊢;exact this
theorem tests_ok {irs:List E} {es:List Expr} (h:TsOk B C Ar env irs es):∀ {Z N ρ σ m} {s:Shared} {K:Bool→H→Prop} {Q:Bool→Shared→Prop},
  Inv B Z N ρ σ s.heap→Frm B env Z ρ m N→xTs C true irs m σ K→PostB B Z N ρ s K Q→
   wpAny (model B.prog B.w) Ar (forIn es true fun c r=>if r=true then do let ok ← isTrue c env (eval c env);pure (ForInStep.yield ok) else pure (ForInStep.yield r)) Q F s:=by
 have stay:∀ (es:List Expr) (s:Shared) (Q:Bool→Shared→Prop),Q false s→wpAny (model B.prog B.w) Ar (forIn es false fun c r=>if r=true then do let ok ← isTrue c env (eval c env);pure (ForInStep.yield ok) else pure (ForInStep.yield r)) Q F s:=by
  intro es
  induction es with
  | nil=>intro s Q h;exact wpAny_pure h
  | cons e es ih=>
   intro s Q h
   rw [List.forIn_cons]
   simp only [fW,if_false]
   exact wpAny_bind (wpAny_pure (ih s Q h))
 induction h with
 | nil=>
  intro Z N ρ σ m s K Q I Fr hx P
  simp only [xTs_nil,xTs_cons] at hx
  exact wpAny_pure (P _ Z ρ σ s.heap s.toks hx (Ext.refl _) (eW _) I)
 | @cons ir e irs es he hr ih=>
  intro Z N ρ σ m s K Q I Fr hx P
  simp only [xTs_nil,xTs_cons] at hx
  rw [List.forIn_cons]
  simp only [if_true]
  refine wpAny_bind (wpAny_bind (he Z N ρ σ m s _ _ F I Fr hx ?_))
  intro b Z1 ρ1 σ1 h1 t1 hx1 e1 p1 I1
  refine wpAny_pure ?_
  cases b with
  | true=>
   simp only [if_true] at hx1
   refine ih I1 (Fr.mono e1 p1) hx1 ?_
   intro b Z2 ρ2 σ2 h2 t2 hx2 e2 p2 I2
   exact P _ Z2 ρ2 σ2 _ _ hx2 (e1.trans e2) (p1.trans p2) I2
  | false=>
   simp only [fW,if_false,Bool.not_true] at hx1
   exact stay _ _ _ (P _ Z1 ρ1 σ1 _ _ hx1 e1 p1 I1)
theorem p1B {elt target iter:Expr} {ifs:List Expr} {scope:Scope} {pos:Pos} {it acc:Value} {env:Env} {R:Result→Shared→Prop} {s:Shared} (I:Nat→Shared→Prop)
  (turn:∀ n s,I n s→wpAny (model B.prog B.w) Ar (pyNext it) (fun r s₁=>match r with
   | none=>R (.ok .next) s₁
   | some v=>wpAny (model B.prog B.w) Ar (letOwnedTupleGo target it v) (fun _ s₁=>wpAny (model B.prog B.w) Ar (assign target env v) (fun _ s₂=>
     wpAny (model B.prog B.w) Ar (forIn ifs true fun c r=>if r=true then do let ok ← isTrue c env (eval c env);pure (ForInStep.yield ok) else pure (ForInStep.yield r)) (fun ok s₃=>
      if ok=true then wpAny (model B.prog B.w) Ar (eval elt env) (fun x s₄=>
       wpAny (model B.prog B.w) Ar (call (.builtin "list.append") [acc,x]) (fun _ s₅=>∃ m,m<n∧I m s₅) (notedBy (model B.prog B.w) Ar env fun e s'=>R (.error e) s') s₄) (notedBy (model B.prog B.w) Ar env fun e s'=>R (.error e) s') s₃
      else ∃ m,m<n∧I m s₃) (notedBy (model B.prog B.w) Ar env fun e s'=>R (.error e) s') s₂) (notedBy (model B.prog B.w) Ar env fun e s'=>R (.error e) s') s₁) (notedBy (model B.prog B.w) Ar env fun e s'=>R (.error e) s') s₁) (notedBy (model B.prog B.w) Ar env fun e s'=>R (.error e) s') s)
  (n:Nat) (h:I n s):codeAny (model B.prog B.w) Ar (.compLoop (.ListComp elt [⟨target,iter,ifs,0⟩] scope pos) 0 it acc env) R s:=by
 refine codeAny_loop rfl I (fun n s hI=>?_) n h
 show wpAny _ Ar ((compTurn (.ListComp elt [⟨target,iter,ifs,0⟩] scope pos) 0 it acc env).onRaise (fun x=>do noteFrame x env;theTreesLotGoes x)) _ _ s
 refine wpAny_noted ?_
 rw [compTurn_list]
 refine wpAny_bind (wpAny_standAt (wpAny_bind (wpAny_mono (turn n s hI) (fun r s₁ h₁=>?_) fun _ _ h'=>h')))
 cases r with
 | none=>exact wpAny_pure h₁
 | some v=>
  refine wpAny_bind (wpAny_mono h₁ (fun _ s₁ h₁=>?_) fun _ _ h'=>h')
  refine wpAny_bind (wpAny_mono h₁ (fun _ s₂ h₂=>wpAny_bind (wpAny_mono h₂ (fun ok s₃ h₃=>?_) fun _ _ h'=>h')) fun _ _ h'=>h')
  cases ok with
  | false=>exact wpAny_pure ⟨rfl,h₃⟩
  | true=>
   exact wpAny_bind (wpAny_bind (wpAny_mono h₃ (fun x s₄ h₄=>wpAny_bind (wpAny_mono h₄ (fun _ s₅ h₅=>wpAny_pure (wpAny_pure ⟨rfl,h₅⟩)) fun _ _ h'=>h')) fun _ _ h'=>h'))
inductive CmpSt (B:Bs) (cenv:Env) (a:A) (oa:Option O) (its:List V) (κ:Nat) (m:Loc) (Z1:Zm) (Nf0 N:Led) (ρ1:List Addr) (it D:Addr) (s:Shared) (L:List V→H→List V→Prop) (n:Nat) (s':Shared):Prop
 | mk (i:Nat) (acc:List V) (items:List Value) (nn:Nat) (Z':Zm) (Nf':Led) (ρ':List Addr) (σ':H) (h':Heap) (tk:Nat) (oi:Obj) (h1:n=its.length+1 - i) (h2:i≤its.length) (h3:s'={ s with heap:=h',toks:=tk }) (h4:Ext Z1 Z') (h5:ρ1 <+: ρ') (h6:Nf'.map (·.1)=Nf0.map (·.1)) (h7:ItAt B Z' ρ' its.length a κ i oi)
   (h8:Inv B Z' (Nf'++((D,c0A items nn)::(it,oi)::N)) ρ' σ' h') (h9:Frm B cenv Z' ρ' m (Nf'++N)) (h10:objA σ' a=oa) (h11:acc.length≤i) (h12:RepL B Z' acc items) (h13:L (its.drop i) σ' acc)
theorem del_bind {t:Tgt} {a:V} {m m':Loc} (h:y5A t a m=some m'):∃ m'',y5A t a (Loc.del m (tgN t))=some m''∧(∀ z,lk m' z=lk m'' z)∧∀ z b,lk (Loc.del m (tgN t)) z=some b→lk m' z=some b:=by
 cases t with
 | one x=>
  obtain rfl:=pQ h
  refine ⟨_,rfl,fun z=>?_,fun z b hz=>?_⟩
  ·rw [f5A,f5A,d8A]
   by_cases q:z=x
   ·rw [if_pos q,if_pos q]
   ·have hn:z∉tgN (.one x):=fun hm=>q (cQ.mp hm)
    rw [if_neg q,if_neg q,if_neg hn]
  ·rw [d8A] at hz
   by_cases q:z∈tgN (.one x)
   ·rw [if_pos q] at hz;exact nons hz
   ·rw [if_neg q] at hz
    rw [f5A,if_neg (fun e=>q (by rw [e];exact aQ))];exact hz
 | two x y=>
  refine binE h fun xs h1 h=>?_
  refine bc fun zZ=>?_
  obtain ⟨pr,h2,rfl⟩:=xQ.mp h
  refine zZ ?_;clear zZ
  refine ⟨st (st (Loc.del m [x,y]) x (.v pr.1)) y (.v pr.2),?_,fun z=>?_,fun z b hz=>?_⟩
  ·show (vT a).bind _=_
   rw [h1]
   show (two2 xs).map _=_
   rw [h2];rfl
  ·rw [f5A,f5A,f5A,f5A,d8A]
   by_cases q:z=y
   ·rw [if_pos q,if_pos q]
   ·rw [if_neg q,if_neg q]
    by_cases q':z=x
    ·rw [if_pos q',if_pos q']
    ·rw [if_neg q',if_neg q',if_neg (fun hm=>(lQ.mp hm).elim q' fun hm=>q (cQ.mp hm))]
  ·rw [d8A] at hz
   by_cases q:z∈tgN (.two x y)
   ·rw [if_pos q] at hz;exact nons hz
   ·rw [if_neg q] at hz
    rw [f5A,if_neg (fun e=>q (by rw [e];exact bQ _ aQ)),f5A,if_neg (fun e=>q (by rw [e];exact aQ))];exact hz
noncomputable def c5B (C:a0A) (elt:E) (t:Tgt) (itE:E) (ifs:List E) (m:Loc) (σ:H) (KA:List V→H→Prop):Prop:=
 xE C itE m σ fun va σ=>get (items σ va) fun its=>compLoop (fun m σ K=>xTs C true ifs m σ K) (fun m σ K=>xE C elt m σ K) t va (objA σ va) m its σ [] KA
theorem n1B {elt:E} {t:Tgt} {tg:Expr} {itE:E} {ifs:List E} {ex iter:Expr} {eifs:List Expr} {pos p2:Pos} {scope:Scope} {use:Option (Value→Sem Unit)} (hsm:∃ o,B.h0.get? sysModules=some o) (hh:Ar.handled=none) (ht:TgE t tg) (O:CompOk scope env.scope (tgN t))
  (hit:EOk B C Ar env itE iter) (helt:∀ cenv:Env,cenv.scope=relabel scope env→EOk B C Ar cenv elt ex) (hifs:∀ cenv:Env,cenv.scope=relabel scope env→TsOk B C Ar cenv ifs eifs)
  (hfs:∀ v,foldedSetIterable iter env v=pure v)
  {Z N ρ σ m} {s:Shared} {K:List V→H→Prop} {Q:Value→Shared→Prop} (I:Inv B Z N ρ σ s.heap) (Fr:Frm B env Z ρ m N) (hx:c5B C elt t itE ifs m σ K)
  (fin:∀ xs D items n Cd oc M Z' ρ' σ' h' tk,K xs σ'→xs.length<2 ^ 21→Ext Z Z'→ρ <+: ρ'→Inv B Z' (((Cd,oc)::M)++(D,c0A items n)::N) ρ' σ' h'→(∃ es ep,oc.data=.dict es ep∧StrKeys es)→RepL B Z' xs items→
   compPost (model B.prog B.w) Ar F use Q (.ref D) Cd (.ok .next) { s with heap:=h',toks:=tk }) :
  wpAny (model B.prog B.w) Ar (comprehension (.ListComp ex [⟨tg,iter,eifs,0⟩] scope pos) scope env p2 (newList []) false (eval iter env) use) Q F s:=by
 refine wpAny_comprehension_free rfl hfs (t9A (fun y hy=>Fr.cok y (O.free y hy))) O.kind O.names (hit Z N ρ σ m s _ _ F I Fr hx ?_)
 intro a v Z1 ρ1 σ1 h1 t1 hx1 e1 p1 I1 R1
 refine getE hx1 fun its hi hx1=>?_
 obtain ⟨κ,hi⟩:=b7B hi
 ·have hlen:=c9B hsm I1 R1 hi
  refine b9B hsm I1 R1 hi ?_
  intro itA o h2 t2 hitA I2
  refine wpAny_newObj_type (hd:=by size_fits) (new_cenv ?_)
  have I3:=I2.push (c0A [] 0) rfl
  refine bc fun zZ=>?_
  obtain ⟨M,I4,F4,hc4⟩:=comp_frm I3 ((Fr.mono e1 p1).mem (fun p hp=>bQ _ (bQ _ hp))) O
  refine zZ ?_;clear zZ
  have hscope:(r8A scope env (h2.push (c0A [] 0)).objs.size).scope=relabel scope env:=rfl
  generalize hCd:(h2.push (c0A [] 0)).objs.size=Cd at I4 F4 hc4 hscope
  generalize hH:pushCells ((h2.push (c0A [] 0)).push (e0A [] 0)) scope.names=H4 at I4
  generalize hD:h2.objs.size=D at I4 F4
  generalize hcenv:r8A scope env Cd=cenv at F4 hc4 hscope
  have hloc:cenv.locals=Cd:=by rw [← hcenv];rfl
  have hkindx:∀ x∈tgN t,cenv.kindOf (Str.ofString x)=scope.names.lookup (Str.ofString x):=by
   intro x hx
   show cenv.scope.names.lookup _=_
   rw [hscope,r2A,d4A]
   rcases O.var x hx with e | e <;> (rw [e];rfl)
  have main:codeAny (model B.prog B.w) Ar (.compLoop (.ListComp ex [⟨tg,iter,eifs,0⟩] scope pos) 0 (.ref itA) (.ref D) cenv) (compPost (model B.prog B.w) Ar F use Q (.ref D) Cd) { s with heap:=H4,toks:=t2 }:=by
   refine p1B (CmpSt B cenv a (objA σ1 a) its κ (Loc.del m (tgN t)) Z1 ((Cd,e0A [] 0)::M) N ρ1 itA D s fun l σ' acc=>compLoop (fun m σ K=>xTs C true ifs m σ K) (fun m σ K=>xE C elt m σ K) t a (objA σ1 a) m l σ' acc K) ?_ (its.length+1)
    ⟨0,[],[],0,Z1,(Cd,e0A [] 0)::M,ρ1,σ1,H4,t2,o,rfl,sQ _,rfl,Ext.refl _,eW _,rfl,hitA,I4,?_,rfl,sQ _,rfl,hx1⟩
   ·rintro n s' ⟨i,acc,items,nn,Z',Nf',ρ',σ',h',tk,oi,rfl,hile,rfl,e2,p2,hn,hitA',I',Fr',hi',hacc,hracc,hx'⟩
    have hpm:((itA,oi)::(Nf'++((D,c0A items nn)::N))).Perm (Nf'++((D,c0A items nn)::(itA,oi)::N)):=by
     refine (xZ.symm).trans ?_
     exact List.Perm.append_left _ (List.Perm.swap _ _ _)
    refine h8B hsm hh (I'.perm hpm) hitA' (hi.stay hi') ?_ ?_
    ·intro y w o' h3 t3 hy hw hit3 I3'
     have hlt:i<its.length:=(jQ.mp hy).1
     have hdrop:its.drop i=y::its.drop (i+1):=by
      rw [sW hlt]
      rw [nQ hlt] at hy
      cases hy;rfl
     rw [hdrop] at hx'
     rw [l5A] at hx'
     refine getE hx' fun my hmy hx'=>?_
     refine bc fun zZ=>?_
     obtain ⟨mz,hmz,hlk,hdel⟩:=del_bind hmy
     refine zZ ?_;clear zZ
     have hpm':(Nf'++((D,c0A items nn)::(itA,o')::N)).Perm ((itA,o')::(Nf'++((D,c0A items nn)::N))):=by
      refine List.Perm.symm ((xZ.symm).trans ?_)
      exact List.Perm.append_left _ (List.Perm.swap _ _ _)
     have hsub:∀ p∈Nf'++N,p∈Nf'++((D,c0A items nn)::(itA,o')::N):=by
      intro p hp
      rcases iQ.mp hp with hp | hp
      ·exact mQ _ hp
      ·exact gQ _ (bQ _ (bQ _ hp))
     have hL:cenv.locals∈Nf'.map (·.1):=by rw [hn,hloc];exact aQ
     have I3p:=I3'.perm hpm'
     have hgi:=(I3p.led (itA,o') (gQ _ (bQ _ aQ))).1
     refine y0C (Nf:=Nf') (N:=(D,c0A items nn)::(itA,o')::N) hh ht I3p (Fr'.mem hsub) hit3 hgi hw hmz (fun x hx=>by rw [hkindx x hx];rcases O.var x hx with e | e <;> (rw [e];rfl)) hL (fun x hx hc=>?_) ?_
     ·rw [hkindx x hx] at hc
      refine bc fun zZ=>?_
      obtain ⟨c,h1',h2'⟩:=hc4 x hc
      refine zZ ?_;clear zZ
      exact ⟨c,h1',by rw [hn];exact bQ _ h2'⟩
     ·intro Nf'' h4 t4 hn' I5 F5
      have F5:Frm B cenv Z' ρ' my _:=F5.less fun z b hz=>by rw [← hlk];exact hz
      refine tests_ok (hifs cenv hscope) I5 F5 hx' ?_
      intro b Z6 ρ6 σ6 h6 t6 hx6 e6 p6 I6
      have F6:=F5.mono e6 p6
      have fdrop:∀ {Z7 ρ7 lo nl},Frm B cenv Z7 ρ7 my (Nf''++((D,c0A lo nl)::(itA,o')::N))→Frm B cenv Z7 ρ7 (Loc.del m (tgN t)) (Nf''++N):=by
       intro Z7 ρ7 lo nl F7
       refine Frm.less (Frm.drop2 (D:=[(D,c0A lo nl),(itA,o')]) F7 ?_) ?_
       ·intro p hp
        obtain ⟨vs,hvs⟩:=hit3.fields
        simp only [lQ,pW,or_false] at hp
        rcases hp with rfl | rfl
        ·exact ⟨fun _ _=>by simp [c0A],fun _=>by simp [c0A]⟩
        ·exact ⟨fun _ _=>by simp [hvs],fun _=>by simp [hvs]⟩
       ·exact hdel
      cases b with
      | true=>
       simp only [if_true] at hx6 ⊢
       refine helt cenv hscope Z6 _ ρ6 σ6 my _ _ _ _ I6 F6 hx6 ?_
       intro va w7 Z7 ρ7 σ7 h7 t7 hx7 e7 p7 I7 R7
       refine getE hx7 fun va' hva hx7=>?_
       rw [i2A hva] at R7
       ·have hrl:=f0A hracc
        have I7':=I7.perm (N':=(D,c0A items nn)::(Nf''++(itA,o')::N)) xZ.symm
        have hgD:=(I7'.led _ aQ).1
        refine wpAny_list_append_plain ⟨nn,hgD⟩ (fun h8 hp8 hsb8=>?_) (w_sz hrl (dQ hacc hile) hlen)
        obtain ⟨n8,hg8⟩:=hp8
        have hg8':h8.get? D=some (c0A (items++[w7]) n8):=by rw [hg8];simp [c0A]
        have I8:=I7'.updLed hsb8 hg8'
        refine ⟨its.length+1 - (i+1),x20 hlt,i+1,acc++[va'],items++[w7],n8,Z7,Nf'',ρ7,σ7,h8,t7,o',rfl,hlt,rfl,e2.trans (e6.trans e7),p2.trans (p6.trans p7),hn'.trans hn,(hit3.mono e6 p6).mono e7 p7,I8.perm xZ,?_,hx7.1,by rw [fQ];exact tQ hacc,g1A ((hracc.mono e6).mono e7) (n4A R7),hx7.2⟩
        exact fdrop (F6.mono e7 p7)
      | false=>
       simp only [fW,if_false] at hx6 ⊢
       exact ⟨its.length+1 - (i+1),x20 hlt,i+1,acc,items,nn,Z6,Nf'',ρ6,σ6,h6,t6,o',rfl,hlt,rfl,e2.trans e6,p2.trans p6,hn'.trans hn,hit3.mono e6 p6,I6,fdrop F6,hx6.1,nK hacc,hracc.mono e6,hx6.2⟩
    ·intro hnone h3 t3 I3'
     have hge:its.length≤i:=by rwa [dZ] at hnone
     rw [List.drop_eq_nil_of_le hge] at hx'
     simp only [e6B,l5A] at hx'
     cases Nf' with
     | nil=>simp at hn
     | cons q M'=>
      obtain ⟨qa,qo⟩:=q
      simp only [z6Q,zK] at hn
      obtain ⟨hq,hM'⟩:=hn
      subst hq
      refine fin acc D items nn qa qo M' Z' ρ' σ' h3 t3 hx' (vQ (dQ hacc hile) hlen) (e1.trans e2) (p1.trans p2) I3' ?_ hracc
      refine bc fun zZ=>?_
      obtain ⟨o1,es,ep,hN1,hD1,hS1⟩:=Fr'.loc
      refine zZ ?_;clear zZ
      have h1':=(I'.led (qa,qo) (mQ _ aQ)).1
      have h2':(o1:Obj)=qo:=by
       have:(cenv.locals,o1)∈(qa,qo)::M'++((D,c0A items nn)::(itA,oi)::N):=by
        rcases iQ.mp hN1 with h | h
        ·exact mQ _ h
        ·exact gQ _ (bQ _ (bQ _ h))
       have h3':=(I'.led _ this).1
       simp only [hloc] at h3' h1'
       rw [h3'] at h1';cases h1';rfl
      rw [← h2']
      exact ⟨es,ep,hD1,hS1⟩
   ·refine Frm.drop2 (D:=[(D,c0A [] 0),(itA,o)]) F4 ?_
    intro p hp
    obtain ⟨vs,hvs⟩:=hitA.fields
    simp only [lQ,pW,or_false] at hp
    rcases hp with rfl | rfl
    ·exact ⟨fun _ _=>by simp [c0A],fun _=>by simp [c0A]⟩
    ·exact ⟨fun _ _=>by simp [hvs],fun _=>by simp [hvs]⟩
  subst hcenv hD hCd hH
  refine codeAny_compStart_list ?_ ?_
  ·exact main
  ·have I4':=I4.perm (N':=(itA,o)::(((((h2.push (c0A [] 0)).objs.size,e0A [] 0)::M)++((h2.objs.size,c0A [] 0)::N)))) ?_
   ·exact self_ok I4' hitA main
   ·refine (xZ.symm).trans ?_
    exact List.Perm.append_left _ (List.Perm.swap _ _ _)
noncomputable def MadeB (B:Bs) (KA:List V→H→Prop) (K:A→H→Prop):Prop:=
 ∀ (Z:Zm) (N:Led) (ρ:List Addr) (σ:H) (h:Heap) (xs:List V) (items:List Value) (n:Nat) (D:Addr),KA xs σ→xs.length<2 ^ 21→Inv B Z ((D,c0A items n)::N) ρ σ h→RepL B Z xs items→
  ∃ a Z' ρ' σ',K a σ'∧Ext Z Z'∧ρ <+: ρ'∧Inv B Z' N ρ' σ' h∧RepA B Z' ρ' a (.ref D)
theorem madeB_fz {K:A→H→Prop}:MadeB B (fun xs σ=>small xs∧K (.v (.list xs)) σ) K:=by
 intro Z N ρ σ h xs items n D hk hl I R
 exact ⟨_,_,ρ,σ,hk.2,I.freeze_ext,eW _,I.freeze,⟨D,items,n,rfl,if_pos rfl,hl,R.mono I.freeze_ext⟩⟩
theorem madeB_mu {K:A→H→Prop}:MadeB B (fun xs σ=>small xs∧K (.ref σ.length) (σ++[.list xs])) K:=by
 intro Z N ρ σ h xs items n D hk hl I R
 refine ⟨_,Z,ρ++[D],_,hk.2,Ext.refl _,List.prefix_append _ _,I.newRef (ob:=.list xs) ⟨items,n,rfl,hl,R⟩,⟨D,?_,rfl⟩⟩
 rw [← I.len];exact vW
theorem lok_comp {elt:E} {t:Tgt} {tg:Expr} {itE:E} {ifs:List E} {ex iter:Expr} {eifs:List Expr} {pos:Pos} {scope:Scope} (hsm:∃ o,B.h0.get? sysModules=some o) (hh:Ar.handled=none) (ht:TgE t tg) (O:CompOk scope env.scope (tgN t))
  (hit:EOk B C Ar env itE iter) (helt:∀ cenv:Env,cenv.scope=relabel scope env→EOk B C Ar cenv elt ex) (hifs:∀ cenv:Env,cenv.scope=relabel scope env→TsOk B C Ar cenv ifs eifs)
  (hfs:∀ v,foldedSetIterable iter env v=pure v):LOk B C Ar env (.comp elt t itE ifs) (.ListComp ex [⟨tg,iter,eifs,0⟩] scope pos):=by
 intro Z N ρ σ m s K Q F I Fr hx P
 rw [eval_ListComp]
 refine n1B (use:=none) hsm hh ht O hit helt hifs hfs I Fr (show c5B C elt t itE ifs m σ _ from hx) ?_
 intro as D items n Cd oc M Z' ρ' σ' h' tk hk hl e p I' hoc hr
 refine bc fun zZ=>?_
 obtain ⟨hsl,hk⟩:=hk
 obtain ⟨es,ep,hd,hs⟩:=hoc
 refine zZ ?_;clear zZ
 have hg:=(I'.led (Cd,oc) (mQ _ aQ)).1
 refine ⟨nsFind es,⟨oc,es,ep,hg,hd,hs,fun _=>rfl⟩,fun h'' hsb=>?_⟩
 have I2:Inv B Z' (M++(D,c0A items n)::N) ρ' σ' h'':=Inv.dropExt (a:=Cd) (o:=oc) (N:=M++(D,c0A items n)::N) I' (fun b o' hb he=>(hsb.2 b hb).trans he)
 exact P as D items n Z' ρ' σ' h'' tk hsl hk e p (I2.sub (List.sublist_append_right _ _)) hr
theorem sok_comp {e:E} {elt:E} {t:Tgt} {tg:Expr} {y:String} {itE:E} {ifs:List E} {ex iter:Expr} {eifs:List Expr} {py pos spos:Pos} {scope:Scope} (hm:∀ m σ K,xE C e m σ K→∃ KA,MadeB B KA K∧c5B C elt t itE ifs m σ KA) (hsm:∃ o,B.h0.get? sysModules=some o) (hh:Ar.handled=none) (ht:TgE t tg) (O:CompOk scope env.scope (tgN t)) (hk:stK (env.kindOf (Str.ofString y))=true)
  (hit:EOk B C Ar env itE iter) (helt:∀ cenv:Env,cenv.scope=relabel scope env→EOk B C Ar cenv elt ex) (hifs:∀ cenv:Env,cenv.scope=relabel scope env→TsOk B C Ar cenv ifs eifs)
  (hfs:∀ v,foldedSetIterable iter env v=pure v) (hsw:swapsWith (.ListComp ex [⟨tg,iter,eifs,0⟩] scope pos) (some (.Name (Str.ofString y) py)) spos.line env=pure true) :
  SOk B C Ar env (.asg y e) (.Assign [.Name (Str.ofString y) py] (.ListComp ex [⟨tg,iter,eifs,0⟩] scope pos) spos):=by
 intro Z Nf N ρ σ m s K Q F I Fr Ow hx P
 rw [xS_asg] at hx
 refine bc fun zZ=>?_
 obtain ⟨KA,hM,hx⟩:=hm _ _ _ hx
 refine zZ ?_;clear zZ
 rw [exec_Assign_Name_used _ _ _ _ hsw]
 refine wpAny_bind (wpAny_standAt (wpAny_bind ?_))
 show wpAny _ Ar (do let _ ← comprehension (.ListComp ex [⟨tg,iter,eifs,0⟩] scope pos) scope env _ (newList []) false (eval iter env) (some (assign (.Name (Str.ofString y) py) env))) _ _ s
 refine wpAny_bind (wpAny_mono (n1B (use:=some (assign (.Name (Str.ofString y) py) env)) (Q:=fun _ s'=>Q .next s') hsm hh ht O hit helt hifs hfs I Fr hx ?_) (fun _ s' hq=>wpAny_pure (wpAny_pure hq)) fun _ _ e=>e)
 intro xs D items n Cd oc M Z1 ρ1 σ1 h' tk hk2 hl e p I' hoc hr
 refine bc fun zZ=>?_
 obtain ⟨es,ep,hd,hs⟩:=hoc
 refine zZ ?_;clear zZ
 show wpAny _ Ar (assign (.Name (Str.ofString y) py) env (.ref D)) _ _ _
 have I1:=(I'.perm (N':=(D,c0A items n)::((((Cd,oc)::M))++(Nf++N))) xZ.symm)
 refine bc fun zZ=>?_
 obtain ⟨a,Z',ρ',σ',hk2,x2,p2,I2,R2⟩:=hM _ _ _ _ _ _ _ _ _ hk2 hl I1 hr
 refine zZ ?_;clear zZ
 have hpm:(Nf++(((Cd,oc)::M)++N)).Perm (((Cd,oc)::M)++(Nf++N)):=by
  rw [← kQ,← kQ]
  exact List.Perm.append_right _ z9Q
 have I3:=I2.perm hpm
 refine wpAny_assign_Name (l4A (Nf:=Nf) (N:=((Cd,oc)::M)++N) (x:=y) (a:=a) I3 ((Fr.mono (e.trans x2) (p.trans p2)).mem ?_) R2 hk Ow.loc (Ow.cel _) ?_)
 ·intro q hq
  rcases iQ.mp hq with hq | hq
  ·exact mQ _ hq
  ·exact gQ _ (gQ _ hq)
 ·intro Nf' h4 t4 hn' I4 F4
  have hg:=(I4.led (Cd,oc) (gQ _ (mQ _ aQ))).1
  refine ⟨nsFind es,⟨oc,es,ep,hg,hd,hs,fun _=>rfl⟩,fun h5 hsb=>?_⟩
  have I5:Inv B Z' (M++(Nf'++N)) ρ' σ' h5:=by
   refine Inv.dropExt (a:=Cd) (o:=oc) (I4.perm (N':=(Cd,oc)::(M++(Nf'++N))) ?_) (fun b o' hb he=>(hsb.2 b hb).trans he)
   show (((Cd,oc)::M)++(Nf'++N)).Perm _
   rw [← kQ,← kQ]
   exact List.Perm.append_right _ z9Q
  have hmap:(Nf'++N).map (·.1)=(Nf++N).map (·.1):=by rw [z0Q,hn',z0Q]
  have F5:=F4.narrow (D:=(Cd,oc)::M) I4 (by rw [hmap,z0Q];exact mQ _ Ow.loc) (fun z c hc=>by
   refine bc fun zZ=>?_
   obtain ⟨o',v',h1,_⟩:=Fr.cel z c hc
   refine zZ ?_;clear zZ
   rw [hmap];exact qQ.mpr ⟨_,h1,rfl⟩)
  exact P _ _ _ _ Nf' ρ' σ' h5 _ hk2 .next (e.trans x2) (p.trans p2) hn' (I5.sub (List.sublist_append_right _ _)) F5
end
end Fl
namespace Fl
open PySem PyProof.Rows PySem.W
theorem x1 {m f n:Nat} (h:m+(f+1)≤n):m<n:=yQ (z8K (vZ f)) h
theorem x2 {m n:Nat} (h:m<n):m - 1<n:=vQ (pK m 1) h
theorem x3 {m f n:Nat} (h:m+(f+1)≤n):m+1+f≤n:=by rw [z3Z,bZ 1 f];exact h
theorem x4 {m f r:Nat} (h:r≤m+1+f):r≤m+(f+1):=by rw [z3Z,bZ 1 f] at h;exact h
theorem x5 {m f r:Nat} (h:r<m+(f+1)):r<m+1+f:=by rw [z3Z,bZ 1 f];exact h
theorem x6 {k m:Nat} (h:k<m+1) (hk:¬ k=m):k<m:=gZ (rW h) hk
theorem x7 {m r:Nat} (h:m+1≤r):m≤r:=z3W h
theorem x8 {k m:Nat} (h:m+1 - 1 - 0≤k) (h':k<m+1):k=m:=jW (rW h') h
theorem x0 {m j:Nat} (h:0<m):0+m - 1 - j<m:=by
 rw [iZ];exact vQ (pK _ _) (Nat.sub_lt h Nat.one_pos)
theorem x9 {m q k:Nat} (k2:k<m) (hq:q+1≤m):m - 1 - q≤m - (q+1)+m - 1 - k:=by
 rw [Nat.sub_sub,bZ 1 q,Nat.add_sub_assoc (dQ (dJ 1 q) hq),Nat.add_sub_assoc (Nat.le_sub_one_of_lt k2)]
 exact z5Q _ _
theorem x10 {m q k:Nat} (k1:m - 1 - q≤k) (k2:k<m) (hq:q+1≤m):m - (q+1)+m - 1 - k<m:=by
 have hm:0<m:=vQ (sQ k) k2
 rw [Nat.sub_sub,bZ 1 q] at k1
 rw [Nat.add_sub_assoc hm,bZ]
 exact vQ (Nat.sub_le_of_le_add (bW k1 _)) (Nat.sub_lt hm Nat.one_pos)
theorem x11 {m k:Nat} (_k1:1≤k) (k2:k<m):0+m - 1 - (k - 1)<m:=x0 (vQ (sQ k) k2)
theorem x12 {m k:Nat} (k1:1≤k) (k2:k<m):1≤0+m - 1 - (k - 1):=by
 rw [iZ];exact z3K (Nat.sub_lt_sub_right k1 k2)
theorem x13 {m k:Nat} (k1:1≤k):0+m - 1 - (k - 1) - 1=0+m - 1 - k:=by
 cases k with
 | zero=>exact absurd k1 (by decide)
 | succ j=>rfl
theorem x14 {m k:Nat} (k2:k<m):0+m - 1 - k<m:=x0 (vQ (sQ k) k2)
theorem x19 {k l:Nat} (h:l≤k):k - (k - l)=l:=Nat.sub_sub_self h
noncomputable def Run (lt:Nat→Nat→Bool) (n:Nat) {α:Type}:KasT α→(α→Prop)→Prop
 | .ret a,Q=>Q a
 | .ask i j k,Q=>i<n∧j<n∧Run lt n (k (lt i j)) Q
section
variable {lt:Nat→Nat→Bool} {n:Nat}
theorem Run.bind {α β:Type} {f:α→KasT β} {Q:β→Prop}:∀ {t:KasT α},Run lt n t (fun a=>Run lt n (f a) Q)→Run lt n (t.bind f) Q
 | .ret _,h=>h
 | .ask _ _ _,h=>⟨h.1,h.2.1,Run.bind h.2.2⟩
theorem Run.mono {α:Type} {Q Q':α→Prop} (hq:∀ a,Q a→Q' a):∀ {t:KasT α},Run lt n t Q→Run lt n t Q'
 | .ret _,h=>hq _ h
 | .ask _ _ _,h=>⟨h.1,h.2.1,Run.mono hq h.2.2⟩
theorem Run.wp {α:Type} {cmp:Nat→Nat→(Bool→Shared→Prop)→Shared→Prop} {Q:α→Shared→Prop} {s:Shared} (hc:∀ i j C,i<n→j<n→C (lt i j) s→cmp i j C s):∀ {t:KasT α},Run lt n t (fun a=>Q a s)→t.kasWp cmp Q s
 | .ret _,h=>h
 | .ask i j k,h=>hc i j _ h.1 h.2.1 (Run.wp hc h.2.2)
structure Ord (lt:Nat→Nat→Bool):Prop where
 irr:∀ a,lt a a=false
 asy:∀ a b,lt a b=true→lt b a=false
 tr:∀ a b c,lt b a=false→lt c b=false→lt c a=false
noncomputable def G (p:Array Nat) (k:Nat):Nat:=p.getD k 0
noncomputable def l0A (lt:Nat→Nat→Bool) (p:Array Nat) (m:Nat):Prop:=∀ k,1≤k→k<m→lt (G p k) (G p (k - 1))=false
noncomputable def v8A (lt:Nat→Nat→Bool) (p:Array Nat) (m:Nat):Prop:=∀ k,1≤k→k<m→lt (G p (k - 1)) (G p k)=false
noncomputable def EqEnd (lt:Nat→Nat→Bool) (p:Array Nat) (m q:Nat):Prop:=q+1≤m∧∀ k,m - 1 - q≤k→k<m→lt (G p k) (G p (m - 1))=false∧lt (G p (m - 1)) (G p k)=false
noncomputable def Ix (n:Nat) (p:Array Nat):Prop:=p.Perm (List.toArray (List.range n))
theorem Ix.size {p:Array Nat} (h:Ix n p):p.size=n:=by
 have:=Array.Perm.size_eq h;simpa using this
theorem G_eq {p:Array Nat} {k:Nat} (h:k<p.size):G p k=p[k]:=by simp [G,Array.getD,h]
theorem Ix.low {p:Array Nat} (h:Ix n p) {k:Nat} (hk:k<n):G p k<n:=by
 have hs:=h.size
 have hk':k<p.size:=hs.symm ▸ hk
 rw [G_eq hk']
 have hm:p[k]∈p:=Array.getElem_mem hk'
 have:p[k]∈(List.toArray (List.range n)):=(Array.Perm.mem_iff h).mp hm
 simpa using this
theorem G_of {p q:Array Nat} {i j:Nat} (h:p[i]?=q[j]?):G p i=G q j:=by
 unfold G
 rw [sZ,sZ,h]
theorem G_rev {p:Array Nat} {i j:Nat} (hj:j≤p.size) (k:Nat):G (kas_rev p i j) k=if i≤k∧k<j then G p (i+j - 1 - k) else G p k:=by
 have:=getElem?_mirror_all (xs:=p) (i:=i) hj k
 split
 ·rename_i h;rw [if_pos h] at this;exact G_of this
 ·rename_i h;rw [if_neg h] at this;exact G_of this
theorem Ix.rev {p:Array Nat} (h:Ix n p) (i j:Nat):Ix n (kas_rev p i j):=(mirror_perm _ _ _ _).trans h
theorem Ix.bub {p:Array Nat} (h:Ix n p) (i j:Nat):Ix n (bubble p i j):=(bubble_perm _ _ _).trans h
theorem l0B (O:Ord lt) {p:Array Nat} {m:Nat} (h:l0A lt p m):∀ d i,i+d<m→lt (G p (i+d)) (G p i)=false
 | 0,i,_=>O.irr _
 | d+1,i,hi=>by
  have h1:=l0B O h d i (bK hi)
  have h2:=h (i+(d+1)) (tQ (sQ _)) hi
  exact O.tr _ _ _ h1 (by simpa [← z3Z] using h2)
theorem q2A (O:Ord lt) {p:Array Nat} {m:Nat} (h:l0A lt p m) {i j:Nat} (hij:i≤j) (hj:j<m):lt (G p j) (G p i)=false:=by
 have:=l0B O h (j - i) i (by rw [aW hij];exact hj)
 rwa [aW hij] at this
theorem c2B {p:Array Nat} (hp:Ix n p):∀ f m,1≤m→m+f≤n→l0A lt p m→Run lt n (kas_asc p f m) (fun r=>m≤r∧r≤m+f∧l0A lt p r∧(r<m+f→lt (G p r) (G p (r - 1))=true))
 | 0,m,_,_,h=>⟨uQ _,uQ _,h,fun h=>absurd h (wW _)⟩
 | f+1,m,h1,hf,h=>by
  refine ⟨hp.low (k:=m) (x1 hf),hp.low (k:=m - 1) (x2 (x1 hf)),?_⟩
  show Run lt n (if lt (G p m) (G p (m - 1))=true then .ret m else kas_asc p f (m+1)) _
  cases hc:lt (G p m) (G p (m - 1)) with
  | true=>rw [if_pos rfl];exact ⟨uQ _,z5Q _ _,h,fun _=>hc⟩
  | false=>
   rw [if_neg (fun e=>nomatch e)]
   refine Run.mono ?_ (c2B hp f (m+1) (tQ (sQ _)) (x3 hf) ?_)
   ·rintro r ⟨a,b,c,d⟩
    exact ⟨x7 a,x4 b,c,fun h=>d (x5 h)⟩
   ·intro k k1 k2
    by_cases hk:k=m
    ·subst hk;exact hc
    ·exact h k k1 (x6 k2 hk)
theorem o0B (O:Ord lt) {p:Array Nat} (hp:Ix n p) {m q:Nat} (hm:m≤n) (hd:v8A lt p m) (he:EqEnd lt p m q):v8A lt (kas_rev p (m - (q+1)) m) m∧(lt (G (kas_rev p (m - (q+1)) m) (m - 1)) (G p (m - 1))=false∧lt (G p (m - 1)) (G (kas_rev p (m - (q+1)) m) (m - 1))=false)∧∀ k,m≤k→G (kas_rev p (m - (q+1)) m) k=G p k:=by
 have hs:=hp.size
 obtain ⟨hq,he⟩:=he
 have hg:=G_rev (p:=p) (i:=m - (q+1)) (j:=m) (hs ▸ hm)
 have e0:m - (q+1)=m - 1 - q:=by rw [Nat.sub_sub,bZ 1 q]
 have cls:∀ k,m - 1 - q≤k→k<m→lt (G (kas_rev p (m - (q+1)) m) k) (G p (m - 1))=false∧lt (G p (m - 1)) (G (kas_rev p (m - (q+1)) m) k)=false:=by
  intro k k1 k2
  rw [hg,if_pos ⟨e0 ▸ k1,k2⟩]
  exact he _ (x9 k2 hq) (x10 k1 k2 hq)
 refine ⟨fun k k1 k2=>?_,?_,fun k hk=>?_⟩
 ·by_cases hk:m - 1 - q≤k - 1
  ·have a1:=cls (k - 1) hk (x2 k2)
   have a2:=cls k (dQ hk (pK k 1)) k2
   exact O.tr (G (kas_rev p (m - (q+1)) m) k) (G p (m - 1)) (G (kas_rev p (m - (q+1)) m) (k - 1)) a2.2 a1.1
  ·by_cases hk2:m - 1 - q≤k
   ·have e1:G (kas_rev p (m - (q+1)) m) (k - 1)=G p (k - 1):=by rw [hg,if_neg (fun e=>hk (e0 ▸ e.1))]
    have a2:=cls k hk2 k2
    have a3:=he k hk2 k2
    have a4:=hd k k1 k2
    rw [e1]
    have a5:lt (G p (k - 1)) (G p (m - 1))=false:=O.tr (G p (m - 1)) (G p k) (G p (k - 1)) a3.1 a4
    exact O.tr _ _ _ a2.2 a5
   ·rw [hg,if_neg (fun e=>hk (e0 ▸ e.1)),hg,if_neg (fun e=>hk2 (e0 ▸ e.1))]
    exact hd k k1 k2
 ·exact cls (m - 1) (pK _ _) (Nat.sub_lt (yQ (vZ q) hq) Nat.one_pos)
 ·rw [hg,if_neg (fun e=>wW _ (yQ e.2 hk))]
theorem a6A (O:Ord lt):∀ f p m q,Ix n p→m+f≤n→v8A lt p m→EqEnd lt p m q→
  Run lt n (kas_desc f p m q) (fun r=>Ix n r.1∧m≤r.2.1∧r.2.1≤m+f∧v8A lt r.1 r.2.1∧EqEnd lt r.1 r.2.1 r.2.2)
 | 0,p,m,q,hp,_,hd,he=>⟨hp,uQ _,uQ _,hd,he⟩
 | f+1,p,m,q,hp,hf,hd,he=>by
  have hq:=he.1
  refine ⟨hp.low (k:=m) (x1 hf),hp.low (k:=m - 1) (x2 (x1 hf)),?_⟩
  show Run lt n (if lt (G p m) (G p (m - 1))=true then (if q > 0 then kas_desc f (kas_rev p (m - (q+1)) m) (m+1) 0 else kas_desc f p (m+1) 0)
   else .ask (G p (m - 1)) (G p m) fun d=>if d=true then .ret (p,m,q) else kas_desc f p (m+1) (q+1)) _
  cases hc:lt (G p m) (G p (m - 1)) with
  | true=>
   rw [if_pos rfl]
   have hasy:=O.asy _ _ hc
   split
   ·refine bc fun zZ=>?_
    obtain ⟨r1,r2,r3⟩:=o0B O hp (z8Q (x1 hf)) hd he
    refine zZ ?_;clear zZ
    refine Run.mono ?_ (a6A O f _ (m+1) 0 (hp.rev _ _) (x3 hf) ?_ ⟨tQ (sQ _),fun k k1 k2=>?_⟩)
    ·rintro r ⟨a,b,c,d,e⟩;exact ⟨a,x7 b,x4 c,d,e⟩
    ·intro k k1 k2
     by_cases hk:k=m
     ·subst hk
      rw [r3 k (uQ _)]
      exact O.tr (G p k) (G p (k - 1)) _ hasy r2.1
     ·exact r1 k k1 (x6 k2 hk)
    ·have:k=m:=x8 k1 k2
     subst this
     simp only [Nat.add_sub_cancel]
     exact ⟨O.irr _,O.irr _⟩
   ·refine Run.mono ?_ (a6A O f _ (m+1) 0 hp (x3 hf) ?_ ⟨tQ (sQ _),fun k k1 k2=>?_⟩)
    ·rintro r ⟨a,b,c,d,e⟩;exact ⟨a,x7 b,x4 c,d,e⟩
    ·intro k k1 k2
     by_cases hk:k=m
     ·subst hk;exact hasy
     ·exact hd k k1 (x6 k2 hk)
    ·have:k=m:=x8 k1 k2
     subst this
     simp only [Nat.add_sub_cancel]
     exact ⟨O.irr _,O.irr _⟩
  | false=>
   rw [if_neg (fun e=>nomatch e)]
   refine ⟨hp.low (k:=m - 1) (x2 (x1 hf)),hp.low (k:=m) (x1 hf),?_⟩
   cases hc2:lt (G p (m - 1)) (G p m) with
   | true=>exact ⟨hp,uQ _,z5Q _ _,hd,he⟩
   | false=>
    refine Run.mono ?_ (a6A O f _ (m+1) (q+1) hp (x3 hf) ?_ ⟨tQ hq,fun k k1 k2=>?_⟩)
    ·rintro r ⟨a,b,c,d,e⟩;exact ⟨a,x7 b,x4 c,d,e⟩
    ·intro k k1 k2
     by_cases hk:k=m
     ·subst hk;exact hc2
     ·exact hd k k1 (x6 k2 hk)
    ·simp only [Nat.add_sub_cancel]
     by_cases hk:k=m
     ·subst hk;exact ⟨O.irr _,O.irr _⟩
     ·have:=he.2 k (by rw [Nat.sub_sub,bZ 1 q];exact k1) (x6 k2 hk)
      exact ⟨O.tr (G p m) (G p (m - 1)) (G p k) hc2 this.1,O.tr (G p k) (G p (m - 1)) (G p m) this.2 hc⟩
theorem n0B {p:Array Nat} {m nrem:Nat} (hp:Ix n p) (h1:1≤m) (hm:m≤nrem) (hn:nrem≤n) (hd:v8A lt p m) :
  Run lt n (kas_tail3 m nrem p) (fun r=>Ix n r.2∧1≤r.1∧r.1≤nrem∧l0A lt r.2 r.1):=by
 have hs:=hp.size
 unfold kas_tail3
 have e0:m+(nrem - m)=nrem:=aW hm
 refine Run.bind (Run.mono ?_ (c2B (hp.rev 0 m) (nrem - m) m h1 (e0.symm ▸ hn) ?_))
 ·rintro r ⟨a,b,c,_⟩
  exact ⟨hp.rev 0 m,dQ h1 a,e0 ▸ b,c⟩
 ·intro k k1 k2
  have hg:=G_rev (p:=p) (i:=0) (j:=m) (hs ▸ dQ hm hn)
  rw [hg,if_pos ⟨sQ _,k2⟩,hg,if_pos ⟨sQ _,x2 k2⟩]
  have:=hd (0+m - 1 - (k - 1)) (x12 k1 k2) (x11 k1 k2)
  rw [x13 k1] at this
  exact this
theorem m5A (O:Ord lt) {p:Array Nat} {m nrem:Nat} (hp:Ix n p) (h1:1≤m) (hm:m+1≤nrem) (hn:nrem≤n) (hd:v8A lt p (m+1)) :
  Run lt n (kas_descPart m nrem p) (fun r=>Ix n r.2∧1≤r.1∧r.1≤nrem∧l0A lt r.2 r.1):=by
 unfold kas_descPart
 have e0:m+1+(nrem - (m+1))=nrem:=aW hm
 refine Run.bind (Run.mono ?_ (a6A O (nrem - (m+1)) p (m+1) 0 hp (e0.symm ▸ hn) hd ⟨tQ (sQ _),fun k k1 k2=>?_⟩))
 ·rintro ⟨p',m',q⟩ ⟨a,b,c,d,e⟩
  simp only at a b c d e ⊢
  split
  ·obtain ⟨r1,_,_⟩:=o0B O a (dQ (e0 ▸ c) hn) d e
   exact n0B (a.rev _ _) (dQ (tQ (sQ _)) b) (e0 ▸ c) hn r1
  ·exact n0B a (dQ (tQ (sQ _)) b) (e0 ▸ c) hn d
 ·have:k=m:=x8 k1 k2
  subst this
  simp only [Nat.add_sub_cancel]
  exact ⟨O.irr _,O.irr _⟩
theorem o7B (O:Ord lt) {p:Array Nat} {nrem:Nat} (hp:Ix n p) (h1:1≤nrem) (hn:nrem≤n) :
  Run lt n (kas_count nrem p) (fun r=>Ix n r.2∧1≤r.1∧r.1≤nrem∧l0A lt r.2 r.1):=by
 have hs:=hp.size
 unfold kas_count
 have e0:1+(nrem - 1)=nrem:=aW h1
 refine Run.bind (Run.mono ?_ (c2B hp (nrem - 1) 1 (uQ _) (e0.symm ▸ hn) (fun k k1 k2=>absurd k1 (Nat.not_le_of_lt k2))))
 intro m zY0
 refine bc fun zZ=>?_
 obtain ⟨a,b,c,d⟩:=zY0
 refine zZ ?_;clear zZ
 rw [e0] at b d
 split
 ·exact ⟨hp,a,b,c⟩
 ·rename_i hne
  have hmn:m<nrem:=gZ b (by simpa using hne)
  have hlt:=d hmn
  have hmN:m<n:=yQ hmn hn
  split
  ·rename_i hm1
   refine ⟨hp.low (k:=0) (yQ a (z8Q hmN)),hp.low (k:=m - 1) (x2 hmN),?_⟩
   show Run lt n (if lt (G p 0) (G p (m - 1))=true then .ret (m,p) else kas_descPart m nrem (kas_rev p 0 m)) _
   cases hc:lt (G p 0) (G p (m - 1)) with
   | true=>rw [if_pos rfl];exact ⟨hp,a,b,c⟩
   | false=>
    rw [if_neg (fun e=>nomatch e)]
    refine m5A O (hp.rev 0 m) a hmn hn ?_
    have hg:=G_rev (p:=p) (i:=0) (j:=m) (hs ▸ z8Q hmN)
    have hm0:m - 1<m:=Nat.sub_lt a Nat.one_pos
    have eq:∀ k,k<m→lt (G p k) (G p (m - 1))=false∧lt (G p (m - 1)) (G p k)=false:=by
     intro k hk
     refine ⟨?_,q2A O c (Nat.le_sub_one_of_lt hk) hm0⟩
     have h0:=q2A O c (i:=0) (j:=k) (sQ _) hk
     have h2:lt (G p k) (G p (m - 1))=false:=by
      cases hx:lt (G p k) (G p (m - 1)) with
      | false=>rfl
      | true=>
       have h3:lt (G p 0) (G p (m - 1))=false:=hc
       have h4:lt (G p k) (G p 0)=false:=h0
       have h5:=O.tr (G p (m - 1)) (G p 0) (G p k) h3 h4
       rw [h5] at hx;cases hx
     exact h2
    intro k k1 k2
    by_cases hk:k=m
    ·subst hk
     rw [hg,if_pos ⟨sQ _,hm0⟩,hg,if_neg (fun e=>wW _ e.2)]
     have e1:=eq (0+k - 1 - (k - 1)) (x14 hm0)
     have:=O.asy _ _ hlt
     exact O.tr _ _ _ this e1.1
    ·have hkm:=x6 k2 hk
     rw [hg,if_pos ⟨sQ _,x2 hkm⟩,hg,if_pos ⟨sQ _,hkm⟩]
     have e1:=eq (0+m - 1 - (k - 1)) (x11 k1 hkm)
     have e2:=eq (0+m - 1 - k) (x14 hkm)
     exact O.tr _ _ _ e2.2 e1.1
  ·rename_i hm1
   have hm1:m=1:=jW (Nat.le_of_not_lt hm1) a
   subst hm1
   refine m5A O hp (uQ _) hmn hn ?_
   intro k k1 k2
   have:k=1:=jW (rW k2) k1
   subst this
   exact O.asy _ _ hlt
theorem m6A (O:Ord lt) {p:Array Nat} {k:Nat} (hp:Ix n p) (hk:k<n) (hs:l0A lt p k):∀ f l r,l≤r→r≤k→r - l≤f→(∀ i,i<l→lt (G p k) (G p i)=false)→(∀ i,r≤i→i<k→lt (G p k) (G p i)=true)→
  Run lt n (kas_place p k f l r) (fun t=>t≤k∧(∀ i,i<t→lt (G p k) (G p i)=false)∧∀ i,t≤i→i<k→lt (G p k) (G p i)=true)
 | 0,l,r,hlr,hrk,hf,h1,h2=>by
  have e:l=r:=jW hlr (Nat.le_of_sub_eq_zero (Nat.le_zero.mp hf))
  subst e
  exact ⟨hrk,h1,h2⟩
 | f+1,l,r,hlr,hrk,hf,h1,h2=>by
  unfold kas_place
  split
  ·rename_i hge
   have e:l=r:=jW hlr (by simpa using hge)
   subst e
   exact ⟨hrk,h1,h2⟩
  ·rename_i hge
   have hlt:l<r:=by simpa using hge
   have hmr:=x15 hlt
   have hmk:=yQ hmr hrk
   refine ⟨hp.low hk,hp.low (k:=(l+r) / 2) (z7W hmk hk),?_⟩
   show Run lt n (if lt (G p k) (G p ((l+r) / 2))=true then kas_place p k f l ((l+r) / 2) else kas_place p k f ((l+r) / 2+1) r) _
   cases hc:lt (G p k) (G p ((l+r) / 2)) with
   | true=>
    rw [if_pos rfl]
    refine m6A O hp hk hs f l ((l+r) / 2) (x16 hlt) (z8Q hmk) (x17 hlt hf) h1 fun i a b=>?_
    have:=q2A O hs a b
    cases hx:lt (G p k) (G p i) with
    | true=>rfl
    | false=>have:=O.tr _ _ _ this hx;rw [this] at hc;cases hc
   | false=>
    rw [if_neg (fun e=>nomatch e)]
    refine m6A O hp hk hs f ((l+r) / 2+1) r hmr hrk (x18 hlt hf) (fun i a=>?_) h2
    have:=q2A O hs (i:=i) (j:=(l+r) / 2) (rW a) hmk
    exact O.tr _ _ _ this hc
theorem G_bub {p:Array Nat} {src d:Nat} (hs:src<p.size) (hd:d≤src) (k:Nat):G (bubble p src d) k=if k=src - d then G p src else if src - d<k∧k≤src then G p (k - 1) else G p k:=by
 have:=getElem?_bubble hs d hd k
 split
 ·rename_i h;rw [if_pos h] at this;exact G_of this
 ·rename_i h
  rw [if_neg h] at this
  split
  ·rename_i h';rw [if_pos h'] at this;exact G_of this
  ·rename_i h';rw [if_neg h'] at this;exact G_of this
theorem p7B (O:Ord lt):∀ f p k,Ix n p→1≤k→k+f=n→l0A lt p k→Run lt n (kas_bin f p k) (fun r=>Ix n r∧l0A lt r n)
 | 0,p,k,hp,_,hf,hs=>⟨hp,by simpa using hf ▸ hs⟩
 | f+1,p,k,hp,h1,hf,hs=>by
  have hsz:=hp.size
  unfold kas_bin
  have hkn:k<n:=x1 (lZ hf)
  refine Run.bind (Run.mono ?_ (m6A O hp hkn hs k 0 k (sQ _) (uQ _) (uQ _) (fun i hi=>absurd hi (z5Z i)) (fun i a b=>absurd a (Nat.not_le_of_lt b))))
  intro l zY0
  refine bc fun zZ=>?_
  obtain ⟨hl,a,b⟩:=zY0
  refine zZ ?_;clear zZ
  refine p7B O f _ (k+1) (hp.bub _ _) (tQ (sQ _)) (by rw [z3Z,bZ 1 f];exact hf) ?_
  have hg:=G_bub (p:=p) (src:=k) (d:=k - l) (hsz ▸ hkn) (pK _ _)
  rw [x19 hl] at hg
  intro j j1 j2
  have hj1:j - 1<j:=Nat.sub_lt j1 Nat.one_pos
  rw [hg,hg]
  by_cases c1:j=l
  ·subst c1
   rw [if_pos rfl,if_neg (z9W hj1),if_neg (fun e=>wW _ (z7W hj1 e.1))]
   exact a _ hj1
  ·rw [if_neg c1]
   by_cases c2:l<j∧j≤k
   ·rw [if_pos c2]
    by_cases c3:j - 1=l
    ·rw [if_pos c3]
     exact O.asy _ _ (b _ (c3 ▸ uQ _) (yQ hj1 c2.2))
    ·have c4:l<j - 1:=gZ (Nat.le_sub_one_of_lt c2.1) (Ne.symm c3)
     have c5:j - 1<k:=yQ hj1 c2.2
     rw [if_neg c3,if_pos ⟨c4,z8Q c5⟩]
     exact hs (j - 1) (vQ (sQ _) c4) c5
   ·rw [if_neg c2]
    have c6:j<l:=gZ (Nat.le_of_not_lt fun e=>c2 ⟨e,rW j2⟩) c1
    have c7:j - 1<l:=z7W hj1 c6
    rw [if_neg (z9W c7),if_neg (fun e=>wW _ (z7W c7 e.1))]
    exact hs j j1 (yQ c6 hl)
theorem run_sort (O:Ord lt) (h2:1≤n):Run lt n (kas_sort n) (fun r=>Ix n r∧l0A lt r n):=by
 unfold kas_sort
 refine Run.bind (Run.mono ?_ (o7B O (Array.Perm.refl _) h2 (uQ _)))
 intro zY0 zY1
 refine bc fun zZ=>?_
 obtain ⟨m,p⟩:=zY0
 obtain ⟨a,b,c,d⟩:=zY1
 refine zZ ?_;clear zZ
 simp only at a b c d ⊢
 split
 ·rw [Nat.max_eq_left b]
  exact p7B O _ _ _ a b (aW c) d
 ·rename_i hlt
  have:m=n:=jW c (Nat.le_of_not_lt hlt)
  subst this
  exact ⟨a,d⟩
end
end Fl
namespace Fl
open PySem PyProof.Rows PySem.W
section
variable {prog:Program} {w:World} {A:Around} {E:Value→Shared→Prop} {s:Shared}
theorem szl {n:Nat} (h:n<100):n≤sizeLine:=by rw [sizeLine_eq];exact dQ (z8Q h) (by decide)
theorem b6B (vs:List Value):((List.range vs.length).map fun i=>vs.getD i Value.none)=vs:=by
 apply List.ext_getElem
 ·simp
 ·intro i h1 h2;simp [List.getD,h2]
noncomputable def Srt (prog:Program) (w:World) (A:Around) (vs:List Value) (R:Array Nat→Prop) (s:Shared):Prop:=
 ∃ κ,(∀ Q E,Q κ s→wpAny (model prog w) A (keyKind' vs.toArray) Q E s)∧∀ E,wpAny (model prog w) A ((sortRuns').run (SortSt.mk' κ (vs.toArray.zip vs.toArray) #[] 7 none)) (fun r s'=>s'=s∧∃ p:Array Nat,arrOf r.2=p.map (kas_item (vs.toArray.zip vs.toArray))∧failedOf r.2=none∧Ix vs.length p∧R p) E s
noncomputable def Asks (prog:Program) (w:World) (A:Around) (vs:List Value) (lt:Nat→Nat→Bool) (s:Shared):Prop:=
 ∃ κ,(∀ Q E,Q κ s→wpAny (model prog w) A (keyKind' vs.toArray) Q E s)∧∀ i j C,i<vs.length→j<vs.length→C (lt i j) s→kas_ask prog w A κ vs i j C s
theorem z6B {vs:List Value} {lt:Nat→Nat→Bool} (O:Ord lt) (h2:2≤vs.length) (h64:vs.length<64) (H:Asks prog w A vs lt s):Srt prog w A vs (fun p=>l0A lt p vs.length) s:=by
 obtain ⟨κ,hk1,hk2⟩:=H
 refine ⟨κ,hk1,fun E=>?_⟩
 have run:(kas_sort vs.length).kasWp (kas_ask prog w A κ vs) (fun p s'=>Ix vs.length p∧l0A lt p vs.length∧s'=s) s:=
  Run.wp (n:=vs.length) (lt:=lt) hk2 (Run.mono (fun p hp=>⟨hp.1,hp.2,rfl⟩) (run_sort O (z3W h2)))
 exact kat_run (Q:=fun st' s'=>s'=s∧∃ p:Array Nat,arrOf st'=p.map (kas_item (vs.toArray.zip vs.toArray))∧failedOf st'=none∧Ix vs.length p∧l0A lt p vs.length) rfl h2 h64 (fun p' st' s' a1 a2 a3 a4=>⟨a4.2.2,p',a2,a3,a4.1,a4.2.1⟩) run
theorem x5B {a:Addr} {vs:List Value} {n:Nat} {R:Array Nat→Prop} {P:PySem.Fin→Shared→Prop} (ho:s.heap.get? a=some (seqObj "list" vs.toArray n)) (h64:vs.length<100) (h0:vs.length<2→R (List.toArray (List.range vs.length)))
  (hk:2≤vs.length→∀ s':Shared,(∀ b o,b≠a→s.heap.get? b=some o→s'.heap.get? b=some o)→Srt prog w A vs R s')
  (h:∀ p:Array Nat,Ix vs.length p→R p→P (.done (.ret .none)) { s with heap:=sortedHeap s.heap a vs (List.toArray (p.toList.map fun i=>vs.getD i Value.none)) }) :
  wpAny (model prog w) A (Builtin.«list.sort» ⟨[.ref a],[]⟩) P E s:=by
 rw [list_sort_plain]
 have ha:a<s.heap.objs.size:=iW ho
 refine wpAny_bind (listItems_at ho rfl ?_)
 refine wpAny_bind (listUpdate_at ho rfl ?_ (by rw [z4W];exact szl h64) (sQ _))
 obtain ⟨e1,ho1⟩:∃ e1,(s.heap.update a (Obj.mapSeq fun _=>#[])).get? a=some (seqObj "list" #[] e1):=⟨_,get?_update_seq ho (fun _=>#[])⟩
 refine wpAny_bind (seqEpoch_at ho1 rfl ?_)
 refine wpAny_bind (wpAny_newTuple ?_ (szl h64))
 refine wpAny_bind (wpAny_newList ?_ (sQ _))
 refine wpAny_holding ?_
 have ho6:(((s.heap.update a (Obj.mapSeq fun _=>#[])).push (seqObj "tuple" vs.toArray 0)).push (seqObj "list" #[] 0)).get? a=some (seqObj "list" #[] e1):=by
  rw [Heap.get?_push_ne _ _ _ (by rw [size_push',Heap.size_update];exact z9W (z8Z ha)),Heap.get?_push_ne _ _ _ (by rw [Heap.size_update];exact z9W ha)]
  exact ho1
 show wpAny (model prog w) A _ P E { s with heap:=((s.heap.update a (Obj.mapSeq fun _=>#[])).push (seqObj "tuple" vs.toArray 0)).push (seqObj "list" #[] 0) }
 dsimp only
 by_cases h2:vs.toArray.size<2
 ·rw [if_pos h2,if_pos h2]
  refine wpAny_bind (wpAny_pure ?_)
  rw [StateT.run_pure]
  refine wpAny_bind (wpAny_pure ?_)
  dsimp only
  refine wpAny_bind (seqEpoch_at ho6 rfl ?_)
  have harr:(arrOf (SortSt.mk' general' (vs.toArray.zip vs.toArray) #[] 7 none)).map (·.2)=vs.toArray:=by
   show (vs.toArray.zip vs.toArray).map (·.2)=_
   apply Array.ext
   ·simp
   ·intro i h1 h3;simp
  rw [harr]
  refine wpAny_bind (listUpdate_at ho6 rfl ?_ (sQ _) (by rw [z4W];exact nK (szl h64)))
  simp only [bne_self_eq_false,fW,if_false]
  have:=h (List.toArray (List.range vs.length)) (Array.Perm.refl _) (h0 h2)
  rw [List.toList_toArray,b6B] at this
  exact wpAny_pure this
 ·rw [if_neg h2,if_neg h2]
  have h2':2≤vs.length:=by simp at h2;lia
  obtain ⟨κ,hk1,hk2⟩:=hk h2' { s with heap:=((s.heap.update a (Obj.mapSeq fun _=>#[])).push (seqObj "tuple" vs.toArray 0)).push (seqObj "list" #[] 0) } (fun b o hb e=>by
   refine z7Q _ (z7Q _ ?_)
   rw [Heap.get?_update_ne _ _ _ _ hb];exact e)
  refine wpAny_bind (hk1 _ _ ?_)
  refine wpAny_bind (wpAny_mono (hk2 E) ?_ fun _ _ e=>e)
  rintro ⟨⟨⟩,st'⟩ s' ⟨rfl,p,har,hf,hix,hso⟩
  dsimp only
  have hout:=kat_snds rfl har
  rw [hout]
  have hsz:(List.toArray (p.toList.map fun i=>vs.getD i Value.none)).size=vs.length:=by rw [z4W,eQ,dW,hix.size]
  refine wpAny_bind (seqEpoch_at ho6 rfl ?_)
  refine wpAny_bind (listUpdate_at ho6 rfl ?_ (sQ _) (dQ (lZ hsz) (nK (szl h64))))
  rw [hf]
  simp only [bne_self_eq_false,fW,if_false]
  exact wpAny_pure (h p hix hso)
theorem sortedC {v:Value} {R:Nat→Array Nat→Prop} {Q:Value→Shared→Prop} (Cnd:List Value→Shared→Prop)
  (hcol:∀ Q':List Value→Shared→Prop,(∀ vs s1,Cnd vs s1→Q' vs s1)→wpAny (model prog w) A.in1 (collect v) Q' E s)
  (h64:∀ vs s1,Cnd vs s1→vs.length<100) (h0:∀ n,n<2→R n (List.toArray (List.range n)))
  (hk:∀ vs s1,Cnd vs s1→2≤vs.length→∀ s':Shared,(∀ b o,s1.heap.get? b=some o→s'.heap.get? b=some o)→Srt prog w A.in1.in1 vs (R vs.length) s')
  (h:∀ vs s1,Cnd vs s1→∀ (p:Array Nat) h' e,Ix vs.length p→R vs.length p→(∀ b o,s1.heap.get? b=some o→h'.get? b=some o)→h'.get? s1.heap.objs.size=some (seqObj "list" (List.toArray (p.toList.map fun i=>vs.getD i Value.none)) e)→
   Q (.ref s1.heap.objs.size) { s1 with heap:=h' }) :
  wpAny (model prog w) A (call (.builtin "sorted") [v]) Q E s:=by
 refine Calls.call_function_entry kind_sorted plain_sorted entry_sorted (args_sorted1 _) ?_
 unfold Builtin.«sorted»
 refine wpAny_bind (m:=checkCount "sorted" 1 1 _) (wpAny_pure ?_)
 refine wpAny_bind (hcol _ fun vs s1 hc=>?_)
 have h64:=h64 vs s1 hc
 refine wpAny_bind (wpAny_newList ?_ (szl h64))
 have hoL:(s1.heap.push (seqObj "list" vs.toArray 0)).get? s1.heap.objs.size=some (seqObj "list" vs.toArray 0):=z0W _ rfl
 have old:∀ b o,s1.heap.get? b=some o→b≠s1.heap.objs.size:=fun b o e=>z9W (iW e)
 refine wpAny_bind (wpAny_holding (wpAny_call_entry slot_list_sort ⟨_,hoL,rfl⟩ entry_list_sort ?body (args_list_sort _)))
 case body=>
  refine x5B (s:={ s1 with heap:=s1.heap.push (seqObj "list" vs.toArray 0) }) hoL h64 (h0 _) (fun h2 s' hk'=>?_) ?_
  ·exact hk vs s1 hc h2 s' fun b o e=>hk' b o (old b o e) (z7Q _ e)
  ·intro p hix hso
   obtain ⟨e,he⟩:=sortedHeap_at (h:=s1.heap.push (seqObj "list" vs.toArray 0)) (out:=List.toArray (p.toList.map fun i=>vs.getD i Value.none)) hoL
   refine ⟨_,rfl,wpAny_pure ⟨_,rfl,?_⟩⟩
   refine h vs s1 hc p _ e hix hso (fun b o eb=>?_) he
   rw [sortedHeap_old (old b o eb) (by rw [size_push'];exact z8Z (iW eb))]
   exact z7Q _ eb
end
end Fl
namespace Fl
open PySem PyProof.Rows PySem.W
section
variable {B:Bs} {C:a0A} {Ar:Around} {env:Env} {F:Value→Shared→Prop}
theorem lex_ok {A:Around} {Z:Zm} {Q:Bool→Shared→Prop} {s:Shared}:∀ {as bs:List V} {is js:List Value} {i:Nat} {fin:Bool},as.all isInt=true→bs.all isInt=true→RepL B Z as is→RepL B Z bs js→fin=decide (as.length<bs.length)→
  Q (ltL (as.map t0A) (bs.map t0A)) s→KatLex B.prog B.w A true fin Q (is.zip js) i s:=by
 intro as
 induction as with
 | nil=>
  intro bs is js i fin _ _ h1 h2 hf hq
  simp only [n0A,m0A] at h1;subst h1
  simp only [List.zip_nil_left]
  refine kat_nil ?_
  subst hf
  cases bs with
  | nil=>simpa [m3A,l3A,k3A,j3A] using hq
  | cons b bs=>simpa [m3A,l3A,k3A,j3A] using hq
 | cons a as ih=>
  intro bs is js i fin ha hb h1 h2 hf hq
  cases bs with
  | nil=>
   simp only [n0A,m0A] at h2;subst h2
   simp only [List.zip_nil_right]
   refine kat_nil ?_
   subst hf
   simpa [m3A,l3A,k3A,j3A] using hq
  | cons b bs=>
   simp only [n0A,m0A] at h1 h2
   obtain ⟨v,r,rfl,v1,v2⟩:=h1
   obtain ⟨w,r',rfl,w1,w2⟩:=h2
   simp only [z7Z,z4Q] at ha hb
   rw [v0A ha.1] at v1
   rw [v0A hb.1] at w1
   obtain ⟨t,rfl⟩:=v1
   obtain ⟨u,rfl⟩:=w1
   simp only [List.zip_cons_cons]
   refine kat_cons (wpAny_eqBool_int ?_)
   simp only [z6Q,m3A,l3A,k3A,j3A] at hq
   by_cases hab:t0A a=t0A b
   ·have:(t0A a == t0A b)=true:=by simpa using hab
    rw [this]
    refine kat_yes (ih ha.2 hb.2 v2 w2 (by rw [hf];simp) ?_)
    have hlt:¬ t0A a<t0A b:=fun h=>Int.ne_of_lt h hab
    simpa [hab] using hq
   ·have:(t0A a == t0A b)=false:=by simpa using hab
    rw [this]
    refine kat_no ?_
    have hq':Q (decide (t0A a<t0A b)) s:=by simpa [hab] using hq
    by_cases hi:i=0
    ·subst hi;exact oneLt_int hq'
    ·have:(true && i == 0)=false:=by simpa using hi
     rw [this]
     exact kat_one _ _ (lt_int hq')
theorem ask_ok {A:Around} {Z:Zm} {xs:List V} {items:List Value} {s:Shared} (hs:j0A xs=true) (hr:RepL B Z xs items) (hz:∀ a o,Z a=some o→s.heap.get? a=some o) (h2:2≤items.length) :
  ∃ κ,(∀ Q E,Q κ s→wpAny (model B.prog B.w) A (keyKind' items.toArray) Q E s)∧∀ i j C,i<items.length→j<items.length→C (vlt (xs.getD i .none) (xs.getD j .none)) s→kas_ask B.prog B.w A κ items i j C s:=by
 have hlen:=f0A hr
 have getx:∀ i,i<items.length→∃ x v,xs[i]?=some x∧items[i]?=some v∧RepV B Z x v∧xs.getD i .none=x∧items.getD i .none=v:=by
  intro i hi
  have hi':i<xs.length:=hlen ▸ hi
  refine bc fun zZ=>?_
  obtain ⟨v,hv,hrv⟩:=a1A hr (nQ hi')
  refine zZ ?_;clear zZ
  exact ⟨_,v,nQ hi',hv,hrv,by simp [List.getD,hi'],by simp [List.getD,hv]⟩
 simp only [j0A,Bool.or_eq_true] at hs
 rcases hs with hs | hs
 ·refine ⟨oneType',fun Q E hq=>?_,fun i j Cc hi hj hc=>?_⟩
  ·have hI:IntsAre items (xs.map t0A):=by
    clear h2 getx hlen
    induction xs generalizing items with
    | nil=>simp only [n0A,m0A] at hr;subst hr;exact .nil
    | cons x xs ih=>
     simp only [n0A,m0A] at hr
     refine bc fun zZ=>?_
     obtain ⟨v,r,rfl,v1,v2⟩:=hr
     refine zZ ?_;clear zZ
     simp only [z7Z,z4Q] at hs
     rw [v0A hs.1] at v1
     obtain ⟨t,rfl⟩:=v1
     exact .cons _ _ (ih v2 hs.2)
   refine bc fun zZ=>?_
   obtain ⟨v₁,v₂,rest,rfl⟩:=g3B h2
   refine zZ ?_;clear zZ
   rw [keyKind_ints hI];exact wpAny_pure hq
  ·refine bc fun zZ=>?_
   obtain ⟨x,v,hx,hv,hrv,e1,e2⟩:=getx i hi
   obtain ⟨y,w,hy,hw,hrw,e3,e4⟩:=getx j hj
   refine zZ ?_;clear zZ
   unfold kas_ask
   rw [e2,e4]
   rw [e1,e3] at hc
   have ix:=v0A (z2Q.mp hs x (wQ hx))
   have iy:=v0A (z2Q.mp hs y (wQ hy))
   rw [ix] at hrv hc
   rw [iy] at hrw hc
   refine bc fun zZ=>?_
   obtain ⟨t,rfl⟩:=hrv
   obtain ⟨u,rfl⟩:=hrw
   refine zZ ?_;clear zZ
   rw [t2A] at hc
   exact kat_lt_int hc
 ·have tups:∃ fs:List Value,KatTups s.heap items fs∧fs.length=items.length∧∀ v∈fs,∃ i t,v=.int i t:=by
   clear h2 getx hlen
   induction xs generalizing items with
   | nil=>simp only [n0A,m0A] at hr;subst hr;exact ⟨[],.nil,rfl,fun _ h=>by cases h⟩
   | cons x xs ih=>
    simp only [n0A,m0A] at hr
    refine bc fun zZ=>?_
    obtain ⟨v,r,rfl,v1,v2⟩:=hr
    refine zZ ?_;clear zZ
    simp only [z7Z,z4Q] at hs
    refine bc fun zZ=>?_
    obtain ⟨fs,f1,f2,f3⟩:=ih v2 hs.2
    obtain ⟨e1,i1⟩:=f2A hs.1.1
    refine zZ ?_;clear zZ
    have hne:=hs.1.2
    rw [e1] at v1
    cases hq:g0B x with
    | nil=>rw [hq] at hne;simp at hne
    | cons y ys=>
     rw [hq] at v1 i1
     simp only [z7Z,z4Q] at i1
     refine bc fun zZ=>?_
     obtain ⟨a,its,n,rfl,hza,_,w,r',rfl,w1,w2⟩:=v1
     refine zZ ?_;clear zZ
     rw [v0A i1.1] at w1
     obtain ⟨t,rfl⟩:=w1
     refine ⟨_::fs,KatTups.cons (f:=.int (t0A y) t) (hz _ _ hza) rfl rfl (by simp) f1,by simp [f2],fun v hv=>?_⟩
     rcases lQ.mp hv with rfl | hv
     ·exact ⟨_,_,rfl⟩
     ·exact f3 v hv
  refine bc fun zZ=>?_
  obtain ⟨fs,f1,f2,f3⟩:=tups
  refine zZ ?_;clear zZ
  refine ⟨tuples' (Value.type "int" != Value.type "tuple"),fun Q E hq=>kat_kind f1 (by lia) (fun v hv=>?_) rfl hq,fun i j Cc hi hj hc=>?_⟩
  ·refine bc fun zZ=>?_
   obtain ⟨i,t,rfl⟩:=f3 v hv
   refine zZ ?_;clear zZ
   exact Looks.of_pure rfl
  ·refine bc fun zZ=>?_
   obtain ⟨x,v,hx,hv,hrv,e1,e2⟩:=getx i hi
   obtain ⟨y,w,hy,hw,hrw,e3,e4⟩:=getx j hj
   refine zZ ?_;clear zZ
   unfold kas_ask
   rw [e2,e4]
   rw [e1,e3] at hc
   have hxs:=z2Q.mp hs x (wQ hx)
   have hys:=z2Q.mp hs y (wQ hy)
   simp only [z4Q] at hxs hys
   refine bc fun zZ=>?_
   obtain ⟨q1,i1⟩:=f2A hxs.1
   obtain ⟨q2,i2⟩:=f2A hys.1
   refine zZ ?_;clear zZ
   rw [q1] at hrv hc
   rw [q2] at hrw hc
   refine bc fun zZ=>?_
   obtain ⟨a,its,n,rfl,hza,_,hr1⟩:=hrv
   obtain ⟨b,jts,k,rfl,hzb,_,hr2⟩:=hrw
   refine zZ ?_;clear zZ
   refine kat_lt (b:=true) (hz _ _ hza) rfl (hz _ _ hzb) rfl (lex_ok (as:=g0B x) (bs:=g0B y) i1 i2 (by simpa using hr1) (by simpa using hr2) ?_ hc)
   rw [← f0A hr1,← f0A hr2]
   simp
theorem c8B {Z:Zm} {xs:List V} {items:List Value} (hr:RepL B Z xs items):∀ (l:List Nat),(∀ i∈l,i<xs.length)→RepL B Z (l.map fun i=>xs.getD i .none) (l.map fun i=>items.getD i Value.none)
 | [],_=>s1A
 | i::l,h=>by
  have hi:=h i aQ
  obtain ⟨v,hv,hrv⟩:=a1A hr (nQ hi)
  simp only [z6Q]
  refine x0A ?_ (c8B hr l fun j hj=>h j (bQ _ hj))
  simpa [List.getD,hi,hv] using hrv
theorem sort_is {xs:List V} (hs:j0A xs=true) {p:Array Nat} (hix:Ix xs.length p) (hso:l0A (fun i j=>vlt (xs.getD i .none) (xs.getD j .none)) p xs.length):(p.toList.map fun i=>xs.getD i .none)=a2A xs:=by
 have O:Ord (fun i j=>vlt (xs.getD i .none) (xs.getD j .none)):=⟨fun a=>m2B _,fun a b h=>g9A _ _ h,fun a b c h1 h2=>z3B _ _ _ h1 h2⟩
 refine q7A hs ?_ ?_
 ·have h1:p.toList.Perm (List.range xs.length):=by simpa using cK.mp hix
  have h2:=h1.map fun i=>xs.getD i V.none
  have h3:((List.range xs.length).map fun i=>xs.getD i V.none)=xs:=by
   apply List.ext_getElem
   ·simp
   ·intro i h1 h2;simp [List.getD,h2]
  rw [h3] at h2
  exact h2
 ·rw [z2Z,List.pairwise_iff_getElem]
  intro i j hi hj hij
  have hsz:=hix.size
  simp only [dW] at hi hj
  have:=q2A O hso (i:=i) (j:=j) (z8Q hij) (hsz ▸ hj)
  rw [G_eq (hsz ▸ hj),G_eq (hsz ▸ hi)] at this
  simp only [vle,z8W,Array.getElem_toList]
  exact this
theorem Inv.keepsNew2 {Z:Zm} {N:Led} {ρ:List Addr} {σ:H} {h h':Heap} {a:Addr} {o:Obj} (I:Inv B Z N ρ σ h) (hk:∀ b o,h.get? b=some o→h'.get? b=some o) (ha:∀ o,h.get? a=some o→False) (ho:h'.get? a=some o):Inv B Z ((a,o)::N) ρ σ h' where
 base:=I.base
 zin:=fun a o e=>hk _ _ (I.zin a o e)
 led:=fun p hp=>by
  rcases lQ.mp hp with rfl | hp
  ·refine ⟨ho,?_⟩
   cases hz:Z a with
   | none=>rfl
   | some o'=>exact (ha _ (I.zin _ _ hz)).elim
  ·exact ⟨hk _ _ (I.led p hp).1,(I.led p hp).2⟩
 len:=I.len
 live:=fun i a ob e1 e2 e3=>let ⟨h1,o,h2,h3⟩:=I.live i a ob e1 e2 e3;⟨h1,o,hk _ _ h2,h3⟩
 rin:=fun a ha=>let ⟨o,e⟩:=I.rin a ha;⟨o,hk _ _ e⟩
 nd:=by
  rw [z6Q,z5W,rQ]
  refine ⟨fun hm=>?_,I.nd⟩
  rcases iQ.mp hm with hm | hm
  ·obtain ⟨p,hp,e⟩:=qQ.mp hm
   have:=(I.led p hp).1
   rw [e] at this;exact ha _ this
  ·obtain ⟨o',e⟩:=I.rin _ hm;exact ha _ e
theorem t7A {Z:Zm} {N:Led} {ρ:List Addr} {σ:H} {h1:Heap} {t1:Nat} {s:Shared} {xs:List V} {v:Value} {R:Nat→Array Nat→Prop} {Q:Value→Shared→Prop} (I1:Inv B Z N ρ σ h1) (hl:xs.length<100) (h0:∀ n,n<2→R n (List.toArray (List.range n)))
  (hsrt:∀ items (s':Shared),RepL B Z xs items→(∀ a o,Z a=some o→s'.heap.get? a=some o)→2≤items.length→Srt B.prog B.w Ar.in1.in1 items (R items.length) s')
  (P:∀ a items n h' tk (p:Array Nat),Ix xs.length p→R xs.length p→Inv B Z ((a,c0A items n)::N) ρ σ h'→RepL B Z (p.toList.map fun i=>xs.getD i .none) items→Q (.ref a) { s with heap:=h',toks:=tk })
  (hcol:∀ Q':List Value→Shared→Prop,(∀ items h2 tk,RepL B Z xs items→(∀ b o,h1.get? b=some o→h2.get? b=some o)→Q' items { s with heap:=h2,toks:=tk })→wpAny (model B.prog B.w) Ar.in1 (collect v) Q' F { s with heap:=h1,toks:=t1 }) :
  wpAny (model B.prog B.w) Ar (call (.builtin "sorted") [v]) Q F { s with heap:=h1,toks:=t1 }:=by
 refine sortedC (R:=R) (s:={ s with heap:=h1,toks:=t1 }) (fun items s1=>∃ h2 tk,RepL B Z xs items∧(∀ b o,h1.get? b=some o→h2.get? b=some o)∧s1={ s with heap:=h2,toks:=tk }) (fun Q' hq=>hcol Q' fun items h2 tk a b=>hq _ _ ⟨h2,tk,a,b,rfl⟩) ?_ h0 ?_ ?_
 ·rintro items s1 ⟨h2,tk,hr,_,rfl⟩
  rw [f0A hr];exact hl
 ·rintro items s1 ⟨h2,tk,hr,keep1,rfl⟩ hl2 s' hk'
  exact hsrt items s' hr (fun a o hz=>hk' _ _ (keep1 _ _ (I1.zin _ _ hz))) hl2
 ·rintro items s1 ⟨h2,tk,hr,keep1,rfl⟩ pp h' e' hix hsrt hkeep hgD
  have hlen:=f0A hr
  rw [hlen] at hix hsrt
  have I2:=I1.keepsNew2 (a:=h2.objs.size) (o:=c0A (pp.toList.map fun i=>items.getD i Value.none) e') (fun b o eb=>hkeep _ _ (keep1 _ _ eb)) (fun o eo=>absurd (iW (keep1 _ _ eo)) (wW _)) hgD
  refine P _ _ _ h' tk pp hix hsrt I2 (c8B hr _ fun i hi=>?_)
  have hm:i∈pp:=by simpa using hi
  have:=(Array.Perm.mem_iff hix).mp hm
  simpa using this
theorem m6B (xs:List V):Ord (fun i j=>vlt (xs.getD i .none) (xs.getD j .none)):=⟨fun a=>m2B _,fun a b h=>g9A _ _ h,fun a b c h1 h2=>z3B _ _ _ h1 h2⟩
theorem m0B {Z:Zm} {N:Led} {ρ:List Addr} {σ:H} {h1:Heap} {t1:Nat} {s:Shared} {xs:List V} {v:Value} {Q:Value→Shared→Prop} (I1:Inv B Z N ρ σ h1) (hso:j0A xs=true) (h64:xs.length<64)
  (P:∀ a items n h' tk,Inv B Z ((a,c0A items n)::N) ρ σ h'→RepL B Z (a2A xs) items→Q (.ref a) { s with heap:=h',toks:=tk })
  (hcol:∀ Q':List Value→Shared→Prop,(∀ items h2 tk,RepL B Z xs items→(∀ b o,h1.get? b=some o→h2.get? b=some o)→Q' items { s with heap:=h2,toks:=tk })→wpAny (model B.prog B.w) Ar.in1 (collect v) Q' F { s with heap:=h1,toks:=t1 }) :
  wpAny (model B.prog B.w) Ar (call (.builtin "sorted") [v]) Q F { s with heap:=h1,toks:=t1 }:=
 t7A (R:=fun n p=>l0A (fun i j=>vlt (xs.getD i .none) (xs.getD j .none)) p n) I1 (z7W h64 (by decide)) (fun n h k k1 k2=>absurd (vQ k1 k2) (z6W.mpr (rW h)))
  (fun items s' hr hz hl2=>z6B (m6B xs) hl2 (by rw [f0A hr];exact h64) (ask_ok hso hr hz hl2))
  (fun a items n h' tk p hix hs I2 R2=>P a items n h' tk I2 (sort_is hso hix hs ▸ R2)) hcol
theorem n0C {es:List DictEntry} {ep:Nat} (hh:Ar.handled=none) (J d:Addr) (hne:d≠J) :
  Walks B.prog B.w Ar J [J,d] [J] es.length (fun i v=>∃ e,es[i]?=some e∧v=e.key) (fun i h=>h.IsKeyIter J d i es.length ep∧h.get? d=some (e0A es ep)) where
 sub:=fun b hb=>lQ.mpr (.inl (cQ.mp hb))
 frame:=fun _ _ _ st hk=>⟨st.1.at fun o e=>hk J aQ o e,hk d (bQ _ aQ) _ st.2⟩
 item:=fun i s Q E hi st hQ=>r6A hh st.1 st.2 (fun e h' he hit hs=>hQ e.key h' s.toks ⟨e,he,rfl⟩ ⟨hit,(hs.2 d hne).trans st.2⟩ fun b o hb eb=>hs.extBut b o (fun h=>hb (cQ.mpr h)) eb)
  fun hn=>absurd hi (z6W.mpr (dZ.mp hn))
 done:=fun s Q E st hQ=>r6A hh st.1 st.2 (fun e h' he=>absurd (jQ.mp he).1 (wW _)) fun _ h' he=>hQ h' s.toks fun b o hb eb=>he b o (fun h=>hb (cQ.mpr h)) eb
 self:=fun _ _ _ _ st hQ=>wpAny_pyIter_keyiter st.1 hQ
theorem dic_src {es:List DictEntry} {ep:Nat} {d:Addr} (lo:(d == sysModules)=false):KdlSrc B.prog B.w "dict" d d es.length (fun i v=>∃ e,es[i]?=some e∧v=e.key) (fun h=>h.get? d=some (e0A es ep)) where
 type:=fun _ hm=>⟨_,hm,rfl⟩
 there:=fun _ hm=>⟨iW hm,iW hm⟩
 keep:=fun _ _ hm hk=>hk d (.inl rfl) _ hm
 notList:=by decide
 notTuple:=by decide
 hint:=fun _ _ _ _ hm hq=>kdl_hint_dict ⟨_,hm,rfl⟩ hq
 iter:=fun _ _ hh hm=>⟨_,_,(fun _ _ hq=>y0B lo hm hq),n0C hh _ d (z9W (iW hm)),⟨⟨_,z0W _ rfl,rfl,rfl⟩,z7Q _ hm⟩⟩
theorem gather {Z N ρ σ} {s:Shared} {va:A} {v:Value} {xs:List V} (O:BOk B) (hh:Ar.handled=none) (I:Inv B Z N ρ σ s.heap) (R:RepA B Z ρ va v) (hs:srtV σ va=some xs) (hl:xs.length<1000) (Q':List Value→Shared→Prop)
  (hq:∀ items h2 tk,RepL B Z xs items→(∀ b o,s.heap.get? b=some o→h2.get? b=some o)→Q' items { s with heap:=h2,toks:=tk }):wpAny (model B.prog B.w) Ar (collect v) Q' F s:=by
 have hsrc:∃ κ,Src σ va xs κ∧(κ=0∨κ=3):=by
  cases va with
  | v x=>rcases vSr_of hs with rfl | ⟨ks,vs,rfl,rfl⟩ <;> exact ⟨_,by first | exact .lst rfl | exact .dct rfl,by simp⟩
  | ref i=>
   obtain ⟨κ,h⟩:=b7B (a:=.ref i) hs
   exact ⟨κ,h,by cases h <;> simp⟩
  | inst _ _=>exact nons hs
 refine bc fun zZ=>?_
 obtain ⟨κ,hsrc,hκ⟩:=hsrc
 refine zZ ?_;clear zZ
 cases hsrc with
 | lst h=>
  refine bc fun zZ=>?_
  obtain ⟨l,items,n,rfl,hg,_,hr⟩:=b1A I R h
  refine zZ ?_;clear zZ
  have hlen:=f0A hr
  refine collect_list (i0A hg) (hq items _ s.toks hr fun b o eb=>?_) (by rw [sizeLine_eq];lia)
  rw [Heap.get?_update_ne _ _ _ _ (z9W (iW eb))]
  exact z7Q _ eb
 | @dct _ kvs hd=>
  refine bc fun zZ=>?_
  obtain ⟨l,es,n,rfl,hg,hne,hK,_⟩:=y4B O.sysm I R hd
  refine zZ ?_;clear zZ
  have hel:es.length=kvs.length:=by rw [k2A hK.1,eQ]
  refine kdu_collect (dic_src (es:=es) (ep:=n) hne) hh hg (by rw [hel,sizeLine_eq];rw [eQ] at hl;lia) fun h' tk acc hk hacc=>?_
  have e:acc.toList=es.map (·.key):=by
   refine List.ext_getElem? fun i=>?_
   rw [oQ,lW]
   cases hi:acc[i]? with
   | some x=>
    refine bc fun zZ=>?_
    obtain ⟨e,he,rfl⟩:=hacc.2 i x hi
    refine zZ ?_;clear zZ
    rw [he];rfl
   | none=>
    rw [Array.getElem?_eq_none_iff,hacc.1] at hi
    rw [yK hi];rfl
  rw [e]
  have hr:=b4B hK.1
  rw [fZ] at hr
  exact hq _ h' tk hr hk
 | _=>rcases hκ with h | h <;> exact nomatch h
theorem v5B {e:E} {ex:Expr} {p pos:Pos} (O:BOk B) (hh:Ar.handled=none) (hu:n1A ex=true) (he:EOk B C Ar env e ex) (hk:env.kindOf (Str.ofString "sorted")=some .globalImplicit) :
  LOk B C Ar env (.sorted e) (.Call (.Name (Str.ofString "sorted") p) [ex] [] pos):=by
 intro Z N ρ σ m s K Q F I Fr hx P
 rw [xL_sorted] at hx
 refine s1B (irs:=[e]) (O.at "sorted" (.builtin "sorted") rfl) hk (by decide +kernel) (.inl ⟨_,rfl⟩) (.cons he hu .nil) I Fr (K:=fun as σ=>get (one1 as) fun va=>get (srtV σ va) fun xs=>j0A xs=true∧xs.length<64∧(small (a2A xs)∧K (a2A xs) σ)) (show xEs C [e] m σ _ from hx) ?_
 intro as vs Z1 ρ1 σ1 h1 t1 hl hx1 e1 p1 I1 R1
 obtain ⟨va,rfl⟩:=cJ.mp hl
 obtain ⟨v,rfl,Rv⟩:=a4A R1
 have hx1:get (srtV σ1 va) fun xs=>j0A xs=true∧xs.length<64∧(small (a2A xs)∧K (a2A xs) σ1):=hx1
 refine getE hx1 fun xs hsq zQ=>?_
 obtain ⟨hso,h64,hsm,hK⟩:=zQ
 exact m0B I1 hso h64 (fun a its k h' tk I2 R2=>P (a2A xs) a its k Z1 ρ1 σ1 h' tk hsm hK e1 p1 I2 R2) fun Q' hq=>gather (Ar:=Ar.in1) (s:={ s with heap:=h1,toks:=t1 }) O hh I1 Rv hsq (z7W h64 (by decide)) Q' hq
end
end Fl
namespace Fl
open PySem PyProof.Rows PySem.W
section
variable {B:Bs} {C:a0A} {Ar:Around} {env:Env} {F:Value→Shared→Prop}
theorem k0C {pos:Pos}:EOk B C Ar env .dict0 (.Dict [] [] pos):=by
 intro Z N ρ σ m s K Q F I Fr hx P
 refine wpAny_Dict_empty ?_
 have I1:=I.push (e0A [] 0) rfl
 refine P _ _ _ (ρ++[s.heap.objs.size]) _ _ s.toks hx (Ext.refl _) (List.prefix_append _ _) (I1.newRef (ob:=.map []) ⟨[],rfl,⟨rfl,tW,by decide⟩,s1A⟩) ?_
 exact ⟨_,by rw [← I.len];exact vW,rfl⟩
theorem d6B {pos:Pos} (hsm:∃ o,B.h0.get? sysModules=some o):EOk B C Ar env .fdict0 (.Dict [] [] pos):=by
 intro Z N ρ σ m s K Q F I Fr hx P
 refine wpAny_Dict_empty ?_
 have I1:=I.push (e0A [] 0) rfl
 refine P _ _ _ ρ σ _ s.toks hx I1.freeze_ext (eW _) I1.freeze ⟨_,[],0,rfl,if_pos rfl,⟨?_,rfl,tW,by decide⟩,s1A⟩
 cases hq:s.heap.objs.size == sysModules with
 | false=>rfl
 | true=>
  obtain ⟨o,ho⟩:=hsm
  have:=iW (I.keep _ _ ho)
  rw [← beq_iff_eq.mp hq] at this
  exact absurd this (wW _)
theorem sok_setI {a i e:E} {o ix ex:Expr} {tpos pos:Pos} (hsm:∃ o,B.h0.get? sysModules=some o) (hu:Ar.units+80<cLine) (he:EOk B C Ar env e ex) (ha:EOk B C Ar env a o) (hi:EOk B C Ar env i ix) (hs:swapsWith ex (some (.Subscript o ix tpos)) pos.line env=pure false) :
  SOk B C Ar env (.setI a i e) (.Assign [.Subscript o ix tpos] ex pos):=by
 intro Z Nf N ρ σ m s K Q F I Fr O hx P
 rw [xS_setI] at hx
 refine wpAny_Assign_Subscript (he Z (Nf++N) ρ σ m s _ _ F I Fr hx ?_) hs
 intro ay vy Z1 ρ1 σ1 h1 t1 hx1 e1 p1 I1 R1
 refine ha Z1 (Nf++N) ρ1 σ1 m _ _ _ F I1 (Fr.mono e1 p1) hx1 ?_
 intro ao vo Z2 ρ2 σ2 h2 t2 hx2 e2 p2 I2 R2
 refine hi Z2 (Nf++N) ρ2 σ2 m _ _ _ F I2 ((Fr.mono e1 p1).mono e2 p2) hx2 ?_
 intro ai vi Z3 ρ3 σ3 h3 t3 hx3 e3 p3 I3 R3
 refine getE hx3 fun y hy hx3=>?_
 refine getE hx3 fun r hr hx3=>?_
 refine getE hx3 fun o' hqo hK=>?_
 refine binE hqo fun ob hq hp=>?_
 rw [i2A hy] at R1
 rw [d1C hr] at R2
 have R1:=(RepV.mono e2 R1).mono e3
 refine bc fun zZ=>?_
 obtain ⟨l,el,rfl⟩:=R2
 refine zZ ?_;clear zZ
 have el:=e5A p3 el
 have fin:∀ h' o2 tk,h'.get? l=some o2→RepO B Z3 o' o2→Heap.SameBut l h3 h'→Q .next { s with heap:=h',toks:=tk }:=fun h' o2 tk ho hr hs'=>
  P _ _ _ Z3 Nf ρ3 _ h' tk hK .next ((e1.trans e2).trans e3) ((p1.trans p2).trans p3) rfl (I3.updRef el hq (fun e=>by rw [e] at hp;exact nons hp) hs' ho hr) (((Fr.mono e1 p1).mono e2 p2).mono e3 p3)
 cases ob with
 | list xs=>
  refine binE hp fun k hk hp=>?_
  rw [e3A hk] at R3
  obtain ⟨t,rfl⟩:=R3
  by_cases h0:0≤k
  ·rw [if_pos h0] at hp
   refine bc fun zZ=>?_
   obtain ⟨q,hq',rfl⟩:=xQ.mp hp
   obtain ⟨_,o2,hg,vals,n,rfl,hs',hr'⟩:=I3.live r l _ el hq (fun e=>nomatch e)
   refine zZ ?_;clear zZ
   have hlen:=f0A hr'
   unfold idx at hq'
   rw [if_pos h0] at hq'
   by_cases hl:k<xs.length
   ·rw [if_pos hl] at hq'
    obtain rfl:=pQ hq'
    refine ki_setAt (items:=vals.toArray) (n:=n) hg h0 (by lia) (by simp;lia) ?_
    have hg':=qZ (h:=h3) (a:=l) (Obj.mapSeq fun ys=>ys.setIfInBounds k.toNat vy) hg (by rw [x2A];rfl)
    rw [x2A] at hg'
    refine fin _ _ t3 hg' ⟨_,_,rfl,by rw [List.length_set];exact hs',?_⟩ (pZ ..)
    have e5:(vals.toArray.setIfInBounds k.toNat vy).toList=vals.set k.toNat vy:=by simp
    rw [e5]
    exact a9A R1 _ hr'
   ·rw [if_neg hl] at hq';exact nons hq'
  ·rw [if_neg h0] at hp;exact nons hp
 | map kvs=>
  refine binE hp fun k hk hp=>?_
  refine binE hk fun x hx' hk=>?_
  rw [i2A hx',vK_of hk] at R3
  by_cases hc:(kFit kvs k && decide (kvs.length<2 ^ 20))=true
  ·rw [if_pos hc] at hp
   obtain rfl:=pQ hp
   refine an2 hc fun c1 c2=>?_
   refine bc fun zZ=>?_
   obtain ⟨es,n,hg,_,hK',hV,hn⟩:=w2A hsm I3 el hq rfl
   refine zZ ?_;clear zZ
   rw [hn rfl] at hg
   exact dput_ok (s:={ s with heap:=h3,toks:=t3 }) (vQ (bW (by decide) _) hu) I3.zin hg hK' hV c1 (b6A R3) R1 (of_decide_eq_true c2) fin
  ·rw [if_neg hc] at hp;exact nons hp
 | _=>exact nons hp
theorem eok_dpop {a i:E} {o ix:Expr} {apos pos:Pos} (hsm:∃ o,B.h0.get? sysModules=some o) (hu:Ar.units+80<cLine) (hns:t1A o=true) (hline:(apos.endLine == pos.line)=true) (hui:n1A ix=true) (ha:EOk B C Ar env a o) (hi:EOk B C Ar env i ix) :
  EOk B C Ar env (.dpop a i) (.Call (.Attribute o (Str.ofString "pop") apos) [ix] [] pos):=by
 intro Z N ρ σ m s K Q F I Fr hx P
 rw [xE_dpop] at hx
 rw [arm_eval_Call,x9A hns]
 refine wpAny_bind (ha Z N ρ σ m s _ _ F I Fr hx ?_)
 intro va v Z1 ρ1 σ1 h1 t1 hx1 e1 p1 I1 R1
 refine bc fun zZ=>?_
 obtain ⟨⟨r,rfl,ob,kvs0,hob,hkv0⟩,hx1⟩:=hx1
 obtain ⟨l,el,rfl⟩:=R1
 obtain ⟨es0,n0,hg0,_⟩:=w2A hsm I1 el hob hkv0
 refine zZ ?_;clear zZ
 refine wpAny_bind (wpAny_standAt ?_)
 have h:EsOk B C Ar env [i] [ix]:=.cons hi hui .nil
 refine s6A (f:=.builtin "dict.pop") (first:=[.ref l]) h.un (show (1:Nat)<30 by decide) hline (fun Q' hq pl=>?_) ?_
 ·exact getMethod_builtin (T:= "dict") ⟨_,hg0,rfl⟩ PySem.F.plainAttrs_dict PySem.F.slot_dict_pop PySem.F.type_dict_pop (fun a e=>by cases e;exact ⟨_,hg0,rfl⟩) hq
 ·refine s8A (K:=fun as σ=>get (one1 as) fun vi=>p9A σ (.ref r) vi K) h I1 (Fr.mono e1 p1) (show xEs C [i] m σ1 _ from hx1) ?_
  intro as vs Z2 ρ2 σ2 h2 t2 hl2 hx2 e2 p2 I2 R2
  refine getE hx2 fun vi hvi hx2=>?_
  rw [k1A hvi] at R2
  refine bc fun zZ=>?_
  obtain ⟨w,rfl,Ri⟩:=a4A R2
  refine zZ ?_;clear zZ
  refine getE hx2 fun r' hr' hx2=>?_
  obtain rfl:=pQ hr'
  refine getE hx2 fun kvs hkv hx2=>?_
  refine binE hkv fun ob2 hob2 hkv=>?_
  refine getE hx2 fun k hk zQ=>?_
  refine bc fun zZ=>?_
  obtain ⟨hf,hp,hx2⟩:=zQ
  refine zZ ?_;clear zZ
  refine getE hx2 fun y hy hK=>?_
  refine binE hk fun x hx' hk=>?_
  rw [i2A hx',vK_of hk] at Ri
  have el2:=e5A p2 el
  refine bc fun zZ=>?_
  obtain ⟨es,n,hg,_,hKs,hV,_⟩:=w2A hsm I2 el2 hob2 hkv
  refine zZ ?_;clear zZ
  refine dpop_ok (s:={ s with heap:=h2,toks:=t2 }) (vQ (bW (by decide) _) hu) I2.zin hg hKs hV hf hp (b6A Ri) hy fun w h' o' tk hw ho hro hs'=>?_
  exact P _ _ Z2 ρ2 _ h' tk hK (e1.trans e2) (p1.trans p2) (I2.updRef el2 hob2 (fun e=>by rw [e] at hkv;exact nons hkv) hs' ho hro) hw
inductive WhlSt (B:Bs) (env:Env) (Z:Zm) (Nf N:Led) (ρ:List Addr) (s:Shared) (L:Nat→Loc→H→Prop) (n:Nat) (s':Shared):Prop
 | mk (m':Loc) (Z':Zm) (Nf':Led) (ρ':List Addr) (σ':H) (h':Heap) (tk:Nat) (h3:s'={ s with heap:=h',toks:=tk }) (h4:Ext Z Z') (h5:ρ <+: ρ') (h6:Nf'.map (·.1)=Nf.map (·.1))
   (h8:Inv B Z' (Nf'++N) ρ' σ' h') (h9:Frm B env Z' ρ' m' (Nf'++N)) (h11:L n m' σ')
theorem sok_whl {c:E} {ex:Expr} {body:List S} {bs:List Stmt} {pos:Pos} (hc:TOk B C Ar env c ex) (hb:SsOk B C Ar env body bs):SOk B C Ar env (.whl c body) (.While ex bs [] pos):=by
 intro Z Nf N ρ σ m s K Q F I Fr O hx P
 rw [xS_whl] at hx
 obtain ⟨n,hx⟩:=hx
 refine wpAny_While (codeAny_whileLoop (WhlSt B env Z Nf N ρ s fun n m' σ'=>u1A (fun m σ K=>xT C c m σ K) (fun m σ K=>xSs C body m σ K) K n m' σ') ?_ n
   ⟨m,Z,Nf,ρ,σ,s.heap,s.toks,rfl,Ext.refl _,eW _,rfl,I,Fr,hx⟩)
 rintro n s' ⟨m',Z',Nf',ρ',σ',h',tk,rfl,e1,p1,hn,I',Fr',hx'⟩
 cases n with
 | zero=>exact (show False from hx').elim
 | succ n=>
  rw [whileN_1] at hx'
  refine hc Z' (Nf'++N) ρ' σ' m' _ _ _ _ I' Fr' hx' ?_
  intro b Z2 ρ2 σ2 h2 t2 hx2 e2 p2 I2
  cases b with
  | false=>
   rw [if_neg (fun e=>nomatch e)] at hx2
   exact wpAny_execs_nil (P _ _ _ Z2 Nf' ρ2 σ2 h2 t2 hx2 .next (e1.trans e2) (p1.trans p2) hn I2 (Fr'.mono e2 p2))
  | true=>
   rw [if_pos rfl] at hx2
   refine hb Z2 Nf' N ρ2 σ2 m' _ _ _ _ I2 (Fr'.mono e2 p2) (O.of hn) hx2 ?_
   intro fw fl m5 Z5 Nf5 ρ5 σ5 h5 t5 hx5 hf5 e5 p5 hn5 I5 F5
   have again:u1A (fun m σ K=>xT C c m σ K) (fun m σ K=>xSs C body m σ K) K n m5 σ5→∃ k,k<n+1∧WhlSt B env Z Nf N ρ s (fun n m' σ'=>u1A (fun m σ K=>xT C c m σ K) (fun m σ K=>xSs C body m σ K) K n m' σ') k { s with heap:=h5,toks:=t5 }:=fun hx5=>
    ⟨n,nZ _,m5,Z5,Nf5,ρ5,σ5,h5,t5,rfl,(e1.trans e2).trans e5,(p1.trans p2).trans p5,hn5.trans hn,I5,F5,hx5⟩
   cases hf5 with
   | next=>exact again hx5
   | cont=>exact again hx5
   | brk=>exact P _ _ _ Z5 Nf5 ρ5 σ5 h5 t5 hx5 .next ((e1.trans e2).trans e5) ((p1.trans p2).trans p5) (hn5.trans hn) I5 F5
   | ret r=>exact P _ _ _ Z5 Nf5 ρ5 σ5 h5 t5 hx5 (.ret r) ((e1.trans e2).trans e5) ((p1.trans p2).trans p5) (hn5.trans hn) I5 F5
end
end Fl
namespace Fl
open PySem PyProof.Rows PySem.W
section
variable {B:Bs} {Z:Zm} {N D D':Led} {ρ:List Addr} {σ:H} {h h':Heap}
theorem Inv.offD (I:Inv B Z (D++N) ρ σ h) {c:Addr} (hc:c∈N.map (·.1)++ρ):c∉D.map (·.1):=by
 have nd:=I.nd
 rw [z0Q,kQ,z3Q] at nd
 exact fun hd=>nd.2.2 _ hd _ hc rfl
theorem Inv.offZ (I:Inv B Z (D++N) ρ σ h) {c:Addr} {o:Obj} (hz:Z c=some o):c∉D.map (·.1):=fun hd=>by
 obtain ⟨p,hp,rfl⟩:=qQ.mp hd
 rw [(I.led p (mQ _ hp)).2] at hz;cases hz
theorem Inv.updD (I:Inv B Z (D++N) ρ σ h) (hm:D'.map (·.1)=D.map (·.1)) (hk:∀ c q,c∉D.map (·.1)→h.get? c=some q→h'.get? c=some q) (hd:∀ p∈D',h'.get? p.1=some p.2):Inv B Z (D'++N) ρ σ h' where
 base:=I.base
 zin:=fun c q e=>hk c q (I.offZ e) (I.zin c q e)
 led:=fun p hp=>by
  rcases iQ.mp hp with hp | hp
  ·have:p.1∈D.map (·.1):=hm ▸ qQ.mpr ⟨p,hp,rfl⟩
   refine bc fun zZ=>?_
   obtain ⟨q,hq,e⟩:=qQ.mp this
   refine zZ ?_;clear zZ
   exact ⟨hd p hp,by rw [← e];exact (I.led q (mQ _ hq)).2⟩
  ·have:=I.led p (gQ _ hp)
   exact ⟨hk _ _ (I.offD (mQ _ (qQ.mpr ⟨p,hp,rfl⟩))) this.1,this.2⟩
 len:=I.len
 live:=fun i a ob e1 e2 e3=>let ⟨h1,o,h2,h3⟩:=I.live i a ob e1 e2 e3;⟨h1,o,hk _ _ (I.offD (gQ _ (wQ e1))) h2,h3⟩
 rin:=fun a ha=>let ⟨o,e⟩:=I.rin a ha;⟨o,hk _ _ (I.offD (gQ _ ha)) e⟩
 nd:=by have:=I.nd;rw [z0Q] at this ⊢;rw [hm];exact this
theorem Inv.dropD (I:Inv B Z (D++N) ρ σ h) (hk:∀ c q,c∉D.map (·.1)→h.get? c=some q→h'.get? c=some q):Inv B Z N ρ σ h' where
 base:=I.base
 zin:=fun c q e=>hk c q (I.offZ e) (I.zin c q e)
 led:=fun p hp=>by
  have:=I.led p (gQ _ hp)
  exact ⟨hk _ _ (I.offD (mQ _ (qQ.mpr ⟨p,hp,rfl⟩))) this.1,this.2⟩
 len:=I.len
 live:=fun i a ob e1 e2 e3=>let ⟨h1,o,h2,h3⟩:=I.live i a ob e1 e2 e3;⟨h1,o,hk _ _ (I.offD (gQ _ (wQ e1))) h2,h3⟩
 rin:=fun a ha=>let ⟨o,e⟩:=I.rin a ha;⟨o,hk _ _ (I.offD (gQ _ ha)) e⟩
 nd:=by have:=I.nd;rw [z0Q,kQ,z3Q] at this;exact this.2.1
theorem Inv.addD (I:Inv B Z N ρ σ h) (hk:∀ c q,h.get? c=some q→h'.get? c=some q) (hd:∀ p∈D,h'.get? p.1=some p.2∧h.objs.size≤p.1) (hn:(D.map (·.1)).Nodup):Inv B Z (D++N) ρ σ h':=I.keepsMany hk hd hn
theorem pmid (D Nf N:Led):(D++(Nf++N)).Perm (Nf++(D++N)):=by
 rw [← kQ,← kQ]
 exact List.Perm.append_right _ z9Q
end
noncomputable def isIt (o:Obj) (l:Addr) (i:Nat):Prop:=o.cls=.type "list_iterator" ∧o.data=.fields #[.ref l,.int (i:Nat) 0]
section
variable {B:Bs} {C:a0A} {Ar:Around} {env:Env} {F:Value→Shared→Prop}
structure PIt (B:Bs) (Ar:Around) (Z1:Zm) (ρ1:List Addr) {β:Type} (its:List β) (fx fy:β→V) (it:Addr) (tg:Expr) (Dst:Nat→Led→Prop) (ok:H→Prop):Prop where
 no:∀ i D,Dst i D→∀ p∈D,(∀ es ep,p.2.data≠.dict es ep)∧∀ v,p.2.data≠.cell v
 nxt:∀ i D Z N ρ σ (s:Shared) (Q:Option Value→Shared→Prop) (F:Value→Shared→Prop),Dst i D→ok σ→Ext Z1 Z→ρ1 <+: ρ→Inv B Z (D++N) ρ σ s.heap→
  (its.length≤i→∀ h3,Inv B Z N ρ σ h3→Q none { s with heap:=h3 })→
  (∀ b T w1 w2 D' h3 tk,its[i]?=some b→RepV B Z (fx b) w1→RepV B Z (fy b) w2→Dst (i+1) D'→
   (∀ (Q':Unit→Shared→Prop) (F':Value→Shared→Prop),(∀ h4,h4.IsTuple T #[w1,w2]→Inv B Z (D'++N) ρ σ h4→Q' () { s with heap:=h4,toks:=tk })→wpAny (model B.prog B.w) Ar (letOwnedTupleGo tg (.ref it) (.ref T)) Q' F' { s with heap:=h3,toks:=tk })→Q (some (.ref T)) { s with heap:=h3,toks:=tk })→
  wpAny (model B.prog B.w) Ar (pyNext (.ref it)) Q F s
inductive PrSt {β:Type} (B:Bs) (env:Env) (its:List β) (Z1:Zm) (Nf N:Led) (ρ1:List Addr) (Dst:Nat→Led→Prop) (ok:H→Prop) (s:Shared) (L:List β→Loc→H→Prop) (n:Nat) (s':Shared):Prop
 | mk (i:Nat) (m':Loc) (Z':Zm) (Nf' D:Led) (ρ':List Addr) (σ':H) (h':Heap) (tk:Nat) (h1:n=its.length+1 - i) (h3:s'={ s with heap:=h',toks:=tk }) (h4:Ext Z1 Z') (h5:ρ1 <+: ρ') (h6:Nf'.map (·.1)=Nf.map (·.1))
   (h7:Dst i D) (h8:Inv B Z' (D++(Nf'++N)) ρ' σ' h') (h9:Frm B env Z' ρ' m' (Nf'++N)) (h10:ok σ') (h11:L (its.drop i) m' σ')
theorem x7B {β:Type} {its:List β} {fx fy:β→V} {it:Addr} {Dst:Nat→Led→Prop} {ok:H→Prop} {sty:H→Prop} {x y:String} {body:List S} {bs:List Stmt} {px py pt:Pos} {x1:Nat} {Z1 Nf N ρ1 σ1} {m:Loc} {s:Shared} {h2:Heap} {t1:Nat} {D0:Led} {K:Fw→Loc→H→Prop} {R:Result→Shared→Prop} (hh:Ar.handled=none) (hkx:stK (env.kindOf (Str.ofString x))=true) (hky:stK (env.kindOf (Str.ofString y))=true) (hb:SsOk B C Ar env body bs) (OF:OwnF Nf env)
  (W:PIt B Ar Z1 ρ1 its fx fy it (.Tuple [.Name (Str.ofString x) px,.Name (Str.ofString y) py] x1 pt) Dst ok) (hok:∀ σ σ',ok σ→sty σ'→ok σ') (ok1:ok σ1) (hD0:Dst 0 D0)
  (I2:Inv B Z1 (D0++(Nf++N)) ρ1 σ1 h2) (Fr:Frm B env Z1 ρ1 m (Nf++N))
  (hx1:forLoop (fun p m=>some (st (st m x (.v (fx p))) y (.v (fy p)))) (fun m σ K=>xSs C body m σ K) sty its m σ1 K)
  (P:∀ fw fl m' Z' Nf' ρ' σ' h' tk,K fw m' σ'→RepF B Z' ρ' fw fl→Ext Z1 Z'→ρ1 <+: ρ'→Nf'.map (·.1)=Nf.map (·.1)→Inv B Z' (Nf'++N) ρ' σ' h'→Frm B env Z' ρ' m' (Nf'++N)→R (.ok fl) { s with heap:=h',toks:=tk }) :
  codeAny (model B.prog B.w) Ar (.forLoop (.Tuple [.Name (Str.ofString x) px,.Name (Str.ofString y) py] x1 pt) (.ref it) bs [] env) R { s with heap:=h2,toks:=t1 }:=by
 refine codeAny_forLoop_any (PrSt B env its Z1 Nf N ρ1 Dst ok s fun L m' σ'=>forLoop (fun p m=>some (st (st m x (.v (fx p))) y (.v (fy p)))) (fun m σ K=>xSs C body m σ K) sty L m' σ' K) ?_ (its.length+1)
  ⟨0,m,Z1,Nf,D0,ρ1,σ1,h2,t1,rfl,rfl,Ext.refl _,eW _,rfl,hD0,I2,Fr,ok1,hx1⟩
 rintro n s' ⟨i,m',Z',Nf',D,ρ',σ',h',tk,rfl,rfl,e2,p2,hn,j1,I',Fr',hi',hx'⟩
 refine W.nxt i D Z' (Nf'++N) ρ' σ' _ _ _ j1 hi' e2 p2 I' (fun hge h3 I4=>?_) (fun b T w1 w2 D' h3 tk3 hy hrw1 hrw2 k1 go=>?_)
 ·rw [List.drop_eq_nil_of_le hge,f1B] at hx'
  exact wpAny_execs_nil (P _ _ _ Z' Nf' ρ' σ' h3 tk hx' .next e2 p2 hn I4 Fr')
 ·refine go _ _ fun h4 ht4 I4=>?_
  have hlt2:i<its.length:=(jQ.mp hy).1
  have hdrop:its.drop i=b::its.drop (i+1):=by
   rw [sW hlt2]
   congr 1
   rw [nQ hlt2] at hy
   exact pQ hy
  rw [hdrop,e1B] at hx'
  refine c1C (a:=.v (fx b)) (b:=.v (fy b)) (Nf:=Nf') (N:=D'++N) hh ht4 (I4.perm (pmid _ _ _).symm) (Fr'.mem (fun p hp=>?_)) hrw1 hrw2 hkx hky (OF.of hn).loc (fun z _=>(OF.of hn).cel _) ?_
  ·rcases iQ.mp hp with hp | hp
   ·exact mQ _ hp
   ·exact gQ _ (gQ _ hp)
  intro Nf7 h7 t7 hn7 I7 F7
  refine hb Z' Nf7 _ ρ' σ' _ _ _ _ _ I7 F7 (OF.of (hn7.trans hn)) hx' ?_
  intro fw fl m8 Z8 Nf8 ρ8 σ8 h8 t8 hx8 hf8 e8 p8 hn8 I8 F8
  have F8':=F8.drop2 (W.no _ _ k1)
  have I8':=I8.perm (pmid D' Nf8 N)
  have hnn:Nf8.map (·.1)=Nf.map (·.1):=hn8.trans (hn7.trans hn)
  have out:Inv B Z8 (Nf8++N) ρ8 σ8 h8:=I8'.dropD fun _ _ _ e=>e
  have lt:its.length+1 - (i+1)<its.length+1 - i:=x20 (by lia)
  cases hf8 with
  | next=>exact ⟨_,lt,i+1,m8,Z8,Nf8,D',ρ8,σ8,h8,t8,rfl,rfl,e2.trans e8,p2.trans p8,hnn,k1,I8',F8',hok _ _ hi' hx8.1,hx8.2⟩
  | cont=>exact ⟨_,lt,i+1,m8,Z8,Nf8,D',ρ8,σ8,h8,t8,rfl,rfl,e2.trans e8,p2.trans p8,hnn,k1,I8',F8',hok _ _ hi' hx8.1,hx8.2⟩
  | brk=>exact P _ _ _ Z8 Nf8 ρ8 σ8 h8 t8 hx8 .next (e2.trans e8) (p2.trans p8) hnn out F8'
  | ret r=>exact P _ _ _ Z8 Nf8 ρ8 σ8 h8 t8 hx8 (.ret r) (e2.trans e8) (p2.trans p8) hnn out F8'
noncomputable def enO (it:Addr) (i:Int) (old:Value):Obj:={ cls:=.type "enumerate", dict:=none,data:=.fields #[.none,.bool false,.ref it,rawInt i,.none,old],slots:=#[] }
theorem en_it {Z1 ρ1} {a:A} {its:List V} {l ee it:Addr} {tg:List Expr} {kt:Nat} {pt:Pos} (hh:Ar.handled=none) (hne:ee≠it) (R:RepA B Z1 ρ1 a (.ref l)) :
  PIt B Ar Z1 ρ1 its.zipIdx (fun p:V×Nat=>.int p.2) (fun p=>p.1) ee (.Tuple tg kt pt) (fun i D=>∃ old oi,D=[(ee,enO it i old),(it,oi)]∧isIt oi l i) (fun σ=>y0A σ a=some its) where
 no:=by
  rintro i D ⟨old,oi,rfl,h1⟩ p hp
  simp only [lQ,pW,or_false] at hp
  rcases hp with rfl | rfl
  ·exact ⟨fun _ _ e=>(nomatch e),fun _ e=>(nomatch e)⟩
  ·exact ⟨fun _ _ e=>(nomatch h1.2.symm.trans e),fun _ e=>(nomatch h1.2.symm.trans e)⟩
 nxt:=by
  rintro i D Z N ρ σ s Q F ⟨old,oi,rfl,hic,hid⟩ hi e2 p2 I hend hit
  refine bc fun zZ=>?_
  obtain ⟨l',vals,nn,el,hg,hlt,hr⟩:=b1A I (R.mono e2 p2) hi
  refine zZ ?_;clear zZ
  cases el
  have hen:IsEnum s.heap ee it i old:=(I.led _ aQ).1
  have hoi:s.heap.get? it=some oi:=(I.led (it,oi) (bQ _ aQ)).1
  have hlen:=f0A hr
  have off:∀ {c:Addr},c∉[ee,it]→c≠ee∧c≠it:=fun {c} h=>by
   simp only [lQ,pW,or_false,not_or] at h;exact h
  cases hy:its[i]? with
  | none=>
   have hge:its.length≤i:=by rwa [dZ] at hy
   refine wpAny_pyNext_enum_end hh hen ⟨oi,hoi,hic,hid⟩ (i0A hg) (by rw [Array.getElem?_eq_none_iff,z4W,hlen];exact hge) fun h3 hx3=>hend (by rw [List.length_zipIdx];exact hge) h3 ?_
   exact I.dropD fun c q hc' e=>hx3 c q (off hc').2 e
  | some z=>
   refine bc fun zZ=>?_
   obtain ⟨w,hw,hrw⟩:=a1A hr hy
   refine zZ ?_;clear zZ
   refine wpAny_pyNext_enum_item (x:=w) hen ⟨oi,hoi,hic,hid⟩ (i0A hg) (by simpa using hw) hne fun h3 ho3 hit3 ht3 hz3 hk3=>?_
   refine bc fun zZ=>?_
   obtain ⟨oi3,hoi3,hic3,hid3⟩:=hit3
   refine zZ ?_;clear zZ
   refine hit (z,i) s.heap.objs.size (.int i s.toks) w [(ee,enO it ((i+1:Nat):Int) w),(it,oi3)] h3 _ (by rw [List.getElem?_zipIdx,hy];simp) ⟨_,rfl⟩ hrw ⟨w,oi3,rfl,hic3,hid3⟩ fun Q' F' hq=>?_
   refine wpAny_letOwnedTupleGo_enum ho3 fun h4 he4 hs4=>hq h4 ?_ ?_
   ·exact ⟨_,(hs4.2 _ (Nat.ne_of_gt (iW hen))).trans ht3,rfl,_,rfl⟩
   ·refine I.updD rfl (fun c q hc' e=>?_) fun p hp=>?_
    ·obtain ⟨c1,c2⟩:=off hc'
     exact (hs4.2 c c1).trans (hk3 c q c1 c2 e)
    ·simp only [lQ,pW,or_false] at hp
     rcases hp with rfl | rfl
     ·exact he4
     ·exact (hs4.2 _ hne.symm).trans hoi3
theorem z1B {x y:String} {e:E} {ex:Expr} {body:List S} {bs:List Stmt} {p px py pt pc pos:Pos} {x1} (O:BOk B) (hh:Ar.handled=none) (hkE:env.kindOf (Str.ofString "enumerate")=some .globalImplicit) (hkx:stK (env.kindOf (Str.ofString x))=true) (hky:stK (env.kindOf (Str.ofString y))=true)
  (hu:n1A ex=true) (he:EOk B C Ar env e ex) (hb:SsOk B C Ar env body bs) :
  SOk B C Ar env (.forEnum x y e body) (.For (.Tuple [.Name (Str.ofString x) px,.Name (Str.ofString y) py] x1 pt) (.Call (.Name (Str.ofString "enumerate") p) [ex] [] pc) bs [] pos):=by
 intro Z Nf N ρ σ m s K Q F I Fr OF hx P
 rw [xS_forEnum] at hx
 have hE:EsOk B C Ar env [e] [ex]:=.cons he hu .nil
 refine wpAny_For (s1B (K:=fun as σ=>get (one1 as) fun a=>get (y0A σ a) fun its=>
   forLoop (fun (p:V×Nat) m=>some (st (st m x (.v (.int p.2))) y (.v p.1))) (fun m σ K=>xSs C body m σ K) (fun σ'=>Stay σ' a (objA σ a)) its.zipIdx m σ K) (O.at "enumerate" (.type "enumerate") rfl) hkE (by decide +kernel) (.inr ⟨_,rfl⟩) hE I Fr (show xEs C [e] m σ _ from hx) ?_) (fun _=>rfl)
 intro as vs Z1 ρ1 σ1 h1 t1 hl hx1 e1 p1 I1 R1
 refine bc fun zZ=>?_
 obtain ⟨a,rfl⟩:=cJ.mp hl
 obtain ⟨v,rfl,R⟩:=a4A R1
 refine zZ ?_;clear zZ
 have hx1:get (y0A σ1 a) fun its=>forLoop (fun (p:V×Nat) m=>some (st (st m x (.v (.int p.2))) y (.v p.1))) (fun m σ K=>xSs C body m σ K) (fun σ'=>Stay σ' a (objA σ1 a)) its.zipIdx m σ1 K:=hx1
 refine getE hx1 fun its hi hx1=>?_
 refine bc fun zZ=>?_
 obtain ⟨l,vals,n,rfl,hg,hlt,hr⟩:=b1A I1 R hi
 refine zZ ?_;clear zZ
 refine call_enumerate_list (i0A hg) ?_
 intro h2 hen hli hsz hk2
 refine bc fun zZ=>?_
 obtain ⟨oi,hoi,hoc,hod⟩:=hli
 refine zZ ?_;clear zZ
 refine wpAny_pyIter_enum hen ?_
 have hne:h1.objs.size+1≠h1.objs.size:=Nat.succ_ne_self _
 have I2:Inv B Z1 ([(h1.objs.size+1,enO h1.objs.size ((0:Nat):Int) .none),(h1.objs.size,oi)]++(Nf++N)) ρ1 σ1 h2:=I1.addD hk2 (fun p hp=>by
  simp only [lQ,pW,or_false] at hp
  rcases hp with rfl | rfl
  ·exact ⟨hen,Nat.le_succ _⟩
  ·exact ⟨hoi,uQ _⟩) (by simp)
 exact x7B (s:=s) hh hkx hky hb OF (en_it hh hne R) (fun σ σ' _ h=>(r4A h).trans hi) hi ⟨.none,oi,rfl,hoc,hod⟩ I2 (Fr.mono e1 p1) hx1 fun fw fl m' Z' Nf' ρ' σ' h' tk hk hf e p hn I' F'=>P fw fl m' Z' Nf' ρ' σ' h' tk hk hf (e1.trans e) (p1.trans p) hn I' F'
end
end Fl
namespace Fl
open PySem PyProof.Rows PySem.W
noncomputable def zipO (TI TO:Addr) (f0:Value):Obj:={ cls:=.type "zip", dict:=none,data:=.fields #[f0,.bool false,.bool false,.ref TI,.ref TO],slots:=#[] }
noncomputable def t5B (a b:Value):Obj:={ cls:=.type "tuple", data:=.seq #[a,b] }
noncomputable def zpD (z TI TO i1 i2:Addr) (f0 u v:Value) (o1 o2:Obj):Led:=[(z,zipO TI TO f0),(TO,t5B u v),(i1,o1),(i2,o2),(TI,t5B (.ref i1) (.ref i2))]
theorem b3B (z TI TO i1 i2:Addr) (f0 u v:Value) (o1 o2:Obj):(zpD z TI TO i1 i2 f0 u v o1 o2).map (·.1)=[z,TO,i1,i2,TI]:=rfl
theorem c3B {z TI TO i1 i2:Addr} {f0 u v:Value} {o1 o2:Obj} {P:Addr×Obj→Prop} (h1:P (z,zipO TI TO f0)) (h2:P (TO,t5B u v)) (h3:P (i1,o1)) (h4:P (i2,o2)) (h5:P (TI,t5B (.ref i1) (.ref i2))):∀ p∈zpD z TI TO i1 i2 f0 u v o1 o2,P p:=by
 intro p hp
 simp only [zpD,lQ,pW,or_false] at hp
 rcases hp with rfl | rfl | rfl | rfl | rfl <;> assumption
theorem nd5 (n:Nat):[n+4,n+3,n,n+1,n+2].Nodup:=by
 simp only [rQ,lQ,pW,or_false,not_false_eq_true,tW,and_true]
 lia
theorem k6B {z TI TO i1 i2 c:Addr} (h:c∉[z,TO,i1,i2,TI]):c≠z∧c≠TO∧c≠i1∧c≠i2:=by
 simp only [lQ,pW,or_false,not_or] at h
 exact ⟨h.1,h.2.1,h.2.2.1,h.2.2.2.1⟩
section
variable {B:Bs} {C:a0A} {Ar:Around} {env:Env} {F:Value→Shared→Prop}
theorem zp_it {Z1 ρ1} {a a':A} {its its':List V} {l l' z TI TO i1 i2:Addr} {tg:List Expr} {kt:Nat} {pt:Pos} (hh:Ar.handled=none) (D:ZipApart z TI TO i1 i2 l l') (R:RepA B Z1 ρ1 a (.ref l)) (R':RepA B Z1 ρ1 a' (.ref l')) :
  PIt B Ar Z1 ρ1 (its.zip its') (fun p:V×V=>p.1) (fun p=>p.2) z (.Tuple tg kt pt) (fun i D=>∃ u v o1 o2,D=zpD z TI TO i1 i2 .none u v o1 o2∧isIt o1 l i∧isIt o2 l' i) (fun σ=>y0A σ a=some its∧y0A σ a'=some its') where
 no:=by
  rintro i D ⟨u,v,o1,o2,rfl,h1,h2⟩
  refine c3B ?_ ?_ ?_ ?_ ?_
  ·exact ⟨fun _ _ e=>(nomatch e),fun _ e=>(nomatch e)⟩
  ·exact ⟨fun _ _ e=>(nomatch e),fun _ e=>(nomatch e)⟩
  ·exact ⟨fun _ _ e=>(nomatch h1.2.symm.trans e),fun _ e=>(nomatch h1.2.symm.trans e)⟩
  ·exact ⟨fun _ _ e=>(nomatch h2.2.symm.trans e),fun _ e=>(nomatch h2.2.symm.trans e)⟩
  ·exact ⟨fun _ _ e=>(nomatch e),fun _ e=>(nomatch e)⟩
 nxt:=by
  rintro i D0 Z N ρ σ s Q F ⟨u,v,o1,o2,rfl,⟨hc1,hd1⟩,⟨hc2,hd2⟩⟩ ⟨hi,hi'⟩ e2 p2 I hend hit
  refine bc fun zZ=>?_
  obtain ⟨l0,vals,nn,el,hg,hlt,hr⟩:=b1A I (R.mono e2 p2) hi
  refine zZ ?_;clear zZ
  cases el
  refine bc fun zZ=>?_
  obtain ⟨l0',vals',nn',el,hg',hlt',hr'⟩:=b1A I (R'.mono e2 p2) hi'
  refine zZ ?_;clear zZ
  cases el
  have at':∀ p∈zpD z TI TO i1 i2 .none u v o1 o2,s.heap.get? p.1=some p.2:=fun p hp=>(I.led p (mQ _ hp)).1
  have hz:IsZip s.heap z TI TO .none:=at' _ aQ
  have hTO:IsPair s.heap TO u v:=at' (TO,t5B u v) (bQ _ aQ)
  have ho1:s.heap.get? i1=some o1:=at' (i1,o1) (bQ _ (bQ _ aQ))
  have ho2:s.heap.get? i2=some o2:=at' (i2,o2) (bQ _ (bQ _ (bQ _ aQ)))
  have hTI:IsPair s.heap TI (.ref i1) (.ref i2):=at' (TI,t5B (.ref i1) (.ref i2)) (bQ _ (bQ _ (bQ _ (bQ _ aQ))))
  clear at'
  have hlen:=f0A hr
  have hlen':=f0A hr'
  cases hy:(its.zip its')[i]? with
  | none=>
   have hge:(its.zip its').length≤i:=by rwa [dZ] at hy
   have hnone:vals.toArray[i]?=none∨vals'.toArray[i]?=none:=by
    rw [List.length_zip] at hge
    rcases Nat.le_total its.length its'.length with q | q
    ·exact .inl (by rw [Array.getElem?_eq_none_iff,z4W,hlen,← jZ q];exact hge)
    ·exact .inr (by rw [Array.getElem?_eq_none_iff,z4W,hlen',← Nat.min_eq_right q];exact hge)
   refine wpAny_pyNext_zip_end hh D hz hTI hTO ⟨o1,ho1,hc1,hd1⟩ ⟨o2,ho2,hc2,hd2⟩ (i0A hg) (i0A hg') hnone fun h3 hx3=>hend hge h3 ?_
   exact I.dropD fun c q hc=>by
    rw [b3B] at hc
    refine bc fun zZ=>?_
    obtain ⟨c1,c2,c3,c4⟩:=k6B hc
    refine zZ ?_;clear zZ
    exact hx3 c q c1 c2 c3 c4
  | some b=>
   refine bc fun zZ=>?_
   obtain ⟨b1,b2⟩:=b
   obtain ⟨hy1,hy2⟩:=List.getElem?_zip_eq_some.mp hy
   obtain ⟨w1,hw1,hrw1⟩:=a1A hr hy1
   obtain ⟨w2,hw2,hrw2⟩:=a1A hr' hy2
   refine zZ ?_;clear zZ
   refine wpAny_pyNext_zip_item (x:=w1) (y:=w2) D hz hTI hTO ⟨o1,ho1,hc1,hd1⟩ ⟨o2,ho2,hc2,hd2⟩ (i0A hg) (i0A hg') (by simpa using hw1) (by simpa using hw2) fun h3 hz3 hTO3 hi13 hi23 hT3 hsz3 hk3=>?_
   refine bc fun zZ=>?_
   obtain ⟨p1,hp1,hpc1,hpd1⟩:=hi13
   obtain ⟨p2,hp2,hpc2,hpd2⟩:=hi23
   refine zZ ?_;clear zZ
   have hTI3:=hk3 _ _ D.TIz D.TITO D.TIi1 D.TIi2 hTI
   have I3:Inv B Z (zpD z TI TO i1 i2 (rawInt s.heap.objs.size) w1 w2 p1 p2++N) ρ σ h3:=I.updD rfl (fun c q hc=>by
    rw [b3B] at hc
    refine bc fun zZ=>?_
    obtain ⟨c1,c2,c3,c4⟩:=k6B hc
    refine zZ ?_;clear zZ
    exact hk3 c q c1 c2 c3 c4) (c3B hz3 hTO3 hp1 hp2 hTI3)
   refine hit (b1,b2) _ w1 w2 _ h3 s.toks hy hrw1 hrw2 ⟨w1,w2,p1,p2,rfl,⟨hpc1,hpd1⟩,⟨hpc2,hpd2⟩⟩ fun Q' F' hq=>?_
   refine wpAny_letOwnedTupleGo_zip hz3 fun h4 hz4 hs4=>hq h4 ?_ ?_
   ·exact ⟨_,(hs4.2 _ (Nat.ne_of_gt (iW hz))).trans hT3,rfl,_,rfl⟩
   ·exact I3.updD rfl (fun c q hc=>by
     rw [b3B] at hc
     obtain ⟨c1,_⟩:=k6B hc
     exact fun e=>(hs4.2 c c1).trans e) (c3B hz4 ((hs4.2 _ D.TOz).trans hTO3) ((hs4.2 _ D.i1z).trans hp1) ((hs4.2 _ D.i2z).trans hp2) ((hs4.2 _ D.TIz).trans hTI3))
theorem p5B {x y:String} {e e':E} {ex ex':Expr} {body:List S} {bs:List Stmt} {p px py pt pc pos:Pos} {x1} (O:BOk B) (hh:Ar.handled=none) (hkE:env.kindOf (Str.ofString "zip")=some .globalImplicit) (hkx:stK (env.kindOf (Str.ofString x))=true) (hky:stK (env.kindOf (Str.ofString y))=true)
  (hE:EsOk B C Ar env [e,e'] [ex,ex']) (hb:SsOk B C Ar env body bs) :
  SOk B C Ar env (.forZip x y e e' body) (.For (.Tuple [.Name (Str.ofString x) px,.Name (Str.ofString y) py] x1 pt) (.Call (.Name (Str.ofString "zip") p) [ex,ex'] [] pc) bs [] pos):=by
 intro Z Nf N ρ σ m s K Q F I Fr OF hx P
 rw [xS_forZip] at hx
 refine wpAny_For (s1B (K:=fun as σ=>get (two2 as) fun q=>get (y0A σ q.1) fun its=>get (y0A σ q.2) fun its'=>
   forLoop (fun (p:V×V) m=>some (st (st m x (.v p.1)) y (.v p.2))) (fun m σ K=>xSs C body m σ K) (fun σ'=>Stay σ' q.1 (objA σ q.1)∧Stay σ' q.2 (objA σ q.2)) (its.zip its') m σ K) (O.at "zip" (.type "zip") rfl) hkE (by decide +kernel) (.inr ⟨_,rfl⟩) hE I Fr (show xEs C [e,e'] m σ _ from hx) ?_) (fun _=>rfl)
 intro as vs Z1 ρ1 σ1 h1 t1 hl hx1 e1 p1 I1 R1
 refine bc fun zZ=>?_
 obtain ⟨⟨a,a'⟩,hq,hx2⟩:=u9B hx1
 refine zZ ?_;clear zZ
 clear hx1
 have hx1:=hx2
 clear hx2
 obtain rfl:=m2A hq
 refine bc fun zZ=>?_
 obtain ⟨v,v',rfl,R,R'⟩:=reps2 R1
 refine zZ ?_;clear zZ
 refine getE hx1 fun its hi hx1=>?_
 refine getE hx1 fun its' hi' hx1=>?_
 simp only at R R' hi hi' hx1
 refine bc fun zZ=>?_
 obtain ⟨l,vals,n,rfl,hg,hlt,hr⟩:=b1A I1 R hi
 obtain ⟨l',vals',n',rfl,hg',hlt',hr'⟩:=b1A I1 R' hi'
 refine zZ ?_;clear zZ
 refine call_zip_2 (i0A hg) (i0A hg') ?_
 intro h2 hz hTI hTO hi1 hi2 hsz hk2
 refine bc fun zZ=>?_
 obtain ⟨o1,ho1,hc1,hd1⟩:=hi1
 obtain ⟨o2,ho2,hc2,hd2⟩:=hi2
 refine zZ ?_;clear zZ
 have D:=zipApart_new (n:=h1.objs.size) (l1:=l) (l2:=l') (iW hg) (iW hg')
 refine wpAny_pyIter_zip hz ?_
 have I2:Inv B Z1 (zpD (h1.objs.size+4) (h1.objs.size+2) (h1.objs.size+3) h1.objs.size (h1.objs.size+1) .none .none .none o1 o2++(Nf++N)) ρ1 σ1 h2:=by
  refine I1.addD hk2 (c3B ⟨hz,by lia⟩ ⟨hTO,by lia⟩ ⟨ho1,uQ _⟩ ⟨ho2,by lia⟩ ⟨hTI,by lia⟩) ?_
  rw [b3B]
  exact nd5 h1.objs.size
 exact x7B (s:=s) hh hkx hky hb OF (zp_it hh D R R') (fun σ σ' _ h=>⟨(r4A h.1).trans hi,(r4A h.2).trans hi'⟩) ⟨hi,hi'⟩ ⟨_,_,o1,o2,rfl,⟨hc1,hd1⟩,⟨hc2,hd2⟩⟩ I2 (Fr.mono e1 p1) hx1 fun fw fl m' Z' Nf' ρ' σ' h' tk hk hf e p hn I' F'=>P fw fl m' Z' Nf' ρ' σ' h' tk hk hf (e1.trans e) (p1.trans p) hn I' F'
end
end Fl
namespace Fl
open PySem PyProof.Rows
set_option maxRecDepth 100000
theorem p8B:typeLookup (.type "list_reverseiterator") "__len__" = pure none:=by rw [typeLookup_type,builtinLookup_eq_fast];kernel_rfl
theorem lri_hint:typeLookup (.type "list_reverseiterator") "__length_hint__" = pure (some (.builtin "list_reverseiterator.__length_hint__")):=by rw [typeLookup_type,builtinLookup_eq_fast];kernel_rfl
section
variable {prog:Program} {w:World} {A:Around} {E:Value→Shared→Prop} {s:Shared}
theorem hint_lri {r:Addr} {Q:Bool→Shared→Prop} (hT:s.TypeIs (.ref r) "list_reverseiterator") (h:Q false s):wpAny (model prog w) A (Builtin.List.listLengthHint (.ref r)) Q E s:=by
 unfold Builtin.List.listLengthHint
 refine wpAny_bind (wpAny_specialOf hT p8B ?_)
 show wpAny _ A (specialOf (Value.ref r) (Str.ofString "__length_hint__") >>= _) _ _ _
 refine wpAny_bind (wpAny_specialOf hT lri_hint ?_)
 generalize hid:("list_reverseiterator.__length_hint__" : String)=id0
 wp_delta
 rw [show splitId id0=some ("list_reverseiterator", "__length_hint__") from by subst hid;decide +kernel]
 subst hid
 refine wpAny_bind (wpAny_isInstance (b:=true) hT (by rw [isSubtype_type];kernel_rfl) ?_)
 exact wpAny_pure h
noncomputable abbrev RevAt (items:Array Value) (acc:Array Value):Prop:=ItemsOf (fun i v=>items[items.size - 1 - i]?=some v) acc items.size
theorem ext_rev {R:Result→Shared→Prop} {J l:Addr} {items:Array Value} (hh:A.handled=none) (hJ:s.heap.IsRevIter J l ((items.size:Int) - 1)) (hl:s.heap.IsList l items) (hne:l≠J) (hn:items.size≤sizeLine)
  (S:Addr) (hSJ:S≠J) (hSl:S≠l) (res:Value) (c₀:Nat) (hS:s.heap.get? S=some { cls:=.type "list", data:=.seq #[] c₀ })
  (hR:∀ h' tk acc' c',(∀ b o,b≠S→b≠J→s.heap.get? b=some o→h'.get? b=some o)→h'.get? S=some { cls:=.type "list", dict:=none,data:=.seq acc' c',slots:=#[] }→RevAt items acc'→R (.ok (.ret res)) { s with heap:=h',toks:=tk }) :
  wpAny (model prog w) A.in1 (Builtin.List.listExtendWith (.ref S) (.ref J) res)
   (fun fin s'=>match fin with | .done f=>R (.ok f) s' | .again c'=>c'.quiet=true∧codeAny (model prog w) A c' R s') (fun e s'=>R (.error e) s') s:=by
 have W:=Walks.listRev (prog:=prog) (w:=w) (A:=A.in1) hh J l hne items
 have hSf:S∉[J,l]:=by simp only [lQ,pW,or_false,not_or];exact ⟨hSJ,hSl⟩
 have hJ0:s.heap.IsRevIter J l ((items.size:Int) - 1 - ((0:Nat):Int)):=by simpa using hJ
 unfold Builtin.List.listExtendWith
 refine wpAny_bind (wpAny_typeOf (T:= "list_reverseiterator") hJ.typeIs ?_)
 have h1:Builtin.List.listSameRef (.ref S) (.ref J)=false:=by simp [Builtin.List.listSameRef,hSJ]
 rw [if_neg (by rw [h1];decide)]
 refine wpAny_bind (wpAny_pyIter_revIter hJ ?_)
 refine wpAny_bind (wpAny_holding (hint_lri hJ.typeIs ?_))
 rw [if_neg (by decide)]
 refine wpAny_pure ⟨plainId_quiet PySem.F.plain_extend_loop _,codeAny_extend_loopS W.toS hn S hSf res items.size 0 _ #[] c₀ rfl (sQ _) ⟨sQ _,hJ0,hl⟩ hS (ItemsOf.nil _) fun s' acc' c' hm hS' hacc=>?_⟩
 rw [Moved.eq_with hm]
 refine hR s'.heap s'.toks acc' c' (fun b o hb hbJ e=>hm.heap b o (fun hmem=>?_) e) hS' hacc
 rcases lQ.mp hmem with e' | hmem
 ·exact hb e'
 ·exact hbJ (cQ.mp hmem)
theorem init_rev {R:Result→Shared→Prop} {J l:Addr} {items:Array Value} (hh:A.handled=none) (hJ:s.heap.IsRevIter J l ((items.size:Int) - 1)) (hl:s.heap.IsList l items) (hne:l≠J) (hn:items.size≤sizeLine)
  (S:Addr) (hSJ:S≠J) (hSl:S≠l) (hS:s.heap.get? S=some { cls:=.type "list", data:=.seq #[] })
  (hR:∀ h' tk acc' c',(∀ b o,b≠S→b≠J→s.heap.get? b=some o→h'.get? b=some o)→h'.get? S=some { cls:=.type "list", dict:=none,data:=.seq acc' c',slots:=#[] }→RevAt items acc'→R (.ok (.ret .none)) { s with heap:=h',toks:=tk }) :
  wpAny (model prog w) A.in1 (Builtin.«list.__init__» ⟨[.ref S,.ref J],[]⟩)
   (fun fin s'=>match fin with | .done f=>R (.ok f) s' | .again c'=>c'.quiet=true∧codeAny (model prog w) A c' R s') (fun e s'=>R (.error e) s') s:=by
 show wpAny _ _ (do let old ← Builtin.List.listItems (.ref S);Builtin.List.listUpdate (.ref S) (fun _=>#[]);letGo old.toList.reverse;Builtin.List.listExtendWith (.ref S) (.ref J) .none) _ _ s
 refine wpAny_bind ?_
 unfold Builtin.List.listItems
 refine wpAny_bind (wpAny_seqItems hS rfl (wpAny_pure ?_))
 show wpAny _ _ (updateSeq S (fun _=>#[]) >>= fun _=>letGo (#[]:Array Value).toList.reverse >>= fun _=>Builtin.List.listExtendWith (.ref S) (.ref J) .none) _ _ s
 refine wpAny_bind (wpAny_updateSeq hS rfl ?_)
 have hS₂:=qZ (Obj.mapSeq (fun _=>(#[]:Array Value))) hS rfl
 have oth:∀ b o,b≠S→s.heap.get? b=some o→(s.heap.update S (Obj.mapSeq (fun _=>(#[]:Array Value)))).get? b=some o:=
  fun b o hb e=>(Heap.get?_update_other _ _ (Ne.symm hb)).trans e
 refine wpAny_bind (wpAny_letGo ?_)
 refine ext_rev hh (hJ.at fun o e=>oth J o hSJ.symm e) (hl.at fun o e=>oth l o hSl.symm e) hne hn S hSJ hSl .none _ hS₂ fun h' tk acc' c' hk hS' hacc=>?_
 exact hR h' tk acc' c' (fun b o hb hbJ e=>hk b o hb hbJ (oth b o hb e)) hS' hacc
theorem call_rev {Q:Value→Shared→Prop} {J l:Addr} {items:Array Value} (hh:A.handled=none) (hJ:s.heap.IsRevIter J l ((items.size:Int) - 1)) (hl:s.heap.IsList l items) (hne:l≠J) (hn:items.size≤sizeLine)
  (hQ:∀ h' tk acc' c',(∀ b o,b≠J→s.heap.get? b=some o→h'.get? b=some o)→h'.get? s.heap.objs.size=some { cls:=.type "list", dict:=none,data:=.seq acc' c',slots:=#[] }→RevAt items acc'→Q (.ref s.heap.objs.size) { s with heap:=h',toks:=tk }) :
  wpAny (model prog w) A (call (.type "list") [.ref J]) Q E s:=by
 refine callType_codes (Q₁:=fun obj s₁=>obj=.ref s.heap.objs.size∧s₁={ s with heap:=s.heap.push { cls:=.type "list", data:=.seq #[] } }) PySem.F.called_list (PySem.F.typeCall_list_1 _) PySem.F.entry_list_init
  (code_list_new _ ⟨rfl,rfl⟩) fun obj s₁ h₁=>?_
 obtain ⟨rfl,rfl⟩:=h₁
 have hS:(s.heap.push { cls:=.type "list", data:=.seq #[] }).get? s.heap.objs.size=some { cls:=.type "list", data:=.seq #[] }:=z0W _ rfl
 refine bc fun zZ=>?_
 obtain ⟨oJ,hoJ,_⟩:=id hJ
 obtain ⟨ol,hol,_⟩:=id hl
 refine zZ ?_;clear zZ
 refine ⟨⟨_,hS,rfl⟩,PySem.F.args_list_init_2 _ _,init_rev (A:=A.in1) hh (hJ.at fun o e=>z7Q _ e) (hl.at fun o e=>z7Q _ e) hne hn _ (Nat.ne_of_gt (iW hoJ)) (Nat.ne_of_gt (iW hol)) hS fun h' tk acc' c' hk hS' hacc=>?_⟩
 exact ⟨rfl,hQ h' tk acc' c' (fun b o hb e=>hk b o (z9W (iW e)) hb (z7Q _ e)) hS' hacc⟩
end
section
variable {B:Bs} {C:a0A} {Ar:Around} {env:Env} {F:Value→Shared→Prop}
theorem q5B {items:List Value} {acc:Array Value} (h:RevAt items.toArray acc):acc.toList=items.reverse:=by
 obtain ⟨h1,h2⟩:=h
 have hs:items.toArray.size=items.length:=by simp
 refine List.ext_getElem? fun j=>?_
 by_cases hj:j<items.length
 ·have ha:acc[j]?=some (acc[j]'(by lia)):=eZ (by lia)
  have:=h2 j _ ha
  rw [List.getElem?_reverse hj,lW,ha,← this]
  simp
 ·rw [yK (by rw [dW];lia),yK (by simp;lia)]
theorem lok_rev {a:E} {e:Expr} {p p' pos pos':Pos} (O:BOk B) (hh:Ar.handled=none) (hk:env.kindOf (Str.ofString "list")=some .globalImplicit) (hk':env.kindOf (Str.ofString "reversed")=some .globalImplicit) (hu:n1A e=true) (ha:EOk B C Ar env a e) :
  LOk B C Ar env (.rev a) (.Call (.Name (Str.ofString "list") p) [.Call (.Name (Str.ofString "reversed") p') [e] [] pos'] [] pos):=by
 intro Z N ρ σ m s K Q F I Fr hx P
 rw [xL_rev] at hx
 have hE:EsOk B C Ar env [a] [e]:=.cons ha hu .nil
 refine wpAny_Call_NameR (n3A I Fr (O.at "list" (.type "list") rfl) hk (by decide +kernel) ?_)
 have hp:(backTo pos (starEach [.Call (.Name (Str.ofString "reversed") p') [e] [] pos'] env)).any (·.1)=false:=q0A rfl
 refine PySem.callWith_type hp ?_
 have h':wpAny (model B.prog B.w) Ar (spliced (backTo pos (starEach [.Call (.Name (Str.ofString "reversed") p') [e] [] pos'] env))) (fun vs s'=>wpAny (model B.prog B.w) Ar (call (.type "list") ([]++vs) []) Q F s') F s:=by
  refine args_cons (s1B (K:=fun as σ=>get (one1 as) fun va=>get (y0A σ va) fun xs=>small xs.reverse∧K xs.reverse σ) (O.at "reversed" (.type "reversed") rfl) hk' (by decide +kernel) (.inr ⟨_,rfl⟩) hE I Fr (show xEs C [a] m σ _ from hx) ?_) (k0A rfl)
  intro as vs Z1 ρ1 σ1 h1 t1 hl hx1 e1 p1 I1 R1
  refine bc fun zZ=>?_
  obtain ⟨va,rfl⟩:=cJ.mp hl
  obtain ⟨v,rfl,Ra⟩:=a4A R1
  refine zZ ?_;clear zZ
  have hx1:get (y0A σ1 va) fun xs=>small xs.reverse∧K xs.reverse σ1:=hx1
  refine getE hx1 fun xs hs zQ=>?_
  refine bc fun zZ=>?_
  obtain ⟨hsm,hK⟩:=zQ
  obtain ⟨l,items,n,rfl,hg,hlt',hr'⟩:=b1A I1 Ra hs
  refine zZ ?_;clear zZ
  have hlen:=f0A hr'
  refine call_reversed_list (i0A hg) (args_nil ?_)
  have hsz:(h1.push (revObj l ((items.toArray.size:Int) - 1))).objs.size=h1.objs.size+1:=z7K ..
  have hll:l<h1.objs.size:=iW hg
  refine call_rev (items:=items.toArray) hh ⟨_,z0W _ rfl,rfl,rfl⟩ (i0A (z7Q _ hg)) (z9W hll) (by rw [sizeLine_eq];simp;lia) fun h2 tk acc c hk2 hg2 hacc=>?_
  have I2:=I1.keepsNew (a:=(h1.push (revObj l ((items.toArray.size:Int) - 1))).objs.size) (o:=c0A acc.toList c) (h':=h2) (fun b o eb=>hk2 b o (z9W (iW eb)) (z7Q _ eb)) (by rw [hsz];lia) (by rw [hg2];simp [c0A])
  rw [q5B hacc] at I2
  exact P xs.reverse _ items.reverse c Z1 ρ1 σ1 h2 tk hsm hK e1 p1 I2 (n3B hr')
 rw [k0A rfl] at h' ⊢
 exact Calls.evalArgs_plain h'
end
end Fl
namespace Fl
open PySem PySem.SetTable
theorem bgo (xs:Array Nat) (j fuel lo hi:Nat):below.go xs j (fuel+1) lo hi=if lo<hi then (if xs.getD ((lo+hi) / 2) j<j then below.go xs j fuel ((lo+hi) / 2+1) hi else below.go xs j fuel lo ((lo+hi) / 2)) else lo:=rfl
theorem below_go (xs:Array Nat) (j:Nat) (hs:∀ i k,i<k→k<xs.size→xs.getD i 0<xs.getD k 0) (fuel:Nat):∀ lo hi,hi≤xs.size→lo≤hi→hi - lo≤fuel→(∀ i,i<lo→xs.getD i 0<j)→(∀ i,hi≤i→i<xs.size→j≤xs.getD i 0)→
  below.go xs j fuel lo hi≤xs.size∧(∀ i,i<below.go xs j fuel lo hi→xs.getD i 0<j)∧(∀ i,below.go xs j fuel lo hi≤i→i<xs.size→j≤xs.getD i 0):=by
 induction fuel with
 | zero=>
  intro lo hi h1 h2 h3 h4 h5
  obtain rfl:lo=hi:=jW h2 (Nat.le_of_sub_eq_zero (Nat.le_zero.mp h3))
  exact ⟨h1,h4,h5⟩
 | succ fuel ih=>
  intro lo hi h1 h2 h3 h4 h5
  rw [bgo]
  by_cases hl:lo<hi
  ·rw [if_pos hl]
   have q1:=x16 hl
   have q2:=x15 hl
   have q3:=x17 hl h3
   have q4:=x18 hl h3
   generalize (lo+hi) / 2=md at q1 q2 q3 q4 ⊢
   have hm:md<xs.size:=yQ q2 h1
   have hd:xs.getD md j=xs.getD md 0:=by unfold Array.getD;rw [dif_pos hm,dif_pos hm]
   rw [hd]
   by_cases hc:xs.getD md 0<j
   ·rw [if_pos hc]
    refine ih _ _ h1 q2 q4 (fun i hi'=>?_) h5
    by_cases e:i=md
    ·rw [e];exact hc
    ·exact z7W (hs i _ (gZ (rW hi') e) hm) hc
   ·rw [if_neg hc]
    have hc:=z6W.mp hc
    refine ih _ _ (z8Q hm) q1 q3 h4 (fun i hi' hlt=>?_)
    by_cases e:i=md
    ·rw [e];exact hc
    ·exact dQ hc (z8Q (hs md i (gZ hi' (Ne.symm e)) hlt))
  ·rw [if_neg hl]
   obtain rfl:lo=hi:=jW h2 (z6W.mp hl)
   exact ⟨h1,h4,h5⟩
noncomputable abbrev Ent:=Nat×Int×Value
theorem g6A {t:SetTable} {L:List Ent} (hp:t.place.toList=L.map (·.1)) (hs:L.Pairwise (·.1<·.1)) (j:Nat) :
  below t.place j≤L.length∧(∀ e∈L.take (below t.place j),e.1<j)∧∀ e∈L.drop (below t.place j),j≤e.1:=by
 have hsz:t.place.size=L.length:=by rw [← dW,hp,eQ]
 have hg:∀ i (h:i<L.length),t.place.getD i 0=L[i].1:=by
  intro i h
  have:t.place[i]?=some L[i].1:=by rw [← lW,hp,oQ,nQ h];rfl
  rw [sZ,this];rfl
 have key:=below_go t.place j (fun i k hik hk=>by
  rw [hsz] at hk
  rw [hg i (z7W hik hk),hg k hk]
  exact (List.pairwise_iff_getElem.mp hs) i k (z7W hik hk) hk hik) t.place.size 0 t.place.size (uQ _) (sQ _) (uQ _) (fun i h=>absurd h (z5Z _)) (fun i h h'=>absurd h' (z6W.mpr h))
 change below t.place j≤_∧(∀ i,i<below t.place j→_)∧(∀ i,below t.place j≤i→_) at key
 refine ⟨hsz ▸ key.1,fun e he=>?_,fun e he=>?_⟩
 ·obtain ⟨i,hi⟩:=List.getElem?_of_mem he
  obtain ⟨h1,h2⟩:=jQ.mp hi
  rw [uK] at h1
  have hL:i<L.length:=yQ h1 (z6K _ _)
  rw [List.getElem_take] at h2
  have:=key.2.1 i (yQ h1 (z1K _ _))
  rw [hg i hL,h2] at this;exact this
 ·obtain ⟨i,hi⟩:=List.getElem?_of_mem he
  obtain ⟨h1,h2⟩:=jQ.mp hi
  rw [List.length_drop] at h1
  rw [List.getElem_drop] at h2
  have hL:below t.place j+i<L.length:=bZ i _ ▸ Nat.add_lt_of_lt_sub h1
  have:=key.2.2 (below t.place j+i) (z5Q _ _) (by rw [hsz];exact hL)
  rw [hg _ hL,h2] at this;exact this
structure Tab (t:SetTable) (es:Array (Int×Value)) (L:List Ent):Prop where
 pl:t.place.toList=L.map (·.1)
 es:es.toList=L.map (·.2)
 so:L.Pairwise (·.1<·.1)
 du:t.dummies=#[]
 ma:(t.mask=7∧L.length≤4∧∀ e∈L,e.1≤7)∨(t.mask=31∧L.length≤16∧∀ e∈L,((e.1:Nat):Int)=e.2.1)
variable {t:SetTable} {es:Array (Int×Value)} {L:List Ent}
theorem g7B (hp:t.place.toList=L.map (·.1)) (hd:t.dummies=#[]) {j:Nat} (h:∀ e∈L,e.1≠j):t.slot j=.empty:=by
 unfold SetTable.slot
 have:(t.place[below t.place j]? == some j)=false:=by
  cases hc:t.place[below t.place j]? == some j with
  | false=>rfl
  | true=>
   have hc:=eq_of_beq hc
   rw [← lW,hp,oQ] at hc
   obtain ⟨e,he,ej⟩:=xQ.mp hc
   exact absurd ej (h e (wQ he))
 have h0:has #[] j=false:=rfl
 simp only [this,hd,h0,fW,if_false]
theorem slot_un (hd:t.dummies=#[]) {j:Nat}:t.slot j=.empty∨∃ i,t.slot j=.live i:=by
 unfold SetTable.slot
 dsimp only
 by_cases hc:(t.place[below t.place j]? == some j)=true
 ·exact .inr ⟨_,if_pos hc⟩
 ·have h0:has #[] j=false:=rfl
  rw [if_neg hc,hd,h0]
  exact .inl rfl
theorem l3B (T:Tab t es L) {j:Nat} (h:t.slot j=.empty):∀ e∈L,e.1≠j:=by
 rintro e he rfl
 obtain ⟨i,h'⟩:=List.getElem?_of_mem he
 have hi:=(jQ.mp h').1
 have hei:=(jQ.mp h').2
 have B:=g6A T.pl T.so e.1
 have hb:below t.place e.1=i:=by
  rcases Nat.lt_trichotomy (below t.place e.1) i with q | q | q
  ·have hbl:=z7W q hi
   have hm:L[below t.place e.1]'hbl∈L.drop (below t.place e.1):=by
    rw [sW hbl];exact aQ
   have h1:=B.2.2 _ hm
   have h2:=(List.pairwise_iff_getElem.mp T.so) _ i hbl hi q
   rw [hei] at h2;exact absurd h2 (z6W.mpr h1)
  ·exact q
  ·have hm:e∈L.take (below t.place e.1):=wQ (i:=i) (by rw [List.getElem?_take,if_pos q];exact h')
   exact absurd (B.2.1 _ hm) (wW _)
 unfold SetTable.slot at h
 have:(t.place[i]? == some e.1)=true:=by
  rw [← lW,T.pl,oQ,h'];exact beq_self_eq_true _
 simp only [hb,this,if_true] at h
 cases h
theorem es_at (T:Tab t es L) {i:Nat} {e:Ent} (h:L[i]?=some e):es[i]?=some e.2:=by
 rw [← lW,T.es,oQ,h];rfl
theorem y8A (T:Tab t es L):t.place.size=L.length∧es.size=L.length:=by
 rw [← dW,T.pl,← dW,T.es,eQ,eQ];exact ⟨rfl,rfl⟩
theorem u3A (T:Tab t es L):t.fits es.size=true:=by
 obtain ⟨h1,h2⟩:=y8A T
 have h3:t.fill=L.length:=by unfold SetTable.fill;rw [T.du,h1];rfl
 unfold SetTable.fits
 rw [h3,h1,h2,beq_self_eq_true,Bool.true_and,decide_eq_true_eq]
 rcases T.ma with ⟨e,h,_⟩ | ⟨e,h,_⟩ <;> rw [e] <;> exact dQ h (by decide)
noncomputable def prb (t:SetTable) (h:Int):Nat→Probe
 | 0=>t.probeStart h
 | n+1=>t.advance (prb t h n)
theorem g1C (t:SetTable) (p:Probe):(t.advance p).dummy=p.dummy:=by unfold SetTable.advance;split <;> rfl
theorem pgo (t:SetTable) (hA:Nat→Int) (h:Int) (fuel:Nat) (p:Probe):probe.go t hA h (fuel+1) p=(match t.slot p.j with
   | .empty=>some (.empty p.j p.dummy)
   | .dummy=>probe.go t hA h fuel (t.advance { p with dummy:=some p.j })
   | .live i=>if hA i == h then some (.candidate p.j i (t.advance p)) else probe.go t hA h fuel (t.advance p)):=rfl
theorem probe_go (hd:t.dummies=#[]) (h:Int) (N:Nat) (hN:t.slot (prb t h N).j=.empty):∀ (d n fuel:Nat),N - n=d→n≤N→d<fuel→(prb t h n).dummy=none→
  ∃ m,t.slot (prb t h m).j=.empty∧(∀ k,n≤k→k<m→t.slot (prb t h k).j≠.empty)∧probe.go t (fun _=>h+1) h fuel (prb t h n)=some (.empty (prb t h m).j none):=by
 intro d
 induction d with
 | zero=>
  intro n fuel e hn hf hdm
  obtain rfl:n=N:=jW hn (Nat.le_of_sub_eq_zero e)
  obtain ⟨f,rfl⟩:=Nat.exists_eq_succ_of_ne_zero (Nat.ne_of_gt hf)
  exact ⟨n,hN,fun k h1 h2=>absurd h1 (Nat.not_le.mpr h2),by rw [pgo,hN,hdm]⟩
 | succ d ih=>
  intro n fuel e hn hf hdm
  obtain ⟨f,rfl⟩:=Nat.exists_eq_succ_of_ne_zero (Nat.ne_of_gt (vQ (sQ _) hf))
  rcases slot_un hd (j:=(prb t h n).j) with q | ⟨i,q⟩
  ·exact ⟨n,q,fun k h1 h2=>absurd h1 (Nat.not_le.mpr h2),by rw [pgo,q,hdm]⟩
  ·refine bc fun zZ=>?_
   obtain ⟨m,h1,h2,h3⟩:=ih (n+1) f (by rw [Nat.sub_add_eq,e];rfl) (Nat.lt_of_sub_eq_succ e) (Nat.lt_of_succ_lt_succ hf) ((g1C _ _).trans hdm)
   refine zZ ?_;clear zZ
   refine ⟨m,h1,fun k k1 k2=>?_,?_⟩
   ·by_cases c:k=n
    ·rw [c,q];exact fun h=>nomatch h
    ·exact h2 k (gZ k1 (Ne.symm c)) k2
   ·rw [pgo,q]
    have:((h+1 == h):Bool)=false:=by rw [beq_eq_false_iff_ne];exact z2K (Int.lt_succ h)
    simp only [this,fW,if_false]
    exact h3
noncomputable def ob8 (s:Nat):Nat→Nat
 | 0=>s
 | n+1=>(ob8 s n * 5+1) % 8
theorem ob8_all:∀ s,s<8→∀ j,j<8→∃ n,n<8∧ob8 s n=j:=by decide +kernel
theorem v2B {k:Int} (h0:0≤k) (h1:k<16):bits k=k.toNat:=by
 unfold bits
 rw [Int.emod_eq_of_lt h0 (Int.lt_trans h1 (by decide))]
theorem prb7 (hm:t.mask=7) {k:Int} (h0:0≤k) (h1:k<16):∀ n,∃ q,q<32∧prb t k n=⟨ob8 (k.toNat % 8) n,0,ob8 (k.toNat % 8) n,q,none⟩
 | 0=>by
  refine ⟨k.toNat,(Int.toNat_lt h0).mpr (Int.lt_trans h1 (by decide)),?_⟩
  show t.probeStart k=_
  unfold SetTable.probeStart
  rw [hm,v2B h0 h1]
  have:runEnd 7 (k.toNat % (7+1))=k.toNat % (7+1):=by unfold runEnd;rw [if_neg (Nat.not_le.mpr (yQ (by decide) (dJ 9 _)))]
  dsimp only
  rw [this,Nat.sub_self];rfl
 | n+1=>by
  obtain ⟨q,hq,e⟩:=prb7 hm h0 h1 n
  refine ⟨0,by decide,?_⟩
  show t.advance (prb t k n)=_
  rw [e]
  unfold SetTable.advance leap
  rw [hm,if_neg (wW 0)]
  have e1:q / 32=0:=Nat.div_eq_of_lt hq
  have e2:∀ i,runEnd 7 i - i=0:=fun i=>by unfold runEnd;rw [if_neg (Nat.not_le.mpr (yQ (by decide) (dJ 9 _))),Nat.sub_self]
  dsimp only
  rw [e1,e2];rfl
theorem ob8_lt {s:Nat} (hs:s<8):∀ n,ob8 s n<8
 | 0=>hs
 | n+1=>Nat.mod_lt _ (by decide)
theorem free_ok (T:Tab t es L) {k:Int} (h0:0≤k) (h1:k<16) (hk:∀ e∈L,e.2.1≠k):∃ j,t.freeSlot k=some (j,false)∧(∀ e∈L,e.1≠j)∧(t.mask=7→j≤7)∧(t.mask=31→((j:Nat):Int)=k):=by
 have key:∀ N,N<150→t.slot (prb t k N).j=.empty→∃ m,t.slot (prb t k m).j=.empty∧(∀ n,0≤n→n<m→t.slot (prb t k n).j≠.empty)∧t.freeSlot k=some ((prb t k m).j,false):=fun N hN he=>by
  refine bc fun zZ=>?_
  obtain ⟨m,a1,a2,a3⟩:=probe_go T.du k N he N 0 (10 * turns t.mask) rfl (sQ _) (yQ hN (by unfold turns;exact dQ (by decide) (dK 10 (dJ 15 _)))) rfl
  refine zZ ?_;clear zZ
  refine ⟨m,a1,a2,?_⟩
  unfold SetTable.freeSlot SetTable.probe
  change probe.go t (fun _=>k+1) k (10 * turns t.mask) (t.probeStart k)=_ at a3
  rw [a3];rfl
 rcases T.ma with ⟨hm,hl,hle⟩ | ⟨hm,hl,hle⟩
 ·have hs:k.toNat % 8<8:=Nat.mod_lt _ (by decide)
  have hj:∀ n,(prb t k n).j=ob8 (k.toNat % 8) n:=fun n=>by obtain ⟨q,_,e⟩:=prb7 hm h0 h1 n;rw [e]
  have hex:∃ n,n<8∧∀ e∈L,e.1≠ob8 (k.toNat % 8) n:=by
   refine Classical.byContradiction fun hn=>?_
   have:=b0A (l:=List.range 8) (D:=L.map (·.1)) List.nodup_range (fun j hj=>by
    refine bc fun zZ=>?_
    obtain ⟨n,hn8,rfl⟩:=ob8_all _ hs j (lK.mp hj)
    refine zZ ?_;clear zZ
    refine Classical.byContradiction fun hm=>hn ⟨n,hn8,fun e he ej=>hm (qQ.mpr ⟨e,he,ej⟩)⟩)
   rw [mK,eQ] at this
   exact absurd (dQ this hl) (by decide)
  refine bc fun zZ=>?_
  obtain ⟨n,hn,hno⟩:=hex
  obtain ⟨m,a1,_,a3⟩:=key n (z7W hn (by decide)) (by rw [hj];exact g7B T.pl T.du hno)
  refine zZ ?_;clear zZ
  exact ⟨_,a3,l3B T a1,fun _=>by rw [hj];exact rW (ob8_lt hs m),fun h=>by rw [hm] at h;cases h⟩
 ·have hj:(prb t k 0).j=k.toNat:=by
   show bits k % (t.mask+1)=_
   rw [hm,v2B h0 h1,z5K ((Int.toNat_lt h0).mpr (Int.lt_trans h1 (by decide)))]
  have hno:t.slot (prb t k 0).j=.empty:=by
   rw [hj]
   refine g7B T.pl T.du fun e he ej=>hk e he ?_
   rw [← hle e he,ej,nW h0]
  refine bc fun zZ=>?_
  obtain ⟨m,a1,a2,a3⟩:=key 0 (by decide) hno
  refine zZ ?_;clear zZ
  have hm0:m=0:=Classical.byContradiction fun h=>a2 0 (uQ _) (Nat.pos_of_ne_zero h) hno
  rw [hm0] at a1 a3
  exact ⟨_,a3,l3B T a1,fun h=>(by rw [hm] at h;cases h),fun _=>by rw [hj,nW h0]⟩
end Fl
namespace Fl
open PySem PySem.SetTable
variable {t:SetTable} {es:Array (Int×Value)} {L:List Ent}
theorem put_ok (T:Tab t es L) {j:Nat} {h:Int} {x:Value} (hno:∀ e∈L,e.1≠j) :
  ∃ L':List Ent,((t.put j).1.place.toList=L'.map (·.1)∧(insertAt es (t.put j).2 (h,x)).toList=L'.map (·.2)∧L'.Pairwise (·.1<·.1))∧(t.put j).1.dummies=#[]∧L'.Perm ((j,h,x)::L):=by
 refine bc fun zZ=>?_
 obtain ⟨b1,b2,b3⟩:=g6A T.pl T.so j
 refine zZ ?_;clear zZ
 refine ⟨L.take (below t.place j)++(j,h,x)::L.drop (below t.place j),⟨?_,?_,?_⟩,?_,?_⟩
 ·show (insertAt t.place (below t.place j) j).toList=_
  rw [toList_insertAt,T.pl,z0Q,z6Q,List.map_take,List.map_drop]
 ·show (insertAt es (below t.place j) (h,x)).toList=_
  rw [toList_insertAt,T.es,z0Q,z6Q,List.map_take,List.map_drop]
 ·rw [List.pairwise_append]
  refine ⟨T.so.sublist (List.take_sublist _ _),?_,fun a ha b hb=>?_⟩
  ·rw [List.pairwise_cons]
   exact ⟨fun e he=>gZ (b3 e he) (Ne.symm (hno e (List.mem_of_mem_drop he))),T.so.sublist (List.drop_sublist _ _)⟩
  ·have h1:=b2 a ha
   rcases lQ.mp hb with rfl | hb
   ·exact h1
   ·exact yQ h1 (b3 b hb)
 ·show (if has t.dummies j then _ else t.dummies)=#[]
  rw [T.du];rfl
 ·refine xZ.trans ?_
  rw [kW]
structure Ow (hs:List Int) (ow:Array (Option Nat)):Prop where
 sz:ow.size=32
 at':∀ (j k:Nat),ow[j]?=some (some k)↔hs[k]?=some ((j:Nat):Int)
theorem fgo (M:Nat) (ow:Array (Option Nat)) (f i q:Nat):layClean.free M ow (f+1) i q=(match (List.range (runEnd M i+1 - i)).find? fun k=>(ow.getD (i+k) (some 0)).isNone with
  | some k=>some (i+k)
  | none=>layClean.free M ow f (leap M i q).1 (leap M i q).2):=rfl
theorem ow_step {hs:List Int} {ow:Array (Option Nat)} (O:Ow hs ow) {h:Int} (h0:0≤h) (h1:h<16) (hn:h∉hs) :
  layClean.free 31 ow (turns 31) (bits h % (31+1)) (bits h)=some h.toNat∧Ow (hs++[h]) (ow.setIfInBounds h.toNat (some hs.length)):=by
 have hlt:h.toNat<16:=(Int.toNat_lt h0).mpr h1
 have hto:((h.toNat:Nat):Int)=h:=nW h0
 have hin:h.toNat<ow.size:=by rw [O.sz];exact z7W hlt (by decide)
 have hfree:ow[h.toNat]?=some none:=by
  rw [eZ hin]
  cases hc:ow[h.toNat] with
  | none=>rfl
  | some k=>
   have:=(O.at' h.toNat k).mp (by rw [eZ hin,hc])
   rw [hto] at this
   exact absurd (wQ this) hn
 refine ⟨?_,by rw [Array.size_setIfInBounds,O.sz],fun j k=>?_⟩
 ·rw [v2B h0 h1,z5K (z7W hlt (by decide))]
  have hf:(List.range (runEnd 31 h.toNat+1 - h.toNat)).find? (fun k=>(ow.getD (h.toNat+k) (some 0)).isNone)=some 0:=by
   have:runEnd 31 h.toNat=h.toNat+9:=if_pos (dQ (Nat.add_le_add_right (z8Q hlt) 9) (by decide))
   rw [List.find?_range_eq_some]
   refine ⟨?_,lK.mpr (z3K (Nat.lt_succ_of_le (by rw [this];exact z5Q _ _))),fun j hj=>absurd hj (z5Z _)⟩
   rw [Nat.add_zero,sZ,hfree];rfl
  show layClean.free 31 ow (45+1) h.toNat h.toNat=_
  rw [fgo,hf];rfl
 ·by_cases q:j=h.toNat
  ·subst q
   rw [Array.getElem?_setIfInBounds_self_of_lt hin,hto]
   constructor
   ·intro e
    cases e
    exact vW
   ·intro e
    by_cases c:k<hs.length
    ·rw [cZ c] at e
     exact absurd (wQ e) hn
    ·have:=(jQ.mp e).1
     rw [fQ,List.length_singleton] at this
     rw [jW (rW this) (z6W.mp c)]
  ·rw [Array.getElem?_setIfInBounds_ne (Ne.symm q),O.at']
   by_cases c:k<hs.length
   ·rw [cZ c]
   ·rw [yK (z6W.mp c)]
    refine ⟨fun e=>(nomatch e),fun e=>?_⟩
    have:=(jQ.mp e).1
    rw [fQ,List.length_singleton] at this
    obtain rfl:=jW (rW this) (z6W.mp c)
    rw [vW] at e
    exact absurd (by rw [pQ e];rfl) q
theorem layc_ok (hs:Array Int) (hr:∀ h∈hs.toList,0≤h∧h<16) (hn:hs.toList.Nodup):∃ ow,layClean 31 hs=some ow∧Ow hs.toList ow:=by
 have go:∀ (rest done:List Int) (ow:Array (Option Nat)),Ow done ow→(done++rest).Nodup→(∀ h∈rest,0≤h∧h<16)→
   ∃ ow',rest.foldl (fun (acc:Option (Array (Option Nat)×Nat)) h=>do let (owner,k) ← acc;let j ← layClean.free 31 owner (turns 31) (bits h % (31+1)) (bits h);pure (owner.setIfInBounds j (some k),k+1)) (some (ow,done.length))=some (ow',(done++rest).length)∧Ow (done++rest) ow':=by
  intro rest
  induction rest with
  | nil=>intro done ow O _ _;rw [z1Q];exact ⟨ow,rfl,O⟩
  | cons h rest ih=>
   intro done ow O hnd hr
   have e1:done++h::rest=done++[h]++rest:=by rw [kQ];rfl
   have hh:=hr h aQ
   obtain ⟨hf,O'⟩:=ow_step O hh.1 hh.2 (fun hm=>(z3Q.mp hnd).2.2 h hm h aQ rfl)
   rw [e1] at hnd ⊢
   obtain ⟨ow',e,O''⟩:=ih (done++[h]) _ O' hnd (fun g hg=>hr g (bQ _ hg))
   refine ⟨ow',?_,O''⟩
   rw [List.foldl_cons]
   show rest.foldl _ ((layClean.free 31 ow (turns 31) (bits h % (31+1)) (bits h)).bind fun j=>some (ow.setIfInBounds j (some done.length),done.length+1))=_
   rw [hf]
   have hl1:(done++[h]).length=done.length+1:=fQ
   rw [hl1] at e
   exact e
 obtain ⟨ow,e,O⟩:=go hs.toList [] (Array.replicate (31+1) none) ⟨Array.size_replicate,fun j k=>⟨fun hj=>(by rw [Array.getElem?_replicate] at hj;split at hj <;> cases hj),fun h=>nomatch h⟩⟩ hn hr
 refine ⟨ow,?_,O⟩
 unfold layClean
 rw [← Array.foldl_toList]
 show (List.foldl _ (some (Array.replicate (31+1) none,([]:List Int).length)) hs.toList).map (·.1)=_
 rw [e];rfl
theorem t7B (es:Array (Int×Value)) (hr:∀ e∈es.toList,0≤e.1∧e.1<16) (hn:(es.toList.map (·.1)).Nodup) (hl:es.size≤16) (t:SetTable) {W:Nat} (hW:sizeAbove W=32) :
  ∃ es' t' L',relayAll t es W=(es',t',false)∧Tab t' es' L'∧(L'.map (·.2)).Perm es.toList∧t'.led=t.led∧t'.plain=t.plain:=by
 have hhs:(es.map (·.1)).toList=es.toList.map (·.1):=Array.toList_map
 obtain ⟨ow,e,O⟩:=layc_ok (es.map (·.1)) (by rw [hhs];intro h hh;obtain ⟨x,hx,rfl⟩:=qQ.mp hh;exact hr x hx) (by rw [hhs];exact hn)
 rw [hhs] at O
 have hat:∀ k:Nat,(es.toList.map (·.1))[k]?=(es[k]?).map (·.1):=fun k=>by rw [oQ,lW]
 generalize hlv:(List.range (31+1)).filterMap (fun j=>(ow.getD j none).map (j,·))=live
 have mem:∀ q,q∈live↔ow[q.1]?=some (some q.2):=by
  intro q
  rw [← hlv,List.mem_filterMap]
  constructor
  ·rintro ⟨j,hj,hq⟩
   obtain ⟨k,hk,rfl⟩:=xQ.mp hq
   rw [sZ] at hk
   cases hc:ow[j]? with
   | none=>rw [hc] at hk;cases hk
   | some o=>rw [hc] at hk;exact congrArg some hk
  ·intro hq
   have:=(Array.getElem?_eq_some_iff.mp hq).1
   rw [O.sz] at this
   refine ⟨q.1,lK.mpr this,?_⟩
   rw [sZ,hq];rfl
 have hso:live.Pairwise (·.1<·.1):=by
  rw [← hlv,List.pairwise_filterMap]
  refine List.Pairwise.imp ?_ (List.pairwise_lt_range (n:=31+1))
  intro a b hab p hp q hq
  obtain ⟨_,_,rfl⟩:=xQ.mp hp
  obtain ⟨_,_,rfl⟩:=xQ.mp hq
  exact hab
 have has:∀ q∈live,∃ y,es[q.2]?=some y∧y.1=((q.1:Nat):Int):=fun q hq=>by
  have:=(O.at' _ _).mp ((mem q).mp hq)
  rw [hat] at this
  exact xQ.mp this
 have hord:(live.map (·.2)).Perm (List.range es.size):=by
  refine (List.perm_ext_iff_of_nodup ?_ List.nodup_range).mpr fun k=>?_
  ·rw [xK,z2Z]
   refine List.Pairwise.imp_of_mem ?_ hso
   intro a b ha hb hab e
   obtain ⟨y,h1,h2⟩:=has a ha
   obtain ⟨z,h3,h4⟩:=has b hb
   rw [e,h3] at h1
   cases h1
   exact absurd (Int.ofNat.inj (h2.symm.trans h4)) (z9W hab)
  ·rw [qQ,lK]
   constructor
   ·rintro ⟨q,hq,rfl⟩
    obtain ⟨y,h1,_⟩:=has q hq
    exact (Array.getElem?_eq_some_iff.mp h1).1
   ·intro hk
    have hm:es[k]∈es.toList:=Array.getElem_mem_toList hk
    refine ⟨((es[k]).1.toNat,k),(mem _).mpr ((O.at' _ _).mpr ?_),rfl⟩
    rw [hat,eZ hk,nW (hr _ hm).1];rfl
 have hL1:∀ l:List (Nat×Nat),(∀ q∈l,∃ y,es[q.2]?=some y∧y.1=((q.1:Nat):Int))→(l.filterMap fun q=>(es[q.2]?).map (q.1,·)).map (·.1)=l.map (·.1)∧(l.filterMap fun q=>(es[q.2]?).map (q.1,·)).map (·.2)=(l.map (·.2)).filterMap (es[·]?):=by
  intro l
  induction l with
  | nil=>intro _;exact ⟨rfl,rfl⟩
  | cons q l ih=>
   intro hq
   obtain ⟨y,h2,_⟩:=hq q aQ
   obtain ⟨i1,i2⟩:=ih fun q' hq'=>hq q' (bQ _ hq')
   rw [List.filterMap_cons_some (b:=(q.1,y)) (by rw [h2];rfl)]
   refine ⟨congrArg (q.1::·) i1,?_⟩
   rw [z6Q,z6Q,List.filterMap_cons_some h2]
   exact congrArg (y::·) i2
 obtain ⟨l1,l2⟩:=hL1 live has
 have hperm:((live.filterMap fun q=>(es[q.2]?).map (q.1,·)).map (·.2)).Perm es.toList:=by
  rw [l2]
  refine (hord.filterMap _).trans ?_
  rw [filterMap_getElem?_range]
 have T':Tab { mask:=31,place:=(live.map (·.1)).toArray,dummies:=#[],finger:=t.finger,led:=t.led,moves:=t.movedTo 31,plain:=t.plain } ((live.map (·.2)).toArray.filterMap (es[·]?)) (live.filterMap fun q=>(es[q.2]?).map (q.1,·)):=by
  refine ⟨l1.symm,by rw [Array.toList_filterMap,l2],?_,rfl,.inr ⟨rfl,?_,fun x hx=>?_⟩⟩
  ·refine (z2Z (f:=fun e:Ent=>e.1) (R:=fun a b:Nat=>a<b)).mp ?_
   rw [l1]
   exact z2Z.mpr hso
  ·have:=hperm.length_eq
   rw [eQ,dW] at this
   exact dQ (lZ this) hl
  ·obtain ⟨q,hq,hx⟩:=List.mem_filterMap.mp hx
   obtain ⟨y,h1,h2⟩:=has q hq
   rw [h1] at hx
   cases hx
   exact h2.symm
 refine ⟨_,_,_,?_,T',hperm,rfl,rfl⟩
 have e':t.relaid (es.map (·.1)) W=some ({ mask:=31,place:=(live.map (·.1)).toArray,dummies:=#[],finger:=t.finger,led:=t.led,moves:=t.movedTo 31,plain:=t.plain },(live.map (·.2)).toArray):=by
  unfold SetTable.relaid
  rw [hW]
  show (layClean 31 (es.map (·.1))).bind _=_
  rw [e]
  show some (_,_)=_
  rw [← hlv]
 unfold relayAll
 rw [e']
 dsimp only
 rw [u3A T',show coversAll (live.map (·.2)).toArray es.size=true from List.isPerm_iff.mpr hord]
 rfl
end Fl
namespace Fl
open PySem
set_option maxRecDepth 100000
structure ISet (w:World) (h:Heap) (S:Addr) (ps:List Int) (o:Obj) (es:Array (Int×Value)) (ep:Nat) (t:SetTable) (L:List Ent):Prop where
 at':h.get? S=some o
 ex:o.ExactSet
 da:o.data=.set es ep t
 tab:Tab t es L
 pl:t.plain=true
 led:t.led=!w.params.followText "set-order"
 en:∀ e∈L,∃ tk,e.2.2=.int e.2.1 tk
 pm:(L.map fun e=>e.2.1).Perm ps
 ok:∀ k∈ps,0≤k∧k<16
 nd:ps.Nodup
theorem s9B {k:Int} (h0:0≤k) (h1:k<16):hashInt k=k:=by
 have:∀ n:Nat,n<16→hashInt ((n:Nat):Int)=((n:Nat):Int):=by decide +kernel
 have h:=this k.toNat ((Int.toNat_lt h0).mpr h1)
 rw [nW h0] at h;exact h
theorem ik (prog:Program) (w:World) (k:Int) (t:Tok):(intKind prog w).is k (.int k t)=true:=decide_eq_true rfl
section
variable {prog:Program} {w:World} {A:Around} {E:Value→Shared→Prop} {s:Shared} {S:Addr} {ps:List Int} {o:Obj} {es:Array (Int×Value)} {ep:Nat} {t:SetTable} {L:List Ent}
theorem ISet.el {h:Heap} (P:ISet w h S ps o es ep t L):ElemsOf (intKind prog w) es.toList:=fun e he=>by
 rw [P.tab.es] at he
 obtain ⟨x,hx,rfl⟩:=qQ.mp he
 obtain ⟨tk,e2⟩:=P.en x hx
 have hk:=P.ok _ (P.pm.mem_iff.mp (qQ.mpr ⟨x,hx,rfl⟩))
 refine ⟨⟨x.2.1,?_,(s9B hk.1 hk.2).symm⟩,?_⟩
 ·rw [e2];exact ik _ _ _ _
 ·rw [e2];rfl
theorem w7B {h:Heap} {a:Addr} {o:Obj} {es es':Array (Int×Value)} {ep:Nat} {t t':SetTable} (ho:h.get? a=some o) (hd:o.data=.set es ep t):(h.update a (Obj.putSet es' t')).get? a=some { o with data:=.set es' (ep+1) t' }:=by
 have:=qZ (Obj.putSet es' t') ho (by rw [putSet_of es' t' hd];rfl)
 rw [putSet_of es' t' hd] at this;exact this
theorem add_ok {k:Int} {tk:Tok} {Q:Bool→Shared→Prop} (P:ISet w s.heap S ps o es ep t L) (h0:0≤k) (h1:k<16) (hk:k∉ps) (hl:ps.length<16)
  (h:∀ h' tk' o' es' ep' t' L',Heap.SameBut S s.heap h'→ISet w h' S (ps++[k]) o' es' ep' t' L'→Q true { s with heap:=h',toks:=tk' }) :
  wpAny (model prog w) A (setAdd S (.int k tk)) Q E s:=by
 have hf:=u3A P.tab
 have hel:=P.el (prog:=prog)
 have hlen:L.length=ps.length:=by have:=P.pm.length_eq;rw [eQ] at this;exact this
 have hsz:=(y8A P.tab).2
 have hkL:∀ e∈L,e.2.1≠k:=fun e he q=>hk (P.pm.mem_iff.mp (qQ.mpr ⟨e,he,q⟩))
 unfold setAdd
 refine wpAny_holding (wpAny_bind ((intKind prog w).pyHash (k:=k) (ik _ _ _ _) ?_))
 generalize hs:({ s with toks:=s.toks+1 }:Shared)=s1
 have hheap:s1.heap=s.heap:=by rw [← hs]
 have ho:s1.heap.get? S=some o:=by rw [hheap];exact P.at'
 have hQ:∀ h' o' es' ep' t' L',Heap.SameBut S s.heap h'→ISet w h' S (ps++[k]) o' es' ep' t' L'→Q true { s1 with heap:=h' }:=fun h' o' es' ep' t' L' a1 a2=>by rw [← hs];exact h h' _ o' es' ep' t' L' a1 a2
 unfold setAddHashed setAddHashedIn
 refine wpAny_holding (wpAny_bind (wpAny_setState_of ho P.da hf ?_))
 dsimp only
 rw [byScan_of (knd:=intKind prog w) (x:=.int k tk) rfl (by rw [hsz,hlen];exact z7W hl (by decide)) hel]
 rw [if_pos rfl]
 unfold setAddByScan
 refine wpAny_bind (wpAny_bind (wpAny_rule (wpAny_bind (wpAny_setScan_of (knd:=intKind prog w) (ik _ _ _ _) ho P.da hf hel ?_))))
 have hfi:es.toList.findIdx? (fun e=>(intKind prog w).is k e.2)=none:=gK.mpr fun e he=>by
  rw [P.tab.es] at he
  refine bc fun zZ=>?_
  obtain ⟨x,hx,rfl⟩:=qQ.mp he
  obtain ⟨tk',e2⟩:=P.en x hx
  refine zZ ?_;clear zZ
  rw [e2,KeyKind.is_eq_decide (ik prog w x.2.1 tk')]
  exact decide_eq_false fun q=>hkL x hx q.symm
 rw [hfi]
 dsimp only
 refine bc fun zZ=>?_
 obtain ⟨j,hj,hno,hj7,hj31⟩:=free_ok P.tab h0 h1 hkL
 obtain ⟨L1,⟨p1,p2,p3⟩,p4,hperm⟩:=put_ok (h:=k) (x:=Value.int k tk) P.tab hno
 refine zZ ?_;clear zZ
 have hl1:L1.length=L.length+1:=hperm.length_eq
 have hfill:(t.put j).1.fill=L1.length:=by
  unfold SetTable.fill
  rw [p4,← dW,p1,eQ];rfl
 have hes1:(SetTable.insertAt es (t.put j).2 (k,Value.int k tk)).size=L1.length:=by rw [← dW,p2,eQ]
 have hfit1:(t.put j).1.fits (SetTable.insertAt es (t.put j).2 (k,Value.int k tk)).size=true:=by
  unfold SetTable.fits
  rw [hfill,hes1,← dW,p1,eQ,beq_self_eq_true,Bool.true_and,decide_eq_true_eq,hl1]
  show _≤t.mask
  rcases P.tab.ma with ⟨e,q,_⟩ | ⟨e,q,_⟩ <;> rw [e] <;> exact dQ (tQ q) (by decide)
 have hlay:layNew t es (hashInt k) (.int k tk)=(SetTable.insertAt es (t.put j).2 (k,Value.int k tk),(t.put j).1,false,false):=by
  unfold layNew
  rw [s9B h0 h1,hj]
  dsimp only
  unfold SetTable.orStandIn
  rw [hfit1];rfl
 rw [show layNew t es ((intKind prog w).hash k) (.int k tk)=_ from hlay]
 refine wpAny_bind (wpAny_pure ?_)
 dsimp only
 rw [show (t.put j).1.plain=true from P.pl,if_pos rfl]
 refine wpAny_bind (wpAny_pure ?_)
 rw [if_pos rfl]
 refine wpAny_bind (wpAny_storeSet_of ho P.da ?_ (by rw [hes1,hl1,hlen,sizeLine_eq];exact dQ hl (by decide)))
 have ho1:=w7B (es':=SetTable.insertAt es (t.put j).2 (k,Value.int k tk)) (t':=(t.put j).1) ho P.da
 have hsb1:Heap.SameBut S s.heap (s1.heap.update S (Obj.putSet (SetTable.insertAt es (t.put j).2 (k,Value.int k tk)) (t.put j).1)):=by rw [hheap];exact pZ ..
 have fin:∀ h' o' es' ep' t' L2,h'.get? S=some o'→o'.ExactSet→o'.data=.set es' ep' t'→Tab t' es' L2→(L2.map (·.2)).Perm (L1.map (·.2))→t'.led=t.led→t'.plain=t.plain→ISet w h' S (ps++[k]) o' es' ep' t' L2:=by
  intro h' o' es' ep' t' L2 hg hex hd' T2 hp2 g1 g2
  have hp3:(L2.map (·.2)).Perm (((j,k,Value.int k tk)::L).map (·.2)):=hp2.trans (hperm.map _)
  refine ⟨hg,hex,hd',T2,g2.trans P.pl,g1.trans P.led,fun e he=>?_,?_,fun q hq=>?_,?_⟩
  ·have h1:e.2∈((j,k,Value.int k tk)::L).map (·.2):=hp3.mem_iff.mp (qQ.mpr ⟨e,he,rfl⟩)
   refine bc fun zZ=>?_
   obtain ⟨e1,he1,h2⟩:=qQ.mp h1
   refine zZ ?_;clear zZ
   rw [← h2]
   rcases lQ.mp he1 with rfl | he0
   ·exact ⟨tk,rfl⟩
   ·exact P.en e1 he0
  ·have x1:=hp3.map (fun y:Int×Value=>y.1)
   rw [fZ,fZ] at x1
   exact x1.trans ((P.pm.cons k).trans (List.perm_append_singleton k ps).symm)
  ·rcases iQ.mp hq with hq | hq
   ·exact P.ok q hq
   ·rw [cQ.mp hq];exact ⟨h0,h1⟩
  ·rw [z3Q]
   exact ⟨P.nd,rQ.mpr ⟨pW,tW⟩,fun x hx y hy e=>hk (by rw [cQ.mp hy] at e;exact e ▸ hx)⟩
 have htf:(t.put j).1.tooFull=decide (L1.length * 5 ≥ t.mask * 3):=by unfold SetTable.tooFull;rw [hfill];rfl
 rw [htf]
 by_cases hfull:L1.length * 5 ≥ t.mask * 3
 ·rw [decide_eq_true hfull,if_pos (show (!false && true)=true from rfl)]
  have hL5:L1.length=5:=by
   rcases P.tab.ma with ⟨e,q,_⟩ | ⟨e,q,_⟩ <;> rw [e] at hfull <;> lia
  have key:=t7B (SetTable.insertAt es (t.put j).2 (k,Value.int k tk)) (fun e he=>by
    rw [p2] at he
    refine bc fun zZ=>?_
    obtain ⟨x,hx,rfl⟩:=qQ.mp he
    refine zZ ?_;clear zZ
    rcases lQ.mp (hperm.mem_iff.mp hx) with rfl | hx
    ·exact ⟨h0,h1⟩
    ·exact P.ok _ (P.pm.mem_iff.mp (qQ.mpr ⟨x,hx,rfl⟩))) (by
    rw [p2,fZ,(hperm.map ((fun y:Int×Value=>y.1) ∘ fun e:Ent=>e.2)).nodup_iff,z6Q,rQ]
    refine ⟨fun hm=>?_,P.pm.nodup_iff.mpr P.nd⟩
    refine bc fun zZ=>?_
    obtain ⟨x,hx,q⟩:=qQ.mp hm
    refine zZ ?_;clear zZ
    exact hkL x hx q) (by rw [hes1,hL5];decide) (t.put j).1 (W:=SetTable.grown (SetTable.insertAt es (t.put j).2 (k,Value.int k tk)).size) (by rw [hes1,hL5];decide +kernel)
  refine bc fun zZ=>?_
  obtain ⟨es2,t2,L2,e2,T2,hp2,g1,g2⟩:=key
  refine zZ ?_;clear zZ
  rw [e2]
  refine wpAny_bind (wpAny_pure ?_)
  have hs2:es2.size≤16:=by
   have:L2.length=5:=(eQ (·.2)).symm.trans (hp2.length_eq.trans (dW.trans (hes1.trans hL5)))
   rw [(y8A T2).2,this];decide
  refine wpAny_bind (wpAny_storeSet_of ho1 rfl ?_ (dQ hs2 (by rw [sizeLine_eq];decide)))
  refine wpAny_pure (wpAny_pure (hQ _ _ es2 _ t2 L2 (hsb1.trans (pZ ..)) (fin _ _ _ _ _ _ (w7B ho1 rfl) P.ex rfl T2 (by rw [← p2];exact hp2) g1 g2)))
 ·rw [decide_eq_false hfull,if_neg (show ¬ (!false && false)=true from mZ)]
  refine wpAny_pure (wpAny_pure (hQ _ _ _ _ _ L1 hsb1 (fin _ _ _ _ _ _ ho1 P.ex rfl ⟨p1,p2,p3,p4,?_⟩ (.refl _) rfl rfl)))
  have hle:∀ e∈L1,e=(j,k,Value.int k tk)∨e∈L:=fun e he=>lQ.mp (hperm.mem_iff.mp he)
  rcases P.tab.ma with ⟨e,q,q'⟩ | ⟨e,q,q'⟩
  ·rw [e] at hfull
   refine .inl ⟨e,by lia,fun x hx=>?_⟩
   rcases hle x hx with rfl | hx
   ·exact hj7 e
   ·exact q' x hx
  ·refine .inr ⟨e,by rw [hl1,hlen];exact hl,fun x hx=>?_⟩
   rcases hle x hx with rfl | hx
   ·exact hj31 e
   ·exact q' x hx
end
end Fl
namespace Fl
open PySem PyProof.Rows
set_option maxRecDepth 100000
section
variable {prog:Program} {w:World} {A:Around} {E:Value→Shared→Prop} {s:Shared} {S:Addr}
theorem upd_loop {R:Result→Shared→Prop} {I l:Addr} {n:Nat} {P:Nat→Value→Prop} {St:Nat→Heap→Prop} {vs:List Int} (W:Walks prog w A.in1 I [I,l] [I] n P St) (hSI:S≠I) (hSl:S≠l)
  (hn:n=vs.length) (h16:vs.length≤16) (hok:∀ k∈vs,0≤k∧k<16) (hnd:vs.Nodup) (hP:∀ i v,P i v→∀ k,vs[i]?=some k→∃ t,v=.int k t) :
  ∀ (k i:Nat) (s:Shared) o es ep t L,n - i=k→i≤n→St i s.heap→ISet w s.heap S (vs.take i) o es ep t L→
   (∀ h' tk o' es' ep' t' L',(∀ b q,b≠S→b≠I→s.heap.get? b=some q→h'.get? b=some q)→ISet w h' S vs o' es' ep' t' L'→R (.ok (.ret .none)) { s with heap:=h',toks:=tk })→
   codeAny (model prog w) A (.builtin "set.update.loop" ⟨[.ref S,.ref I],[]⟩) R s:=by
 intro k
 induction k with
 | zero=>
  intro i s o es ep t L hk hi hst hps hR
  have hin:i=n:=jW hi (Nat.le_of_sub_eq_zero hk)
  refine codeAny_builtin PyProof.Rows.F.entry_set_update_loop ?_
  rw [Around.under_plainId PyProof.Rows.F.plain_set_update_loop _]
  show wpAny _ A.in1 (pyNext (.ref I) >>= _) _ _ s
  refine wpAny_bind (W.done s _ _ (hin ▸ hst) fun h' tk hm=>?_)
  show wpAny _ A.in1 (ret Value.none) _ _ _
  refine wpAny_pure (hR h' tk o es ep t L (fun b q _ hb e=>hm b q (fun h=>hb (cQ.mp h)) e) ?_)
  rw [hin,hn,List.take_length] at hps
  exact { hps with at':=hm _ _ (fun h=>hSI (cQ.mp h)) hps.at' }
 | succ k ih=>
  intro i s o es ep t L hk hi hst hps hR
  have hlt:i<n:=Nat.lt_of_sub_eq_succ hk
  refine codeAny_builtin PyProof.Rows.F.entry_set_update_loop ?_
  rw [Around.under_plainId PyProof.Rows.F.plain_set_update_loop _]
  show wpAny _ A.in1 (pyNext (.ref I) >>= _) _ _ s
  refine wpAny_bind (W.item i s _ _ hlt hst fun v h' tk hPv hst' hm=>?_)
  have hi':i<vs.length:=hn ▸ hlt
  obtain ⟨t0,rfl⟩:=hP i v hPv _ (nQ hi')
  show wpAny _ A.in1 (holding [Value.int vs[i] t0] (setAdd S (.int vs[i] t0)) >>= _) _ _ _
  have hps':ISet w h' S (vs.take i) o es ep t L:={ hps with at':=hm _ _ (fun h=>hSI (cQ.mp h)) hps.at' }
  have hki:=hok _ (List.getElem_mem hi')
  have hnew:vs[i]∉vs.take i:=fun hm=>by
   obtain ⟨j,hj⟩:=List.getElem?_of_mem hm
   have hji:=(jQ.mp hj).1
   rw [uK] at hji
   have hji':j<i:=yQ hji (z1K _ _)
   rw [List.getElem?_take,if_pos hji'] at hj
   have:=(z9Z (z7W hji' hi') hnd).mp (hj.trans (nQ hi').symm)
   exact z9W hji' this
  refine wpAny_bind (wpAny_holding (add_ok (s:={ s with heap:=h',toks:=tk }) hps' hki.1 hki.2 hnew (by rw [uK];exact vQ (z1K _ _) (yQ hi' h16)) ?_))
  intro h2 tk2 o2 es2 ep2 t2 L2 hsb hps2
  refine wpAny_pure ⟨plainId_quiet PyProof.Rows.F.plain_set_update_loop _,ih (i+1) _ o2 es2 ep2 t2 L2 (by rw [Nat.sub_add_eq,hk];rfl) hlt (W.frame _ h' _ hst' fun c hc q e=>?_) ?_ ?_⟩
  ·have:c≠S:=by
    rintro rfl
    rcases lQ.mp hc with h | h
    ·exact hSI h
    ·exact hSl (cQ.mp h)
   exact (hsb.2 c this).trans e
  ·rw [List.take_succ_eq_append_getElem hi'];exact hps2
  ·intro h3 tk3 o3 es3 ep3 t3 L3 hk3 hps3
   exact hR h3 tk3 o3 es3 ep3 t3 L3 (fun b q h1 h2 e=>hk3 b q h1 h2 ((hsb.2 b h1).trans (hm b q (fun h=>h2 (cQ.mp h)) e))) hps3
noncomputable def set0 (led:Bool):Obj:={ cls:=.type "set", dict:=none,data:=.set #[] 0 (.fresh 0 0 led) }
theorem new_set (a:Value) {Q₁:Value→Shared→Prop} (h:Q₁ (.ref s.heap.objs.size) { s with heap:=s.heap.push (set0 (!w.params.followText "set-order")) }) :
  codeAny (model prog w) A (.call (.builtin "set.__new__") ⟨[.type "set", a],[]⟩) (wants Q₁ E) s:=by
 refine codeAny_of_tree ?_
 show wpAny _ A.in1 (do checkBuiltinCall "set.__new__" ⟨[.type "set", a],[]⟩;again (.builtin "set.__new__" ⟨[.type "set", a],[]⟩)) _ _ s
 refine wpAny_bind (wpAny_of_eq (PySem.F.newCall_set_1 a) (wpAny_pure ⟨plainId_quiet PySem.F.plain_set_new _,codeAny_builtin PySem.F.entry_set_new ?_⟩))
 rw [Around.under_plainId PySem.F.plain_set_new _]
 unfold Builtin.«set.__new__» Builtin.Frozenset.newClass
 have hsub:=sub_set_self
 obtain ⟨hp,g,d,tk,os⟩:=s
 dsimp only
 wp_walk
 refine wpAny_askSetting (wpAny_pure ?_)
 dsimp only
 simp only [newObj]
 refine wpAny_bind (wpAny_alloc (wpAny_pure ?_))
 exact wpAny_pure h
theorem tab0 (f m:Nat) (led:Bool):Tab (.fresh f m led) #[] []:=⟨rfl,rfl,.nil,rfl,.inl ⟨rfl,sQ _,fun e he=>(nomatch he)⟩⟩
set_option maxHeartbeats 3200000 in
theorem call_set {Q:Value→Shared→Prop} {l:Addr} {items:Array Value} {vs:List Int} (hh:A.handled=none) (hl:s.heap.IsList l items) (hn:items.size=vs.length) (h16:vs.length≤16) (hok:∀ k∈vs,0≤k∧k<16) (hnd:vs.Nodup)
  (hP:∀ (i:Nat) v,items[i]?=some v→∀ k,vs[i]?=some k→∃ t,v=.int k t)
  (h:∀ h' tk o' es' ep' t' L',(∀ b q,s.heap.get? b=some q→h'.get? b=some q)→ISet w h' s.heap.objs.size vs o' es' ep' t' L'→Q (.ref s.heap.objs.size) { s with heap:=h',toks:=tk }) :
  wpAny (model prog w) A (call (.type "set") [.ref l]) Q E s:=by
 refine bc fun zZ=>?_
 obtain ⟨c,tl,hmro⟩:=PySem.F.called_set.mro
 refine zZ ?_;clear zZ
 have hmade:=PySem.F.called_set.made
 have hsub:=PySem.F.called_set.sub
 refine wpAny_call (codeAny_of_tree ?_)
 show wpAny _ _ (callAny (.type "set") _) _ _ _
 refine wpAny_pure ⟨Code.quiet_builtin _ (by decide +kernel),codeAny_builtin PySem.F.entry_type_call ?_⟩
 rw [Around.under_plain (weight_type_call_type "set" [.ref l] []) rfl]
 have h1:=PySem.F.called_set.notType
 have h2:=PySem.F.called_set.canCreate
 have hct:=PySem.F.typeCall_set_1 (.ref l)
 repeat (any_goals (first | assumption | wp_step))
 refine codeAny_mono (new_set (.ref l) (E:=E) (Q₁:=fun obj s₁=>obj=.ref s.heap.objs.size∧s₁={ s with heap:=s.heap.push (set0 (!w.params.followText "set-order")) }) ⟨rfl,rfl⟩) fun r s₁ hr=>?_
 cases r with
 | error e=>exact hr
 | ok fl=>
  cases fl with
  | ret obj=>
   obtain ⟨rfl,rfl⟩:=hr
   generalize hled:(!w.params.followText "set-order")=led
   have hS:(s.heap.push (set0 led)).get? s.heap.objs.size=some (set0 led):=z0W _ rfl
   have hT:Shared.TypeIs { s with heap:=s.heap.push (set0 led) } (.ref s.heap.objs.size) "set" := ⟨_,hS,rfl⟩
   have hli:=PySem.F.called_set.init.lookup
   have hbi:=PySem.F.called_set.init.bind (.ref s.heap.objs.size)
   repeat (any_goals (first | assumption | wp_step))
   refine codeAny_mono (codeAny_call_builtin (R:=wants (fun r s₂=>r=.none∧∃ h' tk o' es' ep' t' L',s₂={ s with heap:=h',toks:=tk }∧(∀ b q,s.heap.get? b=some q→h'.get? b=some q)∧ISet w h' s.heap.objs.size vs o' es' ep' t' L') E) PySem.F.called_set.init.plain PySem.F.entry_set_init (check_set_init_1 hT ?_)) fun r₂ s₂ hr₂=>?_
   ·refine bc fun zZ=>?_
    obtain ⟨ol,hol,hcl,nl,hdl⟩:=hl
    obtain ⟨ocls,odict,odata,oslots⟩:=ol
    refine zZ ?_;clear zZ
    simp only at hcl hdl
    subst hcl;subst hdl
    have hol':(s.heap.push (set0 led)).get? l=some { cls:=.type "list", dict:=odict,data:=.seq items nl,slots:=oslots }:=z7Q _ hol
    have hsls:=PySem.F.sub_list_set
    have hslf:=PySem.F.sub_list_frozenset
    have hne:(Value.type "list" == Value.type "dict")=false:=by decide
    have hl1:(s.heap.push (set0 led)).IsList l items:=⟨_,hol',rfl,nl,rfl⟩
    unfold Builtin.«set.__init__» noKeywords Builtin.Frozenset.updateFrom
    generalize hPI:pyIter=PI
    unfold set0 at hS hT hol' hl1 ⊢
    wp_walk
    subst hPI
    refine wpAny_pyIter_list hl1 ?_
    refine wpAny_bind (wpAny_runValue ?_)
    have hlS:l<s.heap.objs.size:=iW hol
    have hneI:l≠(s.heap.push (set0 led)).objs.size:=by rw [z7K];exact z9W (z8Z hlS)
    have hsI:(s.heap.push (set0 led)).objs.size=s.heap.objs.size+1:=z7K ..
    have kp:∀ b q,s.heap.get? b=some q→((s.heap.push (set0 led)).push { cls:=.type "list_iterator", data:=.fields #[.ref l,.int 0 0] }).get? b=some q:=fun b q e=>z7Q _ (z7Q _ e)
    refine upd_loop (S:=s.heap.objs.size) (vs:=vs) (Walks.list (by simp [hh]) _ l hneI items) (by rw [hsI];exact z9W (nZ _)) (Nat.ne_of_gt hlS) hn h16 hok hnd (fun i v hv p hp=>hP i v hv p hp) (items.size - 0) 0 _ (set0 led) #[] 0 (.fresh 0 0 led) [] rfl (sQ _) ⟨⟨_,z0W _ rfl,rfl,rfl⟩,(hl1.push _)⟩ ?_ ?_
    ·exact ⟨z7Q _ (z0W _ rfl),⟨rfl,rfl,rfl⟩,rfl,tab0 _ _ _,rfl,hled.symm,fun e he=>(nomatch he),.nil,fun p hp=>(nomatch hp),tW⟩
    ·intro h' tk o' es' ep' t' L' hk hps
     refine wpAny_pure ?_
     show wpAny _ _ (ret Value.none) _ _ _
     refine wpAny_pure ⟨rfl,h',tk,o',es',ep',t',L',rfl,fun b q e=>hk b q ?_ ?_ (kp b q e),hps⟩
     ·exact z9W (iW e)
     ·rw [hsI];exact z9W (z8Z (iW e))
   ·cases r₂ with
    | error e=>exact hr₂
    | ok fl₂=>
     cases fl₂ with
     | ret r=>
      refine bc fun zZ=>?_
      obtain ⟨rfl,h',tk,o',es',ep',t',L',rfl,hk',hps⟩:=hr₂
      refine zZ ?_;clear zZ
      have hT2:Shared.TypeIs { s with heap:=h',toks:=tk } (.ref s.heap.objs.size) "set" := ⟨_,hps.at',hps.ex.1⟩
      repeat (any_goals (first | assumption | wp_step))
      exact h h' tk o' es' ep' t' L' hk' hps
     | _=>exact hr₂.elim
  | _=>exact hr.elim
end
end Fl
namespace Fl
open PySem PyProof.Rows
set_option maxRecDepth 100000
theorem own_si:Manifest.owners.lookup (String.ofList ['r', 'o', 't', 'a', 'r', 'e', 't', 'i', '_', 't', 'e', 's'].reverse)=some Manifest.sig_set_iterator:=by kernel_rfl
theorem b5A:Slot "set_iterator" "__next__" "set_iterator.__next__" :=
 .of (owner:= "set_iterator") (n:= "__next__") (by rw [typeLookup_type,builtinLookup_eq_fast];kernel_rfl) (by decide +kernel) (by decide +kernel) (by decide +kernel)
  (by first | exact .inl (by decide +kernel) | exact .inr (by decide +kernel)) (by rw [isSubtype_type];kernel_rfl)
theorem l0C:entryFor table "set_iterator.__next__" = some Builtin.«set_iterator.__next__» := entryFor_of_tree (by kernel_rfl)
theorem e1C (a:Value):argsOk "set_iterator.__next__" ⟨[a],[]⟩:=by
 unfold argsOk;rw [signature?_of (id:= "set_iterator.__next__") (n:=['_', '_', 't', 'x', 'e', 'n', '_', '_']) (o:=['r', 'o', 't', 'a', 'r', 'e', 't', 'i', '_', 't', 'e', 's']) (by kernel_rfl) own_si];kernel_rfl
theorem k7B:Slot "set_iterator" "__iter__" "set_iterator.__iter__" :=
 .of (owner:= "set_iterator") (n:= "__iter__") (by rw [typeLookup_type,builtinLookup_eq_fast];kernel_rfl) (by decide +kernel) (by decide +kernel) (by decide +kernel)
  (by first | exact .inl (by decide +kernel) | exact .inr (by decide +kernel)) (by rw [isSubtype_type];kernel_rfl)
theorem ar_iter (a:Value):argsOk "set_iterator.__iter__" ⟨[a],[]⟩:=by
 unfold argsOk;rw [signature?_of (id:= "set_iterator.__iter__") (n:=['_', '_', 'r', 'e', 't', 'i', '_', '_']) (o:=['r', 'o', 't', 'a', 'r', 'e', 't', 'i', '_', 't', 'e', 's']) (by kernel_rfl) own_si];kernel_rfl
theorem en_iter:entryFor table "set_iterator.__iter__" = some Builtin.«dict_keyiterator.__iter__» :=
 entryFor_alias (id':= "dict_keyiterator.__iter__") (by kernel_rfl) (by first | rfl | decide +kernel | (unfold String.splitOn;simp +decide [String.splitOnAux])) (by decide +kernel) (by kernel_rfl)
theorem en_set:entryFor table "set.__iter__" = some Builtin.«frozenset.__iter__» :=
 entryFor_alias (id':= "frozenset.__iter__") (by kernel_rfl) rfl (by decide +kernel) (by kernel_rfl)
theorem pgo0 {α:Type} (next:Nat→Nat) (k:Nat) (left:List α) (out:Array α):pickOrder.go next 0 k left out=out:=rfl
theorem pgo1 {α:Type} (next:Nat→Nat) (f k:Nat) (left:List α) (out:Array α):pickOrder.go next (f+1) k left out=(match left[next k % left.length]? with
  | some x=>pickOrder.go next f (k+1) (left.eraseIdx (next k % left.length)) (out.push x)
  | none=>out):=rfl
theorem a8B {α:Type} (next:Nat→Nat):∀ (fuel k:Nat) (left:List α) (out:Array α),fuel=left.length→(pickOrder.go next fuel k left out).toList.Perm (out.toList++left)
 | 0,k,left,out,h=>by
  have:left=[]:=List.length_eq_zero_iff.mp h.symm
  subst this
  rw [pgo0];simp
 | fuel+1,k,left,out,h=>by
  have hlt:next k % left.length<left.length:=Nat.mod_lt _ (h ▸ vZ fuel)
  rw [pgo1,nQ hlt]
  dsimp only
  refine (a8B next fuel (k+1) _ _ (by rw [List.length_eraseIdx_of_lt hlt,← h];rfl)).trans ?_
  rw [Array.toList_push,kQ]
  refine List.Perm.append_left _ ?_
  show (left[next k % left.length]::left.eraseIdx (next k % left.length)).Perm left
  rw [z1W]
  refine (xZ (l₁:=left.take (next k % left.length))).symm.trans ?_
  rw [← sW hlt,kW]
theorem z7B {α:Type} (next:Nat→Nat) (xs:Array α):(pickOrder next xs).toList.Perm xs.toList:=by
 have:=a8B next xs.size 0 xs.toList #[] (by simp)
 simpa [pickOrder] using this
section
variable {prog:Program} {w:World} {A:Around} {E:Value→Shared→Prop} {s:Shared} {S:Addr} {o:Obj} {es:Array (Int×Value)} {ep:Nat} {t:SetTable} {L:List Ent}
noncomputable def k4A (w:World) (S:Addr) (ep:Nat) (es:Array (Int×Value)):List (Int×Value):=if w.params.followText "set-order" then (pickOrder (w.params.setOrder S ep) es).toList else es.toList
theorem i6A:(k4A w S ep es).Perm es.toList:=by
 unfold k4A
 split
 ·exact z7B _ _
 ·exact .refl _
noncomputable def siO (S:Addr) (slot i n ep:Nat):Obj:={ cls:=.type "set_iterator", data:=.fields #[rawInt slot,rawInt i,.ref S,rawInt n,rawInt ep] }
noncomputable def SiSt (w:World) (J S:Addr) (o:Obj) (es:Array (Int×Value)) (ep:Nat) (t:SetTable) (i:Nat) (h:Heap):Prop:=
 h.get? S=some o∧∃ slot,h.get? J=some (siO S slot i es.size ep)∧(w.params.followText "set-order" = false→SetTable.below t.place slot=i)
theorem j6B (T:Tab t es L) {i:Nat} {e:Ent} (h:L[i]?=some e):SetTable.below t.place (e.1+1)=i+1:=by
 have hi:=(jQ.mp h).1
 have hei:=(jQ.mp h).2
 have B:=g6A T.pl T.so (e.1+1)
 rcases Nat.lt_trichotomy (SetTable.below t.place (e.1+1)) (i+1) with q | q | q
 ·have hm:e∈L.drop (SetTable.below t.place (e.1+1)):=wQ (i:=i - SetTable.below t.place (e.1+1)) (by rw [List.getElem?_drop,aW (rW q)];exact h)
  exact absurd (B.2.2 _ hm) (Nat.not_succ_le_self _)
 ·exact q
 ·have hl:i+1<L.length:=yQ q B.1
  have hm:L[i+1]∈L.take (SetTable.below t.place (e.1+1)):=wQ (i:=i+1) (by rw [List.getElem?_take,if_pos q];exact nQ hl)
  have h1:=B.2.1 _ hm
  have h2:=(List.pairwise_iff_getElem.mp T.so) i (i+1) hi hl (nZ _)
  rw [hei] at h2;exact absurd (yQ h2 (rW h1)) (wW _)
theorem y3B {Q:Option (Value×Nat)→Shared→Prop} {slot i:Nat} (ho:s.heap.get? S=some o) (hd:o.data=.set es ep t) (T:Tab t es L) (hpl:t.plain=true) (hled:t.led=!w.params.followText "set-order") (hb:w.params.followText "set-order" = false→SetTable.below t.place slot=i)
  (h1:∀ y slot',(k4A w S ep es)[i]?=some y→(w.params.followText "set-order" = false→SetTable.below t.place slot'=i+1)→Q (some (y.2,slot')) s) (h2:(k4A w S ep es)[i]?=none→Q none s) :
  wpAny (model prog w) A (setNext S slot i ep) Q E s:=by
 have hf:=u3A T
 unfold setNext
 refine wpAny_bind (wpAny_setState_of ho hd hf ?_)
 dsimp only
 refine wpAny_bind ?_
 unfold setsByText
 refine wpAny_bind (wpAny_askSetting (wpAny_pure ?_))
 show wpAny _ _ (if w.params.followText "set-order" = true then _ else _) _ _ _
 unfold k4A at h1 h2
 cases hbt:w.params.followText "set-order" with
 | true=>
  rw [hbt] at h1 h2
  rw [if_pos rfl] at h2
  simp only [if_true] at h1
  rw [if_pos rfl,if_neg (by simp)]
  refine wpAny_bind ?_
  unfold setWalk
  refine wpAny_bind (wpAny_setState_of ho hd hf ?_)
  dsimp only
  refine wpAny_bind ?_
  unfold setsByText
  refine wpAny_bind (wpAny_askSetting (wpAny_pure ?_))
  show wpAny _ _ (if w.params.followText "set-order" = true then _ else _) _ _ _
  rw [hbt,if_pos rfl]
  refine wpAny_bind (wpAny_askSetting (wpAny_pure ?_))
  refine wpAny_pure ?_
  show Q (((pickOrder (w.params.setOrder S ep) es)[i]?).map fun e=>(e.2,slot)) s
  rw [lW] at h1 h2
  cases hc:(pickOrder (w.params.setOrder S ep) es)[i]? with
  | none=>exact h2 hc
  | some y=>exact h1 y slot hc (fun e=>nomatch e)
 | false=>
  rw [hbt] at h1 h2 hled
  simp only [fW,if_false] at h1 h2
  rw [if_neg mZ]
  have hb:=hb hbt
  have hl:t.led=true:=hled
  refine wpAny_ite_split (fun hab=>absurd (show (!t.plain && decide (es.size > 1))=true from hab) (by rw [hpl];simp)) (fun _=>?_)
  refine wpAny_bind ?_
  show wpAny _ _ (if (!t.led && !es.isEmpty)=true then unsupported "set:maker-not-led" else pure ()) _ _ _
  rw [hl,if_neg (by simp)]
  refine wpAny_pure (wpAny_pure ?_)
  rw [hb]
  rw [lW] at h1 h2
  cases hc:L[i]? with
  | none=>
   have e1:es[i]?=none:=by rw [← lW,T.es,oQ,hc];rfl
   rw [e1]
   exact h2 e1
  | some e=>
   have e1:=es_at T hc
   have e2:t.place[i]?=some e.1:=by rw [← lW,T.pl,oQ,hc];rfl
   rw [e1,e2]
   exact h1 e.2 (e.1+1) e1 fun _=>j6B T hc
theorem iter_set {Q:Value→Shared→Prop} (ho:s.heap.get? S=some o) (hex:o.ExactSet) (hd:o.data=.set es ep t) (T:Tab t es L) (hpl:t.plain=true) (h:Q (.ref s.heap.objs.size) { s with heap:=s.heap.push (siO S 0 0 es.size ep) }) :
  wpAny (model prog w) A (pyIter (.ref S)) Q E s:=by
 have hf:=u3A T
 have hT:s.TypeIs (.ref S) "set" := ⟨o,ho,hex.1⟩
 refine wpAny_pyIter_slot hT PySem.F.slot_set_iter (wpAny_call_entry PySem.F.slot_set_iter hT en_set ?_ (PySem.F.args_set_iter_1 _))
 unfold Builtin.«frozenset.__iter__» Builtin.Frozenset.slot0 slotArgs
 simp only [List.isEmpty_nil,Bool.not_true,fW,↓reduceIte,bind_assoc,List.length_nil,bne_self_eq_false]
 unfold Builtin.Frozenset.addrOf Builtin.Frozenset.sizeOf
 refine wpAny_bind (wpAny_pure ?_)
 try dsimp only
 refine wpAny_bind (wpAny_pure ?_)
 refine wpAny_bind (wpAny_bind (wpAny_setEntries_of ho hd hf (wpAny_pure ?_)))
 refine wpAny_bind ?_
 unfold setDrawn
 refine wpAny_bind (wpAny_setState_of ho hd hf ?_)
 dsimp only
 unfold setsByText
 refine wpAny_bind (wpAny_bind (wpAny_askSetting (wpAny_pure ?_)))
 refine wpAny_pure ?_
 refine wpAny_ite_split (fun hab=>absurd ((z4Q _ _).mp hab).2 (fun hx=>absurd (show (!t.plain && decide (es.size > 1))=true from hx) (by rw [hpl];simp))) (fun _=>?_)
 refine wpAny_bind (wpAny_pure ?_)
 refine wpAny_bind (wpAny_setEpoch_of ho hd hf ?_)
 refine wpAny_bind (wpAny_newObj_type ?_)
 exact wpAny_pure ⟨_,rfl, "set_iterator", _,⟨_,z0W _ rfl,rfl⟩,b5A.lookup,h⟩
theorem i8B {Q:Option Value→Shared→Prop} {J:Addr} {i:Nat} (hJS:S≠J) (hd:o.data=.set es ep t) (T:Tab t es L) (hpl:t.plain=true) (hled:t.led=!w.params.followText "set-order") (hst:SiSt w J S o es ep t i s.heap) (hi:i<es.size)
  (hQ:∀ v h',(∃ y,(k4A w S ep es)[i]?=some y∧v=y.2)→SiSt w J S o es ep t (i+1) h'→Heap.SameBut J s.heap h'→Q (some v) { s with heap:=h' }):wpAny (model prog w) A (pyNext (.ref J)) Q E s:=by
 obtain ⟨ho,slot,hJ,hb⟩:=hst
 have hf:=u3A T
 have hT:s.TypeIs (.ref J) "set_iterator" := ⟨_,hJ,rfl⟩
 have hlen:(k4A w S ep es).length=es.size:=(i6A (w:=w) (S:=S) (ep:=ep) (es:=es)).length_eq.trans (dW ..)
 unfold pyNext
 refine wpAny_bind (wpAny_attempt (wpAny_callSpecial?_slot (name:=Str.ofString "__next__") hT b5A (wpAny_call_entry b5A hT l0C ?_ (e1C _))))
 unfold Builtin.«set_iterator.__next__»
 refine wpAny_bind (wpAny_of_eq (a:=(Value.ref J,[])) rfl ?_)
 try dsimp only
 refine wpAny_bind (wpAny_fieldsOf hJ rfl ?_)
 show wpAny _ _ (setEntries S >>= _) _ _ s
 refine wpAny_bind (wpAny_setEntries_of ho hd hf ?_)
 show wpAny _ _ (if ((es.size:Int) != (es.size:Int))=true then _ else _) _ _ _
 rw [if_neg (by simp)]
 show wpAny _ _ (setNext S slot i ep >>= _) _ _ _
 refine wpAny_bind (y3B ho hd T hpl hled hb (fun y slot' hy hb'=>?_) (fun hn=>?_))
 ·refine wpAny_bind (wpAny_setField_rec hJ (by simp) fun h1 hg1 hs1=>?_)
  refine wpAny_bind (wpAny_setField_rec hg1 (by simp) fun h2 hg2 hs2=>?_)
  refine wpAny_pure ⟨_,rfl,wpAny_pure (hQ y.2 h2 ⟨y,hy,rfl⟩ ⟨?_,slot',?_,hb'⟩ (hs1.trans hs2))⟩
  ·exact (hs2.2 _ hJS).trans ((hs1.2 _ hJS).trans ho)
  ·exact hg2
 ·rw [dZ] at hn;exact absurd hi (by rw [← hlen];exact z6W.mpr hn)
theorem next_end {Q:Option Value→Shared→Prop} {J:Addr} (hh:A.handled=none) (hd:o.data=.set es ep t) (T:Tab t es L) (hpl:t.plain=true) (hled:t.led=!w.params.followText "set-order") (hst:SiSt w J S o es ep t es.size s.heap)
  (hQ:∀ h',Heap.ExtBut J s.heap h'→Q none { s with heap:=h' }):wpAny (model prog w) A (pyNext (.ref J)) Q E s:=by
 obtain ⟨ho,slot,hJ,hb⟩:=hst
 have hf:=u3A T
 have hT:s.TypeIs (.ref J) "set_iterator" := ⟨_,hJ,rfl⟩
 have hlen:(k4A w S ep es).length=es.size:=(i6A (w:=w) (S:=S) (ep:=ep) (es:=es)).length_eq.trans (dW ..)
 unfold pyNext
 refine wpAny_bind (wpAny_attempt (wpAny_callSpecial?_slot (name:=Str.ofString "__next__") hT b5A (wpAny_call_entry b5A hT l0C ?_ (e1C _))))
 unfold Builtin.«set_iterator.__next__»
 refine wpAny_bind (wpAny_of_eq (a:=(Value.ref J,[])) rfl ?_)
 try dsimp only
 refine wpAny_bind (wpAny_fieldsOf hJ rfl ?_)
 show wpAny _ _ (setEntries S >>= _) _ _ s
 refine wpAny_bind (wpAny_setEntries_of ho hd hf ?_)
 show wpAny _ _ (if ((es.size:Int) != (es.size:Int))=true then _ else _) _ _ _
 rw [if_neg (by simp)]
 show wpAny _ _ (setNext S slot es.size ep >>= _) _ _ _
 refine wpAny_bind (y3B ho hd T hpl hled hb (fun y slot' hy hb'=>?_) (fun hn=>?_))
 ·exact absurd (jQ.mp hy).1 (by rw [hlen];exact wW _)
 ·refine wpAny_bind (wpAny_setField_rec hJ (by simp) fun h1 hg1 hs1=>?_)
  refine x7A (A:=A.in1) hh fun a h' hk hT=>?_
  refine wpAny_bind (wpAny_isInstance (T:= "StopIteration") (b:=true) hT isSubtype_stop ?_)
  exact wpAny_pure (hQ _ fun b o hb e=>hk b o (hs1.extBut b o hb e))
theorem si_walks {J:Addr} (hh:A.handled=none) (hJS:S≠J) (hd:o.data=.set es ep t) (T:Tab t es L) (hpl:t.plain=true) (hled:t.led=!w.params.followText "set-order") :
  Walks prog w A J [J,S] [J] es.size (fun i v=>∃ y,(k4A w S ep es)[i]?=some y∧v=y.2) (SiSt w J S o es ep t) where
 sub:=fun b hb=>by simp at hb;simp [hb]
 frame:=fun i h h' x hk=>⟨hk S (by simp) _ x.1,x.2.imp fun slot q=>⟨hk J (by simp) _ q.1,q.2⟩⟩
 item:=fun i s Q E hi x hQ=>i8B hJS hd T hpl hled x hi fun v h' hy st hs=>hQ v h' s.toks hy st fun b q hb e=>hs.extBut b q (fun h=>hb (by simp [h])) e
 done:=fun s Q E x hQ=>next_end hh hd T hpl hled x fun h' he=>hQ h' s.toks fun b q hb e=>he b q (fun h=>hb (by simp [h])) e
 self:=fun i s Q E x hQ=>by
  obtain ⟨_,slot,hJ,_⟩:=x
  have hT:s.TypeIs (.ref J) "set_iterator" := ⟨_,hJ,rfl⟩
  refine wpAny_pyIter_slot hT k7B (wpAny_call_entry k7B hT en_iter ?_ (ar_iter _))
  show wpAny _ _ (ret (.ref J)) _ _ s
  exact wpAny_pure ⟨_,rfl, "set_iterator", _,hT,b5A.lookup,hQ⟩
end
end Fl
namespace Fl
open PySem PyProof.Rows PySem.W
set_option maxRecDepth 100000
section
variable {B:Bs} {Z:Zm} {C:a0A} {Ar:Around} {env:Env} {F:Value→Shared→Prop} {S:Addr} {ps:List Int} {o:Obj} {es:Array (Int×Value)} {ep:Nat} {t:SetTable} {L:List Ent}
theorem hint_set {A:Around} {E:Value→Shared→Prop} {s:Shared} {r:Addr} {Q:Bool→Shared→Prop} (hT:s.TypeIs (.ref r) "set") (h:Q false s):wpAny (model B.prog B.w) A (Builtin.List.listLengthHint (.ref r)) Q E s:=by
 unfold Builtin.List.listLengthHint
 refine wpAny_bind (wpAny_specialOf hT PySem.F.slot_set_len.lookup ?_)
 generalize hid:("set.__len__" : String)=id0
 wp_delta
 rw [show splitId id0=some ("set", "__len__") from by subst hid;decide +kernel]
 subst hid
 refine wpAny_bind (wpAny_isInstance (T:= "set") (b:=true) hT (by rw [isSubtype_type];kernel_rfl) ?_)
 refine wpAny_ite_split (fun hab=>absurd hab (by decide)) (fun _=>?_)
 refine wpAny_ite_split (fun _=>?_) (fun hab=>absurd (by decide +kernel) hab)
 refine wpAny_bind (wpAny_typeOf hT ?_)
 exact wpAny_pure h
theorem set_src (hex:o.ExactSet) (hd:o.data=.set es ep t) (T:Tab t es L) (hpl:t.plain=true) (hled:t.led=!B.w.params.followText "set-order") :
  KdlSrc B.prog B.w "set" S S es.size (fun i v=>∃ y,(k4A B.w S ep es)[i]?=some y∧v=y.2) (fun h=>h.get? S=some o) where
 type:=fun s ok=>⟨o,ok,hex.1⟩
 there:=fun h ok=>⟨iW ok,iW ok⟩
 keep:=fun h h' ok hk=>hk S (.inl rfl) _ ok
 notList:=by decide
 notTuple:=by decide
 hint:=fun A E s Q ok hq=>hint_set ⟨o,ok,hex.1⟩ hq
 iter:=fun A s hh ok=>⟨siO S 0 0 es.size ep,SiSt B.w s.heap.objs.size S o es ep t,fun E Q hq=>iter_set ok hex hd T hpl hq,si_walks hh (z9W (iW ok)) hd T hpl hled,
  z7Q _ ok,0,z0W _ rfl,fun _=>by
   obtain ⟨hl,hx,_⟩:=g6A T.pl T.so 0
   cases hb:SetTable.below t.place 0 with
   | zero=>rfl
   | succ k=>
    rw [hb] at hx hl
    exact absurd (hx (L[0]'(yQ (vZ k) hl)) (wQ (i:=0) (by rw [List.getElem?_take,if_pos (Nat.zero_lt_succ _)];exact nQ _))) (z5Z _)⟩
theorem m5B {xs ys:List V} (hs:j0A xs=true) (hp:ys.Perm xs):a2A ys=a2A xs:=
 q7A hs ((List.mergeSort_perm _ _).trans hp) (List.pairwise_mergeSort (fun a b c=>vle_tr a b c) (fun a b=>f0B a b) ys)
theorem j9B (qs:List Int):j0A (qs.map V.int)=true:=by
 unfold j0A
 rw [Bool.or_eq_true]
 refine .inl ?_
 rw [List.all_map,z2Q]
 intro q _;rfl
theorem k9B:∀ {xs:List V},xs.all isInt=true→xs=(xs.map t0A).map V.int
 | [],_=>rfl
 | x::xs,h=>by
  rw [z7Z,z4Q] at h
  exact List.cons_eq_cons.mpr ⟨v0A h.1,k9B h.2⟩
theorem lok_sset {a:E} {e:Expr} {p p' pos pos':Pos} (O:BOk B) (hh:Ar.handled=none) (hk:env.kindOf (Str.ofString "sorted")=some .globalImplicit) (hk':env.kindOf (Str.ofString "set")=some .globalImplicit) (hu:n1A e=true) (ha:EOk B C Ar env a e) :
  LOk B C Ar env (.sset a) (.Call (.Name (Str.ofString "sorted") p) [.Call (.Name (Str.ofString "set") p') [e] [] pos'] [] pos):=by
 intro Z N ρ σ m s K Q F I Fr hx P
 rw [xL_sset] at hx
 have hE:EsOk B C Ar env [a] [e]:=.cons ha hu .nil
 refine wpAny_Call_NameR (n3A I Fr (O.at "sorted" (.builtin "sorted") rfl) hk (by decide +kernel) ?_)
 have hp:(backTo pos (starEach [.Call (.Name (Str.ofString "set") p') [e] [] pos'] env)).any (·.1)=false:=q0A rfl
 refine Calls.callWith_builtin hp ?_
 have h':wpAny (model B.prog B.w) Ar (spliced (backTo pos (starEach [.Call (.Name (Str.ofString "set") p') [e] [] pos'] env))) (fun vs s'=>wpAny (model B.prog B.w) Ar (call (.builtin "sorted") ([]++vs) []) Q F s') F s:=by
  refine args_cons (s1B (K:=fun as σ=>get (one1 as) fun va=>get (y0A σ va) fun xs=>(xs.all isInt=true∧(xs.map t0A).Nodup)∧(∀ k∈xs.map t0A,0≤k∧k<16)∧(small (a2A xs)∧K (a2A xs) σ)) (O.at "set" (.type "set") rfl) hk' (by decide +kernel) (.inr ⟨_,rfl⟩) hE I Fr (show xEs C [a] m σ _ from hx) ?_) (k0A rfl)
  intro as vs Z1 ρ1 σ1 h1 t1 hl hx1 e1 p1 I1 R1
  refine bc fun zZ=>?_
  obtain ⟨va,rfl⟩:=cJ.mp hl
  obtain ⟨v,rfl,Ra⟩:=a4A R1
  refine zZ ?_;clear zZ
  have hx1:get (y0A σ1 va) fun xs=>(xs.all isInt=true∧(xs.map t0A).Nodup)∧(∀ k∈xs.map t0A,0≤k∧k<16)∧(small (a2A xs)∧K (a2A xs) σ1):=hx1
  refine getE hx1 fun xs hs zQ=>?_
  refine bc fun zZ=>?_
  obtain ⟨⟨hall,hnd⟩,hrg,hsm,hK⟩:=zQ
  obtain ⟨l,items,n,rfl,hg,hlt',hr'⟩:=b1A I1 Ra hs
  refine zZ ?_;clear zZ
  have hlen:=f0A hr'
  have hxs:=k9B hall
  have h16:(xs.map t0A).length≤16:=by
   have:=b0A (D:=(List.range 16).map fun (k:Nat)=>(k:Int)) hnd fun k hk=>qQ.mpr ⟨k.toNat,lK.mpr ((Int.toNat_lt (hrg k hk).1).mpr (hrg k hk).2),nW (hrg k hk).1⟩
   rw [eQ (as:=List.range 16),mK] at this
   exact this
  refine call_set (items:=items.toArray) (vs:=xs.map t0A) hh (i0A hg) (by rw [z4W,eQ];exact hlen) h16 hrg hnd (fun i w hw k hk=>?_) ?_
  ·rw [oQ] at hk
   refine bc fun zZ=>?_
   obtain ⟨x,hx,rfl⟩:=xQ.mp hk
   obtain ⟨w',hw',Rw⟩:=a1A hr' hx
   refine zZ ?_;clear zZ
   rw [eJ,hw'] at hw
   obtain rfl:=pQ hw
   rw [v0A (z2Q.mp hall x (wQ hx))] at Rw
   exact Rw
  intro h2 tk o es ep t L hk2 PS
  refine args_nil ?_
  have hwp:=i6A (w:=B.w) (S:=h1.objs.size) (ep:=ep) (es:=es)
  have hqp:((k4A B.w h1.objs.size ep es).map (·.1)).Perm (xs.map t0A):=by
   refine (hwp.map _).trans ?_
   rw [PS.tab.es,fZ]
   exact PS.pm
  have hvs:a2A (((k4A B.w h1.objs.size ep es).map (·.1)).map V.int)=a2A xs:=by
   rw [hxs]
   refine m5B (j9B _) (List.Perm.map _ (hxs ▸ hqp))
  have hlw:(k4A B.w h1.objs.size ep es).length=es.size:=hwp.length_eq.trans dW
  have hes:es.size≤16:=by
   have:=hqp.length_eq
   rw [eQ,hlw] at this
   rw [this];exact h16
  have I2:=I1.keeps (h':=h2) hk2
  refine m0B (s:={ s with heap:=h1,toks:=t1 }) (h1:=h2) (t1:=tk) I2 (j9B ((k4A B.w h1.objs.size ep es).map (·.1))) (by rw [eQ,eQ,hlw];exact vQ hes (by decide)) ?_ ?_
  ·intro b its k h3 tk3 I3 R3
   rw [hvs] at R3
   exact P _ _ _ _ Z1 ρ1 σ1 h3 tk3 hsm hK e1 p1 I3 R3
  ·intro Q' hq
   refine kdu_collect (s:={ s with heap:=h2,toks:=tk }) (set_src PS.ex PS.da PS.tab PS.pl PS.led) hh PS.at' (dQ hes (by rw [sizeLine_eq];decide)) fun h3 tk3 acc hk3 hacc=>?_
   refine hq acc.toList h3 tk3 ?_ hk3
   obtain ⟨a1,a2⟩:=hacc
   refine o3B.mpr ⟨(dW.trans a1).trans ((eQ _).trans ((eQ _).trans hlw)).symm,fun j x hx=>?_⟩
   rw [fZ,oQ] at hx
   refine bc fun zZ=>?_
   obtain ⟨y,hy,rfl⟩:=xQ.mp hx
   refine zZ ?_;clear zZ
   have hj:j<acc.size:=by rw [a1,← hlw];exact (jQ.mp hy).1
   refine bc fun zZ=>?_
   obtain ⟨y',hy',hv⟩:=a2 j _ (eZ hj)
   refine zZ ?_;clear zZ
   rw [hy] at hy'
   obtain rfl:=pQ hy'
   refine ⟨_,by rw [lW];exact eZ hj,?_⟩
   rw [hv]
   have hm:y∈es.toList:=hwp.mem_iff.mp (wQ hy)
   rw [PS.tab.es] at hm
   refine bc fun zZ=>?_
   obtain ⟨z,hz,rfl⟩:=qQ.mp hm
   obtain ⟨tk',e2⟩:=PS.en z hz
   refine zZ ?_;clear zZ
   exact ⟨tk',e2⟩
 rw [k0A rfl] at h' ⊢
 exact Calls.evalArgs_plain h'
end
end Fl
namespace Fl
open PySem PyProof.Rows
section
variable {G:Array Keyed→Prop} {prog:Program} {w:World} {A:Around} {E:Value→Shared→Prop} {s:Shared} {κ:SortKind} {a₀:Array Keyed} {st:SortSt} {pd:Array (Nat×Nat×Nat)}
noncomputable def Cmps (prog:Program) (w:World) (A:Around) (s:Shared) (κ:SortKind) (a₀:Array Keyed):Prop:=
 ∀ x∈a₀,∀ y∈a₀,∀ C:Bool→Shared→Prop,(∀ b,C b s)→wpAny (model prog w) A (keyLt' κ x.1 y.1) C (fun _ _=>False) s
structure Js (κ:SortKind) (G:Array Keyed→Prop) (pd:Array (Nat×Nat×Nat)) (st:SortSt):Prop where
 pm:G (arrOf st)
 fl:failedOf st=none
 kd:kindOf st=κ
 pd:pendingOf st=pd
theorem Js.size (J:Js κ (·.Perm a₀) pd st):(arrOf st).size=a₀.size:=J.pm.size_eq
theorem Js.arr (J:Js κ (·.Perm a₀) pd st) {xs:Array Keyed} (h:xs.Perm (arrOf st)):Js κ (·.Perm a₀) pd (setArr st xs):=⟨h.trans J.pm,J.fl,J.kd,J.pd⟩
theorem t0B {x y:Keyed} {Q:Option Bool→SortSt→Prop} (hc:Cmps prog w A s κ a₀) (J:Js κ G pd st) (hx:x∈a₀) (hy:y∈a₀) (h:∀ b,Q (some b) st):wpS (model prog w) A E s (lt' x y) Q st:=by
 rw [lt'_eq]
 refine wpS_bind (wpS_get ?_)
 rw [J.kd]
 refine wpS_bind (wpS_lift (wpAny_attempt (wpAny_mono (hc x hx y hy (fun _ s'=>s'=s) fun _=>rfl) ?_ fun _ _ e=>e.elim)))
 rintro b s' rfl
 exact ⟨rfl,wpS_pure (h b)⟩
theorem h1A {arr:Array Keyed} {i:Nat} {Q:Keyed→SortSt→Prop} (hi:i<arr.size) (h:∀ x∈arr,arr[i]?=some x→Q x st):wpS (model prog w) A E s (elem' arr i) Q st:=by
 rw [elem'_eq,eZ hi]
 exact wpS_pure (h _ (Array.getElem_mem hi) (eZ hi))
theorem g5B {i j:Nat} {Q:Option Bool→SortSt→Prop} (hc:Cmps prog w A s κ a₀) (J:Js κ (·.Perm a₀) pd st) (hi:i<a₀.size) (hj:j<a₀.size) (h:∀ b,Q (some b) st):wpS (model prog w) A E s (ltAt' i j) Q st:=by
 rw [ltAt'_eq]
 refine wpS_bind (wpS_get ?_)
 refine wpS_bind (h1A (by rw [J.size];exact hi) fun x hx _=>?_)
 refine wpS_bind (h1A (by rw [J.size];exact hj) fun y hy _=>?_)
 exact t0B hc J (J.pm.mem_iff.mp hx) (J.pm.mem_iff.mp hy) h
theorem d2B {i j:Nat} {Q:Unit→SortSt→Prop} (J:Js κ (·.Perm a₀) pd st) (h:∀ st',Js κ (·.Perm a₀) pd st'→Q () st'):wpS (model prog w) A E s (reverseSlice' i j) Q st:=
 wpS_reverse (h _ (J.arr (mirror_perm _ _ _ _)))
theorem r7B {α:Type} {c:Prop} [Decidable c] {i j:Nat} {D:StateT SortSt Sem α} {Q:α→SortSt→Prop} (J:Js κ (·.Perm a₀) pd st) (h:∀ st',Js κ (·.Perm a₀) pd st'→wpS (model prog w) A E s D Q st') :
  wpS (model prog w) A E s (if c then reverseSlice' i j >>= fun _=>D else D) Q st:=by
 split
 ·exact wpS_bind (d2B J fun st' J'=>h st' J')
 ·exact h st J
theorem p1A {α:Type} {b:Bool} {x y:StateT SortSt Sem α} {Q:α→SortSt→Prop} (h1:wpS (model prog w) A E s x Q st) (h2:wpS (model prog w) A E s y Q st):wpS (model prog w) A E s (if b=true then x else y) Q st:=by
 cases b
 ·exact h2
 ·exact h1
theorem g0A {α:Type} {c:Prop} [Decidable c] {x y:StateT SortSt Sem α} {Q:α→SortSt→Prop} (h1:c→wpS (model prog w) A E s x Q st) (h2:¬ c→wpS (model prog w) A E s y Q st):wpS (model prog w) A E s (if c then x else y) Q st:=by
 split
 ·exact h1 ‹_›
 ·exact h2 ‹_›
theorem a1 {lo x n N:Nat} (h:lo+n≤N) (hx:x<n):lo+x<N:=yQ (Nat.add_lt_add_left hx lo) h
theorem a2 {lo x n N:Nat} (h:lo+n≤N) (hx:x<n):lo+x - 1<N:=vQ (pK _ _) (a1 h hx)
theorem ask1 {β:Type} {i j:Nat} {x y z:β} {Q:ForInStep β→SortSt→Prop} (hc:Cmps prog w A s κ a₀) (J:Js κ (·.Perm a₀) pd st) (hi:i<a₀.size) (hj:j<a₀.size) (h1:Q (.done x) st) (h2:Q (.yield y) st) :
  wpS (model prog w) A E s (do
   let r ← ltAt' i j
   match r with
   | some b=>if b=true then pure (.done x) else pure (.yield y)
   | _=>pure (.done z)) Q st:=
 wpS_bind (g5B hc J hi hj fun _=>p1A (wpS_pure h1) (wpS_pure h2))
theorem s0C {lo nrem:Nat} {Q:Option Nat→SortSt→Prop} (hc:Cmps prog w A s κ a₀) (J:Js κ (·.Perm a₀) pd st) (h1:1≤nrem) (hn:lo+nrem≤a₀.size) (h:∀ m st',Js κ (·.Perm a₀) pd st'→1≤m→m≤nrem→Q (some m) st') :
  wpS (model prog w) A E s (countRun' lo nrem) Q st:=by
 rw [countRun'_eq]
 refine wpS_bind (wpS_mono (wpS_forRange (I:=fun x c st'=>st'=st∧c=(none,x)) (Q:=fun c st'=>st'=st∧∃ m,1≤m∧m≤nrem∧c=(none,m)) ?_ ?_ ⟨rfl,rfl⟩) ?_)
 ·rintro x c st' hx hxn ⟨rfl,rfl⟩
  exact ask1 hc J (a1 hn hxn) (a2 hn hxn) ⟨rfl,x,hx,z8Q hxn,rfl⟩ ⟨rfl,rfl⟩
 ·rintro c st' ⟨rfl,rfl⟩
  rw [z9K h1]
  exact ⟨rfl,nrem,h1,uQ _,rfl⟩
 ·rintro c st' ⟨rfl,m,hm1,hmn,rfl⟩
  have key:∀ D:StateT SortSt Sem (Option Nat),(m<nrem→∀ st'',Js κ (·.Perm a₀) pd st''→wpS (model prog w) A E s D Q st'')→wpS (model prog w) A E s (if (m == nrem)=true then pure (some m) else if m > 1 then (do
    let r ← ltAt' lo (lo+m - 1)
    match r with
    | some b=>if b=true then pure (some m) else reverseSlice' lo (lo+m) >>= fun _=>D
    | _=>pure none) else D) Q st':=by
   intro D hD
   refine g0A (fun _=>wpS_pure (h m st' J hm1 hmn)) fun hne=>?_
   have hlt:m<nrem:=gZ hmn fun e=>hne (by rw [e];exact beq_self_eq_true _)
   refine g0A (fun _=>?_) fun _=>hD hlt st' J
   refine wpS_bind (g5B hc J (yQ (z8K h1) hn) (a2 hn hlt) fun b=>p1A (wpS_pure (h m st' J hm1 hmn)) ?_)
   exact wpS_bind (d2B J fun st2 J2=>hD hlt st2 J2)
  refine key _ fun hlt st2 J2=>?_
  refine wpS_bind (wpS_lift (wpAny_rule ⟨rfl,?_⟩))
  refine wpS_bind (wpS_mono (wpS_forRange (I:=fun x c st3=>Js κ (·.Perm a₀) pd st3∧∃ q,c=(none,x,q)) (Q:=fun c st3=>Js κ (·.Perm a₀) pd st3∧∃ m q,1≤m∧m≤nrem∧c=(none,m,q)) ?_ ?_ ⟨J2,0,rfl⟩) ?_)
  ·rintro x c st3 hx hxn ⟨J3,q,rfl⟩
   refine wpS_bind (g5B hc J3 (a1 hn hxn) (a2 hn hxn) fun b=>p1A ?_ ?_)
   ·exact r7B J3 fun st4 J4=>wpS_pure ⟨J4,0,rfl⟩
   ·exact ask1 hc J3 (a2 hn hxn) (a1 hn hxn) ⟨J3,x,q,dQ (tQ (sQ _)) hx,z8Q hxn,rfl⟩ ⟨J3,q+1,rfl⟩
  ·rintro c st3 ⟨J3,q,rfl⟩
   rw [z9K hlt]
   exact ⟨J3,nrem,q,h1,uQ _,rfl⟩
  ·rintro c st3 ⟨J3,m,q,hm1,hmn,rfl⟩
   refine r7B J3 fun st4 J4=>wpS_bind (d2B J4 fun st5 J5=>?_)
   refine wpS_bind (wpS_mono (wpS_forRange (I:=fun x c st'=>st'=st5∧c=(none,x)) (Q:=fun c st'=>st'=st5∧∃ m,1≤m∧m≤nrem∧c=(none,m)) ?_ ?_ ⟨rfl,rfl⟩) ?_)
   ·rintro x c st' hx hxn ⟨rfl,rfl⟩
    exact ask1 hc J5 (a1 hn hxn) (a2 hn hxn) ⟨rfl,x,dQ hm1 hx,z8Q hxn,rfl⟩ ⟨rfl,rfl⟩
   ·rintro c st' ⟨rfl,rfl⟩
    rw [z9K hmn]
    exact ⟨rfl,nrem,h1,uQ _,rfl⟩
   ·rintro c st' ⟨rfl,m,hm1,hmn,rfl⟩
    exact wpS_pure (h m _ J5 hm1 hmn)
theorem bin_any {lo n ok:Nat} {Q:Bool→SortSt→Prop} (hc:Cmps prog w A s κ a₀) (J:Js κ (·.Perm a₀) pd st) (hn:lo+n≤a₀.size) (h:∀ st',Js κ (·.Perm a₀) pd st'→Q true st'):wpS (model prog w) A E s (binarySort' lo n ok) Q st:=by
 rw [binarySort'_eq]
 refine wpS_bind (wpS_mono (wpS_forRange (I:=fun _ c st'=>Js κ (·.Perm a₀) pd st'∧c=(none,())) (Q:=fun c st'=>Js κ (·.Perm a₀) pd st'∧c=(none,())) ?_ (fun _ _ hh=>hh) ⟨J,rfl⟩) ?_)
 ·rintro k c st' hk hkn ⟨J',rfl⟩
  refine wpS_bind (wpS_mono (wpS_forRange (I:=fun _ c st''=>st''=st'∧∃ l r,c=(none,l,r)∧r≤k) (Q:=fun c st''=>st''=st'∧∃ l r,c=(none,l,r)) ?_ ?_ ⟨rfl,0,k,rfl,uQ _⟩) ?_)
  ·rintro x c st'' _ _ ⟨rfl,l,r,rfl,hr⟩
   refine g0A (fun _=>wpS_pure ⟨rfl,l,r,rfl⟩) fun hlr=>?_
   have hlr:l<r:=Nat.not_le.mp hlr
   have hm:(l+r) / 2<k:=yQ (x15 hlr) hr
   refine wpS_bind (g5B hc J' (a1 hn hkn) (a1 hn (z7W hm hkn)) fun b=>p1A (wpS_pure ⟨rfl,_,_,rfl,z8Q hm⟩) (wpS_pure ⟨rfl,_,_,rfl,hr⟩))
  ·rintro c st'' ⟨rfl,l,r,rfl,_⟩
   exact ⟨rfl,l,r,rfl⟩
  ·rintro c st'' ⟨rfl,l,r,rfl⟩
   refine wpS_bind ?_
   rw [moveDown'_eq]
   exact wpS_modify (wpS_pure ⟨J'.arr (bubble_perm _ _ _),rfl⟩)
 ·rintro c st' ⟨J',rfl⟩
  exact wpS_pure (h st' J')
end
end Fl
namespace Fl
open PySem PyProof.Rows
section
variable {G:Array Keyed→Prop} {prog:Program} {w:World} {A:Around} {E:Value→Shared→Prop} {s:Shared} {κ:SortKind} {a₀:Array Keyed} {st:SortSt} {pd:Array (Nat×Nat×Nat)}
noncomputable def w9B:Bool→Keyed→Array Keyed→Nat→Nat→Nat→StateT SortSt Sem (Option Nat):=sortPriv% PySem.Builtin.gallop
theorem mid_lt {l h:Nat} (q:l<h):l+(h - l) / 2<h:=yQ (Nat.add_lt_add_left (Nat.div_lt_self (z3K q) (by decide)) l) (lZ (aW (z8Q q)))
theorem bey {left:Bool} {key:Keyed} {arr:Array Keyed} {i:Nat} {Q:Option Bool→SortSt→Prop} (hc:Cmps prog w A s κ a₀) (J:Js κ G pd st) (hk:key∈a₀) (ha:∀ x∈arr,x∈a₀) (hi:i<arr.size) (h:∀ b,Q (some b) st) :
  wpS (model prog w) A E s (do
   let x ← elem' arr i
   if left=true then lt' x key else do
    let r ← lt' key x
    pure (Option.map (fun x=>!x) r)) Q st:=by
 refine wpS_bind (h1A hi fun x hx _=>p1A (t0B hc J (ha x hx) hk h) ?_)
 exact wpS_bind (t0B hc J hk (ha x hx) fun b=>wpS_pure (h _))
theorem c6B {left:Bool} {key:Keyed} {arr:Array Keyed} {base n hint:Nat} {Q:Option Nat→SortSt→Prop} (hc:Cmps prog w A s κ a₀) (J:Js κ G pd st) (hk:key∈a₀) (ha:∀ x∈arr,x∈a₀) (hn:base+n≤arr.size) (hh:hint<n)
  (h:∀ k,k≤n→Q (some k) st):wpS (model prog w) A E s (w9B left key arr base n hint) Q st:=by
 refine wpS_bind (bey hc J hk ha (a1 hn hh) fun b=>?_)
 extract_lets +onlyGivenNames jp
 have hj:∀ l o lo hi,hi≤n→wpS (model prog w) A E s (jp ⟨⟩ l o lo hi) Q st:=by
  intro l o lo hi hhi
  refine wpS_bind (wpS_mono (wpS_forRange (I:=fun _ c st'=>st'=st∧∃ lo hi,c=(none,lo,hi)∧hi≤n) (Q:=fun c st'=>st'=st∧∃ lo hi,c=(none,lo,hi)∧hi≤n) ?_ (fun _ _ hh=>hh) ⟨rfl,lo,hi,rfl,hhi⟩) ?_)
  ·rintro x c st' _ _ ⟨rfl,lo,hi,rfl,hhi⟩
   refine g0A (fun _=>wpS_pure ⟨rfl,_,_,rfl,hhi⟩) fun hlt=>?_
   have hm:lo+(hi - lo) / 2<n:=yQ (mid_lt (Nat.not_le.mp hlt)) hhi
   exact wpS_bind (bey hc J hk ha (a1 hn hm) fun b=>p1A (wpS_pure ⟨rfl,_,_,rfl,hhi⟩) (wpS_pure ⟨rfl,_,_,rfl,z8Q hm⟩))
  ·rintro c st' ⟨rfl,lo,hi,rfl,hhi⟩
   exact wpS_pure (h hi hhi)
 clear_value jp
 refine p1A ?_ ?_
 ·refine wpS_bind (wpS_mono (wpS_forRange (I:=fun _ c st'=>st'=st∧∃ l o,c=(none,l,o)) (Q:=fun c st'=>st'=st∧∃ l o,c=(none,l,o)) ?_ (fun _ _ hh=>hh) ⟨rfl,0,1,rfl⟩) ?_)
  ·rintro x c st' _ _ ⟨rfl,l,o,rfl⟩
   refine g0A (fun _=>wpS_pure ⟨rfl,_,_,rfl⟩) fun hlt=>?_
   exact wpS_bind (bey hc J hk ha (a1 hn (Nat.add_lt_of_lt_sub' (Nat.not_le.mp hlt))) fun b=>p1A (wpS_pure ⟨rfl,_,_,rfl⟩) (wpS_pure ⟨rfl,_,_,rfl⟩))
  ·rintro c st' ⟨rfl,l,o,rfl⟩
   exact hj _ _ _ _ (by rw [bZ];exact Nat.add_le_of_le_sub (z8Q hh) (z6K _ _))
 ·refine wpS_bind (wpS_mono (wpS_forRange (I:=fun _ c st'=>st'=st∧∃ l o,c=(none,l,o)) (Q:=fun c st'=>st'=st∧∃ l o,c=(none,l,o)) ?_ (fun _ _ hh=>hh) ⟨rfl,0,1,rfl⟩) ?_)
  ·rintro x c st' _ _ ⟨rfl,l,o,rfl⟩
   refine g0A (fun _=>wpS_pure ⟨rfl,_,_,rfl⟩) fun hlt=>?_
   exact wpS_bind (bey hc J hk ha (a1 hn (vQ (pK _ _) hh)) fun b=>p1A (wpS_pure ⟨rfl,_,_,rfl⟩) (wpS_pure ⟨rfl,_,_,rfl⟩))
  ·rintro c st' ⟨rfl,l,o,rfl⟩
   exact hj _ _ _ _ (dQ (pK _ _) (z8Q hh))
noncomputable def setG':Nat→StateT SortSt Sem Unit:=sortPriv% PySem.Builtin.setMinGallop
theorem z8A {g:Nat} {Q:Unit→SortSt→Prop} (J:Js κ G pd st) (h:∀ st',Js κ G pd st'→Q () st'):wpS (model prog w) A E s (setG' g) Q st:=wpS_modify (h _ ⟨J.pm,J.fl,J.kd,J.pd⟩)
noncomputable def LoP (a b out:Array Keyed) (ia ib:Nat):Prop:=(out.toList++(a.toList.drop ia++b.toList.drop ib)).Perm (a.toList++b.toList)
variable {a b out:Array Keyed} {ia ib k:Nat} {x:Keyed}
theorem m0C {l:List Keyed} (h:l[k]?=some x):l.drop k=x::l.drop (k+1):=by
 obtain ⟨h1,h2⟩:=jQ.mp h
 rw [sW h1,h2]
theorem LoP.pa (P:LoP a b out ia ib) (h:a[ia]?=some x):LoP a b (out.push x) (ia+1) ib:=by
 unfold LoP at P ⊢
 rw [m0C (by rw [lW];exact h)] at P
 rw [Array.toList_push,kQ]
 exact P
theorem LoP.pb (P:LoP a b out ia ib) (h:b[ib]?=some x):LoP a b (out.push x) ia (ib+1):=by
 unfold LoP at P ⊢
 rw [m0C (l:=b.toList) (by rw [lW];exact h)] at P
 rw [Array.toList_push,kQ]
 exact ((xZ (l₁:=List.drop ia a.toList)).symm.append_left _).trans P
theorem LoP.ka (P:LoP a b out ia ib):LoP a b (out++a.extract ia (ia+k)) (ia+k) ib:=by
 unfold LoP at P ⊢
 rw [← kW k (a.toList.drop ia),List.drop_drop] at P
 rw [z1Z,z6Z,yZ,oK,kQ,← kQ (List.take _ _)]
 exact P
theorem LoP.kb (P:LoP a b out ia ib):LoP a b (out++b.extract ib (ib+k)) ia (ib+k):=by
 unfold LoP at P ⊢
 rw [← kW k (b.toList.drop ib),List.drop_drop] at P
 rw [z1Z,z6Z,yZ,oK,kQ]
 refine (List.Perm.append_left _ ?_).trans P
 rw [← kQ,← kQ (List.drop ia _)]
 exact z9Q.append_right _
theorem e6A (a:Array Keyed) (i:Nat):(a.extract i a.size).toList=a.toList.drop i:=by
 rw [z6Z,yZ,tK (by rw [List.length_drop,dW];exact uQ _)]
theorem LoP.da (P:LoP a b out ia ib):(out++a.extract ia a.size++b.extract ib b.size).toList.Perm (a.toList++b.toList):=by
 rw [z1Z,z1Z,e6A,e6A,kQ];exact P
theorem LoP.db (P:LoP a b out ia ib):(out++b.extract ib b.size++a.extract ia a.size).toList.Perm (a.toList++b.toList):=by
 rw [z1Z,z1Z,e6A,e6A,kQ];exact (z9Q.append_left _).trans P
theorem LoP.le (P:LoP a b out ia ib):out.size≤a.size+b.size:=by
 have:=List.Perm.length_eq P
 rw [fQ (as:=out.toList),fQ (as:=a.toList)] at this
 exact dQ (z5Q out.toList.length _) (lZ this)
noncomputable def MQ {β:Type} (κ:SortKind) (G:Array Keyed→Prop) (pd:Array (Nat×Nat×Nat)) (R:Array Keyed→Prop) (P:β→Prop) (r:ForInStep (Option (Array Keyed)×β)) (st:SortSt):Prop:=
 match r with
 | .done c=>Js κ G pd st∧((c.1=none∧P c.2)∨∃ r,c.1=some r∧R r)
 | .yield c=>Js κ G pd st∧c.1=none∧P c.2
noncomputable def MR {β:Type} (κ:SortKind) (G:Array Keyed→Prop) (pd:Array (Nat×Nat×Nat)) (R:Array Keyed→Prop) (P:β→Prop) (r:ForInStep (Option (Array Keyed)×β)) (st:SortSt):Prop:=
 match r with
 | .done c=>Js κ G pd st∧∃ r,c.1=some r∧R r
 | .yield c=>Js κ G pd st∧c.1=none∧P c.2
structure Lo (a b out:Array Keyed) (ia ib o:Nat):Prop where
 ha:ia+1<a.size
 hb:ib<b.size
 pm:LoP a b out ia ib
 sz:o≤out.size
theorem ne_b {i j:Nat} (h:¬ (i == j)=true) (hl:i≤j):i<j:=gZ hl fun e=>h (by rw [e];exact beq_self_eq_true _)
theorem u1B {i k n:Nat} (h:k≤n - i) (hi:i<n):i+k≤n:=by rw [bZ];exact Nat.add_le_of_le_sub (z8Q hi) h
theorem l6A {i n:Nat} (h:i<n):i+(n - i)≤n:=lZ (aW (z8Q h))
theorem d5A {o:Nat} (h:o≤out.size):o≤(out.push x).size:=by rw [Array.size_push];exact nK h
theorem b9A {o:Nat} (h:o≤out.size):o+1≤(out.push x).size:=by rw [Array.size_push];exact tQ h
theorem h5B {o:Nat} {c:Array Keyed} (h:o≤out.size):o≤(out++c).size:=by rw [Array.size_append];exact dQ h (z5Q _ _)
theorem gal {α:Type} {l:Bool} {c arr:Array Keyed} {i base n hint:Nat} {K:Option Nat→StateT SortSt Sem α} {Q:α→SortSt→Prop} (hc:Cmps prog w A s κ a₀) (J:Js κ G pd st) (hi:i<c.size) (hx:∀ x∈c,x∈a₀) (ha:∀ x∈arr,x∈a₀) (hn:base+n≤arr.size) (hh:hint<n)
  (h:∀ k,k≤n→wpS (model prog w) A E s (K (some k)) Q st):wpS (model prog w) A E s (elem' c i >>= fun x=>w9B l x arr base n hint >>= K) Q st:=
 wpS_bind (h1A hi fun x hm _=>wpS_bind (c6B hc J (hx x hm) ha hn hh h))
section
variable {α₁ α₂ α₃:Type} {R:Array Keyed→Prop}
theorem core1 {c0:Array Keyed} {i0 N:Nat} {n1 n2:Prop} [Decidable n1] [Decidable n2] {o1 o2:Keyed→Array Keyed} {ini:Keyed→SortSt→α₁×α₂×α₃×Nat} {F:Nat→Option (Array Keyed)×α₁×α₂×α₃×Nat→StateT SortSt Sem (ForInStep (Option (Array Keyed)×α₁×α₂×α₃×Nat))} {T:Option (Array Keyed)×α₁×α₂×α₃×Nat→StateT SortSt Sem (Array Keyed)} {nm:String} {Q:Array Keyed→SortSt→Prop} {P:Nat→α₁×α₂×α₃×Nat→Prop}
  (J:Js κ G pd st) (hi:i0<c0.size) (h:∀ r st',Js κ G pd st'→R r→Q r st') (h1:∀ x,c0[i0]?=some x→n1→R (o1 x)) (h2:∀ x,c0[i0]?=some x→n2→R (o2 x))
  (h3:∀ x st,c0[i0]?=some x→¬ n1→¬ n2→P 0 (ini x st)) (hend:∀ c,¬ P N c) (hT:∀ r c,T (some r,c)=pure r)
  (hF:∀ x a b c g st',P x (a,b,c,g)→Js κ G pd st'→wpS (model prog w) A E s (F x (none,a,b,c,g)) (MR κ G pd R (P (x+1))) st') :
  wpS (model prog w) A E s (do
   liftM (rule nm)
   let x ← elem' c0 i0
   if n1 then pure (o1 x) else if n2 then pure (o2 x) else do
    let st ← MonadState.get
    let c ← forIn [0:N] (none,ini x st) F
    T c) Q st:=by
 refine wpS_bind (wpS_lift (wpAny_rule ⟨rfl,?_⟩))
 refine wpS_bind (h1A hi fun x hx ex=>?_)
 refine g0A (fun q=>wpS_pure (h _ _ J (h1 x ex q))) fun q1=>?_
 refine g0A (fun q=>wpS_pure (h _ _ J (h2 x ex q))) fun q2=>?_
 refine wpS_bind (wpS_get ?_)
 refine wpS_bind (wpS_mono (wpS_forRange (I:=fun x c st'=>Js κ G pd st'∧c.1=none∧P x c.2) (Q:=fun c st'=>Js κ G pd st'∧∃ r,c.1=some r∧R r) ?_ ?_ ⟨J,rfl,h3 x _ ex q1 q2⟩) ?_)
 ·rintro y ⟨_,a,b,c,g⟩ st1 _ _ ⟨J1,rfl,L1⟩
  exact wpS_mono (hF y a b c g st1 L1 J1) fun r _ hr=>by cases r <;> exact hr
 ·rintro ⟨_,c⟩ st1 ⟨J1,rfl,L1⟩
  rw [z9K (sQ _)] at L1
  exact absurd L1 (hend c)
 ·rintro ⟨_,c⟩ st1 ⟨J1,r,rfl,hr⟩
  rw [hT]
  exact wpS_pure (h r st1 J1 hr)
theorem core2 {N:Nat} {i1:α₁×α₂×α₃×Nat×Nat} {F1:Nat→Option (Array Keyed)×α₁×α₂×α₃×Nat×Nat→StateT SortSt Sem (ForInStep (Option (Array Keyed)×α₁×α₂×α₃×Nat×Nat))} {T1:Option (Array Keyed)×α₁×α₂×α₃×Nat×Nat→StateT SortSt Sem (ForInStep (Option (Array Keyed)×α₁×α₂×α₃×Nat))} {i2:α₁×α₂×α₃×Nat×Nat→α₁×α₂×α₃×Nat×Nat×Nat} {F2:Nat→Option (Array Keyed)×α₁×α₂×α₃×Nat×Nat×Nat→StateT SortSt Sem (ForInStep (Option (Array Keyed)×α₁×α₂×α₃×Nat×Nat×Nat))} {T2:Option (Array Keyed)×α₁×α₂×α₃×Nat×Nat×Nat→StateT SortSt Sem (ForInStep (Option (Array Keyed)×α₁×α₂×α₃×Nat))} {r1:α₁×α₂×α₃×Nat×Nat→α₁×α₂×α₃×Nat} {r2 r3:α₁×α₂×α₃×Nat×Nat×Nat→α₁×α₂×α₃×Nat} {g:α₁×α₂×α₃×Nat×Nat×Nat→Nat} {nm:String} {P:α₁×α₂×α₃×Nat→Prop} {P1:Nat→α₁×α₂×α₃×Nat×Nat→Prop} {P2:α₁×α₂×α₃×Nat×Nat×Nat→Prop}
  (J:Js κ G pd st) (hN:1≤N) (h1:P1 0 i1)
  (hF1:∀ x a b c d e st',P1 x (a,b,c,d,e)→Js κ G pd st'→wpS (model prog w) A E s (F1 x (none,a,b,c,d,e)) (MQ κ G pd R (P1 (x+1))) st')
  (hT1:∀ r c,T1 (some r,c)=pure (.done (some r,r1 c))) (hT2:∀ c,T1 (none,c)=(do
   liftM (rule nm)
   let d ← forIn [0:N] (none,i2 c) F2
   T2 d)) (hT3:∀ r d,T2 (some r,d)=pure (.done (some r,r2 d))) (hT4:∀ d,T2 (none,d)=(do setG' (g d);pure (.yield (none,r3 d))))
  (h2:∀ x c,1≤x→P1 x c→P2 (i2 c)) (h3:∀ d,P2 d→P (r3 d))
  (hF2:∀ x a b c d e f st',P2 (a,b,c,d,e,f)→Js κ G pd st'→wpS (model prog w) A E s (F2 x (none,a,b,c,d,e,f)) (MQ κ G pd R P2) st') :
  wpS (model prog w) A E s (do
   let c ← forIn [0:N] (none,i1) F1
   T1 c) (MR κ G pd R P) st:=by
 refine wpS_bind (wpS_mono (wpS_forRange (I:=fun x c st'=>Js κ G pd st'∧c.1=none∧P1 x c.2) (Q:=fun c st'=>Js κ G pd st'∧((c.1=none∧∃ x,1≤x∧P1 x c.2)∨∃ r,c.1=some r∧R r)) ?_ ?_ ⟨J,rfl,h1⟩) ?_)
 ·rintro z ⟨_,a,b,c,d,e⟩ st2 _ _ ⟨J2,rfl,L2⟩
  refine wpS_mono (hF1 z a b c d e st2 L2 J2) fun r _ hr=>?_
  cases r with
  | done c=>exact ⟨hr.1,hr.2.imp (fun q=>⟨q.1,z+1,tQ (sQ _),q.2⟩) id⟩
  | yield c=>exact hr
 ·rintro ⟨_,c⟩ st2 ⟨J2,rfl,L2⟩
  rw [z9K (sQ _)] at L2
  exact ⟨J2,.inl ⟨rfl,N,hN,L2⟩⟩
 ·rintro ⟨_,c⟩ st2 ⟨J2,⟨rfl,x,hx,L2⟩ | ⟨r,rfl,hr⟩⟩
  case inr=>rw [hT1];exact wpS_pure ⟨J2,r,rfl,hr⟩
  rw [hT2]
  refine wpS_bind (wpS_lift (wpAny_rule ⟨rfl,?_⟩))
  refine wpS_bind (wpS_mono (wpS_forRange (I:=fun _ c st'=>Js κ G pd st'∧c.1=none∧P2 c.2) (Q:=fun c st'=>Js κ G pd st'∧((c.1=none∧P2 c.2)∨∃ r,c.1=some r∧R r)) ?_ (fun c st' hh=>⟨hh.1,.inl hh.2⟩) ⟨J2,rfl,h2 x c hx L2⟩) ?_)
  ·rintro z ⟨_,a,b,c,d,e,f⟩ st3 _ _ ⟨J3,rfl,L3⟩
   exact wpS_mono (hF2 z a b c d e f st3 L3 J3) fun r _ hr=>by cases r <;> exact hr
  ·rintro ⟨_,d⟩ st3 ⟨J3,⟨rfl,L3⟩ | ⟨r,rfl,hr⟩⟩
   case inr=>rw [hT3];exact wpS_pure ⟨J3,r,rfl,hr⟩
   rw [hT4]
   exact wpS_bind (z8A J3 fun st4 J4=>wpS_pure ⟨J4,rfl,h3 d L3⟩)
end
theorem Lo.le {o o':Nat} (L:Lo a b out ia ib o) (h:o'≤o):Lo a b out ia ib o':={ L with sz:=dQ h L.sz }
noncomputable def LoC {γ:Type} (a b:Array Keyed) (o:Nat) (c:Array Keyed×Nat×Nat×γ):Prop:=Lo a b c.1 c.2.1 c.2.2.1 o
noncomputable def mergeLo':Array Keyed→Array Keyed→StateT SortSt Sem (Array Keyed):=sortPriv% PySem.Builtin.mergeLo
theorem lo_any {Q:Array Keyed→SortSt→Prop} {R:Array Keyed→Prop} (hR:∀ r:Array Keyed,r.toList.Perm (a.toList++b.toList)→R r) (hc:Cmps prog w A s κ a₀) (J:Js κ G pd st) (ha:∀ x∈a,x∈a₀) (hb:∀ x∈b,x∈a₀) (ha1:1≤a.size) (hb1:1≤b.size)
  (h:∀ r st',Js κ G pd st'→R r→Q r st'):wpS (model prog w) A E s (mergeLo' a b) Q st:=by
 have P0:∀ x,b[0]?=some x→LoP a b #[x] 0 1:=fun x e0=>LoP.pb (out:=#[]) (List.Perm.refl _) e0
 refine core1 (R:=R) (P:=fun x=>LoC a b (x+1)) J hb1 h (fun x ex _=>hR _ (P0 x ex).da) (fun x ex _=>hR _ (P0 x ex).db) (fun x g ex n1 n2=>⟨ne_b n2 ha1,ne_b n1 hb1,P0 x ex,uQ _⟩) (fun c L1=>absurd (dQ (Lo.sz L1) (Lo.pm L1).le) (Nat.not_succ_le_self _)) (fun _ _=>rfl) ?_
 intro y out ia ib mg st1 L1 J1
 refine core2 (r1:=fun d=>(d.1,d.2.1,d.2.2.1,mg)) (i2:=fun c=>(c.1,c.2.1,c.2.2.1,mg+1,c.2.2.2.1,c.2.2.2.2)) (r2:=fun d=>(d.1,d.2.1,d.2.2.1,d.2.2.2.1)) (r3:=fun d=>(d.1,d.2.1,d.2.2.1,d.2.2.2.1+1)) (g:=fun d=>d.2.2.2.1+1) (P1:=fun x=>LoC a b (y+1+x)) (P2:=LoC a b (y+2)) J1 (dQ ha1 (z5Q _ _)) L1 ?_ (fun _ _=>rfl) (fun _=>rfl) (fun _ _=>rfl) (fun _=>rfl) (fun x c hx L=>Lo.le L (bW hx (y+1))) (fun d L=>L) ?_
 ·intro z out ia ib ac bc st2 L2 J2
  replace L2:Lo a b out ia ib (y+1+z):=L2
  have hia:ia<a.size:=bK L2.ha
  refine wpS_bind (h1A L2.hb fun xb hxb eb=>wpS_bind (h1A hia fun xa hxa ea=>wpS_bind (t0B hc J2 (hb _ hxb) (ha _ hxa) fun c=>p1A ?_ ?_)))
  ·refine wpS_bind (h1A L2.hb fun x hx ex=>?_)
   have P:=L2.pm.pb ex
   refine g0A (fun _=>wpS_pure ⟨J2,.inr ⟨_,rfl,hR _ P.da⟩⟩) fun n1=>?_
   have L3:Lo a b (out.push x) ia (ib+1) (y+1+z+1):=⟨L2.ha,ne_b n1 L2.hb,P,b9A L2.sz⟩
   exact g0A (fun _=>wpS_pure ⟨J2,.inl ⟨rfl,L3⟩⟩) fun _=>wpS_pure ⟨J2,rfl,L3⟩
  ·refine wpS_bind (h1A hia fun x hx ex=>?_)
   have P:=L2.pm.pa ex
   refine g0A (fun _=>wpS_pure ⟨J2,.inr ⟨_,rfl,hR _ P.db⟩⟩) fun n1=>?_
   have L3:Lo a b (out.push x) (ia+1) ib (y+1+z+1):=⟨ne_b n1 L2.ha,L2.hb,P,b9A L2.sz⟩
   exact g0A (fun _=>wpS_pure ⟨J2,.inl ⟨rfl,L3⟩⟩) fun _=>wpS_pure ⟨J2,rfl,L3⟩
 ·intro z out ia ib mg ac bc st3 L3 J3
  replace L3:Lo a b out ia ib (y+2):=L3
  extract_lets +onlyGivenNames s1 o1 s2 i1 s3 i2 s4 m1 s5 c1 c2 j1 jp
  have hj:∀ g,wpS (model prog w) A E s (jp ⟨⟩ g) (MQ κ G pd R (LoC a b (y+2))) st3:=by
   intro g
   refine wpS_bind (z8A J3 fun st4 J4=>?_)
   refine gal hc J4 L3.hb hb ha (n:=a.size - ia) (l6A (bK L3.ha)) (z3K (bK L3.ha)) fun k hk=>?_
   dsimp -zeta only
   extract_lets +onlyGivenNames ac jp2
   have hj2:∀ out ia,ia+1<a.size→LoP a b out ia ib→y+2≤out.size→wpS (model prog w) A E s (jp2 ⟨⟩ out ia) (MQ κ G pd R (LoC a b (y+2))) st4:=by
    intro out ia hia P hs
    have hia':ia<a.size:=bK hia
    refine wpS_bind (h1A L3.hb fun x hx ex=>?_)
    have P:=P.pb ex
    refine g0A (fun _=>wpS_pure ⟨J4,.inr ⟨_,rfl,hR _ P.da⟩⟩) fun n1=>?_
    have hib:ib+1<b.size:=ne_b n1 L3.hb
    refine gal hc J4 hia' ha hb (n:=b.size - (ib+1)) (l6A hib) (z3K hib) fun k hk=>?_
    dsimp -zeta only
    extract_lets +onlyGivenNames bc1 j3 jp3
    have hj3:∀ out ib,ib<b.size→LoP a b out ia ib→y+2≤out.size→wpS (model prog w) A E s (jp3 ⟨⟩ out ib) (MQ κ G pd R (LoC a b (y+2))) st4:=by
     intro out ib hib P hs
     refine wpS_bind (h1A hia' fun x hx ex=>?_)
     have P:=P.pa ex
     refine g0A (fun _=>wpS_pure ⟨J4,.inr ⟨_,rfl,hR _ P.db⟩⟩) fun n1=>?_
     have L:Lo a b (out.push x) (ia+1) ib (y+2):=⟨ne_b n1 hia,hib,P,d5A hs⟩
     exact g0A (fun _=>wpS_pure ⟨J4,.inl ⟨rfl,L⟩⟩) fun _=>wpS_pure ⟨J4,rfl,L⟩
    clear_value jp3
    refine g0A (fun _=>?_) fun _=>hj3 _ _ hib P (d5A hs)
    have P2:=P.kb (k:=k)
    exact g0A (fun _=>wpS_pure ⟨J4,.inr ⟨_,rfl,hR _ P2.da⟩⟩) fun n2=>hj3 _ _ (ne_b n2 (u1B hk hib)) P2 (h5B (d5A hs))
   clear_value jp2
   refine g0A (fun _=>?_) fun _=>hj2 _ _ L3.ha L3.pm L3.sz
   have P2:=L3.pm.ka (k:=k)
   exact g0A (fun _=>wpS_pure ⟨J4,.inr ⟨_,rfl,hR _ P2.db⟩⟩) fun n1=>g0A (fun _=>wpS_pure ⟨J4,.inr ⟨_,rfl,hR _ P2.da⟩⟩) fun n2=>hj2 _ _ (ne_b n1 (ne_b n2 (u1B hk (bK L3.ha)))) P2 (h5B L3.sz)
  clear_value jp
  exact g0A (fun _=>hj _) fun _=>hj _
noncomputable def HiP (a b out:Array Keyed) (na nb:Nat):Prop:=(out.toList++(a.toList.take na++b.toList.take nb)).Perm (a.toList++b.toList)
variable {out':Array Keyed} {na nb m:Nat} {q q':List Keyed}
theorem HiP.ga (P:HiP a b out na nb) (e:a.toList.take na=a.toList.take m++q) (hq:q'.Perm q) (ho:out'.toList=out.toList++q'):HiP a b out' m nb:=by
 unfold HiP at P ⊢
 rw [e,kQ] at P
 rw [ho,kQ]
 refine (List.Perm.append_left _ ?_).trans P
 rw [← kQ,← kQ]
 exact ((hq.append_right _).trans z9Q).append_right _
theorem HiP.gb (P:HiP a b out na nb) (e:b.toList.take nb=b.toList.take m++q) (hq:q'.Perm q) (ho:out'.toList=out.toList++q'):HiP a b out' na m:=by
 unfold HiP at P ⊢
 rw [e,← kQ (List.take na _)] at P
 rw [ho,kQ]
 exact (List.Perm.append_left _ ((hq.append_right _).trans z9Q)).trans P
theorem u6B {l:List Keyed} (h1:1≤k) (h:l[k - 1]?=some x):l.take k=l.take (k - 1)++[x]:=by
 obtain ⟨m,rfl⟩:=Nat.exists_eq_succ_of_ne_zero (Nat.ne_of_gt h1)
 obtain ⟨h1,h2⟩:=jQ.mp h
 refine (List.take_succ_eq_append_getElem (i:=m) h1).trans ?_
 exact congrArg (List.take m l++[·]) h2
theorem j3B {c:Array Keyed} {i j:Nat} (h:i≤j):c.toList.take j=c.toList.take i++(c.extract i j).toList:=by
 have:(c.toList.take j).take i=c.toList.take i:=by rw [List.take_take,jZ h]
 rw [z6Z,List.extract_eq_drop_take',← this,kW]
theorem HiP.pa (P:HiP a b out na nb) (h1:1≤na) (h:a[na - 1]?=some x):HiP a b (out.push x) (na - 1) nb:=
 P.ga (u6B h1 (by rw [lW];exact h)) (.refl _) Array.toList_push
theorem HiP.pb (P:HiP a b out na nb) (h1:1≤nb) (h:b[nb - 1]?=some x):HiP a b (out.push x) na (nb - 1):=
 P.gb (u6B h1 (by rw [lW];exact h)) (.refl _) Array.toList_push
theorem z9A (o c:Array Keyed):(o++c.reverse).toList=o.toList++c.toList.reverse:=by rw [z1Z,Array.toList_reverse]
theorem HiP.ka (P:HiP a b out na nb) (h:m≤na):HiP a b (out++(a.extract m na).reverse) m nb:=P.ga (j3B h) (gJ _) (z9A _ _)
theorem HiP.kb (P:HiP a b out na nb) (h:m≤nb):HiP a b (out++(b.extract m nb).reverse) na m:=P.gb (j3B h) (gJ _) (z9A _ _)
theorem d6A (a:Array Keyed) (i:Nat):(a.extract 0 i).toList=a.toList.take i:=by
 rw [z6Z,yZ];rfl
theorem HiP.da (P:HiP a b out na nb):(a.extract 0 na++b.extract 0 nb++out.reverse).toList.Perm (a.toList++b.toList):=by
 rw [z9A,z1Z,d6A,d6A]
 exact (z9Q.trans ((gJ _).append_right _)).trans P
theorem HiP.db (P:HiP a b out na nb):(b.extract 0 nb++a.extract 0 na++out.reverse).toList.Perm (a.toList++b.toList):=by
 rw [z9A,z1Z,d6A,d6A]
 exact ((z9Q.append_right _).trans (z9Q.trans ((gJ _).append_right _))).trans P
theorem HiP.le (P:HiP a b out na nb):out.size≤a.size+b.size:=by
 have:=List.Perm.length_eq P
 rw [fQ (as:=out.toList),fQ (as:=a.toList)] at this
 exact dQ (z5Q out.toList.length _) (lZ this)
structure Hi (a b:Array Keyed) (na nb:Nat) (out:Array Keyed) (o:Nat):Prop where
 ha:1≤na
 hb:2≤nb
 la:na≤a.size
 lb:nb≤b.size
 pm:HiP a b out na nb
 sz:o≤out.size
theorem v2A {i n:Nat} (h:1≤i) (hl:i≤n):i - 1<n:=yQ (Nat.sub_lt h Nat.one_pos) hl
theorem ne_c {i j:Nat} (h:¬ (i == j)=true) (hl:j≤i):j+1≤i:=gZ hl fun e=>h (by rw [e];exact beq_self_eq_true _)
theorem Hi.le {o o':Nat} (L:Hi a b na nb out o) (h:o'≤o):Hi a b na nb out o':={ L with sz:=dQ h L.sz }
noncomputable def HiC {γ:Type} (a b:Array Keyed) (o:Nat) (c:Nat×Nat×Array Keyed×γ):Prop:=Hi a b c.1 c.2.1 c.2.2.1 o
noncomputable def mergeHi':Array Keyed→Array Keyed→StateT SortSt Sem (Array Keyed):=sortPriv% PySem.Builtin.mergeHi
theorem hi_any {Q:Array Keyed→SortSt→Prop} {R:Array Keyed→Prop} (hR:∀ r:Array Keyed,r.toList.Perm (a.toList++b.toList)→R r) (hc:Cmps prog w A s κ a₀) (J:Js κ G pd st) (ha:∀ x∈a,x∈a₀) (hb:∀ x∈b,x∈a₀) (ha1:1≤a.size) (hb1:1≤b.size)
  (h:∀ r st',Js κ G pd st'→R r→Q r st'):wpS (model prog w) A E s (mergeHi' a b) Q st:=by
 have P0:∀ x,a[a.size - 1]?=some x→HiP a b #[x] (a.size - 1) b.size:=fun x e0=>by
  have:HiP a b #[] a.size b.size:=by
   unfold HiP
   rw [tK (i:=a.size) (l:=a.toList) (uQ _),tK (i:=b.size) (l:=b.toList) (uQ _)]
   exact .refl _
  exact this.pa ha1 e0
 refine core1 (R:=R) (P:=fun x=>HiC a b (x+1)) J (v2A ha1 (uQ _)) h (fun x ex _=>hR _ (P0 x ex).da) (fun x ex _=>hR _ (P0 x ex).db) (fun x g ex n1 n2=>⟨ne_c n1 (sQ _),ne_c n2 hb1,pK _ _,uQ _,P0 x ex,uQ _⟩) (fun c L1=>absurd (dQ (Hi.sz L1) (Hi.pm L1).le) (Nat.not_succ_le_self _)) (fun _ _=>rfl) ?_
 intro y na nb out mg st1 L1 J1
 refine core2 (r1:=fun d=>(d.1,d.2.1,d.2.2.1,mg)) (i2:=fun c=>(c.1,c.2.1,c.2.2.1,mg+1,c.2.2.2.1,c.2.2.2.2)) (r2:=fun d=>(d.1,d.2.1,d.2.2.1,d.2.2.2.1)) (r3:=fun d=>(d.1,d.2.1,d.2.2.1,d.2.2.2.1+1)) (g:=fun d=>d.2.2.2.1+1) (P1:=fun x=>HiC a b (y+1+x)) (P2:=HiC a b (y+2)) J1 (dQ ha1 (z5Q _ _)) L1 ?_ (fun _ _=>rfl) (fun _=>rfl) (fun _ _=>rfl) (fun _=>rfl) (fun x c hx L=>Hi.le L (bW hx (y+1))) (fun d L=>L) ?_
 ·intro z na nb out ac bc st2 L2 J2
  replace L2:Hi a b na nb out (y+1+z):=L2
  have hna:na - 1<a.size:=v2A L2.ha L2.la
  have hb1:1≤nb:=z3W L2.hb
  have hnb:nb - 1<b.size:=v2A hb1 L2.lb
  refine wpS_bind (h1A hnb fun xb hxb eb=>wpS_bind (h1A hna fun xa hxa ea=>wpS_bind (t0B hc J2 (hb _ hxb) (ha _ hxa) fun c=>p1A ?_ ?_)))
  ·refine wpS_bind (h1A hna fun x hx ex=>?_)
   have P:=L2.pm.pa L2.ha ex
   refine g0A (fun _=>wpS_pure ⟨J2,.inr ⟨_,rfl,hR _ P.da⟩⟩) fun n1=>?_
   have L3:Hi a b (na - 1) nb (out.push x) (y+1+z+1):=⟨ne_c n1 (sQ _),L2.hb,z8Q hna,L2.lb,P,b9A L2.sz⟩
   exact g0A (fun _=>wpS_pure ⟨J2,.inl ⟨rfl,L3⟩⟩) fun _=>wpS_pure ⟨J2,rfl,L3⟩
  ·refine wpS_bind (h1A hnb fun x hx ex=>?_)
   have P:=L2.pm.pb hb1 ex
   refine g0A (fun _=>wpS_pure ⟨J2,.inr ⟨_,rfl,hR _ P.db⟩⟩) fun n1=>?_
   have L3:Hi a b na (nb - 1) (out.push x) (y+1+z+1):=⟨L2.ha,ne_c n1 (Nat.le_sub_one_of_lt L2.hb),L2.la,z8Q hnb,P,b9A L2.sz⟩
   exact g0A (fun _=>wpS_pure ⟨J2,.inl ⟨rfl,L3⟩⟩) fun _=>wpS_pure ⟨J2,rfl,L3⟩
 ·intro z na nb out mg ac bc st3 L3 J3
  replace L3:Hi a b na nb out (y+2):=L3
  have hb1:1≤nb:=z3W L3.hb
  have hnb:nb - 1<b.size:=v2A hb1 L3.lb
  extract_lets +onlyGivenNames s1 o1 s2 i1 s3 i2 s4 m1 s5 c1 c2 j1 jp
  have hj:∀ g,wpS (model prog w) A E s (jp ⟨⟩ g) (MQ κ G pd R (HiC a b (y+2))) st3:=by
   intro g
   refine wpS_bind (z8A J3 fun st4 J4=>?_)
   refine gal hc J4 hnb hb ha (n:=na) (by rw [iZ];exact L3.la) (v2A L3.ha (uQ _)) fun k hk=>?_
   dsimp -zeta only
   extract_lets +onlyGivenNames k1 ac jp2
   have hj2:∀ na out,1≤na→na≤a.size→HiP a b out na nb→y+2≤out.size→wpS (model prog w) A E s (jp2 ⟨⟩ na out) (MQ κ G pd R (HiC a b (y+2))) st4:=by
    intro na out h1 hla P hs
    have hna:na - 1<a.size:=v2A h1 hla
    refine wpS_bind (h1A hnb fun x hx ex=>?_)
    have P:=P.pb hb1 ex
    refine g0A (fun _=>wpS_pure ⟨J4,.inr ⟨_,rfl,hR _ P.db⟩⟩) fun n1=>?_
    have hb2:2≤nb - 1:=ne_c n1 (Nat.le_sub_one_of_lt L3.hb)
    refine gal hc J4 hna ha hb (n:=nb - 1) (by rw [iZ];exact z8Q hnb) (v2A (z3W hb2) (uQ _)) fun k hk=>?_
    dsimp -zeta only
    extract_lets +onlyGivenNames k2 bc1 j3 jp3
    have hj3:∀ nb out,2≤nb→nb≤b.size→HiP a b out na nb→y+2≤out.size→wpS (model prog w) A E s (jp3 ⟨⟩ nb out) (MQ κ G pd R (HiC a b (y+2))) st4:=by
     intro nb out h2 hlb P hs
     refine wpS_bind (h1A hna fun x hx ex=>?_)
     have P:=P.pa h1 ex
     refine g0A (fun _=>wpS_pure ⟨J4,.inr ⟨_,rfl,hR _ P.da⟩⟩) fun n1=>?_
     have L:Hi a b (na - 1) nb (out.push x) (y+2):=⟨ne_c n1 (sQ _),h2,z8Q hna,hlb,P,d5A hs⟩
     exact g0A (fun _=>wpS_pure ⟨J4,.inl ⟨rfl,L⟩⟩) fun _=>wpS_pure ⟨J4,rfl,L⟩
    clear_value jp3
    refine g0A (fun _=>?_) fun _=>hj3 _ _ hb2 (z8Q hnb) P (d5A hs)
    have P2:=P.kb hk
    exact g0A (fun _=>wpS_pure ⟨J4,.inr ⟨_,rfl,hR _ P2.db⟩⟩) fun n2=>g0A (fun _=>wpS_pure ⟨J4,.inr ⟨_,rfl,hR _ P2.da⟩⟩) fun n3=>hj3 _ _ (ne_c n2 (ne_c n3 (sQ _))) (dQ hk (z8Q hnb)) P2 (h5B (d5A hs))
   clear_value jp2
   refine g0A (fun _=>?_) fun _=>hj2 _ _ L3.ha L3.la L3.pm L3.sz
   have P2:=L3.pm.ka hk
   exact g0A (fun _=>wpS_pure ⟨J4,.inr ⟨_,rfl,hR _ P2.da⟩⟩) fun n1=>hj2 _ _ (ne_c n1 (sQ _)) (dQ hk L3.la) P2 (h5B L3.sz)
  clear_value jp
  exact g0A (fun _=>hj _) fun _=>hj _
end
end Fl
namespace Fl
open PySem PyProof.Rows
section
variable {prog:Program} {w:World} {A:Around} {E:Value→Shared→Prop} {s:Shared} {κ:SortKind} {a₀:Array Keyed} {st:SortSt} {pd:Array (Nat×Nat×Nat)}
theorem r3B (sa:Nat):∀ (l:List Keyed) (k:Nat) (arr:Array Keyed),sa+k+l.length≤arr.size→
  ((l.zipIdx k).foldl (fun (a:Array Keyed) (q:Keyed×Nat)=>a.setIfInBounds (sa+q.2) q.1) arr).toList=arr.toList.take (sa+k)++(l++arr.toList.drop (sa+k+l.length))
 | [],k,arr,_=>(kW _ _).symm
 | p::l,k,arr,h=>by
  have hk:sa+k<arr.size:=yQ (z8K (vZ _)) h
  have hlen:sa+k+1+l.length=sa+k+(p::l).length:=by rw [mW,z3Z,bZ 1]
  rw [List.zipIdx_cons,List.foldl_cons,r3B sa l (k+1) _ (by rw [Array.size_setIfInBounds,← z3Z,hlen];exact h),← z3Z,hlen,Array.toList_setIfInBounds]
  have e1:List.drop (sa+k+(p::l).length) (arr.toList.set (sa+k) p)=List.drop (sa+k+(p::l).length) arr.toList:=List.drop_set_of_lt (z8K (vZ _))
  have e2:(List.take (sa+k+1) (arr.toList.set (sa+k) p))=List.take (sa+k) arr.toList++[p]:=by
   rw [List.take_succ_eq_append_getElem (by rw [List.length_set];exact hk),List.take_set_of_le (uQ _),List.getElem_set_self]
  rw [e1,e2,kQ];rfl
theorem wpS_set {Q:PUnit→SortSt→Prop} {st':SortSt} (h:Q ⟨⟩ st'):wpS (model prog w) A E s (set st':StateT SortSt Sem PUnit) Q st:=by
 unfold wpS;rw [StateT.run_set];exact wpAny_pure ⟨rfl,h⟩
theorem f0C {c:Array Keyed} {i j:Nat} {x:Keyed} (h:x∈c.extract i j):x∈c:=by
 rw [← Array.mem_toList_iff,z6Z,yZ] at h
 exact Array.mem_toList_iff.mp (List.mem_of_mem_drop (List.mem_of_mem_take h))
theorem cut3 (l:List Keyed) {i j k:Nat} (hij:i≤j) (hjk:j≤k):l.take i++(((l.drop i).take (j - i)++(l.drop j).take (k - j))++l.drop k)=l:=by
 have e1:(l.drop j).take (k - j)++l.drop k=l.drop j:=by
  have:=kW (k - j) (l.drop j)
  rw [List.drop_drop,aW hjk] at this;exact this
 have e2:(l.drop i).take (j - i)++l.drop j=l.drop i:=by
  have:=kW (j - i) (l.drop i)
  rw [List.drop_drop,aW hij] at this;exact this
 rw [kQ,e1,e2,kW]
theorem k2B {n1 n2 p1 p2:Nat} {Q:Bool→SortSt→Prop} (hc:Cmps prog w A s κ a₀) (J:Js κ (·.Perm a₀) #[(0,n1,p1),(n1,n2,p2)] st) (h1:1≤n1) (h2:1≤n2) (hn:n1+n2≤a₀.size)
  (h:∀ st',Js κ (·.Perm a₀) #[(0,n1+n2,p1)] st'→Q true st'):wpS (model prog w) A E s (mergeAt' 0) Q st:=by
 obtain ⟨kd,ar,pn,mg,fl⟩:=st
 obtain ⟨j1,j2,j3,j4⟩:=J
 change ar.Perm a₀ at j1
 change fl=none at j2
 change kd=κ at j3
 change pn=_ at j4
 subst j2 j3 j4
 have hsz:=j1.size_eq
 have hm:∀ x∈ar,x∈a₀:=fun x hx=>j1.mem_iff.mp hx
 refine wpS_bind (wpS_get ?_)
 refine wpS_bind (wpS_set ?_)
 have e:((#[(0,n1,p1),(n1,n2,p2)]:Array (Nat×Nat×Nat)).setIfInBounds 0 (0,n1+n2,p1)).eraseIdxIfInBounds (0+1)=#[(0,n1+n2,p1)]:=by
  apply Array.toList_inj.mp
  rw [Array.toList_eraseIdxIfInBounds];rfl
 show wpS _ _ _ _ _ _ (SortSt.mk' kd ar (((#[(0,n1,p1),(n1,n2,p2)]:Array (Nat×Nat×Nat)).setIfInBounds 0 (0,n1+n2,p1)).eraseIdxIfInBounds (0+1)) mg none)
 rw [e]
 have J1:Js kd (·=ar) #[(0,n1+n2,p1)] (SortSt.mk' kd ar #[(0,n1+n2,p1)] mg none):=⟨rfl,rfl,rfl,rfl⟩
 have J2:Js kd (·.Perm a₀) #[(0,n1+n2,p1)] (SortSt.mk' kd ar #[(0,n1+n2,p1)] mg none):=⟨j1,rfl,rfl,rfl⟩
 refine gal hc J1 (i:=n1) (n:=n1) (yQ (z8K h2) (hsz ▸ hn)) hm hm (by rw [iZ,hsz];exact dQ (z5Q _ _) hn) h1 fun k hk=>?_
 refine g0A (fun _=>wpS_pure (h _ J2)) fun n3=>?_
 have hk1:1≤n1 - k:=ne_c n3 (sQ _)
 have hkn:k<n1:=Nat.lt_of_sub_pos hk1
 refine gal hc J1 (i:=0+k+(n1 - k) - 1) (n:=n2) ?_ hm hm (hsz ▸ hn) (v2A h2 (uQ _)) fun m hmm=>?_
 ·rw [iZ,aW hk,hsz]
  exact v2A h1 (dQ (z5Q _ _) hn)
 refine g0A (fun _=>wpS_pure (h _ J2)) fun n4=>?_
 have hm1:1≤m:=ne_c n4 (sQ _)
 dsimp -zeta only
 extract_lets +onlyGivenNames x y jp
 have hm3:n1+m≤ar.size:=by rw [hsz];exact dQ (bW hmm n1) hn
 have hx:x.size=n1 - k:=by
  show (ar.extract (0+k) n1).size=_
  rw [Array.size_extract,iZ,jZ (dQ (z5Q _ _) hm3)]
 have hy:y.size=m:=by
  show (ar.extract n1 (n1+m)).size=_
  rw [Array.size_extract,jZ hm3,oK]
 have hj:∀ r st',Js kd (·=ar) #[(0,n1+n2,p1)] st'→r.toList.Perm (x.toList++y.toList)→wpS (model prog w) A E s (jp r) Q st':=by
  rintro r ⟨kd,ar',pn,mg,fl⟩ J3 hr
  obtain ⟨k1,k2,k3,k4⟩:=J3
  change ar'=ar at k1
  change fl=none at k2
  change kd=_ at k3
  change pn=_ at k4
  subst k1 k2 k3 k4
  refine wpS_bind (wpS_modify ?_)
  refine wpS_bind (wpS_get (wpS_pure (h _ ⟨?_,rfl,rfl,rfl⟩)))
  have hlen:r.toList.length=n1 - k+m:=by rw [hr.length_eq,fQ,dW,dW,hx,hy]
  have hpos:k+0+r.toList.length=n1+m:=by rw [hlen,Nat.add_zero,← z3Z,aW hk]
  refine cK.mpr ?_
  show ((r.toList.zipIdx 0).foldl (fun (a:Array Keyed) (q:Keyed×Nat)=>a.setIfInBounds (0+k+q.2) q.1) ar').toList.Perm _
  rw [iZ,r3B k r.toList 0 ar' (by rw [hpos];exact hm3),hpos,Nat.add_zero]
  refine List.Perm.trans ?_ (cK.mp j1)
  refine ((hr.append_right _).append_left _).trans (List.Perm.of_eq ?_)
  have ex:x.toList=(ar'.toList.drop k).take (n1 - k):=by
   show (ar'.extract (0+k) n1).toList=_
   rw [iZ,z6Z,yZ]
  have ey:y.toList=(ar'.toList.drop n1).take (n1+m - n1):=by
   show (ar'.extract n1 (n1+m)).toList=_
   rw [z6Z,yZ]
  rw [ex,ey]
  exact cut3 ar'.toList hk (z5Q _ _)
 clear_value jp
 have mx:∀ z∈x,z∈a₀:=fun z hz=>hm z (f0C hz)
 have my:∀ z∈y,z∈a₀:=fun z hz=>hm z (f0C hz)
 exact g0A (fun _=>wpS_bind (lo_any (fun _ h=>h) hc J1 mx my (hx ▸ hk1) (hy ▸ hm1) hj)) fun _=>wpS_bind (hi_any (fun _ h=>h) hc J1 mx my (hx ▸ hk1) (hy ▸ hm1) hj)
end
end Fl
namespace Fl
open PySem PyProof.Rows
section
variable {prog:Program} {w:World} {A:Around} {E:Value→Shared→Prop} {s:Shared} {κ:SortKind} {a₀:Array Keyed} {st:SortSt} {pd:Array (Nat×Nat×Nat)}
theorem k8B {n:Nat} (h1:64≤n) (h2:n<128):1≤minRun' n n 0∧n≤2 * minRun' n n 0:=by
 obtain ⟨f,rfl⟩:∃ f,n=f+2:=⟨n - 2,(Nat.sub_add_cancel (dQ (by decide) h1)).symm⟩
 rw [minRun'_succ,if_neg (z6W.mpr h1),minRun'_succ,if_pos (Nat.div_lt_of_lt_mul h2),z9K (sQ _)]
 refine ⟨dQ (Nat.div_pos (dQ (by decide) h1) (by decide)) (z5Q _ _),?_⟩
 rw [Nat.mul_add]
 exact dQ (lZ (Nat.div_add_mod (f+2) 2).symm) (bW (Nat.le_mul_of_pos_left _ (by decide)) _)
noncomputable def Fin2 (κ:SortKind) (a₀:Array Keyed) (N:Nat) (st:SortSt):Prop:=
 Js κ (·.Perm a₀) #[(0,N,0)] st∨∃ n1 pw,1≤n1∧n1<N∧Js κ (·.Perm a₀) #[(0,n1,pw),(n1,N - n1,0)] st
theorem Js.pd' {G:Array Keyed→Prop} (J:Js κ G pd st):(sortPriv% PySem.Builtin.SortState.pending) st=pd:=J.pd
theorem loop2 {N:Nat} {F1:Nat→Option Unit×Nat→StateT SortSt Sem (ForInStep (Option Unit×Nat))} {T:Option Unit×Nat→StateT SortSt Sem Unit} {F2:Nat→Option Unit×Unit→StateT SortSt Sem (ForInStep (Option Unit×Unit))} {T2:Option Unit×Unit→StateT SortSt Sem Unit} {Q:Unit→SortSt→Prop} {I:Nat→Nat→SortSt→Prop} {I2:SortSt→Prop}
  (h0:I 0 0 st) (hT:∀ lo,T (none,lo)=(forIn [0:N] (none,()) F2 >>= T2)) (hT2:T2 (none,())=pure ()) (hend:∀ lo st',I N lo st'→I2 st') (hq:∀ st',I2 st'→Q () st')
  (hF1:∀ x lo st',I x lo st'→wpS (model prog w) A E s (F1 x (none,lo)) (fun r st'=>∃ lo,(r=.done (none,lo)∧I2 st')∨(r=.yield (none,lo)∧I (x+1) lo st')) st')
  (hF2:∀ x st',I2 st'→wpS (model prog w) A E s (F2 x (none,())) (fun r st'=>(r=.done (none,())∨r=.yield (none,()))∧I2 st') st') :
  wpS (model prog w) A E s (forIn [0:N] (none,0) F1 >>= T) Q st:=by
 refine wpS_bind (wpS_mono (wpS_forRange (I:=fun x c st'=>c.1=none∧I x c.2 st') (Q:=fun c st'=>c.1=none∧I2 st') ?_ ?_ ⟨rfl,h0⟩) ?_)
 ·rintro x ⟨_,lo⟩ st1 _ _ ⟨rfl,h⟩
  refine wpS_mono (hF1 x lo st1 h) fun r st2 hr=>?_
  rcases hr with ⟨lo',⟨rfl,h⟩ | ⟨rfl,h⟩⟩
  ·exact ⟨rfl,h⟩
  ·exact ⟨rfl,h⟩
 ·rintro ⟨_,lo⟩ st1 ⟨rfl,h⟩
  rw [z9K (sQ _)] at h
  exact ⟨rfl,hend lo st1 h⟩
 ·rintro ⟨_,lo⟩ st1 ⟨rfl,h⟩
  rw [hT]
  refine wpS_bind (wpS_mono (wpS_forRange (I:=fun _ c st'=>c.1=none∧I2 st') (Q:=fun c st'=>c.1=none∧I2 st') ?_ (fun _ _ hh=>hh) ⟨rfl,h⟩) ?_)
  ·rintro x ⟨_,_⟩ st2 _ _ ⟨rfl,h⟩
   refine wpS_mono (hF2 x st2 h) fun r st3 hr=>?_
   rcases hr with ⟨rfl | rfl,h⟩
   ·exact ⟨rfl,h⟩
   ·exact ⟨rfl,h⟩
  ·rintro ⟨_,_⟩ st2 ⟨rfl,h⟩
   rw [hT2]
   exact wpS_pure (hq st2 h)
noncomputable def RI (κ:SortKind) (a₀:Array Keyed) (N mr x lo:Nat) (st:SortSt):Prop:=
 (x=0∧lo=0∧Js κ (·.Perm a₀) #[] st)∨(x=1∧(mr≤lo∧lo<N)∧Js κ (·.Perm a₀) #[(0,lo,0)] st)∨(lo=N∧Fin2 κ a₀ N st)
noncomputable def I2 (κ:SortKind) (a₀:Array Keyed) (N:Nat) (st:SortSt):Prop:=
 (∃ q,Js κ (·.Perm a₀) #[q] st)∨∃ n1 pw,1≤n1∧n1<N∧Js κ (·.Perm a₀) #[(0,n1,pw),(n1,N - n1,0)] st
theorem Fin2.i {N:Nat} (h:Fin2 κ a₀ N st):I2 κ a₀ N st:=h.imp (fun J=>⟨_,J⟩) id
theorem runs_any {Q:Unit→SortSt→Prop} (hc:Cmps prog w A s κ a₀) (J:Js κ (·.Perm a₀) #[] st) (h1:64≤a₀.size) (h2:a₀.size<128) (h:∀ st' pd,Js κ (·.Perm a₀) pd st'→Q () st'):wpS (model prog w) A E s sortRuns' Q st:=by
 refine wpS_bind (wpS_get ?_)
 have hN:a₀.size=(arrOf st).size:=J.size.symm
 rw [hN] at h1 h2
 obtain ⟨m1,m2⟩:=k8B h1 h2
 have hN0:0<(arrOf st).size:=yQ (by decide) h1
 refine loop2 (I:=RI κ a₀ (arrOf st).size (minRun' (arrOf st).size (arrOf st).size 0)) (I2:=I2 κ a₀ (arrOf st).size) (.inl ⟨rfl,rfl,J⟩) (fun _=>rfl) rfl (fun lo st1 hI=>?_) (fun st1 hF=>?_) ?_ ?_
 ·rcases hI with ⟨e,_,_⟩ | ⟨e,_,_⟩ | ⟨_,e⟩
  ·exact absurd hN0 (e ▸ wW _)
  ·exact absurd h1 (e ▸ by decide)
  ·exact e.i
 ·rcases hF with ⟨q,J2⟩ | ⟨n1,pw,_,_,J2⟩
  ·exact h _ _ J2
  ·exact h _ _ J2
 ·intro x lo st1 hI
  refine g0A (fun hge=>wpS_pure ⟨_,.inl ⟨rfl,?_⟩⟩) fun hlt=>?_
  ·rcases hI with ⟨_,e,_⟩ | ⟨_,e,_⟩ | ⟨_,e⟩
   ·exact absurd hN0 (z6W.mpr (e ▸ hge))
   ·exact absurd e.2 (z6W.mpr hge)
   ·exact e.i
  have hlt:lo<(arrOf st).size:=Nat.not_le.mp hlt
  have hpd:∃ pd,Js κ (·.Perm a₀) pd st1∧((x=0∧lo=0∧pd=#[])∨(x=1∧(minRun' (arrOf st).size (arrOf st).size 0)≤lo∧pd=#[(0,lo,0)])):=by
   rcases hI with ⟨q,e,J⟩ | ⟨q,e,J⟩ | ⟨e,_⟩
   ·exact ⟨_,J,.inl ⟨q,e,rfl⟩⟩
   ·exact ⟨_,J,.inr ⟨q,e.1,rfl⟩⟩
   ·exact absurd e (z9W hlt)
  clear hI
  refine bc fun zZ=>?_
  obtain ⟨pd,J1,hpd⟩:=hpd
  refine zZ ?_;clear zZ
  have hle:lo+((arrOf st).size - lo)≤a₀.size:=by rw [aW (z8Q hlt),hN];exact uQ _
  have hp1:1≤(arrOf st).size - lo:=z3K hlt
  refine wpS_bind (s0C hc J1 hp1 hle fun m st2 J2 hm1 hm2=>?_)
  dsimp -zeta only
  extract_lets +onlyGivenNames n0 jp
  have hj:∀ n st2,Js κ (·.Perm a₀) pd st2→1≤n→n≤(arrOf st).size - lo→((minRun' (arrOf st).size (arrOf st).size 0)≤n∨n=(arrOf st).size - lo)→wpS (model prog w) A E s (jp ⟨⟩ n) (fun r st'=>∃ lo,(r=.done (none,lo)∧I2 κ a₀ (arrOf st).size st')∨(r=.yield (none,lo)∧RI κ a₀ (arrOf st).size (minRun' (arrOf st).size (arrOf st).size 0) (x+1) lo st')) st2:=by
   intro n st2 J2 hn1 hn2 hn3
   refine wpS_bind (wpS_get ?_)
   rw [J2.pd']
   rcases hpd with ⟨rfl,rfl,rfl⟩ | ⟨rfl,hmr,rfl⟩
   ·refine wpS_bind (wpS_modify (wpS_pure ⟨_,.inr ⟨rfl,?_⟩⟩))
    have J3:Js κ (·.Perm a₀) #[(0,0+n,0)] (setPending st2 ((pendingOf st2).push (0,n,0))):=⟨J2.pm,J2.fl,J2.kd,by
     show (pendingOf st2).push (0,n,0)=_
     rw [J2.pd,iZ];rfl⟩
    have e0:0+n=n:=iZ n
    by_cases c:n=(arrOf st).size
    ·refine .inr (.inr ⟨e0.trans c,.inl ⟨J2.pm,J2.fl,J2.kd,?_⟩⟩)
     show (pendingOf st2).push (0,n,0)=_
     rw [J2.pd,c];rfl
    ·exact .inr (.inl ⟨rfl,⟨dQ (hn3.resolve_right c) (lZ e0.symm),vQ (lZ e0) (gZ hn2 c)⟩,J3⟩)
   ·have hnn:n=(arrOf st).size - lo:=by
     rcases hn3 with q | q
     ·exact jW hn2 (dQ (Nat.sub_le_of_le_add (dQ m2 (by rw [Nat.two_mul];exact bW hmr _))) q)
     ·exact q
    refine wpS_bind (wpS_mono (wpS_forRange (I:=fun y c st'=>st'=st2∧(y=0∨True)∧c=(none,())) (Q:=fun c st'=>st'=st2∧c=(none,())) ?_ (fun _ _ hh=>⟨hh.1,hh.2.2⟩) ⟨rfl,.inl rfl,rfl⟩) ?_)
    ·rintro y c st3 _ _ ⟨rfl,_,rfl⟩
     refine wpS_bind (wpS_get ?_)
     rw [J2.pd']
     exact wpS_pure ⟨rfl,rfl⟩
    ·rintro c st3 ⟨rfl,rfl⟩
     refine wpS_bind (wpS_modify (wpS_bind (wpS_modify (wpS_pure ⟨_,.inr ⟨rfl,.inr (.inr ⟨?_,.inr ⟨lo,power' (arrOf st).size (2 * 0+lo) (2 * 0+lo+lo+n) (arrOf st).size,dQ m1 hmr,hlt,⟨J2.pm,J2.fl,J2.kd,?_⟩⟩⟩)⟩⟩))))
     ·rw [hnn,aW (z8Q hlt)]
     ·show ((pendingOf st3).modify ((pendingOf st3).size - 1) _).push (lo,n,0)=_
      rw [J2.pd,hnn];rfl
  clear_value jp
  refine g0A (fun hl=>?_) fun hg=>hj _ _ J2 hm1 hm2 (.inl (z6W.mp hg))
  refine wpS_bind (wpS_lift (wpAny_rule ⟨rfl,?_⟩))
  have hmin:1≤min ((arrOf st).size - lo) (minRun' (arrOf st).size (arrOf st).size 0):=Nat.le_min.mpr ⟨hp1,m1⟩
  refine wpS_bind (bin_any hc J2 (dQ (bW (z1K _ _) lo) hle) fun st3 J3=>?_)
  refine g0A (fun e=>absurd e (by decide)) fun _=>hj _ _ J3 hmin (z1K _ _) ?_
  rcases Nat.le_total ((arrOf st).size - lo) (minRun' (arrOf st).size (arrOf st).size 0) with q | q
  ·exact .inr (jZ q)
  ·exact .inl (lZ (Nat.min_eq_right q).symm)
 ·intro x st2 hF
  rcases hF with ⟨q,J2⟩ | ⟨n1,pw,hn1,hn2,J2⟩
  ·refine wpS_bind (wpS_get ?_)
   rw [J2.pd']
   exact wpS_pure ⟨.inl rfl,.inl ⟨_,J2⟩⟩
  ·refine wpS_bind (wpS_get ?_)
   rw [J2.pd']
   refine wpS_bind (k2B hc J2 hn1 (z3K hn2) (by rw [aW (z8Q hn2),hN];exact uQ _) fun st3 J3=>?_)
   exact wpS_pure ⟨.inr rfl,.inl ⟨_,J3⟩⟩
end
end Fl
namespace Fl
open PySem PyProof.Rows PySem.W
theorem perm_map {α β:Type} {f:α→β} {l' l:List β} (h:l'.Perm l):∀ r:List α,l=r.map f→∃ p:List α,p.Perm r∧l'=p.map f:=by
 induction h with
 | nil=>intro r e;rw [List.map_eq_nil_iff.mp e.symm];exact ⟨[],.refl _,rfl⟩
 | cons x _ ih=>
  intro r e
  obtain ⟨y,r',rfl,rfl,e2⟩:=List.map_eq_cons_iff.mp e.symm
  obtain ⟨p,hp,e3⟩:=ih r' e2.symm
  exact ⟨y::p,hp.cons y,congrArg (f y::·) e3⟩
 | swap x y l=>
  intro r e
  obtain ⟨a,r',rfl,rfl,e2⟩:=List.map_eq_cons_iff.mp e.symm
  obtain ⟨b,r2,rfl,rfl,e3⟩:=List.map_eq_cons_iff.mp e2
  exact ⟨b::a::r2,.swap ..,congrArg (f b::f a::·) e3.symm⟩
 | trans _ _ ih1 ih2=>
  intro r e
  obtain ⟨p,hp,e2⟩:=ih2 r e
  obtain ⟨q,hq,e3⟩:=ih1 p e2
  exact ⟨q,hq.trans hp,e3⟩
section
variable {prog:Program} {w:World} {A:Around} {s:Shared} {vs:List Value}
theorem srt_many {lt:Nat→Nat→Bool} (h64:64≤vs.length) (h:vs.length<128) (H:Asks prog w A vs lt s):Srt prog w A vs (fun _=>True) s:=by
 refine bc fun zZ=>?_
 obtain ⟨κ,hk1,hk2⟩:=H
 refine zZ ?_;clear zZ
 refine ⟨κ,hk1,fun E=>?_⟩
 have hsz:(vs.toArray.zip vs.toArray).size=vs.length:=by rw [Array.size_zip,Nat.min_self];rfl
 have hat:∀ x∈vs.toArray.zip vs.toArray,∃ i,i<vs.length∧x.1=vs.getD i Value.none:=fun x hx=>by
  refine bc fun zZ=>?_
  obtain ⟨i,hi,e⟩:=Array.getElem_of_mem hx
  refine zZ ?_;clear zZ
  rw [hsz] at hi
  refine ⟨i,hi,?_⟩
  rw [← e,Array.getElem_zip,aK,nQ hi];rfl
 refine wpAny_mono (runs_any (E:=E) (a₀:=vs.toArray.zip vs.toArray) (κ:=κ) (Q:=fun _ st'=>∃ pd,Js κ (·.Perm (vs.toArray.zip vs.toArray)) pd st') ?_ ⟨Array.Perm.refl _,rfl,rfl,rfl⟩ (hsz.symm ▸ h64) (hsz.symm ▸ h) fun st' pd J=>⟨pd,J⟩) ?_ fun _ _ e=>e
 ·intro x hx y hy C hC
  refine bc fun zZ=>?_
  obtain ⟨i,hi,e1⟩:=hat x hx
  obtain ⟨j,hj,e2⟩:=hat y hy
  refine zZ ?_;clear zZ
  rw [e1,e2]
  exact hk2 i j C hi hj (hC _)
 ·rintro ⟨u,st'⟩ s' ⟨rfl,pd,J⟩
  refine ⟨rfl,?_⟩
  have hr:(vs.toArray.zip vs.toArray).toList=(List.range vs.length).map (kas_item (vs.toArray.zip vs.toArray)):=by
   refine List.ext_getElem (by rw [dW,hsz,eQ,mK]) fun i h1 h2=>?_
   rw [List.getElem_map,List.getElem_range]
   unfold kas_item
   rw [sZ,eZ (by rw [dW] at h1;exact h1)];rfl
  refine bc fun zZ=>?_
  obtain ⟨p,hp,e⟩:=perm_map (cK.mp J.pm) _ hr
  refine zZ ?_;clear zZ
  refine ⟨p.toArray,?_,J.fl,cK.mpr hp,trivial⟩
  apply Array.toList_inj.mp
  rw [Array.toList_map];exact e
end
section
variable {B:Bs} {C:a0A} {Ar:Around} {env:Env} {F:Value→Shared→Prop}
theorem Srt.any {prog:Program} {w:World} {A:Around} {vs:List Value} {R:Array Nat→Prop} {s:Shared} (h:Srt prog w A vs R s):Srt prog w A vs (fun _=>True) s:=by
 obtain ⟨κ,h1,h2⟩:=h
 exact ⟨κ,h1,fun E=>wpAny_mono (h2 E) (fun r s' h=>⟨h.1,h.2.imp fun p q=>⟨q.1,q.2.1,q.2.2.1,trivial⟩⟩) fun _ _ e=>e⟩
theorem r8B {e:E} {ex:Expr} {p pos:Pos} (O:BOk B) (hh:Ar.handled=none) (hu:n1A ex=true) (he:EOk B C Ar env e ex) (hk:env.kindOf (Str.ofString "sorted")=some .globalImplicit) :
  LOk B C Ar env (.sortP e) (.Call (.Name (Str.ofString "sorted") p) [ex] [] pos):=by
 intro Z N ρ σ m s K Q F I Fr hx P
 rw [xL_sortP] at hx
 refine s1B (irs:=[e]) (O.at "sorted" (.builtin "sorted") rfl) hk (by decide +kernel) (.inl ⟨_,rfl⟩) (.cons he hu .nil) I Fr (K:=fun as σ=>get (one1 as) fun va=>get (srtV σ va) fun xs=>(j0A xs=true∧xs.length<100)∧∀ ys:List V,ys.Perm xs→(small ys∧K ys σ)) (show xEs C [e] m σ _ from hx) ?_
 intro as vs Z1 ρ1 σ1 h1 t1 hl hx1 e1 p1 I1 R1
 obtain ⟨va,rfl⟩:=cJ.mp hl
 obtain ⟨v,rfl,Rv⟩:=a4A R1
 have hx1:get (srtV σ1 va) fun xs=>(j0A xs=true∧xs.length<100)∧∀ ys:List V,ys.Perm xs→(small ys∧K ys σ1):=hx1
 refine getE hx1 fun xs hsq zQ=>?_
 obtain ⟨⟨hso,h100⟩,hK⟩:=zQ
 refine t7A (R:=fun _ _=>True) I1 h100 (fun _ _=>trivial) (fun items s' hr hz hl2=>?_) (fun a its k h' tk pp hix _ I2 R2=>?_) fun Q' hq=>gather (Ar:=Ar.in1) (s:={ s with heap:=h1,toks:=t1 }) O hh I1 Rv hsq (z7W h100 (by decide)) Q' hq
 ·have hA:=ask_ok (A:=Ar.in1.in1) hso hr hz hl2
  by_cases c:items.length<64
  ·exact (z6B (m6B xs) hl2 c hA).any
  ·exact srt_many (z6W.mp c) (by rw [f0A hr];exact z7W h100 (by decide)) hA
 ·have hp:(pp.toList.map fun i=>xs.getD i V.none).Perm xs:=by
   have h1:pp.toList.Perm (List.range xs.length):=cK.mp hix
   refine (h1.map _).trans (List.Perm.of_eq ?_)
   refine List.ext_getElem (by rw [eQ,mK]) fun i h1 h2=>?_
   rw [List.getElem_map,List.getElem_range,aK,nQ h2];rfl
  obtain ⟨hsm,hk⟩:=hK _ hp
  exact P _ a its k Z1 ρ1 σ1 h' tk hsm hk e1 p1 I2 R2
end
end Fl
namespace Fl
open PySem PyProof.Rows PySem.W
section
variable {B:Bs} {C:a0A} {Ar:Around} {env:Env} {F:Value→Shared→Prop}
theorem d7B {st:Stmt}:SOk B C Ar env .raise st:=by
 intro Z Nf N ρ σ m s K Q F I Fr O hx P
 rw [xS_raise] at hx
 exact hx.elim
theorem swaps_no {ex:Expr} {t:Option Expr} {l:Nat} (h:(Nat.ble 8 ex.ctorIdx && Nat.ble ex.ctorIdx 10)=false):swapsWith ex t l env=pure false:=by
 cases ex <;> first | rfl | exact Bool.noConfusion h
theorem v6B {ex o i:Expr} {p:Pos} {l:Nat}:swapsWith ex (some (.Subscript o i p)) l env=pure false:=by cases ex <;> rfl
theorem swaps_at {ex o:Expr} {f:Str} {p:Pos} {l:Nat}:swapsWith ex (some (.Attribute o f p)) l env=pure false:=by cases ex <;> rfl
end
structure Info where
 fns:List String
 meths:List (String×String)
 clss:List String
 consts:List (String×Int)
 rank:String→Nat
structure InfoOk (B:Bs) (Inf:Info):Prop where
 b:BOk B
 c:COk B
 fn:∀ f∈Inf.fns,∃ fa,B.fn f=some fa∧z5A B (Str.ofString f) (.ref fa)∧keepIn B.K (.ref fa)=true
 cls:∀ c C,B.cls c=some C→c∈Inf.clss
 clsIn:∀ c∈Inf.clss,∃ Cl fI,B.cls c=some Cl∧B.fn (c ++ ".__init__")=some fI∧makesIn B.K Cl=true∧findIn B.K (.ref Cl) "__init__" = some (some (.ref fI))∧typeIn B.K (.ref fI)=some (.type "function")∧keepIn B.K (.ref Cl)=true∧z5A B (Str.ofString c) (.ref Cl)
 meth:∀ c f C,(c,f)∈Inf.meths→B.cls c=some C→∃ fa,B.fn (c ++ "." ++ f)=some fa∧keepIn B.K (.ref fa)=true∧findIn B.K (.ref C) (Str.ofString f)=some (some (.ref fa))∧typeIn B.K (.ref fa)=some (.type "function")∧f∉h0A c
 con:∀ x i,(x,i)∈Inf.consts→∃ t,z5A B (Str.ofString x) (.int i t)
noncomputable def b8A (sc:Scope) (nm:String):Bool:=ownK (sc.names.lookup (Str.ofString nm)) && nm != ".0" && !(Str.ofString nm == ("__debug__" : Str)) && !(Str.ofString nm == ("__classdict__" : Str))
noncomputable def d1B (sc:Scope) (nm:String):Bool:=sc.names.lookup (Str.ofString nm) == some .globalImplicit && !(Str.ofString nm == ("__debug__" : Str))
noncomputable def opOf:Op→Operator
 | .add=>.Add | .sub=>.Sub | .mul=>.Mult | .fdiv=>.FloorDiv | .mod=>.Mod
noncomputable def isComp (e:Expr):Bool:=Nat.ble 8 e.ctorIdx && Nat.ble e.ctorIdx 10
noncomputable def g4B (e:Expr):Bool:=Nat.beq e.ctorIdx 7
noncomputable def swapB (sc:Scope) (ex:Expr) (t:Str) (p:Pos):Bool:=match ex with
 | .ListComp _ _ s _=>sc.names.lookup t == some .local && p.line == ex.pos.line && !(s.names.any fun (n,k)=>n == t && (k == .local || k == .cell))
 | _=>false
noncomputable def clOk (sc:Scope) (c:Cl):Bool:=(clVal c).isSome && sc.names.lookup (q1B c) == some .globalImplicit
theorem nope {α:Type} {x:α} {P:Prop} (h:(none:Option α)=some x):P:=nomatch h
theorem i3A {P:Prop} (h:false=true):P:=nomatch h
noncomputable def anyO {α:Type} (o:Option α) (p:α→Bool):Bool:=match o with
 | some x=>p x
 | none=>false
theorem rm1 {d k r:Nat} (hr:k<r) (h:d+4 * r+3≤900):d+4 * k+5≤900:=by lia
theorem rm2 {u k r L:Nat} (hr:k<r) (h:u+30 * r+230≤L):u+30 * k+240≤L:=by lia
theorem rm3 {u r L:Nat} (h:u+30 * r+230≤L):u+80<L:=by lia
theorem anyO_of {α:Type} {o:Option α} {p:α→Bool} (h:anyO o p=true):∃ x,o=some x∧p x=true:=by
 cases o with
 | none=>cases h
 | some x=>exact ⟨x,rfl,h⟩
theorem anyE {α:Type} {o:Option α} {p:α→Bool} {G:Prop} (h:anyO o p=true) (q:∀ x,o=some x→p x=true→G):G:=(anyO_of h).elim fun x r=>q x r.1 r.2
theorem sj {α:Type} {a x:α} {P:α→Prop} (p:P a) (h:some a=some x):P x:=pQ h ▸ p
noncomputable def atE {α:Type} (k:Nat) (e:Expr) (f:e.ctorIdx=k→Option α):Option α:=if h:e.ctorIdx=k then f h else none
theorem h2A {α:Type} {k:Nat} {e:Expr} {f:e.ctorIdx=k→Option α} {x:α} {P:Prop} (h:atE k e f=some x) (g:∀ q,f q=some x→P):P:=by
 by_cases q:e.ctorIdx=k
 ·exact g q ((dif_pos q).symm.trans h)
 ·exact nope ((dif_neg q).symm.trans h)
noncomputable def atS {α:Type} (k:Nat) (e:Stmt) (f:e.ctorIdx=k→Option α):Option α:=if h:e.ctorIdx=k then f h else none
theorem t8A {α:Type} {k:Nat} {e:Stmt} {f:e.ctorIdx=k→Option α} {x:α} {P:Prop} (h:atS k e f=some x) (g:∀ q,f q=some x→P):P:=by
 by_cases q:e.ctorIdx=k
 ·exact g q ((dif_pos q).symm.trans h)
 ·exact nope ((dif_neg q).symm.trans h)
noncomputable def aConst (e:Expr):Option (Const):=atE 19 e fun h=>Expr.Constant.elim (motive_1:=fun _=>Option (Const)) e h fun c _ _=>some c
theorem k1C {ex:Expr} {x:Const} (h:aConst ex=some x):∃ k p,ex=.Constant x k p:=
 h2A h fun q=>Expr.Constant.elim (motive_1:=fun e=>∀ q:e.ctorIdx=19,Expr.Constant.elim (motive_1:=fun _=>Option (Const)) e q (fun c _ _=>some c)=some x→∃ k p,e=.Constant x k p) ex q (fun v0 v1 v2 _=>sj (P:=fun (x:Const)=>∃ k p,(Expr.Constant v0 v1 v2)=.Constant x k p) ⟨_,_,rfl⟩) q
noncomputable def a5A (e:Expr):Option (Str×Pos):=atE 23 e fun h=>Expr.Name.elim (motive_1:=fun _=>Option (Str×Pos)) e h fun s p=>some (s,p)
theorem i1A {ex:Expr} {x:Str×Pos} (h:a5A ex=some x):ex=.Name x.1 x.2:=
 h2A h fun q=>Expr.Name.elim (motive_1:=fun e=>∀ q:e.ctorIdx=23,Expr.Name.elim (motive_1:=fun _=>Option (Str×Pos)) e q (fun s p=>some (s,p))=some x→e=.Name x.1 x.2) ex q (fun v0 v1 _=>sj (P:=fun (x:Str×Pos)=>(Expr.Name v0 v1)=.Name x.1 x.2) rfl) q
noncomputable def aBin (e:Expr):Option (Expr×Operator×Expr):=atE 2 e fun h=>Expr.BinOp.elim (motive_1:=fun _=>Option (Expr×Operator×Expr)) e h fun l o r _=>some (l,o,r)
theorem m1C {ex:Expr} {x:Expr×Operator×Expr} (h:aBin ex=some x):∃ p,ex=.BinOp x.1 x.2.1 x.2.2 p:=
 h2A h fun q=>Expr.BinOp.elim (motive_1:=fun e=>∀ q:e.ctorIdx=2,Expr.BinOp.elim (motive_1:=fun _=>Option (Expr×Operator×Expr)) e q (fun l o r _=>some (l,o,r))=some x→∃ p,e=.BinOp x.1 x.2.1 x.2.2 p) ex q (fun v0 v1 v2 v3 _=>sj (P:=fun (x:Expr×Operator×Expr)=>∃ p,(Expr.BinOp v0 v1 v2 v3)=.BinOp x.1 x.2.1 x.2.2 p) ⟨_,rfl⟩) q
noncomputable def aUn (e:Expr):Option (UnaryOp×Expr):=atE 3 e fun h=>Expr.UnaryOp.elim (motive_1:=fun _=>Option (UnaryOp×Expr)) e h fun o e _=>some (o,e)
theorem i1C {ex:Expr} {x:UnaryOp×Expr} (h:aUn ex=some x):∃ p,ex=.UnaryOp x.1 x.2 p:=
 h2A h fun q=>Expr.UnaryOp.elim (motive_1:=fun e=>∀ q:e.ctorIdx=3,Expr.UnaryOp.elim (motive_1:=fun _=>Option (UnaryOp×Expr)) e q (fun o e _=>some (o,e))=some x→∃ p,e=.UnaryOp x.1 x.2 p) ex q (fun v0 v1 v2 _=>sj (P:=fun (x:UnaryOp×Expr)=>∃ p,(Expr.UnaryOp v0 v1 v2)=.UnaryOp x.1 x.2 p) ⟨_,rfl⟩) q
noncomputable def aBool (e:Expr):Option (BoolOp×List Expr):=atE 0 e fun h=>Expr.BoolOp.elim (motive_1:=fun _=>Option (BoolOp×List Expr)) e h fun o es _=>some (o,es)
theorem h6A {ex:Expr} {x:BoolOp×List Expr} (h:aBool ex=some x):∃ p,ex=.BoolOp x.1 x.2 p:=
 h2A h fun q=>Expr.BoolOp.elim (motive_1:=fun e=>∀ q:e.ctorIdx=0,Expr.BoolOp.elim (motive_1:=fun _=>Option (BoolOp×List Expr)) e q (fun o es _=>some (o,es))=some x→∃ p,e=.BoolOp x.1 x.2 p) ex q (fun v0 v1 v2 _=>sj (P:=fun (x:BoolOp×List Expr)=>∃ p,(Expr.BoolOp v0 v1 v2)=.BoolOp x.1 x.2 p) ⟨_,rfl⟩) q
noncomputable def aCmp (e:Expr):Option (Expr×List CmpOp×List Expr):=atE 15 e fun h=>Expr.Compare.elim (motive_1:=fun _=>Option (Expr×List CmpOp×List Expr)) e h fun l os rs _=>some (l,os,rs)
theorem l1C {ex:Expr} {x:Expr×List CmpOp×List Expr} (h:aCmp ex=some x):∃ p,ex=.Compare x.1 x.2.1 x.2.2 p:=
 h2A h fun q=>Expr.Compare.elim (motive_1:=fun e=>∀ q:e.ctorIdx=15,Expr.Compare.elim (motive_1:=fun _=>Option (Expr×List CmpOp×List Expr)) e q (fun l os rs _=>some (l,os,rs))=some x→∃ p,e=.Compare x.1 x.2.1 x.2.2 p) ex q (fun v0 v1 v2 v3 _=>sj (P:=fun (x:Expr×List CmpOp×List Expr)=>∃ p,(Expr.Compare v0 v1 v2 v3)=.Compare x.1 x.2.1 x.2.2 p) ⟨_,rfl⟩) q
noncomputable def aTup (e:Expr):Option (List Expr):=atE 25 e fun h=>Expr.Tuple.elim (motive_1:=fun _=>Option (List Expr)) e h fun es _ _=>some es
theorem b0B {ex:Expr} {x:List Expr} (h:aTup ex=some x):∃ k p,ex=.Tuple x k p:=
 h2A h fun q=>Expr.Tuple.elim (motive_1:=fun e=>∀ q:e.ctorIdx=25,Expr.Tuple.elim (motive_1:=fun _=>Option (List Expr)) e q (fun es _ _=>some es)=some x→∃ k p,e=.Tuple x k p) ex q (fun v0 v1 v2 _=>sj (P:=fun (x:List Expr)=>∃ k p,(Expr.Tuple v0 v1 v2)=.Tuple x k p) ⟨_,_,rfl⟩) q
noncomputable def aLst (e:Expr):Option (List Expr):=atE 24 e fun h=>Expr.List.elim (motive_1:=fun _=>Option (List Expr)) e h fun es _=>some es
theorem aLst_of {ex:Expr} {x:List Expr} (h:aLst ex=some x):∃ p,ex=.List x p:=
 h2A h fun q=>Expr.List.elim (motive_1:=fun e=>∀ q:e.ctorIdx=24,Expr.List.elim (motive_1:=fun _=>Option (List Expr)) e q (fun es _=>some es)=some x→∃ p,e=.List x p) ex q (fun v0 v1 _=>sj (P:=fun (x:List Expr)=>∃ p,(Expr.List v0 v1)=.List x p) ⟨_,rfl⟩) q
noncomputable def aSub (e:Expr):Option (Expr×Expr):=atE 21 e fun h=>Expr.Subscript.elim (motive_1:=fun _=>Option (Expr×Expr)) e h fun o i _=>some (o,i)
theorem y2B {ex:Expr} {x:Expr×Expr} (h:aSub ex=some x):∃ p,ex=.Subscript x.1 x.2 p:=
 h2A h fun q=>Expr.Subscript.elim (motive_1:=fun e=>∀ q:e.ctorIdx=21,Expr.Subscript.elim (motive_1:=fun _=>Option (Expr×Expr)) e q (fun o i _=>some (o,i))=some x→∃ p,e=.Subscript x.1 x.2 p) ex q (fun v0 v1 v2 _=>sj (P:=fun (x:Expr×Expr)=>∃ p,(Expr.Subscript v0 v1 v2)=.Subscript x.1 x.2 p) ⟨_,rfl⟩) q
noncomputable def aAttr (e:Expr):Option (Expr×Str×Pos):=atE 20 e fun h=>Expr.Attribute.elim (motive_1:=fun _=>Option (Expr×Str×Pos)) e h fun o s p=>some (o,s,p)
theorem d0B {ex:Expr} {x:Expr×Str×Pos} (h:aAttr ex=some x):ex=.Attribute x.1 x.2.1 x.2.2:=
 h2A h fun q=>Expr.Attribute.elim (motive_1:=fun e=>∀ q:e.ctorIdx=20,Expr.Attribute.elim (motive_1:=fun _=>Option (Expr×Str×Pos)) e q (fun o s p=>some (o,s,p))=some x→e=.Attribute x.1 x.2.1 x.2.2) ex q (fun v0 v1 v2 _=>sj (P:=fun (x:Expr×Str×Pos)=>(Expr.Attribute v0 v1 v2)=.Attribute x.1 x.2.1 x.2.2) rfl) q
noncomputable def aCall (e:Expr):Option (Expr×List Expr×List Keyword×Pos):=atE 16 e fun h=>Expr.Call.elim (motive_1:=fun _=>Option (Expr×List Expr×List Keyword×Pos)) e h fun f xs ks p=>some (f,xs,ks,p)
theorem c0B {ex:Expr} {x:Expr×List Expr×List Keyword×Pos} (h:aCall ex=some x):ex=.Call x.1 x.2.1 x.2.2.1 x.2.2.2:=
 h2A h fun q=>Expr.Call.elim (motive_1:=fun e=>∀ q:e.ctorIdx=16,Expr.Call.elim (motive_1:=fun _=>Option (Expr×List Expr×List Keyword×Pos)) e q (fun f xs ks p=>some (f,xs,ks,p))=some x→e=.Call x.1 x.2.1 x.2.2.1 x.2.2.2) ex q (fun v0 v1 v2 v3 _=>sj (P:=fun (x:Expr×List Expr×List Keyword×Pos)=>(Expr.Call v0 v1 v2 v3)=.Call x.1 x.2.1 x.2.2.1 x.2.2.2) rfl) q
noncomputable def aComp (e:Expr):Option (Expr×List Comprehension×Scope):=atE 8 e fun h=>Expr.ListComp.elim (motive_1:=fun _=>Option (Expr×List Comprehension×Scope)) e h fun e gs sc _=>some (e,gs,sc)
theorem aComp_of {ex:Expr} {x:Expr×List Comprehension×Scope} (h:aComp ex=some x):∃ p,ex=.ListComp x.1 x.2.1 x.2.2 p:=
 h2A h fun q=>Expr.ListComp.elim (motive_1:=fun e=>∀ q:e.ctorIdx=8,Expr.ListComp.elim (motive_1:=fun _=>Option (Expr×List Comprehension×Scope)) e q (fun e gs sc _=>some (e,gs,sc))=some x→∃ p,e=.ListComp x.1 x.2.1 x.2.2 p) ex q (fun v0 v1 v2 v3 _=>sj (P:=fun (x:Expr×List Comprehension×Scope)=>∃ p,(Expr.ListComp v0 v1 v2 v3)=.ListComp x.1 x.2.1 x.2.2 p) ⟨_,rfl⟩) q
noncomputable def aSlc (e:Expr):Option (Option Expr×Option Expr×Option Expr):=atE 26 e fun h=>Expr.Slice.elim (motive_1:=fun _=>Option (Option Expr×Option Expr×Option Expr)) e h fun l h s _=>some (l,h,s)
theorem aSlc_of {ex:Expr} {x:Option Expr×Option Expr×Option Expr} (h:aSlc ex=some x):∃ p,ex=.Slice x.1 x.2.1 x.2.2 p:=
 h2A h fun q=>Expr.Slice.elim (motive_1:=fun e=>∀ q:e.ctorIdx=26,Expr.Slice.elim (motive_1:=fun _=>Option (Option Expr×Option Expr×Option Expr)) e q (fun l h s _=>some (l,h,s))=some x→∃ p,e=.Slice x.1 x.2.1 x.2.2 p) ex q (fun v0 v1 v2 v3 _=>sj (P:=fun (x:Option Expr×Option Expr×Option Expr)=>∃ p,(Expr.Slice v0 v1 v2 v3)=.Slice x.1 x.2.1 x.2.2 p) ⟨_,rfl⟩) q
noncomputable def aDict (e:Expr):Option (List (Option Expr)×List Expr):=atE 6 e fun h=>Expr.Dict.elim (motive_1:=fun _=>Option (List (Option Expr)×List Expr)) e h fun ks vs _=>some (ks,vs)
theorem j5B {ex:Expr} {x:List (Option Expr)×List Expr} (h:aDict ex=some x):∃ p,ex=.Dict x.1 x.2 p:=
 h2A h fun q=>Expr.Dict.elim (motive_1:=fun e=>∀ q:e.ctorIdx=6,Expr.Dict.elim (motive_1:=fun _=>Option (List (Option Expr)×List Expr)) e q (fun ks vs _=>some (ks,vs))=some x→∃ p,e=.Dict x.1 x.2 p) ex q (fun v0 v1 v2 _=>sj (P:=fun (x:List (Option Expr)×List Expr)=>∃ p,(Expr.Dict v0 v1 v2)=.Dict x.1 x.2 p) ⟨_,rfl⟩) q
noncomputable def aIfx (e:Expr):Option (Expr×Expr×Expr):=atE 5 e fun h=>Expr.IfExp.elim (motive_1:=fun _=>Option (Expr×Expr×Expr)) e h fun c a b _=>some (c,a,b)
theorem aIfx_of {ex:Expr} {x:Expr×Expr×Expr} (h:aIfx ex=some x):∃ p,ex=.IfExp x.1 x.2.1 x.2.2 p:=
 h2A h fun q=>Expr.IfExp.elim (motive_1:=fun e=>∀ q:e.ctorIdx=5,Expr.IfExp.elim (motive_1:=fun _=>Option (Expr×Expr×Expr)) e q (fun c a b _=>some (c,a,b))=some x→∃ p,e=.IfExp x.1 x.2.1 x.2.2 p) ex q (fun v0 v1 v2 v3 _=>sj (P:=fun (x:Expr×Expr×Expr)=>∃ p,(Expr.IfExp v0 v1 v2 v3)=.IfExp x.1 x.2.1 x.2.2 p) ⟨_,rfl⟩) q
noncomputable def bWhl (e:Stmt):Option (Expr×List Stmt×List Stmt):=atS 11 e fun h=>Stmt.While.elim (motive_2:=fun _=>Option (Expr×List Stmt×List Stmt)) e h fun c b o _=>some (c,b,o)
theorem bWhl_of {st:Stmt} {x:Expr×List Stmt×List Stmt} (h:bWhl st=some x):∃ p,st=.While x.1 x.2.1 x.2.2 p:=
 t8A h fun q=>Stmt.While.elim (motive_2:=fun e=>∀ q:e.ctorIdx=11,Stmt.While.elim (motive_2:=fun _=>Option (Expr×List Stmt×List Stmt)) e q (fun c b o _=>some (c,b,o))=some x→∃ p,e=.While x.1 x.2.1 x.2.2 p) st q (fun v0 v1 v2 v3 _=>sj (P:=fun (x:Expr×List Stmt×List Stmt)=>∃ p,(Stmt.While v0 v1 v2 v3)=.While x.1 x.2.1 x.2.2 p) ⟨_,rfl⟩) q
noncomputable def bAsg (e:Stmt):Option (List Expr×Expr):=atS 5 e fun h=>Stmt.Assign.elim (motive_2:=fun _=>Option (List Expr×Expr)) e h fun ts e _=>some (ts,e)
theorem x2B {st:Stmt} {x:List Expr×Expr} (h:bAsg st=some x):∃ p,st=.Assign x.1 x.2 p:=
 t8A h fun q=>Stmt.Assign.elim (motive_2:=fun e=>∀ q:e.ctorIdx=5,Stmt.Assign.elim (motive_2:=fun _=>Option (List Expr×Expr)) e q (fun ts e _=>some (ts,e))=some x→∃ p,e=.Assign x.1 x.2 p) st q (fun v0 v1 v2 _=>sj (P:=fun (x:List Expr×Expr)=>∃ p,(Stmt.Assign v0 v1 v2)=.Assign x.1 x.2 p) ⟨_,rfl⟩) q
noncomputable def bExp (e:Stmt):Option (Expr):=atS 24 e fun h=>Stmt.Expr.elim (motive_2:=fun _=>Option (Expr)) e h fun e _=>some e
theorem bExp_of {st:Stmt} {x:Expr} (h:bExp st=some x):∃ p,st=.Expr x p:=
 t8A h fun q=>Stmt.Expr.elim (motive_2:=fun e=>∀ q:e.ctorIdx=24,Stmt.Expr.elim (motive_2:=fun _=>Option (Expr)) e q (fun e _=>some e)=some x→∃ p,e=.Expr x p) st q (fun v0 v1 _=>sj (P:=fun (x:Expr)=>∃ p,(Stmt.Expr v0 v1)=.Expr x p) ⟨_,rfl⟩) q
noncomputable def bIf (e:Stmt):Option (Expr×List Stmt×List Stmt):=atS 12 e fun h=>Stmt.If.elim (motive_2:=fun _=>Option (Expr×List Stmt×List Stmt)) e h fun c t f _=>some (c,t,f)
theorem bIf_of {st:Stmt} {x:Expr×List Stmt×List Stmt} (h:bIf st=some x):∃ p,st=.If x.1 x.2.1 x.2.2 p:=
 t8A h fun q=>Stmt.If.elim (motive_2:=fun e=>∀ q:e.ctorIdx=12,Stmt.If.elim (motive_2:=fun _=>Option (Expr×List Stmt×List Stmt)) e q (fun c t f _=>some (c,t,f))=some x→∃ p,e=.If x.1 x.2.1 x.2.2 p) st q (fun v0 v1 v2 v3 _=>sj (P:=fun (x:Expr×List Stmt×List Stmt)=>∃ p,(Stmt.If v0 v1 v2 v3)=.If x.1 x.2.1 x.2.2 p) ⟨_,rfl⟩) q
noncomputable def bFor (e:Stmt):Option (Expr×Expr×List Stmt×List Stmt):=atS 9 e fun h=>Stmt.For.elim (motive_2:=fun _=>Option (Expr×Expr×List Stmt×List Stmt)) e h fun t e b o _=>some (t,e,b,o)
theorem w2B {st:Stmt} {x:Expr×Expr×List Stmt×List Stmt} (h:bFor st=some x):∃ p,st=.For x.1 x.2.1 x.2.2.1 x.2.2.2 p:=
 t8A h fun q=>Stmt.For.elim (motive_2:=fun e=>∀ q:e.ctorIdx=9,Stmt.For.elim (motive_2:=fun _=>Option (Expr×Expr×List Stmt×List Stmt)) e q (fun t e b o _=>some (t,e,b,o))=some x→∃ p,e=.For x.1 x.2.1 x.2.2.1 x.2.2.2 p) st q (fun v0 v1 v2 v3 v4 _=>sj (P:=fun (x:Expr×Expr×List Stmt×List Stmt)=>∃ p,(Stmt.For v0 v1 v2 v3 v4)=.For x.1 x.2.1 x.2.2.1 x.2.2.2 p) ⟨_,rfl⟩) q
noncomputable def bRet (e:Stmt):Option (Option Expr):=atS 3 e fun h=>Stmt.Return.elim (motive_2:=fun _=>Option (Option Expr)) e h fun e _=>some e
theorem bRet_of {st:Stmt} {x:Option Expr} (h:bRet st=some x):∃ p,st=.Return x p:=
 t8A h fun q=>Stmt.Return.elim (motive_2:=fun e=>∀ q:e.ctorIdx=3,Stmt.Return.elim (motive_2:=fun _=>Option (Option Expr)) e q (fun e _=>some e)=some x→∃ p,e=.Return x p) st q (fun v0 v1 _=>sj (P:=fun (x:Option Expr)=>∃ p,(Stmt.Return v0 v1)=.Return x p) ⟨_,rfl⟩) q
noncomputable def isRaise (e:Stmt):Bool:=Nat.beq e.ctorIdx 16
noncomputable def cC:V→Const→Bool
 | .int i,.int j=>decide (i=j)
 | .bool b,.bool b'=>b == b'
 | .none,.none=>true
 | _,_=>false
noncomputable def cW (v:V) (ex:Expr):Bool:=anyO (aConst ex) fun c=>cC v c
noncomputable def xW (sc:Scope) (nm:String) (ex:Expr):Bool:=anyO (a5A ex) fun x=>decide (x.1=Str.ofString nm) && b8A sc nm
noncomputable def gW (Inf:Info) (sc:Scope) (nm:String) (i:Int) (ex:Expr):Bool:=anyO (a5A ex) fun x=>decide (x.1=Str.ofString nm) && d1B sc nm && Inf.consts.contains (nm,i)
noncomputable def binW (f:E→Expr→Bool) (o:Op) (a b:E) (ex:Expr):Bool:=anyO (aBin ex) fun x=>decide (x.2.1=opOf o) && f a x.1 && f b x.2.2
noncomputable def negW (f:E→Expr→Bool) (a:E) (ex:Expr):Bool:=anyO (aUn ex) fun x=>decide (x.1=.USub) && f a x.2
noncomputable def catW (f:E→Expr→Bool) (a b:E) (ex:Expr):Bool:=anyO (aBin ex) fun x=>decide (x.2.1=.Add) && f a x.1 && f b x.2.2
noncomputable def notW (f:E→Expr→Bool) (a:E) (ex:Expr):Bool:=anyO (aUn ex) fun x=>decide (x.1=.Not) && f a x.2
noncomputable def andW (es:List E→List Expr→Bool) (irs:List E) (ex:Expr):Bool:=anyO (aBool ex) fun x=>decide (x.1=.And) && es irs x.2
noncomputable def orW (es:List E→List Expr→Bool) (irs:List E) (ex:Expr):Bool:=anyO (aBool ex) fun x=>decide (x.1=.Or) && es irs x.2
noncomputable def cmpW (f:E→Expr→Bool) (a:E) (o:Cmp) (b:E) (ex:Expr):Bool:=anyO (aCmp ex) fun x=>anyO (one1 x.2.1) fun op=>anyO (one1 x.2.2) fun y=>decide (op=b4A o) && !behindInMarks op y && f a x.1 && f b y
noncomputable def cmp2W (f:E→Expr→Bool) (a:E) (o:Cmp) (b:E) (o':Cmp) (c:E) (ex:Expr):Bool:=anyO (aCmp ex) fun x=>anyO (two2 x.2.1) fun op=>anyO (two2 x.2.2) fun y=>decide (op.1=b4A o) && decide (op.2=b4A o') && !lastMarks [op.1,op.2] [y.1,y.2] && f a x.1 && f b y.1 && f c y.2
noncomputable def h4B (ex:Expr):Bool:=anyO (aDict ex) fun x=>x.1.isEmpty && x.2.isEmpty
noncomputable def ifxW (t f:E→Expr→Bool) (c a b:E) (ex:Expr):Bool:=anyO (aIfx ex) fun x=>t c x.1 && f a x.2.1 && f b x.2.2
noncomputable def tupW (es:List E→List Expr→Bool) (irs:List E) (ex:Expr):Bool:=anyO (aTup ex) fun xs=>decide (irs.length<1000) && es irs xs
noncomputable def itemW (f:E→Expr→Bool) (a i:E) (ex:Expr):Bool:=anyO (aSub ex) fun x=>(aSlc x.2).isNone && f a x.1 && f i x.2
noncomputable def attrW (Inf:Info) (f:E→Expr→Bool) (a:E) (fl:String) (ex:Expr):Bool:=anyO (aAttr ex) fun x=>decide (x.2.1=Str.ofString fl) && t1A x.1 && Inf.clss.all (fun c=>(h0A c).contains fl) && f a x.1
noncomputable def aFn (ex:Expr):Option (Str×List Expr):=(aCall ex).bind fun x=>if x.2.2.1.isEmpty then (a5A x.1).map fun s=>(s.1,x.2.1) else none
theorem u8A {ex:Expr} {x:Str×List Expr} (h:aFn ex=some x):∃ p q,ex=.Call (.Name x.1 p) x.2 [] q:=by
 unfold aFn at h
 obtain ⟨c,hc,h⟩:=Option.bind_eq_some_iff.mp h
 by_cases hk:c.2.2.1.isEmpty
 ·rw [if_pos hk] at h
  obtain ⟨s,hs,rfl⟩:=xQ.mp h
  rw [c0B hc,i1A hs,uW.mp hk]
  exact ⟨_,_,rfl⟩
 ·rw [if_neg hk] at h;cases h
noncomputable def aMe (ex:Expr):Option ((Expr×Str×Pos)×List Expr×Pos):=(aCall ex).bind fun x=>if x.2.2.1.isEmpty then (aAttr x.1).map fun s=>(s,x.2.1,x.2.2.2) else none
theorem j1C {ex:Expr} {x:(Expr×Str×Pos)×List Expr×Pos} (h:aMe ex=some x):ex=.Call (.Attribute x.1.1 x.1.2.1 x.1.2.2) x.2.1 [] x.2.2:=by
 unfold aMe at h
 obtain ⟨c,hc,h⟩:=Option.bind_eq_some_iff.mp h
 by_cases hk:c.2.2.1.isEmpty
 ·rw [if_pos hk] at h
  obtain ⟨s,hs,rfl⟩:=xQ.mp h
  rw [c0B hc,d0B hs,uW.mp hk]
 ·rw [if_neg hk] at h;cases h
noncomputable def callW (Inf:Info) (r:Nat) (sc:Scope) (es:List E→List Expr→Bool) (g:String) (irs:List E) (ex:Expr):Bool:=anyO (aFn ex) fun x=>decide (x.1=Str.ofString g) && d1B sc g && Inf.fns.contains g && decide (Inf.rank g<r) && es irs x.2
noncomputable def newW (Inf:Info) (r:Nat) (sc:Scope) (es:List E→List Expr→Bool) (c:String) (irs:List E) (ex:Expr):Bool:=anyO (aFn ex) fun x=>decide (x.1=Str.ofString c) && d1B sc c && Inf.clss.contains c && decide (Inf.rank (c ++ ".__init__")<r) && es irs x.2
noncomputable def methW (Inf:Info) (r:Nat) (f:E→Expr→Bool) (es:List E→List Expr→Bool) (a:E) (g:String) (irs:List E) (ex:Expr):Bool:=anyO (aMe ex) fun x=>decide (x.1.2.1=Str.ofString g) && t1A x.1.1 && (x.1.2.2.endLine == x.2.2.line) && decide (x.2.1.length<30) && Inf.clss.all (fun c=>Inf.meths.contains (c,g) && decide (Inf.rank (c ++ "." ++ g)<r)) && f a x.1.1 && es irs x.2.1
noncomputable def lmW (f:E→Expr→Bool) (es:List E→List Expr→Bool) (a:E) (g:Lm) (irs:List E) (ex:Expr):Bool:=anyO (aMe ex) fun x=>decide (x.1.2.1=Str.ofString (lmStr g)) && t1A x.1.1 && (x.1.2.2.endLine == x.2.2.line) && decide (x.2.1.length<30) && f a x.1.1 && es irs x.2.1
noncomputable def dpopW (f:E→Expr→Bool) (a i:E) (ex:Expr):Bool:=anyO (aMe ex) fun x=>anyO (one1 x.2.1) fun y=>decide (x.1.2.1=Str.ofString "pop") && t1A x.1.1 && (x.1.2.2.endLine == x.2.2.line) && n1A y && f a x.1.1 && f i y
noncomputable def isiW (sc:Scope) (f:E→Expr→Bool) (a:E) (c:Cl) (ex:Expr):Bool:=anyO (aFn ex) fun x=>anyO (two2 x.2) fun y=>anyO (a5A y.2) fun z=>decide (x.1=Str.ofString "isinstance") && decide (z.1=q1B c) && clOk sc c && decide (sc.names.lookup (Str.ofString "isinstance")=some .globalImplicit) && n1A y.1 && f a y.1
noncomputable def biW (sc:Scope) (es:List E→List Expr→Bool) (g:Bi) (irs:List E) (ex:Expr):Bool:=anyO (aFn ex) fun x=>decide (x.1=Str.ofString (z0C g)) && decide (sc.names.lookup x.1=some .globalImplicit) && es irs x.2
noncomputable def dispW (es:List E→List Expr→Bool) (irs:List E) (ex:Expr):Bool:=anyO (aLst ex) fun xs=>decide (irs.length<1000) && es irs xs
noncomputable def tgB:Tgt→Expr→Bool
 | .one x,e=>anyO (a5A e) fun s=>decide (s.1=Str.ofString x)
 | .two x y,e=>anyO (aTup e) fun ts=>anyO (two2 ts) fun t=>anyO (a5A t.1) fun s=>anyO (a5A t.2) fun s'=>decide (s.1=Str.ofString x) && decide (s'.1=Str.ofString y)
theorem tgB_of {t:Tgt} {e:Expr} (h:tgB t e=true):TgE t e:=by
 cases t with
 | one x=>
  refine anyE h fun s hs h=>?_
  rw [i1A hs,of_decide_eq_true h];exact .one _ _
 | two x y=>
  refine anyE h fun ts hts h=>?_
  refine anyE h fun p hp h=>?_
  refine anyE h fun s hs h=>?_
  refine anyE h fun s' hs' h=>?_
  refine an2 h fun h0 h1=>?_
  refine bc fun zZ=>?_
  obtain ⟨k,q,hq⟩:=b0B hts
  refine zZ ?_;clear zZ
  rw [hq,m2A hp,i1A hs,i1A hs',of_decide_eq_true h0,of_decide_eq_true h1];exact .two _ _ _ _ _ _
noncomputable def compW (sc:Scope) (f:Scope→E→Expr→Bool) (ts:Scope→List E→List Expr→Bool) (elt:E) (t:Tgt) (it:E) (ifs:List E) (ex:Expr):Bool:=anyO (aComp ex) fun x=>anyO (one1 x.2.1) fun g=>
 tgB t g.target && decide (g.is_async=0) && a5B x.2.2 sc (tgN t) && !g4B g.iter && f sc it g.iter && f (u2A x.2.2 sc) elt x.1 && ts (u2A x.2.2 sc) ifs g.ifs
noncomputable def fn1W (sc:Scope) (nm:String) (f:E→Expr→Bool) (e:E) (ex:Expr):Bool:=anyO (aFn ex) fun x=>anyO (one1 x.2) fun y=>decide (x.1=Str.ofString nm) && decide (sc.names.lookup x.1=some .globalImplicit) && n1A y && f e y
noncomputable def oW (f:E→Expr→Bool):Option E→Option Expr→Bool
 | none,none=>true
 | some e,some x=>f e x
 | _,_=>false
noncomputable def sliceW (f:E→Expr→Bool) (a:E) (lo hi:Option E) (ex:Expr):Bool:=anyO (aSub ex) fun x=>anyO (aSlc x.2) fun s=>s.2.2.isNone && f a x.1 && oW f lo s.1 && oW f hi s.2.1
noncomputable def i9B (ex:Expr):Bool:=anyO (aCall ex) fun x=>x.2.2.1.isEmpty
mutual
noncomputable def mE (Inf:Info) (r:Nat):Nat→Scope→E→Expr→Bool
 | 0,_,_,_=>false
 | n+1,sc,ir,ex=>match ir with
  | .c v=>cW v ex
  | .x nm=>xW sc nm ex
  | .g nm i=>gW Inf sc nm i ex
  | .bin o a b=>binW (mE Inf r n sc) o a b ex
  | .not a=>notW (mE Inf r n sc) a ex
  | .neg a=>negW (mE Inf r n sc) a ex
  | .and es=>andW (mEs Inf r n sc) es ex
  | .or es=>orW (mEs Inf r n sc) es ex
  | .ifx c a b=>ifxW (mT Inf r n sc) (mE Inf r n sc) c a b ex
  | .cmp a o b=>cmpW (mE Inf r n sc) a o b ex
  | .tup es=>tupW (mEs Inf r n sc) es ex
  | .fz l=>mL Inf r n sc l ex
  | .mu l=>mL Inf r n sc l ex
  | .dict0=>h4B ex
  | .fdict0=>h4B ex
  | .dpop a i=>dpopW (mE Inf r n sc) a i ex
  | .frz e=>mE Inf r n sc e ex
  | .item a i=>itemW (mE Inf r n sc) a i ex
  | .attr a f=>attrW Inf (mE Inf r n sc) a f ex
  | .call f es=>callW Inf r sc (mEs Inf r n sc) f es ex
  | .new c es=>newW Inf r sc (mEs Inf r n sc) c es ex
  | .meth a f es=>methW Inf r (mE Inf r n sc) (mEs Inf r n sc) a f es ex
  | .lm a f es=>lmW (mE Inf r n sc) (mEs Inf r n sc) a f es ex
  | .isi a c=>isiW sc (mE Inf r n sc) a c ex
  | .bi f es=>biW sc (mEs Inf r n sc) f es ex
  | _=>false
noncomputable def mT (Inf:Info) (r:Nat):Nat→Scope→E→Expr→Bool
 | 0,_,_,_=>false
 | n+1,sc,ir,ex=>match ir with
  | .not a=>notW (mT Inf r n sc) a ex
  | .and es=>andW (mTs Inf r n sc) es ex
  | .or es=>orW (mTs Inf r n sc) es ex
  | .cmp a o b=>cmpW (mE Inf r n sc) a o b ex
  | .cmp2 a o b o' c=>cmp2W (mE Inf r n sc) a o b o' c ex
  | .call f es=>i9B ex && mE Inf r n sc (.call f es) ex
  | .isi a c=>i9B ex && mE Inf r n sc (.isi a c) ex
  | _=>false
noncomputable def mEs (Inf:Info) (r:Nat):Nat→Scope→List E→List Expr→Bool
 | 0,_,irs,exs=>irs.isEmpty && exs.isEmpty
 | n+1,sc,irs,exs=>match irs,exs with
  | [],[]=>true
  | e::es,x::xs=>mE Inf r n sc e x && n1A x && mEs Inf r n sc es xs
  | _,_=>false
noncomputable def mTs (Inf:Info) (r:Nat):Nat→Scope→List E→List Expr→Bool
 | 0,_,irs,exs=>irs.isEmpty && exs.isEmpty
 | n+1,sc,irs,exs=>match irs,exs with
  | [],[]=>true
  | e::es,x::xs=>mT Inf r n sc e x && mTs Inf r n sc es xs
  | _,_=>false
noncomputable def mL (Inf:Info) (r:Nat):Nat→Scope→L→Expr→Bool
 | 0,_,_,_=>false
 | n+1,sc,l,ex=>match l with
  | .disp es=>dispW (mEs Inf r n sc) es ex
  | .comp elt t it ifs=>compW sc (mE Inf r n) (mTs Inf r n) elt t it ifs ex
  | .copy e=>fn1W sc "list" (mE Inf r n sc) e ex
  | .sorted e=>fn1W sc "sorted" (mE Inf r n sc) e ex
  | .sortP e=>fn1W sc "sorted" (mE Inf r n sc) e ex
  | .slice a lo hi=>sliceW (mE Inf r n sc) a lo hi ex
  | .concat a b=>catW (mE Inf r n sc) a b ex
  | .rev e=>fn1W sc "list" (fn1W sc "reversed" (mE Inf r n sc)) e ex
  | .sset e=>fn1W sc "sorted" (fn1W sc "set" (mE Inf r n sc)) e ex
end
end Fl
namespace Fl
open PySem PyProof.Rows PySem.W
noncomputable def cpL:L→Option (E×Tgt×E×List E)
 | .comp elt t it ifs=>some (elt,t,it,ifs)
 | _=>none
noncomputable def cpE:E→Option (E×Tgt×E×List E)
 | .fz l=>cpL l
 | .mu l=>cpL l
 | _=>none
noncomputable def compB (Inf:Info) (r n:Nat) (sc:Scope) (e:E) (ex:Expr):Bool:=anyO (cpE e) fun q=>compW sc (mE Inf r n) (mTs Inf r n) q.1 q.2.1 q.2.2.1 q.2.2.2 ex
noncomputable def isSDC (e:Expr):Bool:=Nat.beq e.ctorIdx 9 || Nat.beq e.ctorIdx 10
noncomputable def asgW (Inf:Info) (r n:Nat) (sc:Scope) (x:String) (e:E) (st:Stmt):Bool:=anyO (bAsg st) fun a=>anyO (one1 a.1) fun t=>anyO (a5A t) fun s=>
 decide (s.1=Str.ofString x) && stK (sc.names.lookup (Str.ofString x)) && (if swapB sc a.2 s.1 s.2 then compB Inf r n sc e a.2 else !isSDC a.2 && mE Inf r n sc e a.2)
noncomputable def setAW (Inf:Info) (r n:Nat) (sc:Scope) (x f:String) (e:E) (st:Stmt):Bool:=anyO (bAsg st) fun a=>anyO (one1 a.1) fun t=>anyO (aAttr t) fun u=>anyO (a5A u.1) fun s=>
 decide (s.1=Str.ofString x) && b8A sc x && decide (u.2.1=Str.ofString f) && Inf.clss.all (fun c=>(h0A c).contains f) && mE Inf r n sc e a.2
noncomputable def setIW (Inf:Info) (r n:Nat) (sc:Scope) (a i e:E) (st:Stmt):Bool:=anyO (bAsg st) fun u=>anyO (one1 u.1) fun t=>anyO (aSub t) fun o=>mE Inf r n sc e u.2 && mE Inf r n sc a o.1 && mE Inf r n sc i o.2
noncomputable def exW (Inf:Info) (r n:Nat) (sc:Scope) (e:E) (st:Stmt):Bool:=anyO (bExp st) fun ex=>!isComp ex && mE Inf r n sc e ex
noncomputable def ifW (Inf:Info) (r n:Nat) (sc:Scope) (ss:List S→List Stmt→Bool) (c:E) (t f:List S) (st:Stmt):Bool:=anyO (bIf st) fun x=>mT Inf r n sc c x.1 && ss t x.2.1 && ss f x.2.2
noncomputable def forW (Inf:Info) (r n:Nat) (sc:Scope) (ss:List S→List Stmt→Bool) (t:Tgt) (e:E) (b:List S) (st:Stmt):Bool:=anyO (bFor st) fun x=>
 tgB t x.1 && (tgN t).all (fun nm=>stK (sc.names.lookup (Str.ofString nm))) && !g4B x.2.1 && mE Inf r n sc e x.2.1 && ss b x.2.2.1 && x.2.2.2.isEmpty
noncomputable def enW (Inf:Info) (r n:Nat) (sc:Scope) (ss:List S→List Stmt→Bool) (x y:String) (e:E) (b:List S) (st:Stmt):Bool:=anyO (bFor st) fun z=>anyO (aTup z.1) fun ts=>anyO (two2 ts) fun t=>anyO (a5A t.1) fun s1=>anyO (a5A t.2) fun s2=>
 decide (s1.1=Str.ofString x) && decide (s2.1=Str.ofString y) && stK (sc.names.lookup (Str.ofString x)) && stK (sc.names.lookup (Str.ofString y)) && fn1W sc "enumerate" (mE Inf r n sc) e z.2.1 && ss b z.2.2.1 && z.2.2.2.isEmpty
noncomputable def zipW (Inf:Info) (r n:Nat) (sc:Scope) (ss:List S→List Stmt→Bool) (x y:String) (e e':E) (b:List S) (st:Stmt):Bool:=anyO (bFor st) fun z=>anyO (aTup z.1) fun ts=>anyO (two2 ts) fun t=>anyO (a5A t.1) fun s1=>anyO (a5A t.2) fun s2=>anyO (aFn z.2.1) fun c=>
 decide (s1.1=Str.ofString x) && decide (s2.1=Str.ofString y) && stK (sc.names.lookup (Str.ofString x)) && stK (sc.names.lookup (Str.ofString y)) && decide (c.1=Str.ofString "zip") && decide (sc.names.lookup c.1=some .globalImplicit) && mEs Inf r n sc [e,e'] c.2 && ss b z.2.2.1 && z.2.2.2.isEmpty
noncomputable def whlW (Inf:Info) (r n:Nat) (sc:Scope) (ss:List S→List Stmt→Bool) (c:E) (b:List S) (st:Stmt):Bool:=anyO (bWhl st) fun x=>mT Inf r n sc c x.1 && ss b x.2.1 && x.2.2.isEmpty
noncomputable def retW (Inf:Info) (r n:Nat) (sc:Scope) (e:E) (st:Stmt):Bool:=anyO (bRet st) fun o=>anyO o fun ex=>mE Inf r n sc e ex
noncomputable def ssW (ms:S→Stmt→Bool) (mss:List S→List Stmt→Bool) (ir:S) (irs:List S):List Stmt→Bool
 | st::sts=>ms ir st && mss irs sts
 | []=>false
mutual
noncomputable def mS (Inf:Info) (r:Nat):Nat→Scope→S→Stmt→Bool
 | 0,_,_,_=>false
 | n+1,sc,ir,st=>match ir with
  | .asg x e=>asgW Inf r n sc x e st
  | .setA x f e=>setAW Inf r n sc x f e st
  | .setI a i e=>setIW Inf r n sc a i e st
  | .ex e=>exW Inf r n sc e st
  | .ite c t f=>ifW Inf r n sc (mSs Inf r n sc) c t f st
  | .for_ t e b=>forW Inf r n sc (mSs Inf r n sc) t e b st
  | .whl c b=>whlW Inf r n sc (mSs Inf r n sc) c b st
  | .ret e=>retW Inf r n sc e st
  | .raise=>isRaise st
  | .forEnum x y e b=>enW Inf r n sc (mSs Inf r n sc) x y e b st
  | .forZip x y e e' b=>zipW Inf r n sc (mSs Inf r n sc) x y e e' b st
  | .frzx _=>false
noncomputable def mSs (Inf:Info) (r:Nat):Nat→Scope→List S→List Stmt→Bool
 | 0,_,irs,sts=>irs.isEmpty && sts.isEmpty
 | n+1,sc,irs,sts=>match irs with
  | []=>sts.isEmpty
  | .frzx x::irs=>b8A sc x && mSs Inf r n sc irs sts
  | ir::irs=>ssW (mS Inf r n sc) (mSs Inf r n sc) ir irs sts
end
structure Snd (B:Bs) (Inf:Info) (r:Nat) (Ar:Around) (n:Nat):Prop where
 e:∀ sc ir ex,mE Inf r n sc ir ex=true→∀ env:Env,env.scope=sc→EOk B (d0A B Inf.rank) Ar env ir ex
 t:∀ sc ir ex,mT Inf r n sc ir ex=true→∀ env:Env,env.scope=sc→TOk B (d0A B Inf.rank) Ar env ir ex
 es:∀ sc ir ex,mEs Inf r n sc ir ex=true→∀ env:Env,env.scope=sc→EsOk B (d0A B Inf.rank) Ar env ir ex
 ts:∀ sc ir ex,mTs Inf r n sc ir ex=true→∀ env:Env,env.scope=sc→TsOk B (d0A B Inf.rank) Ar env ir ex
 l:∀ sc ir ex,mL Inf r n sc ir ex=true→∀ env:Env,env.scope=sc→LOk B (d0A B Inf.rank) Ar env ir ex
section
variable {B:Bs} {Inf:Info} {r:Nat} {Ar:Around}
theorem j2B {sc:Scope} {nm:String} {env:Env} (h:b8A sc nm=true) (hs:env.scope=sc):(Str.ofString nm == ("__debug__" : Str))=false∧(Str.ofString nm == ("__classdict__" : Str))=false∧ownN env nm=true:=by
 unfold b8A at h
 simp only [z4Q,z8W] at h
 refine ⟨h.1.2,h.2,?_⟩
 unfold ownN
 simp only [z4Q]
 exact ⟨by rw [show env.kindOf (Str.ofString nm)=sc.names.lookup (Str.ofString nm) from by rw [← hs];rfl];exact h.1.1.1,h.1.1.2⟩
theorem r2B {sc:Scope} {nm:String} {env:Env} (h:d1B sc nm=true) (hs:env.scope=sc):env.kindOf (Str.ofString nm)=some .globalImplicit∧(Str.ofString nm == ("__debug__" : Str))=false:=by
 unfold d1B at h
 simp only [z4Q,z8W,beq_iff_eq] at h
 exact ⟨by rw [← hs] at h;exact h.1,h.2⟩
theorem s2B {ex:Expr} {env:Env} (h:g4B ex=false) (v:Value):foldedSetIterable ex env v=pure v:=by
 cases ex <;> first | rfl | exact i3A h.symm
theorem opOf_eq (o:Op):opOf o=(match o with | .add=>.Add | .sub=>.Sub | .mul=>.Mult | .fdiv=>.FloorDiv | .mod=>.Mod):=by cases o <;> rfl
theorem snd_zero:Snd B Inf r Ar 0 where
 e:=fun sc ir ex h=>i3A h
 t:=fun sc ir ex h=>i3A h
 es:=fun sc ir ex h=>by
  refine an2 (show (ir.isEmpty && ex.isEmpty)=true from h) fun h0 h1=>?_
  rw [uW.mp h0,uW.mp h1]
  intro env _;exact .nil
 ts:=fun sc ir ex h=>by
  refine an2 (show (ir.isEmpty && ex.isEmpty)=true from h) fun h0 h1=>?_
  rw [uW.mp h0,uW.mp h1]
  intro env _;exact .nil
 l:=fun sc ir ex h=>i3A h
noncomputable abbrev FOk (B:Bs) (Inf:Info) (Ar:Around) (env:Env) (f:E→Expr→Bool):Prop:=∀ ir ex,f ir ex=true→EOk B (d0A B Inf.rank) Ar env ir ex
noncomputable abbrev FsOk (B:Bs) (Inf:Info) (Ar:Around) (env:Env) (f:List E→List Expr→Bool):Prop:=∀ ir ex,f ir ex=true→EsOk B (d0A B Inf.rank) Ar env ir ex
noncomputable abbrev FtOk (B:Bs) (Inf:Info) (Ar:Around) (env:Env) (f:E→Expr→Bool):Prop:=∀ ir ex,f ir ex=true→TOk B (d0A B Inf.rank) Ar env ir ex
noncomputable abbrev FtsOk (B:Bs) (Inf:Info) (Ar:Around) (env:Env) (f:List E→List Expr→Bool):Prop:=∀ ir ex,f ir ex=true→TsOk B (d0A B Inf.rank) Ar env ir ex
section
variable {env:Env} {f:E→Expr→Bool} {es:List E→List Expr→Bool} {ex:Expr}
theorem cW_ok {v:V} (h:cW v ex=true):EOk B (d0A B Inf.rank) Ar env (.c v) ex:=by
 refine anyE h fun c hc h=>?_
 obtain ⟨k,p,rfl⟩:=k1C hc
 cases v <;> first | exact i3A h | skip
 all_goals cases c <;> first | exact i3A h | skip
 ·exact eok_none
 ·rw [beq_iff_eq.mp (show (_ == _)=true from h)];exact eok_bool
 ·rw [of_decide_eq_true (show decide (_=_)=true from h)];exact eok_int
theorem xW_ok {sc:Scope} {nm:String} (hs:env.scope=sc) (h:xW sc nm ex=true):EOk B (d0A B Inf.rank) Ar env (.x nm) ex:=by
 refine anyE h fun x hx h=>?_
 refine an2 h fun h0 h=>?_
 rw [i1A hx,of_decide_eq_true h0]
 obtain ⟨h1,h2,h3⟩:=j2B h hs
 exact eok_x h1 h2 h3
theorem gW_ok {sc:Scope} {nm:String} {i:Int} (K:InfoOk B Inf) (hs:env.scope=sc) (h:gW Inf sc nm i ex=true):EOk B (d0A B Inf.rank) Ar env (.g nm i) ex:=by
 refine anyE h fun x hx h=>?_
 refine an3 h fun h0 h h'=>?_
 rw [i1A hx,of_decide_eq_true h0]
 obtain ⟨h1,h2⟩:=r2B h hs
 exact eok_g (K.con _ _ (iK.mp h')) h1 h2
theorem binW_ok {o:Op} {a b:E} (hf:FOk B Inf Ar env f) (h:binW f o a b ex=true):EOk B (d0A B Inf.rank) Ar env (.bin o a b) ex:=by
 refine anyE h fun x hx h=>?_
 refine an3 h fun h0 h2 h3=>?_
 obtain ⟨p,hp⟩:=m1C hx
 rw [hp]
 exact eok_bin ((of_decide_eq_true h0).trans (opOf_eq _)) (hf _ _ h2) (hf _ _ h3)
theorem notW_ok {a:E} (K:InfoOk B Inf) (hf:FOk B Inf Ar env f) (h:notW f a ex=true):EOk B (d0A B Inf.rank) Ar env (.not a) ex:=by
 refine anyE h fun x hx h=>?_
 refine an2 h fun h0 h=>?_
 obtain ⟨p,hp⟩:=i1C hx
 rw [hp,of_decide_eq_true h0]
 exact eok_not K.b.sysm (hf _ _ h)
theorem andW_ok {irs:List E} (K:InfoOk B Inf) (hf:FsOk B Inf Ar env es) (h:andW es irs ex=true):EOk B (d0A B Inf.rank) Ar env (.and irs) ex:=by
 refine anyE h fun x hx h=>?_
 refine an2 h fun h0 h=>?_
 obtain ⟨p,hp⟩:=h6A hx
 rw [hp,of_decide_eq_true h0]
 exact eok_and K.b.sysm (hf _ _ h)
theorem orW_ok {irs:List E} (K:InfoOk B Inf) (hf:FsOk B Inf Ar env es) (h:orW es irs ex=true):EOk B (d0A B Inf.rank) Ar env (.or irs) ex:=by
 refine anyE h fun x hx h=>?_
 refine an2 h fun h0 h=>?_
 obtain ⟨p,hp⟩:=h6A hx
 rw [hp,of_decide_eq_true h0]
 exact eok_or K.b.sysm (hf _ _ h)
theorem ifxW_ok {t:E→Expr→Bool} {c a b:E} (ht:FtOk B Inf Ar env t) (hf:FOk B Inf Ar env f) (h:ifxW t f c a b ex=true):EOk B (d0A B Inf.rank) Ar env (.ifx c a b) ex:=by
 refine anyE h fun x hx h=>?_
 refine an3 h fun h0 h1 h2=>?_
 obtain ⟨p,hp⟩:=aIfx_of hx
 rw [hp]
 exact eok_ifx (ht _ _ h0) (hf _ _ h1) (hf _ _ h2)
theorem dpopW_ok {a i:E} (K:InfoOk B Inf) (hu:Ar.units+80<cLine) (hf:FOk B Inf Ar env f) (h:dpopW f a i ex=true):EOk B (d0A B Inf.rank) Ar env (.dpop a i) ex:=by
 refine anyE h fun x hx h=>?_
 refine anyE h fun y hy h=>?_
 refine an6 h fun h0 h1 h2 h3 h4 h5=>?_
 rw [j1C hx,of_decide_eq_true h0,k1A hy]
 exact eok_dpop K.b.sysm hu h1 h2 h3 (hf _ _ h4) (hf _ _ h5)
theorem t0C {a b:E} {o:Cmp} (h:cmpW f a o b ex=true):∃ x y p,ex=.Compare x [b4A o] [y] p∧behindInMarks (b4A o) y=false∧f a x=true∧f b y=true:=by
 refine anyE h fun x hx h=>?_
 refine anyE h fun op ho h=>?_
 refine anyE h fun y hy h=>?_
 refine an4 h fun h0 h1 h2 h3=>?_
 obtain ⟨p,hp⟩:=l1C hx
 have h0:=of_decide_eq_true h0
 rw [hp,k1A ho,k1A hy,h0]
 rw [h0] at h1
 exact ⟨_,_,p,rfl,(z8W _).mp h1,h2,h3⟩
theorem cmpW_ok {a b:E} {o:Cmp} (K:InfoOk B Inf) (hu:Ar.units+80<cLine) (hf:FOk B Inf Ar env f) (h:cmpW f a o b ex=true):EOk B (d0A B Inf.rank) Ar env (.cmp a o b) ex:=by
 refine bc fun zZ=>?_
 obtain ⟨x,y,p,rfl,h1,h2,h3⟩:=t0C h
 refine zZ ?_;clear zZ
 exact eok_cmp K.b.sysm hu h1 (hf _ _ h2) (hf _ _ h3)
theorem cmpT_ok {a b:E} {o:Cmp} (K:InfoOk B Inf) (hu:Ar.units+80<cLine) (hf:FOk B Inf Ar env f) (h:cmpW f a o b ex=true):TOk B (d0A B Inf.rank) Ar env (.cmp a o b) ex:=by
 refine bc fun zZ=>?_
 obtain ⟨x,y,p,rfl,h1,h2,h3⟩:=t0C h
 refine zZ ?_;clear zZ
 exact tok_cmp K.b.sysm hu h1 (hf _ _ h2) (hf _ _ h3)
theorem cmp2T_ok {a b c:E} {o o':Cmp} (K:InfoOk B Inf) (hu:Ar.units+80<cLine) (hf:FOk B Inf Ar env f) (h:cmp2W f a o b o' c ex=true):TOk B (d0A B Inf.rank) Ar env (.cmp2 a o b o' c) ex:=by
 refine anyE h fun x hx h=>?_
 refine anyE h fun op ho h=>?_
 refine anyE h fun y hy h=>?_
 refine an6 h fun h0 h0' h1 h2 h3 h4=>?_
 obtain ⟨p,hp⟩:=l1C hx
 have h0:=of_decide_eq_true h0
 have h0':=of_decide_eq_true h0'
 rw [hp,m2A ho,m2A hy,h0,h0']
 rw [h0,h0'] at h1
 exact tok_cmp2 K.b.sysm hu ((z8W _).mp h1) (hf _ _ h2) (hf _ _ h3) (hf _ _ h4)
theorem tupW_ok {irs:List E} (hf:FsOk B Inf Ar env es) (h:tupW es irs ex=true):EOk B (d0A B Inf.rank) Ar env (.tup irs) ex:=by
 refine anyE h fun x hx h=>?_
 refine an2 h fun h0 h1=>?_
 refine bc fun zZ=>?_
 obtain ⟨k,p,hp⟩:=b0B hx
 refine zZ ?_;clear zZ
 rw [hp]
 exact eok_tup (hf _ _ h1) (of_decide_eq_true h0)
theorem itemW_ok {a i:E} (K:InfoOk B Inf) (hu:Ar.units+80<cLine) (hf:FOk B Inf Ar env f) (h:itemW f a i ex=true):EOk B (d0A B Inf.rank) Ar env (.item a i) ex:=by
 refine anyE h fun x hx h=>?_
 refine an3 h fun h0 h1 h2=>?_
 obtain ⟨p,hp⟩:=y2B hx
 rw [hp]
 exact eok_item K.b.sysm hu (fun b c d p e=>by rw [e] at h0;exact i3A h0) (hf _ _ h1) (hf _ _ h2)
theorem attrW_ok {a:E} {fl:String} (K:InfoOk B Inf) (hf:FOk B Inf Ar env f) (h:attrW Inf f a fl ex=true):EOk B (d0A B Inf.rank) Ar env (.attr a fl) ex:=by
 refine anyE h fun x hx h=>?_
 refine an4 h fun h0 h1 h2 h3=>?_
 rw [d0B hx,of_decide_eq_true h0]
 exact eok_attr K.c h1 (fun c C hc=>iK.mp (z2Q.mp h2 c (K.cls c C hc))) (hf _ _ h3)
theorem callW_ok {sc:Scope} {g:String} {irs:List E} (K:InfoOk B Inf) (room:∀ f,Inf.rank f<r→Room Ar (Inf.rank f)) (hs:env.scope=sc) (hf:FsOk B Inf Ar env es) (h:callW Inf r sc es g irs ex=true):EOk B (d0A B Inf.rank) Ar env (.call g irs) ex:=by
 refine anyE h fun x hx h=>?_
 refine an5 h fun h0 h1 h2 h3 h4=>?_
 refine bc fun zZ=>?_
 obtain ⟨p,q,hp⟩:=u8A hx
 refine zZ ?_;clear zZ
 rw [hp,of_decide_eq_true h0]
 refine bc fun zZ=>?_
 obtain ⟨fa,f1,f2,f3⟩:=K.fn _ (iK.mp h2)
 obtain ⟨g1,g2⟩:=r2B h1 hs
 refine zZ ?_;clear zZ
 exact eok_call K.c.kin (room _ (of_decide_eq_true h3)) f1 f2 f3 g1 g2 (hf _ _ h4)
theorem newW_ok {sc:Scope} {c:String} {irs:List E} (K:InfoOk B Inf) (hh:Ar.handled=none) (hd:Ar.depth+4 * r+3≤900) (hu:Ar.units+30 * r+230≤cLine) (hs:env.scope=sc) (hf:FsOk B Inf Ar env es) (h:newW Inf r sc es c irs ex=true):EOk B (d0A B Inf.rank) Ar env (.new c irs) ex:=by
 refine anyE h fun x hx h=>?_
 refine an5 h fun h0 h1 h2 h3 h4=>?_
 refine bc fun zZ=>?_
 obtain ⟨p,q,hp⟩:=u8A hx
 refine zZ ?_;clear zZ
 have h3:=of_decide_eq_true h3
 rw [hp,of_decide_eq_true h0]
 refine bc fun zZ=>?_
 obtain ⟨Cl,fI,c1,c2,c3,c4,c5,c6,c7⟩:=K.clsIn _ (iK.mp h2)
 obtain ⟨g1,g2⟩:=r2B h1 hs
 refine zZ ?_;clear zZ
 exact eok_new K.c c1 (room_new Cl hh (rm1 h3 hd) (rm2 h3 hu)) c2 c3 c4 c5 c6 c7 g1 g2 (hf _ _ h4)
theorem methW_ok {a:E} {g:String} {irs:List E} (K:InfoOk B Inf) (room:∀ f,Inf.rank f<r→Room Ar (Inf.rank f)) (hf:FOk B Inf Ar env f) (hes:FsOk B Inf Ar env es) (h:methW Inf r f es a g irs ex=true):EOk B (d0A B Inf.rank) Ar env (.meth a g irs) ex:=by
 refine anyE h fun x hx h=>?_
 refine an7 h fun h0 h1 h2 h3 h4 h5 h6=>?_
 rw [j1C hx,of_decide_eq_true h0]
 refine eok_meth K.c h1 h2 (of_decide_eq_true h3) (fun c C hc=>?_) (hf _ _ h5) (hes _ _ h6)
 refine an2 (z2Q.mp h4 c (K.cls c C hc)) fun m1 m2=>?_
 refine bc fun zZ=>?_
 obtain ⟨fa,f1,f2,f3,f4,f5⟩:=K.meth c _ C (iK.mp m1) hc
 refine zZ ?_;clear zZ
 exact ⟨fa,f1,f2,room _ (of_decide_eq_true m2),f3,f4,f5⟩
theorem nilD_ok (h:h4B ex=true):EOk B (d0A B Inf.rank) Ar env .dict0 ex:=by
 refine anyE h fun x hx h=>?_
 refine an2 h fun h0 h1=>?_
 obtain ⟨p,hp⟩:=j5B hx
 rw [hp,uW.mp h0,uW.mp h1]
 exact k0C
theorem nilF_ok (K:InfoOk B Inf) (h:h4B ex=true):EOk B (d0A B Inf.rank) Ar env .fdict0 ex:=by
 refine anyE h fun x hx h=>?_
 refine an2 h fun h0 h1=>?_
 obtain ⟨p,hp⟩:=j5B hx
 rw [hp,uW.mp h0,uW.mp h1]
 exact d6B K.b.sysm
theorem negW_ok {a:E} (hf:FOk B Inf Ar env f) (h:negW f a ex=true):EOk B (d0A B Inf.rank) Ar env (.neg a) ex:=by
 refine anyE h fun x hx h=>?_
 refine an2 h fun h0 h=>?_
 obtain ⟨p,hp⟩:=i1C hx
 rw [hp,of_decide_eq_true h0]
 exact eok_neg (hf _ _ h)
theorem catW_ok {a b:E} (hf:FOk B Inf Ar env f) (h:catW f a b ex=true):LOk B (d0A B Inf.rank) Ar env (.concat a b) ex:=by
 refine anyE h fun x hx h=>?_
 refine an3 h fun h0 h1 h2=>?_
 obtain ⟨p,hp⟩:=m1C hx
 rw [hp,of_decide_eq_true h0]
 exact w5B (hf _ _ h1) (hf _ _ h2)
theorem lmW_ok {a:E} {g:Lm} {irs:List E} (hf:FOk B Inf Ar env f) (hes:FsOk B Inf Ar env es) (h:lmW f es a g irs ex=true):EOk B (d0A B Inf.rank) Ar env (.lm a g irs) ex:=by
 refine anyE h fun x hx h=>?_
 refine an6 h fun h0 h2 h3 h4 h5 h6=>?_
 rw [j1C hx,of_decide_eq_true h0]
 exact eok_lm h2 h3 (of_decide_eq_true h4) (hf _ _ h5) (hes _ _ h6) (by cases g <;> first | exact t8B | exact lm_pop | exact lm_pop0 | exact lm_index | exact lm_count)
theorem isiW_ok {sc:Scope} {a:E} {c:Cl} (K:InfoOk B Inf) (hs:env.scope=sc) (hf:FOk B Inf Ar env f) (h:isiW sc f a c ex=true):EOk B (d0A B Inf.rank) Ar env (.isi a c) ex:=by
 refine anyE h fun x hx h=>?_
 refine anyE h fun y hy h=>?_
 refine anyE h fun z hz h=>?_
 refine an6 h fun h0 h0' h1 h2 h3 h4=>?_
 refine bc fun zZ=>?_
 obtain ⟨p,q,hp⟩:=u8A hx
 refine zZ ?_;clear zZ
 rw [hp,of_decide_eq_true h0,m2A hy,i1A hz,of_decide_eq_true h0']
 refine an2 h1 fun c1 c2=>?_
 obtain ⟨cv,hcv⟩:=oZ.mp c1
 have h2:=of_decide_eq_true h2
 have c2:=eq_of_beq c2
 rw [← hs] at h2 c2
 exact eok_isi K.b hcv h2 c2 h3 (hf _ _ h4)
theorem biW_ok {sc:Scope} {g:Bi} {irs:List E} (K:InfoOk B Inf) (hh:Ar.handled=none) (hu:Ar.units+80<cLine) (hs:env.scope=sc) (hes:FsOk B Inf Ar env es) (h:biW sc es g irs ex=true):EOk B (d0A B Inf.rank) Ar env (.bi g irs) ex:=by
 refine anyE h fun x hx h=>?_
 refine an3 h fun h0 h1 h2=>?_
 refine bc fun zZ=>?_
 obtain ⟨p,q,hp⟩:=u8A hx
 refine zZ ?_;clear zZ
 have h0:=of_decide_eq_true h0
 have h1:=of_decide_eq_true h1
 rw [h0,← hs] at h1
 rw [hp,h0]
 exact eok_bi K.b hh hu h1 (hes _ _ h2)
theorem dispW_ok {irs:List E} (hes:FsOk B Inf Ar env es) (h:dispW es irs ex=true):LOk B (d0A B Inf.rank) Ar env (.disp irs) ex:=by
 refine anyE h fun x hx h=>?_
 refine an2 h fun h0 h1=>?_
 obtain ⟨p,hp⟩:=aLst_of hx
 rw [hp]
 exact lok_disp (hes _ _ h1) (of_decide_eq_true h0)
theorem p3A {sc:Scope} {nm:String} {e:E} (hs:env.scope=sc) (h:fn1W sc nm f e ex=true):∃ y p q,ex=.Call (.Name (Str.ofString nm) p) [y] [] q∧env.kindOf (Str.ofString nm)=some .globalImplicit∧n1A y=true∧f e y=true:=by
 refine anyE h fun x hx h=>?_
 refine anyE h fun y hy h=>?_
 refine an4 h fun h0 h1 h2 h3=>?_
 refine bc fun zZ=>?_
 obtain ⟨p,q,hp⟩:=u8A hx
 refine zZ ?_;clear zZ
 have h0:=of_decide_eq_true h0
 have h1:=of_decide_eq_true h1
 rw [h0,← hs] at h1
 rw [hp,h0,k1A hy]
 exact ⟨y,p,q,rfl,h1,h2,h3⟩
theorem copyW_ok {sc:Scope} {e:E} (K:InfoOk B Inf) (hh:Ar.handled=none) (hs:env.scope=sc) (hf:FOk B Inf Ar env f) (h:fn1W sc "list" f e ex=true):LOk B (d0A B Inf.rank) Ar env (.copy e) ex:=by
 obtain ⟨y,p,q,rfl,h1,h2,h3⟩:=p3A hs h
 exact lok_copy K.b hh h1 h2 (hf _ _ h3)
theorem sortW_ok {sc:Scope} {e:E} (K:InfoOk B Inf) (hh:Ar.handled=none) (hs:env.scope=sc) (hf:FOk B Inf Ar env f) (h:fn1W sc "sorted" f e ex=true):LOk B (d0A B Inf.rank) Ar env (.sorted e) ex:=by
 refine bc fun zZ=>?_
 obtain ⟨y,p,q,rfl,h1,h2,h3⟩:=p3A hs h
 refine zZ ?_;clear zZ
 exact v5B K.b hh h2 (hf _ _ h3) h1
theorem revW_ok {sc:Scope} {e:E} (K:InfoOk B Inf) (hh:Ar.handled=none) (hs:env.scope=sc) (hf:FOk B Inf Ar env f) (h:fn1W sc "list" (fn1W sc "reversed" f) e ex=true):LOk B (d0A B Inf.rank) Ar env (.rev e) ex:=by
 refine bc fun zZ=>?_
 obtain ⟨y,p,q,rfl,h1,h2,h3⟩:=p3A hs h
 obtain ⟨y,p',q',rfl,h4,h5,h6⟩:=p3A hs h3
 refine zZ ?_;clear zZ
 exact lok_rev K.b hh h1 h4 h5 (hf _ _ h6)
theorem ssetW_ok {sc:Scope} {e:E} (K:InfoOk B Inf) (hh:Ar.handled=none) (hs:env.scope=sc) (hf:FOk B Inf Ar env f) (h:fn1W sc "sorted" (fn1W sc "set" f) e ex=true):LOk B (d0A B Inf.rank) Ar env (.sset e) ex:=by
 refine bc fun zZ=>?_
 obtain ⟨y,p,q,rfl,h1,h2,h3⟩:=p3A hs h
 obtain ⟨y,p',q',rfl,h4,h5,h6⟩:=p3A hs h3
 refine zZ ?_;clear zZ
 exact lok_sset K.b hh h1 h4 h5 (hf _ _ h6)
theorem c7B {sc:Scope} {e:E} (K:InfoOk B Inf) (hh:Ar.handled=none) (hs:env.scope=sc) (hf:FOk B Inf Ar env f) (h:fn1W sc "sorted" f e ex=true):LOk B (d0A B Inf.rank) Ar env (.sortP e) ex:=by
 refine bc fun zZ=>?_
 obtain ⟨y,p,q,rfl,h1,h2,h3⟩:=p3A hs h
 refine zZ ?_;clear zZ
 exact r8B K.b hh h2 (hf _ _ h3) h1
theorem oW_ok {o:Option E} {eo:Option Expr} (hf:FOk B Inf Ar env f):oW f o eo=true→match o,eo with | some a,some e=>EOk B (d0A B Inf.rank) Ar env a e | Option.none,Option.none=>True | _,_=>False:=by
 intro h
 cases o <;> cases eo <;> first | exact True.intro | exact i3A h | exact hf _ _ h
theorem j7B {a:E} {lo hi:Option E} (hf:FOk B Inf Ar env f) (h:sliceW f a lo hi ex=true):LOk B (d0A B Inf.rank) Ar env (.slice a lo hi) ex:=by
 refine anyE h fun x hx h=>?_
 refine anyE h fun s hs h=>?_
 refine an4 h fun h0 h1 h2 h3=>?_
 refine bc fun zZ=>?_
 obtain ⟨p,hp⟩:=y2B hx
 obtain ⟨q,hq⟩:=aSlc_of hs
 refine zZ ?_;clear zZ
 rw [hp,hq,Option.isNone_iff_eq_none.mp h0]
 exact s8B (hf _ _ h1) (oW_ok hf h2) (oW_ok hf h3)
theorem notT_ok {t:E→Expr→Bool} {a:E} (ht:FtOk B Inf Ar env t) (h:notW t a ex=true):TOk B (d0A B Inf.rank) Ar env (.not a) ex:=by
 refine anyE h fun x hx h=>?_
 refine an2 h fun h0 h=>?_
 obtain ⟨p,hp⟩:=i1C hx
 rw [hp,of_decide_eq_true h0]
 exact tok_not (ht _ _ h)
theorem andT_ok {irs:List E} {ts:List E→List Expr→Bool} (ht:FtsOk B Inf Ar env ts) (h:andW ts irs ex=true):TOk B (d0A B Inf.rank) Ar env (.and irs) ex:=by
 refine anyE h fun x hx h=>?_
 refine an2 h fun h0 h=>?_
 obtain ⟨p,hp⟩:=h6A hx
 rw [hp,of_decide_eq_true h0]
 exact tok_and (ht _ _ h)
theorem orT_ok {irs:List E} {ts:List E→List Expr→Bool} (ht:FtsOk B Inf Ar env ts) (h:orW ts irs ex=true):TOk B (d0A B Inf.rank) Ar env (.or irs) ex:=by
 refine anyE h fun x hx h=>?_
 refine an2 h fun h0 h=>?_
 obtain ⟨p,hp⟩:=h6A hx
 rw [hp,of_decide_eq_true h0]
 exact tok_or (ht _ _ h)
end
theorem a1B {ex:Expr} (h:i9B ex=true):∃ g xs p,ex=.Call g xs [] p:=by
 refine anyE h fun x hx h=>?_
 rw [c0B hx,uW.mp h]
 exact ⟨_,_,_,rfl⟩
theorem snd_e {n:Nat} (K:InfoOk B Inf) (hh:Ar.handled=none) (hd:Ar.depth+4 * r+3≤900) (hu:Ar.units+30 * r+230≤cLine) (S:Snd B Inf r Ar n) :
  ∀ sc ir ex,mE Inf r (n+1) sc ir ex=true→∀ env:Env,env.scope=sc→EOk B (d0A B Inf.rank) Ar env ir ex:=by
 have room:∀ f,Inf.rank f<r→Room Ar (Inf.rank f):=fun f hf=>⟨hh,z3W (rm1 hf hd),dQ (bW (by decide) _) (rm2 hf hu)⟩
 have hu80:Ar.units+80<cLine:=rm3 hu
 intro sc ir ex h env hs
 have fe:FOk B Inf Ar env (mE Inf r n sc):=fun ir ex h=>S.e _ _ _ h env hs
 have fs:FsOk B Inf Ar env (mEs Inf r n sc):=fun ir ex h=>S.es _ _ _ h env hs
 have ft:FtOk B Inf Ar env (mT Inf r n sc):=fun ir ex h=>S.t _ _ _ h env hs
 cases ir with
 | c v=>exact cW_ok h
 | x nm=>exact xW_ok hs h
 | g nm i=>exact gW_ok K hs h
 | bin o a b=>exact binW_ok fe h
 | not a=>exact notW_ok K fe h
 | neg a=>exact negW_ok fe h
 | and es=>exact andW_ok K fs h
 | or es=>exact orW_ok K fs h
 | ifx c a b=>exact ifxW_ok ft fe h
 | cmp a o b=>exact cmpW_ok K hu80 fe h
 | tup es=>exact tupW_ok fs h
 | fz l=>exact eok_fz (S.l _ _ _ h env hs)
 | mu l=>exact eok_mu (S.l _ _ _ h env hs)
 | dict0=>exact nilD_ok h
 | fdict0=>exact nilF_ok K h
 | dpop a i=>exact dpopW_ok K hu80 fe h
 | frz e=>exact eok_frz K.b.sysm (S.e _ _ _ h env hs)
 | item a i=>exact itemW_ok K hu80 fe h
 | attr a f=>exact attrW_ok K fe h
 | call f es=>exact callW_ok K room hs fs h
 | new c es=>exact newW_ok K hh hd hu hs fs h
 | meth a f es=>exact methW_ok K room fe fs h
 | lm a f es=>exact lmW_ok fe fs h
 | isi a c=>exact isiW_ok K hs fe h
 | bi f es=>exact biW_ok K hh hu80 hs fs h
 | _=>exact i3A h
theorem snd_t {n:Nat} (K:InfoOk B Inf) (hu:Ar.units+30 * r+230≤cLine) (S:Snd B Inf r Ar n) :
  ∀ sc ir ex,mT Inf r (n+1) sc ir ex=true→∀ env:Env,env.scope=sc→TOk B (d0A B Inf.rank) Ar env ir ex:=by
 have hu80:Ar.units+80<cLine:=rm3 hu
 intro sc ir ex h env hs
 have fe:FOk B Inf Ar env (mE Inf r n sc):=fun ir ex h=>S.e _ _ _ h env hs
 have ft:FtOk B Inf Ar env (mT Inf r n sc):=fun ir ex h=>S.t _ _ _ h env hs
 have fts:FtsOk B Inf Ar env (mTs Inf r n sc):=fun ir ex h=>S.ts _ _ _ h env hs
 cases ir with
 | not a=>exact notT_ok ft h
 | and es=>exact andT_ok fts h
 | or es=>exact orT_ok fts h
 | cmp a o b=>exact cmpT_ok K hu80 fe h
 | cmp2 a o b o' c=>exact cmp2T_ok K hu80 fe h
 | call f es=>
  refine an2 h fun h1 h2=>?_
  obtain ⟨g,xs,p,rfl⟩:=a1B h1
  exact tok_call K.b.sysm (S.e _ _ _ h2 env hs)
 | isi a c=>
  refine an2 h fun h1 h2=>?_
  obtain ⟨g,xs,p,rfl⟩:=a1B h1
  exact tok_isi K.b.sysm (S.e _ _ _ h2 env hs)
 | _=>exact i3A h
theorem z4B {n:Nat} {sc:Scope} {elt it:E} {t:Tgt} {ifs:List E} {ex:Expr} (h:compW sc (mE Inf r n) (mTs Inf r n) elt t it ifs ex=true) :
  ∃ tg e iter eifs scope q,TgE t tg∧ex=.ListComp e [⟨tg,iter,eifs,0⟩] scope q∧a5B scope sc (tgN t)=true∧g4B iter=false∧mE Inf r n sc it iter=true∧mE Inf r n (u2A scope sc) elt e=true∧mTs Inf r n (u2A scope sc) ifs eifs=true:=by
 refine anyE h fun x hx h=>?_
 refine anyE h fun g hg h=>?_
 refine an7 h fun h0 h0' h1 h2 h3 h4 h5=>?_
 refine bc fun zZ=>?_
 obtain ⟨p,hp⟩:=aComp_of hx
 obtain ⟨g1,g2,g3,g4⟩:=g
 refine zZ ?_;clear zZ
 have h0':=of_decide_eq_true h0'
 simp only at h0 h0' h2 h3 h5
 subst h0'
 refine ⟨g1,x.1,g2,g3,x.2.2,p,tgB_of h0,?_,h1,(z8W _).mp h2,h3,h4,h5⟩
 rw [hp,k1A hg]
theorem compW_ok {n:Nat} {sc:Scope} {elt it:E} {t:Tgt} {ifs:List E} {ex:Expr} {env:Env} (K:InfoOk B Inf) (hh:Ar.handled=none) (S:Snd B Inf r Ar n) (hs:env.scope=sc) (h:compW sc (mE Inf r n) (mTs Inf r n) elt t it ifs ex=true):LOk B (d0A B Inf.rank) Ar env (.comp elt t it ifs) ex:=by
 refine bc fun zZ=>?_
 obtain ⟨tg,e,iter,eifs,scope,q,ht,rfl,h1,h2,h3,h4,h5⟩:=z4B h
 refine zZ ?_;clear zZ
 subst hs
 exact lok_comp K.b.sysm hh ht (o1B h1) (S.e _ _ _ h3 env rfl) (fun cenv hc=>S.e _ _ _ h4 cenv (hc.trans (r2A _ _))) (fun cenv hc=>S.ts _ _ _ h5 cenv (hc.trans (r2A _ _))) (s2B h2)
theorem snd_l {n:Nat} (K:InfoOk B Inf) (hh:Ar.handled=none) (hu:Ar.units+110<cLine) (S:Snd B Inf r Ar n) :
  ∀ sc ir ex,mL Inf r (n+1) sc ir ex=true→∀ env:Env,env.scope=sc→LOk B (d0A B Inf.rank) Ar env ir ex:=by
 intro sc ir ex h env hs
 have fe:FOk B Inf Ar env (mE Inf r n sc):=fun ir ex h=>S.e _ _ _ h env hs
 have fs:FsOk B Inf Ar env (mEs Inf r n sc):=fun ir ex h=>S.es _ _ _ h env hs
 cases ir with
 | disp es=>exact dispW_ok fs h
 | comp elt t it ifs=>exact compW_ok K hh S hs h
 | copy e=>exact copyW_ok K hh hs fe h
 | sorted e=>exact sortW_ok K hh hs fe h
 | sset e=>exact ssetW_ok K hh hs fe h
 | sortP e=>exact c7B K hh hs fe h
 | slice a lo hi=>exact j7B fe h
 | concat a b=>exact catW_ok fe h
 | rev e=>exact revW_ok K hh hs fe h
theorem e7B (K:InfoOk B Inf) (hh:Ar.handled=none) (hd:Ar.depth+4 * r+3≤900) (hu:Ar.units+30 * r+230≤cLine):∀ n,Snd B Inf r Ar n
 | 0=>snd_zero
 | n+1=>by
  have S:=e7B K hh hd hu n
  refine ⟨snd_e K hh hd hu S,snd_t K hu S,?_,?_,snd_l K hh (by lia) S⟩
  ·intro sc ir ex h env hs
   cases ir with
   | nil=>
    cases ex with
    | nil=>exact .nil
    | cons x xs=>exact i3A h
   | cons e es=>
    cases ex with
    | nil=>exact i3A h
    | cons x xs=>
     have h:(mE Inf r n sc e x && n1A x && mEs Inf r n sc es xs)=true:=h
     refine an3 h fun h0 h1 h2=>?_
     exact .cons (S.e _ _ _ h0 env hs) h1 (S.es _ _ _ h2 env hs)
  ·intro sc ir ex h env hs
   cases ir with
   | nil=>
    cases ex with
    | nil=>exact .nil
    | cons x xs=>exact i3A h
   | cons e es=>
    cases ex with
    | nil=>exact i3A h
    | cons x xs=>
     have h:(mT Inf r n sc e x && mTs Inf r n sc es xs)=true:=h
     refine an2 h fun h0 h2=>?_
     exact .cons (S.t _ _ _ h0 env hs) (S.ts _ _ _ h2 env hs)
end
end Fl
namespace Fl
open PySem PyProof.Rows PySem.W
section
variable {B:Bs} {Inf:Info} {r:Nat} {Ar:Around}
theorem r7A {sc:Scope} {ex:Expr} {t:Str} {p:Pos} {l:Nat} {env:Env} (hs:env.scope=sc) (hk:sc.kind=.function) (hc:isSDC ex=false):swapsWith ex (some (.Name t p)) l env=pure (swapB sc ex t p):=by
 have hb:env.blockKind=.function:=by simp [Env.blockKind,hs,hk,ScopeKind.isAnnotationScope]
 cases ex <;> first | rfl | exact Bool.noConfusion hc | skip
 rename_i e g s q
 show (pure (env.blockKind == .function && env.kindOf t == some .local && p.line == (Expr.ListComp e g s q).pos.line && !(s.names.any fun (n,k)=>n == t && (k == .local || k == .cell))):Sem Bool)=_
 rw [hb]
 show _=pure (sc.names.lookup t == some .local && p.line == (Expr.ListComp e g s q).pos.line && !(s.names.any fun (n,k)=>n == t && (k == .local || k == .cell)))
 rw [← hs]
 rfl
section
variable {n:Nat} {sc:Scope} {st:Stmt} {env:Env}
theorem cpL_of {l:L} {q:E×Tgt×E×List E} (h:cpL l=some q):l=.comp q.1 q.2.1 q.2.2.1 q.2.2.2:=by
 cases l <;> first | exact nope h | (cases h;rfl)
theorem cpE_made {C:a0A} {e:E} {q:E×Tgt×E×List E} (h:cpE e=some q):∀ m σ K,xE C e m σ K→∃ KA,MadeB B KA K∧c5B C q.1 q.2.1 q.2.2.1 q.2.2.2 m σ KA:=by
 intro m σ K hx
 cases e <;> first | exact nope h | skip
 ·rw [cpL_of h] at hx;exact ⟨_,madeB_fz,hx⟩
 ·rw [cpL_of h] at hx;exact ⟨_,madeB_mu,hx⟩
theorem asgW_ok {x:String} {e:E} (K:InfoOk B Inf) (hh:Ar.handled=none) (S:Snd B Inf r Ar n) (hs:env.scope=sc) (hk:sc.kind=.function) (h:asgW Inf r n sc x e st=true):SOk B (d0A B Inf.rank) Ar env (.asg x e) st:=by
 refine anyE h fun a ha h=>?_
 refine anyE h fun t ht h=>?_
 refine anyE h fun s hn h=>?_
 refine an3 h fun h0 h1 h2=>?_
 obtain ⟨p,hp⟩:=x2B ha
 have h0:=of_decide_eq_true h0
 rw [h0] at h2
 rw [hp,k1A ht,i1A hn,h0]
 have hst:=h1
 rw [← hs] at hst
 cases hsw:swapB sc a.2 (Str.ofString x) s.2 with
 | true=>
  rw [hsw,if_pos rfl] at h2
  refine anyE h2 fun c hc h2=>?_
  refine bc fun zZ=>?_
  obtain ⟨tg,e,iter,eifs,scope,q,ht,he,q1,q2,q3,q4,q5⟩:=z4B h2
  refine zZ ?_;clear zZ
  rw [he] at hsw ⊢
  subst hs
  refine sok_comp (cpE_made hc) K.b.sysm hh ht (o1B q1) hst (S.e _ _ _ q3 env rfl) (fun cenv hc=>S.e _ _ _ q4 cenv (hc.trans (r2A _ _))) (fun cenv hc=>S.ts _ _ _ q5 cenv (hc.trans (r2A _ _))) (s2B q2) ?_
  rw [r7A rfl hk rfl,hsw]
 | false=>
  rw [hsw,if_neg (fun e=>nomatch e)] at h2
  refine an2 h2 fun h2 h3=>?_
  refine sok_asg hst (S.e _ _ _ h3 env hs) ?_
  rw [r7A hs hk ((z8W _).mp h2),hsw]
theorem setAW_ok {x f:String} {e:E} (K:InfoOk B Inf) (S:Snd B Inf r Ar n) (hs:env.scope=sc) (h:setAW Inf r n sc x f e st=true):SOk B (d0A B Inf.rank) Ar env (.setA x f e) st:=by
 refine anyE h fun a ha h=>?_
 refine anyE h fun t ht h=>?_
 refine anyE h fun u hu h=>?_
 refine anyE h fun s hn h=>?_
 refine an5 h fun h0 h1 h2 h3 h4=>?_
 obtain ⟨p,hp⟩:=x2B ha
 rw [hp,k1A ht,d0B hu,i1A hn,of_decide_eq_true h0,of_decide_eq_true h2]
 refine bc fun zZ=>?_
 obtain ⟨n1,n2,n3⟩:=j2B h1 hs
 refine zZ ?_;clear zZ
 exact sok_setA K.c n1 n2 n3 (fun c C hc=>iK.mp (z2Q.mp h3 c (K.cls c C hc))) (S.e _ _ _ h4 env hs) swaps_at
theorem setIW_ok {a i e:E} (K:InfoOk B Inf) (hu8:Ar.units+80<cLine) (S:Snd B Inf r Ar n) (hs:env.scope=sc) (h:setIW Inf r n sc a i e st=true):SOk B (d0A B Inf.rank) Ar env (.setI a i e) st:=by
 refine anyE h fun a ha h=>?_
 refine anyE h fun t ht h=>?_
 refine anyE h fun u hu h=>?_
 refine an3 h fun h0 h1 h2=>?_
 refine bc fun zZ=>?_
 obtain ⟨p,hp⟩:=x2B ha
 obtain ⟨q,hq⟩:=y2B hu
 refine zZ ?_;clear zZ
 rw [hp,k1A ht,hq]
 exact sok_setI K.b.sysm hu8 (S.e _ _ _ h0 env hs) (S.e _ _ _ h1 env hs) (S.e _ _ _ h2 env hs) v6B
theorem two_of {α:Type} {l:List α} (h:l.length=2):∃ a b,l=[a,b]:=by
 cases l with
 | nil=>cases h
 | cons a l=>
  cases l with
  | nil=>cases h
  | cons b l=>
   cases l with
   | nil=>exact ⟨a,b,rfl⟩
   | cons c l=>cases h
theorem zipW_ok {x y:String} {e e':E} {b:List S} {ss:List S→List Stmt→Bool} (K:InfoOk B Inf) (hh:Ar.handled=none) (S:Snd B Inf r Ar n) (hs:env.scope=sc) (T:∀ irs sts,ss irs sts=true→SsOk B (d0A B Inf.rank) Ar env irs sts) (h:zipW Inf r n sc ss x y e e' b st=true):SOk B (d0A B Inf.rank) Ar env (.forZip x y e e' b) st:=by
 refine anyE h fun z hz h=>?_
 refine anyE h fun ts hts h=>?_
 refine anyE h fun t ht h=>?_
 refine anyE h fun s1 hs1 h=>?_
 refine anyE h fun s2 hs2 h=>?_
 refine anyE h fun c hc h=>?_
 refine an9 h fun h0 h1 h2 h3 h4 h5 h6 h7 h8=>?_
 refine bc fun zZ=>?_
 obtain ⟨p,hp⟩:=w2B hz
 obtain ⟨k,q,hq⟩:=b0B hts
 obtain ⟨p1,p2,hx⟩:=u8A hc
 refine zZ ?_;clear zZ
 have h4:=of_decide_eq_true h4
 have h5:=of_decide_eq_true h5
 rw [h4] at h5
 rw [hp,hq,m2A ht,i1A hs1,i1A hs2,of_decide_eq_true h0,of_decide_eq_true h1,uW.mp h8,hx,h4]
 have hE:=S.es _ _ _ h6 env hs
 refine bc fun zZ=>?_
 obtain ⟨ex,ex',he⟩:=two_of hE.len
 refine zZ ?_;clear zZ
 rw [he] at hE ⊢
 rw [← hs] at h2 h3 h5
 exact p5B K.b hh h5 h2 h3 hE (T _ _ h7)
theorem exW_ok {e:E} (S:Snd B Inf r Ar n) (hs:env.scope=sc) (hk:sc.kind=.function) (h:exW Inf r n sc e st=true):SOk B (d0A B Inf.rank) Ar env (.ex e) st:=by
 refine anyE h fun ex ha h=>?_
 refine an2 h fun h0 h1=>?_
 obtain ⟨p,hp⟩:=bExp_of ha
 rw [hp]
 have h0:=(z8W _).mp h0
 refine sok_ex (S.e _ _ _ h1 env hs) (swaps_no h0) ?_
 ·unfold interactive;rw [hs,hk];rfl
end
structure SndS (B:Bs) (Inf:Info) (r:Nat) (Ar:Around) (n:Nat):Prop where
 s:∀ sc ir st,mS Inf r n sc ir st=true→∀ env:Env,env.scope=sc→sc.kind=.function→SOk B (d0A B Inf.rank) Ar env ir st
 ss:∀ sc ir st,mSs Inf r n sc ir st=true→∀ env:Env,env.scope=sc→sc.kind=.function→SsOk B (d0A B Inf.rank) Ar env ir st
theorem snd_s {n:Nat} (K:InfoOk B Inf) (hh:Ar.handled=none) (hu:Ar.units+80<cLine) (S:Snd B Inf r Ar n) (T:SndS B Inf r Ar n) :
  ∀ sc ir st,mS Inf r (n+1) sc ir st=true→∀ env:Env,env.scope=sc→sc.kind=.function→SOk B (d0A B Inf.rank) Ar env ir st:=by
 intro sc ir st h env hs hk
 cases ir with
 | asg x e=>exact asgW_ok K hh S hs hk h
 | setA x f e=>exact setAW_ok K S hs h
 | setI a i e=>exact setIW_ok K hu S hs h
 | forZip x y e e' b=>exact zipW_ok K hh S hs (fun irs sts hb=>T.ss _ _ _ hb env hs hk) h
 | ex e=>exact exW_ok S hs hk h
 | ite c t f=>
  refine anyE (show anyO (bIf st) _=true from h) fun x hx h=>?_
  refine an3 h fun h0 h1 h2=>?_
  obtain ⟨p,hp⟩:=bIf_of hx
  rw [hp]
  exact sok_ite (S.t _ _ _ h0 env hs) (T.ss _ _ _ h1 env hs hk) (T.ss _ _ _ h2 env hs hk)
 | for_ t e b=>
  refine anyE (show anyO (bFor st) _=true from h) fun x hx h=>?_
  refine an6 h fun h0 h1 h2 h3 h4 h5=>?_
  obtain ⟨p,hp⟩:=w2B hx
  rw [hp,uW.mp h5]
  rw [← hs] at h1
  exact sok_for K.b.sysm hh (tgB_of h0) (fun x hx=>z2Q.mp h1 x hx) (S.e _ _ _ h3 env hs) (T.ss _ _ _ h4 env hs hk) (s2B ((z8W _).mp h2))
 | whl c b=>
  refine anyE (show anyO (bWhl st) _=true from h) fun x hx h=>?_
  refine an3 h fun h0 h1 h2=>?_
  obtain ⟨p,hp⟩:=bWhl_of hx
  rw [hp,uW.mp h2]
  exact sok_whl (S.t _ _ _ h0 env hs) (T.ss _ _ _ h1 env hs hk)
 | ret e=>
  refine anyE (show anyO (bRet st) _=true from h) fun x hx h=>?_
  refine anyE h fun ex he h=>?_
  obtain ⟨p,hp⟩:=bRet_of hx
  rw [hp,he]
  exact sok_ret (S.e _ _ _ h env hs)
 | raise=>exact d7B
 | frzx x=>exact i3A h
 | forEnum x y e b=>
  refine anyE (show anyO (bFor st) _=true from h) fun z hz h=>?_
  refine anyE h fun ts hts h=>?_
  refine anyE h fun t ht h=>?_
  refine anyE h fun s1 hs1 h=>?_
  refine anyE h fun s2 hs2 h=>?_
  refine an7 h fun h0 h1 h2 h3 h4 h5 h6=>?_
  refine bc fun zZ=>?_
  obtain ⟨p,hp⟩:=w2B hz
  obtain ⟨k,q,hq⟩:=b0B hts
  obtain ⟨ex,p1,p2,hx,g1,g2,g3⟩:=p3A hs h4
  refine zZ ?_;clear zZ
  rw [hp,hq,m2A ht,i1A hs1,i1A hs2,of_decide_eq_true h0,of_decide_eq_true h1,uW.mp h6,hx]
  rw [← hs] at h2 h3
  exact z1B K.b hh g1 h2 h3 g2 (S.e _ _ _ g3 env hs) (T.ss _ _ _ h5 env hs hk)
noncomputable def isFx:S→Option String
 | .frzx x=>some x
 | _=>none
theorem isFx_of {s:S} {x:String} (h:isFx s=some x):s=.frzx x:=by
 cases s <;> first | exact nope h | (cases h;rfl)
theorem k3B (K:InfoOk B Inf) (hh:Ar.handled=none) (hd:Ar.depth+4 * r+3≤900) (hu:Ar.units+30 * r+230≤cLine):∀ n,SndS B Inf r Ar n
 | 0=>⟨fun sc ir st h=>i3A h,fun sc ir st h=>by
   refine an2 (show (ir.isEmpty && st.isEmpty)=true from h) fun h0 h1=>?_
   rw [uW.mp h0,uW.mp h1]
   intro env _ _;exact ss_nil⟩
 | n+1=>by
  have S:=e7B (Ar:=Ar) K hh hd hu n
  have T:=k3B K hh hd hu n
  refine ⟨snd_s K hh (by lia) S T,?_⟩
  intro sc ir st h env hs hk
  cases ir with
  | nil=>
   rw [uW.mp (show st.isEmpty=true from h)];exact ss_nil
  | cons ir irs=>
   cases hi:isFx ir with
   | some x=>
    rw [isFx_of hi] at h ⊢
    refine an2 (show (b8A sc x && mSs Inf r n sc irs st)=true from h) fun h0 h1=>?_
    exact ss_frzx K.b.sysm (j2B h0 hs).2.2 (T.ss _ _ _ h1 env hs hk)
   | none=>
    have h:ssW (mS Inf r n sc) (mSs Inf r n sc) ir irs st=true:=by cases ir <;> first | exact h | exact nope hi.symm
    cases st with
    | nil=>exact i3A h
    | cons st sts=>
     refine an2 (show (mS Inf r n sc ir st && mSs Inf r n sc irs sts)=true from h) fun h0 h1=>?_
     exact ss_cons (T.s _ _ _ h0 env hs hk) (T.ss _ _ _ h1 env hs hk)
noncomputable def fnB (K:Frag) (Inf:Info) (fuel:Nat) (f:String) (d:Fn) (fa:Addr):Bool:=match K.lookup fa with
 | some ⟨_,_,.func fd,_⟩=>(match fd.body with
  | .stmts body=>fd.closure.isEmpty && decide (fd.globals=mainGlobals) && decide (fd.builtins=builtinsNs) && codeIn K fd.code fd.qualname && (fd.scope.kind == .function) && !fd.scope.isCoroutine && !fd.scope.isGenerator && decide d.ps.Nodup &&
    d.ps.all (fun x=>fd.scope.names.lookup (Str.ofString x) == some .local || fd.scope.names.lookup (Str.ofString x) == some .cell) && decide (((cellsFrom 0 fd.scope.names []).map (·.1)).Nodup) && fd.scope.names.all (fun p=>p.2 != .free) &&
    mSs Inf (Inf.rank f) fuel fd.scope d.body body
  | _=>false)
 | _=>false
theorem fnAt_of {f:String} {d:Fn} {fa:Addr} {fuel:Nat} (K:InfoOk B Inf) (hfa:B.fn f=some fa) (h:fnB B.K Inf fuel f d fa=true)
  (hb:∀ oc od osl fd,B.K.lookup fa=some ⟨oc,od,.func fd,osl⟩→∀ vs:List Value,vs.length=d.ps.length→bindArgs fd ⟨vs,[]⟩=pure ((d.ps.map Str.ofString).zip vs)):FnAt B (d0A B Inf.rank) Inf.rank f d:=by
 unfold fnB at h
 split at h
 ·rename_i oc od fd osl ho
  split at h
  ·rename_i body hbody
   simp only [z4Q,decide_eq_true_eq,z8W,beq_iff_eq] at h
   refine bc fun zZ=>?_
   obtain ⟨⟨⟨⟨⟨⟨⟨⟨⟨⟨⟨h1,h2⟩,h3⟩,h4⟩,h5⟩,h6⟩,h7⟩,h8⟩,h9⟩,h10⟩,h11⟩,h12⟩:=h
   refine zZ ?_;clear zZ
   refine ⟨fa,_,fd,body,hfa,K.c.kin _ _ ho,rfl,hbody,by simpa using h1,h2,h3,codeRec_of K.c.kin h4,h5,h6,h7,h8,hb _ _ _ _ ho,fun x hx=>?_,h10,h11,fun Ar env hs hh hd hu=>?_⟩
   ·simpa using z2Q.mp h9 x hx
   ·exact (k3B (Ar:=Ar) K hh hd hu fuel).ss _ _ _ h12 env hs h5
  ·cases h
 ·cases h
end
end Fl
namespace Fl
open PySem PyProof.Rows PySem.W
theorem l4B {α β:Type} {f g:α→Option β}:∀ {l:List α},(∀ n∈l,f n=g n)→l.filterMap f=l.filterMap g
 | [],_=>rfl
 | x::l,h=>by
  rw [qK,qK,h x aQ,l4B fun n hn=>h n (bQ _ hn)]
theorem l5B {α:Type}:∀ {names:List Str} {vs:List α},names.Nodup→vs.length=names.length→names.filterMap (fun n=>((names.zip vs).lookup n).map (n,·))=names.zip vs∧∀ n∈names,((names.zip vs).lookup n).isNone=false:=by
 intro names
 induction names with
 | nil=>intro vs _ _;simp
 | cons x xs ih=>
  intro vs hnd hl
  cases vs with
  | nil=>simp at hl
  | cons v vs=>
   rw [rQ] at hnd
   obtain ⟨i1,i2⟩:=ih hnd.2 (by simpa using hl)
   have hne:∀ n∈xs,(n == x)=false:=fun n hn=>by
    cases hq:n == x with
    | false=>rfl
    | true=>exact absurd (beq_iff_eq.mp hq ▸ hn) hnd.1
   refine ⟨?_,fun n hn=>?_⟩
   ·simp only [List.zip_cons_cons,qK,wZ,beq_self_eq_true,Option.map_some]
    congr 1
    rw [← i1]
    refine l4B fun n hn=>?_
    simp only [hne n hn]
    rw [i1]
   ·rcases lQ.mp hn with rfl | hn
    ·simp [wZ]
    ·simp only [List.zip_cons_cons,wZ,hne n hn]
     exact i2 n hn
theorem g1B {α β γ:Type} {l:List α} (h:l=[]) {b:β} {f:α→β→Sem (ForInStep β)} {k:β→Sem γ}:(forIn l b f >>= k)=k b:=by
 subst h;rfl
theorem i6B {fd:FuncData} {names:List Str} {vs:List Value} (h1:fd.params.posonlyargs=[]) (h2:fd.params.args.map (·.arg)=names) (h3:fd.params.vararg=none) (h4:fd.params.kwonlyargs=[]) (h5:fd.params.kwarg=none) (h6:fd.defaults=.none)
  (hnd:names.Nodup) (hl:vs.length=names.length):bindArgs fd ⟨vs,[]⟩=pure (names.zip vs):=by
 obtain ⟨z1,z2⟩:=l5B hnd hl
 have hm:(names.filter fun n=>((names.zip vs).lookup n).isNone)=[]:=by
  rw [List.filter_eq_nil_iff];intro n hn;rw [z2 n hn];simp
 have e1:¬ (decide (vs.length > names.length) && true)=true:=by rw [hl,decide_eq_false (wW _)];exact Bool.noConfusion
 have e2:¬ (!((names.take (names.length - (List.drop (0 - names.length) ([]:List Value)).length)).filter fun n=>((names.zip vs).lookup n).isNone).isEmpty)=true:=by rw [List.drop_nil,List.length_nil,Nat.sub_zero,List.take_length,hm];exact Bool.noConfusion
 obtain ⟨nm,qn,pr,bd,sc,gl,cl,df,kdf,doc,pm,an,cd,ct,bu⟩:=fd
 obtain ⟨po,ar,va,ko,kd,kw,de⟩:=pr
 dsimp only at h1 h2 h3 h4 h5 h6
 subst h1 h2 h3 h4 h5 h6
 refine (if_neg e1).trans ?_
 refine (if_neg e2).trans ?_
 refine (g1B (by rw [show ((none:Option (Array Value)).getD #[]).toList=[] from rfl,List.drop_nil,List.zip_nil_right])).trans ?_
 have z3:(ar.map Arg.arg++[]).filterMap (fun n=>(((ar.map Arg.arg).zip vs).lookup n).map (n,·))=(ar.map Arg.arg).zip vs:=by rw [z1Q];exact z1
 exact congrArg (fun x=>(pure x:Sem (List (Str×Value)))) z3
noncomputable def fnB' (K:Frag) (Inf:Info) (fuel:Nat) (f:String) (d:Fn) (fa:Addr):Bool:=fnB K Inf fuel f d fa && (match K.lookup fa with
 | some ⟨_,_,.func fd,_⟩=>fd.params.posonlyargs.isEmpty && decide (fd.params.args.map (·.arg)=d.ps.map Str.ofString) && fd.params.vararg.isNone && fd.params.kwonlyargs.isEmpty && fd.params.kwarg.isNone && (fd.defaults == .none)
 | _=>false)
structure Heads where
 inf:Info
 addrs:List (String×Addr)
 clsA:List (String×Addr)
noncomputable def intV (v:Option (Option Value)) (i:Int):Bool:=match v with
 | some (some (.int j _))=>decide (j=i)
 | _=>false
noncomputable def clsB (K:Frag) (c:String) (Cl:Addr):Bool:=
 (findIn K (.ref Cl) "__getattribute__" == some (some (.builtin "object.__getattribute__"))) && (findIn K (.ref Cl) "__getattr__" == some none) && hasDictIn K Cl &&
 (findIn K (.ref Cl) "__setattr__" == some (some (.builtin "object.__setattr__"))) && plainOver K Cl && (h0A c).all (fun f=>findIn K (.ref Cl) (Str.ofString f) == some none)
noncomputable def q9B (K:Frag) (H:Heads):Bool:=
 H.inf.fns.all (fun f=>match H.addrs.lookup f with
  | some fa=>(nsIn K mainGlobals (Str.ofString f) == some (some (.ref fa))) && keepIn K (.ref fa)
  | none=>false) &&
 H.clsA.all (fun p=>H.inf.clss.contains p.1 && clsB K p.1 p.2) &&
 H.inf.clss.all (fun c=>match H.clsA.lookup c,H.addrs.lookup (c ++ ".__init__") with
  | some Cl,some fI=>makesIn K Cl && (findIn K (.ref Cl) "__init__" == some (some (.ref fI))) && (typeIn K (.ref fI) == some (.type "function")) && keepIn K (.ref Cl) && (nsIn K mainGlobals (Str.ofString c) == some (some (.ref Cl)))
  | _,_=>false) &&
 H.inf.meths.all (fun p=>match H.clsA.lookup p.1,H.addrs.lookup (p.1 ++ "." ++ p.2) with
  | some Cl,some fa=>keepIn K (.ref fa) && (findIn K (.ref Cl) (Str.ofString p.2) == some (some (.ref fa))) && (typeIn K (.ref fa) == some (.type "function")) && !(h0A p.1).contains p.2
  | _,_=>false) &&
 H.inf.consts.all (fun p=>intV (nsIn K mainGlobals (Str.ofString p.1)) p.2) &&
 i7A.all (fun p=>nsIn K mainGlobals (Str.ofString p.1) == some none)
noncomputable def tabB (K:Frag) (H:Heads) (fuel:Nat) (tab:List (String×Fn)):Bool:=
 tab.all fun p=>match H.addrs.lookup p.1 with
  | some fa=>fnB' K H.inf fuel p.1 p.2 fa
  | none=>false
theorem ns_at {K:Frag} {h:Heap} {m:Str→Option Value} {a:Addr} {x:Str} {r:Option Value} (X:K.In h) (N:h.Ns a m) (e:nsIn K a x=some r):m x=r:=by
 obtain ⟨o,es,ep,ho,hd,hs,hf⟩:=N
 unfold nsIn at e
 split at e
 ·rename_i es' _ hl
  have h1:=X _ _ hl
  rw [ho] at h1;cases h1
  simp only at hd
  cases hd
  rw [← hf x]
  unfold nsFind findBy
  obtain ⟨l⟩:=es
  rw [List.find?_toArray]
  split at e
  ·rename_i e' h';simp only at h';rw [h'];cases e;rfl
  ·rename_i h'
   simp only at h'
   rw [h']
   split at e
   ·cases e
   ·cases e;rfl
 ·cases e
theorem g6B:i7A.all (fun p=>bootBuiltins (Str.ofString p.1) == some p.2 && !(Str.ofString p.1 == ("__name__" : Str)))=true:=by decide +kernel
noncomputable def mkB (prog:Program) (w:World) (h0:Heap) (K:Frag) (H:Heads):Bs:=⟨prog,w,h0,fun c=>H.clsA.lookup c,fun f=>H.addrs.lookup f,K⟩
theorem info_of {prog:Program} {w:World} {h0:Heap} {K:Frag} {H:Heads} {mg mb:Str→Option Value} (X:K.In h0) (G:h0.Ns mainGlobals mg) (Bn:h0.Ns builtinsNs mb) (hb:∀ x:Str,x ≠ "__name__" →mb x=bootBuiltins x) (hlim:h0.NoLimit) (hsm:∃ o,h0.get? sysModules=some o)
  (hH:q9B K H=true):InfoOk (mkB prog w h0 K H) H.inf:=by
 unfold q9B at hH
 simp only [z4Q] at hH
 refine bc fun zZ=>?_
 obtain ⟨⟨⟨⟨⟨a1,a2⟩,a3⟩,a4⟩,a5⟩,a6⟩:=hH
 refine zZ ?_;clear zZ
 have gn:∀ {x:Str} {v:Value},nsIn K mainGlobals x=some (some v)→z5A (mkB prog w h0 K H) x v:=fun e=>⟨mg,mb,G,Bn,.inl (ns_at X G e)⟩
 refine ⟨⟨hsm,hlim,fun x v hm=>?_⟩,⟨X,fun c C hc=>?_,fun c C f hc hf=>?_⟩,fun f hf=>?_,fun c C hc=>?_,fun c hc=>?_,fun c f C hcf hc=>?_,fun x i hx=>?_⟩
 ·have h1:=z2Q.mp a6 _ hm
  have h2:=z2Q.mp g6B _ hm
  simp only [beq_iff_eq,z4Q,z8W] at h1 h2
  refine ⟨mg,mb,G,Bn,.inr ⟨ns_at X G h1,?_⟩⟩
  rw [hb _ (fun e=>by rw [e] at h2;exact absurd h2.2 (by decide)),h2.1]
 ·have:=z2Q.mp a2 _ (w3A hc)
  simp only [z4Q,clsB,beq_iff_eq] at this
  exact ⟨this.2.1.1.1.1.1,this.2.1.1.1.1.2,this.2.1.1.1.2,this.2.1.1.2,this.2.1.2⟩
 ·have:=z2Q.mp a2 _ (w3A hc)
  simp only [z4Q,clsB,beq_iff_eq] at this
  have h:=z2Q.mp this.2.2 f hf
  simp only [beq_iff_eq] at h
  exact h
 ·have:=z2Q.mp a1 _ hf
  split at this
  ·rename_i fa hfa
   simp only [z4Q,beq_iff_eq] at this
   exact ⟨fa,hfa,gn this.1,this.2⟩
  ·cases this
 ·have:=z2Q.mp a2 _ (w3A hc)
  simp only [z4Q] at this
  simpa using this.1
 ·have:=z2Q.mp a3 _ hc
  split at this
  ·rename_i Cl fI h1 h2
   simp only [z4Q,beq_iff_eq] at this
   exact ⟨Cl,fI,h1,h2,this.1.1.1.1,this.1.1.1.2,this.1.1.2,this.1.2,gn this.2⟩
  ·cases this
 ·have:=z2Q.mp a4 _ hcf
  simp only at this
  split at this
  ·rename_i Cl fa h1 h2
   have hc':H.clsA.lookup c=some C:=hc
   rw [h1] at hc';cases hc'
   simp only [z4Q,beq_iff_eq,z8W] at this
   refine ⟨fa,h2,this.1.1.1,this.1.1.2,this.1.2,fun hm=>?_⟩
   have:=this.2
   simp [hm] at this
  ·cases this
 ·have:=z2Q.mp a5 _ hx
  simp only [intV] at this
  split at this
  ·rename_i j t hj
   simp only [decide_eq_true_eq] at this
   subst this
   exact ⟨t,gn hj⟩
  ·cases this
theorem f6B {prog:Program} {w:World} {h0:Heap} {K:Frag} {H:Heads} {fuel:Nat} {tab:List (String×Fn)} (I:InfoOk (mkB prog w h0 K H) H.inf) (ht:tabB K H fuel tab=true):d1A (d0A (mkB prog w h0 K H) H.inf.rank) tab:=by
 refine u0C I.b.nolim fun f d hfd=>?_
 have:=z2Q.mp ht _ hfd
 simp only at this
 split at this
 ·rename_i fa hfa
  unfold fnB' at this
  simp only [z4Q] at this
  refine fnAt_of I hfa this.1 ?_
  intro oc od osl fd ho vs hl
  have h2:=this.2
  have ho':K.lookup fa=some ⟨oc,od,.func fd,osl⟩:=ho
  rw [ho'] at h2
  simp only [z4Q,uW,decide_eq_true_eq,Option.isNone_iff_eq_none,beq_iff_eq] at h2
  obtain ⟨⟨⟨⟨⟨q1,q2⟩,q3⟩,q4⟩,q5⟩,q6⟩:=h2
  have hnd:(d.ps.map Str.ofString).Nodup:=by
   have h1:=this.1
   unfold fnB at h1
   rw [ho'] at h1
   simp only at h1
   split at h1
   ·simp only [z4Q,decide_eq_true_eq] at h1
    have hn:=h1.1.1.1.1.2
    rw [xK,z2Z]
    exact (xK.mp hn).imp fun hne e=>hne (e1A e)
   ·cases h1
  exact i6B q1 q2 q3 q4 q5 q6 hnd (by simpa using hl)
 ·cases this
end Fl
namespace Fl
open PySem PySem.W PyProof.Rows
noncomputable def f4A (as:List Addr) (h:Heap):Frag:=as.filterMap fun a=>(h.get? a).map fun o=>(a,o)
theorem x9B (h:Heap):∀ as:List Addr,(f4A as h).In h:=by
 intro as
 induction as with
 | nil=>intro a o e;exact nons e
 | cons x as ih=>
  intro a o e
  unfold f4A at e
  rw [qK] at e
  cases hx:h.get? x with
  | none=>rw [hx] at e;exact ih a o e
  | some ox=>
   rw [hx] at e
   have e:List.lookup a ((x,ox)::f4A as h)=some o:=e
   rw [wZ] at e
   cases hq:a == x with
   | true=>rw [hq] at e;cases e;rw [beq_iff_eq.mp hq];exact hx
   | false=>rw [hq] at e;exact ih a o e
noncomputable def lookB (n:Nat) (H:Heads) (tab:List (String×Fn)) (fa:Addr) (s:Shared):Bool:=
 q9B (f4A (List.range n) s.heap) H && tabB (f4A (List.range n) s.heap) H 60 tab && decide (nsIn (f4A (List.range n) s.heap) mainGlobals (Str.ofString "law")=some (some (.ref fa)))
noncomputable def lookH (n:Nat) (H:Heads) (fa:Addr) (s:Shared):Bool:=
 q9B (f4A (List.range n) s.heap) H && decide (nsIn (f4A (List.range n) s.heap) mainGlobals (Str.ofString "law")=some (some (.ref fa)))
noncomputable def m7A (n:Nat) (H:Heads) (tab:List (String×Fn)) (s:Shared):Bool:=tabB (f4A (List.range n) s.heap) H 60 tab
theorem lookP {n:Nat} {H:Heads} {tab:List (String×Fn)} {fa:Addr} {o:Option Shared} (k l:Nat) (h0:o.map (lookH n H fa)=some true) (h1:o.map (m7A n H (tab.take k))=some true) (h2:o.map (m7A n H ((tab.drop k).take l))=some true) (h3:o.map (m7A n H ((tab.drop k).drop l))=some true):o.map (lookB n H tab fa)=some true:=by
 cases o with
 | none=>cases h0
 | some s=>
  have h0:lookH n H fa s=true:=pQ h0
  have h1:m7A n H (tab.take k) s=true:=pQ h1
  have h2:m7A n H ((tab.drop k).take l) s=true:=pQ h2
  have h3:m7A n H ((tab.drop k).drop l) s=true:=pQ h3
  refine an2 h0 fun a b=>?_
  refine congrArg some ?_
  unfold lookB
  rw [a,b]
  have:tabB (f4A (List.range n) s.heap) H 60 tab=true:=by
   unfold m7A tabB at h1 h2 h3
   unfold tabB
   rw [← kW k tab,List.all_append,h1,← kW l (tab.drop k),List.all_append,h2,h3];rfl
  rw [this];rfl
theorem intsR {B:Bs} {Z:Zm}:∀ {vs:List Value} {ns:List Int},IntsAre vs ns→RepL B Z (ns.map V.int) vs:=fun h=>by
 induction h with
 | nil=>exact s1A
 | cons n t _ ih=>exact x0A ⟨t,rfl⟩ ih
theorem enter {prog:Program} {w:World} {s₁:Shared} {K:Frag} {H:Heads} {fuel:Nat} {tab:List (String×Fn)} {mg mb:Str→Option Value} {R:Result→Shared→Prop} {fa l:Addr} {ns:List Int} {vs:List Value} {P:Params}
  (X:K.In s₁.heap) (G:s₁.heap.Ns mainGlobals mg) (Bn:s₁.heap.Ns builtinsNs mb) (hb:∀ x:Str,x ≠ "__name__" →mb x=bootBuiltins x) (hlim:s₁.heap.NoLimit) (hsm:s₁.heap.NoSeer)
  (hH:q9B K H=true) (hT:tabB K H fuel tab=true) (hfa:H.addrs.lookup "law" = some fa) (hr:H.inf.rank "law" ≤ 50)
  (hL:s₁.heap.IsList l vs.toArray) (hW:Well P s₁.heap (.ref l) (ofPy (.list (ns.map .int)))) (hI:IntsAre vs ns) (hn:ns.length≤63)
  (hlaw:∀ C:a0A,d1A C tab→C "law" [.v (.list (ns.map V.int))] [] (fun x _=>x=.bool true))
  (hR:∀ h' tk,(∀ b o,s₁.heap.get? b=some o→h'.get? b=some o)→R (.ok (.ret (.bool true))) { s₁ with heap:=h',toks:=tk }) :
  codeAny (model prog w) callerA (.call (.ref fa) ⟨[.ref l],[]⟩) R s₁:=by
 have hsm':∃ o,s₁.heap.get? sysModules=some o:=by
  refine bc fun zZ=>?_
  obtain ⟨mm,⟨o,_,_,ho,_⟩,_⟩:=hsm.mods
  refine zZ ?_;clear zZ
  exact ⟨o,ho⟩
 have Inf:=info_of (prog:=prog) (w:=w) X G Bn hb hlim hsm' hH
 have hC:=f6B Inf hT
 have I0:Inv (mkB prog w s₁.heap K H) (fun a=>s₁.heap.get? a) [] [] [] s₁.heap:=
  { base:=fun _ _ e=>e,zin:=fun _ _ e=>e,led:=fun p hp=>(by cases hp),len:=rfl,live:=fun i a ob e1=>(by simp at e1),rin:=fun a ha=>(by cases ha),nd:=(by simp) }
 have hu:callerA.units+30 * H.inf.rank "law" + 233≤cLine:=by
  have h1:callerA.units=4:=rfl
  have h2:cLine ≥ 4+30 * 50+233:=by decide
  lia
 have hd:callerA.depth+4 * H.inf.rank "law" + 4≤900:=by
  have h1:callerA.depth=301:=by decide
  lia
 refine hlaw _ hC callerA (fun a=>s₁.heap.get? a) [] [] s₁ [.ref l] R fa hfa ⟨rfl,hd,hu⟩ I0 ⟨_,[],rfl,?_,rfl⟩ ?_
 ·have hex:∃ vs':List Value,s₁.heap.get? l=some { cls:=.type "list", data:=.seq vs'.toArray }∧vs'.toArray=vs.toArray:=by
   refine bc fun zZ=>?_
   obtain ⟨o,ho,hc,n,hdat⟩:=hL
   refine zZ ?_;clear zZ
   have:∀ d,Well P s₁.heap (.ref l) d→(∃ xs,d=.list xs)→∃ vs':List Value,s₁.heap.get? l=some { cls:=.type "list", data:=.seq vs'.toArray }∧vs'.toArray=vs.toArray:=by
    intro d hw hd
    cases hw with
    | @list _ vs' xs hg _=>
     refine ⟨vs',hg,?_⟩
     rw [ho] at hg;cases hg
     simp only [Data.seq.injEq] at hdat
     exact hdat.1
    | _=>obtain ⟨xs,hx⟩:=hd;cases hx
   exact this _ hW ⟨_,rfl⟩
  refine bc fun zZ=>?_
  obtain ⟨vs',hg,he⟩:=hex
  refine zZ ?_;clear zZ
  have he':vs'=vs:=by simpa using congrArg Array.toList he
  subst he'
  exact ⟨l,vs',0,rfl,hg,by simp;lia,intsR hI⟩
 ·intro a v Z' ρ' σ' h' tk hk he hp I' R'
  subst hk
  obtain rfl:=R'
  exact hR h' tk I'.keep
theorem v8B {K:Frag} {h:Heap} {mg:Str→Option Value} {x:Str} {a fa:Addr} (X:K.In h) (G:h.Ns mainGlobals mg) (e:nsIn K mainGlobals x=some (some (.ref a))) (hm:mg x=some (.ref fa)):fa=a:=by
 have:=ns_at X G e
 rw [hm] at this;cases this;rfl
end Fl
open PySem PySem.W PyProof.Rows
set_option Elab.async false
set_option maxRecDepth 100000
set_option maxHeartbeats 8000000
namespace Fl
noncomputable def ranks:List (String×Nat):=[("tie_of", 1),("Web.__init__", 2),("Web.need_point", 1),("Web.beside", 2),("Web.pieces", 1),("are_turns", 3),("walks", 4),("flat", 5),("marks_round", 1),("blocks", 3),("way", 1),("lay", 1),("shreds", 1),("first_ring", 1),("next_shred", 2),("fields_of", 3),("drawn", 4),("_law_many", 1),("_law_ties", 1),("_law_turns_by", 1),("_law_is_flat", 1),("_law_stays", 3),("law", 6)]
noncomputable def p2B:Heads where
 inf:={ fns:=["is_whole", "tie_of", "neighbours", "reached", "are_turns", "behind", "walks", "flat", "marks_round", "merged", "blocks", "way", "row_back", "pair_of", "lay", "grown", "shreds", "touches", "fields_for", "parted", "first_ring", "next_shred", "fields_of", "rounds_of", "drawn", "_law_cell_at", "_law_many", "_law_ties", "_law_order_by", "_law_turns_by", "_law_labels", "_law_firsts", "_law_is_flat", "_law_shaken", "_law_stays"],meths:=[("Web", "need_point"),("Web", "ties"),("Web", "beside"),("Web", "pieces")],clss:=["Web"],consts:=[("MOST_POINTS", 16),("MOST_TIES", 40)],rank:=fun f=>(ranks.lookup f).getD 0 }
 addrs:=[("is_whole", 70),("tie_of", 77),("Web.__init__", 89),("Web.need_point", 96),("Web.ties", 103),("Web.beside", 110),("Web.pieces", 124),("neighbours", 138),("reached", 145),("are_turns", 152),("behind", 159),("walks", 166),("flat", 171),("marks_round", 178),("merged", 185),("blocks", 190),("way", 197),("row_back", 204),("pair_of", 211),("lay", 218),("grown", 225),("shreds", 230),("touches", 237),("fields_for", 242),("parted", 249),("first_ring", 256),("next_shred", 263),("fields_of", 270),("rounds_of", 277),("drawn", 282),("_law_cell_at", 289),("_law_many", 303),("_law_ties", 310),("_law_order_by", 317),("_law_turns_by", 322),("_law_labels", 327),("_law_firsts", 334),("_law_is_flat", 339),("_law_shaken", 344),("_law_stays", 349),("law", 354)]
 clsA:=[("Web", 127)]
theorem left2h (w:World):(openEnds treeTable PySem.Challenge.rw_uf010017_07.row.toRowW.prog w 6000).map (lookH 355 p2B 354)=some true:=by kernel_rfl
theorem left2a (w:World):(openEnds treeTable PySem.Challenge.rw_uf010017_07.row.toRowW.prog w 6000).map (m7A 355 p2B (tab.take 15))=some true:=by kernel_rfl
theorem left2b (w:World):(openEnds treeTable PySem.Challenge.rw_uf010017_07.row.toRowW.prog w 6000).map (m7A 355 p2B ((tab.drop 15).take 13))=some true:=by kernel_rfl
theorem left2c (w:World):(openEnds treeTable PySem.Challenge.rw_uf010017_07.row.toRowW.prog w 6000).map (m7A 355 p2B ((tab.drop 15).drop 13))=some true:=by kernel_rfl
theorem left2 (w:World):(openEnds treeTable PySem.Challenge.rw_uf010017_07.row.toRowW.prog w 6000).map (lookB 355 p2B tab 354)=some true:=lookP 15 13 (left2h w) (left2a w) (left2b w) (left2c w)
theorem both {α β:Type} {o:Option Shared} {f:Shared→α} {g:Shared→β} {a:α} {b:β} (h1:o.map f=some a) (h2:o.map g=some b):o.map (fun s=>(f s,g s))=some (a,b):=by
 cases o with
 | none=>cases h1
 | some s=>
  have e1:f s=a:=pQ h1
  have e2:g s=b:=pQ h2
  show some (f s,g s)=some (a,b)
  rw [e1,e2]
theorem holds07:PySem.Challenge.rw_uf010017_07.Holds:=by
 w_on
 refine holds_law (by kernel_rfl) fun said=>?_
 have hd0:(defOf vw PySem.Challenge.rw_uf010017_07.row.name).isSome=true:=by kernel_rfl
 obtain ⟨⟨d,kwd⟩,hd⟩:=oZ.mp hd0
 have h1:PySem.Challenge.rw_uf010017_07.row.prog.theDef PySem.Challenge.rw_uf010017_07.row.name=(defOf vw PySem.Challenge.rw_uf010017_07.row.name).map fun x=>(x.1.params,x.1.body,x.1.scope):=by kernel_rfl
 have h2:((defOf vw PySem.Challenge.rw_uf010017_07.row.name).bind fun x=>kwWritten? x.1.params.kwonlyargs x.1.params.kw_defaults)=(defOf vw PySem.Challenge.rw_uf010017_07.row.name).map fun x=>x.2:=by kernel_rfl
 rw [hd] at h1 h2
 have hnm:d.name=Str.ofString "law" := (defOf_name hd).trans (by kernel_rfl)
 refine holds_openX (q:=vw) (loose:=[]) (Xt:=fun s=>xlAt vw [] s && recOk (RowW.records PySem.Challenge.rw_uf010017_07.row.toRowW) s) (XP:=XL vw []) (Yf:=lookB 355 p2B tab 354) (Ya:=fun _=>true) (N:=6000) (fun w=>both (left1 w) (left2 w)) (fun s e=>xl_of s (Bool.and_eq_true_iff.mp e).1) XL.keeps hd h1 h2 (fun s e=>recFacts_of (Bool.and_eq_true_iff.mp e).2) (by kernel_rfl) (by kernel_rfl) (by decide +kernel) ⟨rfl,rfl,rfl,rfl,rfl,by decide +kernel⟩ ?hw ?hc
 (case hw=>w_witness2)
 intro w s₀ s₁ mg mb G y fa o pm cd doc dV kV ho hd hcd hD hmg hg args vals as L hpre hlay hrd hwl hlo
 clear h1 h2 hd0
 rw [hnm] at hmg
 refine an3 y fun y1 y2 y3=>?_
 have KX:=(x9B s₀.heap (List.range 355)).keeps (Laid.keeps L)
 refine Ground.open G ?_
 intro T B D TE TW
 clear hd hcd hD ho
 have hfa:fa=354:=v8B (x:=Str.ofString "law") KX T.g (of_decide_eq_true y3) hmg
 subst hfa
 wrow_args hpre hlay hrd hwl hlo
 refine enter_call ?_
 rename_i ns _ _ _ _ _ _ _ l vs _ hL _ hW _ hI _ hn _
 refine enter (H:=p2B) (fuel:=60) (tab:=tab) KX T.g T.b T.builtins T.nolimit (T.seer (by decide +kernel)) y1 y2 rfl (by decide) hL hW hI (by omega) (law_ok ns) fun h' tk hk=>?_
 refine GoodW.toG ⟨.inl ⟨.bool true,.bool true,[],rfl,fun _=>rfl,.bool true,by kernel_rfl,fun _=>⟨tW,fun _ h=>by cases h⟩⟩,hk,rfl,hg⟩
end Fl
set_option maxRecDepth 100000 in
set_option maxHeartbeats 8000000 in
theorem PySem.Challenge.cw_uf010017_07_holds : PySem.Challenge.rw_uf010017_07.Holds :=
  Fl.holds07
