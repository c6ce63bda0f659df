import PyProof.Rows.All
import PyProof.TableCode
import KE.KIntText
import Flt.Len
import PyProof.Rows.Tup
import PyProof.Rows.Many
import PyProof.RangeFor
import PyProof.Rows.CellsKey
import PyProof.PassesOwn
import PyProof.DictKinds
import PyProof.DictList
import PyProof.EqKinds
import PyProof.NeKinds
import PyProof.Rows.StrRules
import PyProof.Rows.IntRules
import PyProof.Rows.RuleB_and
import PyProof.Rows.RuleB_mul
import PyProof.Rows.RuleB_mod
import PyProof.Rows.RuleB_floordiv
import PyProof.Rows.RuleC_int
import PyProof.Rows.RuleU_int
import OpenK.KWalk
import PyProof.ListOps
import PyProof.TupleOps
import PyProof.FactsAll.tuple_2
import PyProof.Rows.SeqMore
import PyProof.ListMulRoad
import PyProof.ListMulAny
import PyProof.Rows.IntMath
import PyProof.PureInt
import PyProof.Rows.ListMulArg
import PyProof.AutoRange
import PyProof.SeqRoads2
import PyProof.FactsAll.range_1
import PyProof.IsRules
import PyProof.Rows.RuleIs2
import PyProof.DictStraight
import PyProof.DictRoads
import PyProof.StrLaws
import PyProof.StrLawsIn
import PyProof.StrBlock
import PyProof.ListIndexNeg
import PyProof.SliceMore
import PyProof.DelItemList
import PyProof.SliceStr2
import PyProof.Rows.TupMore
import PyProof.Rows.Lst
import PyProof.SeqRoads
import PyProof.AutoSeq1
import PyProof.Rows.RuleB_sub
import PyProof.CallStr
import PyProof.Conv_int_bool
import PyProof.FitsInt
import KE.IntTextLaws
import PyProof.Rows.RuleN_abs
import PyProof.Rows.Range3
import PyProof.WalkInts
import PyProof.TupleOfSeq
import PyProof.TypeOfCall
import PyProof.SumAny
import PyProof.WalksMore
import PyProof.ListRange
import PyProof.ToksMono
import PyProof.StrCalls2
import PyProof.StrCalls5
import PyProof.StrCalls6
import PyProof.StrLawsTight
import PyProof.StrLawsChain
import PyProof.StrLawsFrom
import PyProof.StrLawsJoin
import PyProof.Rows.StrCase
import PyProof.Rows.StrNews2
import PyProof.Methods
import PyProof.StrLawsOcc
import OpenK.KMake
import OpenK.KCls
import PyProof.LetGo
import PyProof.Rows.Chain
import PyProof.Rows.TupSub
import PyProof.Rows.Exc
import PyProof.Rules3
import PyProof.MakeMany
import PyProof.Dict
import KE.KTurns
import KE.KPairComp
import PyProof.CompFree
import PyProof.TupleIter
import PyProof.Rows.TupIter
import PyProof.RulesAssignMore
import PyProof.RulesDel
import PyProof.Rows.Catch
import PyProof.ExcFactsAll.ValueError
import PyProof.AssignAttr
import PyProof.ForAny
import PyProof.ExcAttrAll.ValueError
import Wide.All
import OpenK.AllK
import OpenK.XOpen
import OpenK.ZHead
import Wide.FinOn
import Lean
import PySem.Challenge.RW_sx_r130_2
set_option autoImplicit false
set_option linter.all false
set_option genSizeOf false
set_option genSizeOfSpec false
set_option genInjectivity false
set_option genCtorIdx false
set_option backward.match.sparseCases false
set_option maxRecDepth 1000000
set_option exponentiation.threshold 2000
set_option maxHeartbeats 0
set_option Elab.async false
namespace Mine.Internal
theorem Aa {n m k:Nat}(h:n<=m)(g:m<=k):n<=k:=Nat.le_trans h g
theorem Ab {a b:Bool}(h:(a&&b)=true):a=true∧b=true:=Bool.and_eq_true_iff.mp h
theorem Ac {α:Type}{as bs:List α}:(as++bs).length=as.length+bs.length:=List.length_append
theorem Ad {n m:Nat}(h:Nat.ble n m=true):n<=m:=Nat.le_of_ble_eq_true h
theorem Ae {α:Type}(as bs cs:List α):as++bs++cs=as++(bs++cs):=List.append_assoc as bs cs
theorem Af (n k:Nat):n<=n+k:=Nat.le_add_right n k
theorem Ag {α:Type}{a b:α}(h:some a=some b):a=b:=Option.some.inj h
theorem Ah {α β:Type}{as:List α}(f:α->β):(as.map f).length=as.length:=List.length_map f
theorem Ai {α:Type}{l:List α}{i:Nat}{a:α}(h:l[i]? =some a):∃k:i<l.length,l[i]=a:=List.getElem?_eq_some_iff.mp h
theorem Aj (a:Nat):a<=a:=Nat.le_refl a
theorem Ak {a b:Nat}(h:a<=b)(k:Nat):k+a<=k+b:=Nat.add_le_add_left h k
theorem Al {a b:Nat}(h:a<=b)(k:Nat):a+k<=b+k:=Nat.add_le_add_right h k
theorem Am {a b:Nat}(h:a+1<=b+1):a<=b:=Nat.le_of_succ_le_succ h
theorem An {a b c:Nat}(h:a<b)(k:b<=c):a<c:=Nat.lt_of_lt_of_le h k
theorem Ao {a b c:Nat}(h:a<=b)(k:b<c):a<c:=Nat.lt_of_le_of_lt h k
theorem Ap {a b:Nat}(h:a+1<=b):a<=b:=Nat.le_of_succ_le h
theorem Aq {a b c d:Nat}(h:a<=b)(k:c<=d):a+c<=b+d:=Nat.add_le_add h k
theorem Ar (a b:Nat):a<=b+a:=Nat.le_add_left a b
theorem As {a b:Nat}(h:Nat.beq a b=true):a=b:=Nat.eq_of_beq_eq_true h
theorem Au {a b:Nat}(h:a<=b):a+1<=b+1:=Nat.succ_le_succ h
theorem Av (a:Nat):0<=(a:Int):=Int.natCast_nonneg a
theorem Aw (a b c:Nat):a+b+c=a+c+b:=Nat.add_right_comm a b c
theorem Ax {p:Prop}[i:Decidable p](h:decide p=true):p:=of_decide_eq_true h
open PySem (Value Addr)
abbrev Tx:=List Nat
set_option genCtorIdx true in
inductive AV where
 | none
 | bool (b:Bool)
 | int (i:Int)
 | str (s:Tx)
 | tup (vs:List AV)
 | obj (r:Nat)
 | j6 (lo hi st:Int)
 | jr (vs:List AV)
 | cp (v:Value)
set_option genCtorIdx true in
inductive At where
 | ts | pos | code
deriving DecidableEq
set_option genCtorIdx true in
inductive MO where
 | list (vs:List AV)
 | dict (es:List (Tx×AV))
 | inst (c:Nat) (fs:List (At×AV))
abbrev ae:=List MO
noncomputable def lid:Nat:=1000000
set_option genCtorIdx true in
inductive wy where
 | add | sub | mul | fdiv | mod | band
set_option genCtorIdx true in
inductive C8 where
 | eq | ne | lt | le | gt | ge | isin | iZ | is | uW
set_option genCtorIdx true in
inductive Bi where
 | len | str | int | abs | range | max | sum | tuple | type | list
set_option genCtorIdx true in
inductive Bm where
 | append | pop | isascii | isalpha | isalnum | isdigit | lower | find | replace | join | extend
mutual
inductive E where
 | none | bool (b:Bool) | int (i:Int) | str (s:Tx)
 | v (i:Nat)
 | g (i:Nat)
 | bin (op:wy) (a b:E)
 | neg (a:E)
 | not (a:E)
 | cmp (op:C8) (a b:E)
 | te (o1 o2:C8) (a b c:E)
 | all (es:Es)
 | any (es:Es)
 | ite (c a b:E)
 | call (f:Nat) (as:Es)
 | new (c:Nat) (as:Es)
 | ai (o:E) (f:Nat) (as:Es)
 | bi (b:Bi) (as:Es)
 | bm (o:E) (m:Bm) (as:Es)
 | attr (o:E) (x:At)
 | idx (o i:E)
 | slice (o:E) (lo hi:Eo)
 | tuple (as:Es)
 | list (as:Es)
 | oh
  | dX (m j:Nat) (src:E)
  | du (FG:Nat) (src:E)
  | wG (o:E)
inductive Es where
 | nil
 | cons (e:E) (es:Es)
inductive Eo where
 | no
 | yes (e:E)
end
mutual
inductive S where
 | expr (e:E)
 | set (i:Nat) (e:E)
 | eV (is:List Nat) (e:E)
 | setAttr (o:E) (x:At) (e:E)
 | bQ (o i e:E)
 | fM (o lo hi e:E)
 | aug (i:Nat) (op:wy) (e:E)
 | dY (o:E) (x:At) (op:wy) (e:E)
 | iT (o i:E) (op:wy) (e:E)
 | ik (o lo:E)
 | ifs (c:E) (a b:Ss)
 | gf (c:E) (b:Ss)
 | gx (i:Nat) (src:E) (b:Ss)
 | pd (is:List Nat) (src:E) (b:Ss)
 | ret (e:E)
 | raise (e:E)
 | brk
 | cont
 | nW (b:Ss) (i:Nat) (c:E)
 | forL (i:Nat) (src:E) (b:Ss)
 | n4 (i:Nat) (a b:E)
inductive Ss where
 | nil
 | cons (s:S) (ss:Ss)
end
inductive Fl where
 | next | brk | cont | ret (v:AV)
abbrev Ev:=Nat->Option AV
noncomputable def upd (e:Ev)(i:Nat)(v:AV):Ev:=fun j=>cond (Nat.beq j i) (some v) (e j)
noncomputable def c0 (e:Ev):List Nat->List AV->Ev
 | i::is,v::vs=>c0 (upd e i v) is vs
 | _,_=>e
noncomputable def aB:Tx->Tx->Bool
 | [],[]=>true
 | a::l,b::r=>Nat.beq a b&&aB l r
 | _,_=>false
noncomputable def bH (c:Nat):List Nat->Bool
 | []=>false
 | d::r=>Nat.beq c d||bH c r
mutual
noncomputable def oZ:AV->AV->Option Bool
 | .bool a,.bool b=>some (a==b)
 | .int a,.int b=>some (decide (a=b))
 | .int _,.str _=>some false
 | .str a,.str b=>some (aB a b)
 | .tup a,.tup b=>iC a b
 | _,_=>Option.none
noncomputable def iC:List AV->List AV->Option Bool
 | [],[]=>some true
 | [],_::_=>some false
 | _::_,[]=>some false
 | a::as,b::bs=>match oZ a b,iC as bs with
  | some x,some y=>some (x&&y)
  | _,_=>Option.none
end
noncomputable def AV.depth:AV->Nat
 | .tup vs=>jO vs+1
 | _=>0
where jO:List AV->Nat
 | []=>0
 | x::r=>max x.depth (jO r)
noncomputable def aG (x:Tx):List AV->Bool
 | .str y::r=>aB x y||aG x r
 | _=>false
noncomputable def cq:List AV->Bool
 | []=>true
 | .str _::r=>cq r
 | _=>false
abbrev QV:=AV->ae->Prop
abbrev QX:=ae->Prop
noncomputable abbrev qK (e:Ev)(i:Nat)(P:AV->Prop):Prop:=match e i with
 | some a=>P a
 | Option.none=>False
noncomputable abbrev qE (v:AV)(A B:Prop):Prop:=match v with
 | .bool true=>A
 | .bool false=>B
 | _=>False
noncomputable abbrev u1 (v:AV)(P:Bool->Prop):Prop:=match v with
 | .bool b=>P b
 | _=>False
noncomputable abbrev bI (v:AV)(P:Int->Prop):Prop:=match v with
 | .int b=>P b
 | _=>False
noncomputable abbrev Hh (v:AV)(P:List AV->Prop):Prop:=match v with
 | .tup b=>P b
 | _=>False
noncomputable abbrev fU (v:AV)(P:Tx->Prop):Prop:=match v with
 | .str b=>P b
 | _=>False
noncomputable abbrev o7 (v:Tx)(P:Nat->Prop):Prop:=match v with
 | [b]=>P b
 | _=>False
noncomputable abbrev gH (v:AV)(P:Nat->Prop):Prop:=match v with
 | .obj b=>P b
 | _=>False
noncomputable abbrev kF (b:Bool)(P:Prop):Prop:=match b with
 | true=>P
 | false=>False
noncomputable abbrev dn {α:Type}(o:Option α)(P:α->Prop):Prop:=match o with
 | some x=>P x
 | Option.none=>False
@[irreducible] noncomputable def cQ (r:Nat) (J:ae) (P:List AV->Prop):Prop:=∃ l,J[r]?=some (.list l)∧P l
@[irreducible] noncomputable def wO (r:Nat) (J:ae) (P:List (Tx×AV)->Prop):Prop:=∃ l,J[r]?=some (.dict l)∧P l
@[irreducible] noncomputable def s9 (x:Tx) (r:Nat) (J:ae) (P:Bool->Prop):Prop:=(∃ l,J[r]?=some (.list l)∧cq l=true∧P (aG x l))∨(∃ es,J[r]?=some (.dict es)∧P (es.lookup x).isSome)
noncomputable def LL (a b:AV)(Q:Bool->Prop):Prop:=dn (oZ a b) fun r=>kF (Nat.ble a.depth 100) (Q r)
noncomputable def addW (a b:AV)(J:ae)(Q:QV):Prop:=match a with
 | .int a=>bI b fun b=>Q (.int (a+b)) J
 | .str a=>fU b fun b=>a.length+b.length<=lid∧Q (.str (a++b)) J
 | .obj r=>gH b fun r'=>cQ r J fun l=>cQ r' J fun l'=>l.length+l'.length<=lid∧Q (.obj J.length) (J++[.list (l++l')])
 | .tup l=>Hh b fun l'=>l.length+l'.length<=lid∧Q (.tup (l++l')) J
 | _=>False
noncomputable def Mc (a b:AV)(J:ae)(Q:QV):Prop:=match a with
 | .int a=>bI b fun b=>a.natAbs<2 ^ 1000∧b.natAbs<2 ^ 1000∧Q (.int (a*b)) J
 | .obj r=>bI b fun n=>cQ r J fun l=>∃ i,l=[.int i]∧0<=n∧n<=(lid:Int)∧Q (.obj J.length) (J++[.list (List.replicate n.toNat (.int i))])
 | .tup l=>bI b fun n=>∃ x,l=[x]∧(n=1∨n=2∨n=3)∧Q (.tup (List.replicate n.toNat x)) J
 | _=>False
noncomputable def H0 (op:wy)(a b:AV)(J:ae)(Q:QV):Prop:=match op with
 | .add=>addW a b J Q
 | .sub=>bI a fun a=>bI b fun b=>Q (.int (a-b)) J
 | .mul=>Mc a b J Q
 | .fdiv=>bI a fun a=>bI b fun b=>b≠0∧b.natAbs<2 ^ 1000∧Q (.int (a.fdiv b)) J
 | .mod=>bI a fun a=>bI b fun b=>b≠0∧b.natAbs<2 ^ 1000∧Q (.int (a.fmod b)) J
 | .band=>bI a fun a=>bI b fun b=>b=1∧Q (.int (a.fmod 2)) J
noncomputable def lC (op:wy)(a b:AV)(J:ae)(Q:QV):Prop:=match op with
 | .add=>(match a with
  | .obj r=>gH b fun r'=>cQ r J fun l=>cQ r' J fun l'=>r≠r'∧l.length+l'.length<=lid∧Q (.obj r) (J.set r (.list (l++l')))
  | .int a=>bI b fun b=>Q (.int (a+b)) J
  | _=>False)
 | .sub=>bI a fun a=>bI b fun b=>Q (.int (a-b)) J
 | _=>False
noncomputable def P8 (a b:AV)(J:ae)(Q:Bool->Prop):Prop:=match b with
 | .tup l=>fU a fun x=>kF (cq l) (Q (aG x l))
 | .jr l=>fU a fun x=>kF (cq l) (Q (aG x l))
 | .str l=>fU a fun x=>o7 x fun c=>Q (bH c l)
 | .j6 lo hi st=>bI a fun x=>st=1∧Q (decide (lo<=x)&&decide (x<hi))
 | .obj o=>(match a with
  | .str x=>s9 x o J Q
  | _=>False)
 | _=>False
@[irreducible] noncomputable def eN (a:AV) (Q:Bool->Prop):Prop:=match a with
 | .none=>Q true
 | .int _=>Q false
 | .str _=>Q false
 | .tup _=>Q false
 | _=>False
noncomputable def LY (a:AV)(b:Value)(Q:Bool->Prop):Prop:=match a,b with
 | .cp (.type a),.type b=>Q (a==b)
 | _,_=>False
noncomputable def VN (a b:AV)(Q:Bool->Prop):Prop:=match b with
 | .none=>eN a Q
 | .cp v=>LY a v Q
 | _=>False
noncomputable def yL (a b:AV)(Q:Int->Int->Prop):Prop:=bI a fun a=>bI b fun b=>Q a b
noncomputable def Dx (op:C8)(a b:AV)(J:ae)(Q:Bool->Prop):Prop:=match op with
 | .eq=>LL a b Q
 | .ne=>LL a b fun r=>Q (!r)
 | .lt=>yL a b fun a b=>Q (decide (a<b))
 | .le=>yL a b fun a b=>Q (decide (a<=b))
 | .gt=>yL a b fun a b=>Q (decide (a>b))
 | .ge=>yL a b fun a b=>Q (decide (a ≥ b))
 | .isin=>P8 a b J Q
 | .iZ=>P8 a b J fun r=>Q (!r)
 | .is=>VN a b Q
 | .uW=>(match b with
  | .none=>eN a fun r=>Q (!r)
  | _=>False)
noncomputable def dQ (i:Int)(n:Nat):Option Nat:=
 if 0<=i then (if i<n then some i.toNat else Option.none) else (if 0<=i+n then some (i+n).toNat else Option.none)
noncomputable def UU (l:List AV)(i:AV)(Q:AV->Prop):Prop:=bI i fun i=>dn (dQ i l.length) fun k=>dn l[k]? Q
noncomputable def iJ (o i:AV)(J:ae)(Q:AV->Prop):Prop:=match o with
 | .obj r=>(match i with
  | .int i=>cQ r J fun l=>dn (dQ i l.length) fun k=>dn l[k]? Q
  | .str x=>wO r J fun es=>dn (es.lookup x) Q
  | _=>False)
 | .tup l=>UU l i Q
 | .jr l=>UU l i Q
 | .str l=>bI i fun i=>dn (dQ i l.length) fun k=>dn l[k]? fun x=>Q (.str [x])
 | _=>False
noncomputable def Dk:Option AV->Option Nat
 | Option.none=>some 0
 | some (.int i)=>if 0<=i then some i.toNat else Option.none
 | _=>Option.none
noncomputable def Du (n:Nat):Option AV->Option Nat
 | Option.none=>some n
 | some (.int i)=>if 0<=i then some i.toNat else Option.none
 | _=>Option.none
noncomputable def cut {α:Type}(l:List α)(lo hi:Nat):List α:=(l.take hi).drop lo
noncomputable def tD (o:AV)(lo hi:Option AV)(J:ae)(Q:QV):Prop:=match o with
 | .str l=>dn lo fun a=>dn hi fun b=>bI a fun a=>bI b fun b=>0<=a∧a<=b∧Q (.str (cut l a.toNat b.toNat)) J
 | .tup l=>(match hi with
  | Option.none=>dn lo fun a=>bI a fun a=>1<=a∧a<=l.length∧Q (.tup (l.drop a.toNat)) J
  | some b=>bI b fun b=>lo=Option.none∧0<=b∧b<l.length∧Q (.tup (l.take b.toNat)) J)
 | .obj r=>cQ r J fun l=>dn (Dk lo) fun a=>dn (Du l.length hi) fun b=>Q (.obj J.length) (J++[.list (cut l a b)])
 | _=>False
noncomputable def aC (lo hi st:Int):List Int:=
 if st=1 then (List.range (hi-lo).toNat).map fun (k:Nat)=>lo+(k:Int)
 else if st=-1 then (List.range (lo-hi).toNat).map fun (k:Nat)=>lo-(k:Int) else []
noncomputable def bW (i:Int):Tx:=(toString i).toList.map Char.toNat
noncomputable def aI (c:Nat):Bool:=48<=c&&c<=57
noncomputable def isUp (c:Nat):Bool:=65<=c&&c<=90
noncomputable def NA (c:Nat):Bool:=97<=c&&c<=122
noncomputable def cP (c:Nat):Bool:=isUp c||NA c
noncomputable def o8 (c:Nat):Nat:=if isUp c then c+32 else c
noncomputable def fC (l:Tx):Nat:=l.foldl (fun n c=>10*n+(c-48)) 0
noncomputable def og (c:Nat)(l:Tx)(i:Nat):Int:=
 match (l.drop i).findIdx? (·==c) with
 | some k=>(i+k:Nat)
 | Option.none=>-1
noncomputable def pre:Tx->Tx->Bool
 | [],_=>true
 | _::_,[]=>false
 | a::as,b::bs=>Nat.beq a b&&pre as bs
noncomputable def fX (sep:Tx):List Tx->Tx
 | []=>[]
 | [x]=>x
 | x::r=>x++sep++fX sep r
noncomputable def j8:List AV->Option (List Tx)
 | []=>some []
 | .str s::r=>(j8 r).map (s::·)
 | _::_=>Option.none
noncomputable def Mg (v:AV)(J:ae)(Q:QV):Prop:=match v with
 | .obj r=>cQ r J fun l=>Q (.int l.length) J
 | .str s=>Q (.int s.length) J
 | .tup l=>Q (.int l.length) J
 | .jr l=>Q (.int l.length) J
 | _=>False
noncomputable def zM (v:AV)(J:ae)(Q:QV):Prop:=match v with
 | .bool b=>Q (.int (if b then 1 else 0)) J
 | .str s=>s≠[]∧s.length<=600∧s.all aI=true∧Q (.int (fC s)) J
 | _=>False
noncomputable def MJ (b:Bi)(v:AV)(J:ae)(Q:QV):Prop:=match b with
 | .len=>Mg v J Q
 | .str=>bI v fun i=>i.natAbs<2 ^ 100∧Q (.str (bW i)) J
 | .int=>zM v J Q
 | .abs=>bI v fun i=>Q (.int i.natAbs) J
 | .range=>bI v fun a=>a.natAbs<=lid∧Q (.j6 0 a 1) J
 | .sum=>(match v with
  | .j6 a b c=>(c=1∨c=-1)∧(aC a b c).length<=lid∧Q (.int (aC a b c).sum) J
  | _=>False)
 | .tuple=>gH v fun r=>cQ r J fun l=>Q (.tup l) J
 | .type=>(match v with
  | .int _=>Q (.cp (.type "int")) J
  | .tup _=>Q (.cp (.type "tuple")) J
  | _=>False)
 | .list=>(match v with
  | .j6 a b c=>(c=1∨c=-1)∧(aC a b c).length<=lid∧Q (.obj J.length) (J++[.list ((aC a b c).map .int)])
  | _=>False)
 | _=>False
noncomputable def MI (b:Bi)(v w:AV)(J:ae)(Q:QV):Prop:=bI v fun x=>bI w fun y=>match b with
 | .range=>x.natAbs<=lid∧y.natAbs<=lid∧Q (.j6 x y 1) J
 | .max=>Q (.int (max x y)) J
 | _=>False
noncomputable def MH (b:Bi)(u v w:AV)(J:ae)(Q:QV):Prop:=match b with
 | .range=>bI u fun a=>bI v fun b=>bI w fun c=>a.natAbs<=lid∧b.natAbs<=lid∧c=-1∧Q (.j6 a b c) J
 | _=>False
noncomputable def UT (b:Bi)(vs:List AV)(J:ae)(Q:QV):Prop:=match vs with
 | [u]=>MJ b u J Q
 | [u,v]=>MI b u v J Q
 | [u,v,w]=>MH b u v w J Q
 | _=>False
noncomputable def MG (m:Bm)(v:AV)(J:ae)(Q:QV):Prop:=match m with
 | .pop=>gH v fun r=>cQ r J fun l'=>∃ l x,l'=l++[x]∧Q x (J.set r (.list l))
 | .isascii=>fU v fun s=>o7 s fun c=>Q (.bool (Nat.blt c 128)) J
 | .isalpha=>fU v fun s=>o7 s fun c=>kF (Nat.blt c 128) (Q (.bool (cP c)) J)
 | .isalnum=>fU v fun s=>o7 s fun c=>kF (Nat.blt c 128) (Q (.bool (cP c||aI c)) J)
 | .isdigit=>fU v fun s=>o7 s fun c=>kF (Nat.blt c 128) (Q (.bool (aI c)) J)
 | .lower=>fU v fun s=>(∀ c∈s,c<128)∧Q (.str (s.map o8)) J
 | _=>False
noncomputable def MF (m:Bm)(v x:AV)(J:ae)(Q:QV):Prop:=match m with
 | .append=>gH v fun r=>cQ r J fun l=>l.length<lid∧Q .none (J.set r (.list (l++[x])))
 | .extend=>gH v fun r=>cQ r J fun l=>match x with
  | .obj r'=>cQ r' J fun l'=>r≠r'∧l.length+l'.length<=lid∧Q .none (J.set r (.list (l++l')))
  | .tup l'=>l.length+l'.length<=lid∧Q .none (J.set r (.list (l++l')))
  | _=>False
 | .join=>fU v fun s=>gH x fun r=>cQ r J fun l=>∃ ts,j8 l=some ts∧(ts.map List.length).sum+ts.length*s.length<=lid∧Q (.str (fX s ts)) J
 | _=>False
noncomputable def ME (m:Bm)(v x y:AV)(J:ae)(Q:QV):Prop:=match m with
 | .find=>fU v fun s=>fU x fun t=>o7 t fun c=>bI y fun i=>0<=i∧i<=s.length∧Q (.int (og c s i.toNat)) J
 | _=>False
noncomputable def bA (a b:Tx):Tx->Tx
 | []=>[]
 | c::l=>(match pre a (c::l) with
  | true=>b++(c::l).drop a.length
  | false=>c::bA a b l)
noncomputable def SS (m:Bm)(v x y z:AV)(J:ae)(Q:QV):Prop:=match m with
 | .replace=>fU v fun s=>fU x fun a=>fU y fun b=>bI z fun n=>n=1∧a≠[]∧a≠b∧s.length+(s.length+1)*b.length<=lid∧Q (.str (bA a b s)) J
 | _=>False
noncomputable def LQ (m:Bm)(v:AV)(vs:List AV)(J:ae)(Q:QV):Prop:=match vs with
 | []=>MG m v J Q
 | [x]=>MF m v x J Q
 | [x,y]=>ME m v x y J Q
 | [x,y,z]=>SS m v x y z J Q
 | _=>False
noncomputable def yZ (m:Bm)(v:AV)(J:ae)(P:Prop):Prop:=match v with
 | .obj r=>(match m with
  | .append | .pop | .extend=>cQ r J fun _=>P
  | _=>False)
 | .str _=>(match m with
  | .append | .pop | .extend=>False
  | _=>P)
 | _=>False
noncomputable def tN:AV->Bool
 | .cp _=>false
 | _=>true
@[irreducible] noncomputable def gk (v:AV) (x:At) (J:ae) (Q:AV->Prop):Prop:=∃ r c fs a,v=.obj r∧J[r]?=some (.inst c fs)∧fs.lookup x=some a∧tN a=true∧Q a
noncomputable def ny (x:At)(v:AV):List (At×AV)->List (At×AV)
 | []=>[(x,v)]
 | (y,w)::r=>if y=x then (y,v)::r else (y,w)::ny x v r
@[irreducible] noncomputable def dt (v:AV) (x:At) (a:AV) (J:ae) (Q:QX):Prop:=∃ r c fs,v=.obj r∧J[r]?=some (.inst c fs)∧Q (J.set r (.inst c (ny x a fs)))
noncomputable def putD (x:Tx)(v:AV):List (Tx×AV)->List (Tx×AV)
 | []=>[(x,v)]
 | (y,w)::r=>cond (aB y x) ((y,v)::r) ((y,w)::putD x v r)
noncomputable def dT (o i v:AV)(J:ae)(Q:QX):Prop:=gH o fun r=>match i with
 | .int i=>cQ r J fun l=>dn (dQ i l.length) fun k=>Q (J.set r (.list (l.set k v)))
 | .str x=>wO r J fun es=>es.length<lid∧Q (J.set r (.dict (putD x v es)))
 | _=>False
noncomputable def ou (o lo hi v:AV)(J:ae)(Q:QX):Prop:=gH o fun r=>bI lo fun a=>bI hi fun b=>gH v fun r'=>cQ r J fun l=>cQ r' J fun l'=>r≠r'∧a=b∧0<=a∧a<=l.length∧l.length+l'.length<=lid∧Q (J.set r (.list (l.take a.toNat++l'++l.drop a.toNat)))
noncomputable def sh (o lo:AV)(J:ae)(Q:QX):Prop:=gH o fun r=>bI lo fun a=>cQ r J fun l=>0<=a∧a<=l.length∧Q (J.set r (.list (l.take a.toNat)))
noncomputable def picks (m j:Nat):List AV->Option (List AV)
 | []=>some []
 | .tup vs::r=>(match Nat.beq vs.length m,vs[j]? with
  | true,some y=>(picks m j r).map (y::·)
  | _,_=>Option.none)
 | _::_=>Option.none
abbrev Calls:=Nat->List AV->ae->QV->QX->Prop
structure aQ where
 glob:Nat->Option AV
 init:Nat->Option Nat
 bX:Nat->Option Nat
section
variable (T:aQ)(C:Calls)
@[irreducible] noncomputable def bG (f:Nat) (v:AV) (J:ae) (P:Nat->Prop):Prop:=∃ r c fs,v=.obj r∧J[r]?=some (.inst c fs)∧T.bX f=some c∧P r
mutual
noncomputable def bb:E->Ev->ae->QV->QX->Prop
 | .none,_,J,Q,_=>Q .none J
 | .bool b,_,J,Q,_=>Q (.bool b) J
 | .int i,_,J,Q,_=>Q (.int i) J
 | .str s,_,J,Q,_=>Q (.str s) J
 | .v i,e,J,Q,_=>qK e i fun a=>Q a J
 | .g i,_,J,Q,_=>dn (T.glob i) fun a=>Q a J
 | .bin op a b,e,J,Q,X=>bb a e J (fun va J1=>bb b e J1 (fun vb J2=>H0 op va vb J2 Q) X) X
 | .neg a,e,J,Q,X=>bb a e J (fun va J1=>bI va fun i=>Q (.int (-i)) J1) X
 | .not a,e,J,Q,X=>bb a e J (fun va J1=>u1 va fun b=>Q (.bool (!b)) J1) X
 | .cmp op a b,e,J,Q,X=>bb a e J (fun va J1=>bb b e J1 (fun vb J2=>Dx op va vb J2 fun r=>Q (.bool r) J2) X) X
 | .te o1 o2 a b c,e,J,Q,X=>bb a e J (fun va J1=>bb b e J1 (fun vb J2=>Dx o1 va vb J2 fun r=>qE (.bool r) (bb c e J2 (fun vc J3=>Dx o2 vb vc J3 fun r=>Q (.bool r) J3) X) (Q (.bool false) J2)) X) X
 | .all es,e,J,Q,X=>Dz es e J Q X
 | .any es,e,J,Q,X=>Dy es e J Q X
 | .ite c a b,e,J,Q,X=>bb c e J (fun vc J1=>qE vc (bb a e J1 Q X) (bb b e J1 Q X)) X
 | .call f as,e,J,Q,X=>iK as e J (fun vs J1=>T.bX f=Option.none∧C f vs J1 Q X) X
 | .new c as,e,J,Q,X=>iK as e J (fun vs J1=>∃ f,T.init c=some f∧T.bX f=some c∧C f (.obj J1.length::vs) (J1++[.inst c []]) (fun r J2=>r=.none∧Q (.obj J1.length) J2) X) X
 | .ai o f as,e,J,Q,X=>bb o e J (fun vo J1=>bG T f vo J1 fun r=>iK as e J1 (fun vs J2=>C f (.obj r::vs) J2 Q X) X) X
 | .bi b as,e,J,Q,X=>iK as e J (fun vs J1=>UT b vs J1 Q) X
 | .bm o m as,e,J,Q,X=>bb o e J (fun vo J1=>yZ m vo J1 (iK as e J1 (fun vs J2=>LQ m vo vs J2 Q) X)) X
 | .attr o x,e,J,Q,X=>bb o e J (fun vo J1=>gk vo x J1 fun v=>Q v J1) X
 | .idx o i,e,J,Q,X=>bb o e J (fun vo J1=>bb i e J1 (fun vi J2=>iJ vo vi J2 fun v=>Q v J2) X) X
 | .slice o lo hi,e,J,Q,X=>bb o e J (fun vo J1=>yV lo e J1 (fun vl J2=>yV hi e J2 (fun vh J3=>tD vo vl vh J3 Q) X) X) X
 | .tuple as,e,J,Q,X=>iK as e J (fun vs J1=>kF (Nat.ble vs.length lid) (Q (.tup vs) J1)) X
 | .list as,e,J,Q,X=>iK as e J (fun vs J1=>kF (Nat.ble vs.length lid) (Q (.obj J1.length) (J1++[.list vs]))) X
 | .oh,_,J,Q,_=>Q (.obj J.length) (J++[.dict []])
 | .dX m j src,e,J,Q,X=>bb src e J (fun vs J1=>Hh vs fun l=>dn (picks m j l) fun ys=>Q (.obj J1.length) (J1++[.list ys])) X
 | .du FG src,e,J,Q,X=>bb src e J (fun vs J1=>gH vs fun r=>cQ r J1 fun l=>qK e FG fun a=>Q (.obj J1.length) (J1++[.list (l.map fun x=>.tup [x,a])])) X
 | .wG o,e,J,Q,X=>bb o e J (fun vo J1=>gH vo fun r=>cQ r J1 fun l=>1<=l.length∧l.length<=3∧Q (.obj J1.length) (J1++[.list (l.drop 1).reverse])) X
noncomputable def iK:Es->Ev->ae->(List AV->ae->Prop)->QX->Prop
 | .nil,_,J,Q,_=>Q [] J
 | .cons a as,e,J,Q,X=>bb a e J (fun va J1=>iK as e J1 (fun vs J2=>Q (va::vs) J2) X) X
noncomputable def yV:Eo->Ev->ae->(Option AV->ae->Prop)->QX->Prop
 | .no,_,J,Q,_=>Q Option.none J
 | .yes a,e,J,Q,X=>bb a e J (fun va J1=>Q (some va) J1) X
noncomputable def Dz:Es->Ev->ae->QV->QX->Prop
 | .nil,_,_,_,_=>False
 | .cons a .nil,e,J,Q,X=>bb a e J (fun va J1=>u1 va fun b=>Q (.bool b) J1) X
 | .cons a as,e,J,Q,X=>bb a e J (fun va J1=>qE va (Dz as e J1 Q X) (Q (.bool false) J1)) X
noncomputable def Dy:Es->Ev->ae->QV->QX->Prop
 | .nil,_,_,_,_=>False
 | .cons a .nil,e,J,Q,X=>bb a e J (fun va J1=>u1 va fun b=>Q (.bool b) J1) X
 | .cons a as,e,J,Q,X=>bb a e J (fun va J1=>qE va (Q (.bool true) J1) (Dy as e J1 Q X)) X
end
abbrev QF:=Fl->Ev->ae->Prop
abbrev XS:=Ev->ae->Prop
noncomputable def gr (c:Ev->ae->QV->QX->Prop)(b:Ev->ae->QF->XS->Prop):Nat->Ev->ae->QF->XS->Prop
 | 0,_,_,_,_=>False
 | k+1,e,J,Q,X=>c e J (fun r J1=>qE r (b e J1 (fun f e' J2=>match f with
   | .next | .cont=>gr c b k e' J2 Q X
   | .brk=>Q .next e' J2
   | .ret v=>Q (.ret v) e' J2) X) (Q .next e J1)) (X e)
noncomputable def cS (tg:Ev->AV->(Ev->Prop)->Prop)(b:Ev->ae->QF->XS->Prop):List AV->Ev->ae->QF->XS->Prop
 | [],e,J,Q,_=>Q .next e J
 | x::r,e,J,Q,X=>tg e x fun e1=>b e1 J (fun f e' J2=>match f with
   | .next | .cont=>cS tg b r e' J2 Q X
   | .brk=>Q .next e' J2
   | .ret v=>Q (.ret v) e' J2) X
noncomputable def itemsOf:AV->Option (List AV)
 | .tup l=>some l
 | .j6 a b c=>if c=1∨c=-1 then some ((aC a b c).map .int) else Option.none
 | _=>Option.none
noncomputable def kh (tg:Ev->AV->(Ev->Prop)->Prop)(b:Ev->ae->QF->XS->Prop)(r:Nat):Nat->Nat->Ev->ae->QF->XS->Prop
 | 0,_,_,_,_,_=>False
 | g+1,k,e,J,Q,X=>cQ r J fun l=>match l[k]? with
   | Option.none=>l.length=k∧Q .next e J
   | some x=>tg e x fun e1=>b e1 J (fun f e' J2=>match f with
    | .next | .cont=>kh tg b r g (k+1) e' J2 Q X
    | .brk=>Q .next e' J2
    | .ret v=>Q (.ret v) e' J2) X
noncomputable def TB (a b:E)(e:Ev)(J:ae)(Q:QV)(X:QX):Prop:=bb T C a e J (fun va J1=>gH va fun r=>cQ r J1 fun l=>match l with
 | []=>bb T C b e J1 Q X
 | _::_=>Q va J1) X
noncomputable def constOf:E->Option AV
 | .bool b=>some (.bool b)
 | .str s=>some (.str s)
 | _=>Option.none
noncomputable def nc (i:Nat):Ev->AV->(Ev->Prop)->Prop:=fun e x Q=>Q (upd e i x)
noncomputable def wa (is:List Nat):Ev->AV->(Ev->Prop)->Prop:=fun e x Q=>match x with
 | .tup vs=>kF (Nat.beq vs.length is.length) (Q (c0 e is vs))
 | _=>False
mutual
noncomputable def Ft:S->Ev->ae->QF->XS->Prop
 | .expr a,e,J,Q,X=>bb T C a e J (fun _ J1=>Q .next e J1) (X e)
 | .set i a,e,J,Q,X=>bb T C a e J (fun v J1=>Q .next (upd e i v) J1) (X e)
 | .eV is a,e,J,Q,X=>bb T C a e J (fun v J1=>wa is e v fun e1=>Q .next e1 J1) (X e)
 | .setAttr o x a,e,J,Q,X=>bb T C a e J (fun v J1=>bb T C o e J1 (fun vo J2=>dt vo x v J2 fun J3=>Q .next e J3) (X e)) (X e)
 | .bQ o i a,e,J,Q,X=>bb T C a e J (fun v J1=>bb T C o e J1 (fun vo J2=>bb T C i e J2 (fun vi J3=>dT vo vi v J3 fun J4=>Q .next e J4) (X e)) (X e)) (X e)
 | .fM o lo hi a,e,J,Q,X=>bb T C a e J (fun v J1=>bb T C o e J1 (fun vo J2=>bb T C lo e J2 (fun vl J3=>bb T C hi e J3 (fun vh J4=>ou vo vl vh v J4 fun J5=>Q .next e J5) (X e)) (X e)) (X e)) (X e)
 | .aug i op a,e,J,Q,X=>qK e i fun old=>bb T C a e J (fun v J1=>lC op old v J1 fun w J2=>Q .next (upd e i w) J2) (X e)
 | .dY o x op a,e,J,Q,X=>bb T C o e J (fun vo J1=>gk vo x J1 fun old=>bb T C a e J1 (fun v J2=>lC op old v J2 fun w J3=>dt vo x w J3 fun J4=>Q .next e J4) (X e)) (X e)
 | .iT o i op a,e,J,Q,X=>bb T C o e J (fun vo J1=>bb T C i e J1 (fun vi J2=>iJ vo vi J2 fun old=>bb T C a e J2 (fun v J3=>lC op old v J3 fun w J4=>dT vo vi w J4 fun J5=>Q .next e J5) (X e)) (X e)) (X e)
 | .ik o lo,e,J,Q,X=>bb T C o e J (fun vo J1=>bb T C lo e J1 (fun vl J2=>sh vo vl J2 fun J3=>Q .next e J3) (X e)) (X e)
 | .ifs c a b,e,J,Q,X=>bb T C c e J (fun vc J1=>qE vc (aH a e J1 Q X) (aH b e J1 Q X)) (X e)
 | .gf c b,e,J,Q,X=>∃ k,gr (bb T C c) (aH b) k e J Q X
 | .gx i src b,e,J,Q,X=>bb T C src e J (fun v J1=>dn (itemsOf v) fun l=>cS (nc i) (aH b) l e J1 Q X) (X e)
 | .pd is src b,e,J,Q,X=>bb T C src e J (fun v J1=>dn (itemsOf v) fun l=>cS (wa is) (aH b) l e J1 Q X) (X e)
 | .ret a,e,J,Q,X=>bb T C a e J (fun v J1=>Q (.ret v) e J1) (X e)
 | .raise a,e,J,_,X=>bb T C a e J (fun _ J1=>X e J1) (X e)
 | .brk,e,J,Q,_=>Q .brk e J
 | .cont,e,J,Q,_=>Q .cont e J
 | .nW b i c,e,J,Q,X=>dn (constOf c) fun v=>aH b e J Q (fun e1 J1=>Q .next (upd e1 i v) J1)
 | .n4 i a b,e,J,Q,X=>TB T C a b e J (fun v J1=>Q .next (upd e i v) J1) (X e)
 | .forL i src b,e,J,Q,X=>bb T C src e J (fun v J1=>gH v fun r=>∃ g,kh (nc i) (aH b) r g 0 e J1 Q X) (X e)
noncomputable def aH:Ss->Ev->ae->QF->XS->Prop
 | .nil,e,J,Q,_=>Q .next e J
 | .cons s .nil,e,J,Q,X=>Ft s e J Q X
 | .cons s ss,e,J,Q,X=>Ft s e J (fun f e1 J1=>match f with
   | .next=>aH ss e1 J1 Q X
   | f=>Q f e1 J1) X
end
end
structure aD where
 np:Nat
 body:Ss
noncomputable def aj (T:aQ)(D:Nat->Option aD):Nat->Calls
 | 0=>fun _ _ _ _ _=>False
 | n+1=>fun f vs J Q X=>∃ d,D f=some d∧vs.length=d.np∧
   aH T (aj T D n) d.body (fun i=>vs[i]?) J (fun fl _ J'=>match fl with
    | .ret v=>Q v J'
    | .next=>Q .none J'
    | _=>False) (fun _ J'=>X J')
noncomputable def Gr:E:=(.all (.cons (.cmp .lt (.v 4) (.bi .len (.cons (.v 0) .nil))) (.cons (.bm (.idx (.v 0) (.v 4)) .isascii .nil) (.cons (.bm (.idx (.v 0) (.v 4)) .isdigit .nil) .nil))))
noncomputable def Gu:Ss:=(.cons (.aug 4 .add (.int 1)) .nil)
noncomputable def Gq:E:=(.all (.cons (.cmp .lt (.v 4) (.bi .len (.cons (.v 0) .nil))) (.cons (.bm (.idx (.v 0) (.v 4)) .isascii .nil) (.cons (.bm (.idx (.v 0) (.v 4)) .isalnum .nil) .nil))))
noncomputable def Gs:Ss:=(.cons (.aug 4 .add (.int 1)) .nil)
noncomputable def zo:E:=(.cmp .lt (.v 2) (.bi .len (.cons (.v 0) .nil)))
noncomputable def uX:Ss:=(.cons (.set 3 (.idx (.v 0) (.v 2))) (.cons (.ifs (.cmp .isin (.v 3) (.str [32,10])) (.cons (.aug 2 .add (.int 1)) (.cons .cont .nil)) .nil) (.cons (.ifs (.cmp .eq (.v 3) (.str [123])) (.cons (.set 4 (.bm (.v 0) .find (.cons (.str [125]) (.cons (.v 2) .nil)))) (.cons (.ifs (.cmp .lt (.v 4) (.int 0)) (.cons (.raise (.str [110,111,116,101])) .nil) .nil) (.cons (.set 2 (.bin .add (.v 4) (.int 1))) (.cons .cont .nil)))) .nil) (.cons (.ifs (.all (.cons (.bm (.v 3) .isascii .nil) (.cons (.bm (.v 3) .isalpha .nil) .nil))) (.cons (.set 4 (.v 2)) (.cons (.gf Gq Gs) (.cons (.set 5 (.bm (.slice (.v 0) (.yes (.v 2)) (.yes (.v 4))) .lower .nil)) (.cons (.expr (.bm (.v 1) .append (.cons (.tuple (.cons (.ite (.cmp .isin (.v 5) (.g 0)) (.str [119,111,114,100]) (.str [110,97,109,101])) (.cons (.v 5) .nil))) .nil))) (.cons (.set 2 (.v 4)) (.cons .cont .nil)))))) .nil) (.cons (.ifs (.all (.cons (.bm (.v 3) .isascii .nil) (.cons (.bm (.v 3) .isdigit .nil) .nil))) (.cons (.set 4 (.v 2)) (.cons (.gf Gr Gu) (.cons (.ifs (.all (.cons (.cmp .lt (.v 4) (.bi .len (.cons (.v 0) .nil))) (.cons (.bm (.idx (.v 0) (.v 4)) .isascii .nil) (.cons (.bm (.idx (.v 0) (.v 4)) .isalpha .nil) .nil)))) (.cons (.raise (.str [105,110,116])) .nil) .nil) (.cons (.expr (.bm (.v 1) .append (.cons (.tuple (.cons (.str [105,110,116]) (.cons (.bi .int (.cons (.slice (.v 0) (.yes (.v 2)) (.yes (.v 4))) .nil)) .nil))) .nil))) (.cons (.set 2 (.v 4)) (.cons .cont .nil)))))) .nil) (.cons (.set 6 (.slice (.v 0) (.yes (.v 2)) (.yes (.bin .add (.v 2) (.int 2))))) (.cons (.ifs (.cmp .iZ (.v 6) (.tuple (.cons (.str [58,61]) (.cons (.str [60,62]) (.cons (.str [60,61]) (.cons (.str [62,61]) .nil)))))) (.cons (.set 6 (.v 3)) .nil) .nil) (.cons (.ifs (.all (.cons (.cmp .eq (.v 6) (.v 3)) (.cons (.cmp .iZ (.v 3) (.str [43,45,42,61,60,62,40,41,91,93,44,59,58,46])) .nil))) (.cons (.raise (.v 3)) .nil) .nil) (.cons (.expr (.bm (.v 1) .append (.cons (.tuple (.cons (.str [119,111,114,100]) (.cons (.v 6) .nil))) .nil))) (.cons (.aug 2 .add (.bi .len (.cons (.v 6) .nil))) .nil))))))))))
noncomputable def P7:aD:=⟨1,(.cons (.set 1 (.list .nil)) (.cons (.set 2 (.int 0)) (.cons (.gf zo uX) (.cons (.ret (.bin .add (.v 1) (.list (.cons (.tuple (.cons (.str [101,110,100]) (.cons (.str []) .nil))) .nil)))) .nil))))⟩
noncomputable def PZ:aD:=⟨2,(.cons (.setAttr (.v 0) .ts (.call 0 (.cons (.v 1) .nil))) (.cons (.setAttr (.v 0) .pos (.int 0)) .nil))⟩
noncomputable def PY:aD:=⟨2,(.cons (.ret (.cmp .eq (.idx (.attr (.v 0) .ts) (.attr (.v 0) .pos)) (.tuple (.cons (.str [119,111,114,100]) (.cons (.v 1) .nil))))) .nil)⟩
noncomputable def PX:aD:=⟨2,(.cons (.ifs (.not (.ai (.v 0) 2 (.cons (.v 1) .nil))) (.cons (.raise (.tuple (.cons (.v 1) (.cons (.idx (.attr (.v 0) .ts) (.attr (.v 0) .pos)) .nil)))) .nil) .nil) (.cons (.dY (.v 0) .pos .add (.int 1)) .nil))⟩
noncomputable def PW:aD:=⟨2,(.cons (.ifs (.ai (.v 0) 2 (.cons (.v 1) .nil)) (.cons (.dY (.v 0) .pos .add (.int 1)) (.cons (.ret (.bool true)) .nil)) .nil) (.cons (.ret (.bool false)) .nil))⟩
noncomputable def PV:aD:=⟨2,(.cons (.eV [2,3] (.idx (.attr (.v 0) .ts) (.attr (.v 0) .pos))) (.cons (.ifs (.cmp .ne (.v 2) (.v 1)) (.cons (.raise (.tuple (.cons (.v 1) (.cons (.idx (.attr (.v 0) .ts) (.attr (.v 0) .pos)) .nil)))) .nil) .nil) (.cons (.dY (.v 0) .pos .add (.int 1)) (.cons (.ret (.v 3)) .nil))))⟩
noncomputable def Gp:E:=(.any (.cons (.ai (.v 0) 2 (.cons (.str [43]) .nil)) (.cons (.ai (.v 0) 2 (.cons (.str [45]) .nil)) .nil)))
noncomputable def NC:Ss:=(.cons (.set 2 (.ai (.v 0) 5 (.cons (.str [119,111,114,100]) .nil))) (.cons (.set 1 (.tuple (.cons (.v 2) (.cons (.v 1) (.cons (.ai (.v 0) 7 .nil) .nil))))) .nil))
noncomputable def TQ:aD:=⟨1,(.cons (.set 1 (.ai (.v 0) 7 .nil)) (.cons (.gf Gp NC) (.cons (.ret (.v 1)) .nil)))⟩
noncomputable def Gn:E:=(.any (.cons (.ai (.v 0) 2 (.cons (.str [42]) .nil)) (.cons (.ai (.v 0) 2 (.cons (.str [100,105,118]) .nil)) (.cons (.ai (.v 0) 2 (.cons (.str [109,111,100]) .nil)) .nil))))
noncomputable def NB:Ss:=(.cons (.set 2 (.ai (.v 0) 5 (.cons (.str [119,111,114,100]) .nil))) (.cons (.set 1 (.tuple (.cons (.v 2) (.cons (.v 1) (.cons (.ai (.v 0) 8 .nil) .nil))))) .nil))
noncomputable def TP:aD:=⟨1,(.cons (.set 1 (.ai (.v 0) 8 .nil)) (.cons (.gf Gn NB) (.cons (.ret (.v 1)) .nil)))⟩
noncomputable def PU:aD:=⟨1,(.cons (.ifs (.ai (.v 0) 4 (.cons (.str [45]) .nil)) (.cons (.ret (.tuple (.cons (.str [110,101,103]) (.cons (.ai (.v 0) 8 .nil) .nil)))) .nil) .nil) (.cons (.ifs (.ai (.v 0) 4 (.cons (.str [40]) .nil)) (.cons (.set 1 (.ai (.v 0) 6 .nil)) (.cons (.expr (.ai (.v 0) 3 (.cons (.str [41]) .nil))) (.cons (.ret (.v 1)) .nil))) .nil) (.cons (.ifs (.cmp .eq (.idx (.idx (.attr (.v 0) .ts) (.attr (.v 0) .pos)) (.int 0)) (.str [105,110,116])) (.cons (.ret (.tuple (.cons (.str [105,110,116]) (.cons (.ai (.v 0) 5 (.cons (.str [105,110,116]) .nil)) .nil)))) .nil) .nil) (.cons (.set 2 (.ai (.v 0) 5 (.cons (.str [110,97,109,101]) .nil))) (.cons (.ifs (.ai (.v 0) 4 (.cons (.str [91]) .nil)) (.cons (.set 1 (.ai (.v 0) 6 .nil)) (.cons (.expr (.ai (.v 0) 3 (.cons (.str [93]) .nil))) (.cons (.ret (.tuple (.cons (.str [97,116]) (.cons (.v 2) (.cons (.v 1) .nil))))) .nil))) .nil) (.cons (.ret (.tuple (.cons (.str [110,97,109,101]) (.cons (.v 2) .nil)))) .nil))))))⟩
noncomputable def PR:aD:=⟨1,(.cons (.ifs (.ai (.v 0) 4 (.cons (.str [111,100,100]) .nil)) (.cons (.expr (.ai (.v 0) 3 (.cons (.str [40]) .nil))) (.cons (.set 1 (.ai (.v 0) 6 .nil)) (.cons (.expr (.ai (.v 0) 3 (.cons (.str [41]) .nil))) (.cons (.ret (.tuple (.cons (.str [111,100,100]) (.cons (.v 1) .nil)))) .nil)))) .nil) (.cons (.set 2 (.ai (.v 0) 6 .nil)) (.cons (.set 3 (.ai (.v 0) 5 (.cons (.str [119,111,114,100]) .nil))) (.cons (.ifs (.cmp .iZ (.v 3) (.g 1)) (.cons (.raise (.v 3)) .nil) .nil) (.cons (.ret (.tuple (.cons (.v 3) (.cons (.v 2) (.cons (.ai (.v 0) 6 .nil) .nil))))) .nil)))))⟩
noncomputable def A8:E:=(.ai (.v 0) 4 (.cons (.str [59]) .nil))
noncomputable def A9:Ss:=(.cons (.expr (.bm (.v 1) .append (.cons (.ai (.v 0) 11 .nil) .nil))) .nil)
noncomputable def HL:aD:=⟨1,(.cons (.set 1 (.list (.cons (.ai (.v 0) 11 .nil) .nil))) (.cons (.gf A8 A9) (.cons (.ret (.bi .tuple (.cons (.v 1) .nil))) .nil)))⟩
noncomputable def A6:E:=(.ai (.v 0) 4 (.cons (.str [44]) .nil))
noncomputable def A7:Ss:=(.cons (.expr (.bm (.v 9) .append (.cons (.ai (.v 0) 6 .nil) .nil))) .nil)
noncomputable def HK:aD:=⟨1,(.cons (.ifs (.ai (.v 0) 4 (.cons (.str [105,102]) .nil)) (.cons (.set 1 (.ai (.v 0) 9 .nil)) (.cons (.expr (.ai (.v 0) 3 (.cons (.str [116,104,101,110]) .nil))) (.cons (.set 2 (.ai (.v 0) 11 .nil)) (.cons (.ret (.tuple (.cons (.str [105,102]) (.cons (.v 1) (.cons (.v 2) (.cons (.ite (.ai (.v 0) 4 (.cons (.str [101,108,115,101]) .nil)) (.ai (.v 0) 11 .nil) .none) .nil)))))) .nil)))) .nil) (.cons (.ifs (.ai (.v 0) 4 (.cons (.str [119,104,105,108,101]) .nil)) (.cons (.set 1 (.ai (.v 0) 9 .nil)) (.cons (.expr (.ai (.v 0) 3 (.cons (.str [100,111]) .nil))) (.cons (.ret (.tuple (.cons (.str [119,104,105,108,101]) (.cons (.v 1) (.cons (.ai (.v 0) 11 .nil) .nil))))) .nil))) .nil) (.cons (.ifs (.ai (.v 0) 4 (.cons (.str [114,101,112,101,97,116]) .nil)) (.cons (.set 3 (.ai (.v 0) 10 .nil)) (.cons (.expr (.ai (.v 0) 3 (.cons (.str [117,110,116,105,108]) .nil))) (.cons (.ret (.tuple (.cons (.str [114,101,112,101,97,116]) (.cons (.v 3) (.cons (.ai (.v 0) 9 .nil) .nil))))) .nil))) .nil) (.cons (.ifs (.ai (.v 0) 4 (.cons (.str [102,111,114]) .nil)) (.cons (.set 4 (.ai (.v 0) 5 (.cons (.str [110,97,109,101]) .nil))) (.cons (.expr (.ai (.v 0) 3 (.cons (.str [58,61]) .nil))) (.cons (.set 2 (.ai (.v 0) 6 .nil)) (.cons (.set 5 (.ai (.v 0) 4 (.cons (.str [116,111]) .nil))) (.cons (.ifs (.not (.v 5)) (.cons (.expr (.ai (.v 0) 3 (.cons (.str [100,111,119,110,116,111]) .nil))) .nil) .nil) (.cons (.set 6 (.ai (.v 0) 6 .nil)) (.cons (.expr (.ai (.v 0) 3 (.cons (.str [100,111]) .nil))) (.cons (.ret (.tuple (.cons (.str [102,111,114]) (.cons (.v 4) (.cons (.v 2) (.cons (.v 6) (.cons (.v 5) (.cons (.ai (.v 0) 11 .nil) .nil)))))))) .nil)))))))) .nil) (.cons (.ifs (.ai (.v 0) 4 (.cons (.str [98,101,103,105,110]) .nil)) (.cons (.set 3 (.ai (.v 0) 10 .nil)) (.cons (.expr (.ai (.v 0) 3 (.cons (.str [101,110,100]) .nil))) (.cons (.ret (.tuple (.cons (.str [98,101,103,105,110]) (.cons (.v 3) .nil)))) .nil))) .nil) (.cons (.ifs (.ai (.v 0) 4 (.cons (.str [119,114,105,116,101]) .nil)) (.cons (.expr (.ai (.v 0) 3 (.cons (.str [40]) .nil))) (.cons (.set 7 (.ai (.v 0) 6 .nil)) (.cons (.expr (.ai (.v 0) 3 (.cons (.str [41]) .nil))) (.cons (.ret (.tuple (.cons (.str [119,114,105,116,101]) (.cons (.v 7) .nil)))) .nil)))) .nil) (.cons (.ifs (.cmp .eq (.idx (.idx (.attr (.v 0) .ts) (.attr (.v 0) .pos)) (.int 0)) (.str [110,97,109,101])) (.cons (.set 4 (.ai (.v 0) 5 (.cons (.str [110,97,109,101]) .nil))) (.cons (.ifs (.ai (.v 0) 4 (.cons (.str [58,61]) .nil)) (.cons (.ret (.tuple (.cons (.str [115,101,116]) (.cons (.v 4) (.cons .none (.cons (.ai (.v 0) 6 .nil) .nil)))))) .nil) .nil) (.cons (.ifs (.ai (.v 0) 4 (.cons (.str [91]) .nil)) (.cons (.set 8 (.ai (.v 0) 6 .nil)) (.cons (.expr (.ai (.v 0) 3 (.cons (.str [93]) .nil))) (.cons (.expr (.ai (.v 0) 3 (.cons (.str [58,61]) .nil))) (.cons (.ret (.tuple (.cons (.str [115,101,116]) (.cons (.v 4) (.cons (.v 8) (.cons (.ai (.v 0) 6 .nil) .nil)))))) .nil)))) .nil) (.cons (.set 9 (.list .nil)) (.cons (.ifs (.ai (.v 0) 4 (.cons (.str [40]) .nil)) (.cons (.expr (.bm (.v 9) .append (.cons (.ai (.v 0) 6 .nil) .nil))) (.cons (.gf A6 A7) (.cons (.expr (.ai (.v 0) 3 (.cons (.str [41]) .nil))) .nil))) .nil) (.cons (.ret (.tuple (.cons (.str [99,97,108,108]) (.cons (.v 4) (.cons (.bi .tuple (.cons (.v 9) .nil)) .nil))))) .nil)))))) .nil) (.cons (.ret (.tuple (.cons (.str [101,109,112,116,121]) .nil))) .nil))))))))⟩
noncomputable def tW:E:=(.bool true)
noncomputable def tY:Ss:=(.cons (.set 7 (.ai (.v 0) 4 (.cons (.str [118,97,114]) .nil))) (.cons (.expr (.bm (.v 6) .append (.cons (.tuple (.cons (.ai (.v 0) 5 (.cons (.str [110,97,109,101]) .nil)) (.cons (.v 7) .nil))) .nil))) (.cons (.ifs (.not (.ai (.v 0) 4 (.cons (.str [44]) .nil))) (.cons .brk .nil) .nil) .nil)))
noncomputable def pI:E:=(.ai (.v 0) 4 (.cons (.str [112,114,111,99,101,100,117,114,101]) .nil))
noncomputable def pJ:Ss:=(.cons (.set 5 (.ai (.v 0) 5 (.cons (.str [110,97,109,101]) .nil))) (.cons (.set 6 (.list .nil)) (.cons (.ifs (.ai (.v 0) 4 (.cons (.str [40]) .nil)) (.cons (.gf tW tY) (.cons (.expr (.ai (.v 0) 3 (.cons (.str [41]) .nil))) .nil)) .nil) (.cons (.expr (.ai (.v 0) 3 (.cons (.str [59]) .nil))) (.cons (.set 8 (.ai (.v 0) 12 .nil)) (.cons (.expr (.ai (.v 0) 3 (.cons (.str [59]) .nil))) (.cons (.expr (.bm (.v 2) .append (.cons (.tuple (.cons (.v 5) (.cons (.bi .tuple (.cons (.v 6) .nil)) (.cons (.v 8) .nil)))) .nil))) .nil)))))))
noncomputable def A4:E:=(.ai (.v 0) 4 (.cons (.str [44]) .nil))
noncomputable def A5:Ss:=(.cons (.expr (.bm (.v 3) .append (.cons (.ai (.v 0) 5 (.cons (.str [110,97,109,101]) .nil)) .nil))) .nil)
noncomputable def tV:E:=(.bool true)
noncomputable def tX:Ss:=(.cons (.set 3 (.list (.cons (.ai (.v 0) 5 (.cons (.str [110,97,109,101]) .nil)) .nil))) (.cons (.gf A4 A5) (.cons (.expr (.ai (.v 0) 3 (.cons (.str [58]) .nil))) (.cons (.set 4 .none) (.cons (.ifs (.ai (.v 0) 4 (.cons (.str [97,114,114,97,121]) .nil)) (.cons (.expr (.ai (.v 0) 3 (.cons (.str [91]) .nil))) (.cons (.set 4 (.ai (.v 0) 5 (.cons (.str [105,110,116]) .nil))) (.cons (.expr (.ai (.v 0) 3 (.cons (.str [93]) .nil))) (.cons (.expr (.ai (.v 0) 3 (.cons (.str [111,102]) .nil))) .nil)))) .nil) (.cons (.expr (.ai (.v 0) 3 (.cons (.str [105,110,116,101,103,101,114]) .nil))) (.cons (.expr (.ai (.v 0) 3 (.cons (.str [59]) .nil))) (.cons (.aug 1 .add (.du 4 (.v 3))) (.cons (.ifs (.cmp .ne (.idx (.idx (.attr (.v 0) .ts) (.attr (.v 0) .pos)) (.int 0)) (.str [110,97,109,101])) (.cons .brk .nil) .nil) .nil)))))))))
noncomputable def HJ:aD:=⟨1,(.cons (.set 1 (.list .nil)) (.cons (.set 2 (.list .nil)) (.cons (.ifs (.ai (.v 0) 4 (.cons (.str [118,97,114]) .nil)) (.cons (.gf tV tX) .nil) .nil) (.cons (.gf pI pJ) (.cons (.expr (.ai (.v 0) 3 (.cons (.str [98,101,103,105,110]) .nil))) (.cons (.set 9 (.ai (.v 0) 10 .nil)) (.cons (.expr (.ai (.v 0) 3 (.cons (.str [101,110,100]) .nil))) (.cons (.ret (.tuple (.cons (.str [98,108,111,99,107]) (.cons (.bi .tuple (.cons (.v 1) .nil)) (.cons (.bi .tuple (.cons (.v 2) .nil)) (.cons (.v 9) .nil)))))) .nil))))))))⟩
noncomputable def HI:aD:=⟨1,(.cons (.set 1 (.new 0 (.cons (.v 0) .nil))) (.cons (.expr (.ai (.v 1) 3 (.cons (.str [112,114,111,103,114,97,109]) .nil))) (.cons (.set 2 (.ai (.v 1) 5 (.cons (.str [110,97,109,101]) .nil))) (.cons (.expr (.ai (.v 1) 3 (.cons (.str [59]) .nil))) (.cons (.set 3 (.ai (.v 1) 12 .nil)) (.cons (.expr (.ai (.v 1) 3 (.cons (.str [46]) .nil))) (.cons (.ifs (.cmp .ne (.idx (.idx (.attr (.v 1) .ts) (.attr (.v 1) .pos)) (.int 0)) (.str [101,110,100])) (.cons (.raise (.str [114,101,115,116])) .nil) .nil) (.cons (.ret (.tuple (.cons (.str [112,114,111,103,114,97,109]) (.cons (.v 2) (.cons (.v 3) .nil))))) .nil))))))))⟩
noncomputable def HH:aD:=⟨2,(.cons (.ifs (.not (.v 0)) (.cons (.raise (.v 1)) .nil) .nil) .nil)⟩
noncomputable def HG:aD:=⟨1,(.cons (.setAttr (.v 0) .code (.list .nil)) .nil)⟩
noncomputable def HF:aD:=⟨2,(.cons (.expr (.bm (.attr (.v 0) .code) .append (.cons (.v 1) .nil))) (.cons (.ret (.bin .sub (.bi .len (.cons (.attr (.v 0) .code) .nil)) (.int 1))) .nil))⟩
noncomputable def A3:Ss:=(.cons (.expr (.ai (.v 0) 21 (.cons (.v 20) (.cons (.v 2) (.cons (.v 19) .nil))))) .nil)
noncomputable def AZ:Ss:=(.cons (.set 18 (.bi .len (.cons (.attr (.v 0) .code) .nil))) (.cons (.bQ (.attr (.v 0) .code) (.v 15) (.tuple (.cons (.str [106,109,112]) (.cons (.v 18) .nil)))) (.cons (.ifs (.cmp .gt (.v 10) (.v 13)) (.cons (.expr (.ai (.v 0) 16 (.cons (.tuple (.cons (.str [105,110,116]) (.cons (.bin .sub (.v 10) (.v 13)) .nil))) .nil))) .nil) .nil) (.cons (.set 19 (.list (.cons (.v 10) .nil))) (.cons (.gx 20 (.v 6) A3) (.cons (.expr (.ai (.v 0) 16 (.cons (.tuple (.cons (.str [114,101,116]) .nil)) .nil))) (.cons (.ret (.v 18)) .nil)))))))
noncomputable def A2:Ss:=(.cons (.bQ (.v 9) (.v 11) (.tuple (.cons (.str [112,114,111,99]) (.cons (.bi .len (.cons (.attr (.v 0) .code) .nil)) (.cons (.v 16) .nil))))) (.cons (.expr (.ai (.v 0) 17 (.cons (.v 17) (.cons (.v 2) (.cons (.v 16) .nil))))) .nil))
noncomputable def JT:Ss:=(.cons (.set 15 (.ai (.v 0) 16 (.cons (.tuple (.cons (.str [106,109,112]) (.cons .none .nil))) .nil))) (.cons (.pd [11,16,17] (.v 5) A2) AZ))
noncomputable def tU:Ss:=(.cons (.expr (.call 14 (.cons (.any (.cons (.cmp .is (.v 14) .none) (.cons (.cmp .ge (.v 14) (.int 1)) .nil))) (.cons (.str [115,105,122,101]) .nil)))) (.cons (.bQ (.v 9) (.v 11) (.ite (.cmp .is (.v 14) .none) (.tuple (.cons (.str [105,110,116]) (.cons (.v 10) .nil))) (.tuple (.cons (.str [97,114,114,97,121]) (.cons (.v 10) (.cons (.v 14) .nil)))))) (.cons (.aug 10 .add (.ite (.cmp .is (.v 14) .none) (.int 1) (.v 14))) .nil)))
noncomputable def JS:Ss:=(.cons (.set 13 (.v 10)) (.cons (.pd [11,14] (.v 4) tU) JT))
noncomputable def A1:Ss:=(.cons (.bQ (.v 9) (.v 11) (.tuple (.cons (.ite (.v 12) (.str [114,101,102]) (.str [105,110,116])) (.cons (.v 10) .nil)))) (.cons (.aug 10 .add (.int 1)) .nil))
noncomputable def JR:Ss:=(.cons (.set 9 .oh) (.cons (.set 10 (.int 3)) (.cons (.set 2 (.bin .add (.v 2) (.list (.cons (.v 9) .nil)))) (.cons (.pd [11,12] (.v 3) A1) JS))))
noncomputable def A0:Ss:=(.cons (.expr (.call 14 (.cons (.cmp .iZ (.idx (.v 7) (.v 8)) (.slice (.v 7) .no (.yes (.v 8)))) (.cons (.str [116,119,105,99,101]) .nil)))) .nil)
noncomputable def HE:aD:=⟨4,(.cons (.set 4 (.idx (.v 1) (.int 1))) (.cons (.set 5 (.idx (.v 1) (.int 2))) (.cons (.set 6 (.idx (.v 1) (.int 3))) (.cons (.set 7 (.bin .add (.bin .add (.dX 2 0 (.v 3)) (.dX 2 0 (.v 4))) (.dX 3 0 (.v 5)))) (.cons (.gx 8 (.bi .range (.cons (.bi .len (.cons (.v 7) .nil)) .nil)) A0) JR)))))⟩
noncomputable def AY:Ss:=(.cons (.set 5 (.idx (.v 2) (.bin .sub (.bin .sub (.bi .len (.cons (.v 2) .nil)) (.int 1)) (.v 4)))) (.cons (.ifs (.cmp .isin (.v 1) (.v 5)) (.cons (.expr (.call 14 (.cons (.cmp .isin (.idx (.idx (.v 5) (.v 1)) (.int 0)) (.v 3)) (.cons (.v 1) .nil)))) (.cons (.ret (.tuple (.cons (.v 4) (.cons (.idx (.v 5) (.v 1)) .nil)))) .nil)) .nil) .nil))
noncomputable def HD:aD:=⟨4,(.cons (.gx 4 (.bi .range (.cons (.bi .len (.cons (.v 2) .nil)) .nil)) AY) (.cons (.raise (.v 1)) .nil))⟩
noncomputable def wN:aD:=⟨3,(.cons (.ifs (.cmp .eq (.idx (.v 1) (.int 0)) (.str [110,97,109,101])) (.cons (.eV [3,4] (.ai (.v 0) 18 (.cons (.idx (.v 1) (.int 1)) (.cons (.v 2) (.cons (.tuple (.cons (.str [105,110,116]) (.cons (.str [114,101,102]) .nil))) .nil))))) (.cons (.expr (.ai (.v 0) 16 (.cons (.tuple (.cons (.ite (.cmp .eq (.idx (.v 4) (.int 0)) (.str [114,101,102])) (.str [108,111,100]) (.str [108,100,97])) (.cons (.v 3) (.cons (.idx (.v 4) (.int 1)) .nil)))) .nil))) .nil)) (.cons (.expr (.call 14 (.cons (.cmp .eq (.idx (.v 1) (.int 0)) (.str [97,116])) (.cons (.str [118,97,114,105,97,98,108,101]) .nil)))) (.cons (.eV [3,4] (.ai (.v 0) 18 (.cons (.idx (.v 1) (.int 1)) (.cons (.v 2) (.cons (.tuple (.cons (.str [97,114,114,97,121]) .nil)) .nil))))) (.cons (.expr (.ai (.v 0) 20 (.cons (.idx (.v 1) (.int 2)) (.cons (.v 2) .nil)))) (.cons (.expr (.ai (.v 0) 16 (.cons (.tuple (.cons (.str [99,104,107]) (.cons (.idx (.v 4) (.int 2)) .nil))) .nil))) (.cons (.expr (.ai (.v 0) 16 (.cons (.tuple (.cons (.str [108,100,97]) (.cons (.v 3) (.cons (.idx (.v 4) (.int 1)) .nil)))) .nil))) (.cons (.expr (.ai (.v 0) 16 (.cons (.tuple (.cons (.str [111,112,114]) (.cons (.str [43]) .nil))) .nil))) .nil))))))) .nil)⟩
noncomputable def JQ:Ss:=(.cons (.expr (.ai (.v 0) 20 (.cons (.v 6) (.cons (.v 2) .nil)))) .nil)
noncomputable def qO:aD:=⟨3,(.cons (.set 3 (.idx (.v 1) (.int 0))) (.cons (.ifs (.cmp .eq (.v 3) (.str [105,110,116])) (.cons (.expr (.ai (.v 0) 16 (.cons (.tuple (.cons (.str [108,105,116]) (.cons (.idx (.v 1) (.int 1)) .nil))) .nil))) .nil) (.cons (.ifs (.cmp .eq (.v 3) (.str [110,97,109,101])) (.cons (.eV [4,5] (.ai (.v 0) 18 (.cons (.idx (.v 1) (.int 1)) (.cons (.v 2) (.cons (.tuple (.cons (.str [105,110,116]) (.cons (.str [114,101,102]) .nil))) .nil))))) (.cons (.expr (.ai (.v 0) 16 (.cons (.tuple (.cons (.str [108,111,100]) (.cons (.v 4) (.cons (.idx (.v 5) (.int 1)) .nil)))) .nil))) (.cons (.ifs (.cmp .eq (.idx (.v 5) (.int 0)) (.str [114,101,102])) (.cons (.expr (.ai (.v 0) 16 (.cons (.tuple (.cons (.str [108,100,105]) .nil)) .nil))) .nil) .nil) .nil))) (.cons (.ifs (.cmp .eq (.v 3) (.str [97,116])) (.cons (.expr (.ai (.v 0) 19 (.cons (.v 1) (.cons (.v 2) .nil)))) (.cons (.expr (.ai (.v 0) 16 (.cons (.tuple (.cons (.str [108,100,105]) .nil)) .nil))) .nil)) (.cons (.gx 6 (.slice (.v 1) (.yes (.int 1)) .no) JQ) (.cons (.expr (.ai (.v 0) 16 (.cons (.tuple (.cons (.str [111,112,114]) (.cons (.v 3) .nil))) .nil))) .nil))) .nil)) .nil)) .nil))⟩
noncomputable def JN:Ss:=(.cons (.expr (.ai (.v 0) 19 (.cons (.ite (.cmp .is (.idx (.v 1) (.int 2)) .none) (.tuple (.cons (.str [110,97,109,101]) (.cons (.idx (.v 1) (.int 1)) .nil))) (.tuple (.cons (.str [97,116]) (.cons (.idx (.v 1) (.int 1)) (.cons (.idx (.v 1) (.int 2)) .nil))))) (.cons (.v 2) .nil)))) (.cons (.expr (.ai (.v 0) 20 (.cons (.idx (.v 1) (.int 3)) (.cons (.v 2) .nil)))) (.cons (.expr (.ai (.v 0) 16 (.cons (.tuple (.cons (.str [115,116,105]) .nil)) .nil))) .nil)))
noncomputable def tT:Ss:=(.cons (.ifs (.idx (.idx (.idx (.v 6) (.int 2)) (.v 7)) (.int 1)) (.cons (.expr (.ai (.v 0) 19 (.cons (.idx (.idx (.v 1) (.int 2)) (.v 7)) (.cons (.v 2) .nil)))) .nil) (.cons (.expr (.ai (.v 0) 20 (.cons (.idx (.idx (.v 1) (.int 2)) (.v 7)) (.cons (.v 2) .nil)))) .nil)) .nil)
noncomputable def JM:Ss:=(.cons (.eV [5,6] (.ai (.v 0) 18 (.cons (.idx (.v 1) (.int 1)) (.cons (.v 2) (.cons (.tuple (.cons (.str [112,114,111,99]) .nil)) .nil))))) (.cons (.expr (.call 14 (.cons (.cmp .eq (.bi .len (.cons (.idx (.v 6) (.int 2)) .nil)) (.bi .len (.cons (.idx (.v 1) (.int 2)) .nil))) (.cons (.str [97,114,103,117,109,101,110,116,115]) .nil)))) (.cons (.gx 7 (.bi .range (.cons (.bi .len (.cons (.idx (.v 1) (.int 2)) .nil)) .nil)) tT) (.cons (.expr (.ai (.v 0) 16 (.cons (.tuple (.cons (.str [116,105,99,107]) .nil)) .nil))) (.cons (.expr (.ai (.v 0) 16 (.cons (.tuple (.cons (.str [99,97,108]) (.cons (.v 5) (.cons (.idx (.v 6) (.int 1)) (.cons (.bi .len (.cons (.idx (.v 1) (.int 2)) .nil)) .nil))))) .nil))) .nil)))))
noncomputable def JL:Ss:=(.cons (.set 8 (.ai (.v 0) 16 (.cons (.tuple (.cons (.str [106,109,112]) (.cons .none .nil))) .nil))) (.cons (.bQ (.attr (.v 0) .code) (.v 7) (.tuple (.cons (.str [106,112,99]) (.cons (.bi .len (.cons (.attr (.v 0) .code) .nil)) .nil)))) (.cons (.expr (.ai (.v 0) 21 (.cons (.idx (.v 1) (.int 3)) (.cons (.v 2) (.cons (.v 3) .nil))))) (.cons (.bQ (.attr (.v 0) .code) (.v 8) (.tuple (.cons (.str [106,109,112]) (.cons (.bi .len (.cons (.attr (.v 0) .code) .nil)) .nil)))) .nil))))
noncomputable def JK:Ss:=(.cons (.expr (.ai (.v 0) 20 (.cons (.idx (.v 1) (.int 1)) (.cons (.v 2) .nil)))) (.cons (.set 7 (.ai (.v 0) 16 (.cons (.tuple (.cons (.str [106,112,99]) (.cons .none .nil))) .nil))) (.cons (.expr (.ai (.v 0) 21 (.cons (.idx (.v 1) (.int 2)) (.cons (.v 2) (.cons (.v 3) .nil))))) (.cons (.ifs (.cmp .uW (.idx (.v 1) (.int 3)) .none) JL (.cons (.bQ (.attr (.v 0) .code) (.v 7) (.tuple (.cons (.str [106,112,99]) (.cons (.bi .len (.cons (.attr (.v 0) .code) .nil)) .nil)))) .nil)) .nil))))
noncomputable def JJ:Ss:=(.cons (.set 9 (.bi .len (.cons (.attr (.v 0) .code) .nil))) (.cons (.expr (.ai (.v 0) 20 (.cons (.idx (.v 1) (.int 1)) (.cons (.v 2) .nil)))) (.cons (.expr (.ai (.v 0) 16 (.cons (.tuple (.cons (.str [116,105,99,107]) .nil)) .nil))) (.cons (.set 7 (.ai (.v 0) 16 (.cons (.tuple (.cons (.str [106,112,99]) (.cons .none .nil))) .nil))) (.cons (.expr (.ai (.v 0) 21 (.cons (.idx (.v 1) (.int 2)) (.cons (.v 2) (.cons (.v 3) .nil))))) (.cons (.expr (.ai (.v 0) 16 (.cons (.tuple (.cons (.str [106,109,112]) (.cons (.v 9) .nil))) .nil))) (.cons (.bQ (.attr (.v 0) .code) (.v 7) (.tuple (.cons (.str [106,112,99]) (.cons (.bi .len (.cons (.attr (.v 0) .code) .nil)) .nil)))) .nil)))))))
noncomputable def JP:Ss:=(.cons (.expr (.ai (.v 0) 21 (.cons (.v 10) (.cons (.v 2) (.cons (.v 3) .nil))))) .nil)
noncomputable def JI:Ss:=(.cons (.set 9 (.bi .len (.cons (.attr (.v 0) .code) .nil))) (.cons (.gx 10 (.idx (.v 1) (.int 1)) JP) (.cons (.expr (.ai (.v 0) 20 (.cons (.idx (.v 1) (.int 2)) (.cons (.v 2) .nil)))) (.cons (.expr (.ai (.v 0) 16 (.cons (.tuple (.cons (.str [116,105,99,107]) .nil)) .nil))) (.cons (.expr (.ai (.v 0) 16 (.cons (.tuple (.cons (.str [106,112,99]) (.cons (.v 9) .nil))) .nil))) .nil)))))
noncomputable def JH:Ss:=(.cons (.expr (.ai (.v 0) 18 (.cons (.idx (.v 1) (.int 1)) (.cons (.v 2) (.cons (.tuple (.cons (.str [105,110,116]) (.cons (.str [114,101,102]) .nil))) .nil))))) (.cons (.expr (.ai (.v 0) 20 (.cons (.idx (.v 1) (.int 2)) (.cons (.v 2) .nil)))) (.cons (.expr (.ai (.v 0) 20 (.cons (.idx (.v 1) (.int 3)) (.cons (.v 2) .nil)))) (.cons (.set 11 (.idx (.v 3) (.int 0))) (.cons (.iT (.v 3) (.int 0) .add (.int 2)) (.cons (.set 9 (.bi .len (.cons (.attr (.v 0) .code) .nil))) (.cons (.expr (.ai (.v 0) 16 (.cons (.tuple (.cons (.str [116,105,99,107]) .nil)) .nil))) (.cons (.expr (.ai (.v 0) 16 (.cons (.tuple (.cons (.str [108,111,100]) (.cons (.int 0) (.cons (.v 11) .nil)))) .nil))) (.cons (.expr (.ai (.v 0) 16 (.cons (.tuple (.cons (.str [108,111,100]) (.cons (.int 0) (.cons (.bin .add (.v 11) (.int 1)) .nil)))) .nil))) (.cons (.expr (.ai (.v 0) 16 (.cons (.tuple (.cons (.str [111,112,114]) (.cons (.ite (.idx (.v 1) (.int 4)) (.str [60,61]) (.str [62,61])) .nil))) .nil))) (.cons (.set 7 (.ai (.v 0) 16 (.cons (.tuple (.cons (.str [106,112,99]) (.cons .none .nil))) .nil))) (.cons (.expr (.ai (.v 0) 19 (.cons (.tuple (.cons (.str [110,97,109,101]) (.cons (.idx (.v 1) (.int 1)) .nil))) (.cons (.v 2) .nil)))) (.cons (.expr (.ai (.v 0) 16 (.cons (.tuple (.cons (.str [108,111,100]) (.cons (.int 0) (.cons (.v 11) .nil)))) .nil))) (.cons (.expr (.ai (.v 0) 16 (.cons (.tuple (.cons (.str [115,116,105]) .nil)) .nil))) (.cons (.expr (.ai (.v 0) 21 (.cons (.idx (.v 1) (.int 5)) (.cons (.v 2) (.cons (.v 3) .nil))))) (.cons (.expr (.ai (.v 0) 16 (.cons (.tuple (.cons (.str [108,111,100]) (.cons (.int 0) (.cons (.v 11) .nil)))) .nil))) (.cons (.expr (.ai (.v 0) 16 (.cons (.tuple (.cons (.str [108,105,116]) (.cons (.int 1) .nil))) .nil))) (.cons (.expr (.ai (.v 0) 16 (.cons (.tuple (.cons (.str [111,112,114]) (.cons (.ite (.idx (.v 1) (.int 4)) (.str [43]) (.str [45])) .nil))) .nil))) (.cons (.expr (.ai (.v 0) 16 (.cons (.tuple (.cons (.str [115,116,111]) (.cons (.int 0) (.cons (.v 11) .nil)))) .nil))) (.cons (.expr (.ai (.v 0) 16 (.cons (.tuple (.cons (.str [106,109,112]) (.cons (.v 9) .nil))) .nil))) (.cons (.bQ (.attr (.v 0) .code) (.v 7) (.tuple (.cons (.str [106,112,99]) (.cons (.bi .len (.cons (.attr (.v 0) .code) .nil)) .nil)))) (.cons (.iT (.v 3) (.int 0) .sub (.int 2)) (.cons (.set 12 (.bi .len (.cons (.attr (.v 0) .code) .nil))) (.cons (.expr (.ai (.v 0) 16 (.cons (.tuple (.cons (.str [106,112,99]) (.cons (.bin .add (.v 12) (.int 1)) .nil))) .nil))) (.cons (.expr (.ai (.v 0) 16 (.cons (.tuple (.cons (.str [106,112,99]) (.cons (.bin .add (.v 12) (.int 2)) .nil))) .nil))) .nil)))))))))))))))))))))))))
noncomputable def JO:Ss:=(.cons (.expr (.ai (.v 0) 21 (.cons (.v 10) (.cons (.v 2) (.cons (.v 3) .nil))))) .nil)
noncomputable def JG:Ss:=(.cons (.expr (.ai (.v 0) 20 (.cons (.idx (.v 1) (.int 1)) (.cons (.v 2) .nil)))) (.cons (.expr (.ai (.v 0) 16 (.cons (.tuple (.cons (.str [119,114,116]) .nil)) .nil))) .nil))
noncomputable def jC:aD:=⟨4,(.cons (.set 4 (.idx (.v 1) (.int 0))) (.cons (.ifs (.cmp .eq (.v 4) (.str [115,101,116])) JN (.cons (.ifs (.cmp .eq (.v 4) (.str [99,97,108,108])) JM (.cons (.ifs (.cmp .eq (.v 4) (.str [105,102])) JK (.cons (.ifs (.cmp .eq (.v 4) (.str [119,104,105,108,101])) JJ (.cons (.ifs (.cmp .eq (.v 4) (.str [114,101,112,101,97,116])) JI (.cons (.ifs (.cmp .eq (.v 4) (.str [102,111,114])) JH (.cons (.ifs (.cmp .eq (.v 4) (.str [98,101,103,105,110])) (.cons (.gx 10 (.idx (.v 1) (.int 1)) JO) .nil) (.cons (.ifs (.cmp .eq (.v 4) (.str [119,114,105,116,101])) JG .nil) .nil)) .nil)) .nil)) .nil)) .nil)) .nil)) .nil)) .nil))⟩
noncomputable def HB:aD:=⟨1,(.cons (.set 1 (.new 1 .nil)) (.cons (.expr (.ai (.v 1) 17 (.cons (.idx (.v 0) (.int 2)) (.cons (.list .nil) (.cons (.tuple .nil) .nil))))) (.cons (.ret (.bi .tuple (.cons (.attr (.v 1) .code) .nil))) .nil)))⟩
noncomputable def AW:E:=(.cmp .gt (.v 2) (.int 0))
noncomputable def AX:Ss:=(.cons (.set 1 (.idx (.v 0) (.v 1))) (.cons (.set 2 (.bin .sub (.v 2) (.int 1))) .nil))
noncomputable def HA:aD:=⟨3,(.cons (.gf AW AX) (.cons (.ret (.v 1)) .nil))⟩
noncomputable def Hz:aD:=⟨3,(.cons (.ifs (.cmp .eq (.v 0) (.str [43])) (.cons (.ret (.bin .add (.v 1) (.v 2))) .nil) .nil) (.cons (.ifs (.cmp .eq (.v 0) (.str [45])) (.cons (.ret (.bin .sub (.v 1) (.v 2))) .nil) .nil) (.cons (.ifs (.cmp .eq (.v 0) (.str [42])) (.cons (.ret (.bin .mul (.v 1) (.v 2))) .nil) .nil) (.cons (.ifs (.any (.cons (.cmp .eq (.v 0) (.str [100,105,118])) (.cons (.cmp .eq (.v 0) (.str [109,111,100])) .nil))) (.cons (.ifs (.cmp .eq (.v 2) (.int 0)) (.cons (.raise (.str [122,101,114,111])) .nil) .nil) (.cons (.set 3 (.bin .fdiv (.bi .abs (.cons (.v 1) .nil)) (.bi .abs (.cons (.v 2) .nil)))) (.cons (.ifs (.cmp .lt (.bin .mul (.v 1) (.v 2)) (.int 0)) (.cons (.set 3 (.neg (.v 3))) .nil) .nil) (.cons (.ifs (.cmp .eq (.v 0) (.str [100,105,118])) (.cons (.ret (.v 3)) .nil) .nil) (.cons (.ret (.bin .sub (.v 1) (.bin .mul (.v 3) (.v 2)))) .nil))))) .nil) (.cons (.ifs (.cmp .eq (.v 0) (.str [61])) (.cons (.ret (.bi .int (.cons (.cmp .eq (.v 1) (.v 2)) .nil))) .nil) .nil) (.cons (.ifs (.cmp .eq (.v 0) (.str [60,62])) (.cons (.ret (.bi .int (.cons (.cmp .ne (.v 1) (.v 2)) .nil))) .nil) .nil) (.cons (.ifs (.cmp .eq (.v 0) (.str [60])) (.cons (.ret (.bi .int (.cons (.cmp .lt (.v 1) (.v 2)) .nil))) .nil) .nil) (.cons (.ifs (.cmp .eq (.v 0) (.str [60,61])) (.cons (.ret (.bi .int (.cons (.cmp .le (.v 1) (.v 2)) .nil))) .nil) .nil) (.cons (.ifs (.cmp .eq (.v 0) (.str [62])) (.cons (.ret (.bi .int (.cons (.cmp .gt (.v 1) (.v 2)) .nil))) .nil) .nil) (.cons (.ret (.bi .int (.cons (.cmp .ge (.v 1) (.v 2)) .nil))) .nil))))))))))⟩
noncomputable def JF:Ss:=(.cons (.set 8 (.bm (.v 2) .pop .nil)) (.cons (.bQ (.v 2) (.bin .add (.call 23 (.cons (.v 2) (.cons (.v 3) (.cons (.idx (.v 6) (.int 1)) .nil)))) (.idx (.v 6) (.int 2))) (.v 8)) .nil))
noncomputable def JE:Ss:=(.cons (.set 8 (.bm (.v 2) .pop .nil)) (.cons (.bQ (.v 2) (.bm (.v 2) .pop .nil) (.v 8)) .nil))
noncomputable def JD:Ss:=(.cons (.set 9 (.idx (.v 6) (.int 1))) (.cons (.ifs (.cmp .eq (.v 9) (.str [110,101,103])) (.cons (.bQ (.v 2) (.neg (.int 1)) (.neg (.idx (.v 2) (.neg (.int 1))))) .nil) (.cons (.ifs (.cmp .eq (.v 9) (.str [111,100,100])) (.cons (.bQ (.v 2) (.neg (.int 1)) (.bin .band (.idx (.v 2) (.neg (.int 1))) (.int 1))) .nil) (.cons (.set 10 (.bm (.v 2) .pop .nil)) (.cons (.set 11 (.bm (.v 2) .pop .nil)) (.cons (.expr (.bm (.v 2) .append (.cons (.call 24 (.cons (.v 9) (.cons (.v 11) (.cons (.v 10) .nil)))) .nil))) .nil)))) .nil)) .nil))
noncomputable def JC:Ss:=(.cons (.set 12 (.idx (.v 6) (.int 3))) (.cons (.set 13 (.bin .sub (.bi .len (.cons (.v 2) .nil)) (.v 12))) (.cons (.set 14 (.call 23 (.cons (.v 2) (.cons (.v 3) (.cons (.idx (.v 6) (.int 1)) .nil))))) (.cons (.fM (.v 2) (.v 13) (.v 13) (.list (.cons (.v 14) (.cons (.v 3) (.cons (.v 4) .nil))))) (.cons (.set 3 (.v 13)) (.cons (.set 4 (.idx (.v 6) (.int 2))) .nil))))))
noncomputable def JB:Ss:=(.cons (.ifs (.cmp .eq (.v 3) (.int 0)) (.cons (.ret (.bi .tuple (.cons (.v 5) .nil))) .nil) .nil) (.cons (.eV [10,15] (.tuple (.cons (.idx (.v 2) (.bin .add (.v 3) (.int 1))) (.cons (.idx (.v 2) (.bin .add (.v 3) (.int 2))) .nil)))) (.cons (.ik (.v 2) (.v 3)) (.cons (.eV [3,4] (.tuple (.cons (.v 10) (.cons (.v 15) .nil)))) .nil))))
noncomputable def JA:Ss:=(.cons (.aug 1 .sub (.int 1)) (.cons (.ifs (.cmp .lt (.v 1) (.int 0)) (.cons (.raise (.str [102,117,101,108])) .nil) .nil) .nil))
noncomputable def AU:E:=(.bool true)
noncomputable def aW:Ss:=(.cons (.set 6 (.idx (.v 0) (.v 4))) (.cons (.aug 4 .add (.int 1)) (.cons (.set 7 (.idx (.v 6) (.int 0))) (.cons (.ifs (.cmp .eq (.v 7) (.str [108,105,116])) (.cons (.expr (.bm (.v 2) .append (.cons (.idx (.v 6) (.int 1)) .nil))) .nil) (.cons (.ifs (.cmp .eq (.v 7) (.str [108,111,100])) (.cons (.expr (.bm (.v 2) .append (.cons (.idx (.v 2) (.bin .add (.call 23 (.cons (.v 2) (.cons (.v 3) (.cons (.idx (.v 6) (.int 1)) .nil)))) (.idx (.v 6) (.int 2)))) .nil))) .nil) (.cons (.ifs (.cmp .eq (.v 7) (.str [108,100,97])) (.cons (.expr (.bm (.v 2) .append (.cons (.bin .add (.call 23 (.cons (.v 2) (.cons (.v 3) (.cons (.idx (.v 6) (.int 1)) .nil)))) (.idx (.v 6) (.int 2))) .nil))) .nil) (.cons (.ifs (.cmp .eq (.v 7) (.str [115,116,111])) JF (.cons (.ifs (.cmp .eq (.v 7) (.str [108,100,105])) (.cons (.expr (.bm (.v 2) .append (.cons (.idx (.v 2) (.bm (.v 2) .pop .nil)) .nil))) .nil) (.cons (.ifs (.cmp .eq (.v 7) (.str [115,116,105])) JE (.cons (.ifs (.cmp .eq (.v 7) (.str [99,104,107])) (.cons (.ifs (.not (.te .le .lt (.int 0) (.idx (.v 2) (.neg (.int 1))) (.idx (.v 6) (.int 1)))) (.cons (.raise (.str [112,108,97,99,101])) .nil) .nil) .nil) (.cons (.ifs (.cmp .eq (.v 7) (.str [111,112,114])) JD (.cons (.ifs (.cmp .eq (.v 7) (.str [106,109,112])) (.cons (.set 4 (.idx (.v 6) (.int 1))) .nil) (.cons (.ifs (.cmp .eq (.v 7) (.str [106,112,99])) (.cons (.ifs (.cmp .eq (.bm (.v 2) .pop .nil) (.int 0)) (.cons (.set 4 (.idx (.v 6) (.int 1))) .nil) .nil) .nil) (.cons (.ifs (.cmp .eq (.v 7) (.str [105,110,116])) (.cons (.aug 2 .add (.bin .mul (.list (.cons (.int 0) .nil)) (.idx (.v 6) (.int 1)))) .nil) (.cons (.ifs (.cmp .eq (.v 7) (.str [99,97,108])) JC (.cons (.ifs (.cmp .eq (.v 7) (.str [114,101,116])) JB (.cons (.ifs (.cmp .eq (.v 7) (.str [119,114,116])) (.cons (.expr (.bm (.v 5) .append (.cons (.bm (.v 2) .pop .nil) .nil))) .nil) (.cons (.ifs (.cmp .eq (.v 7) (.str [116,105,99,107])) JA .nil) .nil)) .nil)) .nil)) .nil)) .nil)) .nil)) .nil)) .nil)) .nil)) .nil)) .nil)) .nil)) .nil)) .nil)) .nil))))
noncomputable def Hy:aD:=⟨2,(.cons (.set 2 (.list (.cons (.int 0) (.cons (.int 0) (.cons (.int 0) .nil))))) (.cons (.set 3 (.int 0)) (.cons (.set 4 (.int 0)) (.cons (.set 5 (.list .nil)) (.cons (.gf AU aW) .nil)))))⟩
noncomputable def Hx:aD:=⟨2,(.cons (.ret (.call 25 (.cons (.call 22 (.cons (.call 13 (.cons (.v 0) .nil)) .nil)) (.cons (.v 1) .nil)))) .nil)⟩
noncomputable def GD:Nat->Option aD
 | 0=>some P7
 | 1=>some PZ
 | 2=>some PY
 | 3=>some PX
 | 4=>some PW
 | 5=>some PV
 | 6=>some TQ
 | 7=>some TP
 | 8=>some PU
 | 9=>some PR
 | 10=>some HL
 | 11=>some HK
 | 12=>some HJ
 | 13=>some HI
 | 14=>some HH
 | 15=>some HG
 | 16=>some HF
 | 17=>some HE
 | 18=>some HD
 | 19=>some wN
 | 20=>some qO
 | 21=>some jC
 | 22=>some HB
 | 23=>some HA
 | 24=>some Hz
 | 25=>some Hy
 | 26=>some Hx
 | _=>Option.none
end Mine.Internal
namespace Mine.Internal.P
noncomputable def words:List Tx:=[[112,114,111,103,114,97,109],[118,97,114],[105,110,116,101,103,101,114],[97,114,114,97,121],[111,102],[112,114,111,99,101,100,117,114,101],[98,101,103,105,110],[101,110,100],[105,102],[116,104,101,110],[101,108,115,101],[119,104,105,108,101],[100,111],[114,101,112,101,97,116],[117,110,116,105,108],[102,111,114],[116,111],[100,111,119,110,116,111],[119,114,105,116,101],[100,105,118],[109,111,100],[111,100,100]]
noncomputable def MB:List Tx:=[[61],[60,62],[60],[60,61],[62],[62,61]]
noncomputable def v3:Nat->Option Nat
 | 0=>none
 | 1 | 2 | 3 | 4 | 5 | 6 | 7 | 8 | 9 | 10 | 11 | 12=>some 0
 | 15 | 16 | 17 | 18 | 19 | 20 | 21=>some 1
 | _=>none
structure Core (T:aQ)(D:Nat->Option aD):Prop where
 d:∀ k,k<27->D k=GD k
 c:∀ k,k<27->T.bX k=v3 k
 g0:T.glob 0=some (.jr (words.map .str))
 g1:T.glob 1=some (.tup (MB.map .str))
 i0:T.init 0=some 1
 i1:T.init 1=some 15
set_option genCtorIdx true in
inductive Tok where
 | word (w:Tx) | name (w:Tx) | int (n:Nat) | fin
noncomputable def uU:Tx:=[119,111,114,100]
noncomputable def ke:Tx:=[110,97,109,101]
noncomputable def ly:Tx:=[105,110,116]
noncomputable def Mh:Tx:=[101,110,100]
noncomputable def Tok.av:Tok->AV
 | .word w=>.tup [.str uU,.str w]
 | .name w=>.tup [.str ke,.str w]
 | .int n=>.tup [.str ly,.int n]
 | .fin=>.tup [.str Mh,.str []]
def PS (J:ae)(r t:Nat)(rest:List Tok):Prop:=
 ∃ ts p,J[r]?=some (.inst 0 [(.ts,.obj t),(.pos,.int (p:Nat))])∧J[t]?=some (.list ts)∧ts.drop p=rest.map Tok.av
def au (r:Nat)(J J':ae):Prop:=J.length<=J'.length∧∀ i,i≠r->i<J.length->J'[i]?=J[i]?
theorem au.refl (r:Nat)(J:ae):au r J J:=⟨Aj _,fun _ _ _=>rfl⟩
theorem au.trans {r:Nat}{a b c:ae}(h:au r a b)(h':au r b c):au r a c:=
 ⟨Aa h.1 h'.1,fun i hi hl=>by rw [h'.2 i hi (An hl h.1),h.2 i hi hl]⟩
section
variable {T:aQ}{D:Nat->Option aD}
theorem PS.head {J:ae}{r t:Nat}{k:Tok}{rest:List Tok}(h:PS J r t (k::rest)):∃ ts p,J[r]?=some (.inst 0 [(.ts,.obj t),(.pos,.int (p:Nat))])∧J[t]?=some (.list ts)∧ts[p]?=some k.av∧p<ts.length∧ts.drop (p+1)=rest.map Tok.av:=by
 obtain ⟨ts,p,h1,h2,h3⟩:=h;have h4:(ts.drop p)[0]?=some k.av:=by rw [h3]; rfl
 rw [List.getElem?_drop] at h4;simp only [Nat.add_zero] at h4;have h5:p<ts.length:=(Ai h4).1;refine ⟨ts,p,h1,h2,h4,h5,?_⟩;have:ts.drop (p+1)=(ts.drop p).drop 1:=by rw [List.drop_drop]
 rw [this,h3]; rfl
theorem bc {p n:Nat}(h:p<n):dQ (p:Int) n=some p:=by
 unfold dQ;rw [if_pos (Av p),if_pos (Int.ofNat_lt.mpr h)]; rfl
theorem aa {e:Ev}{i:Nat}{a:AV}{P:AV->Prop}(h:e i=some a)(p:P a):qK e i P:=by
 unfold qK; rw [h]; exact p
theorem aX {b:Bool}{A B:Prop}(h1:b=true->A)(h2:b=false->B):qE (.bool b) A B:=by
 cases b
 ·exact h2 rfl
 ·exact h1 rfl
theorem jJ {b:Bool}{A B:Prop}(h1:b=true->B)(h2:b=false->A):qE (.bool (!b)) A B:=by
 cases b
 ·exact h2 rfl
 ·exact h1 rfl
theorem iR {b:Bool}{A:Prop}(h:b=true)(a:A):kF b A:=by rw [h]; exact a
theorem ip {J:ae}{r c:Nat}{fs:List (At×AV)}{x:At}{v:AV}{Q:AV->Prop}(h1:J[r]?=some (.inst c fs))(h2:fs.lookup x=some v)(h3:tN v=true)(q:Q v):gk (.obj r) x J Q:=by
 unfold gk; exact ⟨_,_,_,_,rfl,h1,h2,h3,q⟩
theorem pA {J:ae}{r c:Nat}{fs:List (At×AV)}{x:At}{v:AV}{Q:QX}(h1:J[r]?=some (.inst c fs))(q:Q (J.set r (.inst c (ny x v fs)))):dt (.obj r) x v J Q:=by
 unfold dt; exact ⟨_,_,_,rfl,h1,q⟩
theorem ag {J:ae}{r:Nat}{l:List AV}{Q:List AV->Prop}(h1:J[r]?=some (.list l))(q:Q l):cQ r J Q:=by
 unfold cQ; exact ⟨_,h1,q⟩
theorem aq {α:Type}{o:Option α}{a:α}{P:α->Prop}(h:o=some a)(p:P a):dn o P:=by
 unfold dn; rw [h]; exact p
theorem jK {J:ae}{r k:Nat}{l:List AV}{i:Int}{v:AV}{Q:AV->Prop}(h1:J[r]?=some (.list l))(h2:dQ i l.length=some k)(h3:l[k]?=some v)(q:Q v):iJ (.obj r) (.int i) J Q:=ag h1 (aq h2 (aq h3 q))
theorem Gz {a b:AV}{c:Bool}{Q:Bool->Prop}(h1:oZ a b=some c)(h2:Nat.ble a.depth 100=true)(q:Q c):LL a b Q:=by
 unfold LL; rw [h1,h2]; exact q
theorem lO {Q:Bool->Prop}(q:Q true):eN .none Q:=by unfold eN; exact q
theorem tM {i:Int}{Q:Bool->Prop}(q:Q false):eN (.int i) Q:=by unfold eN; exact q
theorem iu:∀ l:Tx,aB l l=true
 | []=>rfl
 | a::l=>by show (Nat.beq a a&&aB l l)=true; rw [Nat.beq_refl,iu l]; rfl
theorem eP:∀ {l r:Tx},aB l r=true->l=r
 | [],[],_=>rfl
 | a::l,b::r,h=>by
  have h:=Ab (show (Nat.beq a b&&aB l r)=true from h);rw [As h.1,eP h.2]
noncomputable def Tok.is (w:Tx):Tok->Bool
 | .word v=>aB v w
 | _=>false
theorem BK {k:Tok}{w:Tx}:oZ k.av (.tup [.str uU,.str w])=some (k.is w):=by
 cases k with
 | word u=>exact congrArg some (Bool.and_true _)
 | _=>rfl
theorem E5 {k:Tok}:Nat.ble k.av.depth 100=true:=by cases k<;>rfl
theorem GI {k:Nat}(h:Nat.blt k 27=true):k<27:=Ad h
theorem Core.dk (K:Core T D)(k:Nat){d:aD}(h:Nat.blt k 27=true)(h':GD k=some d):D k=some d:=(K.d k (GI h)).trans h'
theorem Core.ck (K:Core T D)(k:Nat){o:Option Nat}(h:Nat.blt k 27=true)(h':v3 k=o):T.bX k=o:=(K.c k (GI h)).trans h'
theorem fY {J:ae}{r t:Nat}{k:Tok}{rest:List Tok}{P:AV->Prop}(h:PS J r t (k::rest))(q:P k.av):gk (.obj r) .ts J (fun v=>gk (.obj r) .pos J fun p=>iJ v p J P):=by
 obtain ⟨ts,p,h1,h2,h3,h4,h5⟩:=h.head;exact ip h1 rfl rfl (ip h1 rfl rfl (jK h2 (bc h4) h3 q))
theorem BP {J:ae}{r t:Nat}{k:Tok}{rest:List Tok}{P:AV->Prop}{e:Ev}(h0:e 0=some (.obj r))(h:PS J r t (k::rest))(q:P k.av):gk (.obj r) .ts J (fun v=>qK e 0 fun o=>gk o .pos J fun p=>iJ v p J P):=by
 obtain ⟨ts,p,h1,h2,h3,h4,h5⟩:=h.head;exact ip h1 rfl rfl (aa h0 (ip h1 rfl rfl (jK h2 (bc h4) h3 q)))
theorem zD (K:Core T D){n r t:Nat}{w:Tx}{J:ae}{Q:QV}{X:QX}{k:Tok}{rest:List Tok}(h:PS J r t (k::rest))(q:Q (.bool (k.is w)) J) :
  aj T D (n+1) 2 [.obj r,.str w] J Q X:=by
 refine ⟨PY,K.dk 2 rfl rfl,rfl,?_⟩;refine fY h ?_;exact Gz BK E5 q
theorem PS.step {J:ae}{r t p:Nat}{ts:List AV}{rest:List Tok}(h1:J[r]?=some (.inst 0 [(.ts,.obj t),(.pos,.int (p:Nat))]))(h2:J[t]?=some (.list ts))(h5:ts.drop (p+1)=rest.map Tok.av) :
  PS (J.set r (.inst 0 [(.ts,.obj t),(.pos,.int ((p:Int)+1))])) r t rest∧au r J (J.set r (.inst 0 [(.ts,.obj t),(.pos,.int ((p:Int)+1))])):=by
 have hl:r<J.length:=(Ai h1).1;have fG:r≠t:=by rintro rfl; rw [h1] at h2; cases h2
 refine ⟨⟨ts,p+1,?_,?_,h5⟩,by simp,fun i hi _=>?_⟩
 ·rw [List.getElem?_set_self hl]; rfl
 ·rw [List.getElem?_set_ne fG,h2]
 ·rw [List.getElem?_set_ne (Ne.symm hi)]
theorem tZ {J:ae}{r t:Nat}{k:Tok}{rest:List Tok}{P:ae->Prop}(h:PS J r t (k::rest))(q:∀ J',PS J' r t rest->au r J J'->P J'):gk (.obj r) .pos J (fun v=>lC .add v (.int 1) J fun w J=>dt (.obj r) .pos w J P):=by
 obtain ⟨ts,p,h1,h2,h3,h4,h5⟩:=h.head;obtain ⟨a,b⟩:=PS.step h1 h2 h5;exact ip h1 rfl rfl (pA h1 (q _ a b))
theorem pm {J:ae}{r t f:Nat}{ts:List Tok}{P:Nat->Prop}(h:PS J r t ts)(hc:T.bX f=some 0)(hp:P r):bG T f (.obj r) J P:=by
 obtain ⟨l,p,h1,_⟩:=h;unfold bG;exact ⟨_,_,_,rfl,h1,hc,hp⟩
theorem J0 (K:Core T D){n r t:Nat}{w:Tx}{J:ae}{Q:QV}{X:QX}{k:Tok}{rest:List Tok}(h:PS J r t (k::rest))
  (q1:k.is w=true->∀ J',PS J' r t rest->au r J J'->Q (.bool true) J') (q2:k.is w=false->Q (.bool false) J) :
  aj T D (n+2) 4 [.obj r,.str w] J Q X:=by
 refine ⟨PW,K.dk 4 rfl rfl,rfl,?_⟩;refine pm h (K.ck 2 rfl rfl) ?_;refine zD K h ?_;refine aX (fun hk=>?_) fun hk=>?_
 ·refine tZ h ?_;exact q1 hk
 ·exact q2 hk
theorem DI (K:Core T D){n r t:Nat}{w:Tx}{J:ae}{Q:QV}{X:QX}{k:Tok}{rest:List Tok}(h:PS J r t (k::rest))
  (q1:k.is w=true->∀ J',PS J' r t rest->au r J J'->Q .none J') (q2:k.is w=false->∀ J',X J') :
  aj T D (n+2) 3 [.obj r,.str w] J Q X:=by
 refine ⟨PX,K.dk 3 rfl rfl,rfl,?_⟩;refine pm h (K.ck 2 rfl rfl) ?_;refine zD K h ?_;refine jJ (fun hk=>?_) fun hk=>?_
 ·refine tZ h ?_;exact q1 hk
 ·refine fY h ?_;exact q2 hk _
noncomputable def Tok.kind:Tok->Tx
 | .word _=>uU | .name _=>ke | .int _=>ly | .fin=>Mh
noncomputable def Tok.val:Tok->AV
 | .word w=>.str w | .name w=>.str w | .int n=>.int n | .fin=>.str []
theorem Tok.Of (k:Tok):k.av=.tup [.str k.kind,k.val]:=by cases k<;>rfl
theorem jc (K:Core T D){n r t:Nat}{w:Tx}{J:ae}{Q:QV}{X:QX}{k:Tok}{rest:List Tok}(h:PS J r t (k::rest))
  (q1:aB k.kind w=true->∀ J',PS J' r t rest->au r J J'->Q k.val J') (q2:aB k.kind w=false->∀ J',X J') :
  aj T D (n+1) 5 [.obj r,.str w] J Q X:=by
 refine ⟨PV,K.dk 5 rfl rfl,rfl,?_⟩;refine fY h ?_;rw [k.Of];refine jJ (fun hk=>?_) fun hk=>?_
 ·refine tZ h ?_;exact q1 hk
 ·refine fY h ?_;exact q2 hk _
end
set_option genCtorIdx true in
set_option genInjectivity true in
inductive R (α:Type) where
 | ok (a:α) | err | bot
noncomputable def R.bind {α β:Type}(m:R α)(f:α->R β):R β:=match m with
 | .ok a=>f a
 | .err=>.err
 | .bot=>.bot
inductive Ex where
 | int (n:Nat) | name (x:Tx) | at (x:Tx) (e:Ex) | neg (e:Ex) | odd (e:Ex) | bin (op:Tx) (a b:Ex)
noncomputable def OO:Tx:=[97,116]
noncomputable def ta:Tx:=[110,101,103]
noncomputable def qN:Tx:=[111,100,100]
noncomputable def Ex.av:Ex->AV
 | .int n=>.tup [.str ly,.int n]
 | .name x=>.tup [.str ke,.str x]
 | .at x e=>.tup [.str OO,.str x,e.av]
 | .neg e=>.tup [.str ta,e.av]
 | .odd e=>.tup [.str qN,e.av]
 | .bin o a b=>.tup [.str o,a.av,b.av]
inductive St where
 | empty
 | set (x:Tx) (e:Ex)
 | setAt (x:Tx) (i e:Ex)
 | call (x:Tx) (as:List Ex)
 | if1 (c:Ex) (a:St)
 | if2 (c:Ex) (a b:St)
 | gf (c:Ex) (a:St)
 | rep (s:St) (c:Ex)
 | for (x:Tx) (a b:Ex) (up:Bool) (s:St)
 | nk (s:St)
 | write (e:Ex)
  | one (s:St)
 | seq (s:St) (r:St)
noncomputable def IG:Tx:=[101,109,112,116,121]
noncomputable def L3:Tx:=[115,101,116]
noncomputable def FX:Tx:=[99,97,108,108]
noncomputable def PF:Tx:=[105,102]
noncomputable def zU:Tx:=[119,104,105,108,101]
noncomputable def vg:Tx:=[114,101,112,101,97,116]
noncomputable def L4:Tx:=[102,111,114]
noncomputable def iN:Tx:=[98,101,103,105,110]
noncomputable def zT:Tx:=[119,114,105,116,101]
mutual
noncomputable def St.av:St->AV
 | .empty=>.tup [.str IG]
 | .set x e=>.tup [.str L3,.str x,.none,e.av]
 | .setAt x i e=>.tup [.str L3,.str x,i.av,e.av]
 | .call x as=>.tup [.str FX,.str x,.tup (as.map Ex.av)]
 | .if1 c a=>.tup [.str PF,c.av,a.av,.none]
 | .if2 c a b=>.tup [.str PF,c.av,a.av,b.av]
 | .gf c a=>.tup [.str zU,c.av,a.av]
 | .rep s c=>.tup [.str vg,.tup s.row,c.av]
 | .for x a b up s=>.tup [.str L4,.str x,a.av,b.av,.bool up,s.av]
 | .nk s=>.tup [.str iN,.tup s.row]
 | .write e=>.tup [.str zT,e.av]
 | .one s=>.none
 | .seq s r=>.none
noncomputable def St.row:St->List AV
 | .one s=>[s.av]
 | .seq s r=>s.av::r.row
 | _=>[]
end
noncomputable def bV:St->List St->St
 | s,[]=>.one s
 | s,x::q=>.seq s (bV x q)
theorem oD:∀ (q:List St) (s:St),(bV s q).row=s.av::q.map St.av
 | [],_=>rfl
 | x::q,s=>congrArg (s.av::·) (oD q x)
inductive Bl where
 | mk (vs:List (Tx×Option Nat)) (ps:Bl) (ss:St)
 | nil
 | proc (x:Tx) (params:List (Tx×Bool)) (b:Bl) (rest:Bl)
noncomputable def Dj:Option Nat->AV
 | Option.none=>.none
 | some n=>.int n
noncomputable def uC (v:Tx×Option Nat):AV:=.tup [.str v.1,Dj v.2]
noncomputable def oU (p:Tx×Bool):AV:=.tup [.str p.1,.bool p.2]
noncomputable def IH:Tx:=[98,108,111,99,107]
mutual
noncomputable def Bl.av:Bl->AV
 | .mk vs ps ss=>.tup [.str IH,.tup (vs.map uC),.tup ps.procs,.tup ss.row]
 | .nil=>.none
 | .proc ..=>.none
noncomputable def Bl.procs:Bl->List AV
 | .proc x q b r=>.tup [.str x,.tup (q.map oU),b.av]::r.procs
 | _=>[]
end
noncomputable def aY:Nat:=400
section
variable {α:Type}
noncomputable def cR (w:Tx)(ts:List Tok)(yes:List Tok->R α)(no:R α):R α:=match ts with
 | []=>.bot
 | k::rest=>match k.is w with
  | true=>yes rest
  | false=>no
noncomputable def aJ (w:Tx)(ts:List Tok)(next:List Tok->R α):R α:=match ts with
 | []=>.bot
 | k::rest=>match k.is w with
  | true=>next rest
  | false=>.err
noncomputable def fL (ts:List Tok)(next:Tx->List Tok->R α):R α:=match ts with
 | []=>.bot
 | .name x::rest=>next x rest
 | _::_=>.err
noncomputable def Di (ts:List Tok)(next:Nat->List Tok->R α):R α:=match ts with
 | []=>.bot
 | .int x::rest=>next x rest
 | _::_=>.err
noncomputable def uR (ts:List Tok)(next:Tx->List Tok->R α):R α:=match ts with
 | []=>.bot
 | .word x::rest=>next x rest
 | _::_=>.err
end
abbrev PE:=R (Ex×List Tok)
noncomputable def nT:Tx:=[43]
noncomputable def gK:Tx:=[45]
noncomputable def C9:Tx:=[42]
noncomputable def Hf:Tx:=[100,105,118]
noncomputable def Dc:Tx:=[109,111,100]
noncomputable def nU:Tx:=[40]
noncomputable def jF:Tx:=[41]
noncomputable def lh:Tx:=[91]
noncomputable def Dd:Tx:=[93]
noncomputable def isAdd (w:Tx):Bool:=aB w nT||aB w gK
noncomputable def isMul (w:Tx):Bool:=aB w C9||aB w Hf||aB w Dc
noncomputable def lB (w:Tx):Bool:=aG w (MB.map .str)
noncomputable def dM (p:Tx->Bool)(sub:List Tok->PE):Nat->Ex->List Tok->PE
 | 0,_,_=>.bot
 | g+1,e,ts=>match ts with
  | []=>.bot
  | .word w::rest=>(match p w with
   | true=>(sub rest).bind fun q=>dM p sub g (.bin w e q.1) q.2
   | false=>.ok (e,ts))
  | _::_=>.ok (e,ts)
noncomputable def iD (nj:List Tok->PE)(ts:List Tok):PE:=(nj ts).bind fun q=>dM isMul nj aY q.1 q.2
noncomputable def jG (nj:List Tok->PE)(ts:List Tok):PE:=(iD nj ts).bind fun q=>dM isAdd (iD nj) aY q.1 q.2
noncomputable def de:Nat->List Tok->PE
 | 0,_=>.bot
 | d+1,ts=>cR gK ts (fun r=>(de d r).bind fun q=>.ok (.neg q.1,q.2)) <|
  cR nU ts (fun r=>(jG (de d) r).bind fun q=>aJ jF q.2 fun r=>.ok (q.1,r)) <|
  match ts with
  | []=>.bot
  | .int n::r=>.ok (.int n,r)
  | .name x::r=>cR lh r (fun r=>(jG (de d) r).bind fun q=>aJ Dd q.2 fun r=>.ok (.at x q.1,r)) (.ok (.name x,r))
  | _::_=>.err
noncomputable def dE:Nat:=12
noncomputable def cT (ts:List Tok):PE:=jG (de dE) ts
noncomputable def qU (ts:List Tok):PE:=
 cR qN ts (fun r=>aJ nU r fun r=>(cT r).bind fun q=>aJ jF q.2 fun r=>.ok (.odd q.1,r)) <|
 (cT ts).bind fun a=>uR a.2 fun s r=>match lB s with
  | true=>(cT r).bind fun b=>.ok (.bin s a.1 b.1,b.2)
  | false=>.err
abbrev PT:=R (St×List Tok)
noncomputable def MZ:Tx:=[116,104,101,110]
noncomputable def M1:Tx:=[101,108,115,101]
noncomputable def Te:Tx:=[100,111]
noncomputable def Ia:Tx:=[117,110,116,105,108]
noncomputable def nu:Tx:=[58,61]
noncomputable def Vj:Tx:=[116,111]
noncomputable def DJ:Tx:=[100,111,119,110,116,111]
noncomputable def gF:Tx:=[101,110,100]
noncomputable def pg:Tx:=[44]
noncomputable def bJ:Tx:=[59]
noncomputable def Ib:Tx:=[58]
noncomputable def cH (st:List Tok->PT):Nat->List Tok->R (List St×List Tok)
 | 0,_=>.bot
 | g+1,ts=>cR bJ ts (fun r=>(st r).bind fun s=>(cH st g s.2).bind fun q=>.ok (s.1::q.1,q.2)) (.ok ([],ts))
noncomputable def yI (st:List Tok->PT)(ts:List Tok):PT:=(st ts).bind fun s=>(cH st aY s.2).bind fun q=>.ok (bV s.1 q.1,q.2)
noncomputable def jH:Nat->List Tok->R (List Ex×List Tok)
 | 0,_=>.bot
 | g+1,ts=>cR pg ts (fun r=>(cT r).bind fun e=>(jH g e.2).bind fun q=>.ok (e.1::q.1,q.2)) (.ok ([],ts))
noncomputable def zf (ts:List Tok):R (List Ex×List Tok):=
 cR nU ts (fun r=>(cT r).bind fun e=>(jH aY e.2).bind fun q=>aJ jF q.2 fun r=>.ok (e.1::q.1,r)) (.ok ([],ts))
noncomputable def p9 (st:List Tok->PT)(x:Tx)(a:Ex)(up:Bool)(ts:List Tok):PT:=
 (cT ts).bind fun b=>aJ Te b.2 fun r=>(st r).bind fun s=>.ok (.for x a b.1 up s.1,s.2)
noncomputable def bj:Nat->List Tok->PT
 | 0,_=>.bot
 | d+1,ts=>
  cR PF ts (fun r=>(qU r).bind fun c=>aJ MZ c.2 fun r=>(bj d r).bind fun a=>
   cR M1 a.2 (fun r=>(bj d r).bind fun b=>.ok (.if2 c.1 a.1 b.1,b.2)) (.ok (.if1 c.1 a.1,a.2))) <|
  cR zU ts (fun r=>(qU r).bind fun c=>aJ Te c.2 fun r=>(bj d r).bind fun a=>.ok (.gf c.1 a.1,a.2)) <|
  cR vg ts (fun r=>(yI (bj d) r).bind fun s=>aJ Ia s.2 fun r=>(qU r).bind fun c=>.ok (.rep s.1 c.1,c.2)) <|
  cR L4 ts (fun r=>fL r fun x r=>aJ nu r fun r=>(cT r).bind fun a=>
   cR Vj a.2 (fun r=>p9 (bj d) x a.1 true r) (aJ DJ a.2 fun r=>p9 (bj d) x a.1 false r)) <|
  cR iN ts (fun r=>(yI (bj d) r).bind fun s=>aJ gF s.2 fun r=>.ok (.nk s.1,r)) <|
  cR zT ts (fun r=>aJ nU r fun r=>(cT r).bind fun e=>aJ jF e.2 fun r=>.ok (.write e.1,r)) <|
  match ts with
  | []=>.bot
  | .name x::r=>
   cR nu r (fun r=>(cT r).bind fun e=>.ok (.set x e.1,e.2)) <|
   cR lh r (fun r=>(cT r).bind fun i=>aJ Dd i.2 fun r=>aJ nu r fun r=>(cT r).bind fun e=>.ok (.setAt x i.1 e.1,e.2)) <|
   (zf r).bind fun q=>.ok (.call x q.1,q.2)
  | _::_=>.ok (.empty,ts)
noncomputable def dS:Nat:=14
noncomputable def iO (ts:List Tok):PT:=yI (bj dS) ts
noncomputable def wz:Tx:=[118,97,114]
noncomputable def ph:Tx:=[97,114,114,97,121]
noncomputable def Vl:Tx:=[111,102]
noncomputable def Bu:Tx:=[105,110,116,101,103,101,114]
noncomputable def M0:Tx:=[112,114,111,99,101,100,117,114,101]
noncomputable def wProgram:Tx:=[112,114,111,103,114,97,109]
noncomputable def nv:Tx:=[46]
noncomputable def kU:Nat->List Tok->R (List Tx×List Tok)
 | 0,_=>.bot
 | g+1,ts=>cR pg ts (fun r=>fL r fun x r=>(kU g r).bind fun q=>.ok (x::q.1,q.2)) (.ok ([],ts))
noncomputable def lL (xs:List Tx)(z:Option Nat)(ts:List Tok):R (List (Tx×Option Nat)×List Tok):=
 aJ Bu ts fun r=>aJ bJ r fun r=>.ok (xs.map fun x=>(x,z),r)
noncomputable def F7 (ts:List Tok):R (List (Tx×Option Nat)×List Tok):=
 fL ts fun x r=>(kU aY r).bind fun q=>aJ Ib q.2 fun r=>
  cR ph r (fun r=>aJ lh r fun r=>Di r fun n r=>aJ Dd r fun r=>aJ Vl r fun r=>lL (x::q.1) (some n) r) (lL (x::q.1) Option.none r)
noncomputable def gh:Nat->List Tok->R (List (Tx×Option Nat)×List Tok)
 | 0,_=>.bot
 | g+1,ts=>(F7 ts).bind fun v=>match v.2 with
  | []=>.bot
  | .name _::_=>(gh g v.2).bind fun q=>.ok (v.1++q.1,q.2)
  | _::_=>.ok (v.1,v.2)
noncomputable def ja:Nat->List Tok->R (List (Tx×Bool)×List Tok)
 | 0,_=>.bot
 | g+1,ts=>
  let more:=fun (p:Tx×Bool) r=>cR pg r (fun r=>(ja g r).bind fun q=>.ok (p::q.1,q.2)) (.ok ([p],r))
  cR wz ts (fun r=>fL r fun x r=>more (x,true) r) (fL ts fun x r=>more (x,false) r)
abbrev PB:=R (Bl×List Tok)
noncomputable def lK (jt:List Tok->PB)(x:Tx)(ps:List (Tx×Bool))(ts:List Tok):R ((Tx×List (Tx×Bool)×Bl)×List Tok):=
 aJ bJ ts fun r=>(jt r).bind fun b=>aJ bJ b.2 fun r=>.ok ((x,ps,b.1),r)
noncomputable def dG (jt:List Tok->PB):Nat->List Tok->PB
 | 0,_=>.bot
 | g+1,ts=>cR M0 ts (fun r=>fL r fun x r=>
   (cR nU r (fun r=>(ja aY r).bind fun q=>aJ jF q.2 fun r=>lK jt x q.1 r) (lK jt x [] r)).bind fun p=>
   (dG jt g p.2).bind fun q=>.ok (.proc p.1.1 p.1.2.1 p.1.2.2 q.1,q.2)) (.ok (.nil,ts))
noncomputable def kW (jt:List Tok->PB)(vs:List (Tx×Option Nat))(ts:List Tok):PB:=
 (dG jt aY ts).bind fun p=>aJ iN p.2 fun r=>(iO r).bind fun s=>aJ gF s.2 fun r=>.ok (.mk vs p.1 s.1,r)
noncomputable def dH:Nat->List Tok->PB
 | 0,_=>.bot
 | d+1,ts=>cR wz ts (fun r=>(gh aY r).bind fun v=>kW (dH d) v.1 v.2) (kW (dH d) [] ts)
noncomputable def dB:Nat:=6
noncomputable def jg (ts:List Tok):R (Tx×Bl):=
 aJ wProgram ts fun r=>fL r fun x r=>aJ bJ r fun r=>(dH dB r).bind fun b=>aJ nv b.2 fun r=>match r with
  | []=>.bot
  | .fin::_=>.ok (x,b.1)
  | _::_=>.err
def b8 {α:Type}(enc:α->AV)(res:R (α×List Tok))(r t:Nat)(J₀:ae)(Q:QV)(X:QX):Prop:=match res with
 | .ok q=>∀ J',PS J' r t q.2->au r J₀ J'->Q (enc q.1) J'
 | .err=>∀ J',X J'
 | .bot=>False
structure Ends {β:Type}(G:R β->Prop)(X:QX):Prop where
 err:G .err->∀ J',X J'
 bot:¬ G .bot
theorem b8.ends {α:Type}{enc:α->AV}{r t:Nat}{J₀:ae}{Q:QV}{X:QX}:Ends (fun res=>b8 enc res r t J₀ Q X) X:=⟨fun h=>h,fun h=>h⟩
theorem b8.of {α β:Type}{enc:α->AV}{m:R (α×List Tok)}{f:α×List Tok->R β}{G:R β->Prop}{r t:Nat}{J:ae}{Q:QV}{X:QX}(E:Ends G X)(h:G (m.bind f))
  (c:∀ q J',PS J' r t q.2->au r J J'->G (f q)->Q (enc q.1) J'):b8 enc m r t J Q X:=by
 cases m with
 | ok q=>exact fun J' h1 h2=>c q J' h1 h2 h
 | err=>exact E.err h
 | bot=>exact (E.bot h).elim
section
variable {T:aQ}{D:Nat->Option aD}
theorem ge1 {n:Nat}(h:1<=n):∃ m,n=m+1:=⟨n-1,(Nat.sub_add_cancel h).symm⟩
theorem O8 {n:Nat}(h:2<=n):∃ m,n=m+2:=⟨n-2,(Nat.sub_add_cancel h).symm⟩
section
variable {β:Type}{G:R β->Prop}{n r t:Nat}{w:Tx}{J:ae}{Q:QV}{X:QX}{ts:List Tok}
theorem vD {α:Type}{w:Tx}{k:Tok}{rest:List Tok}{yes:List Tok->R α}{no:R α}{b:Bool}(e:k.is w=b):cR w (k::rest) yes no=match (generalizing:=false) b with
  | true=>yes rest
  | false=>no:=by subst e; rfl
theorem rF {α:Type}{w:Tx}{k:Tok}{rest:List Tok}{yes:List Tok->R α}{b:Bool}(e:k.is w=b):aJ w (k::rest) yes=match (generalizing:=false) b with
  | true=>yes rest
  | false=>.err:=by subst e; rfl
theorem rG {p:Tx->Bool}{sub:List Tok->PE}{g:Nat}{x:Ex}{w:Tx}{rest:List Tok}{b:Bool}(e:p w=b):dM p sub (g+1) x (.word w::rest)=match (generalizing:=false) b with
  | true=>(sub rest).bind fun q=>dM p sub g (.bin w x q.1) q.2
  | false=>.ok (x,.word w::rest):=by subst e; rfl
theorem bf (K:Core T D)(E:Ends G X)(hn:2<=n)(ps:PS J r t ts){yes:List Tok->R β}{no:R β}(h:G (cR w ts yes no))
  (q1:∀ rest J',PS J' r t rest->au r J J'->G (yes rest)->Q (.bool true) J') (q2:G no->Q (.bool false) J):bG T 4 (.obj r) J fun r=>aj T D n 4 [.obj r,.str w] J Q X:=by
 obtain ⟨n,rfl⟩:=O8 hn;refine pm ps (K.ck 4 rfl rfl) ?_;cases ts with
 | nil=>exact (E.bot h).elim
 | cons k rest=>
  refine J0 K ps (fun hk J' h1 h2=>?_) (fun hk=>?_)
  ·rw [vD hk] at h; exact q1 _ _ h1 h2 h
  ·rw [vD hk] at h; exact q2 h
theorem aF (K:Core T D)(E:Ends G X)(hn:2<=n)(ps:PS J r t ts){next:List Tok->R β}(h:G (aJ w ts next))
  (q1:∀ rest J',PS J' r t rest->au r J J'->G (next rest)->Q .none J'):bG T 3 (.obj r) J fun r=>aj T D n 3 [.obj r,.str w] J Q X:=by
 obtain ⟨n,rfl⟩:=O8 hn;refine pm ps (K.ck 3 rfl rfl) ?_;cases ts with
 | nil=>exact (E.bot h).elim
 | cons k rest=>
  refine DI K ps (fun hk J' h1 h2=>?_) (fun hk=>?_)
  ·rw [rF hk] at h; exact q1 _ _ h1 h2 h
  ·rw [rF hk] at h; exact E.err h
theorem dU (K:Core T D)(E:Ends G X)(hn:1<=n)(ps:PS J r t ts){next:Tx->List Tok->R β}(h:G (fL ts next))
  (q1:∀ x rest J',PS J' r t rest->au r J J'->G (next x rest)->Q (.str x) J'):bG T 5 (.obj r) J fun r=>aj T D n 5 [.obj r,.str ke] J Q X:=by
 obtain ⟨n,rfl⟩:=ge1 hn;refine pm ps (K.ck 5 rfl rfl) ?_;cases ts with
 | nil=>exact (E.bot h).elim
 | cons k rest=>
  refine jc K ps (fun hk J' h1 h2=>?_) (fun hk=>?_)
  ·cases k<;>first | exact q1 _ _ _ h1 h2 h | (cases hk)
  ·cases k<;>first | exact E.err h | (cases hk)
theorem tv (K:Core T D){k:Tok}{kd:Tx}(hn:1<=n)(ps:PS J r t (k::ts))(hk:aB k.kind kd=true)(q:∀ J',PS J' r t ts->au r J J'->Q k.val J'):bG T 5 (.obj r) J fun r=>aj T D n 5 [.obj r,.str kd] J Q X:=by
 obtain ⟨n,rfl⟩:=ge1 hn;exact pm ps (K.ck 5 rfl rfl) (jc K ps (fun _=>q) fun h=>Bool.noConfusion (hk.symm.trans h))
theorem JU (K:Core T D)(E:Ends G X)(hn:1<=n)(ps:PS J r t ts){next:Nat->List Tok->R β}(h:G (Di ts next))
  (q1:∀ (x:Nat) rest J',PS J' r t rest->au r J J'->G (next x rest)->Q (.int x) J'):bG T 5 (.obj r) J fun r=>aj T D n 5 [.obj r,.str ly] J Q X:=by
 obtain ⟨n,rfl⟩:=ge1 hn;refine pm ps (K.ck 5 rfl rfl) ?_;cases ts with
 | nil=>exact (E.bot h).elim
 | cons k rest=>
  refine jc K ps (fun hk J' h1 h2=>?_) (fun hk=>?_)
  ·cases k<;>first | exact q1 _ _ _ h1 h2 h | (cases hk)
  ·cases k<;>first | exact E.err h | (cases hk)
theorem DH (K:Core T D)(E:Ends G X)(hn:1<=n)(ps:PS J r t ts){next:Tx->List Tok->R β}(h:G (uR ts next))
  (q1:∀ x rest J',PS J' r t rest->au r J J'->G (next x rest)->Q (.str x) J'):bG T 5 (.obj r) J fun r=>aj T D n 5 [.obj r,.str uU] J Q X:=by
 obtain ⟨n,rfl⟩:=ge1 hn;refine pm ps (K.ck 5 rfl rfl) ?_;cases ts with
 | nil=>exact (E.bot h).elim
 | cons k rest=>
  refine jc K ps (fun hk J' h1 h2=>?_) (fun hk=>?_)
  ·cases k<;>first | exact q1 _ _ _ h1 h2 h | (cases hk)
  ·cases k<;>first | exact E.err h | (cases hk)
theorem q4 (K:Core T D){k:Tok}(hn:1<=n)(ps:PS J r t (k::ts))(q:Q (.bool (k.is w)) J):bG T 2 (.obj r) J fun r=>aj T D n 2 [.obj r,.str w] J Q X:=by
 obtain ⟨n,rfl⟩:=ge1 hn;exact pm ps (K.ck 2 rfl rfl) (zD K ps q)
end
def d5 {α:Type}(res:R (α×List Tok))(r t:Nat)(J₀:ae)(F:α->Ev->ae->Prop)(QQ:QF)(XX:XS):Prop:=match res with
 | .ok q=>∀ e' J',F q.1 e' J'->PS J' r t q.2->au r J₀ J'->QQ .next e' J'
 | .err=>∀ e' J',XX e' J'
 | .bot=>False
theorem d5.ends {α:Type}{r t:Nat}{J₀:ae}{F:α->Ev->ae->Prop}{QQ:QF}{XX:XS}{e:Ev}:Ends (fun res=>d5 res r t J₀ F QQ XX) (XX e):=⟨fun h J'=>h e J',fun h=>h⟩
def nR (T:aQ)(D:Nat->Option aD){α:Type}(f N:Nat)(enc:α->AV)(p:List Tok->R (α×List Tok)):Prop:=
 ∀ n,N<=n->∀ r t ts J Q X,PS J r t ts->b8 enc (p ts) r t J Q X->aj T D n f [.obj r] J Q X
theorem aN {α β:Type}{f N:Nat}{enc:α->AV}{p:List Tok->R (α×List Tok)}(F:nR T D f N enc p)(hc:T.bX f=some 0){n r t:Nat}(hn:N<=n){ts:List Tok}{J:ae}{Q:QV}{X:QX}{G:R β->Prop}{k:α×List Tok->R β}
  (E:Ends G X) (ps:PS J r t ts) (h:G ((p ts).bind k)) (c:∀ q J',PS J' r t q.2->au r J J'->G (k q)->Q (enc q.1) J'):bG T f (.obj r) J fun r=>aj T D n f [.obj r] J Q X:=
 pm ps hc (F n hn _ _ _ _ _ _ ps (b8.of E h c))
noncomputable def n6 (p:Tx->Bool):Tok->Bool
 | .word w=>p w
 | _=>false
noncomputable def z8 (f:Nat):Ss:=.cons (.set 2 (.ai (.v 0) 5 (.cons (.str [119,111,114,100]) .nil))) (.cons (.set 1 (.tuple (.cons (.v 2) (.cons (.v 1) (.cons (.ai (.v 0) f .nil) .nil))))) .nil)
theorem Nv (K:Core T D){n r t f N:Nat}{sub:List Tok->PE}{p:Tx->Bool}{UK:Ev->ae->QV->QX->Prop}(hn:1<=n)(hN:N<=n)(hc:T.bX f=some 0)(hs:nR T D f N Ex.av sub)
  (HS:∀ e J k rest Q X,e 0=some (.obj r)->PS J r t (k::rest)->Q (.bool (n6 p k)) J->UK e J Q X) (J₀:ae) (QQ:QF) (XX:XS) :
  ∀ (g:Nat) (x:Ex) (ts:List Tok) (e:Ev) (J:ae),e 0=some (.obj r)->e 1=some x.av->PS J r t ts->au r J₀ J->
   d5 (dM p sub g x ts) r t J₀ (fun y e' _=>e' 1=some y.av) QQ XX->
   gr UK (aH T (aj T D n) (z8 f)) g e J QQ XX:=by
 intro g
 induction g with
 | zero=>intro x ts e J _ _ _ _ h; exact h.elim
 | succ g ih=>
  intro x ts e J h0 h1 ps kp h;cases ts with
  | nil=>exact h.elim
  | cons k rest=>
   refine HS _ _ _ _ _ _ h0 ps ?_;refine aX (fun hk=>?_) fun hk=>?_
   ·cases k with
    | word w=>
     rw [rG hk] at h;refine aa h0 ?_;obtain ⟨m,rfl⟩:=ge1 hn;refine pm ps (K.ck 5 rfl rfl) ?_;refine jc K ps (fun _ J1 p1 k1=>?_) (fun q=>Bool.noConfusion q);refine aa (e:=upd e 2 _) (i:=1) h1 ?_;refine aa (e:=upd e 2 _) (i:=0) h0 ?_;refine aN hs hc hN d5.ends p1 h fun q J2 p2 k2 h2=>?_;exact ih _ _ _ _ h0 rfl p2 ((kp.trans k1).trans k2) h2
    | _=>cases hk
   ·cases k with
    | word w=>rw [rG hk] at h; exact h _ _ h1 ps kp
    | _=>exact h _ _ h1 ps kp
theorem Ks (K:Core T D){n r t:Nat}(hn:1<=n):∀ e J k rest Q X,e 0=some (.obj r)->PS J r t (k::rest)->Q (.bool (n6 isMul k)) J->bb T (aj T D n) Gn e J Q X:=by
 intro e J k rest Q X h0 ps h;have e1:n6 isMul k=(k.is [42]||k.is [100,105,118]||k.is [109,111,100]):=by cases k<;>rfl
 rw [e1] at h;refine aa h0 ?_;refine q4 K hn ps ?_;refine aX (fun h1=>?_) fun h1=>?_
 ·rw [h1] at h; exact h
 rw [h1] at h;refine aa h0 ?_;refine q4 K hn ps ?_;refine aX (fun h1=>?_) fun h1=>?_
 ·rw [h1] at h; exact h
 rw [h1] at h;refine aa h0 ?_;exact q4 K hn ps h
theorem Kt (K:Core T D){n r t:Nat}(hn:1<=n):∀ e J k rest Q X,e 0=some (.obj r)->PS J r t (k::rest)->Q (.bool (n6 isAdd k)) J->bb T (aj T D n) Gp e J Q X:=by
 intro e J k rest Q X h0 ps h;have e1:n6 isAdd k=(k.is [43]||k.is [45]):=by cases k<;>rfl
 rw [e1] at h;refine aa h0 ?_;refine q4 K hn ps ?_;refine aX (fun h1=>?_) fun h1=>?_
 ·rw [h1] at h; exact h
 rw [h1] at h;refine aa h0 ?_;exact q4 K hn ps h
theorem L8 {N f f':Nat}{sub:List Tok->PE}{p:Tx->Bool}{c:E}(K:Core T D)(hN:2<=N)(hs:nR T D f' N Ex.av sub)(hc:T.bX f'=some 0)
  (hd:D f=some ⟨1,(.cons (.set 1 (.ai (.v 0) f' .nil)) (.cons (.gf c (z8 f')) (.cons (.ret (.v 1)) .nil)))⟩)
  (HS:∀ {n r t:Nat},1<=n->∀ e J k rest Q X,e 0=some (.obj r)->PS J r t (k::rest)->Q (.bool (n6 p k)) J->bb T (aj T D n) c e J Q X) :
  nR T D f (N+1) Ex.av (fun ts=>(sub ts).bind fun q=>dM p sub aY q.1 q.2):=by
 intro n hn r t ts J Q X ps h;obtain ⟨n,rfl⟩:=ge1 (Aa (Ar 1 N) hn);have hn:=Am hn;have h1:=Aa (Ap hN) hn;refine ⟨_,hd,rfl,?_⟩;refine aN hs hc hn b8.ends ps h fun q J1 p1 k1 ak=>?_;refine ⟨aY,Nv K h1 hn hc hs (HS h1) J _ _ aY q.1 q.2 _ _ rfl rfl p1 k1 ?_⟩;revert ak;unfold d5 b8;cases dM p sub aY q.1 q.2 with
 | ok q'=>intro ak e' J' hF Lh CT; exact aa hF (ak _ Lh CT)
 | err=>intro ak e' J'; exact ak _
 | bot=>exact id
theorem DT (K:Core T D){N:Nat}{nj:List Tok->PE}(hN:2<=N)(hf:nR T D 8 N Ex.av nj):nR T D 7 (N+1) Ex.av (iD nj):=L8 K hN hf (K.ck 8 rfl rfl) (K.dk 7 rfl rfl) (Ks K)
theorem vS (K:Core T D){N:Nat}{nj:List Tok->PE}(hN:2<=N)(hf:nR T D 8 N Ex.av nj):nR T D 6 (N+2) Ex.av (jG nj):=L8 K (Nat.le_succ_of_le hN) (DT K hN hf) (K.ck 7 rfl rfl) (K.dk 6 rfl rfl) (Kt K)
theorem xB (K:Core T D):∀ d,nR T D 8 (3*d+3) Ex.av (de d):=by
 intro d
 induction d with
 | zero=>intro n hn r t ts J Q X ps h; exact h.elim
 | succ d ih=>
  have ie:=vS K (by lia) ih;intro n hn r t ts J Q X ps h;obtain ⟨n,rfl⟩:=ge1 (Aa (Ar 1 _) hn);have h5:3*d+3+2<=n:=Am (show 3*d+3+2+1<=n+1 from hn);have h3:3*d+3<=n:=Aa (Af _ 2) h5;have h2:2<=n:=Aa (Ar 2 _) h5;have h1:1<=n:=Ap h2;have c6:=K.ck 6 rfl rfl;refine ⟨PU,K.dk 8 rfl rfl,rfl,?_⟩;refine bf K b8.ends h2 ps h (fun rest J1 p1 k1 h=>?_) fun h=>?_
  ·refine aN ih (K.ck 8 rfl rfl) h3 b8.ends p1 h fun q J2 p2 k2 yR=>?_;exact yR _ p2 (k1.trans k2)
  refine bf K b8.ends h2 ps h (fun rest J1 p1 k1 h=>?_) fun h=>?_
  ·refine aN ie c6 h5 b8.ends p1 h fun q J2 p2 k2 yR=>?_;refine aF K b8.ends h2 p2 yR fun rest J3 p3 k3 o9=>?_;exact o9 _ p3 ((k1.trans k2).trans k3)
  cases ts with
  | nil=>exact h.elim
  | cons k rest=>
   refine fY ps ?_;cases k with
   | int m=>exact tv K h1 ps rfl fun J1 p1 k1=>h _ p1 k1
   | name x=>
    refine tv K h1 ps rfl fun J1 p1 k1=>?_;refine bf K b8.ends h2 p1 h (fun rest J2 p2 k2 h=>?_) fun h=>?_
    ·refine aN ie c6 h5 b8.ends p2 h fun q J3 p3 k3 o9=>?_;refine aF K b8.ends h2 p3 o9 fun rest J4 p4 k4 h4=>?_;exact h4 _ p4 (((k1.trans k2).trans k3).trans k4)
    ·exact h _ p1 k1
   | word w=>exact dU K (next:=fun x r=>R.bot) b8.ends h1 ps h fun x rest J1 p1 k1 ak=>ak.elim
   | fin=>exact dU K (next:=fun x r=>R.bot) b8.ends h1 ps h fun x rest J1 p1 k1 ak=>ak.elim
theorem lW (K:Core T D):nR T D 6 41 Ex.av cT:=vS K (by decide) (xB K dE)
end
theorem au.get {r o:Nat}{J J':ae}{m:MO}(k:au r J J')(ho:o≠r)(h:J[o]?=some m):J'[o]?=some m:=by
 rw [k.2 o ho (Ai h).1,h]
theorem PS.lt {J:ae}{r t:Nat}{ts:List Tok}(h:PS J r t ts):r<J.length∧t<J.length:=by
 obtain ⟨l,p,h1,h2,_⟩:=h;exact ⟨(Ai h1).1,(Ai h2).1⟩
theorem PS.eL {J:ae}{r t o:Nat}{ts:List Tok}{m:MO}(h:PS J r t ts)(h1:o≠r)(h2:o≠t):PS (J.set o m) r t ts:=by
 obtain ⟨l,p,e1,e2,e3⟩:=h;exact ⟨l,p,by rw [List.getElem?_set_ne h1,e1],by rw [List.getElem?_set_ne h2,e2],e3⟩
theorem ar {J:ae}{o:Nat}{x m:MO}(h:J[o]?=some x):(J++[m])[o]?=some x:=by
 rw [List.getElem?_append_left (Ai h).1,h]
theorem PS.push {J:ae}{r t:Nat}{ts:List Tok}{m:MO}(h:PS J r t ts):PS (J++[m]) r t ts:=by
 obtain ⟨l,p,e1,e2,e3⟩:=h;exact ⟨l,p,ar e1,ar e2,e3⟩
theorem au.push {r:Nat}{J₀ J:ae}{m:MO}(h:au r J₀ J):au r J₀ (J++[m]):=by
 refine ⟨Aa h.1 (by rw [Ac]; exact Af _ _),fun i hi hl=>?_⟩;rw [List.getElem?_append_left (An hl h.1),h.2 i hi hl]
theorem au.eL {r o:Nat}{J₀ J:ae}{m:MO}(h:au r J₀ J)(ho:J₀.length<=o):au r J₀ (J.set o m):=by
 refine ⟨by rw [List.length_set]; exact h.1,fun i hi hl=>?_⟩;rw [List.getElem?_set_ne (Nat.ne_of_gt (An hl ho)),h.2 i hi hl]
theorem get_set {J:ae}{o:Nat}{x m:MO}(h:J[o]?=some x):(J.set o m)[o]?=some m:=List.getElem?_set_self (Ai h).1
theorem ay {J:ae}{m:MO}:(J++[m])[J.length]?=some m:=by simp
structure Own (r t o:Nat)(J₀ J:ae)(l:List AV):Prop where
 r:o≠r
 t:o≠t
 new:J₀.length<=o
 at_:J[o]?=some (.list l)
theorem Own.keep {r t o:Nat}{J₀ J J':ae}{l:List AV}(h:Own r t o J₀ J l)(k:au r J J'):Own r t o J₀ J' l:=⟨h.r,h.t,h.new,k.get h.r h.at_⟩
theorem Own.mk' {r t:Nat}{J₀ J:ae}{l:List AV}{ts:List Tok}(p:PS J r t ts)(k:au r J₀ J):Own r t J.length J₀ (J++[.list l]) l:=
 ⟨Nat.ne_of_gt p.lt.1,Nat.ne_of_gt p.lt.2,k.1,ay⟩
theorem Own.put {r t o:Nat}{J₀ J:ae}{l l':List AV}(h:Own r t o J₀ J l):Own r t o J₀ (J.set o (.list l')) l':=⟨h.r,h.t,h.new,get_set h.at_⟩
theorem Own.push {r t o:Nat}{J₀ J:ae}{l:List AV}{m:MO}(h:Own r t o J₀ J l):Own r t o J₀ (J++[m]) l:=⟨h.r,h.t,h.new,ar h.at_⟩
theorem jD {b:Bool}{A B:Prop}(h:b=true)(a:A):qE (.bool b) A B:=by rw [h]; exact a
theorem gw {b:Bool}{A B:Prop}(h:b=false)(a:B):qE (.bool b) A B:=by rw [h]; exact a
section
variable {T:aQ}{D:Nat->Option aD}
theorem E6 (K:Core T D):nR T D 9 42 Ex.av qU:=by
 have ie:=lW K;intro n hn r t ts J Q X ps h;obtain ⟨n,rfl⟩:=ge1 (Aa (by decide) hn);have O7:=Am hn;have h2:2<=n:=Aa (by decide) O7;have h1:1<=n:=Ap h2;have c6:=K.ck 6 rfl rfl;refine ⟨PR,K.dk 9 rfl rfl,rfl,?_⟩;refine bf K b8.ends h2 ps h (fun rest J1 p1 k1 h=>?_) fun h=>?_
 ·refine aF K b8.ends h2 p1 h fun rest J2 p2 k2 h=>?_;refine aN ie c6 O7 b8.ends p2 h fun q J3 p3 k3 h=>?_;refine aF K b8.ends h2 p3 h fun rest J4 p4 k4 h=>?_;exact h _ p4 (((k1.trans k2).trans k3).trans k4)
 refine aN ie c6 O7 b8.ends ps h fun q J1 p1 k1 h=>?_;refine DH K b8.ends h1 p1 h fun s rest J2 p2 k2 h=>?_;refine aq K.g1 ?_;have h:b8 Ex.av (match (generalizing:=false) lB s with
  | true=>(cT rest).bind fun b=>.ok (.bin s q.1 b.1,b.2)
  | false=>.err) r t J Q fun J'=>X J':=h
 refine jJ (fun hs=>?_) fun hs=>?_
 ·rw [show lB s=true from hs] at h;refine aN ie c6 O7 b8.ends p2 h fun q' J3 p3 k3 h=>?_;exact h _ p3 ((k1.trans k2).trans k3)
 ·rw [show lB s=false from hs] at h;exact h _
theorem uT {n:Nat}(h:n<900000):n<lid:=Nat.lt_trans h (by decide)
theorem D6 (K:Core T D){n N r t o:Nat}{st:List Tok->PT}(hn:2<=n)(hN:N<=n)(hs:nR T D 11 N St.av st)(J₀:ae)(QQ:QF)(XX:XS) :
  ∀ (g:Nat) (acc:List AV) (ts:List Tok) (e:Ev) (J:ae),e 0=some (.obj r)->e 1=some (.obj o)->Own r t o J₀ J acc->acc.length+g<=800000->PS J r t ts->au r J₀ J->
   d5 (cH st g ts) r t J₀ (fun q e' J'=>e' 1=some (.obj o)∧J'[o]?=some (.list (acc++q.map St.av))) QQ XX->
   gr (bb T (aj T D n) A8) (aH T (aj T D n) A9) g e J QQ XX:=by
 intro g
 induction g with
 | zero=>intro acc ts e J _ _ _ _ _ _ h; exact h.elim
 | succ g ih=>
  intro acc ts e J h0 h1 ho hl ps kp h;refine aa h0 ?_;refine bf K d5.ends hn ps h (fun rest J1 p1 k1 h=>?_) fun h=>?_
  ·refine aa h1 ?_;have j7:=ho.keep k1;refine ag j7.at_ ?_;refine aa h0 ?_;refine aN hs (K.ck 11 rfl rfl) hN d5.ends p1 h fun q J2 p2 k2 h=>?_;have ia:=j7.keep k2;refine ag ia.at_ ⟨uT (by lia),?_⟩;refine ih (acc++[q.1.av]) q.2 _ _ h0 h1 ia.put (by rw [Ac]; exact Aa (Nat.le_of_eq (Aw _ 1 _)) hl) (p2.eL ia.r ia.t) (((kp.trans k1).trans k2).eL ia.new) ?_;revert h;unfold d5;cases cH st g q.2 with
   | ok q'=>intro h e' J' hF; exact h e' J' (by rw [Ae] at hF; exact hF)
   | err=>exact id
   | bot=>exact id
  ·exact h _ _ ⟨h1,by rw [List.map_nil,List.append_nil]; exact ho.at_⟩ ps kp
theorem zW (K:Core T D){N:Nat}{st:List Tok->PT}(hN:2<=N)(hs:nR T D 11 N St.av st):nR T D 10 (N+1) (fun s:St=>AV.tup s.row) (yI st):=by
 intro n hn r t ts J Q X ps h;obtain ⟨n,rfl⟩:=ge1 (Aa (Ar 1 N) hn);have hn:=Am hn;refine ⟨HL,K.dk 10 rfl rfl,rfl,?_⟩;refine aN hs (K.ck 11 rfl rfl) hn b8.ends ps h fun q J1 p1 k1 ak=>?_;refine ⟨aY,D6 K (Aa hN hn) hn hs J _ _ aY [q.1.av] q.2 _ _ rfl rfl (Own.mk' p1 k1) (show 401<=800000 by decide) p1.push k1.push ?_⟩;revert ak;unfold d5 b8 R.bind;cases cH st aY q.2 with
 | ok q'=>
  intro ak e' J' hF Lh CT;refine aa hF.1 ?_;refine ag hF.2 ?_;have h2:Q (.tup (bV q.1 q'.1).row) J':=ak _ Lh CT;rw [oD] at h2; exact h2
 | err=>intro ak e' J'; exact ak _
 | bot=>exact id
end
section
variable {T:aQ}{D:Nat->Option aD}
theorem Ends.bind {α β:Type}{G:R β->Prop}{X:QX}{f:α->R β}(E:Ends G X):Ends (fun res:R α=>G (res.bind f)) X:=⟨fun h=>E.err h,fun h=>E.bot h⟩
theorem Cn (K:Core T D){n r t o:Nat}(hn:41<=n)(J₀:ae)(QQ:QF)(XX:XS)(F:Ev->Prop)(WW:∀ e,F e->e 0=some (.obj r))(WV:∀ e,F e->e 9=some (.obj o)) :
  ∀ (g:Nat) (acc:List AV) (ts:List Tok) (e:Ev) (J:ae),F e->Own r t o J₀ J acc->acc.length+g<=800000->PS J r t ts->au r J₀ J->
   d5 (jH g ts) r t J₀ (fun q e' J'=>F e'∧Own r t o J₀ J' (acc++q.map Ex.av)) QQ XX->
   gr (bb T (aj T D n) A6) (aH T (aj T D n) A7) g e J QQ XX:=by
 have ie:=lW K;intro g
 induction g with
 | zero=>intro acc ts e J _ _ _ _ _ h; exact h.elim
 | succ g ih=>
  intro acc ts e J hF ho hl ps kp h;have h0:=WW e hF;refine aa h0 ?_;refine bf K d5.ends (Aa (by decide) hn) ps h (fun rest J1 p1 k1 h=>?_) fun h=>?_
  ·refine aa (WV e hF) ?_;have j7:=ho.keep k1;refine ag j7.at_ ?_;refine aa h0 ?_;refine aN ie (K.ck 6 rfl rfl) hn d5.ends p1 h fun q J2 p2 k2 h=>?_;have ia:=j7.keep k2;refine ag ia.at_ ⟨uT (by lia),?_⟩;refine ih (acc++[q.1.av]) q.2 _ _ hF ia.put (by rw [Ac]; exact Aa (Nat.le_of_eq (Aw _ 1 _)) hl) (p2.eL ia.r ia.t) (((kp.trans k1).trans k2).eL ia.new) ?_;revert h;unfold d5;cases jH g q.2 with
   | ok q'=>intro h e' J' hF; exact h e' J' (by rw [Ae] at hF; exact hF)
   | err=>exact id
   | bot=>exact id
  ·exact h _ _ ⟨hF,by rw [List.map_nil,List.append_nil]; exact ho⟩ ps kp
theorem DU (K:Core T D):∀ d,nR T D 11 (2*d+43) St.av (bj d):=by
 have ie:=lW K;have ic:=E6 K;intro d
 induction d with
 | zero=>intro n hn r t ts J Q X ps h; exact h.elim
 | succ d ih=>
  have ir:=zW K (Aa (by decide) (Ar 43 (2*d))) ih;intro n hn r t ts J Q X ps h;obtain ⟨n,rfl⟩:=ge1 (Aa (Ar 1 _) hn);have OK:2*d+43+1<=n:=Am (show 2*d+43+1+1<=n+1 from hn);have Lj:=Ap OK;have Lk:42<=n:=Aa (Aa (by decide:42<=44) (Ar 44 (2*d))) OK;have CQ:=Ap Lk;have n2:2<=n:=Aa (by decide) Lk;have c6:=K.ck 6 rfl rfl;have c9:=K.ck 9 rfl rfl;have UP:=K.ck 10 rfl rfl;have LP:=K.ck 11 rfl rfl;refine ⟨HK,K.dk 11 rfl rfl,rfl,?_⟩;refine bf K b8.ends n2 ps h (fun rest J1 p1 k1 h=>?_) fun h=>?_
  ·refine aN ic c9 Lk b8.ends p1 h fun c J2 p2 k2 h=>?_;refine aF K b8.ends n2 p2 h fun rest J3 p3 k3 h=>?_;refine aN ih LP Lj b8.ends p3 h fun a J4 p4 k4 h=>?_;have k':=((k1.trans k2).trans k3).trans k4;refine bf K b8.ends n2 p4 h (fun rest J5 p5 k5 h=>?_) fun h=>?_
   ·refine aN ih LP Lj b8.ends p5 h fun b J6 p6 k6 h=>?_;exact h _ p6 ((k'.trans k5).trans k6)
   ·exact h _ p4 k'
  refine bf K b8.ends n2 ps h (fun rest J1 p1 k1 h=>?_) fun h=>?_
  ·refine aN ic c9 Lk b8.ends p1 h fun c J2 p2 k2 h=>?_;refine aF K b8.ends n2 p2 h fun rest J3 p3 k3 h=>?_;refine aN ih LP Lj b8.ends p3 h fun a J4 p4 k4 h=>?_;exact h _ p4 (((k1.trans k2).trans k3).trans k4)
  refine bf K b8.ends n2 ps h (fun rest J1 p1 k1 h=>?_) fun h=>?_
  ·refine aN ir UP OK b8.ends p1 h fun c J2 p2 k2 h=>?_;refine aF K b8.ends n2 p2 h fun rest J3 p3 k3 h=>?_;refine aN ic c9 Lk b8.ends p3 h fun a J4 p4 k4 h=>?_;exact h _ p4 (((k1.trans k2).trans k3).trans k4)
  refine bf K b8.ends n2 ps h (fun rest J1 p1 k1 h=>?_) fun h=>?_
  ·refine dU K b8.ends (Ap n2) p1 h fun x rest J2 p2 k2 h=>?_;refine aF K b8.ends n2 p2 h fun rest J3 p3 k3 h=>?_;refine aN ie c6 CQ b8.ends p3 h fun a J4 p4 k4 h=>?_;have k':=((k1.trans k2).trans k3).trans k4;refine bf K b8.ends n2 p4 h (fun rest J5 p5 k5 h=>?_) fun h=>?_
   ·refine aN ie c6 CQ b8.ends p5 h fun b J6 p6 k6 h=>?_;refine aF K b8.ends n2 p6 h fun rest J7 p7 k7 h=>?_;refine aN ih LP Lj b8.ends p7 h fun s J8 p8 k8 h=>?_;exact h _ p8 ((((k'.trans k5).trans k6).trans k7).trans k8)
   ·refine aF K b8.ends n2 p4 h fun rest J5 p5 k5 h=>?_;refine aN ie c6 CQ b8.ends p5 h fun b J6 p6 k6 h=>?_;refine aF K b8.ends n2 p6 h fun rest J7 p7 k7 h=>?_;refine aN ih LP Lj b8.ends p7 h fun s J8 p8 k8 h=>?_;exact h _ p8 ((((k'.trans k5).trans k6).trans k7).trans k8)
  refine bf K b8.ends n2 ps h (fun rest J1 p1 k1 h=>?_) fun h=>?_
  ·refine aN ir UP OK b8.ends p1 h fun c J2 p2 k2 h=>?_;refine aF K b8.ends n2 p2 h fun rest J3 p3 k3 h=>?_;exact h _ p3 ((k1.trans k2).trans k3)
  refine bf K b8.ends n2 ps h (fun rest J1 p1 k1 h=>?_) fun h=>?_
  ·refine aF K b8.ends n2 p1 h fun rest J2 p2 k2 h=>?_;refine aN ie c6 CQ b8.ends p2 h fun a J3 p3 k3 h=>?_;refine aF K b8.ends n2 p3 h fun rest J4 p4 k4 h=>?_;exact h _ p4 (((k1.trans k2).trans k3).trans k4)
  cases ts with
  | nil=>exact h.elim
  | cons k rest=>
   refine fY ps ?_;cases k with
   | name x=>
    refine tv K (Ap n2) ps rfl fun J1 p1 k1=>?_;refine bf K b8.ends n2 p1 h (fun rest J2 p2 k2 h=>?_) fun h=>?_
    ·refine aN ie c6 CQ b8.ends p2 h fun b J3 p3 k3 h=>?_;exact h _ p3 ((k1.trans k2).trans k3)
    refine bf K b8.ends n2 p1 h (fun rest J2 p2 k2 h=>?_) fun h=>?_
    ·refine aN ie c6 CQ b8.ends p2 h fun i J3 p3 k3 h=>?_;refine aF K b8.ends n2 p3 h fun rest J4 p4 k4 h=>?_;refine aF K b8.ends n2 p4 h fun rest J5 p5 k5 h=>?_;refine aN ie c6 CQ b8.ends p5 h fun b J6 p6 k6 h=>?_;exact h _ p6 (((((k1.trans k2).trans k3).trans k4).trans k5).trans k6)
    have ho:=Own.mk' (l:=[]) p1 k1;have p2:=p1.push (m:=.list []);have k2:=k1.push (m:=.list []);unfold zf at h;have E':=Ends.bind (f:=fun q:List Ex×List Tok=>R.ok (St.call x q.1,q.2)) (b8.ends (enc:=St.av) (r:=r) (t:=t) (J₀:=J) (Q:=Q) (X:=X));refine bf K E' n2 p2 h (fun rest J3 p3 k3 h=>?_) fun h=>?_
    ·have Lw:=ho.keep k3;refine ag Lw.at_ ?_;refine aN ie c6 CQ E' p3 h fun b J4 p4 k4 h=>?_;have Lv:=Lw.keep k4;refine ag Lv.at_ ⟨by decide,?_⟩;refine ⟨aY,Cn K CQ J _ _ (fun e=>e 0=some (.obj r)∧e 4=some (.str x)∧e 9=some (.obj J1.length)) (fun e h=>h.1) (fun e h=>h.2.2) aY [b.1.av] b.2 _ _ ⟨rfl,rfl,rfl⟩ Lv.put (show 401<=800000 by decide) (p4.eL Lv.r Lv.t) (((k2.trans k3).trans k4).eL Lv.new) ?_⟩;revert h;unfold d5;cases jH aY b.2 with
     | ok q'=>
      intro h e' J' hF Lh CT;obtain ⟨⟨f0,f4,f9⟩,oo⟩:=hF;refine aa f0 ?_;refine aF K E' n2 Lh h fun rest J6 p6 k6 h=>?_;refine aa f4 ?_;refine aa f9 ?_;refine ag (oo.keep k6).at_ ?_;exact h _ p6 (CT.trans k6)
     | err=>intro h e' J'; exact h _
     | bot=>exact id
    ·refine ag ho.at_ ?_;exact h _ p2 k2
   | int m=>exact h _ ps (au.refl _ _)
   | word m=>exact h _ ps (au.refl _ _)
   | fin=>exact h _ ps (au.refl _ _)
theorem Bz (K:Core T D):nR T D 10 72 (fun s:St=>AV.tup s.row) iO:=zW K (by decide) (DU K dS)
end
section
variable {T:aQ}{D:Nat->Option aD}
theorem d5.map {α β:Type}{m:R (α×List Tok)}{f:α->β}{r t:Nat}{J₀:ae}{F:β->Ev->ae->Prop}{F':α->Ev->ae->Prop}{QQ:QF}{XX:XS}
  (h:d5 (m.bind fun q=>.ok (f q.1,q.2)) r t J₀ F QQ XX) (c:∀ a e J,F' a e J->F (f a) e J):d5 m r t J₀ F' QQ XX:=by
 cases m with
 | ok q=>exact fun e' J' hF=>h e' J' (c _ _ _ hF)
 | err=>exact h
 | bot=>exact h
theorem d5.of {α β:Type}{m:R (α×List Tok)}{f:α×List Tok->R β}{G:R β->Prop}{r t:Nat}{J₀:ae}{F:α->Ev->ae->Prop}{QQ:QF}{XX:XS}(E:∀ e,Ends G (XX e))(h:G (m.bind f))
  (c:∀ q e' J',F q.1 e' J'->PS J' r t q.2->au r J₀ J'->G (f q)->QQ .next e' J'):d5 m r t J₀ F QQ XX:=by
 cases m with
 | ok q=>exact fun e' J' h1 h2 h3=>c q e' J' h1 h2 h3 h
 | err=>exact fun e' J'=>(E e').err h J'
 | bot=>exact ((E fun _=>.none).bot h).elim
theorem Own.app {r t o:Nat}{J₀ J:ae}{l a b:List AV}(h:Own r t o J₀ J (l++a++b)):Own r t o J₀ J (l++(a++b)):=Ae l a b▸h
theorem Own.nil {r t o:Nat}{J₀ J:ae}{l:List AV}(h:Own r t o J₀ J l):Own r t o J₀ J (l++[]):=(List.append_nil l).symm▸h
theorem Ht {α:Type}{l:List α}{x:α}{g m:Nat}(h:l.length+(g+1)<=m):(l++[x]).length+g<=m:=by
 rw [Ac]; exact Aa (Nat.le_of_eq (Aw _ 1 _)) h
theorem OL {α:Type}{l:List α}{g:Nat}(h:l.length+(g+1)<=800000):l.length<lid:=An (An (Nat.lt_add_of_pos_right (Nat.succ_pos g)) h) (by decide)
theorem xo (K:Core T D){n r t o:Nat}(hn:2<=n)(J₀:ae)(QQ:QF)(XX:XS)(e:Ev)(h0:e 0=some (.obj r))(h3:e 3=some (.obj o)) :
  ∀ (g:Nat) (acc:List AV) (ts:List Tok) (J:ae),Own r t o J₀ J acc->acc.length+g<=800000->PS J r t ts->au r J₀ J->
   d5 (kU g ts) r t J₀ (fun q e' J'=>e'=e∧q.length<=g∧Own r t o J₀ J' (acc++q.map AV.str)) QQ XX->
   gr (bb T (aj T D n) A4) (aH T (aj T D n) A5) g e J QQ XX:=by
 intro g
 induction g with
 | zero=>intro acc ts J _ _ _ _ h; exact h.elim
 | succ g ih=>
  intro acc ts J ho hl ps kp h;refine aa h0 ?_;refine bf K d5.ends hn ps h (fun rest J1 p1 k1 h=>?_) fun h=>?_
  ·refine aa h3 ?_;refine ag (ho.keep k1).at_ ?_;refine aa h0 ?_;refine dU K d5.ends (Ap hn) p1 h fun x rest J2 p2 k2 h=>?_;have ia:=(ho.keep k1).keep k2;refine ag ia.at_ ⟨OL hl,?_⟩;exact ih (acc++[.str x]) rest _ ia.put (Ht hl) (p2.eL ia.r ia.t) (((kp.trans k1).trans k2).eL ia.new) (d5.map (f:=fun a=>x::a) h fun a e J hF=>⟨hF.1,Au hF.2.1,hF.2.2.app (a:=[.str x])⟩)
  ·exact h _ _ ⟨rfl,Nat.zero_le _,ho.nil⟩ ps kp
noncomputable def si:Ss:=(.cons (.expr (.ai (.v 0) 3 (.cons (.str [105,110,116,101,103,101,114]) .nil))) (.cons (.expr (.ai (.v 0) 3 (.cons (.str [59]) .nil))) (.cons (.aug 1 .add (.du 4 (.v 3))) (.cons (.ifs (.cmp .ne (.idx (.idx (.attr (.v 0) .ts) (.attr (.v 0) .pos)) (.int 0)) (.str [110,97,109,101])) (.cons .brk .nil) .nil) .nil))))
theorem vJ (z:Option Nat):∀ xs:List Tx,((xs.map AV.str).map fun x=>AV.tup [x,Dj z])=(xs.map fun x=>(x,z)).map uC
 | []=>rfl
 | x::xs=>congrArg (_::·) (vJ z xs)
theorem sM (K:Core T D){n r t o ov:Nat}{J₀ J:ae}{QQ:QF}{XX:XS}{e:Ev}{xs:List Tx}{z:Option Nat}{acc:List AV}{ts:List Tok}{β:Type}{G:R β->Prop}{k:List (Tx×Option Nat)×List Tok->R β}(hn:2<=n)
  (E:∀ e,Ends G (XX e)) (h0:e 0=some (.obj r)) (h1:e 1=some (.obj ov)) (h3:e 3=some (.obj o)) (h4:e 4=some (Dj z)) (hv:Own r t ov J₀ J acc) (hx:Own r t o J₀ J (xs.map AV.str)) (fG:ov≠o) (ps:PS J r t ts) (kp:au r J₀ J) (hlen:acc.length+xs.length<=900000)
  (h:G ((lL xs z ts).bind k))
  (c:∀ q J',PS J' r t q.2->au r J₀ J'->Own r t ov J₀ J' (acc++q.1.map uC)->q.1.length=xs.length->(∀ i m,i≠ov->i≠r->J[i]?=some m->J'[i]?=some m)->G (k q)->∀ e',(∀ i,i≠1->e' i=e i)->e' 1=some (.obj ov)->
   (match q.2 with
    | []=>False
    | .name _::_=>QQ .next e' J'
    | _::_=>QQ .brk e' J')) :
  aH T (aj T D n) si e J QQ XX:=by
 have E':=fun e=>Ends.bind (f:=k) (E e);refine aa h0 ?_;refine aF K (E' _) hn ps h fun rest J1 p1 k1 h=>?_;refine aa h0 ?_;refine aF K (E' _) hn p1 h fun rest J2 p2 k2 h=>?_;have Fx:=(hv.keep k1).keep k2;refine aa h1 ?_;refine aa h3 ?_;refine ag ((hx.keep k1).keep k2).at_ ?_;refine aa h4 ?_;rw [vJ];refine ag (ar Fx.at_) ?_;refine ag ay ⟨Nat.ne_of_lt (Ai Fx.at_).1,?_,?_⟩
 ·rw [Ah,Ah]; exact Aa hlen (by decide)
 have pz:=(p2.push (m:=.list ((xs.map fun x=>(x,z)).map uC))).eL (m:=.list (acc++(xs.map fun x=>(x,z)).map uC)) Fx.r Fx.t;have FY:=c (xs.map (fun x=>(x,z)),rest) _ pz ((((kp.trans k1).trans k2).push).eL Fx.new) Fx.push.put (Ah _) (fun i m hi hr hm=>by
  rw [List.getElem?_set_ne (Ne.symm hi)];exact ar ((k1.trans k2).get hr hm)) h (upd e 1 (.obj ov)) (fun i hi=>by
   show cond (Nat.beq i 1) _ _=_;cases q:Nat.beq i 1
   ·rfl
   ·exact absurd (As q) hi) rfl
 refine aa (e:=upd e 1 _) (i:=0) h0 ?_;cases rest with
 | nil=>exact FY.elim
 | cons k' rs=>
  refine BP (e:=upd e 1 _) h0 pz ?_;cases k'<;>exact FY
theorem Bv (K:Core T D){n r t ov op:Nat}(hn:2<=n)(J₀:ae)(QQ:QF)(XX:XS)(fG:op≠ov)(T7:op≠r) :
  ∀ (g:Nat) (acc:List AV) (ts:List Tok) (e:Ev) (J:ae),e 0=some (.obj r)->e 1=some (.obj ov)->Own r t ov J₀ J acc->J[op]?=some (.list [])->acc.length+500*g<=500000->PS J r t ts->au r J₀ J->
   d5 (gh g ts) r t J₀ (fun q e' J'=>e' 0=some (.obj r)∧e' 1=some (.obj ov)∧e' 2=e 2∧Own r t ov J₀ J' (acc++q.map uC)∧J'[op]?=some (.list [])) QQ XX->
   gr (bb T (aj T D n) tV) (aH T (aj T D n) tX) g e J QQ XX:=by
 intro g
 induction g with
 | zero=>intro acc ts e J _ _ _ _ _ _ _ h; exact h.elim
 | succ g ih=>
  intro acc ts e J h0 h1 hv hp hl ps kp h;have LH:1<=n:=Ap hn;have E':=fun e':Ev=>Ends.bind (α:=List (Tx×Option Nat)×List Tok) (f:=fun v=>match v.2 with
   | []=>R.bot
   | .name _::_=>(gh g v.2).bind fun q=>.ok (v.1++q.1,q.2)
   | _::_=>.ok (v.1,v.2)) (d5.ends (r:=r) (t:=t) (J₀:=J₀) (F:=fun q e' J'=>e' 0=some (.obj r)∧e' 1=some (.obj ov)∧e' 2=e 2∧Own r t ov J₀ J' (acc++q.map uC)∧J'[op]?=some (.list [])) (QQ:=QQ) (XX:=XX) (e:=e'))
  refine aa h0 ?_;refine dU K (E' _) LH ps h fun x rest J1 p1 k1 h=>?_;have TN:=kp.trans k1;have oN:=Own.mk' (l:=[AV.str x]) p1 (au.refl r J1);have T3:=hv.keep k1;refine ⟨aY,xo K hn J1 _ _ (upd e 3 (.obj J1.length)) h0 rfl aY [AV.str x] rest _ oN (show 401<=800000 by decide) p1.push (au.refl r J1).push ?_⟩;refine d5.of E' h fun q e2 J2 hF p2 k2 h=>?_;obtain ⟨rfl,hq,OH⟩:=hF;refine aa (e:=upd e 3 _) (i:=0) h0 ?_;refine aF K (E' _) hn p2 h fun rest J3 p3 k3 h=>?_;have kk:au r J1 J3:=k2.trans k3;have fin:∀ (e':Ev) J' (z:Option Nat) rest,PS J' r t rest->au r J3 J'->e' 0=some (.obj r)->e' 1=some (.obj ov)->e' 2=e 2->e' 3=some (.obj J1.length)->e' 4=some (Dj z)->
    d5 ((lL (x::q.1) z rest).bind fun v=>match v.2 with
     | []=>R.bot
     | .name _::_=>(gh g v.2).bind fun q=>.ok (v.1++q.1,q.2)
     | _::_=>.ok (v.1,v.2)) r t J₀ (fun q e' J'=>e' 0=some (.obj r)∧e' 1=some (.obj ov)∧e' 2=e 2∧Own r t ov J₀ J' (acc++q.map uC)∧J'[op]?=some (.list [])) QQ XX->
    aH T (aj T D n) si e' J' (fun f e' J2=>match f with
     | .next | .cont=>gr (bb T (aj T D n) tV) (aH T (aj T D n) tX) g e' J2 QQ XX
     | .brk=>QQ .next e' J2
     | .ret v=>QQ (.ret v) e' J2) XX:=by
   intro e' J' z rest p' k' g0 g1 g2 g3 g4 h;have kz:=kk.trans k';have XW:(x::q.1).length<=401:=Au hq;refine sM K hn (fun e=>d5.ends) g0 g1 g3 g4 (T3.keep kz) (xs:=x::q.1) ⟨OH.r,OH.t,TN.1,(k3.trans k').get OH.r OH.at_⟩ (Nat.ne_of_lt (Ai T3.at_).1) p' (TN.trans kz) (by lia) h ?_;intro v FH KU K2 KV hlen keep hG LM he CD;have Ds:FH[op]?=some (.list []):=keep op _ fG T7 ((k1.trans kz).get T7 hp);have f0:=(he 0 (by decide)).trans g0;have f2:=(he 2 (by decide)).trans g2;rcases v with ⟨v1,_ | ⟨k,rs⟩⟩
   ·exact hG.elim
   ·cases k with
    | name y=>
     refine ih (acc++v1.map uC) _ LM FH f0 CD KV Ds (by
      rw [Ac,Ah,show v1.length=_ from hlen]; lia) KU K2 ?_
     exact d5.map (f:=fun a=>v1++a) hG fun a e J hF=>⟨hF.1,hF.2.1,hF.2.2.1.trans f2,by rw [List.map_append]; exact hF.2.2.2.1.app,hF.2.2.2.2⟩
    | word y=>exact hG _ _ ⟨f0,CD,f2,KV,Ds⟩ KU K2
    | int y=>exact hG _ _ ⟨f0,CD,f2,KV,Ds⟩ KU K2
    | fin=>exact hG _ _ ⟨f0,CD,f2,KV,Ds⟩ KU K2
  refine aa (e:=upd (upd e 3 _) 4 _) (i:=0) h0 ?_;refine bf K (E' _) hn p3 h (fun rest J4 p4 k4 h=>?_) fun h=>?_
  ·refine aa (e:=upd (upd e 3 _) 4 _) (i:=0) h0 ?_;refine aF K (E' _) hn p4 h fun rest J5 p5 k5 h=>?_;refine aa (e:=upd (upd e 3 _) 4 _) (i:=0) h0 ?_;refine JU K (E' _) LH p5 h fun m rest J6 p6 k6 h=>?_;refine aa (e:=upd (upd (upd e 3 _) 4 _) 4 _) (i:=0) h0 ?_;refine aF K (E' _) hn p6 h fun rest J7 p7 k7 h=>?_;refine aa (e:=upd (upd (upd e 3 _) 4 _) 4 _) (i:=0) h0 ?_;refine aF K (E' _) hn p7 h fun rest J8 p8 k8 h=>?_;exact fin _ _ (some m) rest p8 ((((k4.trans k5).trans k6).trans k7).trans k8) h0 h1 rfl rfl rfl h
  ·exact fin _ _ Option.none rest p3 (au.refl _ _) h0 h1 rfl rfl rfl h
end
section
variable {T:aQ}{D:Nat->Option aD}
theorem aS {e:Ev}{j:Nat}{v:AV}(i:Nat)(h:i≠j):upd e j v i=e i:=by
 show cond (Nat.beq i j) _ _=_;cases q:Nat.beq i j
 ·rfl
 ·exact absurd (As q) h
theorem uv (K:Core T D){n r t o:Nat}(hn:2<=n)(J₀:ae)(QQ:QF)(XX:XS) :
  ∀ (g:Nat) (acc:List AV) (ts:List Tok) (e:Ev) (J:ae),e 0=some (.obj r)->e 6=some (.obj o)->Own r t o J₀ J acc->acc.length+g<=800000->PS J r t ts->au r J₀ J->
   d5 (ja g ts) r t J₀ (fun q e' J'=>(∀ i,i≠7->e' i=e i)∧Own r t o J₀ J' (acc++q.map oU)) QQ XX->
   gr (bb T (aj T D n) tW) (aH T (aj T D n) tY) g e J QQ XX:=by
 intro g
 induction g with
 | zero=>intro acc ts e J _ _ _ _ _ _ h; exact h.elim
 | succ g ih=>
  intro acc ts e J h0 h6 ho hl ps kp h;have LH:=Ap hn;have fin:∀ (x:Tx) (b:Bool) rest J1,PS J1 r t rest->au r J J1->
    d5 (cR pg rest (fun r=>(ja g r).bind fun q=>.ok ((x,b)::q.1,q.2)) (.ok ([(x,b)],rest))) r t J₀ (fun q e' J'=>(∀ i,i≠7->e' i=e i)∧Own r t o J₀ J' (acc++q.map oU)) QQ XX->
    cQ o J1 fun l=>l.length<lid∧aH T (aj T D n) (.cons (.ifs (.not (.ai (.v 0) 4 (.cons (.str [44]) .nil))) (.cons .brk .nil) .nil) .nil) (upd e 7 (.bool b)) (J1.set o (.list (l++[.tup [.str x,.bool b]]))) (fun f e' J2=>match f with
     | .next | .cont=>gr (bb T (aj T D n) tW) (aH T (aj T D n) tY) g e' J2 QQ XX
     | .brk=>QQ .next e' J2
     | .ret v=>QQ (.ret v) e' J2) XX:=by
   intro x b rest J1 p1 k1 h;have j7:=ho.keep k1;refine ag j7.at_ ⟨OL hl,?_⟩;have p2:=p1.eL (m:=.list (acc++[.tup [.str x,.bool b]])) j7.r j7.t;have k2:=(kp.trans k1).eL (m:=.list (acc++[.tup [.str x,.bool b]])) j7.new;have o2:=j7.put (l':=acc++[.tup [.str x,.bool b]]);refine aa (e:=upd e 7 _) (i:=0) h0 ?_;refine bf K d5.ends hn p2 h (fun rest J3 p3 k3 h=>?_) fun h=>?_
   ·exact ih _ rest _ _ h0 h6 (o2.keep k3) (Ht hl) p3 (k2.trans k3) (d5.map (f:=fun a=>(x,b)::a) h fun a e J hF=>⟨fun i hi=>(hF.1 i hi).trans (aS i hi),hF.2.app (a:=[.tup [.str x,.bool b]])⟩)
   ·exact h _ _ ⟨aS,o2⟩ p2 k2
  refine aa h0 ?_;refine bf K d5.ends hn ps h (fun rest J1 p1 k1 h=>?_) fun h=>?_
  ·refine aa (e:=upd e 7 _) (i:=6) h6 ?_;refine ag (ho.keep k1).at_ ?_;refine aa (e:=upd e 7 _) (i:=0) h0 ?_;refine dU K d5.ends LH p1 h fun x rest J2 p2 k2 h=>?_;exact fin x true rest J2 p2 (k1.trans k2) h
  ·refine aa (e:=upd e 7 _) (i:=6) h6 ?_;refine ag ho.at_ ?_;refine aa (e:=upd e 7 _) (i:=0) h0 ?_;refine dU K d5.ends LH ps h fun x rest J2 p2 k2 h=>?_;exact fin x false rest J2 p2 k2 h
noncomputable def rE:Ss:=(.cons (.expr (.ai (.v 0) 3 (.cons (.str [59]) .nil))) (.cons (.set 8 (.ai (.v 0) 12 .nil)) (.cons (.expr (.ai (.v 0) 3 (.cons (.str [59]) .nil))) (.cons (.expr (.bm (.v 2) .append (.cons (.tuple (.cons (.v 5) (.cons (.bi .tuple (.cons (.v 6) .nil)) (.cons (.v 8) .nil)))) .nil))) .nil))))
theorem sC (K:Core T D){n N r t oq op:Nat}{jt:List Tok->PB}{J₀ J:ae}{QQ:QF}{XX:XS}{e:Ev}{x:Tx}{qs:List (Tx×Bool)}{acc:List AV}{ts:List Tok}{β:Type}{G:R β->Prop}{k:(Tx×List (Tx×Bool)×Bl)×List Tok->R β}(hn:2<=n)(hN:N<=n)(hb:nR T D 12 N Bl.av jt)
  (E:∀ e,Ends G (XX e)) (h0:e 0=some (.obj r)) (h2:e 2=some (.obj op)) (h5:e 5=some (.str x)) (h6:e 6=some (.obj oq)) (hp:Own r t op J₀ J acc) (hq:Own r t oq J₀ J (qs.map oU)) (ps:PS J r t ts) (kp:au r J₀ J) (hlen:acc.length<lid)
  (h:G ((lK jt x qs ts).bind k))
  (c:∀ q J',PS J' r t q.2->au r J₀ J'->Own r t op J₀ J' (acc++[.tup [.str q.1.1,.tup (q.1.2.1.map oU),q.1.2.2.av]])->(∀ i m,i≠op->i≠r->J[i]?=some m->J'[i]?=some m)->G (k q)->∀ e',(∀ i,i≠8->e' i=e i)->QQ .next e' J') :
  aH T (aj T D n) rE e J QQ XX:=by
 have E':=fun e=>Ends.bind (f:=k) (E e);refine aa h0 ?_;refine aF K (E' _) hn ps h fun rest J1 p1 k1 h=>?_;refine aa h0 ?_;refine aN hb (K.ck 12 rfl rfl) hN (E' _) p1 h fun b J2 p2 k2 h=>?_;refine aa (e:=upd e 8 _) (i:=0) h0 ?_;refine aF K (E' _) hn p2 h fun rest J3 p3 k3 h=>?_;have kk:=(k1.trans k2).trans k3;have K4:=hp.keep kk;refine aa (e:=upd e 8 _) (i:=2) h2 ?_;refine ag K4.at_ ?_;refine aa (e:=upd e 8 _) (i:=5) h5 ?_;refine aa (e:=upd e 8 _) (i:=6) h6 ?_;refine ag (hq.keep kk).at_ ?_;refine ag K4.at_ ⟨hlen,?_⟩;exact c ((x,qs,b.1),rest) _ (p3.eL K4.r K4.t) ((kp.trans kk).eL K4.new) K4.put (fun i m hi hr hm=>(List.getElem?_set_ne (Ne.symm hi)).trans (kk.get hr hm)) h _ aS
theorem xe (K:Core T D){n N r t ov op:Nat}{jt:List Tok->PB}(hn:2<=n)(hN:N<=n)(hb:nR T D 12 N Bl.av jt)(J₀:ae)(QQ:QF)(XX:XS)(fG:op≠ov)(Qf:ov≠r)(mv:MO) :
  ∀ (g:Nat) (acc:List AV) (ts:List Tok) (e:Ev) (J:ae),e 0=some (.obj r)->e 2=some (.obj op)->Own r t op J₀ J acc->J[ov]?=some mv->acc.length+g<=800000->PS J r t ts->au r J₀ J->
   d5 (dG jt g ts) r t J₀ (fun q e' J'=>e' 0=some (.obj r)∧e' 1=e 1∧e' 2=some (.obj op)∧Own r t op J₀ J' (acc++q.procs)∧J'[ov]?=some mv) QQ XX->
   gr (bb T (aj T D n) pI) (aH T (aj T D n) pJ) g e J QQ XX:=by
 intro g
 induction g with
 | zero=>intro acc ts e J _ _ _ _ _ _ _ h; exact h.elim
 | succ g ih=>
  intro acc ts e J h0 h2 hp hv hl ps kp h;refine aa h0 ?_;refine bf K d5.ends hn ps h (fun rest J1 p1 k1 h=>?_) fun h=>?_
  ·refine aa h0 ?_;refine dU K d5.ends (Ap hn) p1 h fun x rest J2 p2 k2 h=>?_;have OP:=k1.trans k2;have Qe:=hp.keep OP;have Fx:=OP.get Qf hv;have oq:=Own.mk' (l:=[]) p2 (au.refl r J2);have E':=fun e':Ev=>Ends.bind (α:=(Tx×List (Tx×Bool)×Bl)×List Tok) (f:=fun p=>(dG jt g p.2).bind fun q=>.ok (Bl.proc p.1.1 p.1.2.1 p.1.2.2 q.1,q.2)) (d5.ends (r:=r) (t:=t) (J₀:=J₀) (F:=fun q e' J'=>e' 0=some (.obj r)∧e' 1=e 1∧e' 2=some (.obj op)∧Own r t op J₀ J' (acc++q.procs)∧J'[ov]?=some mv) (QQ:=QQ) (XX:=XX) (e:=e'));have fin:∀ (e':Ev) J' (qs:List (Tx×Bool)) rest,PS J' r t rest->au r J2 J'->Own r t J2.length J2 J' (qs.map oU)->e' 0=some (.obj r)->e' 1=e 1->e' 2=some (.obj op)->e' 5=some (.str x)->e' 6=some (.obj J2.length)->
     d5 ((lK jt x qs rest).bind fun p=>(dG jt g p.2).bind fun q=>.ok (Bl.proc p.1.1 p.1.2.1 p.1.2.2 q.1,q.2)) r t J₀ (fun q e' J'=>e' 0=some (.obj r)∧e' 1=e 1∧e' 2=some (.obj op)∧Own r t op J₀ J' (acc++q.procs)∧J'[ov]?=some mv) QQ XX->
     aH T (aj T D n) rE e' J' (fun f e' J2=>match f with
      | .next | .cont=>gr (bb T (aj T D n) pI) (aH T (aj T D n) pJ) g e' J2 QQ XX
      | .brk=>QQ .next e' J2
      | .ret v=>QQ (.ret v) e' J2) XX:=by
    intro e' J' qs rest p' k' o' g0 g1 g2 g5 g6 h;refine sC K hn hN hb (fun e=>d5.ends) g0 g2 g5 g6 (Qe.keep k') ⟨o'.r,o'.t,(kp.trans OP).1,o'.at_⟩ p' ((kp.trans OP).trans k') (OL hl) h ?_;intro q FH KU K2 KV keep hG LM he;exact ih _ q.2 LM FH ((he 0 (by decide)).trans g0) ((he 2 (by decide)).trans g2) KV (keep ov mv (Ne.symm fG) Qf (k'.get Qf Fx)) (Ht hl) KU K2 (d5.map (f:=fun a=>Bl.proc q.1.1 q.1.2.1 q.1.2.2 a) hG fun a e J hF=>⟨hF.1,hF.2.1.trans ((he 1 (by decide)).trans g1),hF.2.2.1,hF.2.2.2.1.app,hF.2.2.2.2⟩)
   have p3:=p2.push (m:=.list []);have k3:au r J2 (J2++[MO.list []]):=(au.refl r J2).push;refine aa (e:=upd (upd e 5 _) 6 _) (i:=0) h0 ?_;refine bf K (E' _) hn p3 h (fun rest J4 p4 k4 h=>?_) fun h=>?_
   ·refine ⟨aY,uv K hn J2 _ _ aY [] rest (upd (upd e 5 (.str x)) 6 (.obj J2.length)) _ h0 rfl (oq.keep k4) (show 400<=800000 by decide) p4 (k3.trans k4) ?_⟩;refine d5.of E' h fun q e' J' hF p' k' h=>?_;obtain ⟨he,oo⟩:=hF;have g0:=(he 0 (by decide)).trans h0;refine aa g0 ?_;refine aF K (E' _) hn p' h fun rest J5 p5 k5 h=>?_;exact fin e' _ q.1 rest p5 (k'.trans k5) (oo.keep k5) g0 (he 1 (by decide)) ((he 2 (by decide)).trans h2) (he 5 (by decide)) (he 6 (by decide)) h
   ·exact fin _ _ [] rest p3 k3 oq h0 rfl h2 rfl rfl h
  ·exact h _ _ ⟨h0,rfl,h2,hp.nil,hv⟩ ps kp
noncomputable def xJ:Ss:=(.cons (.gf pI pJ) (.cons (.expr (.ai (.v 0) 3 (.cons (.str [98,101,103,105,110]) .nil))) (.cons (.set 9 (.ai (.v 0) 10 .nil)) (.cons (.expr (.ai (.v 0) 3 (.cons (.str [101,110,100]) .nil))) (.cons (.ret (.tuple (.cons (.str [98,108,111,99,107]) (.cons (.bi .tuple (.cons (.v 1) .nil)) (.cons (.bi .tuple (.cons (.v 2) .nil)) (.cons (.v 9) .nil)))))) .nil)))))
theorem jo (K:Core T D){n N r t ov op:Nat}{jt:List Tok->PB}{J₀ J:ae}{QQ:QF}{XX:XS}{e:Ev}{vs:List (Tx×Option Nat)}{ts:List Tok}(hn:72<=n)(hN:N<=n)(hb:nR T D 12 N Bl.av jt)
  {Q:QV} {X:QX} (h0:e 0=some (.obj r)) (h1:e 1=some (.obj ov)) (h2:e 2=some (.obj op)) (hv:Own r t ov J₀ J (vs.map uC)) (hp:Own r t op J₀ J []) (fG:op≠ov) (ps:PS J r t ts) (kp:au r J₀ J)
  (h:b8 Bl.av (kW jt vs ts) r t J₀ Q X) (hQ:∀ v e J,Q v J->QQ (.ret v) e J) (hX:∀ e J,X J->XX e J):aH T (aj T D n) xJ e J QQ XX:=by
 have E0:∀ e,Ends (fun res:R (Bl×List Tok)=>b8 Bl.av res r t J₀ Q X) (XX e):=fun e=>⟨fun h J=>hX e J (h J),fun h=>h⟩;have n2:2<=n:=Aa (by decide) hn;refine ⟨aY,xe K n2 hN hb J₀ _ _ fG hv.r _ aY [] ts e J h0 h2 hp hv.at_ (show 400<=800000 by decide) ps kp ?_⟩;refine d5.of E0 h fun q e' J' hF p' k' h=>?_;obtain ⟨g0,g1,g2,VH,sQ⟩:=hF;refine aa g0 ?_;refine aF K (E0 _) n2 p' h fun rest J1 p1 k1 h=>?_;refine aa g0 ?_;refine aN (Bz K) (K.ck 10 rfl rfl) hn (E0 _) p1 h fun s J2 p2 k2 h=>?_;refine aa (e:=upd e' 9 _) (i:=0) g0 ?_;refine aF K (E0 _) n2 p2 h fun rest J3 p3 k3 h=>?_;have kk:=(k1.trans k2).trans k3;refine aa (e:=upd e' 9 _) (i:=1) (g1.trans h1) ?_;refine ag (kk.get hv.r sQ) ?_;refine aa (e:=upd e' 9 _) (i:=2) g2 ?_;refine ag (VH.keep kk).at_ ?_;exact hQ _ _ _ (h _ p3 (k'.trans kk))
theorem Cj (K:Core T D):∀ d,nR T D 12 (d+73) Bl.av (dH d):=by
 intro d
 induction d with
 | zero=>intro n hn r t ts J Q X ps h; exact h.elim
 | succ d ih=>
  intro n hn r t ts J Q X ps h;obtain ⟨n,rfl⟩:=ge1 (Aa (Ar 1 _) hn);have hn:d+73<=n:=Am (Aa (Nat.le_of_eq (Aw d 73 1)) hn);have OJ:72<=n:=Aa (Aa (by decide) (Ar 73 d)) hn;refine ⟨HJ,K.dk 12 rfl rfl,rfl,?_⟩;have ov:=Own.mk' (l:=[]) ps (au.refl r J);have p1:=ps.push (m:=.list []);have k1:au r J (J++[MO.list []]):=(au.refl r J).push;have op:=Own.mk' (l:=[]) p1 k1;have TA:=ov.push (m:=.list []);have p2:=p1.push (m:=.list []);have k2:=k1.push (m:=.list []);have fG:(J++[MO.list []]).length≠J.length:=by rw [Ac]; exact Nat.ne_of_gt (Nat.lt_succ_self _)
  refine bf K b8.ends (Aa (by decide) OJ) p2 h (fun rest J3 p3 k3 h=>?_) fun h=>?_
  ·refine ⟨aY,Bv K (Aa (by decide) OJ) J _ _ fG op.r aY [] rest _ _ rfl rfl (TA.keep k3) (k3.get op.r op.at_) (show 200000<=500000 by decide) p3 (k2.trans k3) ?_⟩;refine d5.of (fun e=>b8.ends) h fun v e' J' hF p' k' h=>?_;obtain ⟨g0,g1,g2,gv,gp⟩:=hF;exact jo K OJ hn ih g0 g1 g2 gv ⟨op.r,op.t,op.new,gp⟩ fG p' k' h (fun v e J q=>q) (fun e J q=>q)
  ·exact jo K OJ hn ih rfl rfl rfl TA op fG p2 k2 h (fun v e J q=>q) (fun e J q=>q)
end
noncomputable def dO (c:Nat):Bool:=cP c||aI c
noncomputable def signs:List Nat:=[43,45,42,61,60,62,40,41,91,93,44,59,58,46]
noncomputable def pairs:List AV:=[.str [58,61],.str [60,62],.str [60,61],.str [62,61]]
noncomputable def tj:List AV:=words.map .str
noncomputable def d0:Tx->Bool
 | []=>false
 | c::_=>cP c
noncomputable def behind (c:Nat):Tx->Option Tx
 | []=>Option.none
 | d::l=>match Nat.beq d c with
  | true=>some l
  | false=>behind c l
noncomputable def lu (c:Nat)(l:Tx):R (Option Tok×Tx):=match d0 ((c::l).dropWhile aI) with
 | true=>.err
 | false=>match Nat.ble ((c::l).takeWhile aI).length 600 with
  | true=>.ok (some (.int (fC ((c::l).takeWhile aI))),(c::l).dropWhile aI)
  | false=>.bot
noncomputable def lk (c:Nat)(l:Tx):R (Option Tok×Tx):=match aG ((c::l).take 2) pairs with
 | true=>.ok (some (.word ((c::l).take 2)),l.drop 1)
 | false=>match bH c signs with
  | true=>.ok (some (.word [c]),l)
  | false=>.err
noncomputable def wK (w r:Tx):R (Option Tok×Tx):=.ok (some (match aG w tj with
 | true=>Tok.word w
 | false=>Tok.name w),r)
noncomputable def cX (c:Nat)(l:Tx):R (Option Tok×Tx):=match bH c [32,10] with
 | true=>.ok (Option.none,l)
 | false=>match Nat.beq c 123 with
 | true=>(match behind 125 l with
  | Option.none=>.err
  | some l'=>.ok (Option.none,l'))
 | false=>match cP c with
 | true=>wK (((c::l).takeWhile dO).map o8) ((c::l).dropWhile dO)
 | false=>match aI c with
 | true=>lu c l
 | false=>lk c l
noncomputable def RO:Tx->R (Option Tok×Tx)
 | []=>.bot
 | c::l=>cX c l
noncomputable def gI:Nat->Tx->R (List Tok)
 | 0,_=>.bot
 | _+1,[]=>.ok []
 | g+1,c::l=>(RO (c::l)).bind fun q=>(gI g q.2).bind fun ts=>.ok (match q.1 with
  | Option.none=>ts
  | some k=>k::ts)
theorem eG {p:Nat->Bool}:∀ l:Tx,l.take (l.takeWhile p).length=l.takeWhile p
 | []=>rfl
 | a::l=>by
  rw [List.takeWhile_cons];cases h:p a
  ·rfl
  ·exact congrArg (a::·) (eG l)
theorem hH {p:Nat->Bool}:∀ l:Tx,l.drop (l.takeWhile p).length=l.dropWhile p
 | []=>rfl
 | a::l=>by
  rw [List.takeWhile_cons,List.dropWhile_cons];cases h:p a
  ·rfl
  ·exact hH l
theorem ud {c n m:Nat}(h:Nat.ble c n=true)(h':Nat.blt n m=true):Nat.blt c m=true:=Nat.ble_eq_true_of_le (Aa (Au (Ad h)) (Ad h'))
theorem qj {a b:Nat}(h:decide (a<=b)=true):Nat.ble a b=true:=Nat.ble_eq_true_of_le (Ax h)
theorem ug {c:Nat}(h:cP c=true):Nat.blt c 128=true:=by
 rcases Bool.or_eq_true_iff.mp h with h | h
 ·exact ud (qj (Ab h).2) rfl
 ·exact ud (qj (Ab h).2) rfl
theorem ub {c:Nat}(h:aI c=true):Nat.blt c 128=true:=ud (qj (Ab h).2) rfl
theorem Bq {c:Nat}(h:dO c=true):Nat.blt c 128=true:=by
 rcases Bool.or_eq_true_iff.mp h with h | h
 ·exact ug h
 ·exact ub h
theorem lD {text:Tx}{i c:Nat}{l:Tx}(hd:text.drop i=c::l):i<text.length∧text[i]?=some c∧text.drop (i+1)=l:=by
 have h1:i<text.length:=by
  apply Nat.lt_of_not_le; intro q; rw [List.drop_eq_nil_of_le q] at hd; cases hd
 have h2:(text.drop i)[0]?=some c:=by rw [hd]; rfl
 rw [List.getElem?_drop] at h2;have h3:text.drop (i+1)=(text.drop i).drop 1:=by rw [List.drop_drop]
 exact ⟨h1,h2,by rw [h3,hd]; rfl⟩
theorem qf {J:ae}{k c:Nat}{l:Tx}{Q:AV->Prop}(h:k<l.length)(h3:l[k]?=some c)(q:Q (.str [c])):iJ (.str l) (.int k) J Q:=aq (bc h) (aq h3 q)
theorem t6 {p:Prop}[Decidable p]{A B:Prop}(h1:p->A)(h2:¬p->B):qE (.bool (decide p)) A B:=aX (fun h=>h1 (Ax h)) fun h=>h2 (of_decide_eq_false h)
section
variable {T:aQ}{C:Calls}
noncomputable def FW (m:Bm):E:=.all (.cons (.cmp .lt (.v 4) (.bi .len (.cons (.v 0) .nil))) (.cons (.bm (.idx (.v 0) (.v 4)) .isascii .nil) (.cons (.bm (.idx (.v 0) (.v 4)) m .nil) .nil)))
theorem rp {p:Nat->Bool}{m:Bm}(hp:∀ c,p c=true->Nat.blt c 128=true)(hm:∀ c J e Q X,Nat.blt c 128=true->Q (.bool (p c)) J->yZ m (.str [c]) J (iK T C .nil e J (fun vs J=>LQ m (.str [c]) vs J Q) X))
  {text:Tx} {J:ae} {j:Nat} {e:Ev} {Q:QV} {X:QX} (h0:e 0=some (.str text)) (h4:e 4=some (.int j)) (q:Q (.bool (match text.drop j with
   | []=>false
   | c::_=>p c)) J):bb T C (FW m) e J Q X:=by
 refine aa h4 ?_;refine aa h0 ?_;refine t6 (fun h=>?_) fun h=>?_
 ·cases hd:text.drop j with
  | nil=>exact absurd (Int.ofNat_lt.mp h) (Nat.not_lt_of_le (List.drop_eq_nil_iff.mp hd))
  | cons c l=>
   obtain ⟨h1,h2,h3⟩:=lD hd;rw [hd] at q;refine aa h0 ?_;refine aa h4 ?_;refine qf h1 h2 ?_;refine aX (fun ha=>?_) fun ha=>?_
   ·refine aa h0 ?_;refine aa h4 ?_;refine qf h1 h2 ?_;exact hm _ _ _ _ _ ha q
   ·cases hc:p c
    ·exact hc▸(show Q (.bool (p c)) J from q)
    ·rw [hp c hc] at ha; cases ha
 ·rw [List.drop_eq_nil_of_le (Nat.le_of_not_lt fun q=>h (Int.ofNat_lt.mpr q))] at q; exact q
theorem vf {p:Nat->Bool}{m:Bm}(hp:∀ c,p c=true->Nat.blt c 128=true)(hm:∀ c J e Q X,Nat.blt c 128=true->Q (.bool (p c)) J->yZ m (.str [c]) J (iK T C .nil e J (fun vs J=>LQ m (.str [c]) vs J Q) X))
  {text:Tx} {J:ae} {QQ:QF} {XX:XS}:∀ (g j:Nat) (e:Ev),e 0=some (.str text)->e 4=some (.int j)->((text.drop j).takeWhile p).length<g->
   (∀ e',(∀ i,i≠4->e' i=e i)->e' 4=some (.int (j+((text.drop j).takeWhile p).length:Nat))->QQ .next e' J)->
   gr (bb T C (FW m)) (aH T C (.cons (.aug 4 .add (.int 1)) .nil)) g e J QQ XX:=by
 intro g
 induction g with
 | zero=>intro j e _ _ h; exact absurd h (Nat.not_lt_zero _)
 | succ g ih=>
  intro j e h0 h4 hg q;refine rp hp hm h0 h4 ?_;cases hd:text.drop j with
  | nil=>rw [hd] at q; exact q e (fun _ _=>rfl) h4
  | cons c l=>
   rw [hd,List.takeWhile_cons] at q hg;cases hc:p c
   ·rw [hc] at q;exact gw hc (q e (fun _ _=>rfl) h4)
   ·rw [hc] at q hg;refine jD hc ?_;refine aa h4 ?_;have h3:=(lD hd).2.2;rw [← h3] at hg q;refine ih (j+1) (upd e 4 (.int (j+1:Nat))) h0 rfl (Nat.lt_of_succ_lt_succ hg) fun e' he qH=>q e' (fun i hi=>(he i hi).trans (aS i hi)) (qH.trans ?_);rw [Aw]; rfl
end
section
variable {T:aQ}{C:Calls}
def QS (res:R (Option Tok×Tx))(text:Tx)(J₀:ae)(acc:List AV)(QQ:QF)(XX:XS):Prop:=match res with
 | .ok q=>∀ e' i',e' 0=some (.str text)->e' 1=some (.obj J₀.length)->e' 2=some (.int (i':Nat))->i'<=text.length->text.drop i'=q.2->∀ f,(f=.next∨f=.cont)->
   QQ f e' (J₀++[.list (acc++(match q.1 with
    | Option.none=>[]
    | some k=>[k.av]))])
 | .err=>∀ e J,XX e J
 | .bot=>False
theorem kP {J:ae}{m m':MO}:(J++[m]).set J.length m'=J++[m']:=by
 rw [List.set_append_right _ _ (Aj _),Nat.sub_self]; rfl
theorem sj {text:Tx}{i k:Nat}:cut text i (i+k)=(text.drop i).take k:=by
 unfold cut; rw [List.drop_take,Nat.add_sub_cancel_left]
theorem Bh {text:Tx}{i:Nat}{p:Nat->Bool}:cut text (Int.toNat i) (Int.toNat (i+((text.drop i).takeWhile p).length:Nat))=(text.drop i).takeWhile p:=by
 show cut text i (i+_)=_;rw [sj,eG]
theorem takeWhile_all {p:Nat->Bool}:∀ (l:Tx),∀ c∈l.takeWhile p,p c=true
 | [],c,hc=>by cases hc
 | a::l,c,hc=>by
  rw [List.takeWhile_cons] at hc;cases h:p a
  ·rw [h] at hc; cases hc
  ·rw [h] at hc;rcases List.mem_cons.mp hc with rfl | hc
   ·exact h
   ·exact takeWhile_all l c hc
theorem vW {text:Tx}{i:Nat}{p:Nat->Bool}:text.drop (i+((text.drop i).takeWhile p).length)=(text.drop i).dropWhile p:=by
 rw [← List.drop_drop,hH]
theorem za {p:Nat->Bool}(l:Tx):(l.takeWhile p).length<=l.length:=by
 have:=congrArg List.length (eG (p:=p) l);rw [List.length_take] at this;exact this▸Nat.min_le_right _ _
theorem zJ {text:Tx}{i:Nat}{p:Nat->Bool}(hi:i<=text.length):i+((text.drop i).takeWhile p).length<=text.length:=by
 have:=za (p:=p) (text.drop i);rw [List.length_drop] at this;exact Aa (Ak this i) (Nat.le_of_eq (Nat.add_sub_of_le hi))
theorem Nq (c:Nat):aG [c] pairs=false:=by
 show ((Nat.beq c 58&&false)||((Nat.beq c 60&&false)||((Nat.beq c 60&&false)||((Nat.beq c 62&&false)||false))))=false;rw [Bool.and_false,Bool.and_false,Bool.and_false]; rfl
theorem D2 {text:Tx}{J₀:ae}{acc:List AV}{i c:Nat}{l:Tx}{e:Ev}{QQ:QF}{XX:XS}(h0:e 0=some (.str text))(h1:e 1=some (.obj J₀.length))(h2:e 2=some (.int i))(h3:e 3=some (.str [c]))(hd:text.drop i=c::l)(hlen:acc.length<lid)
  (h:QS (lk c l) text J₀ acc QQ XX):aH T C (.cons (.set 6 (.slice (.v 0) (.yes (.v 2)) (.yes (.bin .add (.v 2) (.int 2))))) (.cons (.ifs (.cmp .iZ (.v 6) (.tuple (.cons (.str [58,61]) (.cons (.str [60,62]) (.cons (.str [60,61]) (.cons (.str [62,61]) .nil)))))) (.cons (.set 6 (.v 3)) .nil) .nil) (.cons (.ifs (.all (.cons (.cmp .eq (.v 6) (.v 3)) (.cons (.cmp .iZ (.v 3) (.str [43,45,42,61,60,62,40,41,91,93,44,59,58,46])) .nil))) (.cons (.raise (.v 3)) .nil) .nil) (.cons (.expr (.bm (.v 1) .append (.cons (.tuple (.cons (.str [119,111,114,100]) (.cons (.v 6) .nil))) .nil))) (.cons (.aug 2 .add (.bi .len (.cons (.v 6) .nil))) .nil))))) e (J₀++[.list acc]) QQ XX:=by
 obtain ⟨a1,_,a3⟩:=lD hd;refine aa h0 ?_;refine aa h2 ?_;refine aa h2 ?_;refine ⟨Av _,Int.le_add_of_nonneg_right (by decide),?_⟩;rw [show cut text (Int.toNat i) (Int.toNat ((i:Int)+2))=(c::l).take 2 from hd▸sj];refine jJ (fun hm=>?_) fun hm=>?_
 ·unfold lk at h;rw [show aG _ pairs=true from hm] at h;refine aa (e:=upd e 6 _) (i:=3) h3 ?_;cases l with
  | nil=>exact Bool.noConfusion ((Nq c).symm.trans hm)
  | cons c' l=>
   refine gw (Bool.and_false _) ?_;refine aa (e:=upd e 6 _) (i:=1) h1 ?_;refine ag ay ?_;refine ag ay ⟨hlen,?_⟩;rw [kP];refine aa (e:=upd e 6 _) (i:=2) h2 ?_;exact h (upd (upd e 6 _) 2 (.int (i+2:Nat))) (i+2) h0 h1 rfl (lD a3).1 (lD a3).2.2 _ (.inl rfl)
 ·unfold lk at h;rw [show aG _ pairs=false from hm] at h;refine aa (e:=upd e 6 _) (i:=3) h3 ?_;refine aa (e:=upd (upd e 6 _) 6 _) (i:=3) h3 ?_;refine jD (b:=aB [c] [c]) (iu _) ?_;refine aa (e:=upd (upd e 6 _) 6 _) (i:=3) h3 ?_;refine jJ (fun hs=>?_) fun hs=>?_
  ·rw [show bH c signs=true from hs] at h;refine aa (e:=upd (upd e 6 _) 6 _) (i:=1) h1 ?_;refine ag ay ?_;refine ag ay ⟨hlen,?_⟩;rw [kP];refine aa (e:=upd (upd e 6 _) 6 _) (i:=2) h2 ?_;exact h (upd (upd (upd e 6 _) 6 _) 2 (.int (i+1:Nat))) (i+1) h0 h1 rfl a1 a3 _ (.inl rfl)
  ·rw [show bH c signs=false from hs] at h;refine aa (e:=upd (upd e 6 _) 6 _) (i:=3) h3 ?_;exact h _ _
theorem Oe (d c:Nat):(d==c)=Nat.beq d c:=by
 cases h:Nat.beq d c
 ·exact beq_eq_false_iff_ne.mpr fun q=>by rw [q,Nat.beq_refl] at h; cases h
 ·exact beq_iff_eq.mpr (As h)
theorem ky (c:Nat):∀ l:Tx,behind c l=(l.findIdx? (·==c)).map fun k=>l.drop (k+1)
 | []=>rfl
 | d::l=>by
  rw [List.findIdx?_cons,Oe];unfold behind;cases Nat.beq d c
  ·rw [ky c l];show _=Option.map _ (Option.map _ _);cases l.findIdx? (·==c)<;>rfl
  ·rfl
theorem uy (hg:T.glob 0=some (.jr tj)){text:Tx}{J₀:ae}{acc:List AV}{i c:Nat}{l:Tx}{e:Ev}{QQ:QF}{XX:XS}(h0:e 0=some (.str text))(h1:e 1=some (.obj J₀.length))(h2:e 2=some (.int i))(hd:text.drop i=c::l)(hlen:acc.length<lid)
  (h:QS (cX c l) text J₀ acc QQ XX):aH T C uX e (J₀++[.list acc]) QQ XX:=by
 obtain ⟨a1,a2,a3⟩:=lD hd;unfold cX at h;refine aa h0 ?_;refine aa h2 ?_;refine qf a1 a2 ?_;refine aX (fun hb=>?_) fun hb=>?_
 ·rw [hb] at h;refine aa (e:=upd e 3 _) (i:=2) h2 ?_;exact (List.append_nil acc)▸h (upd (upd e 3 _) 2 (.int (i+1:Nat))) (i+1) h0 h1 rfl a1 a3 _ (.inr rfl)
 rw [hb] at h;refine aX (fun hb=>?_) fun hb=>?_
 ·have hn:=(Ab hb).1;have hc:=As hn;rw [hn] at h;refine aa (e:=upd e 3 _) (i:=0) h0 ?_;refine aa (e:=upd e 3 _) (i:=2) h2 ?_;refine ⟨Av _,Int.ofNat_le.mpr (Nat.le_of_lt a1),?_⟩;rw [ky] at h;rw [show og 125 text (Int.toNat i)=(match l.findIdx? (·==125) with
    | some k=>((i+(k+1):Nat):Int)
    | Option.none=>-1) by
   unfold og;rw [Int.toNat_natCast,hd,hc,List.findIdx?_cons];cases l.findIdx? (·==125)<;>rfl]
  cases hk:l.findIdx? (·==125) with
  | none=>rw [hk] at h; exact h _ _
  | some k=>
   rw [hk] at h;have Wx:i+(k+1)<text.length:=by
    have q:=(List.findIdx?_eq_some_iff_getElem.mp hk).1;rw [← a3,List.length_drop] at q; rw [Nat.add_left_comm i k 1]; exact Nat.add_lt_of_lt_sub q
   refine (List.append_nil acc)▸h (upd (upd (upd e 3 _) 4 (.int (i+(k+1):Nat))) 2 (.int (i+(k+1)+1:Nat))) (i+(k+1)+1) h0 h1 rfl Wx ?_ _ (.inr rfl);show _=l.drop (k+1);rw [← a3,List.drop_drop,Aw]
 rw [show Nat.beq c 123=false from (Bool.and_true (Nat.beq c 123)).symm.trans hb] at h;have sg:cP c=false->aI c=false->QS (lk c l) text J₀ acc QQ XX:=fun x y=>by rw [x,y] at h; exact h
 have sgn:cP c=false->aI c=false->_:=fun x y=>D2 (T:=T) (C:=C) (e:=upd e 3 (.str [c])) h0 h1 h2 rfl hd hlen (sg x y);have na:Nat.blt c 128=false->cP c=false∧aI c=false:=fun ha=>⟨Bool.eq_false_iff.mpr fun q=>Bool.noConfusion ((ug q).symm.trans ha),Bool.eq_false_iff.mpr fun q=>Bool.noConfusion ((ub q).symm.trans ha)⟩;have U9:cP c=true->∀ Z:Ev->ae->Prop,aH T C (.cons (.set 4 (.v 2)) (.cons (.gf Gq Gs) (.cons (.set 5 (.bm (.slice (.v 0) (.yes (.v 2)) (.yes (.v 4))) .lower .nil)) (.cons (.expr (.bm (.v 1) .append (.cons (.tuple (.cons (.ite (.cmp .isin (.v 5) (.g 0)) (.str [119,111,114,100]) (.str [110,97,109,101])) (.cons (.v 5) .nil))) .nil))) (.cons (.set 2 (.v 4)) (.cons .cont .nil)))))) (upd e 3 (.str [c])) (J₀++[.list acc]) (fun f e J=>match f with
   | .next=>Z e J
   | f=>QQ f e J) XX:=fun FC Z=>by
  rw [FC] at h;refine aa (e:=upd e 3 _) (i:=2) h2 ?_;refine ⟨text.length+1,vf (text:=text) (p:=dO) (m:=.isalnum) (fun c h=>Bq h) (fun c J e Q X h q=>iR h q) _ i (upd (upd e 3 _) 4 (.int i)) h0 rfl (Nat.lt_succ_of_le (Aa (za _) (by rw [List.length_drop]; exact Nat.sub_le _ _))) fun e' he qH=>?_⟩;have g0:=(he 0 (by decide)).trans h0;have g1:=(he 1 (by decide)).trans h1;have g2:=(he 2 (by decide)).trans h2;refine aa g0 ?_;refine aa g2 ?_;refine aa qH ?_;refine ⟨Av _,Int.ofNat_le.mpr (Af _ _),?_⟩;rw [Bh];refine ⟨fun d hd=>Ad (Bq (takeWhile_all _ d hd)),?_⟩;refine aa (e:=upd e' 5 _) (i:=1) g1 ?_;refine ag ay ?_;refine aq hg ?_;have hr:=vW (text:=text) (i:=i) (p:=dO);have hle:=zJ (p:=dO) (Nat.le_of_lt a1);rw [hd] at hr hle qH ⊢;refine aX (fun hm=>?_) fun hm=>?_
  all_goals
   unfold wK at h;rw [hm] at h;refine ag ay ⟨hlen,?_⟩;rw [kP];refine aa (e:=upd e' 5 _) (i:=4) qH ?_;exact h (upd (upd e' 5 _) 2 _) _ g0 g1 rfl hle hr _ (.inr rfl)
 have num:cP c=false->aI c=true->∀ Z:Ev->ae->Prop,aH T C (.cons (.set 4 (.v 2)) (.cons (.gf Gr Gu) (.cons (.ifs (.all (.cons (.cmp .lt (.v 4) (.bi .len (.cons (.v 0) .nil))) (.cons (.bm (.idx (.v 0) (.v 4)) .isascii .nil) (.cons (.bm (.idx (.v 0) (.v 4)) .isalpha .nil) .nil)))) (.cons (.raise (.str [105,110,116])) .nil) .nil) (.cons (.expr (.bm (.v 1) .append (.cons (.tuple (.cons (.str [105,110,116]) (.cons (.bi .int (.cons (.slice (.v 0) (.yes (.v 2)) (.yes (.v 4))) .nil)) .nil))) .nil))) (.cons (.set 2 (.v 4)) (.cons .cont .nil)))))) (upd e 3 (.str [c])) (J₀++[.list acc]) (fun f e J=>match f with
   | .next=>Z e J
   | f=>QQ f e J) XX:=fun FC K6 Z=>by
  rw [FC,K6] at h;refine aa (e:=upd e 3 _) (i:=2) h2 ?_;refine ⟨text.length+1,vf (text:=text) (p:=aI) (m:=.isdigit) (fun c h=>ub h) (fun c J e Q X h q=>iR h q) _ i (upd (upd e 3 _) 4 (.int i)) h0 rfl (Nat.lt_succ_of_le (Aa (za _) (by rw [List.length_drop]; exact Nat.sub_le _ _))) fun e' he qH=>?_⟩;have g0:=(he 0 (by decide)).trans h0;have g1:=(he 1 (by decide)).trans h1;have g2:=(he 2 (by decide)).trans h2;have hr:=vW (text:=text) (i:=i) (p:=aI);have hle:=zJ (p:=aI) (Nat.le_of_lt a1);refine rp (p:=cP) (m:=.isalpha) (fun c h=>ug h) (fun c J e Q X h q=>iR h q) g0 qH ?_;rw [hr];refine aX (b:=d0 ((text.drop i).dropWhile aI)) (fun hs=>?_) fun hs=>?_
  ·rw [hd] at hs;unfold lu at h;rw [hs] at h;exact h _ _
  refine aa g1 ?_;refine ag ay ?_;refine aa g0 ?_;refine aa g2 ?_;refine aa qH ?_;refine ⟨Av _,Int.ofNat_le.mpr (Af _ _),?_⟩;rw [Bh];have My:=List.all_eq_true.mpr (takeWhile_all (p:=aI) (text.drop i));rw [hd] at hs hr hle qH My ⊢;unfold lu at h;rw [hs] at h;cases Qr:Nat.ble (List.takeWhile aI (c::l)).length 600 with
  | false=>rw [Qr] at h; exact h.elim
  | true=>
   rw [Qr] at h;refine ⟨(by rw [List.takeWhile_cons,K6]; exact List.cons_ne_nil _ _),Ad Qr,My,?_⟩;refine ag ay ⟨hlen,?_⟩;rw [kP];refine aa qH ?_;exact h (upd e' 2 _) _ g0 g1 rfl hle hr _ (.inr rfl)
 refine aX (fun ha=>?_) fun ha=>?_
 ·refine iR ha ?_;refine aX (fun FC=>?_) fun FC=>?_
  ·exact U9 FC _
  ·refine jD ha ?_;refine iR ha ?_;refine aX (fun K6=>?_) fun K6=>?_
   ·exact num FC K6 _
   ·exact sgn FC K6
 ·refine gw (b:=Nat.blt c 128) ha ?_;exact sgn (na ha).1 (na ha).2
def Pk (res:R (List Tok))(J₀:ae)(acc:List AV)(QQ:QF)(XX:XS):Prop:=match res with
 | .ok ts=>∀ e',e' 1=some (.obj J₀.length)->QQ .next e' (J₀++[.list (acc++ts.map Tok.av)])
 | .err=>∀ e J,XX e J
 | .bot=>False
theorem Ep (hg:T.glob 0=some (.jr tj)){text:Tx}{J₀:ae}{QQ:QF}{XX:XS}:∀ (g:Nat) (acc:List AV) (i:Nat) (e:Ev),e 0=some (.str text)->e 1=some (.obj J₀.length)->e 2=some (.int i)->acc.length+g<=800000->
  Pk (gI g (text.drop i)) J₀ acc QQ XX->gr (bb T C zo) (aH T C uX) g e (J₀++[.list acc]) QQ XX:=by
 intro g
 induction g with
 | zero=>intro acc i e _ _ _ _ h; exact h.elim
 | succ g ih=>
  intro acc i e h0 h1 h2 hl h;refine aa h2 ?_;refine aa h0 ?_;cases hd:text.drop i with
  | nil=>
   rw [hd] at h;refine gw (b:=decide ((i:Int)<(text.length:Int))) (decide_eq_false fun q=>Nat.not_lt_of_le (List.drop_eq_nil_iff.mp hd) (Int.ofNat_lt.mp q)) ?_;exact (List.append_nil acc)▸h e h1
  | cons c l=>
   rw [hd] at h;refine jD (b:=decide ((i:Int)<(text.length:Int))) (decide_eq_true (Int.ofNat_lt.mpr (lD hd).1)) ?_;refine uy hg h0 h1 h2 hd (OL hl) ?_;have h:Pk ((cX c l).bind fun q=>(gI g q.2).bind fun ts=>.ok (match q.1 with
    | Option.none=>ts
    | some k=>k::ts)) J₀ acc QQ XX:=h
   cases hs:cX c l with
   | bot=>rw [hs] at h; exact h.elim
   | err=>rw [hs] at h; exact h
   | ok q=>
    rw [hs] at h;intro e' i' g0 g1 g2 gi gd f hf;have key:gr (bb T C zo) (aH T C uX) g e' (J₀++[MO.list (acc++match q.1 with
      | Option.none=>[]
      | some k=>[k.av])]) QQ XX:=by
     have ye:∀ m,acc.length+m<=acc.length+1->acc.length+m+g<=800000:=fun m hm=>Aa (Al hm g) (Aa (Nat.le_of_eq (Aw _ 1 g)) hl);refine ih _ i' e' g0 g1 g2 ?_ ?_
     ·rw [Ac];rcases q with ⟨_ | k,q2⟩
      ·exact ye 0 (Nat.le_succ _)
      ·exact ye 1 (Aj _)
     ·rw [gd];have h:Pk ((gI g q.2).bind fun ts=>.ok (match q.1 with
       | Option.none=>ts
       | some k=>k::ts)) J₀ acc QQ XX:=h
      cases hf:gI g q.2 with
      | bot=>rw [hf] at h; exact h.elim
      | err=>rw [hf] at h; exact h
      | ok ts=>
       rw [hf] at h;intro LM Sx;have:=h LM Sx;rcases q with ⟨_ | k,q2⟩
       ·rw [Ae]; exact this
       ·rw [Ae]; exact this
    rcases hf with rfl | rfl<;>exact key
end
theorem rS:∀ (g:Nat) (l:Tx) (ts:List Tok),gI g l=.ok ts->ts.length<=g
 | 0,_,_,h=>by cases h
 | g+1,[],_,h=>by cases h; exact Nat.zero_le _
 | g+1,c::l,ts,h=>by
  have h:((cX c l).bind fun q=>(gI g q.2).bind fun ts=>.ok (match q.1 with
    | Option.none=>ts
    | some k=>k::ts))=.ok ts:=h
  cases hs:cX c l with
  | bot=>rw [hs] at h; cases h
  | err=>rw [hs] at h; cases h
  | ok q=>
   rw [hs] at h;have h:((gI g q.2).bind fun ts=>R.ok (match q.1 with
    | Option.none=>ts
    | some k=>k::ts))=.ok ts:=h
   cases hf:gI g q.2 with
   | bot=>rw [hf] at h; cases h
   | err=>rw [hf] at h; cases h
   | ok us=>
    rw [hf] at h;have:=rS g _ _ hf;rcases q with ⟨_ | k,q2⟩<;>cases h
    ·exact Nat.le_succ_of_le this
    ·exact Au this
section
variable {T:aQ}{D:Nat->Option aD}
noncomputable def pa:Nat:=4000
noncomputable def qM (text:Tx):R (List Tok):=(gI pa text).bind fun ts=>.ok (ts++[.fin])
theorem IZ (K:Core T D){n:Nat}{text:Tx}{J:ae}{Q:QV}{X:QX}(hn:1<=n)
  (h:match qM text with
   | .ok ts=>∀ J',J.length<=J'.length->(∀ i,i<J.length->J'[i]?=J[i]?)->∀ o,J.length<=o->J'[o]?=some (.list (ts.map Tok.av))->Q (.obj o) J'
   | .err=>∀ J',X J'
   | .bot=>False):aj T D n 0 [.str text] J Q X:=by
 obtain ⟨n,rfl⟩:=ge1 hn;refine ⟨P7,K.dk 0 rfl rfl,rfl,pa,Ep K.g0 pa [] 0 _ rfl rfl rfl (show 4000<=800000 by decide) ?_⟩;revert h;unfold qM Pk R.bind;rw [List.drop_zero];cases hx:gI pa text with
 | bot=>exact id
 | err=>intro h e J; exact h _
 | ok ts=>
  intro h e' h1;refine aa h1 ?_;refine ag (ar ay) ?_;refine ag ay ⟨?_,?_⟩
  ·have:=rS _ _ _ hx;rw [List.nil_append,Ah];exact Aa (Al this 1) (show 4001<=lid by decide)
  refine h _ ?_ (fun i hi=>?_) _ ?_ ?_
  ·rw [Ac,Ac,Ac,Nat.add_assoc,Nat.add_assoc]; exact Af _ _
  ·have h2:i<(J++[MO.list ([]++ts.map Tok.av)]).length:=by rw [Ac]; exact Nat.lt_add_right _ hi
   rw [List.getElem?_append_left (by rw [Ac]; exact Nat.lt_add_right _ h2),List.getElem?_append_left h2,List.getElem?_append_left hi]
  ·rw [Ac,Ac,Nat.add_assoc]; exact Af _ _
  ·rw [ay,List.map_append]; rfl
end
def Ext (J J':ae):Prop:=J.length<=J'.length∧∀ i,i<J.length->J'[i]?=J[i]?
theorem Ext.refl (J:ae):Ext J J:=⟨Aj _,fun _ _=>rfl⟩
theorem Ext.trans {a b c:ae}(h:Ext a b)(h':Ext b c):Ext a c:=⟨Aa h.1 h'.1,fun i hi=>by rw [h'.2 i (An hi h.1),h.2 i hi]⟩
theorem Ext.get {J J':ae}{o:Nat}{m:MO}(k:Ext J J')(h:J[o]?=some m):J'[o]?=some m:=by
 rw [k.2 o (Ai h).1,h]
theorem Ext.push {J₀ J:ae}{m:MO}(h:Ext J₀ J):Ext J₀ (J++[m]):=
 ⟨Aa h.1 (by rw [Ac]; exact Af _ _),fun i hi=>by rw [List.getElem?_append_left (An hi h.1),h.2 i hi]⟩
theorem Ext.eL {o:Nat}{J₀ J:ae}{m:MO}(h:Ext J₀ J)(ho:J₀.length<=o):Ext J₀ (J.set o m):=
 ⟨by rw [List.length_set]; exact h.1,fun i hi=>by rw [List.getElem?_set_ne (Nat.ne_of_gt (An hi ho)),h.2 i hi]⟩
theorem au.ext {r:Nat}{J₀ J J':ae}(h:Ext J₀ J)(hr:J₀.length<=r)(k:au r J J'):Ext J₀ J':=
 ⟨Aa h.1 k.1,fun i hi=>by rw [k.2 i (Nat.ne_of_lt (An hi hr)) (An hi h.1),h.2 i hi]⟩
def yE {α:Type}(enc:α->AV)(res:R α)(J₀:ae)(Q:QV)(X:QX):Prop:=match res with
 | .ok a=>∀ J',Ext J₀ J'->Q (enc a) J'
 | .err=>∀ J',X J'
 | .bot=>False
theorem yE.ends {α:Type}{enc:α->AV}{J₀:ae}{Q:QV}{X:QX}:Ends (fun res=>yE enc res J₀ Q X) X:=⟨fun h=>h,fun h=>h⟩
noncomputable def dF (text:Tx):R (Tx×Bl):=(qM text).bind jg
noncomputable def z4 (q:Tx×Bl):AV:=.tup [.str wProgram,.str q.1,q.2.av]
section
variable {T:aQ}{D:Nat->Option aD}
theorem BR (K:Core T D){n:Nat}{text:Tx}{J:ae}{Q:QV}{X:QX}(hn:90<=n)(h:yE z4 (dF text) J Q X):aj T D n 13 [.str text] J Q X:=by
 obtain ⟨n,rfl⟩:=O8 (Aa (by decide) hn);have hn:88<=n:=Am (Am hn);refine ⟨HI,K.dk 13 rfl rfl,rfl,?_⟩;refine ⟨1,K.i0,K.ck 1 rfl rfl,?_⟩;refine ⟨PZ,K.dk 1 rfl rfl,rfl,?_⟩;refine ⟨K.ck 0 rfl rfl,?_⟩;refine IZ K (Aa (by decide) hn) ?_;unfold dF at h;cases hx:qM text with
 | bot=>rw [hx] at h; exact h.elim
 | err=>rw [hx] at h; exact h
 | ok ts=>
  rw [hx] at h;intro J1 l1 k1 o ho hl;have e0:Ext (J++[MO.inst 0 []]) J1:=⟨l1,k1⟩;have hr:J1[J.length]?=some (.inst 0 []):=e0.get ay;have T5:=get_set (m:=.inst 0 [(.ts,.obj o)]) hr;refine pA hr ?_;refine pA T5 ?_;refine ⟨rfl,?_⟩;have Mr:J.length≠o:=Nat.ne_of_lt (An (by rw [Ac]; exact Nat.lt_succ_self _) ho);have ps:PS ((J1.set J.length (.inst 0 [(.ts,.obj o)])).set J.length (.inst 0 [(.ts,.obj o),(.pos,.int 0)])) J.length o ts:=
   ⟨ts.map Tok.av,0,get_set T5,by rw [List.getElem?_set_ne Mr,List.getElem?_set_ne Mr,hl],rfl⟩
  have e2:=(((Ext.refl J).push.trans e0).eL (m:=.inst 0 [(.ts,.obj o)]) (Aj _)).eL (m:=.inst 0 [(.ts,.obj o),(.pos,.int 0)]) (Aj _);have n2:2<=n+1:=Nat.le_succ_of_le (Aa (by decide) hn);refine aF K yE.ends n2 ps h fun rest J3 p3 k3 h=>?_;refine dU K yE.ends (Ap n2) p3 h fun x rest J4 p4 k4 h=>?_;refine aF K yE.ends n2 p4 h fun rest J5 p5 k5 h=>?_;refine aN (Cj K dB) (K.ck 12 rfl rfl) (Nat.le_succ_of_le (Aa (show dB+73<=88 by decide) hn)) yE.ends p5 h fun b J6 p6 k6 h=>?_;refine aF K yE.ends n2 p6 h fun rest J7 p7 k7 h=>?_;cases rest with
  | nil=>exact h.elim
  | cons k rest=>
   refine fY p7 ?_;cases k with
   | fin=>exact h _ (au.ext e2 (Aj _) ((((k3.trans k4).trans k5).trans k6).trans k7))
   | word w=>exact h _
   | name w=>exact h _
   | int w=>exact h _
end
inductive In where
 | lit (n:Nat) | eU (l a:Nat) | yc (l a:Nat) | x6 (l a:Nat) | yv | oQ | uI (n:Nat) | fH (s:Tx)
 | jmp (p:Nat) | gE (p:Nat) | int (n:Nat) | uJ (l a n:Nat) | ret | Fq | tick | sT | wd
noncomputable def R1:Tx:=[108,105,116]
noncomputable def R0:Tx:=[108,111,100]
noncomputable def R3:Tx:=[108,100,97]
noncomputable def RX:Tx:=[115,116,111]
noncomputable def R2:Tx:=[108,100,105]
noncomputable def RY:Tx:=[115,116,105]
noncomputable def R4:Tx:=[99,104,107]
noncomputable def Dn:Tx:=[111,112,114]
noncomputable def Mn:Tx:=[106,109,112]
noncomputable def Mm:Tx:=[106,112,99]
noncomputable def R5:Tx:=[99,97,108]
noncomputable def RZ:Tx:=[114,101,116]
noncomputable def RU:Tx:=[119,114,116]
noncomputable def NG:Tx:=[116,105,99,107]
noncomputable def In.av:In->AV
 | .lit n=>.tup [.str R1,.int n]
 | .eU l a=>.tup [.str R0,.int l,.int a]
 | .yc l a=>.tup [.str R3,.int l,.int a]
 | .x6 l a=>.tup [.str RX,.int l,.int a]
 | .yv=>.tup [.str R2]
 | .oQ=>.tup [.str RY]
 | .uI n=>.tup [.str R4,.int n]
 | .fH s=>.tup [.str Dn,.str s]
 | .jmp p=>.tup [.str Mn,.int p]
 | .gE p=>.tup [.str Mm,.int p]
 | .int n=>.tup [.str ly,.int n]
 | .uJ l a n=>.tup [.str R5,.int l,.int a,.int n]
 | .ret=>.tup [.str RZ]
 | .Fq=>.tup [.str RU]
 | .tick=>.tup [.str NG]
 | .sT=>.tup [.str Mn,.none]
 | .wd=>.tup [.str Mm,.none]
inductive Sc where
 | var (a:Nat) | ref (a:Nat) | arr (a z:Nat) | proc (p:Nat) (q:List (Tx×Bool))
noncomputable def Hu:Tx:=[114,101,102]
noncomputable def uV:Tx:=[112,114,111,99]
noncomputable def Sc.kind:Sc->Tx
 | .var _=>ly | .ref _=>Hu | .arr ..=>ph | .proc ..=>uV
noncomputable def Sc.av:Sc->AV
 | .var a=>.tup [.str ly,.int a]
 | .ref a=>.tup [.str Hu,.int a]
 | .arr a z=>.tup [.str ph,.int a,.int z]
 | .proc p q=>.tup [.str uV,.int p,.tup (q.map oU)]
abbrev Scope:=List (Tx×Sc)
noncomputable def dR (s:Scope):List (Tx×AV):=s.map fun q=>(q.1,q.2.av)
noncomputable def kc (x:Tx):Scope->Option Sc
 | []=>Option.none
 | (y,e)::r=>match aB x y with
  | true=>some e
  | false=>kc x r
noncomputable def dz (x:Tx)(v:Sc):Scope->Scope
 | []=>[(x,v)]
 | (y,w)::r=>match aB y x with
  | true=>(y,v)::r
  | false=>(y,w)::dz x v r
theorem Ih (x y:Tx):(x==y)=aB x y:=by
 cases h:aB x y
 ·exact beq_eq_false_iff_ne.mpr fun q=>by rw [q,iu] at h; cases h
 ·exact beq_iff_eq.mpr (eP h)
theorem jU (x:Tx):∀ s:Scope,(dR s).lookup x=(kc x s).map Sc.av
 | []=>rfl
 | (y,e)::r=>by
  show List.lookup x ((y,e.av)::dR r)=_;rw [List.lookup_cons,Ih,jU x r];show _=Option.map Sc.av (match aB x y with
   | true=>some e
   | false=>kc x r)
  cases aB x y<;>rfl
theorem rD (x:Tx)(v:Sc):∀ s:Scope,putD x v.av (dR s)=dR (dz x v s)
 | []=>rfl
 | (y,e)::r=>by
  show putD x v.av ((y,e.av)::dR r)=_;show cond (aB y x) _ ((y,e.av)::putD x v.av (dR r))=dR (match aB y x with
   | true=>(y,v)::r
   | false=>(y,e)::dz x v r)
  rw [rD x v r];cases aB y x<;>rfl
theorem ey (x:Tx)(v:Sc):∀ s:Scope,(dz x v s).length<=s.length+1
 | []=>Aj _
 | (y,e)::r=>by
  show (match aB y x with
   | true=>(y,v)::r
   | false=>(y,e)::dz x v r).length<=_
  cases aB y x
  ·exact Au (ey x v r)
  ·exact Nat.le_succ _
noncomputable def findS (x:Tx):List Scope->Nat->Option (Nat×Sc)
 | [],_=>Option.none
 | s::r,l=>match kc x s with
  | some e=>some (l,e)
  | Option.none=>findS x r (l+1)
noncomputable def lE (sc:List Scope)(x:Tx):R (List In):=match findS x sc 0 with
 | some (l,.var a)=>.ok [.eU l a]
 | some (l,.ref a)=>.ok [.eU l a,.yv]
 | _=>.err
noncomputable def cN (sc:List Scope)(x:Tx):R (List In):=match findS x sc 0 with
 | some (l,.var a)=>.ok [.yc l a]
 | some (l,.ref a)=>.ok [.eU l a]
 | _=>.err
noncomputable def yC (sc:List Scope)(x:Tx)(i:R (List In)):R (List In):=match findS x sc 0 with
 | some (l,.arr a z)=>i.bind fun c=>.ok (c++[.uI z,.yc l a,.fH nT])
 | _=>.err
noncomputable def cK (sc:List Scope):Ex->R (List In)
 | .int n=>.ok [.lit n]
 | .name x=>lE sc x
 | .at x e=>(yC sc x (cK sc e)).bind fun c=>.ok (c++[.yv])
 | .neg e=>(cK sc e).bind fun c=>.ok (c++[.fH ta])
 | .odd e=>(cK sc e).bind fun c=>.ok (c++[.fH qN])
 | .bin o a b=>(cK sc a).bind fun c=>(cK sc b).bind fun d=>.ok (c++d++[.fH o])
noncomputable def zC (sc:List Scope):Ex->R (List In)
 | .name x=>cN sc x
 | .at x e=>yC sc x (cK sc e)
 | _=>.err
noncomputable def gj (sc:List Scope):List Bool->List Ex->R (List In)
 | v::vs,e::es=>(match v with
  | true=>zC sc e
  | false=>cK sc e).bind fun c=>(gj sc vs es).bind fun d=>.ok (c++d)
 | [],[]=>.ok []
 | _,_=>.err
noncomputable def bk (sc:List Scope):Nat->Nat->St->R (List In)
 | _,_,.empty=>.ok []
 | _,_,.set x e=>(cN sc x).bind fun c=>(cK sc e).bind fun d=>.ok (c++d++[.oQ])
 | _,_,.setAt x i e=>(yC sc x (cK sc i)).bind fun c=>(cK sc e).bind fun d=>.ok (c++d++[.oQ])
 | _,_,.call x as=>(match findS x sc 0 with
  | some (l,.proc a q)=>(match Nat.beq q.length as.length with
   | true=>(gj sc (q.map (·.2)) as).bind fun c=>.ok (c++[.tick,.uJ l a as.length])
   | false=>.err)
  | _=>.err)
 | f,p,.if1 c a=>(cK sc c).bind fun v=>(bk sc f (p+v.length+1) a).bind fun s=>.ok (v++[.gE (p+v.length+1+s.length)]++s)
 | f,p,.if2 c a b=>(cK sc c).bind fun v=>(bk sc f (p+v.length+1) a).bind fun s=>(bk sc f (p+v.length+1+s.length+1) b).bind fun t=>
   .ok (v++[.gE (p+v.length+1+s.length+1)]++s++[.jmp (p+v.length+1+s.length+1+t.length)]++t)
 | f,p,.gf c a=>(cK sc c).bind fun v=>(bk sc f (p+v.length+2) a).bind fun s=>.ok (v++[.tick,.gE (p+v.length+2+s.length+1)]++s++[.jmp p])
 | f,p,.rep r c=>(bk sc f p r).bind fun s=>(cK sc c).bind fun v=>.ok (s++v++[.tick,.gE p])
 | f,p,.for x a b up s=>(cN sc x).bind fun w=>(cK sc a).bind fun u=>(cK sc b).bind fun v=>
   let top:=p+u.length+v.length
   (bk sc (f+2) (top+5+w.length+2) s).bind fun t=>
   let k:=top+5+w.length+2+t.length+5
   .ok (u++v++[.tick,.eU 0 f,.eU 0 (f+1),.fH (cond up [60,61] [62,61]),.gE k]++w++[.eU 0 f,.oQ]++t++[.eU 0 f,.lit 1,.fH (cond up [43] [45]),.x6 0 f,.jmp top,.gE (k+1),.gE (k+2)])
 | f,p,.nk s=>bk sc f p s
 | _,_,.write e=>(cK sc e).bind fun c=>.ok (c++[.Fq])
 | f,p,.one s=>bk sc f p s
 | f,p,.seq s r=>(bk sc f p s).bind fun c=>(bk sc f (p+c.length) r).bind fun d=>.ok (c++d)
noncomputable def Ex.sz:Ex->Nat
 | .int _=>1 | .name _=>2 | .at _ e=>e.sz+4 | .neg e=>e.sz+1 | .odd e=>e.sz+1 | .bin _ a b=>a.sz+(b.sz+1)
noncomputable def GP:List Ex->Nat
 | []=>0
 | e::r=>e.sz+GP r
noncomputable def St.sz:St->Nat
 | .empty=>0 | .set _ e=>1+(e.sz+1) | .setAt _ i e=>i.sz+3+(e.sz+1) | .call _ as=>GP as+2 | .if1 c a=>c.sz+(1+a.sz) | .if2 c a b=>c.sz+(1+(a.sz+(1+b.sz)))
 | .gf c a=>c.sz+(2+(a.sz+1)) | .rep s c=>s.sz+(c.sz+2) | .for _ a b _ s=>a.sz+(b.sz+(6+(2+(s.sz+7)))) | .nk s=>s.sz | .write e=>e.sz+1 | .one s=>s.sz | .seq s r=>s.sz+r.sz
noncomputable def Ex.fu:Ex->Nat
 | .int _=>2 | .name _=>3 | .at _ e=>max 3 (e.fu+1)+1 | .neg e=>e.fu+1 | .odd e=>e.fu+1 | .bin _ a b=>max a.fu b.fu+1
noncomputable def O9:List Ex->Nat
 | []=>3
 | e::r=>max e.fu (O9 r)
noncomputable def St.fu:St->Nat
 | .empty=>1 | .set _ e=>max 4 e.fu+1 | .setAt _ i e=>max (max 3 (i.fu+1)) e.fu+1 | .call _ as=>O9 as+1 | .if1 c a=>max c.fu a.fu+1 | .if2 c a b=>max c.fu (max a.fu b.fu)+1
 | .gf c a=>max c.fu a.fu+1 | .rep s c=>max s.fu c.fu+1 | .for _ a b _ s=>max (max 4 s.fu) (max a.fu b.fu)+1 | .nk s=>s.fu+1 | .write e=>e.fu+1 | .one s=>s.fu | .seq s r=>max s.fu r.fu
theorem R.ao {α β:Type}{m:R α}{f:α->R β}{b:β}(h:m.bind f=.ok b):∃ a,m=.ok a∧f a=.ok b:=by
 cases m with
 | ok a=>exact ⟨a,rfl,h⟩
 | err=>cases h
 | bot=>cases h
noncomputable def bK (J:ae):List Nat->List Scope->Prop
 | [],[]=>True
 | d::ds,s::sc=>J[d]?=some (.dict (dR s))∧bK J ds sc
 | _,_=>False
theorem bK.keep {J J':ae}{t:Nat}(k:au t J J'){L:List AV}(ht:J[t]?=some (.list L)):∀ {ds:List Nat} {sc:List Scope},bK J ds sc->bK J' ds sc
 | [],[],_=>trivial
 | d::ds,s::sc,h=>⟨k.get (by rintro rfl; have:=ht.symm.trans h.1; cases this) h.1,bK.keep k ht h.2⟩
 | [],_::_,h=>h.elim
 | _::_,[],h=>h.elim
theorem bK.len {J:ae}:∀ {ds:List Nat} {sc:List Scope},bK J ds sc->ds.length=sc.length
 | [],[],_=>rfl
 | d::ds,s::sc,h=>congrArg Nat.succ (bK.len h.2)
 | [],_::_,h=>h.elim
 | _::_,[],h=>h.elim
theorem bK.get {J:ae}:∀ {ds:List Nat} {sc:List Scope} {l:Nat} {s:Scope} {r:List Scope},bK J ds sc->sc.drop l=s::r->∃ d,ds[l]?=some d∧J[d]?=some (.dict (dR s))∧l<ds.length
 | d::ds,s::sc,0,_,_,h,e=>by cases e; exact ⟨d,rfl,h.1,Nat.succ_pos _⟩
 | d::ds,s::sc,l+1,_,_,h,e=>by obtain ⟨d,a,b,c⟩:=bK.get h.2 e; exact ⟨d,a,b,Nat.succ_lt_succ c⟩
 | [],[],l,_,_,h,e=>by rw [List.drop_nil] at e; cases e
 | [],_::_,_,_,_,h,_=>h.elim
 | _::_,[],_,_,_,h,_=>h.elim
theorem au.self {J:ae}{t:Nat}{m:MO}:au t J (J.set t m):=⟨by rw [List.length_set]; exact Aj _,fun i hi _=>List.getElem?_set_ne (Ne.symm hi)⟩
structure Fr where
 r:Nat
 t:Nat
 so:Nat
 ds:List Nat
 sc:List Scope
 b:ae
structure H7 (F:Fr):Prop where
 b0:∃ l,F.b[F.t]?=some (.list l)
 b1:F.b[F.r]?=some (.inst 1 [(.code,.obj F.t)])
 b2:F.b[F.so]?=some (.list (F.ds.reverse.map AV.obj))
 b3:bK F.b F.ds F.sc
 n2:F.so≠F.t
 ln:F.ds.length<=1000
structure Cx (F:Fr)(J:ae)(L:List In)(b:List Nat):Prop where
 ok:H7 F
 c2:J[F.t]?=some (.list (L.map In.av))
 kp:au F.t F.b J
 rm:L.length+b.sum<=900000
theorem H7.n1 {F:Fr}(h:H7 F):F.r≠F.t:=fun e=>by
 obtain ⟨l,hl⟩:=h.b0;have:=(e▸h.b1).symm.trans hl; cases this
theorem Cx.c1 {F:Fr}{J:ae}{L:List In}{b:List Nat}(h:Cx F J L b):J[F.r]?=some (.inst 1 [(.code,.obj F.t)]):=h.kp.get h.ok.n1 h.ok.b1
theorem Cx.s1 {F:Fr}{J:ae}{L:List In}{b:List Nat}(h:Cx F J L b):J[F.so]?=some (.list (F.ds.reverse.map AV.obj)):=h.kp.get h.ok.n2 h.ok.b2
theorem Cx.s2 {F:Fr}{J:ae}{L:List In}{b:List Nat}(h:Cx F J L b):bK J F.ds F.sc:=by
 obtain ⟨l,hl⟩:=h.ok.b0;exact h.ok.b3.keep h.kp hl
theorem Cx.sp {F:Fr}{J:ae}{L:List In}{x y:Nat}{b:List Nat}(h:Cx F J L ((x+y)::b)):Cx F J L (x::y::b):=⟨h.ok,h.c2,h.kp,Aa (Nat.le_of_eq (by rw [List.sum_cons,List.sum_cons,List.sum_cons,Nat.add_assoc])) h.rm⟩
theorem Cx.pad {F:Fr}{J:ae}{L:List In}{x y:Nat}{b:List Nat}(h:Cx F J L (x::b))(l:y<=x):Cx F J L (y::b):=⟨h.ok,h.c2,h.kp,Aa (Ak (by rw [List.sum_cons,List.sum_cons]; exact Al l _) _) h.rm⟩
theorem Cx.j {F:Fr}{J:ae}{L c d:List In}{b:List Nat}(h:Cx F J (L++c++d) b):Cx F J (L++(c++d)) b:=Ae L c d▸h
theorem Bg {J:ae}{r:Nat}{l:List (Tx×AV)}{Q:List (Tx×AV)->Prop}(h1:J[r]?=some (.dict l))(q:Q l):wO r J Q:=by
 unfold wO; exact ⟨_,h1,q⟩
theorem a8 {F:Fr}{J:ae}{L:List In}{b:List Nat}{Q:AV->Prop}(h:Cx F J L b)(q:Q (.obj F.t)):gk (.obj F.r) .code J Q:=ip h.c1 rfl rfl q
theorem rX {J:ae}{d:Nat}{s:Scope}{x:Tx}{e:Sc}{Q:AV->Prop}(h:J[d]?=some (.dict (dR s)))(h2:kc x s=some e)(q:Q e.av):iJ (.obj d) (.str x) J Q:=
 Bg h (aq (by rw [jU,h2]; rfl) q)
theorem in_dict {J:ae}{d:Nat}{s:Scope}{x:Tx}{Q:Bool->Prop}(h:J[d]?=some (.dict (dR s)))(q:Q (kc x s).isSome):s9 x d J Q:=by
 unfold s9;refine .inr ⟨_,h,?_⟩;rw [jU,Option.isSome_map]; exact q
section
variable {T:aQ}{D:Nat->Option aD}
theorem cm {F:Fr}{J:ae}{f:Nat}{L:List In}{b:List Nat}{P:Nat->Prop}(h:Cx F J L b)(hc:T.bX f=some 1)(hp:P F.r):bG T f (.obj F.r) J P:=by
 unfold bG; exact ⟨F.r,1,_,rfl,h.c1,hc,hp⟩
theorem eQ (K:Core T D){n:Nat}{b:Bool}{w:Tx}{J:ae}{Q:QV}{X:QX}(hn:1<=n)(h1:b=true->Q .none J)(h2:b=false->X J):aj T D n 14 [.bool b,.str w] J Q X:=by
 obtain ⟨n,rfl⟩:=ge1 hn;refine ⟨HH,K.dk 14 rfl rfl,rfl,?_⟩;exact jJ (fun h=>h1 h) fun h=>h2 h
theorem aw (K:Core T D){n:Nat}{F:Fr}(i:In){L:List In}{b:List Nat}{J:ae}{Q:QV}{X:QX}(hn:1<=n)(cx:Cx F J L (1::b))
  (h:∀ J',Cx F J' (L++[i]) b->Q (.int L.length) J'):bG T 16 (.obj F.r) J fun r=>aj T D n 16 [.obj r,i.av] J Q X:=by
 obtain ⟨n,rfl⟩:=ge1 hn;have hr:=cx.rm;rw [List.sum_cons,← Nat.add_assoc] at hr;refine cm cx (K.ck 16 rfl rfl) ?_;refine ⟨HF,K.dk 16 rfl rfl,rfl,?_⟩;refine a8 cx ?_;refine ag cx.c2 ?_;refine ag cx.c2 ⟨?_,?_⟩
 ·rw [Ah]; exact uT (An (Nat.lt_succ_self _) (Aa (Af _ _) hr))
 have c2:Cx F (J.set F.t (.list (L.map In.av++[i.av]))) (L++[i]) b:=⟨cx.ok,by rw [List.map_append]; exact get_set cx.c2,cx.kp.trans au.self,by rw [Ac]; exact hr⟩;refine a8 c2 ?_;refine ag c2.c2 ?_;have:=h _ c2;rw [show (L.length:Int)=(((L++[i]).map In.av).length:Int)-1 by rw [Ah,Ac]; exact (Int.add_sub_cancel _ 1).symm] at this;exact this
theorem IL {ds:List Nat}{l d:Nat}(h:ds[l]?=some d)(hl:l<ds.length){Q:AV->Prop}(q:Q (.obj d)):dn (dQ (((ds.reverse.map AV.obj).length:Int)-1-(0+(l:Int))) (ds.reverse.map AV.obj).length) fun k=>dn (ds.reverse.map AV.obj)[k]? Q:=by
 have h1:1<=ds.length:=Ao (Nat.zero_le _) hl;have h2:l<=ds.length-1:=Nat.le_pred_of_lt hl;have h3:ds.length-1-l<ds.length:=Ao (Nat.sub_le _ _) (Nat.sub_lt h1 (by decide));rw [Ah,List.length_reverse,show (ds.length:Int)-1-(0+(l:Int))=((ds.length-1-l:Nat):Int) by rw [Int.ofNat_sub h2,Int.ofNat_sub h1,Int.zero_add]; rfl];refine aq (bc h3) (aq ?_ q);rw [List.getElem?_map,List.getElem?_reverse h3,Nat.sub_sub_self h2,h]; rfl
theorem B8 (K:Core T D){n so:Nat}{x:Tx}{kinds:List AV}{J:ae}{ds:List Nat}{sc:List Scope}(hn:1<=n)(hk:cq kinds=true)(To:J[so]?=some (.list (ds.reverse.map AV.obj)))(PA:bK J ds sc){QQ:QF}{XX:XS} :
  ∀ (m l:Nat) (e:Ev),l+m=ds.length->e 1=some (.str x)->e 2=some (.obj so)->e 3=some (.tup kinds)->
   (match findS x (sc.drop l) l with
    | some (l',w)=>(match aG w.kind kinds with
     | true=>∀ e,QQ (.ret (.tup [.int l',w.av])) e J
     | false=>∀ e,XX e J)
    | Option.none=>∀ e,e 1=some (.str x)->QQ .next e J)->
   cS (nc 4) (aH T (aj T D n) AY) ((List.range' l m).map fun (k:Nat)=>AV.int (0+(k:Int))) e J QQ XX:=by
 intro m
 induction m with
 | zero=>
  intro l e hl h1 h2 h3 h;rw [show sc.drop l=[] from List.drop_eq_nil_of_le (Nat.le_of_eq (PA.len.symm.trans hl.symm))] at h;exact h e h1
 | succ m ih=>
  intro l e hl h1 h2 h3 h;cases hs:sc.drop l with
  | nil=>
   have:=List.drop_eq_nil_iff.mp hs;rw [← PA.len,← hl] at this;exact absurd this (Nat.not_le_of_lt (Nat.lt_add_of_pos_right (Nat.succ_pos m)))
  | cons s rs=>
   obtain ⟨d,d1,d2,d3⟩:=PA.get hs;rw [hs] at h;refine aa (e:=upd e 4 _) (i:=2) h2 ?_;refine aa (e:=upd e 4 _) (i:=2) h2 ?_;refine ag To ?_;refine ag To ?_;refine IL d1 d3 ?_;refine aa (e:=upd (upd e 4 _) 5 _) (i:=1) h1 ?_;refine in_dict d2 ?_;have h:(match (match kc x s with
     | some e=>some (l,e)
     | Option.none=>findS x rs (l+1)) with
    | some (l',w)=>(match aG w.kind kinds with
     | true=>∀ e,QQ (.ret (.tup [.int l',w.av])) e J
     | false=>∀ e,XX e J)
    | Option.none=>∀ e,e 1=some (.str x)->QQ .next e J):=h
   cases hx:kc x s with
   | none=>
    rw [hx] at h;have e1:rs=sc.drop (l+1):=by rw [← List.tail_drop,hs]; rfl
    exact ih (l+1) _ ((Nat.succ_add_eq_add_succ l m).trans hl) h1 h2 h3 (e1▸h)
   | some w=>
    rw [hx] at h;have Qb:∀ {Q:AV->Prop},Q (.str w.kind)->iJ w.av (.int 0) J Q:=fun q=>by cases w<;>exact q
    refine aa (e:=upd (upd e 4 _) 5 _) (i:=1) h1 ?_;refine rX d2 hx ?_;refine Qb ?_;refine aa (e:=upd (upd e 4 _) 5 _) (i:=3) h3 ?_;refine iR hk ?_;refine aa (e:=upd (upd e 4 _) 5 _) (i:=1) h1 ?_;refine ⟨K.ck 14 rfl rfl,?_⟩;refine eQ K hn (fun hb=>?_) fun hb=>?_
    ·have h:(match aG w.kind kinds with
      | true=>∀ e,QQ (.ret (.tup [.int l,w.av])) e J
      | false=>∀ e,XX e J):=h
     rw [hb] at h;refine aa (e:=upd (upd e 4 _) 5 _) (i:=1) h1 ?_;refine rX d2 hx ?_;have q:∀ e,QQ (.ret (.tup [.int (0+(l:Int)),w.av])) e J:=(Int.zero_add (l:Int)).symm▸h;exact q _
    ·have h:(match aG w.kind kinds with
      | true=>∀ e,QQ (.ret (.tup [.int l,w.av])) e J
      | false=>∀ e,XX e J):=h
     rw [hb] at h;exact h _
theorem range_items (n:Nat):itemsOf (.j6 0 (n:Int) 1)=some ((List.range' 0 n).map fun (k:Nat)=>AV.int (0+(k:Int))):=by
 show some (List.map AV.int ((List.range ((n:Int)-0).toNat).map fun (k:Nat)=>0+(k:Int)))=_;rw [List.map_map,List.range_eq_range',Int.sub_zero]; rfl
theorem je (K:Core T D){n:Nat}{F:Fr}{x:Tx}{kinds:List AV}{J:ae}{L:List In}{b:List Nat}{Q:QV}{X:QX}(hn:2<=n)(hk:cq kinds=true)(cx:Cx F J L b)
  (h:match findS x F.sc 0 with
    | some (l',w)=>(match aG w.kind kinds with
     | true=>Q (.tup [.int l',w.av]) J
     | false=>X J)
    | Option.none=>X J):bG T 18 (.obj F.r) J fun r=>aj T D n 18 [.obj r,.str x,.obj F.so,.tup kinds] J Q X:=by
 obtain ⟨n,rfl⟩:=ge1 (Ap hn);refine cm cx (K.ck 18 rfl rfl) ?_;refine ⟨HD,K.dk 18 rfl rfl,rfl,?_⟩;refine ag cx.s1 ?_;rw [Ah,List.length_reverse];refine ⟨Aa cx.ok.ln (by decide),?_⟩;refine aq (range_items _) ?_;refine B8 K (Am hn) hk cx.s1 cx.s2 F.ds.length 0 _ (Nat.zero_add _) rfl rfl rfl ?_;revert h;rw [List.drop_zero];cases findS x F.sc 0 with
 | none=>intro h e he; exact aa he h
 | some q=>
  show (match aG q.2.kind kinds with
     | true=>Q (.tup [.int q.1,q.2.av]) J
     | false=>X J)->(match aG q.2.kind kinds with
     | true=>∀ e:Ev,Q (.tup [.int q.1,q.2.av]) J
     | false=>∀ e:Ev,X J)
  cases aG q.2.kind kinds
  ·exact fun h e=>h
  ·exact fun h e=>h
end
def cD (F:Fr)(res:R (List In))(L:List In)(b:List Nat)(Q:QV)(X:QX):Prop:=match res with
 | .ok c=>∀ J',Cx F J' (L++c) b->Q .none J'
 | .err=>∀ J',X J'
 | .bot=>False
theorem cD.ends {F:Fr}{L:List In}{b:List Nat}{Q:QV}{X:QX}:Ends (fun res=>cD F res L b Q X) X:=⟨fun h=>h,fun h=>h⟩
theorem cD.of {β:Type}{m:R (List In)}{f:List In->R β}{G:R β->Prop}{F:Fr}{L:List In}{b:List Nat}{Q:QV}{X:QX}(E:Ends G X)(h:G (m.bind f))
  (c:∀ q J',Cx F J' (L++q) b->G (f q)->Q .none J'):cD F m L b Q X:=by
 cases m with
 | ok q=>exact fun J' h1=>c q J' h1 h
 | err=>exact E.err h
 | bot=>exact (E.bot h).elim
section
variable {T:aQ}{D:Nat->Option aD}
noncomputable def Lm:List AV:=[.str ly,.str Hu]
theorem ml (K:Core T D){n:Nat}{F:Fr}{x:Tx}{L:List In}{b:List Nat}{J:ae}{Q:QV}{X:QX}(hn:3<=n)(cx:Cx F J L (1::b))(h:cD F (cN F.sc x) L b Q X) :
  bG T 19 (.obj F.r) J fun r=>aj T D n 19 [.obj r,.tup [.str ke,.str x],.obj F.so] J Q X:=by
 obtain ⟨n,rfl⟩:=ge1 (Aa (by decide) hn);have hn:=Am hn;refine cm cx (K.ck 19 rfl rfl) ?_;refine ⟨wN,K.dk 19 rfl rfl,rfl,?_⟩;refine je K (kinds:=Lm) hn rfl cx ?_;unfold cN at h;revert h;cases findS x F.sc 0 with
 | none=>exact fun h=>h _
 | some q=>
  cases q with | mk l w=>
  cases w with
  | var a=>intro h; refine aw K (.yc l a) (Ap hn) cx ?_; exact h
  | ref a=>intro h; refine aw K (.eU l a) (Ap hn) cx ?_; exact h
  | arr a z=>exact fun h=>h _
  | proc a z=>exact fun h=>h _
noncomputable def ops:List AV:=[.str nT,.str gK,.str C9,.str Hf,.str Dc,.str [61],.str [60,62],.str [60],.str [60,61],.str [62],.str [62,61]]
noncomputable def Ex.wf:Ex->Bool
 | .int _=>true | .name _=>true | .at _ e=>e.wf | .neg e=>e.wf | .odd e=>e.wf | .bin o a b=>aG o ops&&a.wf&&b.wf
theorem oE {x y:Tx}{r:List AV}(h:aG x (.str y::r)=true):x=y∨aG x r=true:=by
 rcases Bool.or_eq_true_iff.mp (show (aB x y||aG x r)=true from h) with h | h
 ·exact .inl (eP h)
 ·exact .inr h
theorem z7 {o:Tx}(h:aG o ops=true):aB o ly=false∧aB o ke=false∧aB o OO=false:=by
 unfold ops at h
 iterate 11 (rcases oE h with rfl | h; · exact ⟨rfl,rfl,rfl⟩)
 cases h
def UX (T:aQ)(D:Nat->Option aD)(e:Ex):Prop:=
 e.wf=true->∀ n,e.fu<=n->∀ F L b J Q X,Cx F J L (e.sz::b)->cD F (cK F.sc e) L b Q X->bG T 20 (.obj F.r) J fun r=>aj T D n 20 [.obj r,e.av,.obj F.so] J Q X
theorem yB:∀ e:Ex,2<=e.fu
 | .int _=>Aj 2
 | .name _=>Nat.le_succ 2
 | .at _ e=>Aa (show 2<=3 by decide) (Aa (Nat.le_max_left _ _) (Nat.le_succ _))
 | .neg e=>Nat.le_succ_of_le (yB e)
 | .odd e=>Nat.le_succ_of_le (yB e)
 | .bin _ a b=>Nat.le_succ_of_le (Aa (yB a) (Nat.le_max_left _ _))
theorem jZ (K:Core T D){i:Ex}(hi:UX T D i)(hw:i.wf=true){n:Nat}{F:Fr}{x:Tx}{L:List In}{b:List Nat}{J:ae}{Q:QV}{X:QX}(hn:max 3 (i.fu+1)<=n)(cx:Cx F J L ((i.sz+3)::b))(h:cD F (yC F.sc x (cK F.sc i)) L b Q X) :
  bG T 19 (.obj F.r) J fun r=>aj T D n 19 [.obj r,.tup [.str OO,.str x,i.av],.obj F.so] J Q X:=by
 obtain ⟨n,rfl⟩:=ge1 (Aa (by decide) (Nat.max_le.mp hn).1);have h2:=Am (Nat.max_le.mp hn).1;have h1:=Ap h2;refine cm cx (K.ck 19 rfl rfl) ?_;refine ⟨wN,K.dk 19 rfl rfl,rfl,?_⟩;refine ⟨K.ck 14 rfl rfl,?_⟩;refine eQ K h1 (fun _=>?_) fun q=>by cases q
 refine je K (kinds:=[.str ph]) h2 rfl cx ?_;unfold yC at h;revert h;cases findS x F.sc 0 with
 | none=>exact fun h=>h _
 | some q=>
  cases q with | mk l w=>
  cases w with
  | arr a z=>
   intro h;refine hi hw n (Am (Nat.max_le.mp hn).2) F L (3::b) _ _ _ cx.sp (cD.of cD.ends h fun q J1 c1 h=>?_);refine aw K (.uI z) h1 (c1.sp (x:=1) (y:=2)) fun J2 c2=>?_;refine aw K (.yc l a) h1 (c2.sp (x:=1) (y:=1)) fun J3 c3=>?_;refine aw K (.fH nT) h1 c3.j fun J4 c4=>?_;exact h _ c4.j.j
  | ref a=>exact fun h=>h _
  | var a=>exact fun h=>h _
  | proc a z=>exact fun h=>h _
theorem dA (K:Core T D):∀ e:Ex,UX T D e:=by
 intro e
 induction e with
 | int m=>
  intro hw n hn F L b J Q X cx h;obtain ⟨n,rfl⟩:=ge1 (Ap hn);refine cm cx (K.ck 20 rfl rfl) ?_;refine ⟨qO,K.dk 20 rfl rfl,rfl,?_⟩;refine aw K (.lit m) (Am hn) cx ?_;exact h
 | name x=>
  intro hw n hn F L b J Q X cx h;obtain ⟨n,rfl⟩:=ge1 (Aa (show 1<=3 by decide) hn);have hn:=Am hn;have h1:=Ap hn;refine cm cx (K.ck 20 rfl rfl) ?_;refine ⟨qO,K.dk 20 rfl rfl,rfl,?_⟩;refine je K (kinds:=Lm) hn rfl cx ?_;have h:cD F (lE F.sc x) L b Q X:=h;unfold lE at h;revert h;cases findS x F.sc 0 with
  | none=>exact fun h=>h _
  | some q=>
   cases q with | mk l w=>
   cases w with
   | var a=>intro h; refine aw K (.eU l a) h1 (cx.pad (y:=1) (show 1<=2 by decide)) ?_; exact h
   | ref a=>
    intro h;refine aw K (.eU l a) h1 (cx.sp (x:=1) (y:=1)) fun J1 c1=>?_;refine aw K .yv h1 c1 fun J2 c2=>?_;exact h _ c2.j
   | arr a z=>exact fun h=>h _
   | proc a z=>exact fun h=>h _
 | «at» x e ih=>
  intro hw n hn F L b J Q X cx h;obtain ⟨n,rfl⟩:=ge1 (Aa (Ar 1 _) hn);have hn:=Am hn;refine cm cx (K.ck 20 rfl rfl) ?_;refine ⟨qO,K.dk 20 rfl rfl,rfl,?_⟩;refine jZ K ih hw hn (cx.sp (x:=e.sz+3) (y:=1)) (cD.of cD.ends h fun q J1 c1 h=>?_);refine aw K .yv (Aa (by decide) (Nat.max_le.mp hn).1) c1 fun J2 c2=>?_;exact h _ c2.j
 | neg e ih=>
  intro hw n hn F L b J Q X cx h;obtain ⟨n,rfl⟩:=ge1 (Aa (Ar 1 _) hn);have hn:=Am hn;refine cm cx (K.ck 20 rfl rfl) ?_;refine ⟨qO,K.dk 20 rfl rfl,rfl,?_⟩;refine ⟨by decide,Int.ofNat_le.mpr (show 1<=2 by decide),?_⟩;refine ih hw n hn F _ _ _ _ _ (cx.sp (y:=1)) (cD.of cD.ends h fun q J1 c1 h=>?_);refine aw K (.fH ta) (Aa (Ap (yB e)) hn) c1 fun J2 c2=>?_;exact h _ c2.j
 | odd e ih=>
  intro hw n hn F L b J Q X cx h;obtain ⟨n,rfl⟩:=ge1 (Aa (Ar 1 _) hn);have hn:=Am hn;refine cm cx (K.ck 20 rfl rfl) ?_;refine ⟨qO,K.dk 20 rfl rfl,rfl,?_⟩;refine ⟨by decide,Int.ofNat_le.mpr (show 1<=2 by decide),?_⟩;refine ih hw n hn F _ _ _ _ _ (cx.sp (y:=1)) (cD.of cD.ends h fun q J1 c1 h=>?_);refine aw K (.fH qN) (Aa (Ap (yB e)) hn) c1 fun J2 c2=>?_;exact h _ c2.j
 | bin o a b fT iA=>
  intro hw n hn F L b' J Q X cx h;obtain ⟨n,rfl⟩:=ge1 (Aa (Ar 1 _) hn);have hn:=Nat.max_le.mp (Am hn);have hw:=Ab hw;have wg:=Ab hw.1;obtain ⟨o1,o2,o3⟩:=z7 wg.1;refine cm cx (K.ck 20 rfl rfl) ?_;refine ⟨qO,K.dk 20 rfl rfl,rfl,?_⟩;refine gw (b:=aB o ly) o1 ?_;refine gw (b:=aB o ke) o2 ?_;refine gw (b:=aB o OO) o3 ?_;refine ⟨by decide,Int.ofNat_le.mpr (show 1<=3 by decide),?_⟩;refine fT wg.2 n hn.1 F _ _ _ _ _ cx.sp (cD.of cD.ends h fun q J1 c1 h=>?_);refine iA hw.2 n hn.2 F _ _ _ _ _ c1.sp (cD.of cD.ends h fun q' J2 c2 h=>?_);refine aw K (.fH o) (Aa (Ap (yB a)) hn.1) c2.j fun J3 c3=>?_;exact h _ c3.j
end
noncomputable def St.wf:Bool->St->Bool
 | false,.empty=>true
 | false,.set _ e=>e.wf
 | false,.setAt _ i e=>i.wf&&e.wf
 | false,.call _ as=>as.all Ex.wf
 | false,.if1 c a=>c.wf&&a.wf false
 | false,.if2 c a b=>c.wf&&a.wf false&&b.wf false
 | false,.gf c a=>c.wf&&a.wf false
 | false,.rep s c=>s.wf true&&c.wf
 | false,.for _ a b _ s=>a.wf&&b.wf&&s.wf false
 | false,.nk s=>s.wf true
 | false,.write e=>e.wf
 | true,.one s=>s.wf false
 | true,.seq s r=>s.wf false&&r.wf true
 | _,_=>false
def eW (F:Fr)(res:R (List In))(L:List In)(b:List Nat)(xi:Nat)(e0:Ev)(QQ:QF)(XX:XS):Prop:=match res with
 | .ok c=>∀ e' J',(∀ i,i≠xi->e' i=e0 i)->Cx F J' (L++c) b->QQ .next e' J'
 | .err=>∀ e J',XX e J'
 | .bot=>False
theorem eW.ends {F:Fr}{L:List In}{b:List Nat}{xi:Nat}{e0 e:Ev}{QQ:QF}{XX:XS}:Ends (fun res=>eW F res L b xi e0 QQ XX) (XX e):=⟨fun h J'=>h e J',fun h=>h⟩
theorem eW.of {β:Type}{m:R (List In)}{f:List In->R β}{G:R β->Prop}{F:Fr}{L:List In}{b:List Nat}{xi:Nat}{e0:Ev}{QQ:QF}{XX:XS}(E:∀ e,Ends G (XX e))(h:G (m.bind f))
  (c:∀ q e' J',(∀ i,i≠xi->e' i=e0 i)->Cx F J' (L++q) b->G (f q)->QQ .next e' J'):eW F m L b xi e0 QQ XX:=by
 cases m with
 | ok q=>exact fun e' J' h0 h1=>c q e' J' h0 h1 h
 | err=>exact fun e=>(E e).err h
 | bot=>exact ((E (fun _=>Option.none)).bot h).elim
section
variable {T:aQ}{D:Nat->Option aD}
theorem Fn (K:Core T D){e:Ex}(hw:e.wf=true){n:Nat}{F:Fr}{L:List In}{b:List Nat}{J:ae}{Q:QV}{X:QX}(hn:e.fu<=n)(h3:3<=n)(cx:Cx F J L (e.sz::b))(h:cD F (zC F.sc e) L b Q X) :
  bG T 19 (.obj F.r) J fun r=>aj T D n 19 [.obj r,e.av,.obj F.so] J Q X:=by
 obtain ⟨m,rfl⟩:=ge1 (Aa (by decide) h3);have hm:1<=m:=Ap (Am h3);cases e with
 | name x=>exact ml K h3 (cx.pad (y:=1) (show 1<=2 by decide)) h
 | «at» x e=>exact jZ K (dA K e) hw (Ap hn) (cx.pad (Nat.le_succ _)) h
 | bin o x y=>
  obtain ⟨o1,o2,o3⟩:=z7 (Ab (Ab hw).1).1;refine cm cx (K.ck 19 rfl rfl) ?_;refine ⟨wN,K.dk 19 rfl rfl,rfl,?_⟩;refine gw (b:=aB o ke) o2 ?_;refine ⟨K.ck 14 rfl rfl,?_⟩;exact eQ K hm (fun q=>Bool.noConfusion (o3.symm.trans q)) fun _=>h _
 | _=>
  refine cm cx (K.ck 19 rfl rfl) ?_;refine ⟨wN,K.dk 19 rfl rfl,rfl,?_⟩;refine ⟨K.ck 14 rfl rfl,?_⟩;exact eQ K hm (fun q=>Bool.noConfusion q) fun _=>h _
theorem vd {α:Type}{v x:α}{M:List α}:∀ A:List α,(A++x::M).set A.length v=A++v::M
 | []=>rfl
 | a::A=>congrArg (a::·) (vd A)
theorem gU {F:Fr}{A M:List In}{x v:In}{b:List Nat}{J:ae}{P:QX}{k:Nat}(cx:Cx F J (A++x::M) b)(hk:k=A.length)(h:∀ J',Cx F J' (A++v::M) b->P J'):dT (.obj F.t) (.int k) v.av J P:=by
 subst hk;refine ag cx.c2 ?_;refine aq (bc (by rw [Ah,Ac]; exact Nat.lt_add_of_pos_right (Nat.succ_pos _))) ?_;refine h _ ⟨cx.ok,?_,cx.kp.trans au.self,by have:=cx.rm; rw [Ac] at this ⊢; exact this⟩;rw [get_set cx.c2,List.map_append,List.map_append,← Ah (as:=A) In.av];exact congrArg (fun l=>some (MO.list l)) (vd _)
theorem k0 {α:Type}{l:List α}{j:Nat}{x:α}{r:List α}(h:l.drop j=x::r):j<l.length∧l[j]?=some x∧l.drop (j+1)=r:=by
 have h1:j<l.length:=by
  apply Nat.lt_of_not_le; intro q; rw [List.drop_eq_nil_of_le q] at h; cases h
 have h2:(l.drop j)[0]?=some x:=by rw [h]; rfl
 rw [List.getElem?_drop] at h2;have h3:l.drop (j+1)=(l.drop j).drop 1:=by rw [List.drop_drop]
 exact ⟨h1,h2,by rw [h3,h]; rfl⟩
theorem tu {α:Type}{f:α->AV}{l:List α}{j:Nat}{x:α}{r:List α}{J:ae}{P:AV->Prop}(h:l.drop j=x::r)(p:P (f x)):iJ (.tup (l.map f)) (.int (0+(j:Int))) J P:=by
 obtain ⟨h1,h2,_⟩:=k0 h;rw [Int.zero_add];exact aq (bc (by rw [Ah]; exact h1)) (aq (by rw [List.getElem?_map,h2]; rfl) p)
theorem yp {f r:Nat}{J:ae}{P:Nat->Prop}(h:bG T f (.obj r) J P):P r:=by
 unfold bG at h;obtain ⟨r',c,fs,h1,_,_,h4⟩:=h;cases h1; exact h4
theorem Ff (K:Core T D){n:Nat}{F:Fr}{as:List Ex}{q:List (Tx×Bool)}{e0:Tx}{L0:AV}{p:AV}{QQ:QF}{XX:XS}(h3:3<=n){b:List Nat} :
  ∀ (m5:List Ex) (q':List (Tx×Bool)) (j:Nat) (L:List In) (e:Ev) (J:ae),as.drop j=m5->q.drop j=q'->q'.length=m5.length->m5.all Ex.wf=true->O9 m5<=n->Cx F J L (GP m5::b)->
   e 0=some (.obj F.r)->e 1=some (.tup [.str FX,.str e0,.tup (as.map Ex.av)])->e 2=some (.obj F.so)->e 6=some (.tup [L0,p,.tup (q.map oU)])->
   eW F (gj F.sc (q'.map (·.2)) m5) L b 7 e QQ XX->∀ m,m=m5.length->
   cS (nc 7) (aH T (aj T D n) tT) ((List.range' j m).map fun (k:Nat)=>AV.int (0+(k:Int))) e J QQ XX:=by
 intro m5
 induction m5 with
 | nil=>
  intro q' j L e J ea eq hl hw hn cx h0 h1 h2 h6 h m hm;subst hm;cases q' with
  | nil=>exact h e J (fun _ _=>rfl) (by rw [List.append_nil]; exact ⟨cx.ok,cx.c2,cx.kp,by have:=cx.rm; rw [List.sum_cons] at this; exact (Nat.zero_add b.sum)▸this⟩)
  | cons=>cases hl
 | cons a m5 ih=>
  intro q' j L e J ea eq hl hw hn cx h0 h1 h2 h6 h m hm;subst hm;cases q' with
  | nil=>cases hl
  | cons qa q'=>
   have hw:=Ab hw;have hn:=Nat.max_le.mp hn;have next:∀ c J1,Cx F J1 (L++c) (GP m5::b)->eW F ((gj F.sc (q'.map (·.2)) m5).bind fun d=>.ok (c++d)) L b 7 e QQ XX->cS (nc 7) (aH T (aj T D n) tT) ((List.range' (j+1) m5.length).map fun (k:Nat)=>AV.int (0+(k:Int))) (upd e 7 (.int (0+(j:Int)))) J1 QQ XX:=fun c J1 c1 h=>
    ih q' (j+1) (L++c) (upd e 7 (.int (0+(j:Int)))) J1 (k0 ea).2.2 (k0 eq).2.2 (Nat.succ.inj hl) hw.2 hn.2 c1 h0 h1 h2 h6 (eW.of (fun e=>eW.ends) h fun d e' J' he c₂ h=>h e' J' (fun i hi=>(he i hi).trans (aS i hi)) c₂.j) _ rfl
   refine aa (e:=upd e 7 _) (i:=6) h6 ?_;refine tu (f:=oU) (J:=J) eq ?_;obtain ⟨y,v⟩:=qa;cases v with
   | true=>
    refine aa (e:=upd e 7 _) (i:=0) h0 ?_;refine cm cx (K.ck 19 rfl rfl) ?_;refine aa (e:=upd e 7 _) (i:=1) h1 ?_;refine tu (f:=Ex.av) (J:=J) ea ?_;refine aa (e:=upd e 7 _) (i:=2) h2 ?_;refine yp (Fn K hw.1 hn.1 h3 cx.sp (cD.of eW.ends h fun c J1 c1 h=>?_));exact next c J1 c1 h
   | false=>
    refine aa (e:=upd e 7 _) (i:=0) h0 ?_;refine cm cx (K.ck 20 rfl rfl) ?_;refine aa (e:=upd e 7 _) (i:=1) h1 ?_;refine tu (f:=Ex.av) (J:=J) ea ?_;refine aa (e:=upd e 7 _) (i:=2) h2 ?_;refine yp (dA K a hw.1 n hn.1 F _ _ _ _ _ cx.sp (cD.of eW.ends h fun c J1 c1 h=>?_));exact next c J1 c1 h
end
section
variable {T:aQ}{D:Nat->Option aD}
structure y7 (F:Fr)(fo f:Nat):Prop where
 ne:fo≠F.t
 at_:F.b[fo]?=some (.list [.int f])
def nP (T:aQ)(D:Nat->Option aD)(s:St):Prop:=s.wf false=true->∀ n,s.fu<=n->∀ F fo f L p b J Q X,y7 F fo f->L.length=p->Cx F J L (s.sz::b)->
 cD F (bk F.sc f p s) L b Q X->bG T 21 (.obj F.r) J fun r=>aj T D n 21 [.obj r,s.av,.obj F.so,.obj fo] J Q X
noncomputable def pU (xi fi:Nat):Ss:=(.cons (.expr (.ai (.v 0) 21 (.cons (.v xi) (.cons (.v 2) (.cons (.v fi) .nil))))) .nil)
def tf (T:aQ)(D:Nat->Option aD)(s:St):Prop:=s.wf true=true->∀ n,s.fu<=n->∀ F fo f L p b J e xi fi QQ XX,y7 F fo f->L.length=p->Cx F J L (s.sz::b)->
 e 0=some (.obj F.r)->e 2=some (.obj F.so)->e fi=some (.obj fo)->xi≠0->xi≠2->xi≠fi->eW F (bk F.sc f p s) L b xi e QQ XX->cS (nc xi) (aH T (aj T D n) (pU xi fi)) s.row e J QQ XX
theorem ln {α:Type}{L v:List α}{p:Nat}(h:L.length=p):(L++v).length=p+v.length:=by rw [Ac,h]
theorem PN {α:Type}{L v s:List α}{x:α}{p:Nat}(h:L.length=p):(L++(v++[x]++s)).length=p+v.length+1+s.length:=by
 rw [← Ae,← Ae]; exact ln (ln (ln h))
theorem Cx.zero {F:Fr}{J:ae}{L:List In}{b:List Nat}(h:Cx F J L (0::b)):Cx F J L b:=⟨h.ok,h.c2,h.kp,by have:=h.rm; rw [List.sum_cons,Nat.zero_add] at this; exact this⟩
theorem Cx.i {F:Fr}{J:ae}{L a c:List In}{x:In}{b:List Nat}(h:Cx F J (L++(a++[x]++c)) b):Cx F J (L++a++x::c) b:=by
 rw [Ae a,← Ae] at h; exact h
theorem Cx.o {F:Fr}{J:ae}{L a c:List In}{x:In}{b:List Nat}(h:Cx F J (L++a++x::c) b):Cx F J (L++(a++[x]++c)) b:=by
 rw [Ae a,← Ae]; exact h
theorem Cx.eq {F:Fr}{J:ae}{L L':List In}{b:List Nat}(h:Cx F J L b)(e:L=L'):Cx F J L' b:=e▸h
theorem Cx.to {F:Fr}{J:ae}{L:List In}{x y:Nat}{b:List Nat}{f:Nat->List In}(h:Cx F J (f x) b)(e:x=y):Cx F J (f y) b:=e▸h
theorem tC (K:Core T D)(x:Tx)(e:Ex):nP T D (.set x e):=by
 intro hw n hn F fo f L p b J Q X hf hp cx h;obtain ⟨n,rfl⟩:=ge1 (Aa (Ar 1 _) hn);have hn:=Nat.max_le.mp (Am hn);have h3:=Ap hn.1;refine cm cx (K.ck 21 rfl rfl) ?_;refine ⟨jC,K.dk 21 rfl rfl,rfl,?_⟩;refine cm cx (K.ck 19 rfl rfl) ?_;refine lO ?_;refine yp (ml K h3 cx.sp (cD.of cD.ends h fun u J1 c1 h=>?_));refine dA K e hw n hn.2 F _ _ _ _ _ c1.sp (cD.of cD.ends h fun v J2 c2 h=>?_);refine aw K .oQ (Aa (by decide) h3) c2.j fun J3 c3=>?_;exact h _ c3.j
theorem VO {i:Ex}{Q:Bool->Prop}(q:Q false):eN i.av Q:=by unfold eN; cases i<;>exact q
theorem RP {s:St}(h:s.wf false=true){Q:Bool->Prop}(q:Q false):eN s.av Q:=by unfold eN; cases s<;>first | exact q | (cases h)
theorem BE (K:Core T D)(x:Tx)(i e:Ex):nP T D (.setAt x i e):=by
 intro hw n hn F fo f L p b J Q X hf hp cx h;obtain ⟨n,rfl⟩:=ge1 (Aa (Ar 1 _) hn);have hn:=Nat.max_le.mp (Am hn);have hw:=Ab hw;refine cm cx (K.ck 21 rfl rfl) ?_;refine ⟨jC,K.dk 21 rfl rfl,rfl,?_⟩;refine cm cx (K.ck 19 rfl rfl) ?_;refine VO ?_;refine yp (jZ K (dA K i) hw.1 hn.1 cx.sp (cD.of cD.ends h fun u J1 c1 h=>?_));refine dA K e hw.2 n hn.2 F _ _ _ _ _ c1.sp (cD.of cD.ends h fun v J2 c2 h=>?_);refine aw K .oQ (Aa (by decide) (Nat.max_le.mp hn.1).1) c2.j fun J3 c3=>?_;exact h _ c3.j
theorem BB (K:Core T D)(e:Ex):nP T D (.write e):=by
 intro hw n hn F fo f L p b J Q X hf hp cx h;obtain ⟨n,rfl⟩:=ge1 (Aa (Ar 1 _) hn);have hn:=Am hn;refine cm cx (K.ck 21 rfl rfl) ?_;refine ⟨jC,K.dk 21 rfl rfl,rfl,?_⟩;refine dA K e hw n hn F _ _ _ _ _ (cx.sp (y:=1)) (cD.of cD.ends h fun v J1 c1 h=>?_);refine aw K .Fq (Aa (Ap (yB e)) hn) c1 fun J2 c2=>?_;exact h _ c2.j
theorem BG (K:Core T D):nP T D .empty:=by
 intro hw n hn F fo f L p b J Q X hf hp cx h;obtain ⟨n,rfl⟩:=ge1 hn;refine cm cx (K.ck 21 rfl rfl) ?_;refine ⟨jC,K.dk 21 rfl rfl,rfl,?_⟩;exact h _ ((List.append_nil L).symm▸cx.zero)
theorem MA:∀ as:List Ex,3<=O9 as
 | []=>Aj 3
 | e::r=>Aa (MA r) (Nat.le_max_right _ _)
theorem pP:∀ as:List Ex,as.length<=GP as
 | []=>Aj 0
 | e::r=>Aa (Aq (pP r) (show 1<=e.sz by cases e<;>exact Ar 1 _)) (Nat.le_of_eq (Nat.add_comm _ _))
theorem D1 (K:Core T D)(x:Tx)(as:List Ex):nP T D (.call x as):=by
 intro hw n hn F fo f L p b J Q X hf hp cx h;obtain ⟨n,rfl⟩:=ge1 (Aa (Ar 1 _) hn);have hn:=Am hn;have h3:=Aa (MA as) hn;have h1:1<=n:=Aa (by decide) h3;refine cm cx (K.ck 21 rfl rfl) ?_;refine ⟨jC,K.dk 21 rfl rfl,rfl,?_⟩;refine je K (kinds:=[.str uV]) (Ap h3) rfl cx ?_;have h:cD F (match findS x F.sc 0 with
  | some (l,.proc a q)=>(match Nat.beq q.length as.length with
   | true=>(gj F.sc (q.map Prod.snd) as).bind fun c=>R.ok (c++[In.tick,In.uJ l a as.length])
   | false=>R.err)
  | _=>R.err) L b Q X:=h
 revert h;cases findS x F.sc 0 with
 | none=>exact fun h=>h _
 | some q=>
  cases q with | mk l w=>
  cases w with
  | proc a q=>
   intro h;have h:cD F (match Nat.beq q.length as.length with
    | true=>(gj F.sc (q.map Prod.snd) as).bind fun c=>R.ok (c++[In.tick,In.uJ l a as.length])
    | false=>R.err) L b Q X:=h
   refine ⟨K.ck 14 rfl rfl,?_⟩;refine eQ K h1 (fun hb=>?_) fun hb=>?_
   ·have hq:q.length=as.length:=by
     have:=Int.ofNat.inj (Ax hb); rw [Ah,Ah] at this; exact this
    rw [hq,Nat.beq_refl] at h;have hl:as.length<=lid:=Aa (pP as) (Aa (Aa (by rw [List.sum_cons]; exact Aa (Af _ _) (Ar _ _)) cx.sp.rm) (by decide));refine ⟨(Ah (as:=as) Ex.av).symm▸hl,?_⟩;refine aq (range_items _) ?_;refine Ff K (e0:=x) (L0:=.str uV) (p:=.int a) h3 as q 0 L _ J rfl rfl hq hw hn cx.sp rfl rfl rfl rfl ?_ _ (Ah _);refine eW.of (fun e=>cD.ends) h fun d e' J1 he c1 h=>?_;have g0:=he 0 (by decide);have g1:=he 1 (by decide);have g5:=he 5 (by decide);have g6:=he 6 (by decide);refine aa g0 ?_;refine aw K .tick h1 (c1.sp (x:=1) (y:=1)) fun J2 c2=>?_;refine aa g0 ?_;refine cm c2 (K.ck 16 rfl rfl) ?_;refine aa g5 ?_;refine aa g6 ?_;refine aa g1 ?_;refine yp (aw K (.uJ l a (as.map Ex.av).length) h1 c2 fun J3 c3=>?_);rw [Ah] at c3;exact h _ c3.j.j
   ·have hq:Nat.beq q.length as.length=false:=Bool.eq_false_iff.mpr fun e=>by
     have e:=As e;rw [Ah,Ah,e] at hb;exact absurd hb (by rw [decide_eq_true rfl]; decide)
    rw [hq] at h;exact h _
  | _=>exact fun h=>h _
theorem IB (K:Core T D)(c:Ex)(a:St)(ha:nP T D a):nP T D (.if1 c a):=by
 intro hw n hn F fo f L p b J Q X hf hp cx h;obtain ⟨n,rfl⟩:=ge1 (Aa (Ar 1 _) hn);have hn:=Nat.max_le.mp (Am hn);have hw:=Ab hw;have h1:=Aa (Ap (yB c)) hn.1;refine cm cx (K.ck 21 rfl rfl) ?_;refine ⟨jC,K.dk 21 rfl rfl,rfl,?_⟩;refine dA K c hw.1 n hn.1 F _ _ _ _ _ cx.sp (cD.of cD.ends h fun v J1 c1 h=>?_);refine aw K .wd h1 c1.sp fun J2 c₂=>?_;refine ha hw.2 n hn.2 F fo f _ _ _ _ _ _ hf (ln (ln hp)) c₂ (cD.of cD.ends h fun s J3 c3 h=>?_);refine lO ?_;refine a8 c3 ?_;refine ag c3.c2 ?_;refine a8 c3 ?_;refine gU (A:=L++v) (v:=.gE ((L++v++[In.wd]++s).map In.av).length) c3.j rfl fun J4 c4=>?_;rw [Ah,ln (ln (ln hp))] at c4;exact h _ c4.o
theorem IA (K:Core T D)(c:Ex)(a b:St)(ha:nP T D a)(hb:nP T D b):nP T D (.if2 c a b):=by
 intro hw n hn F fo f L p b' J Q X hf hp cx h;obtain ⟨n,rfl⟩:=ge1 (Aa (Ar 1 _) hn);have hn:=Nat.max_le.mp (Am hn);have uG:=Nat.max_le.mp hn.2;have hw:=Ab hw;have wg:=Ab hw.1;have h1:=Aa (Ap (yB c)) hn.1;refine cm cx (K.ck 21 rfl rfl) ?_;refine ⟨jC,K.dk 21 rfl rfl,rfl,?_⟩;refine dA K c wg.1 n hn.1 F _ _ _ _ _ cx.sp (cD.of cD.ends h fun v J1 c1 h=>?_);refine aw K .wd h1 c1.sp fun J2 c₂=>?_;refine ha wg.2 n uG.1 F fo f _ _ _ _ _ _ hf (ln (ln hp)) c₂.sp (cD.of cD.ends h fun s J3 c3 h=>?_);refine RP hw.2 ?_;refine aw K .sT h1 c3.sp fun J4 c4=>?_;refine a8 c4 ?_;refine ag c4.c2 ?_;refine a8 c4 ?_;refine gU (A:=L++v) (x:=.wd) (M:=s++[.sT]) (v:=.gE ((L++v++[In.wd]++s++[In.sT]).map In.av).length) (by rw [Ae,Ae] at c4; exact c4) rfl fun J5 c5=>?_;rw [Ah,ln (ln (ln (ln hp)))] at c5;have c5:Cx F J5 (L++(v++[In.gE (p+v.length+1+s.length+1)]++s)++[In.sT]) (b.sz::b'):=by
  rw [← Ae,← Ae,Ae (L++v),Ae (L++v)]; exact c5
 refine hb hw.2 n uG.2 F fo f _ _ _ _ _ _ hf (ln (v:=[In.sT]) (PN hp)) c5 (cD.of cD.ends h fun u J6 c6 h=>?_);refine a8 c6 ?_;refine ag c6.c2 ?_;refine a8 c6 ?_;refine gU (A:=L++(v++[In.gE (p+v.length+1+s.length+1)]++s)) (x:=.sT) (M:=u) (v:=.jmp ((L++(v++[In.gE (p+v.length+1+s.length+1)]++s)++[In.sT]++u).map In.av).length) c6.j ((ln (ln (ln hp))).trans (PN hp).symm) fun J7 c7=>?_;rw [Ah,ln (ln (v:=[In.sT]) (PN hp))] at c7;exact h _ c7.o
end
section
variable {T:aQ}{D:Nat->Option aD}
theorem tA (K:Core T D)(c:Ex)(a:St)(ha:nP T D a):nP T D (.gf c a):=by
 intro hw n hn F fo f L p b J Q X hf hp cx h;obtain ⟨n,rfl⟩:=ge1 (Aa (Ar 1 _) hn);have hn:=Nat.max_le.mp (Am hn);have hw:=Ab hw;have h1:=Aa (Ap (yB c)) hn.1;refine cm cx (K.ck 21 rfl rfl) ?_;refine ⟨jC,K.dk 21 rfl rfl,rfl,?_⟩;refine a8 cx ?_;refine ag cx.c2 ?_;refine dA K c hw.1 n hn.1 F _ _ _ _ _ cx.sp (cD.of cD.ends h fun v J1 c1 h=>?_);refine aw K .tick h1 (c1.sp.sp (x:=1) (y:=1)) fun J2 c₂=>?_;refine aw K .wd h1 c₂ fun J3 c3=>?_;refine ha hw.2 n hn.2 F fo f _ _ _ _ _ _ hf (ln (v:=[In.wd]) (ln (v:=[In.tick]) (ln hp))) c3.sp (cD.of cD.ends h fun s J4 c4 h=>?_);refine aw K (.jmp (L.map In.av).length) h1 c4 fun J5 c5=>?_;refine a8 c5 ?_;refine ag c5.c2 ?_;refine a8 c5 ?_;refine gU (A:=L++v++[In.tick]) (x:=.wd) (M:=s++[In.jmp (L.map In.av).length]) (v:=.gE ((L++v++[In.tick]++[In.wd]++s++[In.jmp (L.map In.av).length]).map In.av).length) (c5.eq (by simp only [Ae,List.cons_append,List.nil_append])) rfl fun J6 c6=>?_;rw [Ah,Ah,hp,ln (ln (ln (ln (ln hp))))] at c6;exact h _ (c6.eq (by simp only [Ae,List.cons_append,List.nil_append]; rfl))
theorem Iy (K:Core T D)(s:St)(c:Ex)(hs:tf T D s):nP T D (.rep s c):=by
 intro hw n hn F fo f L p b J Q X hf hp cx h;obtain ⟨n,rfl⟩:=ge1 (Aa (Ar 1 _) hn);have hn:=Nat.max_le.mp (Am hn);have hw:=Ab hw;have h1:=Aa (Ap (yB c)) hn.2;refine cm cx (K.ck 21 rfl rfl) ?_;refine ⟨jC,K.dk 21 rfl rfl,rfl,?_⟩;refine a8 cx ?_;refine ag cx.c2 ?_;refine hs hw.1 n hn.1 F fo f L p _ J _ 10 3 _ _ hf hp cx.sp rfl rfl rfl (by decide) (by decide) (by decide) ?_;refine eW.of (fun e=>cD.ends) h fun d e' J1 he c1 h=>?_;have g0:=he 0 (by decide);have g1:=he 1 (by decide);have g2:=he 2 (by decide);have g9:=he 9 (by decide);refine aa g0 ?_;refine cm c1 (K.ck 20 rfl rfl) ?_;refine aa g1 ?_;refine aa g2 ?_;refine yp (dA K c hw.2 n hn.2 F _ _ _ _ _ c1.sp (cD.of cD.ends h fun v J2 c₂ h=>?_));refine aa g0 ?_;refine aw K .tick h1 (c₂.sp (x:=1) (y:=1)) fun J3 c3=>?_;refine aa g0 ?_;refine cm c3 (K.ck 16 rfl rfl) ?_;refine aa g9 ?_;refine yp (aw K (.gE (L.map In.av).length) h1 c3 fun J4 c4=>?_);rw [Ah,hp] at c4;exact h _ (c4.eq (by simp only [Ae,List.cons_append,List.nil_append]))
theorem ID (K:Core T D)(s:St)(hs:tf T D s):nP T D (.nk s):=by
 intro hw n hn F fo f L p b J Q X hf hp cx h;obtain ⟨n,rfl⟩:=ge1 (Aa (Ar 1 _) hn);refine cm cx (K.ck 21 rfl rfl) ?_;refine ⟨jC,K.dk 21 rfl rfl,rfl,?_⟩;refine hs hw n (Am hn) F fo f L p _ J _ 10 3 _ _ hf hp cx rfl rfl rfl (by decide) (by decide) (by decide) ?_;have h:cD F (bk F.sc f p s) L b Q X:=h;revert h;unfold eW cD;cases bk F.sc f p s with
 | ok c=>intro h e' J' he c1; exact h _ c1
 | err=>intro h e J'; exact h _
 | bot=>exact id
theorem Bx {e:Ev}{i:Nat}{v:AV}:upd e i v i=some v:=by
 show cond (Nat.beq i i) _ _=_;rw [Nat.beq_refl]; rfl
theorem mr (K:Core T D){s:St}(hs:nP T D s)(hw:s.wf false=true){n:Nat}{F:Fr}{fo f p:Nat}{L:List In}{b:List Nat}{J:ae}{e:Ev}{xi fi:Nat}{QQ:QF}{XX:XS}{r:List AV}{β:Type}{G:R β->Prop}{k:List In->R β}(hn:s.fu<=n)(hf:y7 F fo f)(hp:L.length=p)(cx:Cx F J L (s.sz::b))
  (h0:e 0=some (.obj F.r)) (h2:e 2=some (.obj F.so)) (yz:e fi=some (.obj fo)) (yw:xi≠0) (GW:xi≠2) (GV:xi≠fi) (E:∀ e,Ends G (XX e)) (h:G ((bk F.sc f p s).bind k))
  (c:∀ q J',Cx F J' (L++q) b->G (k q)->cS (nc xi) (aH T (aj T D n) (pU xi fi)) r (upd e xi s.av) J' QQ XX):cS (nc xi) (aH T (aj T D n) (pU xi fi)) (s.av::r) e J QQ XX:=by
 refine aa ((aS 0 (Ne.symm yw)).trans h0) ?_;refine cm cx (K.ck 21 rfl rfl) ?_;refine aa Bx ?_;refine aa ((aS 2 (Ne.symm GW)).trans h2) ?_;refine aa ((aS fi (Ne.symm GV)).trans yz) ?_;refine yp (hs hw n hn F fo f L p b _ _ _ hf hp cx (cD.of (E _) h fun q J1 c1 h=>?_));exact c q J1 c1 h
theorem D5 (K:Core T D)(s:St)(hs:nP T D s):tf T D (.one s):=by
 intro hw n hn F fo f L p b J e xi fi QQ XX hf hp cx h0 h2 yz yw GW GV h;have h':eW F ((bk F.sc f p s).bind .ok) L b xi e QQ XX:=by
  have h:eW F (bk F.sc f p s) L b xi e QQ XX:=h;revert h;cases bk F.sc f p s<;>exact id
 exact mr K hs hw hn hf hp cx h0 h2 yz yw GW GV (fun e=>eW.ends) h' fun q J1 c1 h=>h _ _ aS c1
theorem D4 (K:Core T D)(s q:St)(hs:nP T D s)(hr:tf T D q):tf T D (.seq s q):=by
 intro hw n hn F fo f L p b J e xi fi QQ XX hf hp cx h0 h2 yz yw GW GV h;have hw:=Ab hw;have hn:=Nat.max_le.mp hn;refine mr K hs hw.1 hn.1 hf hp cx.sp h0 h2 yz yw GW GV (fun e=>eW.ends) h fun c J1 c1 h=>?_;refine hr hw.2 n hn.2 F fo f _ _ _ _ _ xi fi _ _ hf (ln hp) c1 ((aS 0 (Ne.symm yw)).trans h0) ((aS 2 (Ne.symm GW)).trans h2) ((aS fi (Ne.symm GV)).trans yz) yw GW GV ?_;exact eW.of (fun e=>eW.ends) h fun d e' J2 he c2 h=>h _ _ (fun i hi=>(he i hi).trans (aS i hi)) c2.j
theorem bK.Dg {J:ae}{fo:Nat}{M:List AV}{m:MO}(CX:J[fo]?=some (.list M)):∀ {ds:List Nat} {sc:List Scope},bK J ds sc->bK (J.set fo m) ds sc
 | [],[],_=>trivial
 | d::ds,s::sc,h=>⟨(List.getElem?_set_ne (by rintro rfl; have:=CX.symm.trans h.1; cases this)).trans h.1,bK.Dg CX h.2⟩
 | [],_::_,h=>h.elim
 | _::_,[],h=>h.elim
theorem Nh {F:Fr}{J:ae}{L:List In}{b:List Nat}{fo:Nat}{f:Int}(h:Cx F J L b)(h2:J[fo]?=some (.list [.int f])):fo≠F.so:=by
 rintro rfl;have:=h.s1.symm.trans h2;cases hd:F.ds.reverse with
 | nil=>rw [hd] at this; cases this
 | cons d r=>rw [hd] at this; cases this
theorem Cx.turn {F:Fr}{J:ae}{L:List In}{b:List Nat}{fo:Nat}{f g:Int}(h:Cx F J L b)(hf:fo≠F.t)(CX:J[fo]?=some (.list [.int f])):Cx { F with b:=J.set fo (.list [.int g]) } (J.set fo (.list [.int g])) L b:=by
 have ht:(J.set fo (.list [.int g]))[F.t]?=some (.list (L.map In.av)):=(List.getElem?_set_ne hf).trans h.c2;have hr:fo≠F.r:=fun e=>by have:=(e▸h.c1).symm.trans CX; cases this
 exact ⟨⟨⟨_,ht⟩,(List.getElem?_set_ne hr).trans h.c1,(List.getElem?_set_ne (Nh h CX)).trans h.s1,h.s2.Dg CX,h.ok.n2,h.ok.ln⟩,ht,au.refl _ _,h.rm⟩
theorem Cx.back {F:Fr}{J J':ae}{L L':List In}{b b':List Nat}{fo:Nat}{f g:Int}(h:Cx F J L b)(hf:fo≠F.t)(CX:F.b[fo]?=some (.list [.int f]))(h':Cx { F with b:=J.set fo (.list [.int g]) } J' L' b'):Cx F (J'.set fo (.list [.int f])) L' b':=by
 have hl:=(Ai CX).1;have l1:=h'.kp.1;rw [List.length_set] at l1;refine ⟨h.ok,(List.getElem?_set_ne hf).trans h'.c2,⟨by rw [List.length_set]; exact Aa h.kp.1 l1,fun i hi gq=>?_⟩,h'.rm⟩;have hs:i<J.length:=An gq h.kp.1;by_cases e:i=fo
 ·subst e;rw [List.getElem?_set_self (An hs l1),CX]
 ·rw [List.getElem?_set_ne (Ne.symm e),h'.kp.2 i hi (by rw [List.length_set]; exact hs),List.getElem?_set_ne (Ne.symm e),h.kp.2 i hi gq]
theorem HM {J:ae}{fo:Nat}{f:Int}{P:AV->Prop}(h:J[fo]?=some (.list [.int f]))(p:P (.int f)):iJ (.obj fo) (.int 0) J P:=ag h p
theorem L2 {J:ae}{fo:Nat}{f g g':Int}{P:QX}(h:J[fo]?=some (.list [.int f]))(e:g=g')(p:P (J.set fo (.list [.int g']))):dT (.obj fo) (.int 0) (.int g) J P:=ag h (e▸p)
theorem sf (K:Core T D){n:Nat}{F:Fr}(up:Bool)(a c:Tx){L:List In}{b:List Nat}{J:ae}{Q:QV}{X:QX}(hn:1<=n)(cx:Cx F J L (1::b))
  (h:∀ J',Cx F J' (L++[.fH (cond up a c)]) b->Q (.int L.length) J'):bG T 16 (.obj F.r) J fun r=>qE (.bool up) (aj T D n 16 [.obj r,.tup [.str Dn,.str a]] J Q X) (aj T D n 16 [.obj r,.tup [.str Dn,.str c]] J Q X):=by
 cases up
 ·exact aw K (.fH c) hn cx h
 ·exact aw K (.fH a) hn cx h
theorem oy {F:Fr}{A M:List In}{x:In}{b:List Nat}{J:ae}{P:QX}{k N N':Nat}(g:Nat->In)(hN:N=N')(cx:Cx F J (A++x::M) b)(hk:k=A.length)(h:∀ J',Cx F J' (A++g N'::M) b->P J'):dT (.obj F.t) (.int k) (g N).av J P:=by
 subst hN; exact gU cx hk h
theorem cD.got {F:Fr}{res:R (List In)}{L w:List In}{b:List Nat}{Q:QV}{X:QX}(hx:res=.ok w)(h:∀ J',Cx F J' (L++w) b->Q .none J'):cD F res L b Q X:=by rw [hx]; exact h
noncomputable def vR (p f:Nat)(up:Bool)(u v w t:List In):List In:=
 let top:=p+u.length+v.length;let k:=top+5+w.length+2+t.length+5
 u++v++[.tick,.eU 0 f,.eU 0 (f+1),.fH (cond up [60,61] [62,61]),.gE k]++w++[.eU 0 f,.oQ]++t++[.eU 0 f,.lit 1,.fH (cond up [43] [45]),.x6 0 f,.jmp top,.gE (k+1),.gE (k+2)]
theorem pn (K:Core T D)(x:Tx)(a b:Ex)(up:Bool)(s:St)(hs:nP T D s):nP T D (.for x a b up s):=by
 intro hw n hn F fo f L p b' J Q X hf hp cx h;obtain ⟨n,rfl⟩:=ge1 (Aa (Ar 1 _) hn);have hn:=Nat.max_le.mp (Am hn);have wj:=Nat.max_le.mp hn.1;have uG:=Nat.max_le.mp hn.2;have h3:=Ap wj.1;have h1:1<=n:=Aa (by decide) h3;have hw:=Ab hw;have wg:=Ab hw.1;refine cm cx (K.ck 21 rfl rfl) ?_;refine ⟨jC,K.dk 21 rfl rfl,rfl,?_⟩;refine je K (kinds:=Lm) (Ap h3) rfl cx ?_;have h:cD F ((cN F.sc x).bind fun w=>(cK F.sc a).bind fun u=>(cK F.sc b).bind fun v=>(bk F.sc (f+2) (p+u.length+v.length+5+w.length+2) s).bind fun t=>.ok (vR p f up u v w t)) L b' Q X:=h;cases hx:cN F.sc x with
 | bot=>rw [hx] at h; exact h.elim
 | err=>
  rw [hx] at h;unfold cN at hx;revert hx;rcases findS x F.sc 0 with _ | ⟨l,_ | _ | _ | _⟩<;>intro hx<;>first | exact h _ | (cases hx)
 | ok w=>
 rw [hx] at h;obtain ⟨l,w',WD,Wo,XN⟩:∃ l w',findS x F.sc 0=some (l,w')∧aG w'.kind Lm=true∧w.length=1:=by
  unfold cN at hx;revert hx;rcases findS x F.sc 0 with _ | ⟨l,_ | _ | _ | _⟩<;>intro hx<;>cases hx<;>exact ⟨_,_,rfl,rfl,rfl⟩
 rw [WD];show (match aG w'.kind Lm with
  | true=>_
  | false=>_)
 rw [Wo];refine dA K a wg.1 n uG.1 F _ _ _ _ _ cx.sp (cD.of cD.ends h fun u J1 c1 h=>?_);refine dA K b wg.2 n uG.2 F _ _ _ _ _ c1.sp (cD.of cD.ends h fun v J2 c₂ h=>?_);have f2:=c₂.kp.get hf.ne hf.at_;refine HM f2 ?_;refine HM f2 ?_;refine L2 (g':=((f+2:Nat):Int)) f2 rfl ?_;have c3:=c₂.turn (g:=((f+2:Nat):Int)) hf.ne f2;have Ud:y7 { F with b:=J2.set fo (.list [.int ((f+2:Nat):Int)]) } fo (f+2):=⟨hf.ne,get_set f2⟩;refine (a8 c3 ?_ :);refine ag c3.c2 ?_;refine (aw K .tick h1 (c3.sp.sp (x:=1) (y:=5)) fun J4 c4=>?_ :);refine (aw K (.eU 0 f) h1 (c4.sp (x:=1) (y:=4)) fun J5 c5=>?_ :);refine (aw K (.eU 0 (f+1)) h1 (c5.j.sp (x:=1) (y:=3)) fun J6 c6=>?_ :);refine (sf K up [60,61] [62,61] h1 (c6.j.sp (x:=1) (y:=2)) fun J7 c7=>?_ :);refine (aw K .wd h1 (c7.j.sp (x:=1) (y:=1)) fun J8 c8=>?_ :);refine (ml K h3 c8.j (cD.got hx fun J9 c9=>?_) :);refine (aw K (.eU 0 f) h1 (c9.sp.sp (x:=1) (y:=1)) fun Ja ca=>?_ :);refine (aw K .oQ h1 ca fun Jb cb=>?_ :);refine (hs hw.2 n wj.2 _ fo (f+2) _ (p+u.length+v.length+5+w.length+2) _ _ _ _ Ud (ln (v:=[In.oQ]) (ln (v:=[In.eU 0 f]) (ln (ln (ln (ln hp)))))) cb.sp (cD.of cD.ends h fun t Jc cc h=>?_) :);refine (aw K (.eU 0 f) h1 (cc.sp (x:=1) (y:=6)) fun Jd cd=>?_ :);refine (aw K (.lit 1) h1 (cd.sp (x:=1) (y:=5)) fun Je ce=>?_ :);refine (sf K up [43] [45] h1 (ce.j.sp (x:=1) (y:=4)) fun Jf cf=>?_ :);refine (aw K (.x6 0 f) h1 (cf.j.sp (x:=1) (y:=3)) fun Jg cg=>?_ :);refine (aw K (.jmp ((L++u++v).map In.av).length) h1 (cg.j.sp (x:=1) (y:=2)) fun Jh ch=>?_ :);refine (a8 ch ?_ :);refine ag ch.c2 ?_;refine (a8 ch ?_ :);have e1:_=p+u.length+v.length+5+w.length+2+t.length+5:=(Ah In.av).trans (ln (v:=[In.jmp ((L++u++v).map In.av).length]) (ln (v:=[In.eU 0 f,.lit 1,.fH (cond up [43] [45]),.x6 0 f]) (ln (v:=t) (ln (v:=[In.oQ]) (ln (v:=[In.eU 0 f]) (ln (v:=w) (ln (v:=[In.tick,.eU 0 f,.eU 0 (f+1),.fH (cond up [60,61] [62,61]),.wd]) (ln (v:=v) (ln (v:=u) hp)))))))));refine (oy .gE e1 (A:=L++u++v++[.tick,.eU 0 f,.eU 0 (f+1),.fH (cond up [60,61] [62,61])]) (x:=.wd) (M:=w++([.eU 0 f,.oQ]++(t++[.eU 0 f,.lit 1,.fH (cond up [43] [45]),.x6 0 f,.jmp ((L++u++v).map In.av).length]))) (ch.eq (by simp only [Ae,List.cons_append,List.nil_append])) rfl fun Ji ci=>?_ :);have f9:=ci.kp.get hf.ne Ud.at_;refine HM f9 ?_;refine L2 (g':=(f:Int)) f9 (show ((f:Int)+2)-2=(f:Int) from Int.add_sub_cancel _ 2) ?_;have cj:=c₂.back hf.ne hf.at_ ci;refine a8 cj ?_;refine ag cj.c2 ?_;refine aw K (.gE (_+1)) h1 (cj.sp (x:=1) (y:=1)) fun Jk ck=>?_;refine aw K (.gE (_+2)) h1 ck fun Jl cl=>?_;have e2:∀ N,((L++u++v++[In.tick,.eU 0 f,.eU 0 (f+1),.fH (cond up [60,61] [62,61])]++In.gE N::(w++([.eU 0 f,.oQ]++(t++[.eU 0 f,.lit 1,.fH (cond up [43] [45]),.x6 0 f,.jmp ((L++u++v).map In.av).length])))).map In.av).length=p+u.length+v.length+5+w.length+2+t.length+5:=fun N=>by
  simp only [Ah,Ac,List.length_cons,List.length_nil,hp];lia
 rw [e2,Ah,ln (ln hp)] at cl;exact h _ (cl.eq (by unfold vR; simp only [Ae,List.cons_append,List.nil_append]))
theorem BA (K:Core T D)(s:St):nP T D s∧tf T D s:=by
 have no:∀ s:St,s.wf true=false->tf T D s:=fun s h hw=>by rw [h] at hw; cases hw
 induction s with
 | empty=>exact ⟨BG K,no _ rfl⟩
 | set x e=>exact ⟨tC K x e,no _ rfl⟩
 | setAt x i e=>exact ⟨BE K x i e,no _ rfl⟩
 | call x as=>exact ⟨D1 K x as,no _ rfl⟩
 | if1 c a ih=>exact ⟨IB K c a ih.1,no _ rfl⟩
 | if2 c a b fT iA=>exact ⟨IA K c a b fT.1 iA.1,no _ rfl⟩
 | gf c a ih=>exact ⟨tA K c a ih.1,no _ rfl⟩
 | rep s c ih=>exact ⟨Iy K s c ih.2,no _ rfl⟩
 | «for» x a b up s ih=>exact ⟨pn K x a b up s ih.1,no _ rfl⟩
 | nk s ih=>exact ⟨ID K s ih.2,no _ rfl⟩
 | write e=>exact ⟨BB K e,no _ rfl⟩
 | one s ih=>exact ⟨(fun hw=>by cases hw),D5 K s ih.1⟩
 | seq s r CV P9=>exact ⟨(fun hw=>by cases hw),D4 K s r CV.1 P9.2⟩
end
noncomputable def dN (seen:List AV):List AV->Bool
 | .str x::r=>!aG x seen&&dN (seen++[.str x]) r
 | _=>true
noncomputable def cW (s:Scope)(a:Nat):List (Tx×Bool)->Scope×Nat
 | []=>(s,a)
 | (x,v)::r=>cW (dz x (match v with
  | true=>.ref a
  | false=>.var a) s) (a+1) r
noncomputable def eK (s:Scope)(a:Nat):List (Tx×Option Nat)->R (Scope×Nat)
 | []=>.ok (s,a)
 | (x,Option.none)::r=>eK (dz x (.var a) s) (a+1) r
 | (x,some z)::r=>match Nat.ble 1 z with
  | true=>eK (dz x (.arr a z) s) (a+z) r
  | false=>.err
noncomputable def cF {α:Type}:List (Tx×α)->List AV
 | []=>[]
 | x::r=>.str x.1::cF r
noncomputable def Bl.names:Bl->List AV
 | .proc x _ _ r=>.str x::r.names
 | _=>[]
noncomputable def d7 (n:Nat):List In:=match n with
 | 0=>[]
 | n+1=>[.int (n+1)]
mutual
noncomputable def dJ (sc:List Scope)(p:Nat)(params:List (Tx×Bool)):Bl->R (List In)
 | .mk vs ps ss=>match dN [] (cF params++cF vs++ps.names) with
  | false=>.err
  | true=>(eK (cW [] 3 params).1 (cW [] 3 params).2 vs).bind fun w=>
   (bU sc w.1 (p+1) ps).bind fun c=>
   (bk (c.2::sc) w.2 (p+1+c.1.length+(d7 (w.2-(cW [] 3 params).2)).length) ss).bind fun d=>.ok ([.jmp (p+1+c.1.length)]++c.1++d7 (w.2-(cW [] 3 params).2)++d++[.ret])
 | _=>.bot
noncomputable def bU (sc:List Scope)(s:Scope)(p:Nat):Bl->R (List In×Scope)
 | .proc x q b r=>(dJ (dz x (.proc p q) s::sc) p q b).bind fun c=>
   (bU sc (dz x (.proc p q) s) (p+c.length) r).bind fun d=>.ok (c++d.1,d.2)
 | .nil=>.ok ([],s)
 | .mk ..=>.bot
end
noncomputable def Bl.sz:Bl->Nat
 | .mk vs ps ss=>vs.length+(1+(ps.sz+(1+(ss.sz+1))))
 | .proc _ q b r=>(q.length+b.sz)+(1+r.sz)
 | .nil=>0
noncomputable def Bl.fu:Bl->Nat
 | .mk vs ps ss=>max (max 1 ps.fu) ss.fu+1
 | .proc _ q b r=>max b.fu r.fu
 | .nil=>0
noncomputable def Bl.wf:Bool->Bl->Bool
 | false,.mk vs ps ss=>ps.wf true&&ss.wf true
 | true,.proc _ q b r=>b.wf false&&r.wf true
 | true,.nil=>true
 | _,_=>false
theorem vA:∀ q:List (Tx×Bool),picks 2 0 (q.map oU)=some (cF q)
 | []=>rfl
 | x::r=>by
  show (picks 2 0 (r.map oU)).map _=_;rw [vA r]; rfl
theorem vw:∀ q:List (Tx×Option Nat),picks 2 0 (q.map uC)=some (cF q)
 | []=>rfl
 | x::r=>by
  show (picks 2 0 (r.map uC)).map _=_;rw [vw r]; rfl
theorem vB:∀ b:Bl,b.wf true=true->picks 3 0 b.procs=some b.names
 | .mk ..,h=>by cases h
 | .nil,_=>rfl
 | .proc x q b r,h=>by
  show (picks 3 0 r.procs).map _=_;rw [vB r (Ab h).2]; rfl
theorem oA:∀ b:Bl,b.names.length<=b.sz
 | .mk ..=>Nat.zero_le _
 | .nil=>Nat.zero_le _
 | .proc x q b r=>Aa (Au (oA r)) (Aa (Nat.le_of_eq (Nat.add_comm _ 1)) (Ar _ _))
theorem gX {α:Type}:∀ q:List (Tx×α),(cF q).length=q.length
 | []=>rfl
 | x::r=>congrArg Nat.succ (gX r)
theorem f7 {x:AV}{l:List AV}(h:cq (x::l)=true):(∃ y,x=.str y)∧cq l=true:=by
 cases x<;>first | exact ⟨⟨_,rfl⟩,h⟩ | (cases h)
theorem jY:∀ {a b:List AV},cq a=true->cq b=true->cq (a++b)=true
 | [],_,_,h=>h
 | x::a,b,h,h'=>by obtain ⟨⟨y,rfl⟩,h2⟩:=f7 h; exact jY (a:=a) h2 h'
theorem qm {α:Type}:∀ q:List (Tx×α),cq (cF q)=true
 | []=>rfl
 | x::r=>qm r
theorem oP:∀ b:Bl,cq b.names=true
 | .mk ..=>rfl
 | .nil=>rfl
 | .proc x q b r=>oP r
theorem mN:∀ {l:List AV} (j:Nat),cq l=true->cq (l.take j)=true
 | [],_,_=>by rw [List.take_nil]; rfl
 | x::l,0,h=>rfl
 | x::l,j+1,h=>by obtain ⟨⟨y,rfl⟩,h2⟩:=f7 h; exact mN (l:=l) j h2
theorem mO:∀ {l:List AV} {j:Nat} {x:AV} {r:List AV},cq l=true->l.drop j=x::r->∃ y,x=.str y
 | x::l,0,_,_,h,e=>by cases e; exact (f7 h).1
 | x::l,j+1,_,_,h,e=>mO (l:=l) (j:=j) (f7 h).2 e
 | [],j,_,_,_,e=>by rw [List.drop_nil] at e; cases e
theorem rH:∀ (q:List (Tx×Bool)) (s:Scope) (a:Nat),(cW s a q).1.length<=s.length+q.length
 | [],s,a=>Aj _
 | (x,v)::r,s,a=>Aa (rH r _ _) (Aa (Al (ey x _ s) _) (Nat.le_of_eq (Aw _ 1 _)))
theorem lT:∀ (q:List (Tx×Option Nat)) (s:Scope) (a:Nat) (w:Scope×Nat),eK s a q=.ok w->a<=w.2∧w.1.length<=s.length+q.length
 | [],s,a,w,h=>by cases h; exact ⟨Aj _,Aj _⟩
 | (x,Option.none)::r,s,a,w,h=>by
  obtain ⟨h1,h2⟩:=lT r _ _ w h;exact ⟨Ap h1,Aa h2 (Aa (Al (ey x _ s) _) (Nat.le_of_eq (Aw _ 1 _)))⟩
 | (x,some z)::r,s,a,w,h=>by
  have h:(match Nat.ble 1 z with
   | true=>eK (dz x (.arr a z) s) (a+z) r
   | false=>.err)=R.ok w:=h
  revert h;cases Nat.ble 1 z<;>intro h
  ·cases h
  ·obtain ⟨h1,h2⟩:=lT r _ _ w h;exact ⟨Aa (Af _ _) h1,Aa h2 (Aa (Al (ey x _ s) _) (Nat.le_of_eq (Aw _ 1 _)))⟩
section
variable {T:aQ}{D:Nat->Option aD}
theorem El {J:ae}{r:Nat}{l:List AV}{x:Tx}{P:Bool->Prop}(h:J[r]?=some (.list l))(ht:cq l=true)(q:P (aG x l)):s9 x r J P:=by
 unfold s9; exact .inl ⟨_,h,ht,q⟩
theorem E3 (K:Core T D){n o:Nat}{l:List AV}(hn:1<=n)(hl:cq l=true){J₀:ae}{QQ:QF}{XX:XS} :
  ∀ (r:List AV) (j:Nat) (e:Ev) (J:ae),l.drop j=r->e 7=some (.obj o)->J[o]?=some (.list l)->Ext J₀ J->
   (match dN (l.take j) r with
    | true=>∀ e' J',(∀ i,i≠8->e' i=e i)->Ext J₀ J'->QQ .next e' J'
    | false=>∀ e J,XX e J)->
   cS (nc 8) (aH T (aj T D n) A0) ((List.range' j r.length).map fun (k:Nat)=>AV.int (0+(k:Int))) e J QQ XX:=by
 intro r
 induction r with
 | nil=>intro j e J hj h7 ho hx h; exact h e J (fun _ _=>rfl) hx
 | cons x r ih=>
  intro j e J hj h7 ho hx h;obtain ⟨y,rfl⟩:=mO hl hj;obtain ⟨d1,d2,d3⟩:=k0 hj;refine aa (e:=upd e 8 _) (i:=7) h7 ?_;refine ag ho ?_;refine aq (by rw [Int.zero_add]; exact bc d1) ?_;refine aq d2 ?_;refine aa (e:=upd e 8 _) (i:=7) h7 ?_;refine ag ho ?_;refine aq (o:=Dk Option.none) (a:=0) rfl ?_;refine aq (o:=Du l.length (some (.int (0+(j:Int))))) (a:=j) (by rw [Int.zero_add]; rfl) ?_;refine El ay (mN j hl) ?_;refine ⟨K.ck 14 rfl rfl,?_⟩;have h:(match (!aG y (l.take j)&&dN (l.take j++[.str y]) r) with
    | true=>∀ e' J',(∀ i,i≠8->e' i=e i)->Ext J₀ J'->QQ .next e' J'
    | false=>∀ e J,XX e J):=h
  refine eQ K hn (fun hb=>?_) fun hb=>?_
  ·rw [show (!aG y (l.take j))=true from hb] at h;have et:l.take (j+1)=l.take j++[.str y]:=by rw [List.take_succ,d2]; rfl
   rw [← et] at h;refine ih (j+1) _ _ d3 h7 (ar ho) hx.push ?_;revert h;show (match dN (l.take (j+1)) r with
    | true=>∀ e' J',(∀ i,i≠8->e' i=e i)->Ext J₀ J'->QQ .next e' J'
    | false=>∀ e J,XX e J)->_
   cases dN (l.take (j+1)) r with
   | true=>intro h e' J' he VW; exact h e' J' (fun i hi=>(he i hi).trans (aS i hi)) VW
   | false=>exact id
  ·rw [show (!aG y (l.take j))=false from hb] at h;exact h _ _
theorem dict_set {J:ae}{d:Nat}{s:Scope}{x:Tx}{w:Sc}{P:QX}(hd:J[d]?=some (.dict (dR s)))(hl:s.length<lid)(h:P (J.set d (.dict (dR (dz x w s))))):dT (.obj d) (.str x) w.av J P:=by
 refine Bg hd ⟨?_,?_⟩
 ·unfold dR; rw [Ah]; exact hl
 ·rw [rD]; exact h
theorem Ec {C:Calls}{d:Nat}{QQ:QF}{XX:XS}:∀ (q:List (Tx×Bool)) (s:Scope) (a:Nat) (e:Ev) (J:ae),e 9=some (.obj d)->e 10=some (.int a)->J[d]?=some (.dict (dR s))->s.length+q.length<lid->
  (∀ e' J',(∀ i,i≠10->i≠11->i≠12->e' i=e i)->e' 10=some (.int (cW s a q).2)->J'[d]?=some (.dict (dR (cW s a q).1))->au d J J'->QQ .next e' J')->
  cS (wa [11,12]) (aH T C A1) (q.map oU) e J QQ XX:=by
 intro q
 induction q with
 | nil=>intro s a e J h9 ib hd hl h; exact h e J (fun _ _ _ _=>rfl) ib hd (au.refl _ _)
 | cons x q ih=>
  intro s a e J h9 ib hd hl h;obtain ⟨x,v⟩:=x;have ye:∀ w,(dz x w s).length+q.length<lid:=fun w=>Ao (Aa (Al (ey x w s) _) (Nat.le_of_eq (Aw _ 1 _))) hl;have hs:s.length<lid:=Ao (Af _ _) hl;have CY:∀ (a b c:AV) i,i≠10->i≠11->i≠12->upd (upd (upd e 11 a) 12 b) 10 c i=e i:=fun a b c i h0 h1 h2=>(aS i h0).trans ((aS i h2).trans (aS i h1));cases v with
  | true=>
   refine aa (e:=upd (upd e 11 (.str x)) 12 (.bool true)) (i:=10) ib ?_;refine aa (e:=upd (upd e 11 (.str x)) 12 (.bool true)) (i:=9) h9 ?_;refine dict_set (w:=.ref a) hd hs ?_;refine aa (e:=upd (upd e 11 (.str x)) 12 (.bool true)) (i:=10) ib ?_;exact ih (dz x (.ref a) s) (a+1) (upd (upd (upd e 11 (.str x)) 12 (.bool true)) 10 (.int (a+1:Nat))) _ h9 rfl (get_set hd) (ye _) fun e' J' he td qB k'=>h e' J' (fun i h0 h1 h2=>(he i h0 h1 h2).trans (CY _ _ _ i h0 h1 h2)) td qB (au.self.trans k')
  | false=>
   refine aa (e:=upd (upd e 11 (.str x)) 12 (.bool false)) (i:=10) ib ?_;refine aa (e:=upd (upd e 11 (.str x)) 12 (.bool false)) (i:=9) h9 ?_;refine dict_set (w:=.var a) hd hs ?_;refine aa (e:=upd (upd e 11 (.str x)) 12 (.bool false)) (i:=10) ib ?_;exact ih (dz x (.var a) s) (a+1) (upd (upd (upd e 11 (.str x)) 12 (.bool false)) 10 (.int (a+1:Nat))) _ h9 rfl (get_set hd) (ye _) fun e' J' he td qB k'=>h e' J' (fun i h0 h1 h2=>(he i h0 h1 h2).trans (CY _ _ _ i h0 h1 h2)) td qB (au.self.trans k')
theorem DK (K:Core T D){n d:Nat}(hn:1<=n){QQ:QF}{XX:XS}:∀ (q:List (Tx×Option Nat)) (s:Scope) (a:Nat) (e:Ev) (J:ae),e 9=some (.obj d)->e 10=some (.int a)->J[d]?=some (.dict (dR s))->s.length+q.length<lid->
  (match eK s a q with
   | .ok w=>∀ e' J',(∀ i,i≠10->i≠11->i≠14->e' i=e i)->e' 10=some (.int w.2)->J'[d]?=some (.dict (dR w.1))->au d J J'->QQ .next e' J'
   | .err=>∀ e J,XX e J
   | .bot=>False)->
  cS (wa [11,14]) (aH T (aj T D n) tU) (q.map uC) e J QQ XX:=by
 intro q
 induction q with
 | nil=>intro s a e J h9 ib hd hl h; exact h e J (fun _ _ _ _=>rfl) ib hd (au.refl _ _)
 | cons x q ih=>
  intro s a e J h9 ib hd hl h;obtain ⟨x,v⟩:=x;have hs:s.length<lid:=Ao (Af _ _) hl;have go:∀ (w:Sc) (v c:AV) (a':Nat),c=.int a'->(match eK (dz x w s) a' q with
   | .ok w=>∀ e' J',(∀ i,i≠10->i≠11->i≠14->e' i=e i)->e' 10=some (.int w.2)->J'[d]?=some (.dict (dR w.1))->au d J J'->QQ .next e' J'
   | .err=>∀ e J,XX e J
   | .bot=>False)->cS (wa [11,14]) (aH T (aj T D n) tU) (q.map uC) (upd (upd (upd e 11 (.str x)) 14 v) 10 c) (J.set d (.dict (dR (dz x w s)))) QQ XX:=by
   intro w v c a' hc h;subst hc;refine ih (dz x w s) a' (upd (upd (upd e 11 (.str x)) 14 v) 10 (.int a')) _ h9 rfl (get_set hd) (Ao (Aa (Al (ey x w s) _) (Nat.le_of_eq (Aw _ 1 _))) hl) ?_;revert h;cases eK (dz x w s) a' q with
   | ok w'=>exact fun h e' J' WK td qB k'=>h e' J' (fun i h0 h1 h2=>(WK i h0 h1 h2).trans ((aS i h0).trans ((aS i h2).trans (aS i h1)))) td qB (au.self.trans k')
   | err=>exact id
   | bot=>exact id
  cases v with
  | none=>
   refine lO ?_;refine ⟨K.ck 14 rfl rfl,?_⟩;refine eQ K hn (fun _=>?_) fun q=>Bool.noConfusion q;refine lO ?_;refine aa (e:=upd (upd e 11 (.str x)) 14 .none) (i:=10) ib ?_;refine aa (e:=upd (upd e 11 (.str x)) 14 .none) (i:=9) h9 ?_;refine dict_set (w:=.var a) hd hs ?_;refine aa (e:=upd (upd e 11 (.str x)) 14 .none) (i:=10) ib ?_;refine lO ?_;exact go (.var a) _ _ (a+1) rfl h
  | some z=>
   have h:(match (match Nat.ble 1 z with
     | true=>eK (dz x (.arr a z) s) (a+z) q
     | false=>.err) with
    | .ok w=>∀ e' J',(∀ i,i≠10->i≠11->i≠14->e' i=e i)->e' 10=some (.int w.2)->J'[d]?=some (.dict (dR w.1))->au d J J'->QQ .next e' J'
    | .err=>∀ e J,XX e J
    | .bot=>False):=h
   refine tM ?_;refine ⟨K.ck 14 rfl rfl,?_⟩;refine eQ K hn (fun hb=>?_) fun hb=>?_
   ·rw [Nat.ble_eq_true_of_le (Int.ofNat_le.mp (Ax hb))] at h;refine tM ?_;refine aa (e:=upd (upd e 11 (.str x)) 14 (.int z)) (i:=10) ib ?_;refine aa (e:=upd (upd e 11 (.str x)) 14 (.int z)) (i:=9) h9 ?_;refine dict_set (w:=.arr a z) hd hs ?_;refine aa (e:=upd (upd e 11 (.str x)) 14 (.int z)) (i:=10) ib ?_;refine tM ?_;exact go (.arr a z) _ _ (a+z) rfl h
   ·rw [show Nat.ble 1 z=false from Bool.eq_false_iff.mpr fun q=>of_decide_eq_false hb (Int.ofNat_le.mpr (Ad q))] at h;exact h _ _
end
def eO (t d:Nat)(J J':ae):Prop:=J.length<=J'.length∧∀ i,i≠t->i≠d->i<J.length->J'[i]?=J[i]?
theorem eO.refl (t d:Nat)(J:ae):eO t d J J:=⟨Aj _,fun _ _ _ _=>rfl⟩
theorem eO.trans {t d:Nat}{a b c:ae}(h:eO t d a b)(h':eO t d b c):eO t d a c:=
 ⟨Aa h.1 h'.1,fun i hi hj hl=>by rw [h'.2 i hi hj (An hl h.1),h.2 i hi hj hl]⟩
theorem au.to2 {t d:Nat}{a b:ae}(h:au t a b):eO t d a b:=⟨h.1,fun i hi _ hl=>h.2 i hi hl⟩
theorem au.Hj {t d:Nat}{a b:ae}(h:au d a b):eO t d a b:=⟨h.1,fun i _ hi hl=>h.2 i hi hl⟩
theorem eO.back {t d:Nat}{J J1 J2:ae}(h:au t J J1)(hd:J.length<=d)(k:eO t d J1 J2):au t J J2:=
 ⟨Aa h.1 k.1,fun i hi hl=>by rw [k.2 i hi (Nat.ne_of_lt (An hl hd)) (An hl h.1),h.2 i hi hl]⟩
theorem bK.mono {J J':ae}:∀ {ds:List Nat} {sc:List Scope},(∀ d∈ds,∀ s,J[d]?=some (.dict s)->J'[d]?=some (.dict s))->bK J ds sc->bK J' ds sc
 | [],[],_,_=>trivial
 | d::ds,s::sc,k,h=>⟨k d List.mem_cons_self _ h.1,bK.mono (fun d hd=>k d (List.mem_cons_of_mem _ hd)) h.2⟩
 | [],_::_,_,h=>h.elim
 | _::_,[],_,h=>h.elim
theorem Cx.zb {r t so d:Nat}{ds:List Nat}{s s':Scope}{sc:List Scope}{β J J':ae}{L:List In}{b:List Nat}(h:Cx ⟨r,t,so,d::ds,s::sc,β⟩ J L b)(hd:d∉ds)(k:au d J J')(h':J'[d]?=some (.dict (dR s'))):Cx ⟨r,t,so,d::ds,s'::sc,J'⟩ J' L b:=by
 have GZ:J[d]?=some (.dict (dR s)):=h.s2.1;have h1:r≠d:=by rintro rfl; have:=GZ.symm.trans h.c1; cases this
 have h2:t≠d:=by rintro rfl; have:=GZ.symm.trans h.c2; cases this
 have h3:so≠d:=by rintro rfl; have:=GZ.symm.trans h.s1; cases this
 have c2:=k.get h2 h.c2;exact ⟨⟨⟨_,c2⟩,k.get h1 h.c1,k.get h3 h.s1,⟨h',bK.mono (fun d' qB s hs=>k.get (by rintro rfl; exact hd qB) hs) h.s2.2⟩,h.ok.n2,h.ok.ln⟩,c2,au.refl _ _,h.rm⟩
theorem Cx.now {F:Fr}{J:ae}{L:List In}{b:List Nat}(h:Cx F J L b):Cx { F with b:=J } J L b:=⟨⟨⟨_,h.c2⟩,h.c1,h.s1,h.s2,h.ok.n2,h.ok.ln⟩,h.c2,au.refl _ _,h.rm⟩
def yD (F:Fr)(res:R (List In))(L:List In)(b:List Nat)(Q:QV)(X:QX):Prop:=match res with
 | .ok c=>∀ J' (k:Int),Cx F J' (L++c) b->Q (.int k) J'
 | .err=>∀ J',X J'
 | .bot=>False
theorem yD.ends {F:Fr}{L:List In}{b:List Nat}{Q:QV}{X:QX}:Ends (fun res=>yD F res L b Q X) X:=⟨fun h=>h,fun h=>h⟩
theorem yD.of {β:Type}{m:R (List In)}{f:List In->R β}{G:R β->Prop}{F:Fr}{L:List In}{b:List Nat}{Q:QV}{X:QX}(E:Ends G X)(h:G (m.bind f))
  (c:∀ q J' (k:Int),Cx F J' (L++q) b->G (f q)->Q (.int k) J'):yD F m L b Q X:=by
 cases m with
 | ok q=>exact fun J' k h1=>c q J' k h1 h
 | err=>exact E.err h
 | bot=>exact (E.bot h).elim
def H8 (T:aQ)(D:Nat->Option aD)(b:Bl):Prop:=b.wf false=true->∀ n,b.fu<=n->∀ F L p (q:List (Tx×Bool)) oY J Q X,Cx F J L ((q.length+b.sz)::oY)->F.ds.length+b.fu<=900->L.length=p->
 yD F (dJ F.sc p q b) L oY Q X->bG T 17 (.obj F.r) J fun r=>aj T D n 17 [.obj r,b.av,.obj F.so,.tup (q.map oU)] J Q X
def H6 (r t so d:Nat)(ds:List Nat)(sc:List Scope)(res:R (List In×Scope))(L:List In)(b:List Nat)(J:ae)(e:Ev)(QQ:QF)(XX:XS):Prop:=match res with
 | .ok w=>∀ e' J',(∀ i,i≠11->i≠16->i≠17->e' i=e i)->Cx ⟨r,t,so,d::ds,w.2::sc,J'⟩ J' (L++w.1) b->eO t d J J'->QQ .next e' J'
 | .err=>∀ e J,XX e J
 | .bot=>False
def y5 (T:aQ)(D:Nat->Option aD)(b:Bl):Prop:=b.wf true=true->∀ n,b.fu<=n->∀ r t so d ds s sc β L p oY J e QQ XX,Cx ⟨r,t,so,d::ds,s::sc,β⟩ J L (b.sz::oY)->d∉ds->ds.length+1+b.fu<=900->s.length+b.names.length<lid->L.length=p->
 e 0=some (.obj r)->e 2=some (.obj so)->e 9=some (.obj d)->H6 r t so d ds sc (bU sc s p b) L oY J e QQ XX->cS (wa [11,16,17]) (aH T (aj T D n) A2) b.procs e J QQ XX
section
variable {T:aQ}{D:Nat->Option aD}
theorem IS:y5 T D .nil:=by
 intro hw n hn r t so d ds s sc β L p oY J e QQ XX cx hd qI hs hp h0 h2 h9 h;exact h e J (fun _ _ _ _=>rfl) ((List.append_nil L).symm▸cx.zero.now) (eO.refl _ _ _)
theorem D9 (K:Core T D)(x:Tx)(q:List (Tx×Bool))(b u:Bl)(hb:H8 T D b)(hu:y5 T D u):y5 T D (.proc x q b u):=by
 intro hw n hn r t so d ds s sc β L p oY J e QQ XX cx hd qI hs hp h0 h2 h9 h;have hw:=Ab hw;have hn:=Nat.max_le.mp hn;have fE:s.length<lid:=Ao (Af _ _) hs;have k1:eO t d J (J.set d (.dict (dR (dz x (.proc p q) s)))):=au.Hj au.self;have LN:=cx.zb (s':=dz x (.proc p q) s) hd au.self (get_set cx.s2.1);refine aa (e:=upd (upd (upd e 11 (.str x)) 16 (.tup (q.map oU))) 17 b.av) (i:=0) h0 ?_;refine (a8 cx ?_ :);refine ag cx.c2 ?_;rw [Ah,hp];refine aa (e:=upd (upd (upd e 11 (.str x)) 16 (.tup (q.map oU))) 17 b.av) (i:=9) h9 ?_;refine dict_set (w:=.proc p q) cx.s2.1 fE ?_;refine aa (e:=upd (upd (upd e 11 (.str x)) 16 (.tup (q.map oU))) 17 b.av) (i:=0) h0 ?_;refine (cm LN (K.ck 17 rfl rfl) ?_ :);refine aa (e:=upd (upd (upd e 11 (.str x)) 16 (.tup (q.map oU))) 17 b.av) (i:=2) h2 ?_;have E:Ends (fun res=>H6 r t so d ds sc res L oY J e QQ XX) (XX (upd (upd (upd e 11 (.str x)) 16 (.tup (q.map oU))) 17 b.av)):=⟨fun h J'=>h _ J',fun h=>h⟩;refine (yp (hb hw.1 n hn.1 _ L p q _ _ _ _ LN.sp (Aa (Ak (Nat.le_max_left _ _) _) qI) hp (yD.of E h fun c J1 k c1 h=>?_)) :);refine hu hw.2 n hn.2 r t so d ds _ sc _ (L++c) (p+c.length) _ J1 (upd (upd (upd e 11 (.str x)) 16 (.tup (q.map oU))) 17 b.av) QQ XX (c1.pad (Ar _ _)) hd (Aa (Ak (Nat.le_max_right _ _) _) qI) (Ao (Aa (Al (ey x _ s) _) (Nat.le_of_eq (Aw _ 1 _))) hs) (ln hp) h0 h2 h9 ?_;revert h;unfold H6 R.bind;cases bU sc (dz x (.proc p q) s) (p+c.length) u with
 | ok w=>
  intro h e' J' he Xn k';exact h e' J' (fun i a1 a2 a3=>(he i a1 a2 a3).trans ((aS i a3).trans ((aS i a2).trans (aS i a1)))) Xn.j ((k1.trans c1.kp.to2).trans k')
 | err=>exact id
 | bot=>exact id
end
theorem bK.lt {J:ae}:∀ {ds:List Nat} {sc:List Scope},bK J ds sc->∀ d∈ds,d<J.length
 | [],[],_,d,h=>by cases h
 | d::ds,s::sc,h,x,hx=>by
  rcases List.mem_cons.mp hx with rfl | hx
  ·exact (Ai h.1).1
  ·exact bK.lt h.2 x hx
 | [],_::_,h,_,_=>h.elim
 | _::_,[],h,_,_=>h.elim
theorem Ext.keep {t:Nat}{J J':ae}(x:Ext J J'):au t J J':=⟨x.1,fun i _ h=>x.2 i h⟩
theorem Cx.drop {F:Fr}{J:ae}{L:List In}{x:Nat}{b:List Nat}(h:Cx F J L (x::b)):Cx F J L b:=(h.pad (Nat.zero_le x)).zero
section
variable {T:aQ}{D:Nat->Option aD}
theorem Ce (K:Core T D){n:Nat}{F:Fr}(i:In){v:AV}(hv:v=i.av){L:List In}{b:List Nat}{J:ae}{Q:QV}{X:QX}(hn:1<=n)(cx:Cx F J L (1::b))
  (h:∀ J',Cx F J' (L++[i]) b->Q (.int L.length) J'):aj T D n 16 [.obj F.r,v] J Q X:=by
 subst hv; exact yp (aw K i hn cx h)
theorem Oc (K:Core T D){n:Nat}{F F₀:Fr}{L c:List In}{p a fi:Nat}{ss:St}{J:ae}{e:Ev}{Q:QV}{X:QX}{oY:List Nat}
  (hw:ss.wf true=true) (hn:ss.fu<=n) (h1:1<=n) (cx:Cx F J (L++[.sT]++c) ((1+(ss.sz+1))::oY)) (hp:L.length=p)
  (h0:e 0=some (.obj F.r)) (h2:e 2=some (.obj F.so)) (h6:e 6=some (.tup ss.row)) (ib:e 10=some (.int a)) (FF:e 13=some (.int fi)) (G5:e 15=some (.int p))
  (kb:∀ J' L',Cx F J' L' oY->Cx F₀ J' L' oY)
  (h:yD F₀ ((bk F.sc a (p+1+c.length+(d7 (a-fi)).length) ss).bind fun z=>.ok ([.jmp (p+1+c.length)]++c++d7 (a-fi)++z++[.ret])) L oY Q X) :
  aH T (aj T D n) AZ e J (fun fl e J'=>match fl with
    | .ret v=>Q v J'
    | .next=>Q .none J'
    | _=>False) (fun _ J'=>X J'):=by
 have hN:((L++[In.sT]++c).map In.av).length=p+1+c.length:=(Ah _).trans (ln (ln (v:=[In.sT]) hp));refine aa h0 ?_;refine a8 cx ?_;refine ag cx.c2 ?_;refine aa (e:=upd e 18 _) (i:=0) h0 ?_;refine a8 cx ?_;refine aa (e:=upd e 18 _) (i:=15) G5 ?_;refine oy .jmp hN (A:=L) (x:=.sT) (M:=c) cx.j hp.symm fun J1 c1=>?_;have body:∀ (i:List In) (J2:ae) (b:List Nat),d7 (a-fi)=i->Cx F J2 (L++([In.jmp (p+1+c.length)]++c++i)) ((ss.sz+1)::oY)->
   aH T (aj T D n) (.cons (.set 19 (.list (.cons (.v 10) .nil))) (.cons (.gx 20 (.v 6) A3) (.cons (.expr (.ai (.v 0) 16 (.cons (.tuple (.cons (.str [114,101,116]) .nil)) .nil))) (.cons (.ret (.v 18)) .nil)))) (upd e 18 (.int ((L++[In.sT]++c).map In.av).length)) J2 (fun fl e J'=>match fl with
    | .ret v=>Q v J'
    | .next=>Q .none J'
    | _=>False) (fun _ J'=>X J'):=by
  intro i J2 b hi c₂;rw [hi] at h;refine aa (e:=upd e 18 _) (i:=10) ib ?_;refine aa (e:=upd (upd e 18 _) 19 _) (i:=6) h6 ?_;have c3:Cx F (J2++[.list [.int a]]) (L++([In.jmp (p+1+c.length)]++c++i)) ((ss.sz+1)::oY):=⟨c₂.ok,ar c₂.c2,c₂.kp.push,c₂.rm⟩;have Xa:y7 { F with b:=J2++[.list [.int a]] } J2.length a:=⟨Nat.ne_of_gt (Ai c₂.c2).1,ay⟩;refine (BA K ss).2 hw n hn { F with b:=J2++[.list [.int a]] } J2.length a _ _ _ _ _ 20 19 _ _ Xa (show _=p+1+c.length+i.length by rw [← Ae,← Ae]; exact ln (ln (ln (v:=[In.jmp (p+1+c.length)]) hp))) c3.now.sp h0 h2 rfl (by decide) (by decide) (by decide) ?_;refine eW.of (fun e=>yD.ends) h fun z e3 J3 he c4 h=>?_;refine aa ((he 0 (by decide)).trans h0) ?_;refine (aw K .ret h1 c4 fun J5 c5=>?_ :);refine aa (he 18 (by decide)) ?_;exact h _ _ ((kb _ _ ⟨c₂.ok,c5.c2,c3.kp.trans c5.kp,c5.rm⟩).eq (by simp only [Ae,List.cons_append,List.nil_append]))
 refine aa (e:=upd e 18 _) (i:=10) ib ?_;refine aa (e:=upd e 18 _) (i:=13) FF ?_;refine t6 (fun K5=>?_) fun K5=>?_
 ·have K5:fi<a:=Int.ofNat_lt.mp K5;refine aa (e:=upd e 18 _) (i:=0) h0 ?_;refine cm c1 (K.ck 16 rfl rfl) ?_;refine aa (e:=upd e 18 _) (i:=10) ib ?_;refine aa (e:=upd e 18 _) (i:=13) FF ?_;refine Ce K (.int (a-fi)) (v:=.tup [.str ly,.int ((a:Int)-(fi:Int))]) (by rw [← Int.ofNat_sub (Nat.le_of_lt K5)]; rfl) h1 c1.sp fun J2 c₂=>?_;refine body [.int (a-fi)] J2 [] ?_ (c₂.eq (by simp only [Ae,List.cons_append,List.nil_append]));cases hq:a-fi with
  | zero=>exact absurd (Nat.sub_eq_zero_iff_le.mp hq) (Nat.not_le_of_lt K5)
  | succ m=>rfl
 ·refine body [] J1 [] ?_ ((c1.pad (y:=ss.sz+1) (Ar _ _)).eq (by rw [List.append_nil]; rfl));rw [Nat.sub_eq_zero_of_le (Nat.le_of_not_lt fun q=>K5 (Int.ofNat_lt.mpr q))]; rfl
theorem uh {J:ae}{a b:Nat}{l l':List AV}{Q:QV}(h1:J[a]?=some (.list l))(h2:J[b]?=some (.list l'))(hl:l.length+l'.length<=lid)(q:Q (.obj J.length) (J++[.list (l++l')])):H0 .add (.obj a) (.obj b) J Q:=ag h1 (ag h2 ⟨hl,q⟩)
theorem Od (K:Core T D)(vs:List (Tx×Option Nat))(ps:Bl)(ss:St)(We:y5 T D ps):H8 T D (.mk vs ps ss):=by
 intro hw n hn F L p q oY J Q X cx qI hp h;obtain ⟨n,rfl⟩:=ge1 (Aa (Ar 1 _) hn);have hn:=Nat.max_le.mp (Am hn);have wj:=Nat.max_le.mp hn.1;have hw:=Ab hw;have hlen:q.length+(vs.length+ps.sz)<=900000:=by
  have:=cx.rm;rw [List.sum_cons] at this;unfold Bl.sz at this;lia
 have Qi:=oA ps;have l1:(cF q).length+(cF vs).length<=lid:=by rw [gX,gX]; exact Aa (by lia) (show 900000<=lid by decide)
 have l2:(cF q++cF vs).length+ps.names.length<=900000:=by rw [Ac,gX,gX]; lia
 refine cm cx (K.ck 17 rfl rfl) ?_;refine ⟨HE,K.dk 17 rfl rfl,rfl,?_⟩;refine aq (vA q) ?_;refine aq (vw vs) ?_;refine uh (ar ay) ay l1 ?_;refine aq (vB ps hw.1) ?_;refine uh (ar ay) ay (Aa l2 (by decide)) ?_;refine ag ay ⟨?_,?_⟩
 ·rw [Ac]; exact Aa l2 (by decide)
 refine aq (range_items _) ?_;refine E3 K wj.1 (l:=cF q++cF vs++ps.names) (jY (jY (qm q) (qm vs)) (oP ps)) (J₀:=J) _ 0 _ _ rfl rfl ay (((((Ext.refl J).push.push).push).push).push) ?_;have h:yD F (match dN [] (cF q++cF vs++ps.names) with
  | false=>.err
  | true=>(eK (cW [] 3 q).1 (cW [] 3 q).2 vs).bind fun w=>
   (bU F.sc w.1 (p+1) ps).bind fun c=>
   (bk (c.2::F.sc) w.2 (p+1+c.1.length+(d7 (w.2-(cW [] 3 q).2)).length) ss).bind fun d=>.ok ([.jmp (p+1+c.1.length)]++c.1++d7 (w.2-(cW [] 3 q).2)++d++[.ret])) L oY Q X:=h
 revert h;rw [List.take_zero];cases dN [] (cF q++cF vs++ps.names) with
 | false=>exact fun h e J=>h _
 | true=>
  intro h e' J2 he x3;have g0:=he 0 (by decide);have g2:=he 2 (by decide);have g3:=he 3 (by decide);have g4:=he 4 (by decide);have g5:=he 5 (by decide);have g6:=he 6 (by decide);have k3:au F.t F.b J2:=cx.kp.trans x3.keep;refine aa (e:=upd (upd e' 9 _) 10 _) (i:=2) g2 ?_;refine ag (ar (ar (x3.get cx.s1))) ?_;refine ag ay ⟨by rw [Ah,List.length_reverse]; exact Aa (Au cx.ok.ln) (by decide),?_⟩;have gq:=(Ai (x3.get cx.c2)).1;have x4:Ext J (J2++[MO.dict []]++[MO.list [.obj J2.length]]++[MO.list (F.ds.reverse.map AV.obj++[.obj J2.length])]):=x3.push.push.push;have LN:Cx ⟨F.r,F.t,(J2++[MO.dict []]++[MO.list [.obj J2.length]]).length,J2.length::F.ds,[]::F.sc,J2++[MO.dict []]++[MO.list [.obj J2.length]]++[MO.list (F.ds.reverse.map AV.obj++[.obj J2.length])]⟩ (J2++[MO.dict []]++[MO.list [.obj J2.length]]++[MO.list (F.ds.reverse.map AV.obj++[.obj J2.length])]) L ((q.length+(Bl.mk vs ps ss).sz)::oY):=
   ⟨⟨⟨_,x4.get cx.c2⟩,x4.get cx.c1,by rw [ay,List.reverse_cons,List.map_append]; rfl,⟨ar (ar ay),bK.mono (fun d _ s hs=>x4.get hs) cx.s2⟩,by rw [Ac,Ac]; exact Nat.ne_of_gt (Nat.lt_add_right _ (Nat.lt_add_right _ gq)),Aa (Nat.succ_le_of_lt (An (Nat.lt_add_of_pos_right (Nat.succ_pos _)) qI)) (by decide)⟩,x4.get cx.c2,au.refl _ _,cx.rm⟩
  have Ug:J.length<=J2.length:=x3.1;have Qn:J2.length∉F.ds:=fun hm=>absurd (cx.s2.lt _ hm) (Nat.not_lt_of_le Ug);refine aa (e:=upd (upd (upd e' 9 _) 10 _) 2 _) (i:=3) g3 ?_;refine Ec q [] 3 _ _ rfl rfl LN.s2.1 (Ao (show [].length+q.length<=900000 by rw [List.length_nil,Nat.zero_add]; exact Aa (Af _ _) hlen) (by decide)) fun e2 J4 sR ib Mv k4=>?_;have Xm:=LN.zb Qn k4 Mv;have pl:=rH q [] 3;have f0:=(sR 0 (by decide) (by decide) (by decide)).trans g0;have f2:=sR 2 (by decide) (by decide) (by decide);have f4:=(sR 4 (by decide) (by decide) (by decide)).trans g4;have f5:=(sR 5 (by decide) (by decide) (by decide)).trans g5;have f6:=(sR 6 (by decide) (by decide) (by decide)).trans g6;have f9:=sR 9 (by decide) (by decide) (by decide);refine aa ib ?_;refine aa (e:=upd e2 13 _) (i:=4) f4 ?_;have l3:(cW [] 3 q).1.length+(vs.length+ps.names.length)<=900000:=by
   rw [List.length_nil] at pl; lia
  refine DK K wj.1 vs (cW [] 3 q).1 (cW [] 3 q).2 (upd e2 13 _) _ f9 ib Mv (Ao (by lia) (show 900000<lid by decide)) ?_;revert h;cases V4:eK (cW [] 3 q).1 (cW [] 3 q).2 vs with
  | bot=>exact fun h=>h.elim
  | err=>exact fun h e J=>h _
  | ok w=>
   intro h e3 J5 CY td Sn k5;obtain ⟨_,wg⟩:=lT _ _ _ _ V4;have Xl:=Xm.zb Qn k5 Sn;have i0:=(CY 0 (by decide) (by decide) (by decide)).trans f0;have i2:=(CY 2 (by decide) (by decide) (by decide)).trans f2;have i5:=(CY 5 (by decide) (by decide) (by decide)).trans f5;have i6:=(CY 6 (by decide) (by decide) (by decide)).trans f6;have i9:=(CY 9 (by decide) (by decide) (by decide)).trans f9;have VT:=CY 13 (by decide) (by decide) (by decide);refine aa i0 ?_;refine (aw K .sT wj.1 Xl.sp.drop.sp.drop.sp fun J6 c6=>?_ :);refine aa (e:=upd e3 15 _) (i:=5) i5 ?_;have kk:=((au.Hj (t:=F.t) k4).trans (au.Hj k5)).trans c6.kp.to2;refine We hw.1 n wj.2 F.r F.t _ _ F.ds w.1 F.sc _ _ (p+1) _ _ (upd e3 15 _) _ _ c6.sp Qn ?_ (Ao (show w.1.length+ps.names.length<=900000 by lia) (by decide)) (ln hp) i0 i2 i9 ?_
   ·exact Aa (Nat.le_of_eq (Aw _ 1 _)) (Aa (Au (Ak (Aa (Nat.le_max_right 1 _) (Nat.le_max_left _ ss.fu)) _)) qI)
   have h:yD F ((bU F.sc w.1 (p+1) ps).bind fun c=>
    (bk (c.2::F.sc) w.2 (p+1+c.1.length+(d7 (w.2-(cW [] 3 q).2)).length) ss).bind fun d=>.ok ([.jmp (p+1+c.1.length)]++c.1++d7 (w.2-(cW [] 3 q).2)++d++[.ret])) L oY Q X:=h
   revert h;cases bU F.sc w.1 (p+1) ps with
   | bot=>exact fun h=>h.elim
   | err=>exact fun h e J=>h _
   | ok c=>
    intro h e4 J7 qH Xk k7;refine Oc K (F₀:=F) hw.2 hn.2 wj.1 Xk hp ((qH 0 (by decide) (by decide) (by decide)).trans i0) ((qH 2 (by decide) (by decide) (by decide)).trans i2) ((qH 6 (by decide) (by decide) (by decide)).trans i6) ((qH 10 (by decide) (by decide) (by decide)).trans td) ((qH 13 (by decide) (by decide) (by decide)).trans VT) ?_ (fun J' L' c=>?_) h
    ·exact (qH 15 (by decide) (by decide) (by decide)).trans (by rw [← hp]; rfl)
    ·exact ⟨cx.ok,c.c2,eO.back (k3.trans (Ext.refl _).push.push.push.keep) (Aa cx.kp.1 Ug) ((kk.trans k7).trans c.kp.to2),c.rm⟩
theorem KA (K:Core T D)(b:Bl):H8 T D b∧y5 T D b:=by
 induction b with
 | mk vs ps ss ih=>exact ⟨Od K vs ps ss ih.2,fun hw=>by cases hw⟩
 | nil=>exact ⟨(fun hw=>by cases hw),IS⟩
 | proc x q b r iA P9=>exact ⟨(fun hw=>by cases hw),D9 K x q b r iA.1 P9.2⟩
end
noncomputable def x7 (a b:Int):Int:=match decide (a*b<0) with
 | true=>-((a.natAbs:Int).fdiv (b.natAbs:Int))
 | false=>(a.natAbs:Int).fdiv (b.natAbs:Int)
noncomputable def small (a:Int):Bool:=decide (a.natAbs<2 ^ 1000)
noncomputable def b2i (b:Bool):Int:=if b then 1 else 0
noncomputable def n5 (dv:Bool)(a b:Int):R Int:=match decide (b=0) with
 | true=>.err
 | false=>match small a&&small b with
  | true=>(match dv with
   | true=>.ok (x7 a b)
   | false=>.ok (a-x7 a b*b))
  | false=>.bot
noncomputable def iI (s:Tx)(a b:Int):R Int:=
 match aB s [43] with
 | true=>.ok (a+b)
 | false=>
 match aB s [45] with
 | true=>.ok (a-b)
 | false=>
 match aB s [42] with
 | true=>(match small a&&small b with
  | true=>.ok (a*b)
  | false=>.bot)
 | false=>
 match aB s [100,105,118] with
 | true=>n5 true a b
 | false=>
 match aB s [109,111,100] with
 | true=>n5 false a b
 | false=>
 match aB s [61] with
 | true=>.ok (b2i (decide (a=b)))
 | false=>
 match aB s [60,62] with
 | true=>.ok (b2i (!decide (a=b)))
 | false=>
 match aB s [60] with
 | true=>.ok (b2i (decide (a<b)))
 | false=>
 match aB s [60,61] with
 | true=>.ok (b2i (decide (a<=b)))
 | false=>
 match aB s [62] with
 | true=>.ok (b2i (decide (a>b)))
 | false=>.ok (b2i (decide (a ≥ b)))
theorem IP (a b:Int):(x7 a b).natAbs<=a.natAbs:=by
 have:((a.natAbs:Int).fdiv (b.natAbs:Int)).natAbs<=a.natAbs:=by
  rw [Int.fdiv_eq_ediv_of_nonneg _ (Av _),← Int.natCast_ediv,Int.natAbs_natCast];exact Nat.div_le_self _ _
 unfold x7;cases decide (a*b<0)
 ·exact this
 ·rw [Int.natAbs_neg]; exact this
noncomputable def frameOf (st:List Int):Nat->Nat->Option Nat
 | 0,b=>some b
 | l+1,b=>match st[b]? with
  | some (.ofNat v)=>frameOf st l v
  | _=>Option.none
section
variable {T:aQ}{D:Nat->Option aD}
theorem lU {a b:Int}(h:(small a&&small b)=true):a.natAbs<2 ^ 1000∧b.natAbs<2 ^ 1000:=⟨Ax (Ab h).1,Ax (Ab h).2⟩
def MN (res:R Int)(J:ae)(Q:QV)(X:QX):Prop:=match res with
 | .ok v=>Q (.int v) J
 | .err=>X J
 | .bot=>False
theorem GA {C:Calls}{s:Tx}{dv:Bool}(O3:aB s [100,105,118]=dv){a b:Int}{J:ae}{Q:QV}{X:QX}{QQ:QF}{XX:XS}(hQ:∀ v e J,Q v J->QQ (.ret v) e J)(hX:∀ e J,X J->XX e J){e:Ev}(e0:e 0=some (.str s))(e1:e 1=some (.int a))(e2:e 2=some (.int b))(h:MN (n5 dv a b) J Q X) :
  aH T C (.cons (.ifs (.cmp .eq (.v 2) (.int 0)) (.cons (.raise (.str [122,101,114,111])) .nil) .nil) (.cons (.set 3 (.bin .fdiv (.bi .abs (.cons (.v 1) .nil)) (.bi .abs (.cons (.v 2) .nil)))) (.cons (.ifs (.cmp .lt (.bin .mul (.v 1) (.v 2)) (.int 0)) (.cons (.set 3 (.neg (.v 3))) .nil) .nil) (.cons (.ifs (.cmp .eq (.v 0) (.str [100,105,118])) (.cons (.ret (.v 3)) .nil) .nil) (.cons (.ret (.bin .sub (.v 1) (.bin .mul (.v 3) (.v 2)))) .nil))))) e J QQ XX:=by
 unfold n5 at h;refine aa e2 ?_;refine aX (fun hb=>?_) fun hb=>?_
 ·rw [hb] at h; exact hX _ _ h
 rw [hb] at h;refine aa e1 ?_;refine aa e2 ?_;have WR:b≠0:=of_decide_eq_false hb;revert h;cases hs:small a&&small b with
 | false=>exact fun h=>h.elim
 | true=>
  obtain ⟨sa,sb⟩:=lU hs;have hq:=Ao (IP a b) sa;intro h;refine ⟨fun q=>WR (Int.natAbs_eq_zero.mp (Int.ofNat.inj q)),sb,?_⟩;refine aa (e:=upd e 3 _) (i:=1) e1 ?_;refine aa (e:=upd e 3 _) (i:=2) e2 ?_;refine ⟨sa,sb,?_⟩;unfold x7 at h hq;refine aX (fun hl=>?_) fun hl=>?_
  all_goals
   rw [show decide (a*b<0)=_ from hl] at h hq
  ·refine aa (e:=upd (upd e 3 _) 3 _) (i:=0) e0 ?_;cases dv
   ·refine gw (b:=aB s [100,105,118]) O3 ?_;refine aa (e:=upd (upd e 3 _) 3 _) (i:=1) e1 ?_;refine aa (e:=upd (upd e 3 _) 3 _) (i:=2) e2 ?_;exact ⟨hq,sb,hQ _ _ _ h⟩
   ·refine jD (b:=aB s [100,105,118]) O3 ?_;exact hQ _ _ _ h
  ·refine aa (e:=upd e 3 _) (i:=0) e0 ?_;cases dv
   ·refine gw (b:=aB s [100,105,118]) O3 ?_;refine aa (e:=upd e 3 _) (i:=1) e1 ?_;refine aa (e:=upd e 3 _) (i:=2) e2 ?_;exact ⟨hq,sb,hQ _ _ _ h⟩
   ·refine jD (b:=aB s [100,105,118]) O3 ?_;exact hQ _ _ _ h
theorem vq (K:Core T D){n:Nat}{s:Tx}{a b:Int}{J:ae}{Q:QV}{X:QX}(hn:1<=n)(h:MN (iI s a b) J Q X):aj T D n 24 [.str s,.int a,.int b] J Q X:=by
 obtain ⟨n,rfl⟩:=ge1 hn;refine ⟨Hz,K.dk 24 rfl rfl,rfl,?_⟩;unfold iI at h;refine aX (fun h1=>?_) fun h1=>?_
 ·rw [h1] at h; exact h
 rw [h1] at h;refine aX (fun h2=>?_) fun h2=>?_
 ·rw [h2] at h; exact h
 rw [h2] at h;refine aX (fun h3=>?_) fun h3=>?_
 ·rw [h3] at h;revert h;cases hs:small a&&small b with
  | false=>exact fun h=>h.elim
  | true=>exact fun h=>⟨(lU hs).1,(lU hs).2,h⟩
 rw [h3] at h;refine aX (fun h4=>?_) fun h4=>?_
 ·rw [h4] at h;exact GA h4 (fun v e J q=>q) (fun e J q=>q) rfl rfl rfl h
 rw [h4] at h;refine aX (fun h5=>?_) fun h5=>?_
 ·rw [h5] at h;exact GA h4 (fun v e J q=>q) (fun e J q=>q) rfl rfl rfl h
 rw [h5] at h;refine aX (fun h6=>?_) fun h6=>?_
 ·rw [h6] at h; exact h
 rw [h6] at h;refine aX (fun h7=>?_) fun h7=>?_
 ·rw [h7] at h; exact h
 rw [h7] at h;refine aX (fun h8=>?_) fun h8=>?_
 ·rw [h8] at h; exact h
 rw [h8] at h;refine aX (fun h9=>?_) fun h9=>?_
 ·rw [h9] at h; exact h
 rw [h9] at h;refine aX (fun ib=>?_) fun ib=>?_
 ·rw [ib] at h; exact h
 rw [ib] at h;exact h
theorem gW {J:ae}{r k:Nat}{l:List Int}{v:Int}{Q:AV->Prop}(h1:J[r]?=some (.list (l.map .int)))(h3:l[k]?=some v)(q:Q (.int v)):iJ (.obj r) (.int (k:Int)) J Q:=
 jK h1 (bc (by rw [Ah]; exact (Ai h3).1)) (by rw [List.getElem?_map,h3]; rfl) q
theorem ji (K:Core T D){n so:Nat}{st:List Int}{J:ae}(hn:1<=n)(hs:J[so]?=some (.list (st.map .int))){l b b':Nat}{Q:QV}{X:QX}(hf:frameOf st l b=some b')(h:Q (.int b') J):aj T D n 23 [.obj so,.int b,.int l] J Q X:=by
 obtain ⟨n,rfl⟩:=ge1 hn;refine ⟨HA,K.dk 23 rfl rfl,rfl,l+1,?_⟩;have main:∀ (l b:Nat) (e:Ev) (QQ:QF) (XX:XS),(∀ e',e' 1=some (.int b')->QQ .next e' J)->frameOf st l b=some b'->e 0=some (.obj so)->e 1=some (.int b)->e 2=some (.int l)->
   gr (bb T (aj T D n) AW) (aH T (aj T D n) AX) (l+1) e J QQ XX:=by
  intro l
  induction l with
  | zero=>intro b e QQ XX hq hf h0 h1 h2; cases hf; exact aa h2 (hq e h1)
  | succ l ih=>
   intro b e QQ XX hq hf h0 h1 h2;have hf:(match st[b]? with
    | some (.ofNat v)=>frameOf st l v
    | _=>Option.none)=some b':=hf
   revert hf;cases hv:st[b]? with
   | none=>intro hf; cases hf
   | some v=>
    cases v with
    | negSucc v=>intro hf; cases hf
    | ofNat v=>
     intro hf;refine aa h2 ?_;refine jD (b:=decide (((l+1:Nat):Int)>0)) (decide_eq_true (Int.ofNat_lt.mpr (Nat.succ_pos l))) ?_;refine aa h0 ?_;refine aa h1 ?_;refine gW hs hv ?_;refine aa (e:=upd e 1 _) (i:=2) h2 ?_;exact ih v (upd (upd e 1 (.int (Int.ofNat v))) 2 _) QQ XX hq hf h0 rfl (congrArg (fun i=>some (AV.int i)) (Int.add_sub_cancel (l:Int) 1))
 exact main l b _ _ _ (fun e' he=>aa he h) hf rfl rfl rfl
end
structure MS where
 st:List Int
 b:Nat
 pc:Nat
 o:List Int
 f:Int
inductive nS (code:List In):MS->MS->Prop
 | lit {st b pc o f} {n:Nat}:code[pc]?=some (.lit n)->st.length<900000->nS code ⟨st,b,pc,o,f⟩ ⟨st++[(n:Int)],b,pc+1,o,f⟩
 | eU {st b pc o f l a b' v}:code[pc]?=some (.eU l a)->st.length<900000->frameOf st l b=some b'->st[b'+a]?=some v->nS code ⟨st,b,pc,o,f⟩ ⟨st++[v],b,pc+1,o,f⟩
 | yc {st b pc o f l a b'}:code[pc]?=some (.yc l a)->st.length<900000->frameOf st l b=some b'->nS code ⟨st,b,pc,o,f⟩ ⟨st++[((b'+a:Nat):Int)],b,pc+1,o,f⟩
 | x6 {st b pc o f l a b' v}:code[pc]?=some (.x6 l a)->frameOf st l b=some b'->b'+a<st.length->nS code ⟨st++[v],b,pc,o,f⟩ ⟨st.set (b'+a) v,b,pc+1,o,f⟩
 | yv {st b pc o f} {a:Nat} {v}:code[pc]?=some .yv->st.length<900000->st[a]?=some v->nS code ⟨st++[(a:Int)],b,pc,o,f⟩ ⟨st++[v],b,pc+1,o,f⟩
 | oQ {st b pc o f} {a:Nat} {v}:code[pc]?=some .oQ->a<st.length->nS code ⟨st++[(a:Int)]++[v],b,pc,o,f⟩ ⟨st.set a v,b,pc+1,o,f⟩
 | uI {st b pc o f} {n:Nat} {v:Int}:code[pc]?=some (.uI n)->0<=v->v<(n:Int)->nS code ⟨st++[v],b,pc,o,f⟩ ⟨st++[v],b,pc+1,o,f⟩
 | neg {st b pc o f} {v:Int}:code[pc]?=some (.fH ta)->nS code ⟨st++[v],b,pc,o,f⟩ ⟨st++[-v],b,pc+1,o,f⟩
 | odd {st b pc o f} {v:Int}:code[pc]?=some (.fH qN)->nS code ⟨st++[v],b,pc,o,f⟩ ⟨st++[v.fmod 2],b,pc+1,o,f⟩
 | fH {st b pc o f s} {x y v:Int}:code[pc]?=some (.fH s)->aG s ops=true->st.length<900000->iI s x y=.ok v->nS code ⟨st++[x]++[y],b,pc,o,f⟩ ⟨st++[v],b,pc+1,o,f⟩
 | jmp {st b pc o f p}:code[pc]?=some (.jmp p)->nS code ⟨st,b,pc,o,f⟩ ⟨st,b,p,o,f⟩
 | Mj {st b pc o f p} {v:Int}:code[pc]?=some (.gE p)->v=0->nS code ⟨st++[v],b,pc,o,f⟩ ⟨st,b,p,o,f⟩
 | Mi {st b pc o f p} {v:Int}:code[pc]?=some (.gE p)->v≠0->nS code ⟨st++[v],b,pc,o,f⟩ ⟨st,b,pc+1,o,f⟩
 | int {st b pc o f n}:code[pc]?=some (.int n)->st.length+n<=900000->nS code ⟨st,b,pc,o,f⟩ ⟨st++List.replicate n 0,b,pc+1,o,f⟩
 | uJ {st as b pc o f l a n b'}:code[pc]?=some (.uJ l a n)->as.length=n->(st++as).length<=900000->frameOf (st++as) l b=some b'->nS code ⟨st++as,b,pc,o,f⟩ ⟨st++[(b':Int),(b:Int),((pc+1:Nat):Int)]++as,st.length,a,o,f⟩
 | ret {st st' l b pc o f} {b' p':Nat}:code[pc]?=some .ret->b=st.length->b≠0->nS code ⟨st++[l,(b':Int),(p':Int)]++st',b,pc,o,f⟩ ⟨st,b',p',o,f⟩
 | Fq {st b pc o f} {v:Int}:code[pc]?=some .Fq->o.length<900000->nS code ⟨st++[v],b,pc,o,f⟩ ⟨st,b,pc+1,o++[v],f⟩
 | tick {st b pc o f}:code[pc]?=some .tick->1<=f->nS code ⟨st,b,pc,o,f⟩ ⟨st,b,pc+1,o,f-1⟩
inductive LU (code:List In):MS->Option (List Int)->Prop
 | uI {st b pc o f} {n:Nat} {v:Int}:code[pc]?=some (.uI n)->¬ (0<=v∧v<(n:Int))->LU code ⟨st++[v],b,pc,o,f⟩ Option.none
 | fH {st b pc o f s} {x y:Int}:code[pc]?=some (.fH s)->aG s ops=true->iI s x y=.err->LU code ⟨st++[x]++[y],b,pc,o,f⟩ Option.none
 | done {st pc o f}:code[pc]?=some .ret->LU code ⟨st,0,pc,o,f⟩ (some o)
 | tick {st b pc o f}:code[pc]?=some .tick->f<1->LU code ⟨st,b,pc,o,f⟩ Option.none
inductive Fin (code:List In):MS->Option (List Int)->Prop
 | step {m m' res}:nS code m m'->Fin code m' res->Fin code m res
 | last {m res}:LU code m res->Fin code m res
structure RI (code:List In)(J₀:ae)(so oo:Nat)(m:MS)(e:Ev)(J:ae):Prop where
 e0:e 0=some (.tup (code.map In.av))
 e1:e 1=some (.int m.f)
 e2:e 2=some (.obj so)
 e3:e 3=some (.int m.b)
 e4:e 4=some (.int m.pc)
 e5:e 5=some (.obj oo)
 hs:J[so]?=some (.list (m.st.map .int))
 ho:J[oo]?=some (.list (m.o.map .int))
 ne:so≠oo
 x:Ext J₀ J
 ns:J₀.length<=so
 no:J₀.length<=oo
theorem jA (l:List Int)(x:Int):l.map AV.int++[AV.int x]=(l++[x]).map AV.int:=by rw [List.map_append]; rfl
section
variable {T:aQ}{D:Nat->Option aD}{code:List In}{J₀:ae}{so oo:Nat}{m:MS}{e:Ev}{J:ae}
theorem RI.set (h:RI code J₀ so oo m e J)(m':MS){e':Ev}{J':ae}(hJ:J'=J.set so (.list (m'.st.map .int)))(ho:m'.o=m.o)(e0:e' 0=e 0)(e1:e' 1=some (.int m'.f))(e2:e' 2=e 2)(e3:e' 3=some (.int m'.b))(e4:e' 4=some (.int m'.pc))(e5:e' 5=e 5):RI code J₀ so oo m' e' J':=by
 subst hJ;exact ⟨e0.trans h.e0,e1,e2.trans h.e2,e3,e4,e5.trans h.e5,get_set h.hs,(List.getElem?_set_ne h.ne).trans (ho.symm▸h.ho),h.ne,h.x.eL h.ns,h.ns,h.no⟩
theorem RI.Hk (h:RI code J₀ so oo m e J)(m':MS){e':Ev}(hs:m'.st=m.st)(ho:m'.o=m.o)(e0:e' 0=e 0)(e1:e' 1=some (.int m'.f))(e2:e' 2=e 2)(e3:e' 3=some (.int m'.b))(e4:e' 4=some (.int m'.pc))(e5:e' 5=e 5):RI code J₀ so oo m' e' J:=
 ⟨e0.trans h.e0,e1,e2.trans h.e2,e3,e4,e5.trans h.e5,hs.symm▸h.hs,ho.symm▸h.ho,h.ne,h.x,h.ns,h.no⟩
theorem wM {st:List Int}(hl:st.length<900000):(st.map AV.int).length<lid:=by rw [Ah]; exact uT hl
theorem Py {J:ae}{st:List Int}{v:Int}:J.set so (.list (st.map AV.int++[.int v]))=J.set so (.list ((st++[v]).map .int)):=by rw [jA]
theorem L1 {J:ae}{st:List Int}{v:Int}{m:MO}:(J.set so m).set so (.list (st.map AV.int++[.int v]))=J.set so (.list ((st++[v]).map .int)):=by rw [List.set_set,jA]
theorem map_set:∀ (st:List Int) (k:Nat) (v:Int),(st.map AV.int).set k (.int v)=(st.set k v).map .int
 | [],_,_=>rfl
 | _::_,0,_=>rfl
 | x::st,k+1,v=>congrArg (_::·) (map_set st k v)
theorem kZ {n:Nat}:dQ (-1) (n+1)=some n:=by
 unfold dQ;rw [if_neg (by decide),show -1+((n+1:Nat):Int)=n by rw [Int.add_comm]; exact Int.add_sub_cancel (n:Int) 1,if_pos (Av n)]; rfl
theorem kY {J:ae}{st:List Int}{v:Int}{Q:AV->Prop}(hs:J[so]?=some (.list ((st++[v]).map .int)))(q:Q (.int v)):iJ (.obj so) (.int (-1)) J Q:=by
 refine jK (k:=st.length) hs (by rw [Ah,Ac]; exact kZ) ?_ q;rw [List.getElem?_map,List.getElem?_concat_length]; rfl
theorem mq {J:ae}{st:List Int}{v w:Int}{P:QX}(hs:J[so]?=some (.list ((st++[v]).map .int)))(q:P (J.set so (.list ((st++[w]).map .int)))):dT (.obj so) (.int (-1)) (.int w) J P:=by
 rw [← jA] at hs q;refine ag hs (aq (a:=(st.map AV.int).length) (by rw [Ac]; exact kZ) ?_);rw [List.set_append_right _ _ (Aj _),Nat.sub_self]; exact q
noncomputable def E9:Ss:=match aW with
 | .cons _ (.cons _ (.cons _ r))=>r
 | _=>.nil
theorem RI.enter {C:Calls}(r:RI code J₀ so oo m e J){i:In}(hi:code[m.pc]?=some i){QQ:QF}{XX:XS}
  (h:iJ i.av (.int 0) J fun k=>aH T C E9 (upd (upd (upd e 6 i.av) 4 (.int (m.pc+1:Nat))) 7 k) J QQ XX):aH T C aW e J QQ XX:=by
 refine aa r.e0 ?_;refine aa r.e4 ?_;refine aq (bc (by rw [Ah]; exact (Ai hi).1)) ?_;refine aq (a:=i.av) (by rw [List.getElem?_map,hi]; rfl) ?_;refine aa (e:=upd e 6 _) (i:=4) r.e4 ?_;exact h
end
section
variable {T:aQ}{D:Nat->Option aD}{code:List In}{J₀:ae}{so oo:Nat}{st:List Int}{b pc:Nat}{o:List Int}{f:Int}{e:Ev}{J:ae}{n:Nat}{QQ:QF}{XX:XS}
theorem Jn {k:Nat}(hl:st.length<900000)(r:RI code J₀ so oo ⟨st,b,pc,o,f⟩ e J)(hi:code[pc]?=some (.lit k))(q:∀ e' J',RI code J₀ so oo ⟨st++[(k:Int)],b,pc+1,o,f⟩ e' J'->QQ .next e' J'):aH T (aj T D n) aW e J QQ XX:=by
 refine r.enter hi ?_;refine aa (e:=upd (upd (upd e 6 _) 4 _) 7 _) (i:=2) r.e2 ?_;refine ag r.hs ?_;refine ag r.hs ⟨wM hl,?_⟩;exact q _ _ (r.set ⟨st++[(k:Int)],b,pc+1,o,f⟩ Py rfl rfl r.e1 rfl r.e3 rfl rfl)
theorem Jm {l a b':Nat}{v:Int}(K:Core T D)(hn:1<=n)(hl:st.length<900000)(hf:frameOf st l b=some b')(hv:st[b'+a]?=some v)(r:RI code J₀ so oo ⟨st,b,pc,o,f⟩ e J)(hi:code[pc]?=some (.eU l a))(q:∀ e' J',RI code J₀ so oo ⟨st++[v],b,pc+1,o,f⟩ e' J'->QQ .next e' J'):aH T (aj T D n) aW e J QQ XX:=by
 refine r.enter hi ?_;refine aa (e:=upd (upd (upd e 6 _) 4 _) 7 _) (i:=2) r.e2 ?_;refine ag r.hs ?_;refine aa (e:=upd (upd (upd e 6 _) 4 _) 7 _) (i:=2) r.e2 ?_;refine aa (e:=upd (upd (upd e 6 _) 4 _) 7 _) (i:=2) r.e2 ?_;refine aa (e:=upd (upd (upd e 6 _) 4 _) 7 _) (i:=3) r.e3 ?_;refine ⟨K.ck 23 rfl rfl,?_⟩;refine ji K hn r.hs hf ?_;refine gW (k:=b'+a) r.hs hv ?_;refine ag r.hs ⟨wM hl,?_⟩;exact q _ _ (r.set ⟨st++[v],b,pc+1,o,f⟩ Py rfl rfl r.e1 rfl r.e3 rfl rfl)
theorem Jp {l a b':Nat}(K:Core T D)(hn:1<=n)(hl:st.length<900000)(hf:frameOf st l b=some b')(r:RI code J₀ so oo ⟨st,b,pc,o,f⟩ e J)(hi:code[pc]?=some (.yc l a))(q:∀ e' J',RI code J₀ so oo ⟨st++[((b'+a:Nat):Int)],b,pc+1,o,f⟩ e' J'->QQ .next e' J'):aH T (aj T D n) aW e J QQ XX:=by
 refine r.enter hi ?_;refine aa (e:=upd (upd (upd e 6 _) 4 _) 7 _) (i:=2) r.e2 ?_;refine ag r.hs ?_;refine aa (e:=upd (upd (upd e 6 _) 4 _) 7 _) (i:=2) r.e2 ?_;refine aa (e:=upd (upd (upd e 6 _) 4 _) 7 _) (i:=3) r.e3 ?_;refine ⟨K.ck 23 rfl rfl,?_⟩;refine ji K hn r.hs hf ?_;refine ag r.hs ⟨wM hl,?_⟩;exact q _ _ (r.set ⟨st++[((b'+a:Nat):Int)],b,pc+1,o,f⟩ Py rfl rfl r.e1 rfl r.e3 rfl rfl)
theorem I5 {l a b':Nat}{v:Int}(K:Core T D)(hn:1<=n)(hf:frameOf st l b=some b')(hv:b'+a<st.length)(r:RI code J₀ so oo ⟨st++[v],b,pc,o,f⟩ e J)(hi:code[pc]?=some (.x6 l a))(q:∀ e' J',RI code J₀ so oo ⟨st.set (b'+a) v,b,pc+1,o,f⟩ e' J'->QQ .next e' J'):aH T (aj T D n) aW e J QQ XX:=by
 refine r.enter hi ?_;refine aa (e:=upd (upd (upd e 6 _) 4 _) 7 _) (i:=2) r.e2 ?_;refine ag r.hs ?_;refine ag r.hs ⟨_,_,(jA st v).symm,?_⟩;have aP:=get_set (m:=.list (st.map AV.int)) r.hs;refine aa (e:=upd (upd (upd (upd e 6 _) 4 _) 7 _) 8 _) (i:=2) r.e2 ?_;refine aa (e:=upd (upd (upd (upd e 6 _) 4 _) 7 _) 8 _) (i:=2) r.e2 ?_;refine aa (e:=upd (upd (upd (upd e 6 _) 4 _) 7 _) 8 _) (i:=3) r.e3 ?_;refine ⟨K.ck 23 rfl rfl,?_⟩;refine ji K hn aP hf ?_;refine ag aP ?_;refine aq (o:=dQ ((b'+a:Nat):Int) _) (bc (by rw [Ah]; exact hv)) ?_;exact q _ _ (r.set ⟨st.set (b'+a) v,b,pc+1,o,f⟩ (by rw [List.set_set,map_set]) rfl rfl r.e1 rfl r.e3 rfl rfl)
theorem Jo {a:Nat}{v:Int}(hl:st.length<900000)(hv:st[a]?=some v)(r:RI code J₀ so oo ⟨st++[(a:Int)],b,pc,o,f⟩ e J)(hi:code[pc]?=some (.yv))(q:∀ e' J',RI code J₀ so oo ⟨st++[v],b,pc+1,o,f⟩ e' J'->QQ .next e' J'):aH T (aj T D n) aW e J QQ XX:=by
 refine r.enter hi ?_;refine aa (e:=upd (upd (upd e 6 _) 4 _) 7 _) (i:=2) r.e2 ?_;refine ag r.hs ?_;refine aa (e:=upd (upd (upd e 6 _) 4 _) 7 _) (i:=2) r.e2 ?_;refine aa (e:=upd (upd (upd e 6 _) 4 _) 7 _) (i:=2) r.e2 ?_;refine ag r.hs ?_;refine ag r.hs ⟨_,_,(jA st a).symm,?_⟩;have aP:=get_set (m:=.list (st.map AV.int)) r.hs;refine gW aP hv ?_;refine ag aP ⟨wM hl,?_⟩;exact q _ _ (r.set ⟨st++[v],b,pc+1,o,f⟩ L1 rfl rfl r.e1 rfl r.e3 rfl rfl)
theorem I6 {a:Nat}{v:Int}(hv:a<st.length)(r:RI code J₀ so oo ⟨st++[(a:Int)]++[v],b,pc,o,f⟩ e J)(hi:code[pc]?=some (.oQ))(q:∀ e' J',RI code J₀ so oo ⟨st.set a v,b,pc+1,o,f⟩ e' J'->QQ .next e' J'):aH T (aj T D n) aW e J QQ XX:=by
 refine r.enter hi ?_;refine aa (e:=upd (upd (upd e 6 _) 4 _) 7 _) (i:=2) r.e2 ?_;refine ag r.hs ?_;refine ag r.hs ⟨_,_,(jA _ v).symm,?_⟩;have aP:=get_set (m:=.list ((st++[(a:Int)]).map AV.int)) r.hs;refine aa (e:=upd (upd (upd (upd e 6 _) 4 _) 7 _) 8 _) (i:=2) r.e2 ?_;refine aa (e:=upd (upd (upd (upd e 6 _) 4 _) 7 _) 8 _) (i:=2) r.e2 ?_;refine ag aP ?_;refine ag aP ⟨_,_,(jA st a).symm,?_⟩;have b7:=get_set (m:=.list (st.map AV.int)) aP;refine ag b7 ?_;refine aq (bc (by rw [Ah]; exact hv)) ?_;exact q _ _ (r.set ⟨st.set a v,b,pc+1,o,f⟩ (by rw [List.set_set,List.set_set,map_set]) rfl rfl r.e1 rfl r.e3 rfl rfl)
theorem Js {k:Nat}{v:Int}(h0:0<=v)(h1:v<(k:Int))(r:RI code J₀ so oo ⟨st++[v],b,pc,o,f⟩ e J)(hi:code[pc]?=some (.uI k))(q:∀ e' J',RI code J₀ so oo ⟨st++[v],b,pc+1,o,f⟩ e' J'->QQ .next e' J'):aH T (aj T D n) aW e J QQ XX:=by
 refine r.enter hi ?_;refine aa (e:=upd (upd (upd e 6 _) 4 _) 7 _) (i:=2) r.e2 ?_;refine kY r.hs ?_;refine jD (b:=decide (0<=v)) (decide_eq_true h0) ?_;refine gw (b:=!decide (v<(k:Int))) (by rw [decide_eq_true h1]; rfl) ?_;exact q _ _ (r.Hk ⟨st++[v],b,pc+1,o,f⟩ rfl rfl rfl r.e1 rfl r.e3 rfl rfl)
theorem EF {k:Nat}{v:Int}(h0:¬ (0<=v∧v<(k:Int)))(r:RI code J₀ so oo ⟨st++[v],b,pc,o,f⟩ e J)(hi:code[pc]?=some (.uI k))(q:∀ e J,XX e J):aH T (aj T D n) aW e J QQ XX:=by
 refine r.enter hi ?_;refine aa (e:=upd (upd (upd e 6 _) 4 _) 7 _) (i:=2) r.e2 ?_;refine kY r.hs ?_;refine t6 (fun h=>?_) fun h=>?_
 ·refine jD (b:=!decide (v<(k:Int))) (by rw [decide_eq_false fun h'=>h0 ⟨h,h'⟩]; rfl) ?_;exact q _ _
 ·exact q _ _
theorem Jj {v:Int}(r:RI code J₀ so oo ⟨st++[v],b,pc,o,f⟩ e J)(hi:code[pc]?=some (.fH ta))(q:∀ e' J',RI code J₀ so oo ⟨st++[-v],b,pc+1,o,f⟩ e' J'->QQ .next e' J'):aH T (aj T D n) aW e J QQ XX:=by
 refine r.enter hi ?_;refine aa (e:=upd (upd (upd (upd e 6 _) 4 _) 7 _) 9 _) (i:=2) r.e2 ?_;refine kY r.hs ?_;refine aa (e:=upd (upd (upd (upd e 6 _) 4 _) 7 _) 9 _) (i:=2) r.e2 ?_;refine mq r.hs ?_;exact q _ _ (r.set ⟨st++[-v],b,pc+1,o,f⟩ rfl rfl rfl r.e1 rfl r.e3 rfl rfl)
theorem I9 {v:Int}(r:RI code J₀ so oo ⟨st++[v],b,pc,o,f⟩ e J)(hi:code[pc]?=some (.fH qN))(q:∀ e' J',RI code J₀ so oo ⟨st++[v.fmod 2],b,pc+1,o,f⟩ e' J'->QQ .next e' J'):aH T (aj T D n) aW e J QQ XX:=by
 refine r.enter hi ?_;refine aa (e:=upd (upd (upd (upd e 6 _) 4 _) 7 _) 9 _) (i:=2) r.e2 ?_;refine kY r.hs ?_;refine ⟨rfl,?_⟩;refine aa (e:=upd (upd (upd (upd e 6 _) 4 _) 7 _) 9 _) (i:=2) r.e2 ?_;refine mq r.hs ?_;exact q _ _ (r.set ⟨st++[v.fmod 2],b,pc+1,o,f⟩ rfl rfl rfl r.e1 rfl r.e3 rfl rfl)
theorem Ee {o:Tx}(h:aG o ops=true):aB o ta=false∧aB o qN=false:=by
 unfold ops at h
 iterate 11 (rcases oE h with rfl | h; · exact ⟨rfl,rfl⟩)
 cases h
theorem AF {s:Tx}{x y:Int}(hm:aG s ops=true)(r:RI code J₀ so oo ⟨st++[x]++[y],b,pc,o,f⟩ e J)(hi:code[pc]?=some (.fH s))(K:Core T D)
  (h:∀ e',(∀ i,i≠4->i≠6->i≠7->i≠9->i≠10->i≠11->e' i=e i)->e' 4=some (.int (pc+1:Nat))->aj T D n 24 [.str s,.int x,.int y] ((J.set so (.list ((st++[x]).map AV.int))).set so (.list (st.map AV.int))) (fun v J=>LQ .append (.obj so) [v] J fun _ J=>QQ .next e' J) (XX e')):aH T (aj T D n) aW e J QQ XX:=by
 obtain ⟨m1,m2⟩:=Ee hm;refine r.enter hi ?_;refine gw (b:=aB s ta) m1 ?_;refine gw (b:=aB s qN) m2 ?_;refine aa (e:=upd (upd (upd (upd e 6 _) 4 _) 7 _) 9 _) (i:=2) r.e2 ?_;refine ag r.hs ?_;refine ag r.hs ⟨_,_,(jA _ y).symm,?_⟩;have aP:=get_set (m:=.list ((st++[x]).map AV.int)) r.hs;refine aa (e:=upd (upd (upd (upd (upd e 6 _) 4 _) 7 _) 9 _) 10 _) (i:=2) r.e2 ?_;refine ag aP ?_;refine ag aP ⟨_,_,(jA st x).symm,?_⟩;have b7:=get_set (m:=.list (st.map AV.int)) aP;refine aa (e:=upd (upd (upd (upd (upd (upd e 6 _) 4 _) 7 _) 9 _) 10 _) 11 _) (i:=2) r.e2 ?_;refine ag b7 ?_;refine ⟨K.ck 24 rfl rfl,?_⟩;exact h (upd (upd (upd (upd (upd (upd e 6 (.tup [.str Dn,.str s])) 4 _) 7 _) 9 _) 10 _) 11 _) (fun i h4 h6 h7 h9 ib C1=>(aS i C1).trans ((aS i ib).trans ((aS i h9).trans ((aS i h7).trans ((aS i h4).trans (aS i h6)))))) rfl
theorem I8 {s:Tx}{x y v:Int}(K:Core T D)(hn:1<=n)(hm:aG s ops=true)(hl:st.length<900000)(hr:iI s x y=.ok v)(r:RI code J₀ so oo ⟨st++[x]++[y],b,pc,o,f⟩ e J)(hi:code[pc]?=some (.fH s))(q:∀ e' J',RI code J₀ so oo ⟨st++[v],b,pc+1,o,f⟩ e' J'->QQ .next e' J'):aH T (aj T D n) aW e J QQ XX:=by
 refine AF hm r hi K fun e' he h4=>vq K hn ?_;rw [hr];have b7:=get_set (m:=.list (st.map AV.int)) (get_set (m:=.list ((st++[x]).map AV.int)) r.hs);refine ag b7 ⟨wM hl,?_⟩;have g:∀ i,i<4∨i=5->e' i=e i:=fun i h=>he i (by lia) (by lia) (by lia) (by lia) (by lia) (by lia);exact q _ _ (r.set ⟨st++[v],b,pc+1,o,f⟩ (by rw [List.set_set]; exact L1) rfl (g 0 (by decide)) ((g 1 (by decide)).trans r.e1) (g 2 (by decide)) ((g 3 (by decide)).trans r.e3) h4 (g 5 (by decide)))
theorem Ez {s:Tx}{x y:Int}(K:Core T D)(hn:1<=n)(hm:aG s ops=true)(hr:iI s x y=.err)(r:RI code J₀ so oo ⟨st++[x]++[y],b,pc,o,f⟩ e J)(hi:code[pc]?=some (.fH s))(q:∀ e J,XX e J):aH T (aj T D n) aW e J QQ XX:=by
 refine AF hm r hi K fun e' he h4=>vq K hn ?_;rw [hr]; exact q _ _
theorem Jq {p:Nat}(r:RI code J₀ so oo ⟨st,b,pc,o,f⟩ e J)(hi:code[pc]?=some (.jmp p))(q:∀ e' J',RI code J₀ so oo ⟨st,b,p,o,f⟩ e' J'->QQ .next e' J'):aH T (aj T D n) aW e J QQ XX:=by
 refine r.enter hi ?_;exact q _ _ (r.Hk ⟨st,b,p,o,f⟩ rfl rfl rfl r.e1 rfl r.e3 rfl rfl)
theorem EB {p:Nat}{v:Int}(hv:v=0)(r:RI code J₀ so oo ⟨st++[v],b,pc,o,f⟩ e J)(hi:code[pc]?=some (.gE p))(q:∀ e' J',RI code J₀ so oo ⟨st,b,p,o,f⟩ e' J'->QQ .next e' J'):aH T (aj T D n) aW e J QQ XX:=by
 refine r.enter hi ?_;refine aa (e:=upd (upd (upd e 6 _) 4 _) 7 _) (i:=2) r.e2 ?_;refine ag r.hs ?_;refine ag r.hs ⟨_,_,(jA st v).symm,?_⟩;refine jD (b:=decide (v=0)) (decide_eq_true hv) ?_;exact q _ _ (r.set ⟨st,b,p,o,f⟩ rfl rfl rfl r.e1 rfl r.e3 rfl rfl)
theorem EA {p:Nat}{v:Int}(hv:v≠0)(r:RI code J₀ so oo ⟨st++[v],b,pc,o,f⟩ e J)(hi:code[pc]?=some (.gE p))(q:∀ e' J',RI code J₀ so oo ⟨st,b,pc+1,o,f⟩ e' J'->QQ .next e' J'):aH T (aj T D n) aW e J QQ XX:=by
 refine r.enter hi ?_;refine aa (e:=upd (upd (upd e 6 _) 4 _) 7 _) (i:=2) r.e2 ?_;refine ag r.hs ?_;refine ag r.hs ⟨_,_,(jA st v).symm,?_⟩;refine gw (b:=decide (v=0)) (decide_eq_false hv) ?_;exact q _ _ (r.set ⟨st,b,pc+1,o,f⟩ rfl rfl rfl r.e1 rfl r.e3 rfl rfl)
theorem Jr {k:Nat}(hl:st.length+k<=900000)(r:RI code J₀ so oo ⟨st,b,pc,o,f⟩ e J)(hi:code[pc]?=some (.int k))(q:∀ e' J',RI code J₀ so oo ⟨st++List.replicate k 0,b,pc+1,o,f⟩ e' J'->QQ .next e' J'):aH T (aj T D n) aW e J QQ XX:=by
 refine r.enter hi ?_;have hk:k<=lid:=Aa (Ar _ _) (Aa hl (by decide));refine aa (e:=upd (upd (upd e 6 _) 4 _) 7 _) (i:=2) r.e2 ?_;refine ag ay ⟨0,rfl,Av _,Int.ofNat_le.mpr hk,?_⟩;have aP:=ar (m:=.list (List.replicate (k:Int).toNat (.int 0))) (ar (m:=.list [.int 0]) r.hs);refine ag aP ?_;refine ag ay ⟨Nat.ne_of_lt (An (Ai r.hs).1 (by rw [Ac]; exact Af _ _)),?_,?_⟩
 ·rw [Ah,List.length_replicate]; exact Aa hl (by decide)
 have r1:RI code J₀ so oo ⟨st,b,pc,o,f⟩ e (J++[.list [.int 0]]++[.list (List.replicate (k:Int).toNat (.int 0))]):=⟨r.e0,r.e1,r.e2,r.e3,r.e4,r.e5,aP,ar (ar r.ho),r.ne,r.x.push.push,r.ns,r.no⟩;exact q _ _ (r1.set ⟨st++List.replicate k 0,b,pc+1,o,f⟩ (by rw [List.map_append,List.map_replicate]; rfl) rfl rfl r.e1 r.e2.symm r.e3 rfl rfl)
theorem Jt {as:List Int}{l a k b':Nat}(K:Core T D)(hn:1<=n)(hk:as.length=k)(hl:(st++as).length<=900000)(hf:frameOf (st++as) l b=some b')(r:RI code J₀ so oo ⟨st++as,b,pc,o,f⟩ e J)(hi:code[pc]?=some (.uJ l a k))(q:∀ e' J',RI code J₀ so oo ⟨st++[(b':Int),(b:Int),((pc+1:Nat):Int)]++as,st.length,a,o,f⟩ e' J'->QQ .next e' J'):aH T (aj T D n) aW e J QQ XX:=by
 refine r.enter hi ?_;refine aa (e:=upd (upd (upd (upd e 6 _) 4 _) 7 _) 12 _) (i:=2) r.e2 ?_;refine ag r.hs ?_;have CZ:(((st++as).map AV.int).length:Int)-(k:Int)=(st.length:Int):=by rw [Ah,Ac,hk]; exact (show ((st.length:Int)+(k:Int))-k=_ from Int.add_sub_cancel _ _)
 refine aa (e:=upd (upd (upd (upd (upd e 6 _) 4 _) 7 _) 12 _) 13 _) (i:=2) r.e2 ?_;refine aa (e:=upd (upd (upd (upd (upd e 6 _) 4 _) 7 _) 12 _) 13 _) (i:=3) r.e3 ?_;refine ⟨K.ck 23 rfl rfl,?_⟩;refine ji K hn r.hs hf ?_;refine aa (e:=upd (upd (upd (upd (upd (upd e 6 _) 4 _) 7 _) 12 _) 13 _) 14 _) (i:=3) r.e3 ?_;refine aa (e:=upd (upd (upd (upd (upd (upd e 6 _) 4 _) 7 _) 12 _) 13 _) 14 _) (i:=2) r.e2 ?_;have aP:=ar (m:=.list [.int (b':Int),.int (b:Int),.int ((pc+1:Nat):Int)]) r.hs;refine ag aP ?_;refine ag ay ⟨Nat.ne_of_lt (Ai r.hs).1,rfl,?_,?_,?_,?_⟩
 ·rw [CZ]; exact Av _
 ·rw [CZ,Ah,Ac]; exact Int.ofNat_le.mpr (Af _ _)
 ·rw [Ah]; exact Aa (Al hl 3) (by decide)
 have r1:RI code J₀ so oo ⟨st++as,b,pc,o,f⟩ e (J++[.list [.int (b':Int),.int (b:Int),.int ((pc+1:Nat):Int)]]):=⟨r.e0,r.e1,r.e2,r.e3,r.e4,r.e5,aP,ar r.ho,r.ne,r.x.push,r.ns,r.no⟩;refine q _ _ (r1.set ⟨st++[(b':Int),(b:Int),((pc+1:Nat):Int)]++as,st.length,a,o,f⟩ ?_ rfl rfl r.e1 rfl (congrArg (fun i=>some (AV.int i)) CZ) rfl rfl);rw [CZ,Int.toNat_natCast,List.map_append,← Ah (as:=st) AV.int,List.take_left,List.drop_left,List.map_append,List.map_append]; rfl
theorem I7 {st':List Int}{l:Int}{b' p':Nat}(hb:b=st.length)(h0:b≠0)(r:RI code J₀ so oo ⟨st++[l,(b':Int),(p':Int)]++st',b,pc,o,f⟩ e J)(hi:code[pc]?=some .ret)(q:∀ e' J',RI code J₀ so oo ⟨st,b',p',o,f⟩ e' J'->QQ .next e' J'):aH T (aj T D n) aW e J QQ XX:=by
 subst hb;have i1:(st++[l,(b':Int),(p':Int)]++st')[st.length+1]?=some (b':Int):=by rw [Ae,List.getElem?_append_right (Af _ _),Nat.add_sub_cancel_left]; rfl
 have i2:(st++[l,(b':Int),(p':Int)]++st')[st.length+2]?=some (p':Int):=by rw [Ae,List.getElem?_append_right (Af _ _),Nat.add_sub_cancel_left]; rfl
 refine r.enter hi ?_;refine aa (e:=upd (upd (upd e 6 _) 4 _) 7 _) (i:=3) r.e3 ?_;refine gw (b:=decide ((st.length:Int)=0)) (decide_eq_false fun q=>h0 (Int.ofNat.inj q)) ?_;refine aa (e:=upd (upd (upd e 6 _) 4 _) 7 _) (i:=2) r.e2 ?_;refine aa (e:=upd (upd (upd e 6 _) 4 _) 7 _) (i:=3) r.e3 ?_;refine gW (k:=st.length+1) r.hs i1 ?_;refine aa (e:=upd (upd (upd e 6 _) 4 _) 7 _) (i:=2) r.e2 ?_;refine aa (e:=upd (upd (upd e 6 _) 4 _) 7 _) (i:=3) r.e3 ?_;refine gW (k:=st.length+2) r.hs i2 ?_;refine aa (e:=upd (upd (upd (upd (upd e 6 _) 4 _) 7 _) 10 (.int b')) 15 (.int p')) (i:=2) r.e2 ?_;refine aa (e:=upd (upd (upd (upd (upd e 6 _) 4 _) 7 _) 10 (.int b')) 15 (.int p')) (i:=3) r.e3 ?_;refine ag r.hs ⟨Av _,?_,?_⟩
 ·rw [Ah,Ae,Ac]; exact Int.ofNat_le.mpr (Af _ _)
 refine q _ _ (r.set ⟨st,b',p',o,f⟩ ?_ rfl rfl r.e1 rfl rfl rfl rfl);rw [Int.toNat_natCast,Ae,List.map_append,← Ah (as:=st) AV.int,List.take_left]
theorem ED (r:RI code J₀ so oo ⟨st,0,pc,o,f⟩ e J)(hi:code[pc]?=some .ret)(q:∀ e' J',Ext J₀ J'->QQ (.ret (.tup (o.map .int))) e' J'):aH T (aj T D n) aW e J QQ XX:=by
 refine r.enter hi ?_;refine aa (e:=upd (upd (upd e 6 _) 4 _) 7 _) (i:=3) r.e3 ?_;refine aa (e:=upd (upd (upd e 6 _) 4 _) 7 _) (i:=5) r.e5 ?_;refine ag r.ho ?_;exact q _ _ r.x
theorem I4 {v:Int}(hl:o.length<900000)(r:RI code J₀ so oo ⟨st++[v],b,pc,o,f⟩ e J)(hi:code[pc]?=some .Fq)(q:∀ e' J',RI code J₀ so oo ⟨st,b,pc+1,o++[v],f⟩ e' J'->QQ .next e' J'):aH T (aj T D n) aW e J QQ XX:=by
 refine r.enter hi ?_;refine aa (e:=upd (upd (upd e 6 _) 4 _) 7 _) (i:=5) r.e5 ?_;refine ag r.ho ?_;refine aa (e:=upd (upd (upd e 6 _) 4 _) 7 _) (i:=2) r.e2 ?_;refine ag r.hs ?_;refine ag r.hs ⟨_,_,(jA st v).symm,?_⟩;have aP:=get_set (m:=.list (st.map AV.int)) r.hs;have j7:=(List.getElem?_set_ne (a:=.list (st.map AV.int)) r.ne).trans r.ho;refine ag j7 ⟨wM hl,?_⟩;exact q _ _ ⟨r.e0,r.e1,r.e2,r.e3,rfl,r.e5,(List.getElem?_set_ne r.ne.symm).trans aP,by rw [get_set j7,jA],r.ne,(r.x.eL r.ns).eL r.no,r.ns,r.no⟩
theorem Ey (hf:1<=f)(r:RI code J₀ so oo ⟨st,b,pc,o,f⟩ e J)(hi:code[pc]?=some .tick)(q:∀ e' J',RI code J₀ so oo ⟨st,b,pc+1,o,f-1⟩ e' J'->QQ .next e' J'):aH T (aj T D n) aW e J QQ XX:=by
 refine r.enter hi ?_;refine aa (e:=upd (upd (upd e 6 _) 4 _) 7 _) (i:=1) r.e1 ?_;refine gw (b:=decide (f-1<0)) (decide_eq_false (by lia)) ?_;exact q _ _ (r.Hk ⟨st,b,pc+1,o,f-1⟩ rfl rfl rfl rfl rfl r.e3 rfl rfl)
theorem B4 (hf:f<1)(r:RI code J₀ so oo ⟨st,b,pc,o,f⟩ e J)(hi:code[pc]?=some .tick)(q:∀ e J,XX e J):aH T (aj T D n) aW e J QQ XX:=by
 refine r.enter hi ?_;refine aa (e:=upd (upd (upd e 6 _) 4 _) 7 _) (i:=1) r.e1 ?_;refine jD (b:=decide (f-1<0)) (decide_eq_true (by lia)) ?_;exact q _ _
end
section
variable {T:aQ}{D:Nat->Option aD}
theorem IX {J:ae}{r c f:Nat}{fs:List (At×AV)}{P:Nat->Prop}(h:J[r]?=some (.inst c fs))(hc:T.bX f=some c)(p:P r):bG T f (.obj r) J P:=by
 unfold bG; exact ⟨_,_,_,rfl,h,hc,p⟩
def RQ (res:Option (List Int))(J₀:ae)(QQ:QF)(XX:XS):Prop:=match res with
 | some o=>∀ e' J',Ext J₀ J'->QQ (.ret (.tup (o.map .int))) e' J'
 | Option.none=>∀ e J,XX e J
theorem D3 (K:Core T D){n:Nat}(hn:1<=n){code:List In}{J₀:ae}{so oo:Nat}{QQ:QF}{XX:XS}{m:MS}{res:Option (List Int)}(h:Fin code m res)
  (hq:RQ res J₀ QQ XX):∃ k,∀ e J,RI code J₀ so oo m e J->gr (bb T (aj T D n) AU) (aH T (aj T D n) aW) k e J QQ XX:=by
 induction h with
 | step s _ ih=>
  obtain ⟨k,hk⟩:=ih hq;refine ⟨k+1,fun e J r=>?_⟩;cases s with
  | lit hi hl=>exact Jn hl r hi hk
  | eU hi hl hf hv=>exact Jm K hn hl hf hv r hi hk
  | yc hi hl hf=>exact Jp K hn hl hf r hi hk
  | x6 hi hf hv=>exact I5 K hn hf hv r hi hk
  | yv hi hl hv=>exact Jo hl hv r hi hk
  | oQ hi hv=>exact I6 hv r hi hk
  | uI hi h0 h1=>exact Js h0 h1 r hi hk
  | neg hi=>exact Jj r hi hk
  | odd hi=>exact I9 r hi hk
  | fH hi hm hl hr=>exact I8 K hn hm hl hr r hi hk
  | jmp hi=>exact Jq r hi hk
  | Mj hi hv=>exact EB hv r hi hk
  | Mi hi hv=>exact EA hv r hi hk
  | int hi hl=>exact Jr hl r hi hk
  | uJ hi uH hl hf=>exact Jt K hn uH hl hf r hi hk
  | ret hi hb h0=>exact I7 hb h0 r hi hk
  | Fq hi hl=>exact I4 hl r hi hk
  | tick hi hf=>exact Ey hf r hi hk
 | last s=>
  refine ⟨1,fun e J r=>?_⟩;cases s with
  | uI hi h0=>exact EF h0 r hi hq
  | fH hi hm hr=>exact Ez K hn hm hr r hi hq
  | done hi=>exact ED r hi hq
  | tick hi hf=>exact B4 hf r hi hq
def QP (res:Option (List Int))(J:ae)(Q:QV)(X:QX):Prop:=match res with
 | some o=>∀ J',Ext J J'->Q (.tup (o.map .int)) J'
 | Option.none=>∀ J',X J'
theorem IJ (K:Core T D){n:Nat}(hn:2<=n){code:List In}{f:Int}{res:Option (List Int)}{J:ae}{Q:QV}{X:QX}(h:Fin code ⟨[0,0,0],0,0,[],f⟩ res)(hq:QP res J Q X):aj T D n 25 [.tup (code.map In.av),.int f] J Q X:=by
 obtain ⟨n,rfl⟩:=ge1 (Ap hn);refine ⟨Hy,K.dk 25 rfl rfl,rfl,?_⟩;have OU:(J++[MO.list [.int 0,.int 0,.int 0]]).length=J.length+1:=Ac;obtain ⟨k,hk⟩:=D3 (J₀:=J) (so:=J.length) (oo:=(J++[MO.list [.int 0,.int 0,.int 0]]).length) (n:=n) (QQ:=fun fl _ J1=>match fl with
  | .ret v=>Q v J1
  | .next=>Q .none J1
  | _=>False) (XX:=fun _ J'=>X J') K (Am hn) h (by
  cases res with
  | some o=>exact fun e' J' x=>hq _ x
  | none=>exact fun e J'=>hq _)
 exact ⟨k,hk _ _ ⟨rfl,rfl,rfl,rfl,rfl,rfl,ar ay,ay,by rw [OU]; exact Nat.ne_of_lt (Nat.lt_succ_self _),(Ext.refl J).push.push,Aj _,by rw [OU]; exact Nat.le_succ _⟩⟩
noncomputable def ki (b:Bl):R (List In):=match b.wf false&&Nat.ble b.fu 120&&Nat.ble b.sz 100000 with
 | true=>dJ [] 0 [] b
 | false=>.bot
theorem v5 (K:Core T D){n:Nat}(hn:125<=n){x:Tx}{b:Bl}{J:ae}{Q:QV}{X:QX}(h:yE (fun c:List In=>.tup (c.map In.av)) (ki b) J Q X):aj T D n 22 [z4 (x,b)] J Q X:=by
 obtain ⟨n,rfl⟩:=O8 (Aa (by decide) hn);have hn:123<=n:=Am (Am hn);refine ⟨HB,K.dk 22 rfl rfl,rfl,?_⟩;refine ⟨15,K.i1,K.ck 15 rfl rfl,?_⟩;refine ⟨HG,K.dk 15 rfl rfl,rfl,?_⟩;have p1:(J++[MO.inst 1 []]++[MO.list []])[J.length]?=some (.inst 1 []):=ar ay;refine pA p1 ?_;refine ⟨rfl,?_⟩;unfold ki at h;cases hc:b.wf false&&Nat.ble b.fu 120&&Nat.ble b.sz 100000 with
 | false=>rw [hc] at h; exact h.elim
 | true=>
  rw [hc] at h;have hc:=Ab hc;have LD:=Ab hc.1;have h1:=Ad LD.2;have h2:=Ad hc.2;have x1:Ext J ((J++[MO.inst 1 []]++[MO.list []]).set J.length (.inst 1 [(.code,.obj (J++[MO.inst 1 []]).length)])):=(Ext.refl J).push.push.eL (Aj _);have ht:(J++[MO.inst 1 []]).length=J.length+1:=Ac;have cx:Cx ⟨J.length,(J++[MO.inst 1 []]).length,((J++[MO.inst 1 []]++[MO.list []]).set J.length (.inst 1 [(.code,.obj (J++[MO.inst 1 []]).length)])).length,[],[],(J++[MO.inst 1 []]++[MO.list []]).set J.length (.inst 1 [(.code,.obj (J++[MO.inst 1 []]).length)])++[MO.list []]⟩ ((J++[MO.inst 1 []]++[MO.list []]).set J.length (.inst 1 [(.code,.obj (J++[MO.inst 1 []]).length)])++[MO.list []]) [] ((0+b.sz)::[]):=by
   have c2:((J++[MO.inst 1 []]++[MO.list []]).set J.length (.inst 1 [(.code,.obj (J++[MO.inst 1 []]).length)])++[MO.list []])[(J++[MO.inst 1 []]).length]?=some (.list []):=ar ((List.getElem?_set_ne (by rw [ht]; exact Nat.ne_of_lt (Nat.lt_succ_self _))).trans ay);refine ⟨⟨⟨_,c2⟩,ar (get_set p1),ay,trivial,?_,Nat.zero_le _⟩,c2,au.refl _ _,?_⟩
   ·show List.length (List.set _ _ _)≠_;rw [List.length_set,Ac]; exact Nat.ne_of_gt (Nat.lt_succ_self _)
   ·rw [List.sum_cons,Nat.zero_add]; exact Aa (Nat.le_of_eq (Nat.zero_add _)) (Aa h2 (by decide))
  refine IX (get_set p1) (K.ck 17 rfl rfl) ?_;refine yp ((KA K b).1 LD.1 (n+1) (Nat.le_succ_of_le (Aa h1 (Aa (by decide) hn))) _ [] 0 [] [] _ _ _ cx (Aa (Nat.le_of_eq (Nat.zero_add _)) (Aa h1 (by decide))) rfl ?_);have h:yE (fun c:List In=>.tup (c.map In.av)) (dJ [] 0 [] b) J Q X:=h;revert h;unfold yE yD;cases dJ [] 0 [] b with
  | bot=>exact id
  | err=>exact id
  | ok c=>
   intro h J' k c';refine (a8 c' ?_ :);refine ag c'.c2 ?_;exact h J' (au.ext x1.push (by rw [ht]; exact Nat.le_succ _) c'.kp)
inductive kL (text:Tx)(f:Int):Option (List Int)->Prop
 | run {q:Tx×Bl} {c res}:dF text=.ok q->ki q.2=.ok c->Fin c ⟨[0,0,0],0,0,[],f⟩ res->kL text f res
 | kX:dF text=.err->kL text f Option.none
 | tO {q:Tx×Bl}:dF text=.ok q->ki q.2=.err->kL text f Option.none
theorem EO (K:Core T D){n:Nat}(hn:130<=n){text:Tx}{f:Int}{res:Option (List Int)}{J:ae}{Q:QV}{X:QX}(h:kL text f res)(hq:QP res J Q X):aj T D n 26 [.str text,.int f] J Q X:=by
 obtain ⟨n,rfl⟩:=ge1 (Aa (by decide) hn);have hn:=Am hn;have Mz:125<=n:=Aa (by decide) hn;refine ⟨Hx,K.dk 26 rfl rfl,rfl,?_⟩;refine ⟨K.ck 13 rfl rfl,?_⟩;refine BR K (Aa (by decide) hn) ?_;cases h with
 | run hp hc hf=>
  rename_i q c
  rw [hp];intro J1 x1;refine ⟨K.ck 22 rfl rfl,?_⟩;refine v5 K Mz ?_;rw [hc];intro J2 x2;refine ⟨K.ck 25 rfl rfl,?_⟩;refine IJ K (Aa (by decide) hn) hf ?_;revert hq;unfold QP;cases res with
  | some o=>exact fun hq J3 x3=>hq _ ((x1.trans x2).trans x3)
  | none=>exact id
 | kX hp=>rw [hp]; exact hq
 | tO hp hc=>
  rw [hp];intro J1 x1;refine ⟨K.ck 22 rfl rfl,?_⟩;refine v5 K Mz ?_;rw [hc];exact hq
end
noncomputable def Frag (code:List In):Nat->List In->Prop
 | _,[]=>True
 | p,i::r=>code[p]?=some i∧Frag code (p+1) r
theorem bO {code:List In}:∀ {c d:List In} {p:Nat},Frag code p (c++d)->Frag code p c∧Frag code (p+c.length) d
 | [],d,p,h=>⟨trivial,h⟩
 | i::c,d,p,h=>⟨⟨h.1,(bO h.2).1⟩,(show p+(c.length+1)=p+1+c.length from Aw p c.length 1)▸(bO h.2).2⟩
noncomputable def Fw (st:List Int)(b l a:Nat):R Nat:=match frameOf st l b with
 | some b'=>.ok (b'+a)
 | Option.none=>.bot
noncomputable def rd (st:List Int)(i:Nat):R Int:=match st[i]? with
 | some v=>.ok v
 | Option.none=>.bot
noncomputable def nat?:Int->R Nat
 | .ofNat n=>.ok n
 | .negSucc _=>.bot
noncomputable def kJ (sc:List Scope)(st:List Int)(b:Nat)(x:Tx):R Nat:=match findS x sc 0 with
 | some (l,.var a)=>Fw st b l a
 | some (l,.ref a)=>(Fw st b l a).bind fun i=>(rd st i).bind nat?
 | _=>.bot
noncomputable def yj (sc:List Scope)(st:List Int)(b:Nat)(x:Tx)(i:R Int):R Nat:=match findS x sc 0 with
 | some (l,.arr a z)=>i.bind fun v=>match decide (0<=v∧v<(z:Int)) with
  | true=>(Fw st b l a).bind fun k=>.ok (v.toNat+k)
  | false=>.err
 | _=>.bot
noncomputable def bN (sc:List Scope)(st:List Int)(b:Nat):Ex->R Int
 | .int n=>.ok n
 | .name x=>(kJ sc st b x).bind fun i=>rd st i
 | .at x e=>(yj sc st b x (bN sc st b e)).bind fun i=>rd st i
 | .neg e=>(bN sc st b e).bind fun v=>.ok (-v)
 | .odd e=>(bN sc st b e).bind fun v=>.ok (v.fmod 2)
 | .bin o a c=>(bN sc st b a).bind fun v=>(bN sc st b c).bind fun w=>iI o v w
def Go {α:Type}(m:R α)(k:α->Prop)(res:Option (List Int)):Prop:=match m with
 | .ok a=>k a
 | .err=>res=Option.none
 | .bot=>False
theorem Go.bind {α β:Type}{m:R α}{f:α->R β}{k:β->Prop}{res:Option (List Int)}(h:Go (m.bind f) k res):Go m (fun a=>Go (f a) k res) res:=by
 cases m<;>exact h
theorem Go.mono {α:Type}{m:R α}{k k':α->Prop}{res:Option (List Int)}(h:Go m k res)(hk:∀ a,k a->k' a):Go m k' res:=by
 cases m with
 | ok a=>exact hk a h
 | err=>exact h
 | bot=>exact h
theorem bD {st tmp:List Int}{i:Nat}{v:Int}(h:st[i]?=some v):(st++tmp)[i]?=some v:=by
 rw [List.getElem?_append_left (Ai h).1,h]
theorem cy {st tmp:List Int}:∀ {l b b':Nat},frameOf st l b=some b'->frameOf (st++tmp) l b=some b'
 | 0,b,b',h=>h
 | l+1,b,b',h=>by
  have h:(match st[b]? with
   | some (.ofNat v)=>frameOf st l v
   | _=>Option.none)=some b':=h
  show (match (st++tmp)[b]? with
   | some (.ofNat v)=>frameOf (st++tmp) l v
   | _=>Option.none)=some b'
  revert h;cases hv:st[b]? with
  | none=>intro h; cases h
  | some v=>
   rw [bD hv];cases v with
   | ofNat n=>exact cy
   | negSucc n=>intro h; cases h
def Rm (n k:Nat):Prop:=n+k<=800000
theorem Rm.lt {n k:Nat}(h:Rm n k):n<900000:=Ao (Aa (Af _ _) h) (by decide)
theorem Rm.l {n a b:Nat}(h:Rm n (a+b)):Rm n a:=Aa (Ak (Af _ _) _) h
theorem Rm.r {n a b:Nat}(h:Rm n (a+b)):Rm n b:=Aa (Ak (Ar _ _) _) h
theorem Rm.s {n a:Nat}(h:Rm n (a+1)):Rm (n+1) a:=Aa (Nat.le_of_eq (Aw n 1 a)) h
theorem Rm.push {st:List Int}{v:Int}{a:Nat}(h:Rm st.length (a+1)):Rm (st++[v]).length a:=by rw [Ac]; exact h.s
section
variable {code:List In}{b:Nat}{o:List Int}{f:Int}{res:Option (List Int)}{sc:List Scope}
theorem i8 {st:List Int}{l a:Nat}{k:Nat->Prop}(h:Go (Fw st b l a) k res):∃ b',frameOf st l b=some b'∧k (b'+a):=by
 unfold Fw at h;revert h;cases frameOf st l b with
 | none=>exact fun h=>h.elim
 | some b'=>exact fun h=>⟨b',rfl,h⟩
theorem lJ {st:List Int}{i:Nat}{k:Int->Prop}(h:Go (rd st i) k res):∃ v,st[i]?=some v∧k v:=by
 unfold rd at h;revert h;cases st[i]? with
 | none=>exact fun h=>h.elim
 | some v=>exact fun h=>⟨v,rfl,h⟩
theorem vH {v:Int}{k:Nat->Prop}(h:Go (nat? v) k res):∃ n:Nat,v=n∧k n:=by
 cases v with
 | ofNat n=>exact ⟨n,rfl,h⟩
 | negSucc n=>exact h.elim
theorem Fin.mv {st:List Int}{p q:Nat}(h:Fin code ⟨st,b,p,o,f⟩ res)(e:p=q):Fin code ⟨st,b,q,o,f⟩ res:=e▸h
theorem Ei {st tmp:List Int}{x:Tx}{c:List In}{pc:Nat}(hc:lE sc x=.ok c)(hf:Frag code pc c)(hl:Rm (st++tmp).length 2)
  (h:Go ((kJ sc st b x).bind fun i=>rd st i) (fun v=>Fin code ⟨st++tmp++[v],b,pc+c.length,o,f⟩ res) res):Fin code ⟨st++tmp,b,pc,o,f⟩ res:=by
 unfold lE at hc;unfold kJ at h;revert hc h;rcases findS x sc 0 with _ | ⟨l,a | a | ⟨a,z⟩ | ⟨a,z⟩⟩<;>intro hc h<;>cases hc
 ·obtain ⟨b',h1,h⟩:=i8 h.bind;obtain ⟨v,h2,h⟩:=lJ h;exact .step (.eU hf.1 hl.lt (cy h1) (bD h2)) h
 ·obtain ⟨b',h1,h⟩:=i8 h.bind.bind;obtain ⟨v,h2,h⟩:=lJ h.bind;obtain ⟨k,rfl,h⟩:=vH h;obtain ⟨w,h3,h⟩:=lJ h;exact .step (.eU hf.1 hl.lt (cy h1) (bD h2)) (.step (.yv hf.2.1 hl.lt (bD h3)) h)
theorem Cs {st tmp:List Int}{x:Tx}{c:List In}{pc:Nat}(hc:cN sc x=.ok c)(hf:Frag code pc c)(hl:(st++tmp).length<900000)
  (h:Go (kJ sc st b x) (fun i=>Fin code ⟨st++tmp++[(i:Int)],b,pc+c.length,o,f⟩ res) res):Fin code ⟨st++tmp,b,pc,o,f⟩ res:=by
 unfold cN at hc;unfold kJ at h;revert hc h;rcases findS x sc 0 with _ | ⟨l,a | a | ⟨a,z⟩ | ⟨a,z⟩⟩<;>intro hc h<;>cases hc
 ·obtain ⟨b',h1,h⟩:=i8 h;exact .step (.yc hf.1 hl (cy h1)) h
 ·obtain ⟨b',h1,h⟩:=i8 h.bind;obtain ⟨v,h2,h⟩:=lJ h.bind;obtain ⟨k,rfl,h⟩:=vH h;exact .step (.eU hf.1 hl (cy h1) (bD h2)) h
def MM (code:List In)(sc:List Scope)(e:Ex):Prop:=∀ {b:Nat} {o:List Int} {f:Int} {res:Option (List Int)} {st tmp:List Int} {c:List In} {pc:Nat},cK sc e=.ok c->Frag code pc c->Rm (st++tmp).length e.sz->
 Go (bN sc st b e) (fun v=>Fin code ⟨st++tmp++[v],b,pc+c.length,o,f⟩ res) res->Fin code ⟨st++tmp,b,pc,o,f⟩ res
theorem KY {p:Nat}{c d:List In}{k:Nat}(h:d.length=k):p+(c++d).length=p+c.length+k:=by rw [Ac,h,Nat.add_assoc]
theorem GJ {st tmp:List Int}{x:Tx}{e:Ex}(he:MM code sc e){c:List In}{pc:Nat}(hc:yC sc x (cK sc e)=.ok c)(hf:Frag code pc c)(hl:Rm (st++tmp).length (e.sz+3))
  (h:Go (yj sc st b x (bN sc st b e)) (fun i=>Fin code ⟨st++tmp++[(i:Int)],b,pc+c.length,o,f⟩ res) res):Fin code ⟨st++tmp,b,pc,o,f⟩ res:=by
 unfold yC at hc;unfold yj at h;revert hc h;rcases findS x sc 0 with _ | ⟨l,a | a | ⟨a,z⟩ | ⟨a,z⟩⟩<;>intro hc h
 case some.arr=>
  obtain ⟨d,h1,h2⟩:=R.ao hc;cases h2;obtain ⟨f1,f2⟩:=bO hf;refine he h1 f1 hl.l (h.bind.mono fun v h=>?_);revert h;cases hv:decide (0<=v∧v<(z:Int)) with
  | true=>
   intro h;have hv:=Ax hv;obtain ⟨b',h3,h⟩:=i8 (Go.bind h);have h:Fin code ⟨st++tmp++[((v.toNat+(b'+a):Nat):Int)],b,pc+(d++[In.uI z,In.yc l a,In.fH nT]).length,o,f⟩ res:=h;have e1:((v.toNat+(b'+a):Nat):Int)=v+((b'+a:Nat):Int):=by rw [Int.natCast_add,Int.toNat_of_nonneg hv.1]
   rw [e1] at h;have l2:(st++tmp++[v]).length<900000:=(Rm.push (a:=0) (hl.r (b:=3).l (a:=1) (b:=2))).lt;refine .step (.uI f2.1 hv.1 hv.2) ?_;refine .step (.yc (b':=b') f2.2.1 l2 ?_) ?_
   ·rw [Ae]; exact cy h3
   exact .step (.fH f2.2.2.1 rfl hl.lt rfl) (h.mv (KY rfl))
  | false=>
   intro h;have h:res=Option.none:=h;subst h;exact .last (.uI f2.1 (of_decide_eq_false hv))
 all_goals cases hc
theorem zH (sc:List Scope):∀ e:Ex,e.wf=true->MM code sc e:=by
 intro e
 induction e with
 | int n=>intro hw b o f res st tmp c pc hc hf hl h; cases hc; exact .step (.lit hf.1 hl.lt) h
 | name x=>intro hw b o f res st tmp c pc hc hf hl h; exact Ei hc hf hl h
 | «at» x e ih=>
  intro hw b o f res st tmp c pc hc hf hl h;obtain ⟨d,h1,h2⟩:=R.ao hc;cases h2;obtain ⟨f1,f2⟩:=bO hf;refine GJ (ih hw) h1 f1 (Rm.l (b:=1) hl) (h.bind.mono fun i h=>?_);obtain ⟨v,h2,h⟩:=lJ h;exact .step (.yv f2.1 hl.lt (bD h2)) (h.mv (KY rfl))
 | neg e ih=>
  intro hw b o f res st tmp c pc hc hf hl h;obtain ⟨d,h1,h2⟩:=R.ao hc;cases h2;obtain ⟨f1,f2⟩:=bO hf;exact ih hw h1 f1 (Rm.l (b:=1) hl) (h.bind.mono fun v h=>.step (.neg f2.1) (Fin.mv h (KY rfl)))
 | odd e ih=>
  intro hw b o f res st tmp c pc hc hf hl h;obtain ⟨d,h1,h2⟩:=R.ao hc;cases h2;obtain ⟨f1,f2⟩:=bO hf;exact ih hw h1 f1 (Rm.l (b:=1) hl) (h.bind.mono fun v h=>.step (.odd f2.1) (Fin.mv h (KY rfl)))
 | bin op x y CU VP=>
  intro hw b o f res st tmp c pc hc hf hl h;obtain ⟨d,h1,h2⟩:=R.ao hc; obtain ⟨d',h3,h4⟩:=R.ao h2;cases h4;have hw:=Ab hw;have wg:=Ab hw.1;obtain ⟨f1,f3⟩:=bO hf;obtain ⟨f1,f2⟩:=bO f1;refine CU wg.2 h1 f1 (Rm.l hl) (h.bind.mono fun v h=>?_);rw [Ae];refine VP hw.2 h3 f2 (by rw [← Ae]; exact Rm.push (Rm.r hl)) (h.bind.mono fun w h=>?_);rw [← Ae];have e3:pc+d.length+d'.length=pc+(d++d').length:=(KY rfl).symm;refine Fin.mv ?_ e3.symm;revert h;cases hr:iI op v w with
  | ok u=>exact fun h=>.step (.fH f3.1 wg.1 hl.lt hr) (Fin.mv h (KY rfl))
  | err=>intro h; have h:res=Option.none:=h; subst h; exact .last (.fH f3.1 wg.1 hr)
  | bot=>exact fun h=>h.elim
end
noncomputable def Fg (code:List In):Nat->List In->Nat->Prop
 | p,[],q=>p=q
 | p,i::r,q=>code[p]?=some i∧Fg code (p+1) r q
theorem Fg.app {code:List In}:∀ {c d:List In} {p q:Nat},Fg code p (c++d) q->∃ m,Fg code p c m∧Fg code m d q
 | [],d,p,q,h=>⟨p,rfl,h⟩
 | i::c,d,p,q,h=>(Fg.app h.2).elim fun m g=>⟨m,⟨h.1,g.1⟩,g.2⟩
theorem Fg.fr {code:List In}:∀ {c:List In} {p q:Nat},Fg code p c q->Frag code p c∧q=p+c.length
 | [],p,q,h=>⟨trivial,Eq.symm h⟩
 | i::c,p,q,h=>⟨⟨h.1,h.2.fr.1⟩,h.2.fr.2.trans (show p+1+c.length=p+(c.length+1) from (Aw p c.length 1).symm)⟩
theorem Frag.fg {code:List In}:∀ {c:List In} {p:Nat},Frag code p c->Fg code p c (p+c.length)
 | [],p,h=>rfl
 | i::c,p,h=>⟨h.1,(show p+1+c.length=p+(c.length+1) from (Aw p c.length 1).symm)▸Frag.fg h.2⟩
theorem Fg.ap {code:List In}{c d:List In}{p q:Nat}(h:Fg code p (c++d) q):Fg code p c (p+c.length)∧Fg code (p+c.length) d q:=by
 obtain ⟨m,f1,f2⟩:=h.app;obtain ⟨_,rfl⟩:=f1.fr;exact ⟨f1,f2⟩
theorem Fg.o {code:List In}{i:In}{c:List In}{p q:Nat}(h:Fg code p ([i]++c) q):code[p]?=some i∧Fg code (p+1) c q:=h
theorem Fg.o2 {code:List In}{i j:In}{c:List In}{p q:Nat}(h:Fg code p ([i,j]++c) q):code[p]?=some i∧code[p+1]?=some j∧Fg code (p+1+1) c q:=h
theorem Fg.r2 {code:List In}{a b c:List In}{p q:Nat}(h:Fg code p (a++b++c) q):Fg code p (a++(b++c)) q:=Ae a b c▸h
theorem Fg.r3 {code:List In}{a b c d:List In}{p q:Nat}(h:Fg code p (a++b++c++d) q):Fg code p (a++(b++(c++d))) q:=h.r2.r2
theorem Fg.r4 {code:List In}{a b c d e:List In}{p q:Nat}(h:Fg code p (a++b++c++d++e) q):Fg code p (a++(b++(c++(d++e)))) q:=h.r2.r3
theorem Fg.r6 {code:List In}{a b c d e f g:List In}{p q:Nat}(h:Fg code p (a++b++c++d++e++f++g) q):Fg code p (a++(b++(c++(d++(e++(f++g)))))) q:=h.r2.r2.r4
noncomputable def cut (t f:Nat)(res:Option (List Int)):Option (List Int):=match Nat.ble t f with
 | true=>res
 | false=>Option.none
theorem fP (t f:Nat):cut t f Option.none=Option.none:=by unfold cut; cases Nat.ble t f<;>rfl
def U (code:List In)(st:List Int)(b pc:Nat)(o:List Int)(t:Nat)(res:Option (List Int)):Prop:=∀ f:Nat,Fin code ⟨st,b,pc,o,f⟩ (cut t f res)
def At (code:List In)(sc:List Scope)(f p:Nat)(s:St)(p':Nat):Prop:=∃ c,bk sc f p s=.ok c∧Fg code p c p'
theorem Go.u {α:Type}{m:R α}{k k':α->Prop}{res:Option (List Int)}{t f:Nat}(h:Go m k res)(hk:∀ a,k a->k' a):Go m k' (cut t f res):=by
 cases m with
 | ok a=>exact hk a h
 | err=>have h:res=Option.none:=h; subst h; exact fP t f
 | bot=>exact h
def Rs (n k:Nat):Prop:=Nat.ble (n+(k+10)) 800000=true
theorem Rs.of {n k m:Nat}(h:Rs n k)(hm:m<=k+10):Rm n m:=Aa (Ak hm _) (Ad h)
section
variable {code:List In}{b:Nat}{o:List Int}{t:Nat}{res:Option (List Int)}{sc:List Scope}{st:List Int}{f p p' pc:Nat}
theorem U.go {st':List Int}{Tz:Nat}(m:∀ f:Int,nS code ⟨st,b,pc,o,f⟩ ⟨st',b,Tz,o,f⟩)(h:U code st' b Tz o t res):U code st b pc o t res:=fun f=>.step (m f) (h f)
theorem U.val {e:Ex}{tmp:List Int}{c:List In}{m:Nat}(hw:e.wf=true)(hc:cK sc e=.ok c)(hf:Fg code pc c m)(hl:Rm (st++tmp).length e.sz)
  (h:Go (bN sc st b e) (fun v=>U code (st++tmp++[v]) b m o t res) res):U code (st++tmp) b pc o t res:=
 fun f=>zH sc e hw hc hf.fr.1 hl (h.u fun v h=>hf.fr.2▸h f)
theorem U.GK {x:Tx}{tmp:List Int}{c:List In}{m:Nat}(hc:cN sc x=.ok c)(hf:Fg code pc c m)(hl:Rm (st++tmp).length 0)
  (h:Go (kJ sc st b x) (fun i=>U code (st++tmp++[(i:Int)]) b m o t res) res):U code (st++tmp) b pc o t res:=
 fun f=>Cs hc hf.fr.1 hl.lt (h.u fun v h=>hf.fr.2▸h f)
theorem U.GL {x:Tx}{e:Ex}{tmp:List Int}{c:List In}{m:Nat}(hw:e.wf=true)(hc:yC sc x (cK sc e)=.ok c)(hf:Fg code pc c m)(hl:Rm (st++tmp).length (e.sz+3))
  (h:Go (yj sc st b x (bN sc st b e)) (fun i=>U code (st++tmp++[(i:Int)]) b m o t res) res):U code (st++tmp) b pc o t res:=
 fun f=>GJ (zH sc e hw) hc hf.fr.1 hl (h.u fun v h=>hf.fr.2▸h f)
theorem az (st:List Int):st++[]=st:=List.append_nil st
theorem U.De {e:Ex}{c:List In}{m:Nat}(hw:e.wf=true)(hc:cK sc e=.ok c)(hf:Fg code pc c m)(hl:Rm st.length e.sz)
  (h:Go (bN sc st b e) (fun v=>U code (st++[v]) b m o t res) res):U code st b pc o t res:=by
 have:=U.val (tmp:=[]) (st:=st) (o:=o) (t:=t) (res:=res) (b:=b) hw hc hf;rw [az] at this;exact this hl h
theorem U.Br {x:Tx}{c:List In}{m:Nat}(hc:cN sc x=.ok c)(hf:Fg code pc c m)(hl:Rm st.length 0)
  (h:Go (kJ sc st b x) (fun i=>U code (st++[(i:Int)]) b m o t res) res):U code st b pc o t res:=by
 have:=U.GK (tmp:=[]) (st:=st) (o:=o) (t:=t) (res:=res) (b:=b) hc hf;rw [az] at this;exact this hl h
theorem U.KN {x:Tx}{e:Ex}{c:List In}{m:Nat}(hw:e.wf=true)(hc:yC sc x (cK sc e)=.ok c)(hf:Fg code pc c m)(hl:Rm st.length (e.sz+3))
  (h:Go (yj sc st b x (bN sc st b e)) (fun i=>U code (st++[(i:Int)]) b m o t res) res):U code st b pc o t res:=by
 have:=U.GL (tmp:=[]) (st:=st) (o:=o) (t:=t) (res:=res) (b:=b) hw hc hf;rw [az] at this;exact this hl h
theorem U.tick (hi:code[pc]?=some .tick)(h:U code st b (pc+1) o t res):U code st b pc o (t+1) res:=fun f=>match f with
 | 0=>.last (.tick hi (by decide))
 | k+1=>.step (.tick hi (Int.le_add_of_nonneg_left (Av k))) ((Int.add_sub_cancel (k:Int) 1).symm▸h k)
theorem U.gE {q:Nat}{v:Int}(hi:code[pc]?=some (.gE q))(h1:v=0->U code st b q o t res)(h2:v≠0->U code st b (pc+1) o t res):U code (st++[v]) b pc o t res:=
 fun f=>(Decidable.em (v=0)).elim (fun hv=>.step (.Mj hi hv) (h1 hv f)) fun hv=>.step (.Mi hi hv) (h2 hv f)
theorem U.none (h:U code st b pc o t Option.none)(t':Nat):U code st b pc o t' Option.none:=fun f=>by
 have:=h f;rw [fP] at this ⊢;exact this
theorem zR {i:Nat}{e:Ex}{d c:List In}{m:Nat}(hw:e.wf=true)(hc:cK sc e=.ok d)(hf:Fg code pc (d++[In.oQ]) m)(hl:Rs st.length e.sz)
  (g:Go (bN sc st b e) (fun v=>i<st.length∧U code (st.set i v) b m o t res) res):U code (st++[(i:Int)]) b pc o t res:=by
 obtain ⟨m,f1,f2,rfl⟩:=hf.app;exact U.val hw hc f1 (Rm.push (hl.of (Ak (by decide) _))) (g.mono fun v g=>.go (fun f=>.oQ f2 g.1) g.2)
theorem At.set {x:Tx}{e:Ex}(h:At code sc f p (.set x e) p')(hw:e.wf=true)(hl:Rs st.length e.sz)
  (g:Go (kJ sc st b x) (fun i=>Go (bN sc st b e) (fun v=>i<st.length∧U code (st.set i v) b p' o t res) res) res):U code st b p o t res:=by
 obtain ⟨c,hc,hf⟩:=h;obtain ⟨c1,h1,h2⟩:=R.ao hc; obtain ⟨c2,h3,h4⟩:=R.ao h2;cases h4;obtain ⟨f1,f2⟩:=hf.r2.ap;exact U.Br h1 f1 (hl.of (Nat.zero_le _)) (g.mono fun i g=>zR (c:=c2) hw h3 f2 hl g)
theorem At.setAt {x:Tx}{i e:Ex}(h:At code sc f p (.setAt x i e) p')(OR:i.wf=true)(hw:e.wf=true)(OY:Rs st.length i.sz)(hl:Rs st.length e.sz)
  (g:Go (yj sc st b x (bN sc st b i)) (fun i=>Go (bN sc st b e) (fun v=>i<st.length∧U code (st.set i v) b p' o t res) res) res):U code st b p o t res:=by
 obtain ⟨c,hc,hf⟩:=h;obtain ⟨c1,h1,h2⟩:=R.ao hc; obtain ⟨c2,h3,h4⟩:=R.ao h2;cases h4;obtain ⟨f1,f2⟩:=hf.r2.ap;exact U.KN OR h1 f1 (OY.of (Ak (by decide) _)) (g.mono fun i g=>zR (c:=c2) hw h3 f2 hl g)
theorem At.write {e:Ex}(h:At code sc f p (.write e) p')(hw:e.wf=true)(hl:Rs st.length e.sz)(ho:o.length<900000)
  (g:Go (bN sc st b e) (fun v=>U code st b p' (o++[v]) t res) res):U code st b p o t res:=by
 obtain ⟨c,hc,hf⟩:=h;obtain ⟨c1,h1,h2⟩:=R.ao hc;cases h2;obtain ⟨m,f1,f2,rfl⟩:=hf.app;exact U.De hw h1 f1 (hl.of (Af _ _)) (g.mono fun v g f=>.step (.Fq f2 ho) (g f))
theorem At.empty (h:At code sc f p .empty p'):p'=p:=by
 obtain ⟨c,hc,hf⟩:=h;cases hc; exact Eq.symm hf
theorem At.nk {s:St}(h:At code sc f p (.nk s) p'):At code sc f p s p':=h
theorem At.one {s:St}(h:At code sc f p (.one s) p'):At code sc f p s p':=h
theorem At.seq {s r:St}(h:At code sc f p (.seq s r) p'):∃ q,At code sc f p s q∧At code sc f q r p':=by
 obtain ⟨c,hc,hf⟩:=h;obtain ⟨c1,h1,h2⟩:=R.ao hc; obtain ⟨c2,h3,h4⟩:=R.ao h2;cases h4;exact ⟨_,⟨c1,h1,hf.ap.1⟩,⟨c2,h3,hf.ap.2⟩⟩
def wZ (code:List In)(sc:List Scope)(c:Ex)(p q0 q1 k:Nat):Prop:=∀ {st:List Int} {b:Nat} {o:List Int} {t:Nat} {res:Option (List Int)},Rs st.length c.sz->Go (bN sc st b c) (fun v=>(v=0->U code st b q0 o t res)∧(v≠0->U code st b q1 o t res)) res->U code st b p o (t+k) res
def Way (code:List In)(p q:Nat):Prop:=∀ {st:List Int} {b:Nat} {o:List Int} {t:Nat} {res:Option (List Int)},U code st b q o t res->U code st b p o t res
theorem way {q:Nat}(h:code[p]?=some (.jmp q)):Way code p q:=fun g=>.go (fun f=>.jmp h) g
theorem fork {c:Ex}{v:List In}{m q:Nat}(hw:c.wf=true)(hc:cK sc c=.ok v)(hf:Fg code p v m)(hj:code[m]?=some (.gE q)):wZ code sc c p q (m+1) 0:=fun hl g=>
 U.De hw hc hf (hl.of (Af _ _)) (g.mono fun v g=>U.gE hj g.1 g.2)
theorem Gx {c:Ex}{v:List In}{m q:Nat}(hw:c.wf=true)(hc:cK sc c=.ok v)(hf:Fg code p v m)(ht:code[m]?=some .tick)(hj:code[m+1]?=some (.gE q)):wZ code sc c p q (m+1+1) 1:=fun hl g=>
 U.De hw hc hf (hl.of (Af _ _)) (g.mono fun v g=>U.tick ht (U.gE hj g.1 g.2))
theorem At.if1 {c:Ex}{a:St}(h:At code sc f p (.if1 c a) p')(hw:c.wf=true):∃ q,At code sc f q a p'∧wZ code sc c p p' q 0:=by
 obtain ⟨c,hc,hf⟩:=h;obtain ⟨c1,h1,h2⟩:=R.ao hc; obtain ⟨c2,h3,h4⟩:=R.ao h2;cases h4;obtain ⟨f1,f4⟩:=hf.r2.ap;obtain ⟨fj,f2⟩:=f4.o;exact ⟨_,⟨c2,h3,f2⟩,fork hw h1 f1 (f2.fr.2▸fj)⟩
theorem At.if2 {c:Ex}{a d:St}(h:At code sc f p (.if2 c a d) p')(hw:c.wf=true):∃ q q' r,At code sc f q a q'∧At code sc f r d p'∧Way code q' p'∧wZ code sc c p r q 0:=by
 obtain ⟨c,hc,hf⟩:=h;obtain ⟨c1,h1,h2⟩:=R.ao hc; obtain ⟨c2,h3,h4⟩:=R.ao h2; obtain ⟨c3,h5,h6⟩:=R.ao h4;cases h6;obtain ⟨f1,f4⟩:=hf.r4.ap;obtain ⟨fj,f4⟩:=f4.o;obtain ⟨f2,f4⟩:=f4.ap;obtain ⟨fm,f3⟩:=f4.o;exact ⟨_,_,_,⟨c2,h3,f2⟩,⟨c3,h5,f3⟩,way (f3.fr.2▸fm),fork hw h1 f1 fj⟩
theorem At.gf {c:Ex}{a:St}(h:At code sc f p (.gf c a) p')(hw:c.wf=true):∃ q q',At code sc f q a q'∧Way code q' p∧wZ code sc c p p' q 1:=by
 obtain ⟨c,hc,hf⟩:=h;obtain ⟨c1,h1,h2⟩:=R.ao hc; obtain ⟨c2,h3,h4⟩:=R.ao h2;cases h4;obtain ⟨f1,f4⟩:=hf.r3.ap;obtain ⟨ft,fj,f4⟩:=f4.o2;obtain ⟨f2,fm,fe⟩:=f4.ap;exact ⟨_,_,⟨c2,h3,f2⟩,way fm,Gx hw h1 f1 ft ((fe:_=p')▸fj)⟩
theorem At.rep {c:Ex}{a:St}(h:At code sc f p (.rep a c) p')(hw:c.wf=true):∃ q,At code sc f p a q∧wZ code sc c q p p' 1:=by
 obtain ⟨c,hc,hf⟩:=h;obtain ⟨c1,h1,h2⟩:=R.ao hc; obtain ⟨c2,h3,h4⟩:=R.ao h2;cases h4;obtain ⟨f1,f4⟩:=hf.r2.ap;obtain ⟨f2,ft,fj,fe⟩:=f4.ap;exact ⟨_,⟨c1,h1,f1⟩,(fe:_=p')▸Gx hw h3 f2 ft fj⟩
end
noncomputable def pf:Bool->Int->Int->Bool
 | true,v,w=>decide (v<=w)
 | false,v,w=>decide (v ≥ w)
noncomputable def HW:Bool->Int->Int
 | true,v=>v+1
 | false,v=>v-1
noncomputable def SK (sc:List Scope)(st:List Int)(b:Nat):Ex->R Nat
 | .name x=>kJ sc st b x
 | .at x e=>yj sc st b x (bN sc st b e)
 | _=>.bot
noncomputable def gR (sc:List Scope)(st:List Int)(b:Nat):List Bool->List Ex->R (List Int)
 | v::vs,e::es=>(match v with
  | true=>(SK sc st b e).bind fun i=>.ok (i:Int)
  | false=>bN sc st b e).bind fun x=>(gR sc st b vs es).bind fun r=>.ok (x::r)
 | [],[]=>.ok []
 | _,_=>.bot
theorem Ex.Iq (e:Ex):1<=e.sz:=by cases e<;>exact Ar 1 _
section
variable {code:List In}{b:Nat}{o:List Int}{t:Nat}{res:Option (List Int)}{sc:List Scope}{st:List Int}{f p p' pc:Nat}
theorem U.done (hi:code[pc]?=some .ret):U code st 0 pc o 0 (some o):=fun f=>.last (.done hi)
theorem u2 (st:List Int)(v w:Int):st++[v]++[w]=st++[v,w]:=Ae st [v] [w]
theorem UW (st:List Int)(v w:Int):(st++[v,w])[st.length]?=some v:=by rw [List.getElem?_append_right (Aj _),Nat.sub_self]; rfl
theorem Xz (st:List Int)(v w:Int):(st++[v,w])[st.length+1]?=some w:=by rw [List.getElem?_append_right (Af _ 1),Nat.add_sub_cancel_left]; rfl
theorem Dg (st:List Int)(v w x:Int):(st++[v,w]).set st.length x=st++[x,w]:=by rw [List.set_append_right _ _ (Aj _),Nat.sub_self]; rfl
theorem yM (st:List Int)(v w:Int):(st++[v,w]).length=st.length+2:=Ac
theorem Rs.q {n k:Nat}(h:Rs (n+2) k){m:Nat}(hm:m<=12):n+m<900000:=Ao (Aa (Ak hm _) (Aa (Aa (Nat.le_of_eq (Nat.add_assoc n 2 10).symm) (Ak (Ar _ _) _)) (Ad h))) (by decide)
theorem At.for {x:Tx}{a c:Ex}{up:Bool}{s:St}(h:At code sc f p (.for x a c up s) p')(V0:a.wf=true)(VZ:c.wf=true):∃ top q q',At code sc (f+2) q s q'∧
  (∀ {st:List Int} {b:Nat} {o:List Int} {t:Nat} {res:Option (List Int)},Rs st.length a.sz->Rs st.length c.sz->Go (bN sc st b a) (fun v=>Go (bN sc st b c) (fun w=>U code (st++[v,w]) b top o t res) res) res->U code st b p o t res)∧
  (∀ {st:List Int} {b:Nat} {o:List Int} {t:Nat} {res:Option (List Int)} {v w:Int},st.length=b+f->Rs (st.length+2) 0->
   (pf up v w=true->Go (kJ sc (st++[v,w]) b x) (fun i=>i<st.length+2∧U code ((st++[v,w]).set i v) b q o t res) res)->(pf up v w=false->U code st b p' o t res)->U code (st++[v,w]) b top o (t+1) res)∧
  (∀ {st:List Int} {b:Nat} {o:List Int} {t:Nat} {res:Option (List Int)} {v w:Int},st.length=b+f->Rs (st.length+2) 0->U code (st++[HW up v,w]) b top o t res->U code (st++[v,w]) b q' o t res):=by
 obtain ⟨cc,hc,hf⟩:=h;obtain ⟨w,h1,h2⟩:=R.ao hc; obtain ⟨u,h3,h4⟩:=R.ao h2; obtain ⟨v,h5,h6⟩:=R.ao h4; obtain ⟨z,h7,h8⟩:=R.ao h6;cases h8;obtain ⟨fu,fa⟩:=hf.r6.ap;obtain ⟨fv,t1,t2,t3,t4,t5,fb⟩:=fa.ap;have fb:Fg code (p+u.length+v.length+5) (w++_) p':=fb;obtain ⟨fw,fb⟩:=fb.ap;obtain ⟨s1,s2,fc⟩:=fb.o2;obtain ⟨fz,e1,e2,e3,e4,e5,e6,e7,fe⟩:=fc.ap;clear hf hc h2 h4 h6 fa fb fc;subst fe;refine ⟨p+u.length+v.length,_,_,⟨z,h7,fz⟩,fun Ww Wv g=>?_,fun {st b o t res vv ww} hb hl g1 g2=>?_,fun {st b o t res vv ww} hb hl g=>?_⟩
 ·refine U.De V0 h3 fu (Ww.of (Af _ _)) (g.mono fun v g=>?_);refine U.val VZ h5 fv (Rm.push (Wv.of (Ak (by decide) _))) (g.mono fun w g=>?_);rw [u2]; exact g
 ·have l2:=yM st vv ww;have OS:(st++[vv,ww])[b+f]?=some vv:=hb▸UW st vv ww;have Qb:(st++[vv,ww])[b+(f+1)]?=some ww:=show (st++[vv,ww])[b+f+1]?=some ww from hb▸Xz st vv ww;refine U.tick t1 (.go (fun f=>.eU t2 (l2▸hl.q (by decide)) rfl OS) (.go (fun f=>.eU t3 ?_ rfl (bD Qb)) (.go (st':=st++[vv,ww]++[b2i (pf up vv ww)]) (fun f=>.fH t4 ?_ (l2▸hl.q (by decide)) ?_) (U.gE t5 (fun hv=>?_) fun hv=>?_))))
  ·rw [Ac,l2]; exact hl.q (m:=3) (by decide)
  ·cases up<;>rfl
  ·cases up<;>rfl
  ·have Qp:pf up vv ww=false:=by
    revert hv;cases pf up vv ww with
    | false=>exact fun _=>rfl
    | true=>intro h; cases h
   have g:=g2 Qp;rw [← u2];have last:=U.gE (v:=vv) e7 (fun _=>g) fun _=>g;exact U.gE e6 (fun _=>last) fun _=>last
  ·have Qp:pf up vv ww=true:=by
    revert hv;cases pf up vv ww with
    | true=>exact fun _=>rfl
    | false=>exact fun h=>absurd rfl h
   refine U.Br h1 fw (Nat.le_of_lt_succ (Ao (l2▸Aa (Af _ _) (Ad hl)) (by decide))) ((g1 Qp).mono fun i g=>?_);refine .go (fun f=>.eU s1 ?_ rfl (bD OS)) (.go (fun f=>.oQ s2 (l2▸g.1)) g.2);rw [Ac,l2]; exact hl.q (m:=3) (by decide)
 ·have l2:=yM st vv ww;have OS:(st++[vv,ww])[b+f]?=some vv:=hb▸UW st vv ww;refine .go (fun f=>.eU e1 (l2▸hl.q (by decide)) rfl OS) (.go (fun f=>.lit e2 ?_) (.go (fun f=>.fH (v:=HW up vv) e3 ?_ (l2▸hl.q (by decide)) ?_) (.go (fun _=>.x6 e4 (a:=f) rfl ?_) (.go (fun f=>.jmp e5) ?_))))
  ·rw [Ac,l2]; exact hl.q (m:=3) (by decide)
  ·cases up<;>rfl
  ·cases up<;>rfl
  ·rw [l2,← hb]; exact Nat.lt_add_of_pos_right (by decide)
  ·rw [← hb,Dg]; exact g
theorem mH:∀ (vs:List Bool) (es:List Ex) (as:List Int),gR sc st b vs es=.ok as->as.length=es.length
 | v::vs,e::es,as,h=>by
  obtain ⟨x,h1,h2⟩:=R.ao h; obtain ⟨r,h3,h4⟩:=R.ao h2;cases h4;exact congrArg Nat.succ (mH vs es r h3)
 | [],[],as,h=>by cases h; rfl
 | [],_::_,as,h=>by cases h
 | _::_,[],as,h=>by cases h
theorem U.args:∀ (vs:List Bool) (es:List Ex) (tmp:List Int) (c:List In) (pc m:Nat),(∀ e∈es,e.wf=true)->gj sc vs es=.ok c->Fg code pc c m->Rm (st++tmp).length (GP es)->
  Go (gR sc st b vs es) (fun as=>U code (st++tmp++as) b m o t res) res->U code (st++tmp) b pc o t res
 | v::vs,e::es,tmp,c,pc,m,hw,hc,hf,hl,g=>by
  obtain ⟨c1,h1,h2⟩:=R.ao hc; obtain ⟨c2,h3,h4⟩:=R.ao h2;cases h4;obtain ⟨m',f1,f2⟩:=hf.app;have rest:∀ x:Int,Go ((gR sc st b vs es).bind fun r=>.ok (x::r)) (fun as=>U code (st++tmp++as) b m o t res) res->U code (st++tmp++[x]) b m' o t res:=by
   intro x g;rw [Ae];refine U.args vs es (tmp++[x]) c2 _ m (fun e he=>hw e (List.mem_cons_of_mem _ he)) h3 f2 ?_ (g.bind.mono fun r g=>?_)
   ·rw [← Ae];exact Rm.push (Aa (Ak (Aa (Ak e.Iq _) (Nat.le_of_eq (Nat.add_comm _ _))) _) hl)
   ·have g:U code (st++tmp++([x]++r)) b m o t res:=g;rw [← Ae,Ae st] at g; exact g
  have T1:=hw e (List.Mem.head _);cases v with
  | false=>exact U.val T1 h1 f1 hl.l (g.bind.mono rest)
  | true=>
   cases e with
   | name x=>exact U.GK h1 f1 (Aa (Af _ _) hl) (g.bind.bind.mono fun i=>rest _)
   | «at» x e=>exact U.GL (e:=e) T1 h1 f1 (Rm.l (a:=e.sz+3) (b:=1) hl.l) (g.bind.bind.mono fun i=>rest _)
   | int n=>cases h1
   | neg e=>cases h1
   | odd e=>cases h1
   | bin o a b=>cases h1
 | [],[],tmp,c,pc,m,hw,hc,hf,hl,g=>by
  cases hc;cases hf;have g:U code (st++tmp++[]) b pc o t res:=g;rw [az] at g; exact g
 | [],_::_,tmp,c,pc,m,hw,hc,hf,hl,g=>by cases hc
 | _::_,[],tmp,c,pc,m,hw,hc,hf,hl,g=>by cases hc
theorem At.call {x:Tx}{es:List Ex}{l a:Nat}{q:List (Tx×Bool)}(h:At code sc f p (.call x es) p')(hx:findS x sc 0=some (l,.proc a q))(hw:∀ e∈es,e.wf=true)(hl:Rs st.length (GP es))
  (g:Go (gR sc st b (q.map (·.2)) es) (fun as=>∃ link,frameOf st l b=some link∧U code (st++[(link:Int),(b:Int),(p':Int)]++as) st.length a o t res) res):U code st b p o (t+1) res:=by
 obtain ⟨c,hc,hf⟩:=h;have hc:(match findS x sc 0 with
  | some (l,.proc a q)=>(match Nat.beq q.length es.length with
   | true=>(gj sc (q.map (·.2)) es).bind fun c=>.ok (c++[.tick,.uJ l a es.length])
   | false=>.err)
  | _=>.err:R (List In))=.ok c:=hc
 rw [hx] at hc;revert hc;show (match Nat.beq q.length es.length with
   | true=>(gj sc (q.map (·.2)) es).bind fun c=>.ok (c++[.tick,.uJ l a es.length])
   | false=>.err:R (List In))=.ok c->_
 cases Nat.beq q.length es.length with
 | false=>intro hc; cases hc
 | true=>
  intro hc;obtain ⟨c1,h1,h2⟩:=R.ao hc;cases h2;obtain ⟨m,f1,f2,f3,rfl⟩:=hf.app;have:=U.args (code:=code) (st:=st) (b:=b) (o:=o) (t:=t+1) (res:=res) (q.map (·.2)) es [] c1 p m hw h1 f1;rw [az] at this;refine this (hl.of (Af _ _)) ?_;revert g;cases he:gR sc st b (q.map (·.2)) es with
  | bot=>exact id
  | err=>exact id
  | ok as=>
   rintro ⟨link,g1,g2⟩;have la:=mH _ _ _ he;refine U.tick f2 fun f=>.step (.uJ f3 la ?_ (cy g1)) (g2 f);rw [Ac,la];exact Aa (Ak (Aa (pP es) (Af _ _)) _) (Aa (Ad hl) (by decide))
theorem mh {q:List (Tx×Bool)}{vs:List (Tx×Option Nat)}{ps:Bl}{ss:St}{c:List In}(h:dJ sc p q (.mk vs ps ss)=.ok c)(hf:Frag code p c) :
  ∃ w cs pb pe,eK (cW [] 3 q).1 (cW [] 3 q).2 vs=.ok w∧bU sc w.1 (p+1) ps=.ok cs∧Frag code (p+1) cs.1∧At code (cs.2::sc) w.2 pb ss pe∧code[pe]?=some .ret∧
   ∀ {st:List Int} {b:Nat} {o:List Int} {t:Nat} {res:Option (List Int)},st.length+(w.2-(cW [] 3 q).2)<=900000->U code (st++List.replicate (w.2-(cW [] 3 q).2) 0) b pb o t res->U code st b p o t res:=by
 have h:(match dN [] (cF q++cF vs++ps.names) with
  | false=>.err
  | true=>(eK (cW [] 3 q).1 (cW [] 3 q).2 vs).bind fun w=>
   (bU sc w.1 (p+1) ps).bind fun c=>
   (bk (c.2::sc) w.2 (p+1+c.1.length+(d7 (w.2-(cW [] 3 q).2)).length) ss).bind fun d=>R.ok ([In.jmp (p+1+c.1.length)]++c.1++d7 (w.2-(cW [] 3 q).2)++d++[.ret]):R (List In))=.ok c:=h
 revert h;cases dN [] (cF q++cF vs++ps.names) with
 | false=>intro h; cases h
 | true=>
  intro h;obtain ⟨w,h1,h2⟩:=R.ao h; obtain ⟨d,h3,h4⟩:=R.ao h2; obtain ⟨e,h5,h6⟩:=R.ao h4;cases h6;obtain ⟨fj,fa⟩:=hf.fg.r4.o;obtain ⟨fd,fb⟩:=fa.ap;obtain ⟨fi,fc⟩:=fb.ap;obtain ⟨fe,fr,_⟩:=fc.ap;clear hf h h2 h4 fa fb fc;refine ⟨w,d,_,_,h1,h3,fd.fr.1,⟨e,h5,fe⟩,fr,fun {st b o t res} hl g=>.go (fun f=>.jmp fj) ?_⟩;revert g fi hl;generalize w.2-(cW [] 3 q).2=n;cases n with
  | zero=>intro fi hl g; rw [show List.replicate 0 (0:Int)=[] from rfl,az] at g; exact g
  | succ n=>exact fun fi hl g=>.go (fun f=>.int fi.1 hl) g
end
noncomputable def okN (sc:List Scope)(x:Tx):Bool:=match findS x sc 0 with
 | some (_,.var _)=>true
 | some (_,.ref _)=>true
 | _=>false
noncomputable def Li (sc:List Scope)(x:Tx):Bool:=match findS x sc 0 with
 | some (_,.arr _ _)=>true
 | _=>false
noncomputable def nh (sc:List Scope):Ex->Bool
 | .int _=>true
 | .name x=>okN sc x
 | .at x e=>Li sc x&&nh sc e
 | .neg e=>nh sc e
 | .odd e=>nh sc e
 | .bin _ a b=>nh sc a&&nh sc b
noncomputable def TC (sc:List Scope):Ex->Bool
 | .name x=>okN sc x
 | .at x e=>Li sc x&&nh sc e
 | _=>false
noncomputable def lM (sc:List Scope):List Bool->List Ex->Bool
 | v::vs,e::es=>(match v with
  | true=>TC sc e
  | false=>nh sc e)&&lM sc vs es
 | [],[]=>true
 | _,_=>false
noncomputable def hU (sc:List Scope):St->Bool
 | .empty=>true
 | .set x e=>okN sc x&&nh sc e
 | .setAt x i e=>Li sc x&&nh sc i&&nh sc e
 | .call x as=>(match findS x sc 0 with
  | some (_,.proc _ q)=>Nat.beq q.length as.length&&lM sc (q.map (·.2)) as
  | _=>false)
 | .if1 c a=>nh sc c&&hU sc a
 | .if2 c a b=>nh sc c&&(hU sc a&&hU sc b)
 | .gf c a=>nh sc c&&hU sc a
 | .rep s c=>hU sc s&&nh sc c
 | .for x a b _ s=>okN sc x&&(nh sc a&&(nh sc b&&hU sc s))
 | .nk s=>hU sc s
 | .write e=>nh sc e
 | .one s=>hU sc s
 | .seq s r=>hU sc s&&hU sc r
def gy {α:Type}(b:Bool)(m:R α):Prop:=match b with
 | true=>∃ a,m=.ok a
 | false=>m=.err
theorem gy.bind {α β:Type}{a b:Bool}{m:R α}{f:α->R β}(h:gy a m)(hf:∀ x,gy b (f x)):gy (a&&b) (m.bind f):=by
 cases a with
 | false=>have h:m=.err:=h; subst h; exact (rfl:R.err=R.err)
 | true=>obtain ⟨x,rfl⟩:=h; exact hf x
theorem gy.map {α β:Type}{a:Bool}{m:R α}{f:α->β}(h:gy a m):gy a (m.bind fun x=>.ok (f x)):=by
 cases a with
 | false=>have h:m=.err:=h; subst h; exact (rfl:R.err=R.err)
 | true=>obtain ⟨x,rfl⟩:=h; exact ⟨f x,rfl⟩
theorem pw (sc:List Scope)(x:Tx):gy (okN sc x) (lE sc x)∧gy (okN sc x) (cN sc x):=by
 unfold okN lE cN;rcases findS x sc 0 with _ | ⟨l,a | a | ⟨a,z⟩ | ⟨a,q⟩⟩<;>first | exact ⟨rfl,rfl⟩ | exact ⟨⟨_,rfl⟩,⟨_,rfl⟩⟩
theorem pR {sc:List Scope}{x:Tx}{i:R (List In)}{b:Bool}(h:gy b i):gy (Li sc x&&b) (yC sc x i):=by
 unfold Li yC;rcases findS x sc 0 with _ | ⟨l,a | a | ⟨a,z⟩ | ⟨a,q⟩⟩<;>first | exact (rfl:R.err=R.err) | exact h.map
theorem dC (sc:List Scope):∀ e:Ex,gy (nh sc e) (cK sc e):=by
 intro e
 induction e with
 | int n=>exact ⟨_,rfl⟩
 | name x=>exact (pw sc x).1
 | «at» x e ih=>exact (pR ih).map
 | neg e ih=>exact ih.map
 | odd e ih=>exact ih.map
 | bin o a b fT iA=>exact fT.bind fun c=>iA.map
theorem IF (sc:List Scope):∀ e:Ex,gy (TC sc e) (zC sc e):=by
 intro e;cases e with
 | name x=>exact (pw sc x).2
 | «at» x e=>exact pR (dC sc e)
 | _=>exact (rfl:R.err=R.err)
theorem jQ (sc:List Scope):∀ (vs:List Bool) (es:List Ex),gy (lM sc vs es) (gj sc vs es)
 | true::vs,e::es=>(IF sc e).bind fun c=>(jQ sc vs es).map
 | false::vs,e::es=>(dC sc e).bind fun c=>(jQ sc vs es).map
 | [],[]=>⟨_,rfl⟩
 | [],_::_=>(rfl:R.err=R.err)
 | _::_,[]=>(rfl:R.err=R.err)
theorem xb (sc:List Scope)(x:Tx)(as:List Ex)(f p:Nat):gy (hU sc (.call x as)) (bk sc f p (.call x as)):=by
 show gy (match findS x sc 0 with
  | some (_,.proc _ q)=>Nat.beq q.length as.length&&lM sc (q.map (·.2)) as
  | _=>false) (match findS x sc 0 with
  | some (l,.proc a q)=>(match Nat.beq q.length as.length with
   | true=>(gj sc (q.map (·.2)) as).bind fun c=>.ok (c++[.tick,.uJ l a as.length])
   | false=>.err)
  | _=>.err:R (List In))
 rcases findS x sc 0 with _ | ⟨l,a | a | ⟨a,z⟩ | ⟨a,q⟩⟩<;>first | exact (rfl:R.err=R.err) | skip
 show gy (Nat.beq q.length as.length&&lM sc (q.map (·.2)) as) (match Nat.beq q.length as.length with
   | true=>(gj sc (q.map (·.2)) as).bind fun c=>.ok (c++[.tick,.uJ l a as.length])
   | false=>.err:R (List In))
 cases Nat.beq q.length as.length with
 | true=>exact (jQ sc _ _).map
 | false=>exact (rfl:R.err=R.err)
theorem dD (sc:List Scope):∀ (s:St) (f p:Nat),gy (hU sc s) (bk sc f p s)
 | .empty,f,p=>⟨_,rfl⟩
 | .set x e,f,p=>(pw sc x).2.bind fun c=>(dC sc e).map
 | .setAt x i e,f,p=>(pR (dC sc i)).bind fun c=>(dC sc e).map
 | .call x as,f,p=>xb sc x as f p
 | .if1 c a,f,p=>(dC sc c).bind fun v=>(dD sc a _ _).map
 | .if2 c a b,f,p=>(dC sc c).bind fun v=>(dD sc a _ _).bind fun s=>(dD sc b _ _).map
 | .gf c a,f,p=>(dC sc c).bind fun v=>(dD sc a _ _).map
 | .rep s c,f,p=>(dD sc s _ _).bind fun v=>(dC sc c).map
 | .for x a b up s,f,p=>(pw sc x).2.bind fun w=>(dC sc a).bind fun u=>(dC sc b).bind fun v=>(dD sc s _ _).map
 | .nk s,f,p=>dD sc s f p
 | .write e,f,p=>(dC sc e).map
 | .one s,f,p=>dD sc s f p
 | .seq s r,f,p=>(dD sc s _ _).bind fun c=>(dD sc r _ _).map
noncomputable def Lr {α:Type}(z:List Tok):R (α×List Tok)->R (α×List Tok)->Prop
 | .ok q,m=>m=.ok (q.1,q.2++z)
 | .err,m=>m=.err
 | .bot,_=>True
def Loc {α:Type}(p:List Tok->R (α×List Tok)):Prop:=∀ ts z,Lr z (p ts) (p (ts++z))
section
variable {α β:Type}{z:List Tok}{w:Tx}{ts:List Tok}
theorem Lr.ok {a:α}{r:List Tok}:Lr z (.ok (a,r)) (.ok (a,r++z)):=rfl
theorem Lr.bind {m m':R (α×List Tok)}{F:α×List Tok->R (β×List Tok)}(h:Lr z m m')(hf:∀ a r,Lr z (F (a,r)) (F (a,r++z))):Lr z (m.bind F) (m'.bind F):=by
 cases m with
 | ok q=>have h:m'=.ok (q.1,q.2++z):=h; subst h; exact hf q.1 q.2
 | err=>have h:m'=.err:=h; subst h; exact (rfl:R.err=R.err)
 | bot=>trivial
theorem Lr.got {yes:List Tok->R (α×List Tok)}{no PI:R (α×List Tok)}(hy:∀ r,Lr z (yes r) (yes (r++z)))(hn:Lr z no PI):Lr z (cR w ts yes no) (cR w (ts++z) yes PI):=by
 cases ts with
 | nil=>trivial
 | cons k ts=>
  show Lr z (match k.is w with
   | true=>yes ts
   | false=>no) (match k.is w with
   | true=>yes (ts++z)
   | false=>PI)
  cases k.is w with
  | true=>exact hy ts
  | false=>exact hn
theorem Lr.want {next:List Tok->R (α×List Tok)}(hy:∀ r,Lr z (next r) (next (r++z))):Lr z (aJ w ts next) (aJ w (ts++z) next):=by
 cases ts with
 | nil=>trivial
 | cons k ts=>
  show Lr z (match k.is w with
   | true=>next ts
   | false=>.err) (match k.is w with
   | true=>next (ts++z)
   | false=>.err)
  cases k.is w with
  | true=>exact hy ts
  | false=>exact (rfl:R.err=R.err)
theorem Lr.name {next:Tx->List Tok->R (α×List Tok)}(hn:∀ x r,Lr z (next x r) (next x (r++z))):Lr z (fL ts next) (fL (ts++z) next):=by
 rcases ts with _ | ⟨_ | _ | _ | _,ts⟩<;>first | exact hn _ ts | exact (rfl:R.err=R.err) | trivial
theorem Lr.int {next:Nat->List Tok->R (α×List Tok)}(hn:∀ x r,Lr z (next x r) (next x (r++z))):Lr z (Di ts next) (Di (ts++z) next):=by
 rcases ts with _ | ⟨_ | _ | _ | _,ts⟩<;>first | exact hn _ ts | exact (rfl:R.err=R.err) | trivial
theorem Lr.word {next:Tx->List Tok->R (α×List Tok)}(hn:∀ x r,Lr z (next x r) (next x (r++z))):Lr z (uR ts next) (uR (ts++z) next):=by
 rcases ts with _ | ⟨_ | _ | _ | _,ts⟩<;>first | exact hn _ ts | exact (rfl:R.err=R.err) | trivial
end
theorem md {p:Tx->Bool}{sub:List Tok->PE}(hs:Loc sub):∀ (g:Nat) (e:Ex),Loc (dM p sub g e)
 | 0,e,ts,z=>trivial
 | g+1,e,[],z=>trivial
 | g+1,e,.word w::ts,z=>by
  show Lr z (match p w with
   | true=>(sub ts).bind fun q=>dM p sub g (.bin w e q.1) q.2
   | false=>.ok (e,.word w::ts)) (match p w with
   | true=>(sub (ts++z)).bind fun q=>dM p sub g (.bin w e q.1) q.2
   | false=>.ok (e,.word w::ts++z))
  cases p w with
  | true=>exact .bind (hs ts z) fun a r=>md hs g (.bin w e a) r z
  | false=>exact rfl
 | g+1,e,.name w::ts,z=>rfl
 | g+1,e,.int w::ts,z=>rfl
 | g+1,e,.fin::ts,z=>rfl
theorem rM {nj:List Tok->PE}(hf:Loc nj):Loc (iD nj):=fun ts z=>.bind (hf ts z) fun a r=>md hf aY a r z
theorem jW {nj:List Tok->PE}(hf:Loc nj):Loc (jG nj):=fun ts z=>.bind (rM hf ts z) fun a r=>md (rM hf) aY a r z
theorem fZ:∀ d,Loc (de d)
 | 0,ts,z=>trivial
 | d+1,ts,z=>.got (fun r=>.bind (fZ d r z) fun a r=>.ok) (.got (fun r=>.bind (jW (fZ d) r z) fun a r=>.want fun r=>.ok) (by
   rcases ts with _ | ⟨_ | x | _ | _,ts⟩<;>first | exact (rfl:R.err=R.err) | exact rfl | trivial | exact .got (fun r=>.bind (jW (fZ d) r z) fun a r=>.want fun r=>.ok) .ok))
theorem cu:Loc cT:=jW (fZ dE)
theorem mf:Loc qU:=fun ts z=>.got (fun r=>.want fun r=>.bind (cu r z) fun a r=>.want fun r=>.ok) (.bind (cu ts z) fun a r=>.word fun s r=>by
 show Lr z (match lB s with
  | true=>(cT r).bind fun b=>.ok (Ex.bin s a b.1,b.2)
  | false=>.err) (match lB s with
  | true=>(cT (r++z)).bind fun b=>.ok (Ex.bin s a b.1,b.2)
  | false=>.err)
 cases lB s with
 | true=>exact .bind (cu r z) fun b r=>.ok
 | false=>exact (rfl:R.err=R.err))
theorem rN {st:List Tok->PT}(hs:Loc st):∀ g,Loc (cH st g)
 | 0,ts,z=>trivial
 | g+1,ts,z=>.got (fun r=>.bind (hs r z) fun s r=>.bind (rN hs g r z) fun q r=>.ok) .ok
theorem qb {st:List Tok->PT}(hs:Loc st):Loc (yI st):=fun ts z=>.bind (hs ts z) fun s r=>.bind (rN hs aY r z) fun q r=>.ok
theorem oH:∀ g,Loc (jH g)
 | 0,ts,z=>trivial
 | g+1,ts,z=>.got (fun r=>.bind (cu r z) fun s r=>.bind (oH g r z) fun q r=>.ok) .ok
theorem BV:Loc zf:=fun ts z=>.got (fun r=>.bind (cu r z) fun e r=>.bind (oH aY r z) fun q r=>.want fun r=>.ok) .ok
theorem mF {st:List Tok->PT}(hs:Loc st)(x:Tx)(a:Ex)(up:Bool):Loc (p9 st x a up):=fun ts z=>.bind (cu ts z) fun b r=>.want fun r=>.bind (hs r z) fun s r=>.ok
theorem mc:∀ d,Loc (bj d)
 | 0,ts,z=>trivial
 | d+1,ts,z=>by
  have ih:=mc d;refine .got (fun r=>.bind (mf r z) fun c r=>.want fun r=>.bind (ih r z) fun a r=>.got (fun r=>.bind (ih r z) fun b r=>.ok) .ok) ?_;refine .got (fun r=>.bind (mf r z) fun c r=>.want fun r=>.bind (ih r z) fun a r=>.ok) ?_;refine .got (fun r=>.bind (qb ih r z) fun s r=>.want fun r=>.bind (mf r z) fun c r=>.ok) ?_;refine .got (fun r=>.name fun x r=>.want fun r=>.bind (cu r z) fun a r=>.got (fun r=>mF ih x a true r z) (.want fun r=>mF ih x a false r z)) ?_;refine .got (fun r=>.bind (qb ih r z) fun s r=>.want fun r=>.ok) ?_;refine .got (fun r=>.want fun r=>.bind (cu r z) fun e r=>.want fun r=>.ok) ?_;rcases ts with _ | ⟨_ | x | _ | _,ts⟩<;>first | exact rfl | trivial | exact .got (fun r=>.bind (cu r z) fun e r=>.ok) (.got (fun r=>.bind (cu r z) fun i r=>.want fun r=>.want fun r=>.bind (cu r z) fun e r=>.ok) (.bind (BV ts z) fun q r=>.ok))
theorem xr:Loc iO:=qb (mc dS)
theorem mE:∀ g,Loc (kU g)
 | 0,ts,z=>trivial
 | g+1,ts,z=>.got (fun r=>.name fun x r=>.bind (mE g r z) fun q r=>.ok) .ok
theorem oG (xs:List Tx)(n:Option Nat):Loc (lL xs n):=fun ts z=>.want fun r=>.want fun r=>.ok
theorem BU:Loc F7:=fun ts z=>.name fun x r=>.bind (mE aY r z) fun q r=>.want fun r=>.got (fun r=>.want fun r=>.int fun n r=>.want fun r=>.want fun r=>oG (x::q) (some n) r z) (oG (x::q) Option.none r z)
theorem ma:∀ g,Loc (gh g)
 | 0,ts,z=>trivial
 | g+1,ts,z=>.bind (BU ts z) fun v r=>by
  rcases r with _ | ⟨_ | x | _ | _,r⟩<;>first | exact rfl | trivial | exact .bind (ma g (.name x::r) z) fun q r=>.ok
theorem iV:∀ g,Loc (ja g)
 | 0,ts,z=>trivial
 | g+1,ts,z=>.got (fun r=>.name fun x r=>.got (fun r=>.bind (iV g r z) fun q r=>.ok) .ok) (.name fun x r=>.got (fun r=>.bind (iV g r z) fun q r=>.ok) .ok)
theorem oF {jt:List Tok->PB}(hb:Loc jt)(x:Tx)(ps:List (Tx×Bool)):Loc (lK jt x ps):=fun ts z=>.want fun r=>.bind (hb r z) fun b r=>.want fun r=>.ok
theorem jV {jt:List Tok->PB}(hb:Loc jt):∀ g,Loc (dG jt g)
 | 0,ts,z=>trivial
 | g+1,ts,z=>.got (fun r=>.name fun x r=>.bind (.got (fun r=>.bind (iV aY r z) fun q r=>.want fun r=>oF hb x q r z) (oF hb x [] r z)) fun p r=>.bind (jV hb g r z) fun q r=>.ok) .ok
theorem mG {jt:List Tok->PB}(hb:Loc jt)(vs:List (Tx×Option Nat)):Loc (kW jt vs):=fun ts z=>.bind (jV hb aY ts z) fun p r=>.want fun r=>.bind (xr r z) fun s r=>.want fun r=>.ok
theorem iy:∀ d,Loc (dH d)
 | 0,ts,z=>trivial
 | d+1,ts,z=>.got (fun r=>.bind (ma aY r z) fun v r=>mG (iy d) v r z) (mG (iy d) [] ts z)
def bC (l:Tx)(ts:List Tok):Prop:=∀ g,l.length<g->gI g l=.ok ts
def aT (l:Tx):Prop:=∀ g,l.length<g->gI g l=.err
noncomputable def oc:Option Tok->List Tok->List Tok
 | Option.none,ts=>ts
 | some k,ts=>k::ts
theorem dropWhile_len {p:Nat->Bool}:∀ l:Tx,(l.dropWhile p).length<=l.length
 | []=>Aj _
 | a::l=>by
  rw [List.dropWhile_cons];cases p a with
  | true=>exact Nat.le_succ_of_le (dropWhile_len l)
  | false=>exact Aj _
theorem hM {p:Nat->Bool}{c:Nat}(l:Tx)(h:p c=true):((c::l).dropWhile p).length<=l.length:=by
 rw [List.dropWhile_cons,h]; exact dropWhile_len l
theorem mJ (c:Nat):∀ (l l':Tx),behind c l=some l'->l'.length<=l.length
 | [],l',h=>by cases h
 | d::l,l',h=>by
  have h:(match Nat.beq d c with
   | true=>some l
   | false=>behind c l)=some l':=h
  revert h;cases Nat.beq d c with
  | true=>intro h; cases h; exact Nat.le_succ _
  | false=>intro h; exact Nat.le_succ_of_le (mJ c l l' h)
def Lc (l:Tx)(m:R (Option Tok×Tx))(m':Tx->R (Option Tok×Tx)):Prop:=match m with
 | .ok q=>q.2.length<=l.length∧∀ v,q.2≠[]->m' v=.ok (q.1,q.2++v)
 | _=>True
theorem lG {p:Nat->Bool}(v:Tx):∀ l:Tx,l.dropWhile p≠[]->(l++v).takeWhile p=l.takeWhile p∧(l++v).dropWhile p=l.dropWhile p++v
 | [],h=>absurd rfl h
 | a::l,h=>by
  rw [List.cons_append,List.takeWhile_cons,List.dropWhile_cons,List.takeWhile_cons,List.dropWhile_cons];rw [List.dropWhile_cons] at h;revert h;cases p a with
  | true=>intro h; exact ⟨congrArg (a::·) (lG v l h).1,(lG v l h).2⟩
  | false=>exact fun _=>⟨rfl,rfl⟩
theorem mK {c:Nat}(v:Tx):∀ (l l':Tx),behind c l=some l'->behind c (l++v)=some (l'++v)
 | [],l',h=>by cases h
 | d::l,l',h=>by
  have h:(match Nat.beq d c with
   | true=>some l
   | false=>behind c l)=some l':=h
  show (match Nat.beq d c with
   | true=>some (l++v)
   | false=>behind c (l++v))=some (l'++v)
  revert h;cases Nat.beq d c with
  | true=>intro h; cases h; rfl
  | false=>exact mK v l l'
theorem BZ {c:Nat}(l:Tx)(hc:aI c=true):Lc l (lu c l) fun v=>lu c (l++v):=by
 have hl:=hM l hc;have hx:=fun v=>lG (p:=aI) v (c::l);have e:lu c l=(match d0 ((c::l).dropWhile aI) with
  | true=>.err
  | false=>match Nat.ble ((c::l).takeWhile aI).length 600 with
   | true=>.ok (some (.int (fC ((c::l).takeWhile aI))),(c::l).dropWhile aI)
   | false=>.bot):=rfl
 have e':∀ v,lu c (l++v)=(match d0 ((c::l++v).dropWhile aI) with
  | true=>.err
  | false=>match Nat.ble ((c::l++v).takeWhile aI).length 600 with
   | true=>.ok (some (.int (fC ((c::l++v).takeWhile aI))),(c::l++v).dropWhile aI)
   | false=>.bot):=fun v=>rfl
 rw [e];cases h1:d0 ((c::l).dropWhile aI) with
 | true=>trivial
 | false=>
  cases h2:Nat.ble ((c::l).takeWhile aI).length 600 with
  | false=>trivial
  | true=>
   refine ⟨hl,fun v hv=>?_⟩;have hv:(c::l).dropWhile aI≠[]:=hv;show lu c (l++v)=_;rw [e',(hx v hv).1,(hx v hv).2,h2];revert h1 hv;cases (c::l).dropWhile aI with
   | nil=>exact fun _ h=>absurd rfl h
   | cons a r=>intro h _; rw [show d0 (a::r++v)=false from h]
theorem BY (c:Nat):∀ l:Tx,Lc l (lk c l) fun v=>lk c (l++v)
 | []=>by
  show Lc [] (match aG [c] pairs with
   | true=>.ok (some (.word [c]),[])
   | false=>match bH c signs with
    | true=>.ok (some (.word [c]),[])
    | false=>.err) _
  cases aG [c] pairs with
  | true=>exact ⟨Aj _,fun v h=>absurd rfl h⟩
  | false=>cases bH c signs with
   | true=>exact ⟨Aj _,fun v h=>absurd rfl h⟩
   | false=>trivial
 | d::l=>by
  have e:∀ l,lk c (d::l)=(match aG [c,d] pairs with
   | true=>.ok (some (.word [c,d]),l)
   | false=>match bH c signs with
    | true=>.ok (some (.word [c]),d::l)
    | false=>.err):=fun l=>rfl
  show Lc (d::l) (lk c (d::l)) fun v=>lk c (d::(l++v));simp only [e];cases aG [c,d] pairs with
  | true=>exact ⟨Nat.le_succ _,fun v h=>rfl⟩
  | false=>cases bH c signs with
   | true=>exact ⟨Aj _,fun v h=>rfl⟩
   | false=>trivial
theorem BX {c:Nat}(l:Tx)(hc:dO c=true):Lc l (wK (((c::l).takeWhile dO).map o8) ((c::l).dropWhile dO)) fun v=>wK (((c::l++v).takeWhile dO).map o8) ((c::l++v).dropWhile dO):=
 ⟨hM l hc,fun v hv=>by
  show wK (((c::l++v).takeWhile dO).map o8) ((c::l++v).dropWhile dO)=_;rw [(lG v (c::l) hv).1,(lG v (c::l) hv).2]; rfl⟩
theorem B0 (c:Nat)(l:Tx):Lc l (cX c l) fun v=>cX c (l++v):=by
 have e:∀ l,cX c l=(match bH c [32,10] with
  | true=>.ok (Option.none,l)
  | false=>match Nat.beq c 123 with
  | true=>(match behind 125 l with
   | Option.none=>.err
   | some l'=>.ok (Option.none,l'))
  | false=>match cP c with
  | true=>wK (((c::l).takeWhile dO).map o8) ((c::l).dropWhile dO)
  | false=>match aI c with
  | true=>lu c l
  | false=>lk c l):=fun l=>rfl
 simp only [e];cases bH c [32,10] with
 | true=>exact ⟨Aj _,fun v h=>rfl⟩
 | false=>
 cases Nat.beq c 123 with
 | true=>
  cases hb:behind 125 l with
  | none=>trivial
  | some r=>exact ⟨mJ _ _ _ hb,fun v h=>by
   show (match behind 125 (l++v) with
    | Option.none=>.err
    | some l'=>.ok (Option.none,l'):R (Option Tok×Tx))=_
   rw [mK v l r hb]⟩
 | false=>
 cases h3:cP c with
 | true=>exact BX l (by unfold dO; rw [h3]; rfl)
 | false=>
 cases h4:aI c with
 | true=>exact BZ l h4
 | false=>exact BY c l
theorem tL {c:Nat}{l:Tx}{q:Option Tok×Tx}(h:cX c l=.ok q):q.2.length<=l.length∧∀ v,q.2≠[]->cX c (l++v)=.ok (q.1,q.2++v):=by
 have:=B0 c l;rw [h] at this; exact this
theorem bC.step {c:Nat}{l:Tx}{k:Option Tok}{l':Tx}{ts:List Tok}(h:cX c l=.ok (k,l'))(h':bC l' ts):bC (c::l) (oc k ts)
 | 0,hg=>absurd hg (Nat.not_lt_zero _)
 | g+1,hg=>by
  show (cX c l).bind _=_;rw [h];show (gI g l').bind _=_;rw [h' g (Ao (tL h).1 (Nat.lt_of_succ_lt_succ hg))];cases k<;>rfl
theorem aT.step {c:Nat}{l:Tx}{k:Option Tok}{l':Tx}(h:cX c l=.ok (k,l'))(h':aT l'):aT (c::l)
 | 0,hg=>absurd hg (Nat.not_lt_zero _)
 | g+1,hg=>by
  show (cX c l).bind _=_;rw [h];show (gI g l').bind _=_;rw [h' g (Ao (tL h).1 (Nat.lt_of_succ_lt_succ hg))];rfl
theorem aT.err {c:Nat}{l:Tx}(h:cX c l=.err):aT (c::l)
 | 0,hg=>absurd hg (Nat.not_lt_zero _)
 | g+1,hg=>by
  show (cX c l).bind _=_;rw [h]; rfl
noncomputable def eM (s:Nat):Nat->Tx->R (List Tok)
 | g+1,c::l=>match l with
  | []=>(match Nat.beq c s with
   | true=>.ok []
   | false=>.bot)
  | _::_=>(cX c l).bind fun q=>(eM s g q.2).bind fun ts=>.ok (oc q.1 ts)
 | _,_=>.bot
theorem Fd {a b:Nat}(h:Nat.beq a b=true):a=b:=As h
theorem IW (k:Option Tok)(a b:List Tok):oc k a++b=oc k (a++b):=by cases k<;>rfl
theorem dW {s:Nat}{v:Tx}:∀ (g:Nat) (t:Tx) (ts:List Tok),eM s g t=.ok ts->(∀ us,bC (s::v) us->bC (t++v) (ts++us))∧(aT (s::v)->aT (t++v))
 | 0,t,ts,h=>by cases t<;>cases h
 | g+1,[],ts,h=>by cases h
 | g+1,[c],ts,h=>by
  have h:(match Nat.beq c s with
   | true=>.ok []
   | false=>.bot)=R.ok ts:=h
  revert h;cases hb:Nat.beq c s with
  | false=>intro h; cases h
  | true=>intro h; cases h; rw [Fd hb]; exact ⟨fun us h=>h,fun h=>h⟩
 | g+1,c::d::l,ts,h=>by
  obtain ⟨q,h1,h2⟩:=R.ao (show (cX c (d::l)).bind _=.ok ts from h); obtain ⟨t2,h3,h4⟩:=R.ao h2;cases h4;have hn:q.2≠[]:=fun e=>by rw [e] at h3; cases g<;>cases h3
  have h5:=(tL h1).2 v hn;obtain ⟨i1,i2⟩:=dW (v:=v) g q.2 t2 h3;refine ⟨fun us hu=>?_,fun hu=>aT.step h5 (i2 hu)⟩;rw [IW];exact bC.step h5 (i1 us hu)
theorem rQ (v:Tx):cX 59 v=.ok (some (.word [59]),v):=by cases v<;>rfl
theorem bC.semi {v:Tx}{ts:List Tok}(h:bC v ts):bC (59::v) (.word [59]::ts):=bC.step (rQ v) h
theorem aT.semi {v:Tx}(h:aT v):aT (59::v):=aT.step (rQ v) h
theorem bC.space {v:Tx}{ts:List Tok}(h:bC v ts):bC (32::v) ts:=bC.step (k:=Option.none) rfl h
theorem aT.space {v:Tx}(h:aT v):aT (32::v):=aT.step (k:=Option.none) rfl h
theorem bC.nil:bC [] []
 | 0,hg=>absurd hg (Nat.not_lt_zero _)
 | g+1,hg=>rfl
theorem vM:∀ (g:Nat) (u:Tx) (ts:List Tok),gI g u=.ok ts->bC u ts
 | 0,u,ts,h=>by cases h
 | g+1,[],ts,h=>by cases h; exact bC.nil
 | g+1,c::l,ts,h=>by
  obtain ⟨⟨k,l'⟩,h1,h2⟩:=R.ao (show (cX c l).bind _=.ok ts from h); obtain ⟨t2,h3,h4⟩:=R.ao h2;have:=bC.step h1 (vM g _ _ h3);cases k<;>(cases h4; exact this)
theorem vL {u:Tx}{ts:List Tok}(h:bC u ts)(hl:u.length<pa):qM u=.ok (ts++[.fin]):=by unfold qM; rw [h pa hl]; rfl
theorem rR {u:Tx}(h:aT u)(hl:u.length<pa):qM u=.err:=by unfold qM; rw [h pa hl]; rfl
noncomputable def RW (h:Nat)(ts:List Tok):R (List St×List Tok):=(bj dS ts).bind fun s=>(cH (bj dS) h s.2).bind fun q=>.ok (s.1::q.1,q.2)
noncomputable def rowOf (q:List St×List Tok):PT:=match q.1 with
 | []=>.bot
 | s::r=>.ok (bV s r,q.2)
theorem xl (ts:List Tok):iO ts=(RW aY ts).bind rowOf:=by
 show (bj dS ts).bind _=((bj dS ts).bind _).bind _;cases bj dS ts with
 | ok s=>
  show (cH (bj dS) aY s.2).bind _=((cH (bj dS) aY s.2).bind _).bind _;cases cH (bj dS) aY s.2<;>rfl
 | err=>rfl
 | bot=>rfl
noncomputable def yH:Nat->List Tok->R (List St)
 | 0,_=>.bot
 | g+1,ts=>(bj dS ts).bind fun q=>match q.2 with
  | []=>.bot
  | k::r=>match k.is bJ with
   | true=>(match r with
    | []=>.ok [q.1]
    | _::_=>(yH g r).bind fun ss=>.ok (q.1::ss))
   | false=>.bot
theorem KO {ts:List Tok}{s:St}{r:List Tok}(h:bj dS ts=.ok (s,r))(z:List Tok)(n:Nat):RW n (ts++z)=(cH (bj dS) n (r++z)).bind fun q=>.ok (s::q.1,q.2):=by
 have e:=mc dS ts z;rw [h] at e;show (bj dS (ts++z)).bind _=_;rw [show bj dS (ts++z)=_ from e]; rfl
theorem pT {k:Tok}(hk:k.is bJ=true)(h:Nat)(r:List Tok):cH (bj dS) (h+1) (k::r)=RW h r:=by
 show (match k.is bJ with
  | true=>RW h r
  | false=>.ok ([],k::r))=_
 rw [hk]
theorem vp:∀ (g:Nat) (ts:List Tok) (ss:List St),yH g ts=.ok ss->∀ n z,RW (n+ss.length) (ts++z)=(RW n z).bind fun q=>.ok (ss++q.1,q.2)
 | 0,ts,ss,h=>by cases h
 | g+1,ts,ss,h=>by
  intro n z;obtain ⟨⟨s,r⟩,h1,h2⟩:=R.ao (show (bj dS ts).bind _=.ok ss from h);rw [KO h1];cases r with
  | nil=>cases h2
  | cons k r=>
   have h2:(match k.is bJ with
    | true=>(match (generalizing:=false) r with
     | []=>.ok [s]
     | _::_=>(yH g r).bind fun ss=>.ok (s::ss))
    | false=>.bot)=R.ok ss:=h2
   cases hw:k.is bJ with
   | false=>rw [hw] at h2; cases h2
   | true=>
    rw [hw] at h2;cases r with
    | nil=>
     cases h2;show (cH (bj dS) (n+1) (k::z)).bind _=_;rw [pT hw];cases RW n z<;>rfl
    | cons k' r=>
     obtain ⟨s2,h3,h4⟩:=R.ao (show (yH g (k'::r)).bind _=R.ok ss from h2);cases h4;have ih:=vp g _ _ h3 n z;show (cH (bj dS) (n+s2.length+1) (k::(k'::r++z))).bind _=_;rw [pT hw,ih];cases RW n z<;>rfl
theorem ow {st:List Tok->PT}:∀ (g:Nat) (ts:List Tok) (q:List St×List Tok),cH st g ts=.ok q->∀ n,cH st (g+n) ts=.ok q
 | 0,ts,q,h=>by cases h
 | g+1,[],q,h=>by cases h
 | g+1,k::ts,q,h=>by
  intro n;rw [Aw];have h:(match k.is bJ with
   | true=>(st ts).bind fun s=>(cH st g s.2).bind fun q=>.ok (s.1::q.1,q.2)
   | false=>.ok ([],k::ts))=R.ok q:=h
  show (match k.is bJ with
   | true=>(st ts).bind fun s=>(cH st (g+n) s.2).bind fun q=>.ok (s.1::q.1,q.2)
   | false=>.ok ([],k::ts))=R.ok q
  revert h;cases k.is bJ with
  | false=>exact id
  | true=>
   intro h;obtain ⟨s,h1,h2⟩:=R.ao (show (st ts).bind _=R.ok q from h); obtain ⟨u,h3,h4⟩:=R.ao h2;show (st ts).bind _=_;rw [h1];show (cH st (g+n) s.2).bind _=_;rw [ow g _ _ h3 n];exact h4
theorem Fp {g:Nat}{ts:List Tok}{q:List St×List Tok}(h:RW g ts=.ok q)(n:Nat):RW (g+n) ts=.ok q:=by
 obtain ⟨s,h1,h2⟩:=R.ao (show (bj dS ts).bind _=.ok q from h); obtain ⟨u,h3,h4⟩:=R.ao h2;show (bj dS ts).bind _=_;rw [h1];show (cH (bj dS) (g+n) s.2).bind _=_;rw [ow g _ _ h3 n];exact h4
noncomputable def fin? {α:Type}(a:α):List Tok->R α
 | []=>.bot
 | .fin::_=>.ok a
 | _::_=>.err
theorem ur {x:Tx}{B B':List Tok}{vs:List (Tx×Option Nat)}{ps:Bl}(h1:gh aY B=.ok (vs,B'))(h2:dG (dH 5) aY B'=.ok (ps,[.word iN]))(z:List Tok) :
  jg (.word wProgram::.name x::.word bJ::.word wz::(B++z))=(iO z).bind fun s=>aJ gF s.2 fun r=>aJ nv r (fin? (x,.mk vs ps s.1)):=by
 have l1:=ma aY B z;have l2:=jV (iy 5) aY B' z;rw [h1] at l1;rw [h2] at l2;show ((gh aY (B++z)).bind _).bind _=_;rw [show gh aY (B++z)=_ from l1];show ((dG (dH 5) aY (B'++z)).bind _).bind _=_;rw [show dG (dH 5) aY (B'++z)=_ from l2];show ((iO z).bind _).bind _=_;cases iO z with
 | ok s=>
  show (aJ gF s.2 _).bind _=aJ gF s.2 _;cases s.2 with
  | nil=>rfl
  | cons k r=>
   show (match k.is gF with
    | true=>.ok (Bl.mk vs ps s.1,r)
    | false=>.err:PB).bind _=(match k.is gF with
    | true=>aJ nv r (fin? (x,Bl.mk vs ps s.1))
    | false=>R.err)
   cases k.is gF<;>rfl
 | err=>rfl
 | bot=>rfl
end Mine.Internal.P
namespace Mine.Internal
noncomputable def Hw:aD:=⟨2,(.cons (.set 2 (.bin .mod (.bi .abs (.cons (.v 0) .nil)) (.bi .abs (.cons (.v 1) .nil)))) (.cons (.ifs (.cmp .lt (.v 0) (.int 0)) (.cons (.ret (.neg (.v 2))) .nil) .nil) (.cons (.ret (.v 2)) .nil)))⟩
noncomputable def Dm:aD:=⟨4,(.cons (.ifs (.cmp .eq (.v 0) (.str [43])) (.cons (.ret (.bin .add (.v 1) (.v 2))) .nil) .nil) (.cons (.ifs (.cmp .eq (.v 0) (.str [45])) (.cons (.ret (.bin .sub (.v 1) (.v 2))) .nil) .nil) (.cons (.ifs (.cmp .eq (.v 0) (.str [42])) (.cons (.ret (.bin .mul (.v 1) (.v 2))) .nil) .nil) (.cons (.ifs (.cmp .eq (.v 2) (.int 0)) (.cons (.expr (.bm (.v 3) .append (.cons (.v 0) .nil))) (.cons (.ret (.int 0)) .nil)) .nil) (.cons (.ifs (.cmp .eq (.v 0) (.str [109,111,100])) (.cons (.ret (.call 27 (.cons (.v 1) (.cons (.v 2) .nil)))) .nil) .nil) (.cons (.ret (.bin .fdiv (.bin .sub (.v 1) (.call 27 (.cons (.v 1) (.cons (.v 2) .nil)))) (.v 2))) .nil))))))⟩
noncomputable def yQ:aD:=⟨9,(.cons (.set 9 (.tuple (.cons (.str [120]) (.cons (.str [121]) (.cons (.str [122]) (.cons (.bin .add (.bin .add (.str [97,91]) (.bi .str (.cons (.bin .sub (.v 7) (.int 1)) .nil))) (.str [93])) (.cons (.str [45,120]) (.cons (.str [40,121,45,120,41]) (.cons (.str [50]) (.cons (.str [45,51]) .nil)))))))))) (.cons (.set 10 (.tuple (.cons (.v 3) (.cons (.v 4) (.cons (.v 5) (.cons (.v 6) (.cons (.neg (.v 3)) (.cons (.bin .sub (.v 4) (.v 3)) (.cons (.int 2) (.cons (.neg (.int 3)) .nil)))))))))) (.cons (.set 11 (.bin .mod (.v 0) (.int 8))) (.cons (.set 12 (.bin .mod (.v 1) (.int 8))) (.cons (.set 13 (.bin .mod (.bin .add (.bin .add (.v 0) (.v 1)) (.v 2)) (.int 8))) (.cons (.set 14 (.idx (.g 3) (.bin .mod (.v 2) (.int 7)))) (.cons (.set 15 (.idx (.g 3) (.bin .mod (.bin .add (.v 0) (.v 2)) (.int 7)))) (.cons (.set 16 (.bm (.str [32]) .join (.cons (.list (.cons (.idx (.v 9) (.v 11)) (.cons (.v 14) (.cons (.idx (.v 9) (.v 12)) (.cons (.v 15) (.cons (.idx (.v 9) (.v 13)) .nil)))))) .nil))) (.cons (.ifs (.all (.cons (.cmp .isin (.v 14) (.tuple (.cons (.str [43]) (.cons (.str [45]) .nil)))) (.cons (.cmp .isin (.v 15) (.tuple (.cons (.str [42]) (.cons (.str [100,105,118]) (.cons (.str [109,111,100]) .nil))))) .nil))) (.cons (.ret (.tuple (.cons (.v 16) (.cons (.call 28 (.cons (.v 14) (.cons (.idx (.v 10) (.v 11)) (.cons (.call 28 (.cons (.v 15) (.cons (.idx (.v 10) (.v 12)) (.cons (.idx (.v 10) (.v 13)) (.cons (.v 8) .nil))))) (.cons (.v 8) .nil))))) .nil)))) .nil) .nil) (.cons (.ret (.tuple (.cons (.v 16) (.cons (.call 28 (.cons (.v 15) (.cons (.call 28 (.cons (.v 14) (.cons (.idx (.v 10) (.v 11)) (.cons (.idx (.v 10) (.v 12)) (.cons (.v 8) .nil))))) (.cons (.idx (.v 10) (.v 13)) (.cons (.v 8) .nil))))) .nil)))) .nil))))))))))⟩
noncomputable def pH:Ss:=(.cons (.set 1 (.bin .add (.bin .add (.bin .mul (.bin .add (.v 1) (.bi .sum (.cons (.bi .range (.cons (.bin .add (.v 7) (.int 1)) .nil)) .nil))) (.int 2)) (.v 7)) (.v 2))) (.cons (.expr (.bm (.v 5) .append (.cons (.bin .add (.v 1) (.v 7)) .nil))) (.cons (.set 1 (.int 1)) (.cons (.aug 6 .add (.bin .add (.int 3) (.bi .max (.cons (.v 7) (.cons (.int 0) .nil))))) .nil))))
noncomputable def yP:aD:=⟨4,(.cons (.n4 4 (.bi .list (.cons (.bi .range (.cons (.v 0) (.cons (.neg (.int 1)) (.cons (.neg (.int 1)) .nil)))) .nil)) (.list (.cons (.v 0) .nil))) (.cons (.set 5 (.list .nil)) (.cons (.set 6 (.int 0)) (.cons (.forL 7 (.v 4) pH) (.cons (.expr (.bm (.v 3) .extend (.cons (.bin .add (.list (.cons (.bin .sub (.idx (.v 4) (.neg (.int 1))) (.int 1)) .nil)) (.wG (.v 5))) .nil))) (.cons (.ret (.tuple (.cons (.bin .sub (.idx (.v 5) (.int 0)) (.v 0)) (.cons (.v 6) .nil)))) .nil))))))⟩
noncomputable def AJ:Ss:=(.cons (.ret (.tuple (.cons (.v 15) (.cons (.v 2) (.cons (.v 3) (.cons (.v 4) (.cons (.v 5) (.cons (.v 13) .nil)))))))) .nil)
noncomputable def AO:Ss:=(.cons (.set 15 (.str [113,40,122,32,109,111,100,32,51,44,120,41])) (.cons (.eV [2,13] (.call 30 (.cons (.v 12) (.cons (.v 2) (.cons (.v 4) (.cons (.v 6) .nil)))))) .nil))
noncomputable def AN:Ss:=(.cons (.set 15 (.bin .add (.bin .add (.str [105,102,32,120]) (.idx (.g 4) (.bin .mod (.v 1) (.int 6)))) (.str [122,32,109,111,100,32,51,32,116,104,101,110,32,105,102,32,111,100,100,40,122,41,116,104,101,110,32,120,58,61,122,45,49,32,101,108,115,101,32,121,58,61,120]))) (.cons (.ifs (.idx (.tuple (.cons (.cmp .eq (.v 2) (.v 12)) (.cons (.cmp .ne (.v 2) (.v 12)) (.cons (.cmp .lt (.v 2) (.v 12)) (.cons (.cmp .le (.v 2) (.v 12)) (.cons (.cmp .gt (.v 2) (.v 12)) (.cons (.cmp .ge (.v 2) (.v 12)) .nil))))))) (.bin .mod (.v 1) (.int 6))) (.cons (.ifs (.cmp .eq (.bin .mod (.v 4) (.int 2)) (.int 1)) (.cons (.set 2 (.bin .sub (.v 4) (.int 1))) .nil) (.cons (.set 3 (.v 2)) .nil)) .nil) .nil) .nil))
noncomputable def AS:Ss:=(.cons (.set 3 (.bin .sub (.v 3) (.v 2))) (.cons (.set 4 (.bin .add (.v 4) (.int 1))) (.cons (.aug 13 .add (.int 1)) .nil)))
noncomputable def AM:Ss:=(.cons (.set 15 (.bin .add (.bin .add (.str [102,111,114,32,120,58,61]) (.bi .str (.cons (.v 11) .nil))) (.str [32,116,111,32,122,32,109,111,100,32,51,32,100,111,32,98,101,103,105,110,32,121,58,61,121,45,120,59,122,58,61,122,43,49,32,101,110,100]))) (.cons (.set 13 (.int 1)) (.cons (.gx 2 (.bi .range (.cons (.v 11) (.cons (.bin .add (.v 12) (.int 1)) .nil))) AS) .nil)))
noncomputable def AR:Ss:=(.cons (.set 4 (.bin .add (.v 4) (.v 3))) (.cons (.set 2 (.int 7)) (.cons (.aug 13 .add (.int 1)) .nil)))
noncomputable def AQ:Ss:=(.cons (.aug 13 .add (.int 2)) (.cons (.gx 3 (.bi .range (.cons (.v 2) (.cons (.int 2) .nil))) AR) .nil))
noncomputable def AL:Ss:=(.cons (.set 15 (.bin .add (.bin .add (.str [102,111,114,32,120,58,61]) (.bi .str (.cons (.v 11) .nil))) (.str [32,100,111,119,110,116,111,32,122,32,109,111,100,32,51,32,100,111,32,102,111,114,32,121,58,61,120,32,116,111,32,49,32,100,111,32,98,101,103,105,110,32,122,58,61,122,43,121,59,120,58,61,55,32,101,110,100]))) (.cons (.set 13 (.int 1)) (.cons (.gx 2 (.bi .range (.cons (.v 11) (.cons (.bin .sub (.v 12) (.int 1)) (.cons (.neg (.int 1)) .nil)))) AQ) .nil)))
noncomputable def AP:Ss:=(.cons (.set 3 (.bin .add (.v 3) (.v 2))) (.cons (.aug 13 .add (.int 1)) .nil))
noncomputable def AK:Ss:=(.cons (.set 15 (.bin .add (.bin .add (.str [120,58,61]) (.bi .str (.cons (.v 11) .nil))) (.str [59,119,104,105,108,101,32,120,60,122,32,109,111,100,32,51,32,100,111,32,98,101,103,105,110,32,120,58,61,120,43,49,59,121,58,61,121,43,120,32,101,110,100]))) (.cons (.set 13 (.int 1)) (.cons (.set 2 (.v 11)) (.cons (.gx 2 (.bi .range (.cons (.bin .add (.v 11) (.int 1)) (.cons (.bin .add (.v 12) (.int 1)) .nil))) AP) .nil))))
noncomputable def Jz:Ss:=(.cons (.set 3 (.bin .add (.v 3) (.v 2))) (.cons (.aug 13 .add (.int 1)) .nil))
noncomputable def pG:Ss:=(.cons (.ifs (.cmp .lt (.v 0) (.int 2)) (.cons (.ifs (.cmp .isin (.v 9) (.bi .range (.cons (.v 8) .nil))) (.cons (.set 5 (.bin .add (.bin .add (.slice (.v 5) .no (.yes (.v 9))) (.tuple (.cons (.v 14) .nil))) (.slice (.v 5) (.yes (.bin .add (.v 9) (.int 1))) .no))) .nil) (.cons (.expr (.bm (.v 7) .append (.cons (.v 9) .nil))) .nil)) .nil) (.cons (.ifs (.cmp .eq (.v 0) (.int 2)) AO (.cons (.ifs (.cmp .eq (.v 0) (.int 3)) AN (.cons (.ifs (.cmp .eq (.v 0) (.int 4)) AM (.cons (.ifs (.cmp .eq (.v 0) (.int 5)) AL (.cons (.ifs (.cmp .eq (.v 0) (.int 6)) AK (.cons (.set 15 (.bin .add (.bin .add (.str [120,58,61]) (.bi .str (.cons (.v 11) .nil))) (.str [59,114,101,112,101,97,116,32,120,58,61,120,43,49,59,121,58,61,121,43,120,32,117,110,116,105,108,32,120,62,61,122,32,109,111,100,32,51]))) (.cons (.gx 2 (.bi .range (.cons (.bin .add (.v 11) (.int 1)) (.cons (.bin .add (.bi .max (.cons (.v 12) (.cons (.bin .add (.v 11) (.int 1)) .nil))) (.int 1)) .nil))) Jz) .nil))) .nil)) .nil)) .nil)) .nil)) .nil)) AJ)
noncomputable def Jy:Ss:=(.cons (.set 15 (.bin .add (.bin .add (.str [113,40,122,32,109,111,100,32,51,44]) (.v 10)) (.str [41]))) (.cons (.eV [14,13] (.call 30 (.cons (.v 12) (.cons (.idx (.bin .add (.v 5) (.tuple (.cons (.int 0) .nil))) (.v 9)) (.cons (.v 4) (.cons (.v 6) .nil)))))) .nil))
noncomputable def yO:aD:=⟨8,(.cons (.set 8 (.bi .len (.cons (.v 5) .nil))) (.cons (.set 9 (.idx (.tuple (.cons (.int 0) (.cons (.bin .sub (.v 8) (.int 1)) (.cons (.bin .fdiv (.v 8) (.int 2)) (.cons (.int 0) (.cons (.bin .sub (.v 8) (.int 1)) (.cons (.v 8) (.cons (.int 0) (.cons (.bin .sub (.v 8) (.int 1)) (.cons (.neg (.int 1)) (.cons (.bin .fdiv (.v 8) (.int 2)) .nil))))))))))) (.bin .mod (.v 1) (.int 10)))) (.cons (.set 10 (.bin .add (.bin .add (.str [97,91]) (.bi .str (.cons (.v 9) .nil))) (.str [93]))) (.cons (.set 11 (.bin .sub (.bin .mod (.v 1) (.int 4)) (.int 2))) (.cons (.set 12 (.call 27 (.cons (.v 4) (.cons (.int 3) .nil)))) (.cons (.set 13 (.int 0)) (.cons (.set 14 (.v 4)) (.cons (.set 15 (.bin .add (.v 10) (.str [58,61,122]))) (.cons (.ifs (.cmp .eq (.v 0) (.int 1)) Jy .nil) pG)))))))))⟩
noncomputable def AI:Ss:=(.cons (.ifs (.not (.cmp .is (.bi .type (.cons (.v 27) .nil)) (.g 2))) (.cons (.ret (.bool false)) .nil) .nil) .nil)
noncomputable def lR:Ss:=(.cons (.eV [21,22] (.idx (.g 6) (.bin .mod (.idx (.v 0) (.int 15)) (.int 12)))) (.cons (.ifs (.v 20) (.cons (.eV [21,22] (.idx (.g 7) (.bin .add (.bin .mul (.bin .mod (.idx (.v 0) (.int 14)) (.int 3)) (.int 12)) (.bin .mod (.idx (.v 0) (.int 15)) (.int 12))))) .nil) .nil) (.cons (.set 6 (.bm (.v 6) .replace (.cons (.v 21) (.cons (.v 22) (.cons (.int 1) .nil))))) (.cons (.set 23 (.bin .sub (.bin .add (.v 9) (.bin .mod (.idx (.v 0) (.int 16)) (.int 5))) (.int 1))) (.cons (.set 24 (.any (.cons (.v 20) (.cons (.cmp .gt (.bi .len (.cons (.v 8) .nil)) (.int 0)) (.cons (.cmp .gt (.v 9) (.v 23)) .nil))))) (.cons (.set 25 .none) (.cons (.set 26 (.bool false)) (.cons (.nW (.cons (.set 25 (.call 26 (.cons (.v 6) (.cons (.v 23) .nil)))) .nil) 26 (.bool true)) (.cons (.ifs (.cmp .ne (.v 26) (.v 24)) (.cons (.ret (.bool false)) .nil) .nil) (.cons (.ifs (.not (.v 26)) (.cons (.ifs (.not (.cmp .is (.bi .type (.cons (.v 25) .nil)) (.g 8))) (.cons (.ret (.bool false)) .nil) .nil) (.cons (.ifs (.cmp .ne (.v 25) (.bi .tuple (.cons (.v 7) .nil))) (.cons (.ret (.bool false)) .nil) .nil) (.cons (.gx 27 (.v 25) AI) .nil))) .nil) (.cons (.ret (.bool true)) .nil)))))))))))
noncomputable def AH:Ss:=(.cons (.eV [17,4] (.call 29 (.cons (.v 14) (.cons (.v 15) (.cons (.v 16) (.cons (.v 2) (.cons (.v 3) (.cons (.v 4) (.cons (.idx (.v 5) (.neg (.int 1))) (.cons (.v 1) (.cons (.v 8) .nil))))))))))) (.cons (.expr (.bm (.v 7) .append (.cons (.v 4) .nil))) (.cons (.eV [18,2,3,4,5,19] (.call 31 (.cons (.bin .mod (.v 12) (.int 8)) (.cons (.v 13) (.cons (.v 2) (.cons (.v 3) (.cons (.v 4) (.cons (.v 5) (.cons (.v 7) (.cons (.v 8) .nil)))))))))) (.cons (.set 6 (.bin .add (.bin .add (.bin .add (.bin .add (.bin .add (.v 6) (.str [122,58,61])) (.v 17)) (.str [59,119,114,105,116,101,40,122,41,59])) (.v 18)) (.str [59]))) (.cons (.aug 9 .add (.v 19)) .nil)))))
noncomputable def tS:Ss:=(.cons (.pd [12,13,14,15,16] (.tuple (.cons (.v 10) (.cons (.v 11) .nil))) AH) (.cons (.expr (.bm (.v 7) .extend (.cons (.list (.cons (.v 2) (.cons (.v 3) .nil))) .nil))) (.cons (.expr (.bm (.v 7) .extend (.cons (.v 5) .nil))) (.cons (.set 6 (.bin .add (.bin .add (.bin .add (.v 6) (.str [119,114,105,116,101,40,120,41,59,119,114,105,116,101,40,121,41,59,102,111,114,32,120,58,61,48,32,116,111,32])) (.bi .str (.cons (.bin .sub (.v 1) (.int 1)) .nil))) (.str [32,100,111,32,119,114,105,116,101,40,97,91,120,93,41,101,110,100,46]))) (.cons (.set 20 (.cmp .eq (.bin .mod (.idx (.v 0) (.int 13)) (.int 3)) (.int 0))) lR)))))
noncomputable def Jx:Ss:=(.cons (.set 10 (.tuple (.cons (.idx (.v 0) (.int 3)) (.cons (.idx (.v 0) (.int 4)) (.cons (.idx (.v 0) (.int 5)) (.cons (.idx (.v 0) (.int 6)) (.cons (.idx (.v 0) (.int 7)) .nil))))))) (.cons (.set 11 (.tuple (.cons (.idx (.v 0) (.int 8)) (.cons (.idx (.v 0) (.int 9)) (.cons (.idx (.v 0) (.int 10)) (.cons (.idx (.v 0) (.int 11)) (.cons (.idx (.v 0) (.int 12)) .nil))))))) tS))
noncomputable def Jw:Ss:=(.cons (.set 8 (.list .nil)) (.cons (.set 9 (.bin .add (.v 1) (.int 1))) Jx))
noncomputable def Hv:aD:=⟨1,(.cons (.ifs (.cmp .lt (.bi .len (.cons (.v 0) .nil)) (.int 17)) (.cons (.ret (.bool true)) .nil) .nil) (.cons (.set 1 (.bin .add (.int 1) (.bin .mod (.idx (.v 0) (.int 0)) (.int 3)))) (.cons (.set 2 (.bin .sub (.bin .mod (.idx (.v 0) (.int 1)) (.int 7)) (.int 3))) (.cons (.set 3 (.bin .mod (.idx (.v 0) (.int 2)) (.int 100000000000000000000))) (.cons (.set 4 (.int 0)) (.cons (.set 5 (.bin .mul (.tuple (.cons (.int 0) .nil)) (.v 1))) (.cons (.set 6 (.bin .add (.bin .add (.bin .add (.bin .add (.bin .add (.bin .add (.str [112,114,111,103,114,97,109,32,112,59,118,97,114,32,120,44,121,58,105,110,116,101,103,101,114,59,97,58,97,114,114,97,121,91]) (.bi .str (.cons (.v 1) .nil))) (.g 5)) (.bi .str (.cons (.v 2) .nil))) (.str [59,121,58,61])) (.bi .str (.cons (.v 3) .nil))) (.str [59]))) (.cons (.set 7 (.list .nil)) Jw))))))))⟩
end Mine.Internal
namespace Mine.Internal.P
noncomputable def fJ (p:Nat->Bool):Nat->Bool
 | 0=>true
 | n+1=>p n&&fJ p n
theorem bh {p:Nat->Bool}:∀ {n:Nat},fJ p n=true->∀ {i:Nat},i<n->p i=true
 | 0,_,i,hi=>absurd hi (Nat.not_lt_zero i)
 | n+1,h,i,hi=>(Nat.lt_succ_iff_lt_or_eq.mp hi).elim (bh (Ab h).2) fun e=>e▸(Ab h).1
noncomputable def Hp (u:Tx):R (List St):=(eM 59 300 (u++[59])).bind fun ts=>yH 9 (ts++[.word bJ])
theorem cM {α β:Type}{f g:α->β}:∀ {l:List α},l.map f=l.map g->∀ {a:α},a∈l->f a=g a
 | [],h,a,m=>absurd m List.not_mem_nil
 | b::l,h,a,m=>(List.mem_cons.mp m).elim (fun e=>e▸(List.cons.inj h).1) (cM (List.cons.inj h).2)
def FE (n b:Nat)(w:Tx)(m:R (List St×List Tok)):Prop:=w.length<=b∧((∃ T,bC w T∧RW n (T++[.fin])=m)∨(aT w∧m=.err))
noncomputable def jx (ss:List St)(m:R (List St×List Tok)):R (List St×List Tok):=m.bind fun q=>.ok (ss++q.1,q.2)
def Pc (u:Tx)(ss:List St):Prop:=∀ {n b:Nat} {v:Tx} {m:R (List St×List Tok)},FE n b v m->FE (n+ss.length) (b+201) (u++59::v) (jx ss m)
theorem nC {α:Type}(a:List α)(x:α)(b:List α):a++[x]++b=a++x::b:=Ae a [x] b
theorem Pc.of {u:Tx}{ss:List St}(h:Hp u=.ok ss)(hl:Nat.ble u.length 200=true):Pc u ss:=by
 intro n b v m h';obtain ⟨ts,h1,h2⟩:=R.ao h;obtain ⟨i1,i2⟩:=dW (v:=v) 300 (u++[59]) ts h1;rw [nC] at i1 i2;obtain ⟨lb,h'⟩:=h';refine ⟨?_,?_⟩
 ·rw [Ac,List.length_cons,Nat.add_comm];show v.length+1+u.length<=b+1+200;exact Aq (Au lb) (Ad hl)
 ·rcases h' with ⟨T,t1,rfl⟩ | ⟨t1,rfl⟩
  ·refine .inl ⟨_,i1 _ t1.semi,?_⟩;have:=vp 9 _ _ h2 n (T++[.fin]);rw [nC] at this;rw [Ae];exact this
  ·exact .inr ⟨i2 t1.semi,rfl⟩
theorem FE.ge {n k b:Nat}{w:Tx}{q:List St×List Tok}(h:FE k b w (.ok q))(hn:k<=n):FE n b w (.ok q):=by
 obtain ⟨lb,⟨T,t1,t2⟩ | ⟨_,t2⟩⟩:=h
 ·have:=Fp t2 (n-k);rw [Nat.add_sub_of_le hn] at this;exact ⟨lb,.inl ⟨T,t1,this⟩⟩
 ·cases t2
noncomputable def dj:List Tx->Tx->Tx
 | [],tl=>tl
 | u::us,tl=>u++59::dj us tl
def iX (us:List Tx)(ss:List St):Prop:=∀ {n b:Nat} {v:Tx} {m:R (List St×List Tok)},FE n b v m->FE (n+ss.length) (b+201*us.length) (dj us v) (jx ss m)
theorem iX.nil:iX [] []:=fun {n b v m} h=>by
 have:jx [] m=m:=by cases m<;>rfl
 rw [this]; exact h
theorem iX.cons {u:Tx}{ss:List St}{us:List Tx}{rs:List St}(h:Pc u ss)(h':iX us rs):iX (u::us) (ss++rs):=fun {n b v m} g=>by
 have:=h (h' g);have e:jx ss (jx rs m)=jx (ss++rs) m:=by
  cases m with
  | ok q=>exact congrArg R.ok (Prod.ext (Ae ss rs q.1).symm rfl)
  | err=>rfl
  | bot=>rfl
 rw [e,Nat.add_assoc,Nat.add_comm rs.length,← Ac] at this;exact this
noncomputable def isOk {α:Type}:R α->Bool
 | .ok _=>true
 | _=>false
noncomputable def get {α:Type}(d:α):R α->α
 | .ok a=>a
 | _=>d
theorem jL {α:Type}{d:α}{m:R α}(h:isOk m=true):m=.ok (get d m):=by cases m<;>first | rfl | cases h
noncomputable def gG:Tok->Nat×Tx
 | .word w=>(0,w)
 | .name w=>(1,w)
 | .int n=>(2,[n])
 | .fin=>(3,[])
noncomputable def LZ (p:Nat×Tx):Tok:=match p.1 with
 | 0=>.word p.2
 | 1=>.name p.2
 | 2=>.int (p.2.headD 0)
 | _=>.fin
theorem pO {l r:List Tok}(h:l.map gG=r.map gG):l=r:=by
 have e:∀ l:List Tok,(l.map gG).map LZ=l:=fun l=>by
  induction l with
  | nil=>rfl
  | cons t l ih=>cases t<;>exact congrArg (_::·) ih
 exact (e l).symm.trans ((congrArg (List.map LZ) h).trans (e r))
noncomputable def toks (s:Nat)(hd:Tx):List Tok:=get [] (eM s 600 (hd++[s]))
noncomputable def hB (s:Nat)(hd:Tx):List Tok:=(toks s hd).drop 4
noncomputable def hV (s:Nat)(hd:Tx):List (Tx×Option Nat)×List Tok:=get ([],[]) (gh aY (hB s hd))
noncomputable def hK (nm:Tx):List Tok:=[.word wProgram,.name nm,.word bJ,.word wz]
noncomputable def HR (s:Nat)(nm hd:Tx):Bool:=isOk (eM s 600 (hd++[s]))&&decide (((toks s hd).take 4).map gG=(hK nm).map gG)&&isOk (gh aY (hB s hd))&&Nat.ble hd.length 700
structure Hd (s:Nat)(nm hd:Tx)(ps:Bl):Prop where
 ok:HR s nm hd=true
 procs:dG (dH 5) aY (hV s hd).2=.ok (ps,[.word iN])
section
variable {s:Nat}{nm hd:Tx}{ps:Bl}
theorem Hd.len (H:Hd s nm hd ps):Nat.ble hd.length 700=true:=(Ab H.ok).2
theorem Hd.vars (H:Hd s nm hd ps):gh aY (hB s hd)=.ok (hV s hd):=jL (Ab (Ab H.ok).1).2
theorem Hd.lex (H:Hd s nm hd ps):eM s 600 (hd++[s])=.ok (.word wProgram::.name nm::.word bJ::.word wz::hB s hd):=by
 have h:=Ab (Ab (Ab H.ok).1).1;exact (jL (d:=[]) h.1).trans (congrArg R.ok ((List.take_append_drop 4 (toks s hd)).symm.trans (congrArg (·++hB s hd) (pO (Ax h.2)))))
noncomputable def HZ (nm:Tx)(vs:List (Tx×Option Nat))(ps:Bl)(m:R (List St×List Tok)):R (Tx×Bl):=(m.bind rowOf).bind fun s=>aJ gF s.2 fun r=>aJ nv r (fin? (nm,.mk vs ps s.1))
theorem pK {w:Tx}{b:Nat}(h:Nat.ble hd.length 700=true)(hw:w.length<=b)(hb:Nat.ble b 3200=true):(hd++w).length<pa:=by
 rw [Ac];exact Ao (Aq (Ad h) (Aa hw (Ad hb))) (by decide)
theorem Hd.par (H:Hd s nm hd ps){b:Nat}{w:Tx}{m:R (List St×List Tok)}(h:FE aY b (s::w) m)(hb:Nat.ble b 3200=true):dF (hd++s::w)=HZ nm (hV s hd).1 ps m:=by
 obtain ⟨i1,i2⟩:=dW (v:=w) 600 (hd++[s]) _ H.lex;rw [nC] at i1 i2;obtain ⟨lb,⟨T,t1,rfl⟩ | ⟨t1,rfl⟩⟩:=h
 ·unfold dF;rw [vL (i1 T t1) (pK H.len lb hb)];show jg (.word wProgram::.name nm::.word bJ::.word wz::(hB s hd++T++[.fin]))=_;rw [Ae,ur H.vars H.procs,xl]; rfl
 ·unfold dF;rw [rR (i2 t1) (pK H.len lb hb)]; rfl
end
noncomputable def gu (s:St):Bool:=s.wf false&&Nat.ble s.fu 100&&Nat.ble s.sz 300
theorem vm:∀ (q:List St) (s:St),gu s=true->q.all gu=true->(bV s q).wf true=true∧(bV s q).fu<=100∧(bV s q).sz<=300*(q.length+1)
 | [],s,h,_=>by
  have h:=Ab h;have h1:=Ab h.1;exact ⟨h1.1,Ad h1.2,Ad h.2⟩
 | x::q,s,h,hq=>by
  have h:=Ab h;have h1:=Ab h.1;have hq:=Ab hq;obtain ⟨a1,a2,a3⟩:=vm q x hq.1 hq.2;exact ⟨Bool.and_eq_true_iff.mpr ⟨h1.1,a1⟩,Nat.max_le.mpr ⟨Ad h1.2,a2⟩,Aa (Aq (Ad h.2) a3) (Nat.le_of_eq (Nat.add_comm 300 _))⟩
theorem tE (sc:List Scope):∀ (q:List St) (s:St),hU sc (bV s q)=(hU sc s&&q.all (hU sc))
 | [],s=>(Bool.and_true _).symm
 | x::q,s=>congrArg (hU sc s&&·) (tE sc q x)
inductive kM (code:List In)(sc:List Scope)(f:Nat):Nat->List St->Nat->Prop
 | nil {p}:kM code sc f p [] p
 | cons {p q p' s ss}:At code sc f p s q->kM code sc f q ss p'->kM code sc f p (s::ss) p'
theorem kM.inv {code:List In}{sc:List Scope}{f p p':Nat}{s:St}{ss:List St}(h:kM code sc f p (s::ss) p'):∃ q,At code sc f p s q∧kM code sc f q ss p':=by
 cases h with | cons h h'=>exact ⟨_,h,h'⟩
theorem kM.single {code:List In}{sc:List Scope}{f p p':Nat}{s:St}(h:kM code sc f p [s] p'):At code sc f p s p':=by
 obtain ⟨q,h,h'⟩:=h.inv;cases h'; exact h
theorem At.row {code:List In}{sc:List Scope}{f:Nat}:∀ {q:List St} {s:St} {p p':Nat},At code sc f p (bV s q) p'->kM code sc f p (s::q) p'
 | [],s,p,p',h=>.cons h.one .nil
 | x::q,s,p,p',h=>h.seq.elim fun m g=>.cons g.1 (At.row g.2)
theorem kM.split {code:List In}{sc:List Scope}{f:Nat}{a b:List St}{p p':Nat}(h:kM code sc f p (a++b) p'):∃ m,kM code sc f p a m∧kM code sc f m b p':=by
 induction a generalizing p with
 | nil=>exact ⟨p,.nil,h⟩
 | cons s a ih=>
  obtain ⟨q,h1,h2⟩:=h.inv;exact (ih h2).elim fun m g=>⟨m,.cons h1 g.1,g.2⟩
theorem a9 {p:St->Bool}{a b:List St}(ha:a.all p=true)(hb:b.all p=true):(a++b).all p=true:=by rw [List.all_append,ha,hb]; rfl
noncomputable def O4 (vs:List (Tx×Option Nat))(ps:Bl):Bool:=ps.wf true&&Nat.ble ps.fu 100&&Nat.ble (vs.length+ps.sz) 9000
theorem qk {vs:List (Tx×Option Nat)}{ps:Bl}(hc:O4 vs ps=true){s:St}{ss:List St}(h1:gu s=true)(h:ss.all gu=true)(hs:ss.length<=94):ki (.mk vs ps (bV s ss))=dJ [] 0 [] (.mk vs ps (bV s ss)):=by
 obtain ⟨a1,a2,a3⟩:=vm ss s h1 h;have hc:=Ab hc;have LD:=Ab hc.1;have e1:(Bl.mk vs ps (bV s ss)).wf false=true:=Bool.and_eq_true_iff.mpr ⟨LD.1,a1⟩;have e2:Nat.ble (Bl.mk vs ps (bV s ss)).fu 120=true:=Nat.ble_eq_true_of_le (Aa (Au (Nat.max_le.mpr ⟨Nat.max_le.mpr ⟨(by decide:1<=100),Ad LD.2⟩,a2⟩)) (by decide));have e3:Nat.ble (Bl.mk vs ps (bV s ss)).sz 100000=true:=by
  refine Nat.ble_eq_true_of_le ?_;show vs.length+(1+(ps.sz+(1+((bV s ss).sz+1))))<=_;rw [Nat.add_left_comm 1,← Nat.add_assoc];exact Aa (Aq (Ad hc.2) (Ak (Ak (Au (Aa a3 (Nat.mul_le_mul_left 300 (Au hs)))) 1) 1)) (by decide:9000+(1+(1+(300*(94+1)+1)))<=_)
 unfold ki;rw [e1,e2,e3]; rfl
theorem rY:∀ (c pre:List In),Frag (pre++c) pre.length c
 | [],_=>trivial
 | i::c,pre=>⟨by rw [List.getElem?_append_right (Aj _),Nat.sub_self]; rfl,by
  have:=rY c (pre++[i]);rw [Ac,nC] at this; exact this⟩
structure HC (vs:List (Tx×Option Nat))(ps:Bl)(pc:List In)(S4 S0:Scope)(k:Nat):Prop where
 fit:O4 vs ps=true
 dup:dN [] (cF ([]:List (Tx×Bool))++cF vs++ps.names)=true
 vars:eK [] 3 vs=.ok (S4,k+4)
 procs:bU [] S4 1 ps=.ok (pc,S0)
section
variable {vs:List (Tx×Option Nat)}{ps:Bl}{pc:List In}{S4 S0:Scope}{k:Nat}
theorem HC.block (H:HC vs ps pc S4 S0 k)(b:St):dJ [] 0 [] (.mk vs ps b)=(bk [S0] (k+4) (1+pc.length+1) b).bind fun d=>.ok ([In.jmp (1+pc.length)]++pc++[.int (k+1)]++d++[.ret]):=by
 show (match dN [] (cF ([]:List (Tx×Bool))++cF vs++ps.names) with
  | false=>.err
  | true=>(eK [] 3 vs).bind fun w=>
   (bU [] w.1 (0+1) ps).bind fun c=>
   (bk (c.2::[]) w.2 (0+1+c.1.length+(d7 (w.2-3)).length) b).bind fun d=>.ok ([In.jmp (0+1+c.1.length)]++c.1++d7 (w.2-3)++d++[.ret]):R (List In))=_
 rw [H.dup];show (eK [] 3 vs).bind _=_;rw [H.vars];exact congrArg (fun m:R (List In×Scope)=>m.bind fun c=>(bk (c.2::[]) (k+4) (1+c.1.length+1) b).bind fun d=>.ok ([In.jmp (1+c.1.length)]++c.1++[.int (k+1)]++d++[.ret])) H.procs
theorem HC.bad (H:HC vs ps pc S4 S0 k){s:St}{ss:List St}(h1:gu s=true)(h:ss.all gu=true)(hs:ss.length<=94)(hb:(hU [S0] s&&ss.all (hU [S0]))=false):ki (.mk vs ps (bV s ss))=.err:=by
 have:=dD [S0] (bV s ss) (k+4) (1+pc.length+1);rw [tE,hb] at this;rw [qk H.fit h1 h hs,H.block,show bk [S0] (k+4) (1+pc.length+1) (bV s ss)=.err from this]; rfl
theorem HC.good (H:HC vs ps pc S4 S0 k){s:St}{ss:List St}(h1:gu s=true)(h:ss.all gu=true)(hs:ss.length<=94)(hb:(hU [S0] s&&ss.all (hU [S0]))=true):∃ code pb pe,ki (.mk vs ps (bV s ss))=.ok code∧Frag code 1 pc∧kM code [S0] (k+4) pb (s::ss) pe∧code[pe]?=some .ret∧
  ∀ {t res},k<=20->U code ([0,0,0]++List.replicate (k+1) 0) 0 pb [] t res->U code [0,0,0] 0 0 [] t res:=by
 have:=dD [S0] (bV s ss) (k+4) (1+pc.length+1);rw [tE,hb] at this;obtain ⟨d,hd⟩:=this;have hc:dJ [] 0 [] (.mk vs ps (bV s ss))=.ok ([In.jmp (1+pc.length)]++pc++[.int (k+1)]++d++[.ret]):=by rw [H.block,hd]; rfl
 obtain ⟨w,cs,pb,pe,g1,g2,g3,g4,g5,g6⟩:=mh hc (rY _ []);have hw:=R.ok.inj (H.vars.symm.trans g1);subst hw;have CE:=R.ok.inj (H.procs.symm.trans g2);subst CE;exact ⟨_,pb,pe,(qk H.fit h1 h hs).trans hc,g3,At.row g4,g5,fun hk g=>g6 (show 3+(k+1)<=900000 from Aa (Ak (Au hk) 3) (by decide)) g⟩
end
noncomputable def jq (n:Nat):Nat->Tx
 | 0=>[120]
 | 1=>[121]
 | 2=>[122]
 | 3=>[97,91,47+n,93]
 | 4=>[45,120]
 | 5=>[40,121,45,120,41]
 | 6=>[50]
 | _=>[45,51]
noncomputable def sO (n:Nat):Nat->Ex
 | 0=>.name [120]
 | 1=>.name [121]
 | 2=>.name [122]
 | 3=>.at [97] (.int (n-1))
 | 4=>.neg (.name [120])
 | 5=>.bin [45] (.name [121]) (.name [120])
 | 6=>.int 2
 | _=>.neg (.int 3)
noncomputable def sN (n:Nat):Nat->List Tok
 | 0=>[.name [120]]
 | 1=>[.name [121]]
 | 2=>[.name [122]]
 | 3=>[.name [97],.word lh,.int (n-1),.word Dd]
 | 4=>[.word gK,.name [120]]
 | 5=>[.word nU,.name [121],.word gK,.name [120],.word jF]
 | 6=>[.int 2]
 | _=>[.word gK,.int 3]
noncomputable def eT:Nat->Tx
 | 0=>nT
 | 1=>gK
 | 2=>C9
 | 3=>Hf
 | 4=>Dc
 | 5=>gK
 | _=>C9
def CK (A:List Tok)(a:Ex):Prop:=∀ (w:Tx) (r:List Tok),aB w lh=false->de dE (A++.word w::r)=.ok (a,.word w::r)
theorem nj (n:Nat):∀ i:Nat,CK (sN n i) (sO n i)
 | 0,w,r,h=>by
  show (match aB w lh with | true=>_ | false=>R.ok (Ex.name [120],Tok.word w::r))=_
  rw [h]; rfl
 | 1,w,r,h=>by
  show (match aB w lh with | true=>_ | false=>R.ok (Ex.name [121],Tok.word w::r))=_
  rw [h]; rfl
 | 2,w,r,h=>by
  show (match aB w lh with | true=>_ | false=>R.ok (Ex.name [122],Tok.word w::r))=_
  rw [h]; rfl
 | 3,w,r,h=>rfl
 | 4,w,r,h=>by
  show R.bind (match aB w lh with | true=>_ | false=>R.ok (Ex.name [120],Tok.word w::r)) _=_
  rw [h]; rfl
 | 5,w,r,h=>rfl
 | 6,w,r,h=>rfl
 | _+7,w,r,h=>rfl
section
variable {p:Tx->Bool}{sub:List Tok->PE}{g:Nat}{e:Ex}{w:Tx}{rest:List Tok}
theorem eB {q:Ex×List Tok}(h:p w=true)(hs:sub rest=.ok q):dM p sub (g+1) e (.word w::rest)=dM p sub g (.bin w e q.1) q.2:=by
 show (match p w with | true=>(sub rest).bind fun q=>dM p sub g (.bin w e q.1) q.2 | false=>.ok (e,.word w::rest))=_
 rw [h,hs]; rfl
theorem eC (h:p w=false):dM p sub (g+1) e (.word w::rest)=.ok (e,.word w::rest):=by
 show (match p w with | true=>(sub rest).bind fun q=>dM p sub g (.bin w e q.1) q.2 | false=>.ok (e,.word w::rest))=_
 rw [h]
end
structure Sg (w:Tx)(m a:Bool):Prop where
 m:isMul w=m
 a:isAdd w=a
 b:aB w lh=false
section
variable {A B C:List Tok}{a b c:Ex}{s t e:Tx}{r:List Tok}
theorem uN (fa:CK A a){x:Bool}(hs:Sg s false x):iD (de dE) (A++.word s::r)=.ok (a,.word s::r):=by
 unfold iD;rw [fa s r hs.b];exact eC (g:=399) hs.m
theorem FQ (fa:CK A a)(fb:CK B b){x y:Bool}(hs:Sg s true x)(ht:Sg t false y):iD (de dE) (A++.word s::(B++.word t::r))=.ok (.bin s a b,.word t::r):=by
 unfold iD;rw [fa s _ hs.b];exact (eB (g:=399) hs.m (fb t r ht.b)).trans (eC (g:=398) ht.m)
theorem Na (fa:CK A a)(fb:CK B b)(fc:CK C c){x y z:Bool}(hs:Sg s true x)(ht:Sg t true y)(he:Sg e false z):iD (de dE) (A++.word s::(B++.word t::(C++.word e::r)))=.ok (.bin t (.bin s a b) c,.word e::r):=by
 unfold iD;rw [fa s _ hs.b];exact (eB (g:=399) hs.m (fb t _ ht.b)).trans ((eB (g:=398) ht.m (fc e r he.b)).trans (eC (g:=397) he.m))
noncomputable def Ov (ms mt:Bool)(s t:Tx)(a b c:Ex):Ex:=match ms,mt with
 | false,true=>.bin s a (.bin t b c)
 | _,_=>.bin t (.bin s a b) c
theorem NT (fa:CK A a)(fb:CK B b)(fc:CK C c){ms mt:Bool}(hs:Sg s ms (!ms))(ht:Sg t mt (!mt))(he:Sg e false false):cT (A++.word s::(B++.word t::(C++.word e::r)))=.ok (Ov ms mt s t a b c,.word e::r):=by
 unfold cT jG;cases ms with
 | false=>
  rw [uN fa hs];cases mt with
  | false=>exact (eB (g:=399) hs.a (uN fb ht)).trans ((eB (g:=398) ht.a (uN fc he)).trans (eC (g:=397) he.a))
  | true=>exact (eB (g:=399) hs.a (FQ fb fc ht he)).trans (eC (g:=398) he.a)
 | true=>
  cases mt with
  | false=>
   rw [FQ fa fb hs ht];exact (eB (g:=399) ht.a (uN fc he)).trans (eC (g:=398) he.a)
  | true=>
   rw [Na fa fb fc hs ht he];exact eC (g:=399) he.a
end
noncomputable def mulQ:Nat->Bool
 | 0=>false
 | 1=>false
 | 5=>false
 | _=>true
theorem ze:∀ o<7,isMul (eT o)=mulQ o∧isAdd (eT o)=!mulQ o∧aB (eT o) lh=false:=by decide +kernel
theorem sg {o:Nat}(h:o<7):Sg (eT o) (mulQ o) (!mulQ o):=⟨(ze o h).1,(ze o h).2.1,(ze o h).2.2⟩
theorem semi:Sg bJ false false:=⟨rfl,rfl,rfl⟩
noncomputable def o6 (n i s j t k:Nat):Tx:=jq n i++32::(eT s++32::(jq n j++32::(eT t++32::jq n k)))
noncomputable def wI (n i s j t k:Nat):List Tok:=sN n i++.word (eT s)::(sN n j++.word (eT t)::sN n k)
noncomputable def wH (n i s j t k:Nat):Ex:=Ov (mulQ s) (mulQ t) (eT s) (eT t) (sO n i) (sO n j) (sO n k)
noncomputable def lx (s:Nat)(u:Tx):List Tok:=get [] (eM s 50 (u++[s]))
noncomputable def Vk (n i:Nat):Bool:=isOk (eM 32 50 (jq n i++[32]))&&(isOk (eM 59 50 (jq n i++[59]))&&(isOk (eM 32 50 ([122,58,61]++jq n i++[32]))&&(decide ((lx 32 (jq n i)).map gG=(sN n i).map gG)&&(decide ((lx 59 (jq n i)).map gG=(sN n i).map gG)&&(decide ((lx 32 ([122,58,61]++jq n i)).map gG=(.name [122]::.word nu::sN n i).map gG)&&Nat.ble (jq n i).length 5)))))
theorem w_all:fJ (fun m=>fJ (fun i=>Vk (m+1) i) 8) 3=true:=by decide +kernel
structure WL (n i:Nat):Prop where
 a:eM 32 50 (jq n i++[32])=.ok (sN n i)
 b:eM 59 50 (jq n i++[59])=.ok (sN n i)
 c:eM 32 50 ([122,58,61]++jq n i++[32])=.ok (.name [122]::.word nu::sN n i)
 d:(jq n i).length<=5
theorem qW {s:Nat}{u:Tx}{ts:List Tok}(h:isOk (eM s 50 (u++[s]))=true)(h':decide ((lx s u).map gG=ts.map gG)=true):eM s 50 (u++[s])=.ok ts:=
 (jL (d:=[]) h).trans (congrArg R.ok (pO (Ax h')))
theorem wl {n i:Nat}(hn:n<3)(hi:i<8):WL (n+1) i:=by
 have h:=Ab (bh (bh w_all hn) hi);have h1:=Ab h.2;have h2:=Ab h1.2;have h3:=Ab h2.2;have h4:=Ab h3.2;have h5:=Ab h4.2;exact ⟨qW h.1 h3.1,qW h1.1 h4.1,qW h2.1 h5.1,Ad h5.2⟩
theorem Fu:∀ o<7,isOk (eM 32 50 (eT o++[32]))=true∧decide ((lx 32 (eT o)).map gG=[Tok.word (eT o)].map gG)=true∧(eT o).length<=3:=by decide +kernel
theorem jE.sp {u v:Tx}{ts us:List Tok}(h:eM 32 50 (u++[32])=.ok ts)(h':bC v us):bC (u++32::v) (ts++us):=by
 have:=(dW (v:=v) 50 (u++[32]) ts h).1 us h'.space;rw [nC] at this; exact this
theorem jE.Oy {u v:Tx}{ts:List Tok}(h:eM 32 50 (u++[32])=.ok ts)(h':aT v):aT (u++32::v):=by
 have:=(dW (v:=v) 50 (u++[32]) ts h).2 h'.space;rw [nC] at this; exact this
theorem jE.se {u v:Tx}{ts us:List Tok}(h:eM 59 50 (u++[59])=.ok ts)(h':bC (59::v) us):bC (u++59::v) (ts++us):=by
 have:=(dW (v:=v) 50 (u++[59]) ts h).1 us h';rw [nC] at this; exact this
theorem jE.VB {u v:Tx}{ts:List Tok}(h:eM 59 50 (u++[59])=.ok ts)(h':aT (59::v)):aT (u++59::v):=by
 have:=(dW (v:=v) 50 (u++[59]) ts h).2 h';rw [nC] at this; exact this
theorem Pc.one {u:Tx}{ts:List Tok}{st:St}(hl:u.length<=200)(h1:∀ {v us},bC (59::v) us->bC (u++59::v) (ts++us))(h2:∀ {v},aT (59::v)->aT (u++59::v))(hp:∀ z,bj dS (ts++.word bJ::z)=.ok (st,.word bJ::z)):Pc u [st]:=by
 intro n b v m h';obtain ⟨lb,h'⟩:=h';refine ⟨?_,?_⟩
 ·rw [Ac,List.length_cons,Nat.add_comm];show v.length+1+u.length<=b+1+200;exact Aq (Au lb) hl
 ·rcases h' with ⟨T,t1,rfl⟩ | ⟨t1,rfl⟩
  ·refine .inl ⟨_,h1 t1.semi,?_⟩;unfold RW;rw [Ae,show ts++(Tok.word [59]::T++[Tok.fin])=ts++.word bJ::(T++[.fin]) from rfl,hp];show (cH (bj dS) (n+1) (.word bJ::(T++[.fin]))).bind _=_;rw [pT rfl]; rfl
  ·exact .inr ⟨h2 t1.semi,rfl⟩
theorem pZ {n i s j t k:Nat}(hn:n<3)(hi:i<8)(hs:s<7)(hj:j<8)(ht:t<7)(hk:k<8):(o6 (n+1) i s j t k).length<=25:=by
 unfold o6;rw [Ac,List.length_cons,Ac,List.length_cons,Ac,List.length_cons,Ac,List.length_cons];exact Aq (wl hn hi).d (Au (Aq (Fu s hs).2.2 (Au (Aq (wl hn hj).d (Au (Aq (Fu t ht).2.2 (Au (wl hn hk).d)))))))
theorem Eb {n i s j t k:Nat}(hn:n<3)(hi:i<8)(hs:s<7)(hj:j<8)(ht:t<7)(hk:k<8):Pc ([122,58,61]++o6 (n+1) i s j t k) [.set [122] (wH (n+1) i s j t k)]:=by
 have w1:=wl hn hi;have w2:=wl hn hj;have w3:=wl hn hk;have s1:=qW (Fu s hs).1 (Fu s hs).2.1;have s2:=qW (Fu t ht).1 (Fu t ht).2.1;have e:∀ v,([122,58,61]++o6 (n+1) i s j t k)++59::v=([122,58,61]++jq (n+1) i)++32::(eT s++32::(jq (n+1) j++32::(eT t++32::(jq (n+1) k++59::v)))):=fun v=>by
  unfold o6; simp only [Ae,List.cons_append]
 intro n' b' v' m' h';refine Pc.one (u:=[122,58,61]++o6 (n+1) i s j t k) (ts:=.name [122]::.word nu::wI (n+1) i s j t k) (st:=.set [122] (wH (n+1) i s j t k)) ?_ (fun {v us} h=>?_) (fun {v} h=>?_) (fun z=>?_) h'
 ·rw [Ac]; exact Aa (Ak (pZ hn hi hs hj ht hk) 3) (by decide)
 ·rw [e];have:=jE.sp w1.c (jE.sp s1 (jE.sp w2.a (jE.sp s2 (jE.se w3.b h))));have q:(.name [122]::.word nu::wI (n+1) i s j t k)++us=Tok.name [122]::Tok.word nu::sN (n+1) i++([Tok.word (eT s)]++(sN (n+1) j++([Tok.word (eT t)]++(sN (n+1) k++us)))):=by
   unfold wI; simp only [Ae,List.cons_append,List.nil_append]
  rw [q]; exact this
 ·rw [e];exact jE.Oy w1.c (jE.Oy s1 (jE.Oy w2.a (jE.Oy s2 (jE.VB w3.b h))))
 ·have q:wI (n+1) i s j t k++.word bJ::z=sN (n+1) i++.word (eT s)::(sN (n+1) j++.word (eT t)::(sN (n+1) k++.word bJ::z)):=by
   unfold wI; simp only [Ae,List.cons_append]
  show (cT (wI (n+1) i s j t k++.word bJ::z)).bind (fun e=>.ok (St.set [122] e.1,e.2))=_;rw [q,NT (nj _ i) (nj _ j) (nj _ k) (sg hs) (sg ht) semi]; rfl
theorem pM (m:Nat):bW (m:Int)=(Nat.toDigits 10 m).map Char.toNat:=by
 show (Nat.repr m).toList.map Char.toNat=_;rw [Nat.toList_repr]
theorem vX {m c:Nat}(h:c∈bW (m:Int)):aI c=true:=by
 rw [pM] at h;obtain ⟨ch,hc,rfl⟩:=List.mem_map.mp h;have r:=PyProof.Rows.digit_range (Nat.isDigit_of_mem_toDigits (by decide) (by decide) hc);exact Bool.and_eq_true_iff.mpr ⟨decide_eq_true r.1,decide_eq_true r.2⟩
theorem E4 (m:Nat):fC (bW (m:Int))=m:=by
 have e:∀ l:Tx,fC l=PySem.NumText.digitsVal l:=fun l=>by
  unfold fC PySem.NumText.digitsVal;congr 1;funext n c;rw [Nat.mul_comm]
 rw [e,pM];exact PySem.W.KIN.val_back m
theorem qi {m:Nat}(h:m<10 ^ 20):(bW (m:Int)).length<=20:=by
 rw [pM,Ah];exact PyProof.Rows.digits10_le (by decide) h
theorem NY {d:Nat}(h:aI d=true):bH d [32,10]=false∧Nat.beq d 123=false∧cP d=false:=by
 have h:=Ab h;exact (by decide +kernel:∀ d:Nat,d<58->48<=d->bH d [32,10]=false∧Nat.beq d 123=false∧cP d=false) d (Nat.lt_succ_of_le (Ax h.2)) (Ax h.1)
theorem vK {m:Nat}(h:m<10 ^ 20)(v:Tx):∃ d l,bW (m:Int)=d::l∧cX d (l++59::v)=.ok (some (.int m),59::v):=by
 have ha:=fun c=>@vX m c;have hl:=qi h;have hv:=E4 m;revert ha hl hv;cases hx:bW (m:Int) with
 | nil=>
  rw [pM] at hx;exact absurd (List.map_eq_nil_iff.mp hx) Nat.toDigits_ne_nil
 | cons d l=>
  intro ha hl hv;refine ⟨d,l,rfl,?_⟩;have hd:=NY (ha d (.head _));have tw:((d::l)++59::v).takeWhile aI=d::l:=by
   rw [List.takeWhile_append_of_pos ha];show d::l++[]=_;rw [List.append_nil]
  have dw:((d::l)++59::v).dropWhile aI=59::v:=by
   rw [List.dropWhile_append_of_pos ha]; rfl
  unfold cX;rw [hd.1,hd.2.1,hd.2.2,ha d (.head _)];show lu d (l++59::v)=_;unfold lu;rw [show (d::(l++59::v)).dropWhile aI=59::v from dw,show (d::(l++59::v)).takeWhile aI=d::l from tw,Nat.ble_eq_true_of_le (Aa hl (by decide:20<=600)),hv];rfl
theorem QW {m:Nat}(h:m<10 ^ 20):Pc ([121,58,61]++bW (m:Int)) [.set [121] (.int m)]:=by
 have e:∀ v,([121,58,61]++bW (m:Int))++59::v=121::58::61::(bW (m:Int)++59::v):=fun v=>rfl;have c1:∀ v,cX 121 (58::61::v)=.ok (some (.name [121]),58::61::v):=fun v=>rfl;have c2:∀ v,cX 58 (61::v)=.ok (some (.word nu),v):=fun v=>rfl;intro n' b' v' m' h';refine Pc.one (u:=[121,58,61]++bW (m:Int)) (ts:=[.name [121],.word nu,.int m]) (st:=.set [121] (.int m)) ?_ (fun {v us} h'=>?_) (fun {v} h'=>?_) (fun z=>rfl) h'
 ·rw [Ac];exact Aa (Ak (qi h) 3) (by decide)
 ·rw [e];obtain ⟨d,l,e1,e2⟩:=vK h v;refine bC.step (c1 _) (bC.step (c2 _) ?_);rw [e1];exact bC.step e2 h'
 ·rw [e];obtain ⟨d,l,e1,e2⟩:=vK h v;refine aT.step (c1 _) (aT.step (c2 _) ?_);rw [e1];exact aT.step e2 h'
section
variable {sc:List Scope}{st:List Int}{b b':Nat}{x:Tx}{l a i k:Nat}{e e':Ex}{u v:Int}
theorem Go.of {α:Type}{m:R α}{a:α}{k:α->Prop}{res:Option (List Int)}(h:m=.ok a)(hk:k a):Go m k res:=by rw [h]; exact hk
theorem aV (h:findS x sc 0=some (l,.var a))(hf:frameOf st l b=some b'):kJ sc st b x=.ok (b'+a):=by unfold kJ Fw; rw [h]; dsimp only; rw [hf]
theorem vU (h:findS x sc 0=some (l,.ref a))(hf:frameOf st l b=some b')(hr:st[b'+a]?=some (k:Int)):kJ sc st b x=.ok k:=by
 unfold kJ Fw; rw [h]; dsimp only; rw [hf];show (rd st (b'+a)).bind nat?=_;unfold rd; rw [hr]; rfl
theorem bZ (h:kJ sc st b x=.ok i)(hv:st[i]?=some v):bN sc st b (.name x)=.ok v:=by
 show (kJ sc st b x).bind (fun i=>rd st i)=_;rw [h];show rd st i=_;unfold rd; rw [hv]
theorem aO {o:Tx}{w:R Int}(h1:bN sc st b e=.ok u)(h2:bN sc st b e'=.ok v)(hr:iI o u v=w):bN sc st b (.bin o e e')=w:=by
 show (bN sc st b e).bind _=_;rw [h1];show (bN sc st b e').bind _=_;rw [h2]; exact hr
theorem mul_eq (h1:small u=true)(h2:small v=true):iI [42] u v=.ok (u*v):=by
 show (match small u&&small v with
  | true=>.ok (u*v)
  | false=>.bot)=R.ok (u*v)
 rw [h1,h2]; rfl
theorem gQ (h:st[b]?=some (b':Int)):frameOf st 1 b=some b':=by
 show (match st[b]? with
  | some (.ofNat v)=>some v
  | _=>Option.none)=_
 rw [h]
theorem Bd {c:Nat}(h:st[b]?=some (b':Int))(h':st[b']?=some (c:Int)):frameOf st 2 b=some c:=by
 show (match st[b]? with
  | some (.ofNat v)=>frameOf st 1 v
  | _=>Option.none)=_
 rw [h]; exact gQ h'
end
theorem fI (st l:List Int)(k:Nat):(st++l)[st.length+k]?=l[k]?:=by rw [List.getElem?_append_right (Af _ _),Nat.add_sub_cancel_left]
theorem yF {st:List Int}{l:List Int}{i:Nat}{v:Int}(h:i<st.length):(st++l).set i v=st.set i v++l:=List.set_append_left _ _ h
theorem wB (st l:List Int)(k:Nat)(v:Int):(st++l).set (st.length+k) v=st++l.set k v:=by rw [List.set_append_right _ _ (Af _ _),Nat.add_sub_cancel_left]
theorem Rs.st {st l:List Int}{k:Nat}(h:st.length<=10000)(hk:Nat.ble (l.length+(k+10)) 700000=true):Rs (st++l).length k:=by
 refine Nat.ble_eq_true_of_le ?_;rw [Ac,Nat.add_assoc];exact Aa (Aq h (Ad hk)) (by decide)
theorem Rs.two {n:Nat}(h:Rs n 2):Rs (n+2) 0:=by unfold Rs; rw [Nat.add_assoc]; exact h
theorem zy {st:List Int}{i:Nat}(h:i<st.length):st[i]?=some (st.getD i 0):=by rw [List.getD_eq_getElem?_getD,List.getElem?_eq_getElem h]; rfl
noncomputable def d6:Nat->Int
 | 0=>0
 | k+1=>d6 k+((k+1:Nat):Int)
noncomputable def qv (u:Int)(k:Nat)(d w:Int):Int:=(u+d6 k)*2+d+w
noncomputable def qo:Nat->Int->Int->List Int
 | 0,d,_=>[d-1]
 | k+1,d,w=>qo k (d-1) w++[qv 1 k (d-1) w+(d-1)]
noncomputable def qt:Nat->Nat
 | 0=>2
 | k+1=>qt k+1+(k+3)
noncomputable def nN:Tx:=[110]
noncomputable def nV:Tx:=[118]
noncomputable def nX:Tx:=[120]
noncomputable def nZ:Tx:=[122]
noncomputable def nG:Tx:=[103]
noncomputable def nQ:Tx:=[113]
noncomputable def qP:List (Tx×Bool):=[([110],false),([118],true)]
def km (sc:List Scope)(s:St)(x:Tx)(e:Ex):Prop:=∀ {code:List In} {f p p':Nat},At code sc f p s p'->At code sc f p (.set x e) p'
structure QC (code:List In)(dK bt:Scope)(Z qa ga:Nat):Prop where
 n0:findS nN [dK,bt] 0=some (0,.var 3)
 v0:findS nV [dK,bt] 0=some (0,.ref 4)
 x0:findS nX [dK,bt] 0=some (0,.var 5)
 g0:findS nG [dK,bt] 0=some (0,.proc ga [])
 n1:findS nN [[],dK,bt] 0=some (1,.var 3)
 v1:findS nV [[],dK,bt] 0=some (1,.ref 4)
 x1:findS nX [[],dK,bt] 0=some (1,.var 5)
 z1:findS nZ [[],dK,bt] 0=some (2,.var Z)
 q1:findS nQ [[],dK,bt] 0=some (2,.proc qa qP)
 body:∃ pb m1 m2 pe s,km [dK,bt] s nV (.bin [43] (.name nV) (.name nX))∧At code [dK,bt] 6 pb (.for nX (.name nN) (.int 1) false s) m1∧At code [dK,bt] 6 m1 (.call nG []) m2∧At code [dK,bt] 6 m2 (.write (.bin [43] (.name nX) (.name nN))) pe∧code[pe]?=some .ret∧
  ∀ {st:List Int} {b:Nat} {o:List Int} {t:Nat} {res:Option (List Int)},st.length+1<=900000->U code (st++[0]) b pb o t res->U code st b qa o t res
 NQ:∃ pb m1 m2 pe e,(Ex.wf e=true∧Nat.ble e.sz 20=true∧∀ {st:List Int} {b:Nat} {u d w:Int},small u=true->bN [[],dK,bt] st b (.name nV)=.ok u->bN [[],dK,bt] st b (.name nN)=.ok d->bN [[],dK,bt] st b (.name nZ)=.ok w->bN [[],dK,bt] st b e=.ok (u*2+d+w))∧
  At code [[],dK,bt] 3 pb (.set nV e) m1∧At code [[],dK,bt] 3 m1 (.set nN (.bin [45] (.name nN) (.int 1))) m2∧At code [[],dK,bt] 3 m2 (.if1 (.bin [62,61] (.name nN) (.int 0)) (.call nQ [.name nN,.name nX])) pe∧code[pe]?=some .ret∧
  ∀ {st:List Int} {b:Nat} {o:List Int} {t:Nat} {res:Option (List Int)},st.length<=900000->U code st b pb o t res->U code st b ga o t res
noncomputable def ad (ra:Nat)(v:Int)(st:List Int):List Int:=st.set ra (st.getD ra 0+v)
theorem Bs (ra:Nat)(v:Int)(st:List Int):(ad ra v st).length=st.length:=List.length_set
theorem pQ {st:List Int}{i:Nat}{v:Int}(h:i<st.length):(st.set i v).getD i 0=v:=by rw [List.getD_eq_getElem?_getD,List.getElem?_set_self h]; rfl
theorem Fo {st:List Int}{ra:Nat}(h:ra<st.length):ad ra 0 st=st:=by
 unfold ad;rw [Int.add_zero,List.getD_eq_getElem?_getD,List.getElem?_eq_getElem h];exact List.set_getElem_self h
theorem Oj {st:List Int}{ra:Nat}(h:ra<st.length)(v w:Int):ad ra w (ad ra v st)=ad ra (v+w) st:=by
 unfold ad;rw [pQ h,List.set_set,Int.add_assoc]
noncomputable def xf:Nat->Int->Int
 | 0,x=>x
 | _+1,_=>1
noncomputable def js (b' ret:Nat)(d:Int)(ra:Nat)(x:Int):List Int:=[0,(b':Int),(ret:Int),d,(ra:Int),x]
section
variable {code:List In}{dK bt:Scope}{Z qa ga:Nat}{o:List Int}{res:Option (List Int)}
theorem Nu (Q:QC code dK bt Z qa ga){s:St}(hs:km [dK,bt] s nV (.bin [43] (.name nV) (.name nX))){top q q' m1:Nat}(hA:At code [dK,bt] 8 q s q')
  (hT:∀ {st:List Int} {b:Nat} {o:List Int} {t:Nat} {res:Option (List Int)} {v w:Int},st.length=b+6->Rs (st.length+2) 0->
   (pf false v w=true->Go (kJ [dK,bt] (st++[v,w]) b nX) (fun i=>i<st.length+2∧U code ((st++[v,w]).set i v) b q o t res) res)->(pf false v w=false->U code st b m1 o t res)->U code (st++[v,w]) b top o (t+1) res)
  (hB:∀ {st:List Int} {b:Nat} {o:List Int} {t:Nat} {res:Option (List Int)} {v w:Int},st.length=b+6->Rs (st.length+2) 0->U code (st++[HW false v,w]) b top o t res->U code (st++[v,w]) b q' o t res)
  {b' ret ra:Nat} {d:Int}:∀ (k:Nat) (c:Int) (st:List Int) (x:Int) (t:Nat),c.toNat=k->ra<st.length->st.length<=10000->
  U code (ad ra (d6 k) st++js b' ret d ra (xf k x)) st.length m1 o t res->U code (st++js b' ret d ra x++[c,1]) st.length top o (t+(k+1)) res:=by
 intro k
 induction k with
 | zero=>
  intro c st x t hk sV hl g;refine hT Ac (Rs.two (Rs.st hl rfl)) (fun h=>?_) fun _=>?_
  ·exact absurd (Ax h) (Int.not_le.mpr (Int.lt_add_one_iff.mpr (Int.toNat_eq_zero.mp hk)))
  ·rw [show ad ra (d6 0) st=st from Fo sV] at g; exact g
 | succ k ih=>
  intro c st x t hk sV hl g;have hc:c=((k+1:Nat):Int):=by
   have h0:0<=c:=Int.le_of_lt (Int.lt_of_toNat_lt (hk▸Nat.succ_pos k));rw [← Int.toNat_of_nonneg h0,hk]
  refine hT Ac (Rs.two (Rs.st hl rfl)) (fun _=>?_) fun h=>?_
  ·refine Go.of (a:=st.length+5) (aV Q.x0 rfl) ⟨?_,?_⟩
   ·rw [Ac]; exact Nat.add_lt_add_left (by decide:5<8) _
   rw [Ae,wB];show U code (st++(js b' ret d ra c++[c,1])) st.length q o (t+(k+1)) res;have r4:(st++(js b' ret d ra c++[c,1]))[st.length+4]?=some (ra:Int):=fI st _ 4;have r5:(st++(js b' ret d ra c++[c,1]))[st.length+5]?=some c:=fI st _ 5;have ev:kJ [dK,bt] (st++(js b' ret d ra c++[c,1])) st.length nV=.ok ra:=vU Q.v0 rfl r4;refine At.set (hs hA) rfl (Rs.st hl rfl) (Go.of ev (Go.of (aO (bZ ev (bD (zy sV))) (bZ (aV Q.x0 rfl) r5) rfl) ⟨?_,?_⟩))
   ·rw [Ac]; exact An sV (Af _ _)
   rw [yF sV];show U code (ad ra c st++(js b' ret d ra c++[c,1])) st.length q' o (t+(k+1)) res;have e:=Bs ra c st;rw [← Ae,← e];refine hB Ac (Rs.two (Rs.st (e.symm▸hl) rfl)) ?_;have uH:(c-1).toNat=k:=by rw [hc]; show (((k:Int)+1)-1).toNat=k; rw [Int.add_sub_cancel]; rfl
   refine ih (c-1) (ad ra c st) c t uH (e.symm▸sV) (e.symm▸hl) ?_;rw [Oj sV,e,Int.add_comm c,show d6 k+c=d6 (k+1) by rw [hc]; rfl];have x1:xf k c=xf (k+1) x:=by
    cases k with
    | zero=>rw [hc]; rfl
    | succ k=>rfl
   rw [x1]; exact g
  ·rw [hc] at h;exact absurd (of_decide_eq_false h) fun q=>q (Int.ofNat_le.mpr (Au (Nat.zero_le k)))
end
theorem Ct {st:List Int}{ra i:Nat}{v:Int}(h:ra≠i):(ad ra v st)[i]?=st[i]?:=List.getElem?_set_ne h
section
variable {code:List In}{dK bt:Scope}{Z qa ga:Nat}{res:Option (List Int)}
noncomputable def VS:St:=.if1 (.bin [62,61] (.name nN) (.int 0)) (.call nQ [.name nN,.name nX])
theorem F3 (Q:QC code dK bt Z qa ga){k T t:Nat}{d w x2:Int}{st o o2:List Int}{b' ret ra:Nat}(hk:d.toNat=k)(sV:ra<st.length)(hZ:st[Z]?=some w)(fG:ra≠Z)(hl:st.length<=10000)(K3:small (st.getD ra 0+d6 k)=true)(ho:o2.length<900000)
  (inner:∀ p q p1 t',At code [[],dK,bt] 3 p VS q->U code (st.set ra (qv (st.getD ra 0) k d w)++(js b' ret (d-1) ra x2++[(st.length:Int),(st.length:Int),(p1:Int)])) (st.length+6) q o2 t' res->
   U code (st.set ra (qv (st.getD ra 0) k d w)++(js b' ret (d-1) ra (xf k 0)++[(st.length:Int),(st.length:Int),(p1:Int)])) (st.length+6) p o (t'+T) res)
  (g:U code (st.set ra (qv (st.getD ra 0) k d w)) b' ret (o2++[x2+(d-1)]) t res):U code (st++[0,(b':Int),(ret:Int)]++[d,(ra:Int)]) st.length qa o (t+T+1+(k+1)) res:=by
 obtain ⟨pb,m1,m2,pe,s,hs,hF,hG,hW,h5,h6⟩:=Q.body;obtain ⟨OF,n1,n2,Tw,e,⟨ew,es,ev⟩,gA,gB,gC,k5,k6⟩:=Q.NQ;have big:∀ {l:List Int} {k:Nat},Nat.ble (l.length+(k+10)) 700000=true->Rs (st++l).length k:=fun h=>Rs.st hl h;refine h6 (Aa (Aa (Ak (by decide:1<=10) _) (Ad ((Ae st _ _).symm▸big (l:=[0,(b':Int),(ret:Int)]++[d,(ra:Int)]) (k:=0) rfl:Rs (st++[0,(b':Int),(ret:Int)]++[d,(ra:Int)]).length 0))) (by decide)) ?_;rw [Ae,Ae];show U code (st++js b' ret d ra 0) st.length pb o (t+T+1+(k+1)) res;obtain ⟨top,q,q',hA,hE,hT,hB⟩:=At.for hF rfl rfl;refine hE (Rs.st hl rfl) (Rs.st hl rfl) (Go.of (a:=d) (bZ (aV Q.n0 rfl) (fI st _ 3)) ?_);refine Nu Q hs hA hT hB k d st 0 _ hk sV hl ?_;have e1:=Bs ra (d6 k) st;have Dr:ra<(ad ra (d6 k) st).length:=e1.symm▸sV;have hg:(ad ra (d6 k) st).getD ra 0=st.getD ra 0+d6 k:=pQ sV;have VU:(ad ra (d6 k) st)[Z]?=some w:=(Ct fG).trans hZ;have hv:(ad ra (d6 k) st).set ra (qv (st.getD ra 0) k d w)=st.set ra (qv (st.getD ra 0) k d w):=List.set_set ..;rw [← hv] at inner g;rw [← e1] at inner hl ⊢;rw [← hg] at K3;have qe:qv (st.getD ra 0) k d w=(ad ra (d6 k) st).getD ra 0*2+d+w:=by rw [hg]; rfl
 rw [qe] at inner g;clear hv qe hg e1 hE hT hB hF hs hA;generalize ad ra (d6 k) st=s1 at *;refine At.call (l:=0) (a:=ga) (q:=[]) hG Q.g0 (fun e he=>absurd he List.not_mem_nil) (Rs.st hl rfl) ⟨s1.length,rfl,?_⟩;rw [Ae,Ae,Ac];have e9:(s1++(js b' ret d ra (xf k 0)++([(s1.length:Int),(s1.length:Int),(m2:Int)]++[]))).length=s1.length+9:=Ac;refine k6 (by rw [e9]; exact Aa (Al hl 9) (by decide)) ?_;show U code (s1++(js b' ret d ra (xf k 0)++[(s1.length:Int),(s1.length:Int),(m2:Int)])) (s1.length+6) OF o (t+T) res;have p6:(s1++(js b' ret d ra (xf k 0)++[(s1.length:Int),(s1.length:Int),(m2:Int)]))[s1.length+6]?=some (s1.length:Int):=fI s1 _ 6;have er:kJ [[],dK,bt] (s1++(js b' ret d ra (xf k 0)++[(s1.length:Int),(s1.length:Int),(m2:Int)])) (s1.length+6) nV=.ok ra:=vU Q.v1 (gQ p6) (fI s1 _ 4);have ez:bN [[],dK,bt] (s1++(js b' ret d ra (xf k 0)++[(s1.length:Int),(s1.length:Int),(m2:Int)])) (s1.length+6) (.name nZ)=.ok w:=bZ (aV (b':=0) Q.z1 (Bd p6 (fI s1 _ 0))) ((Nat.zero_add Z).symm▸bD VU);have en:bN [[],dK,bt] (s1++(js b' ret d ra (xf k 0)++[(s1.length:Int),(s1.length:Int),(m2:Int)])) (s1.length+6) (.name nN)=.ok d:=bZ (aV Q.n1 (gQ p6)) (fI s1 _ 3);refine At.set gA ew (Nat.ble_eq_true_of_le (Aa (Ak (Al (Ad es) 10) _) (Ad (Rs.st (k:=20) hl rfl)))) (Go.of er (Go.of (ev K3 (bZ er (bD (zy Dr))) en ez) ⟨?_,?_⟩))
 ·rw [Ac]; exact An Dr (Af _ _)
 rw [yF Dr];have e2:(s1.set ra (s1.getD ra 0*2+d+w)).length=s1.length:=List.length_set;rw [← e2] at inner hl ⊢;generalize s1.set ra (s1.getD ra 0*2+d+w)=s2 at *;have p7:(s2++(js b' ret d ra (xf k 0)++[(s2.length:Int),(s2.length:Int),(m2:Int)]))[s2.length+6]?=some (s2.length:Int):=fI s2 _ 6;refine At.set gB rfl (Rs.st hl rfl) (Go.of (aV Q.n1 (gQ p7)) (Go.of (a:=d-1) (aO (bZ (aV Q.n1 (gQ p7)) (fI s2 _ 3)) rfl rfl) ⟨?_,?_⟩))
 ·rw [Ac]; exact Nat.add_lt_add_left (by decide:3<9) _
 rw [wB];refine inner n2 _ m2 t gC ?_;have e3:s2++(js b' ret (d-1) ra x2++[(s2.length:Int),(s2.length:Int),(m2:Int)])=(s2++js b' ret (d-1) ra x2)++[(s2.length:Int),(s2.length:Int),(m2:Int)]++[]:=by rw [Ae,Ae]; rfl
 have e4:(s2++js b' ret (d-1) ra x2).length=s2.length+6:=Ac;rw [e3];refine fun f=>.step (.ret k5 e4.symm (Nat.succ_ne_zero _)) ?_;refine At.write hW rfl (Rs.st hl rfl) ho (Go.of (aO (bZ (aV Q.x0 rfl) (fI s2 _ 5)) (bZ (aV Q.n0 rfl) (fI s2 _ 3)) rfl) ?_) f;show U code (s2++([0,(b':Int),(ret:Int)]++[d-1,(ra:Int),x2])) s2.length pe (o2++[x2+(d-1)]) t res;rw [← Ae];exact fun f=>.step (.ret h5 rfl (Nat.ne_of_gt (Ao (Nat.zero_le _) (e2.symm▸Dr)))) (g f)
end
theorem zZ:∀ (k:Nat) (d w:Int),(qo k d w).length=k+1:=by
 intro k
 induction k with
 | zero=>intro d w; rfl
 | succ k ih=>intro d w; exact List.length_append.trans (congrArg (·+1) (ih (d-1) w))
section
variable {code:List In}{dK bt:Scope}{Z qa ga:Nat}{res:Option (List Int)}
theorem RD (Q:QC code dK bt Z qa ga):∀ (k:Nat) (d:Int) (st:List Int) (b' ret ra t:Nat) (o:List Int) (w:Int),d.toNat=k->ra<st.length->st[Z]?=some w->ra≠Z->st.length+9*k<=10000->o.length+k<900000->small (st.getD ra 0+d6 k)=true->(∀ j,j<k->small (1+d6 j)=true)->
  U code (st.set ra (qv (st.getD ra 0) k d w)) b' ret (o++qo k d w) t res->U code (st++[0,(b':Int),(ret:Int)]++[d,(ra:Int)]) st.length qa o (t+qt k) res:=by
 intro k
 induction k with
 | zero=>
  intro d st b' ret ra t o w hk sV hZ fG hl ho K3 _ g;refine F3 (T:=0) (x2:=0) (o2:=o) Q hk sV hZ fG hl K3 ho (fun p q p1 t' hA g=>?_) (by rw [Int.zero_add]; exact g);obtain ⟨q',hC,hR⟩:=At.if1 hA rfl;have hs:(st.set ra (qv (st.getD ra 0) 0 d w)).length=st.length:=List.length_set;have hl:st.length<=10000:=hl;rw [← hs] at hl g ⊢;generalize st.set ra (qv (st.getD ra 0) 0 d w)=s1 at *;have p6:(s1++(js b' ret (d-1) ra (xf 0 0)++[(s1.length:Int),(s1.length:Int),(p1:Int)]))[s1.length+6]?=some (s1.length:Int):=fI s1 _ 6;refine hR (Rs.st hl rfl) (Go.of (a:=b2i (decide (d-1 ≥ 0))) (aO (bZ (aV Q.n1 (gQ p6)) (fI s1 _ 3)) rfl rfl) ?_);rw [decide_eq_false (show ¬ d-1 ≥ 0 from Int.not_le.mpr (Int.sub_lt_of_sub_lt (by rw [Int.sub_zero]; exact Int.lt_add_one_iff.mpr (Int.toNat_eq_zero.mp hk))))];exact ⟨fun _=>g,fun h=>absurd rfl h⟩
 | succ k ih=>
  intro d st b' ret ra t o w hk sV hZ fG hl ho K3 wk g;have hd:d=((k+1:Nat):Int):=by
   have h0:0<=d:=Int.le_of_lt (Int.lt_of_toNat_lt (hk▸Nat.succ_pos k));rw [← Int.toNat_of_nonneg h0,hk]
  have LC:d-1=(k:Int):=by rw [hd]; exact Int.add_sub_cancel (k:Int) 1
  have OZ:st.length<=10000:=Aa (Af _ _) hl;have ia:(o++qo k (d-1) w).length<900000:=by rw [Ac,zZ]; exact ho
  rw [show t+qt (k+1)=t+(qt k+1)+1+(k+1+1) from (Nat.add_assoc t (qt k+1) (k+3)).symm.trans (Aw (t+(qt k+1)) (k+2) 1)];refine F3 (T:=qt k+1) (x2:=qv 1 k (d-1) w) (o2:=o++qo k (d-1) w) Q hk sV hZ fG OZ K3 ia (fun p q p1 t' hA g=>?_) (by rw [Ae]; exact g);obtain ⟨q',hC,hR⟩:=At.if1 hA rfl;have hz:(st.set ra (qv (st.getD ra 0) (k+1) d w))[Z]?=some w:=(List.getElem?_set_ne fG).trans hZ;have hs:(st.set ra (qv (st.getD ra 0) (k+1) d w)).length=st.length:=List.length_set;rw [← hs] at hl OZ g ⊢;generalize st.set ra (qv (st.getD ra 0) (k+1) d w)=s1 at *;show U code (s1++(js b' ret (d-1) ra 1++[(s1.length:Int),(s1.length:Int),(p1:Int)])) (s1.length+6) p o (t'+(qt k+1)) res;have p6:(s1++(js b' ret (d-1) ra 1++[(s1.length:Int),(s1.length:Int),(p1:Int)]))[s1.length+6]?=some (s1.length:Int):=fI s1 _ 6;have en:bN [[],dK,bt] (s1++(js b' ret (d-1) ra 1++[(s1.length:Int),(s1.length:Int),(p1:Int)])) (s1.length+6) (.name nN)=.ok (d-1):=bZ (aV Q.n1 (gQ p6)) (fI s1 _ 3);refine hR (Rs.st OZ rfl) (Go.of (a:=b2i (decide (d-1 ≥ 0))) (aO en rfl rfl) ?_);rw [decide_eq_true (show d-1 ≥ 0 by rw [LC]; exact Av k)];refine ⟨fun h=>(by cases h),fun _=>?_⟩;refine At.call (l:=2) (a:=qa) (q:=qP) hC Q.q1 ?_ (Rs.st OZ rfl) (Go.of (a:=[d-1,((s1.length+5:Nat):Int)]) ?_ ⟨0,Bd p6 (fI s1 _ 0),?_⟩)
  ·intro e he;rcases List.mem_cons.mp he with rfl | he
   ·rfl
   ·rw [List.mem_singleton.mp he]; rfl
  ·show (bN [[],dK,bt] _ _ (.name nN)).bind _=_;rw [en];show (((kJ [[],dK,bt] (s1++(js b' ret (d-1) ra 1++[(s1.length:Int),(s1.length:Int),(p1:Int)])) (s1.length+6) nX).bind _).bind _).bind _=_;rw [show kJ [[],dK,bt] (s1++(js b' ret (d-1) ra 1++[(s1.length:Int),(s1.length:Int),(p1:Int)])) (s1.length+6) nX=.ok (s1.length+5) from aV Q.x1 (gQ p6)]; rfl
  ·have hlen:(s1++(js b' ret (d-1) ra 1++[(s1.length:Int),(s1.length:Int),(p1:Int)])).length=s1.length+9:=Ac;have WS:Z<s1.length:=(Ai hz).1;have g5:(s1++(js b' ret (d-1) ra 1++[(s1.length:Int),(s1.length:Int),(p1:Int)])).getD (s1.length+5) 0=1:=by rw [List.getD_eq_getElem?_getD,fI]; rfl
   refine ih (d-1) _ (s1.length+6) q (s1.length+5) t' o w ?_ ?_ (bD hz) (Nat.ne_of_gt (An WS (Af _ _))) ?_ (Nat.lt_of_succ_lt ho) ?_ (fun j hj=>wk j (Nat.lt_succ_of_lt hj)) ?_
   ·rw [LC]; rfl
   ·rw [hlen]; exact Nat.add_lt_add_left (by decide:5<9) _
   ·rw [hlen,Nat.add_assoc,Nat.add_comm 9]; exact hl
   ·rw [g5]; exact wk k (Nat.lt_succ_self k)
   ·rw [g5,wB]; exact g
end
theorem B9 (m n:Nat):((m:Int)).fdiv (n:Int)=((m / n:Nat):Int):=by
 rw [Int.fdiv_eq_ediv_of_nonneg _ (Av n)]; rfl
theorem rC (a b:Int):x7 a b=a.tdiv b:=by
 unfold x7;rw [B9];cases a with
 | ofNat m=>
  cases b with
  | ofNat n=>rw [decide_eq_false (Int.not_lt.mpr (Int.mul_nonneg (Av m) (Av n)):¬ Int.ofNat m*Int.ofNat n<0)]; rfl
  | negSucc n=>
   cases m with
   | zero=>rw [show Int.ofNat 0*Int.negSucc n=0 from Int.zero_mul _]; show Int.ofNat (0 / (n+1))=-Int.ofNat (0 / (n+1)); rw [Nat.zero_div]; rfl
   | succ m=>rw [decide_eq_true (Int.mul_neg_of_pos_of_neg (Int.natCast_pos.mpr (Nat.succ_pos m)) (Int.negSucc_lt_zero n):Int.ofNat (m+1)*Int.negSucc n<0)]; rfl
 | negSucc m=>
  cases b with
  | ofNat n=>
   cases n with
   | zero=>rw [show Int.negSucc m*Int.ofNat 0=0 from Int.mul_zero _]; show Int.ofNat ((m+1) / 0)=-Int.ofNat ((m+1) / 0); rw [Nat.div_zero]; rfl
   | succ n=>rw [decide_eq_true (Int.mul_neg_of_neg_of_pos (Int.negSucc_lt_zero m) (Int.natCast_pos.mpr (Nat.succ_pos n)):Int.negSucc m*Int.ofNat (n+1)<0)]; rfl
  | negSucc n=>rw [decide_eq_false (Int.not_lt.mpr (Av ((m+1)*(n+1))):¬ Int.negSucc m*Int.negSucc n<0)]; rfl
noncomputable def rem (a b:Int):Int:=a-x7 a b*b
theorem lV (a b:Int):rem a b=a.tmod b:=by
 unfold rem;rw [rC,Int.tmod_def,Int.mul_comm]
theorem Kc (m n:Nat):(m:Int).fmod (n:Int)=((m%n:Nat):Int):=by
 rw [Int.fmod_eq_emod_of_nonneg _ (Av n)]; rfl
theorem rest_eq (a b:Int):(if a<0 then -((a.natAbs:Int).fmod (b.natAbs:Int)) else (a.natAbs:Int).fmod (b.natAbs:Int))=rem a b:=by
 rw [lV,Kc];cases a with
 | ofNat m=>
  rw [if_neg (show ¬ Int.ofNat m<0 from Int.not_lt.mpr (Av m))];cases b<;>rfl
 | negSucc m=>
  rw [if_pos (Int.negSucc_lt_zero m)];cases b<;>rfl
theorem div_eq {a b:Int}(hb:b≠0):(a-rem a b).fdiv b=x7 a b:=by
 unfold rem;rw [Int.sub_sub_self];exact Int.mul_fdiv_cancel _ hb
noncomputable def oS (o:Nat)(a b:Int):Option Int:=match o with
 | 0=>some (a+b)
 | 1=>some (a-b)
 | 2=>some (a*b)
 | 3=>(match decide (b=0) with
  | true=>Option.none
  | false=>some (x7 a b))
 | 4=>(match decide (b=0) with
  | true=>Option.none
  | false=>some (rem a b))
 | 5=>some (a-b)
 | _=>some (a*b)
noncomputable def Cu:Option Int->R Int
 | some v=>.ok v
 | Option.none=>.err
theorem i4 (o:Nat){a b:Int}(ha:small a=true)(hb:small b=true):iI (eT o) a b=Cu (oS o a b):=by
 have mul:iI [42] a b=.ok (a*b):=mul_eq ha hb;have dv:∀ x,n5 x a b=Cu (match decide (b=0) with | true=>Option.none | false=>some (match x with | true=>x7 a b | false=>rem a b)):=fun x=>by
  unfold n5;cases decide (b=0) with
  | true=>rfl
  | false=>
   show (match small a&&small b with | true=>_ | false=>R.bot)=_
   rw [ha,hb]; cases x<;>rfl
 match o with
 | 0=>rfl
 | 1=>rfl
 | 2=>exact mul
 | 3=>exact dv true
 | 4=>exact dv false
 | 5=>rfl
 | _+6=>exact mul
def bd (n:Nat)(v:Int):Prop:=v.natAbs<2 ^ n
section
variable {n m i j:Nat}{u v a b:Int}
theorem bd.le (h:bd n v)(hm:n<=m):bd m v:=An h (Nat.pow_le_pow_right (by decide) hm)
theorem bd.small (h:bd n v)(hn:n<=1000):small v=true:=decide_eq_true (h.le hn)
theorem bd.neg (h:bd n v):bd n (-v):=by unfold bd; rw [Int.natAbs_neg]; exact h
theorem bd.add (h:bd n u)(h':bd n v):bd (n+1) (u+v):=Ao (Int.natAbs_add_le u v) (by rw [Nat.pow_succ,Nat.mul_two]; exact Nat.add_lt_add h h')
theorem bd.sub (h:bd n u)(h':bd n v):bd (n+1) (u-v):=h.add h'.neg
theorem bd.mul (h:bd i u)(h':bd j v):bd (i+j) (u*v):=by unfold bd; rw [Int.natAbs_mul,Nat.pow_add]; exact Nat.mul_lt_mul'' h h'
theorem K9 (h:Nat.ble (v.natAbs+1) (2 ^ n)=true):bd n v:=Ad h
theorem KC (h:bd n a):bd n (rem a b):=by
 rw [lV]; unfold bd;rw [Int.natAbs_tmod];exact Ao (Nat.mod_le _ _) h
theorem KD (h:bd n a):bd n (x7 a b):=by
 rw [rC]; unfold bd;rw [Int.natAbs_tdiv];exact Ao (Nat.div_le_self _ _) h
def CB (n:Nat):Option Int->Prop
 | some v=>bd n v
 | Option.none=>True
theorem uP (o:Nat)(h:bd (i+1) a)(h':bd (j+1) b):CB (i+j+2) (oS o a b):=by
 have l1:i+1<=i+j+1:=Au (Af i j);have l2:j+1<=i+j+1:=Au (Ar j i);have m:bd (i+j+2) (a*b):=(h.mul h').le (Nat.le_of_eq (by rw [Aw i 1]; exact (Nat.add_assoc (i+(j+1)) 1 0)▸rfl));have dv:∀ {w:Int},bd (i+1) w->CB (i+j+2) (match decide (b=0) with | true=>Option.none | false=>some w):=fun hw=>by
  cases decide (b=0) with
  | true=>trivial
  | false=>exact hw.le (Nat.le_succ_of_le l1)
 match o with
 | 0=>exact (h.le l1).add (h'.le l2)
 | 1=>exact (h.le l1).sub (h'.le l2)
 | 2=>exact m
 | 3=>exact dv (KD h)
 | 4=>exact dv (KC h)
 | 5=>exact (h.le l1).sub (h'.le l2)
 | _+6=>exact m
end
noncomputable def nY:Tx:=[121]
noncomputable def nA:Tx:=[97]
noncomputable def mm (bz:List Int)(x y:Int)(arr:List Int)(z:Int):List Int:=0::0::0::x::y::(bz++(arr++[z]))
structure MV (S:Scope)(bz:List Int)(n qa:Nat):Prop where
 x:findS nX [S] 0=some (0,.var 3)
 y:findS nY [S] 0=some (0,.var 4)
 a:findS nA [S] 0=some (0,.arr (5+bz.length) n)
 z:findS nZ [S] 0=some (0,.var (5+(bz.length+n)))
 q:findS nQ [S] 0=some (0,.proc qa qP)
 b1:bz.length<=1
 n3:n<=3
 n1:1<=n
section
variable {S:Scope}{bz tmp arr:List Int}{n qa i:Nat}{x y z v:Int}
theorem pC (ha:arr.length=n):(mm bz x y arr z).length=5+(bz.length+(n+1)):=by
 show (bz++(arr++[z])).length+1+1+1+1+1=_;rw [Ac,Ac,ha,Nat.add_comm 5]; rfl
theorem Ge (l:List Int)(k:Nat):(0::0::0::x::y::l)[5+k]?=l[k]?:=by rw [Nat.add_comm]; rfl
theorem Gb (l:List Int)(k:Nat):(0::0::0::x::y::l).set (5+k) v=0::0::0::x::y::l.set k v:=by rw [Nat.add_comm]; rfl
theorem rZ (ha:arr.length=n):(mm bz x y arr z)[5+(bz.length+n)]?=some z:=by
 unfold mm;rw [Ge,fI,← ha];exact fI arr [z] 0
theorem sZ (ha:arr.length=n):(mm bz x y arr z).set (5+(bz.length+n)) v=mm bz x y arr v:=by
 unfold mm;rw [Gb,wB,← ha];exact congrArg (fun l=>0::0::0::x::y::(bz++l)) (wB arr [z] 0 v)
theorem rA (ha:arr.length=n)(hi:i<n):(mm bz x y arr z)[5+(bz.length+i)]?=some (arr.getD i 0):=by
 unfold mm;rw [Ge,fI];exact bD (zy (ha▸hi))
theorem sA (ha:arr.length=n)(hi:i<n):(mm bz x y arr z).set (5+(bz.length+i)) v=mm bz x y (arr.set i v) z:=by
 unfold mm;rw [Gb,wB,yF (ha▸hi)]
theorem Uw (V:MV S bz n qa)(st:List Int):kJ [S] st 0 nZ=.ok (5+(bz.length+n)):=(aV V.z rfl).trans (congrArg R.ok (Nat.zero_add _))
theorem eX (V:MV S bz n qa):bN [S] (mm bz x y arr z++tmp) 0 (.name nX)=.ok x:=bZ (aV V.x rfl) rfl
theorem eY (V:MV S bz n qa):bN [S] (mm bz x y arr z++tmp) 0 (.name nY)=.ok y:=bZ (aV V.y rfl) rfl
theorem eZ (V:MV S bz n qa)(ha:arr.length=n):bN [S] (mm bz x y arr z++tmp) 0 (.name nZ)=.ok z:=bZ (Uw V _) (bD (rZ ha))
noncomputable def qA (n:Nat)(v:Int):Bool:=decide (0<=v∧v<(n:Int))
theorem eI (V:MV S bz n qa)(st:List Int):yj [S] st 0 nA (.ok v)=(match qA n v with | true=>.ok (5+(bz.length+v.toNat)) | false=>.err):=by
 unfold yj; rw [V.a];show (match qA n v with | true=>(Fw st 0 0 (5+bz.length)).bind fun k=>.ok (v.toNat+k) | false=>.err)=_
 cases qA n v with
 | false=>rfl
 | true=>exact congrArg R.ok (by rw [Nat.zero_add,Nat.add_comm,Nat.add_assoc])
theorem vQ (hi:i<n):qA n (i:Int)=true:=decide_eq_true ⟨Av i,Int.ofNat_lt.mpr hi⟩
theorem eA (V:MV S bz n qa)(ha:arr.length=n)(hi:i<n):bN [S] (mm bz x y arr z++tmp) 0 (.at nA (.int i))=.ok (arr.getD i 0):=by
 show (yj [S] (mm bz x y arr z++tmp) 0 nA (.ok (i:Int))).bind _=_;rw [eI V,vQ hi];show rd (mm bz x y arr z++tmp) (5+(bz.length+i))=_;unfold rd; rw [bD (rA ha hi)]
theorem jM {sc:List Scope}{st:List Int}{b:Nat}{u:Int}{e:Ex}(h:bN sc st b e=.ok u):bN sc st b (.neg e)=.ok (-u):=by
 show (bN sc st b e).bind _=_;rw [h]; rfl
noncomputable def wV (x y z l:Int):Nat->Int
 | 0=>x
 | 1=>y
 | 2=>z
 | 3=>l
 | 4=>-x
 | 5=>y-x
 | 6=>2
 | _=>-3
theorem Q5 (V:MV S bz n qa)(ha:arr.length=n)(i:Nat):bN [S] (mm bz x y arr z++tmp) 0 (sO n i)=.ok (wV x y z (arr.getD (n-1) 0) i):=by
 match i with
 | 0=>exact eX V
 | 1=>exact eY V
 | 2=>exact eZ V ha
 | 3=>exact eA V ha (Nat.sub_lt V.n1 Nat.one_pos)
 | 4=>exact jM (eX V)
 | 5=>exact aO (eY V) (eX V) rfl
 | 6=>rfl
 | _+7=>rfl
theorem LX {a:Nat}(h2:2<=a)(hx:bd a x)(hy:bd a y)(hz:bd a z)(hl:bd a v)(i:Nat):bd (a+1) (wV x y z v i):=by
 have le:a<=a+1:=Nat.le_succ a
 match i with
 | 0=>exact hx.le le
 | 1=>exact hy.le le
 | 2=>exact hz.le le
 | 3=>exact hl.le le
 | 4=>exact hx.neg.le le
 | 5=>exact hy.sub hx
 | 6=>exact (K9 rfl:bd 2 2).le (Aa h2 le)
 | _+7=>exact (K9 rfl:bd 2 (-3)).le (Aa h2 le)
noncomputable def o5 (i s j t k:Nat)(w:Nat->Int):Option Int:=match mulQ s,mulQ t with
 | false,true=>(oS t (w j) (w k)).bind fun v=>oS s (w i) v
 | _,_=>(oS s (w i) (w j)).bind fun v=>oS t v (w k)
theorem Kg {sc:List Scope}{st:List Int}{b:Nat}{m:Option Int}{a c:Ex}{f:Int->Option Int}{o:Tx}{u:Int}(h1:bN sc st b a=.ok u)(h2:bN sc st b c=Cu m)(h:∀ v,m=some v->iI o u v=Cu (f v)):bN sc st b (.bin o a c)=Cu (m.bind f):=by
 show (bN sc st b a).bind _=_;rw [h1];show (bN sc st b c).bind _=_;rw [h2];cases m with
 | none=>rfl
 | some v=>exact h v rfl
theorem Kh {sc:List Scope}{st:List Int}{b:Nat}{m:Option Int}{a c:Ex}{f:Int->Option Int}{o:Tx}{u:Int}(h1:bN sc st b c=.ok u)(h2:bN sc st b a=Cu m)(h:∀ v,m=some v->iI o v u=Cu (f v)):bN sc st b (.bin o a c)=Cu (m.bind f):=by
 show (bN sc st b a).bind _=_;rw [h2];cases m with
 | none=>rfl
 | some v=>
  show (bN sc st b c).bind _=_;rw [h1]; exact h v rfl
theorem tK {a:Nat}{m:Option Int}(h:CB a m)(e:m=some v):bd a v:=by rw [e] at h; exact h
theorem rJ {a c:Nat}{m:Option Int}{f:Int->Option Int}(h:CB a m)(hf:∀ v,bd a v->CB c (f v)):CB c (m.bind f):=by
 cases m with
 | none=>trivial
 | some v=>exact hf v h
theorem tG (a:Nat):a+a+1+a+2=3*a+3:=by rw [Nat.succ_mul,Nat.succ_mul,Nat.one_mul,Aw (a+a) 1 a]
theorem z6 (a:Nat):a+(a+a+1)+2=3*a+3:=by rw [Nat.add_comm a (a+a+1)]; exact tG a
theorem z5 (V:MV S bz n qa)(ha:arr.length=n){a:Nat}(h2:2<=a)(h4:a<=400)(hx:bd a x)(hy:bd a y)(hz:bd a z)(hl:bd a (arr.getD (n-1) 0))(i s j t k:Nat) :
  bN [S] (mm bz x y arr z++tmp) 0 (wH n i s j t k)=Cu (o5 i s j t k (wV x y z (arr.getD (n-1) 0)))∧CB (3*a+3) (o5 i s j t k (wV x y z (arr.getD (n-1) 0))):=by
 have W:=fun i=>Q5 (tmp:=tmp) (x:=x) (y:=y) (z:=z) V ha i;have B:=fun i=>LX h2 hx hy hz hl i;have sb:=fun o i j=>uP o (B i) (B j);have sm:∀ {v},bd (a+a+2) v->small v=true:=fun h=>h.small (Aa (Al (Aq h4 h4) 2) (by decide));have B2:=fun i=>(B i).le (Aq (Af a a) (by decide:1<=2));unfold wH o5 Ov;have p1:=fun (_:Unit)=>show bN [S] (mm bz x y arr z++tmp) 0 (.bin (eT s) (sO n i) (.bin (eT t) (sO n j) (sO n k)))=_ from Kg (W i) (aO (W j) (W k) (i4 t (sm (B2 j)) (sm (B2 k)))) fun v e=>i4 s (sm (B2 i)) (sm (tK (sb t j k) e));have p2:=fun (_:Unit)=>show bN [S] (mm bz x y arr z++tmp) 0 (.bin (eT t) (.bin (eT s) (sO n i) (sO n j)) (sO n k))=_ from Kh (W k) (aO (W i) (W j) (i4 s (sm (B2 i)) (sm (B2 j)))) fun v e=>i4 t (sm (tK (sb s i j) e)) (sm (B2 k));have q1:=fun (_:Unit)=>rJ (c:=3*a+3) (f:=fun v=>oS s (wV x y z (arr.getD (n-1) 0) i) v) (sb t j k) fun v h=>z6 a▸uP s (B i) h;have q2:=fun (_:Unit)=>rJ (c:=3*a+3) (f:=fun v=>oS t v (wV x y z (arr.getD (n-1) 0) k)) (sb s i j) fun v h=>tG a▸uP t h (B k);cases mulQ s with
 | false=>cases mulQ t with
  | false=>exact ⟨p2 (),q2 ()⟩
  | true=>exact ⟨p1 (),q1 ()⟩
 | true=>cases mulQ t with
  | false=>exact ⟨p2 (),q2 ()⟩
  | true=>exact ⟨p2 (),q2 ()⟩
end
noncomputable def GU (u:Nat):Tx:=match Nat.blt u 2 with
 | true=>[45,50-u]
 | false=>[46+u]
noncomputable def x9 (u:Nat):Ex:=match Nat.blt u 2 with
 | true=>.neg (.int (2-u))
 | false=>.int (u-2)
noncomputable def KS:Nat->Tx
 | 0=>[45,49]
 | i+1=>[48+i]
noncomputable def Cz:Nat->Ex
 | 0=>.neg (.int 1)
 | i+1=>.int i
noncomputable def GQ:Nat->Tx
 | 0=>[61]
 | 1=>[60,62]
 | 2=>[60]
 | 3=>[60,61]
 | 4=>[62]
 | _=>[62,61]
noncomputable def mW (k u:Nat):Tx:=match k with
 | 0=>[97,91]++KS u++[93]++[58,61,122]
 | 1=>[113,40,122,32,109,111,100,32,51,44]++([97,91]++KS u++[93])++[41]
 | 2=>[113,40,122,32,109,111,100,32,51,44,120,41]
 | 3=>[105,102,32,120]++GQ u++[122,32,109,111,100,32,51,32,116,104,101,110,32,105,102,32,111,100,100,40,122,41,116,104,101,110,32,120,58,61,122,45,49,32,101,108,115,101,32,121,58,61,120]
 | 4=>[102,111,114,32,120,58,61]++GU u++[32,116,111,32,122,32,109,111,100,32,51,32,100,111,32,98,101,103,105,110,32,121,58,61,121,45,120,59,122,58,61,122,43,49,32,101,110,100]
 | 5=>[102,111,114,32,120,58,61]++GU u++[32,100,111,119,110,116,111,32,122,32,109,111,100,32,51,32,100,111,32,102,111,114,32,121,58,61,120,32,116,111,32,49,32,100,111,32,98,101,103,105,110,32,122,58,61,122,43,121,59,120,58,61,55,32,101,110,100]
 | 6=>[120,58,61]++GU u++[59,119,104,105,108,101,32,120,60,122,32,109,111,100,32,51,32,100,111,32,98,101,103,105,110,32,120,58,61,120,43,49,59,121,58,61,121,43,120,32,101,110,100]
 | _=>[120,58,61]++GU u++[59,114,101,112,101,97,116,32,120,58,61,120,43,49,59,121,58,61,121,43,120,32,117,110,116,105,108,32,120,62,61,122,32,109,111,100,32,51]
noncomputable def nO:Ex:=.bin Dc (.name nZ) (.int 3)
noncomputable def plus (x y:Tx):St:=.set x (.bin [43] (.name x) (.name y))
noncomputable def inc (x:Tx):St:=.set x (.bin [43] (.name x) (.int 1))
noncomputable def TV (u:Nat):St:=.if1 (.bin (GQ u) (.name nX) nO) (.if2 (.odd (.name nZ)) (.set nX (.bin [45] (.name nZ) (.int 1))) (.set nY (.name nX)))
noncomputable def b4:St:=.nk (.seq (.set nY (.bin [45] (.name nY) (.name nX))) (.one (inc nZ)))
noncomputable def b5:St:=.nk (.seq (plus nZ nY) (.one (.set nX (.int 7))))
noncomputable def i5:St:=.for nY (.name nX) (.int 1) true b5
noncomputable def b6:St:=.seq (inc nX) (.one (plus nY nX))
noncomputable def v9 (k u:Nat):List St:=match k with
 | 0=>[.setAt nA (Cz u) (.name nZ)]
 | 1=>[.call nQ [nO,.at nA (Cz u)]]
 | 2=>[.call nQ [nO,.name nX]]
 | 3=>[TV u]
 | 4=>[.for nX (x9 u) nO true b4]
 | 5=>[.for nX (x9 u) nO false i5]
 | 6=>[.set nX (x9 u),.gf (.bin [60] (.name nX) nO) (.nk b6)]
 | _=>[.set nX (x9 u),.rep b6 (.bin [62,61] (.name nX) nO)]
noncomputable def u6:List Nat:=[0,1,2,3,4,5]
noncomputable def wR:List (Nat×Nat):=[0,1,2,3,4,5,6,7].flatMap fun k=>u6.map fun u=>(k,u)
theorem jf {k u:Nat}(hk:k<8)(hu:u<6):(k,u)∈wR:=by
 have m:∀ {m:Nat},m<6->m∈u6:=fun {m} h=>(by decide:∀ m<6,m∈[0,1,2,3,4,5]) m h;exact List.mem_flatMap.mpr ⟨k,(by decide:∀ m<8,m∈[0,1,2,3,4,5,6,7]) k hk,List.mem_map.mpr ⟨u,m hu,rfl⟩⟩
set_option maxHeartbeats 0 in
theorem Fb:wR.map (fun c=>Hp (mW c.1 c.2))=wR.map (fun c=>.ok (v9 c.1 c.2)):=by kernel_rfl
theorem Bk:wR.all (fun c=>(v9 c.1 c.2).all gu&&(Nat.ble (mW c.1 c.2).length 200&&Nat.ble (v9 c.1 c.2).length 2))=true:=by decide +kernel
theorem FJ {k u:Nat}(hk:k<8)(hu:u<6):Pc (mW k u) (v9 k u)∧(v9 k u).all gu=true∧(v9 k u).length<=2:=by
 have h:=Ab (List.all_eq_true.mp Bk _ (jf hk hu));have h2:=Ab h.2;exact ⟨Pc.of (cM Fb (jf hk hu)) h2.1,h.1,Ad h2.2⟩
noncomputable def bs (B:Nat):List Int:=List.replicate B 0
noncomputable def bt (B n:Nat):Scope:=match B with
 | 0=>[(nX,.var 3),(nY,.var 4),(nA,.arr 5 n),(nZ,.var (5+n)),(nQ,.proc 1 qP)]
 | _=>[(nX,.var 3),(nY,.var 4),([98],.arr 5 1),(nA,.arr 6 n),(nZ,.var (6+n)),(nQ,.proc 1 qP)]
theorem mv {B n:Nat}(hB:B<2)(h1:1<=n)(h3:n<=3):MV (bt B n) (bs B) n 1:=by
 match B,hB with
 | 0,_=>exact ⟨rfl,rfl,rfl,(by rw [show (bs 0).length+n=n from Nat.zero_add n]; rfl),rfl,by decide,h3,h1⟩
 | 1,_=>exact ⟨rfl,rfl,rfl,(by rw [show 5+((bs 1).length+n)=6+n from (Nat.add_assoc 5 1 n).symm]; rfl),rfl,by decide,h3,h1⟩
theorem Ky:fJ (fun B=>fJ (fun n=>wR.all (fun c=>(v9 c.1 c.2).all (hU [bt B (n+1)]))) 3) 2=true:=by decide +kernel
theorem MX {B n k u:Nat}(hB:B<2)(hn:n<3)(hk:k<8)(hu:u<6):(v9 k u).all (hU [bt B (n+1)])=true:=List.all_eq_true.mp (bh (bh Ky hB) hn) _ (jf hk hu)
theorem Q3:fJ (fun B=>fJ (fun n=>fJ (fun i=>nh [bt B (n+1)] (sO (n+1) i)&&((sO (n+1) i).wf&&Nat.ble (sO (n+1) i).sz 10 )) 8) 3) 2=true:=by decide +kernel
structure SW where
 x:Int
 y:Int
 z:Int
 a:List Int
 o:List Int
 t:Nat
noncomputable def hi (z:Int):Int:=rem z 3
noncomputable def cY (u:Nat):Int:=(u:Int)-2
noncomputable def rel (u:Nat)(x h:Int):Bool:=match u with
 | 0=>decide (x=h)
 | 1=>!decide (x=h)
 | 2=>decide (x<h)
 | 3=>decide (x<=h)
 | 4=>decide (x>h)
 | _=>decide (x ≥ h)
noncomputable def yu:Nat->Int->Int->Int->Int->Int×Int×Int
 | 0,_,x,y,z=>(x,y,z)
 | m+1,i,_,y,z=>yu m (i+1) i (y-i) (z+1)
noncomputable def lg:Nat->Int->Int->Int->Int->Int×Int×Int
 | 0,_,x,y,z=>(x,y,z)
 | m+1,j,_,_,z=>lg m (j+1) 7 j (z+j)
noncomputable def qz:Nat->Int->Int->Int->Int->(Int×Int×Int)×Nat
 | 0,_,x,y,z=>((x,y,z),0)
 | m+1,i,_,y,z=>
  ((qz m (i-1) (lg (2-i).toNat i i y z).1 (lg (2-i).toNat i i y z).2.1 (lg (2-i).toNat i i y z).2.2).1,
   (qz m (i-1) (lg (2-i).toNat i i y z).1 (lg (2-i).toNat i i y z).2.1 (lg (2-i).toNat i i y z).2.2).2+(2+(2-i).toNat))
noncomputable def wc:Nat->Int->Int->Int×Int
 | 0,x,y=>(x,y)
 | m+1,x,y=>wc m (x+1) (y+(x+1))
noncomputable def CN (n u:Nat)(f:Nat->SW):Option SW:=match qA n ((u:Int)-1) with
 | true=>some (f ((u:Int)-1).toNat)
 | false=>Option.none
noncomputable def di (n k u:Nat)(x y z:Int)(a:List Int):Option SW:=match k with
 | 0=>CN n u fun i=>⟨x,y,z,a.set i z,[],0⟩
 | 1=>CN n u fun i=>⟨x,y,z,a.set i (qv (a.getD i 0) (hi z).toNat (hi z) z),qo (hi z).toNat (hi z) z,qt (hi z).toNat+1⟩
 | 2=>some ⟨qv x (hi z).toNat (hi z) z,y,z,a,qo (hi z).toNat (hi z) z,qt (hi z).toNat+1⟩
 | 3=>some (match rel u x (hi z) with
  | false=>⟨x,y,z,a,[],0⟩
  | true=>match decide (z.fmod 2=1) with
   | true=>⟨z-1,y,z,a,[],0⟩
   | false=>⟨x,x,z,a,[],0⟩)
 | 4=>some ⟨(yu (hi z+1-cY u).toNat (cY u) x y z).1,(yu (hi z+1-cY u).toNat (cY u) x y z).2.1,(yu (hi z+1-cY u).toNat (cY u) x y z).2.2,a,[],(hi z+1-cY u).toNat+1⟩
 | 5=>some ⟨(qz (cY u-hi z+1).toNat (cY u) x y z).1.1,(qz (cY u-hi z+1).toNat (cY u) x y z).1.2.1,(qz (cY u-hi z+1).toNat (cY u) x y z).1.2.2,a,[],(qz (cY u-hi z+1).toNat (cY u) x y z).2+1⟩
 | 6=>some ⟨(wc (hi z-cY u).toNat (cY u) y).1,(wc (hi z-cY u).toNat (cY u) y).2,z,a,[],(hi z-cY u).toNat+1⟩
 | _=>some ⟨(wc ((hi z-cY u-1).toNat+1) (cY u) y).1,(wc ((hi z-cY u-1).toNat+1) (cY u) y).2,z,a,[],(hi z-cY u-1).toNat+1⟩
theorem b2 {b:Bool}{A B:Prop}(h0:b=false->A)(h1:b=true->B):(b2i b=0->A)∧(b2i b≠0->B):=by
 cases b with
 | false=>exact ⟨fun _=>h0 rfl,fun h=>absurd rfl h⟩
 | true=>exact ⟨fun h=>(by cases h),fun _=>h1 rfl⟩
theorem NR (v:Int):v.fmod 2=b2i (decide (v.fmod 2=1)):=by
 have h0:=Int.fmod_nonneg_of_pos v (b:=2) (by decide);have h2:=Int.fmod_lt_of_pos v (b:=2) (by decide);revert h0 h2;generalize v.fmod 2=w;intro h0 h2;by_cases h:w=1
 ·rw [h]; rfl
 ·rw [decide_eq_false h]; show w=0; lia
theorem lS (z:Int):(hi z).natAbs<3:=by
 unfold hi;rw [lV,Int.natAbs_tmod];exact Nat.mod_lt _ (by decide)
theorem wU {P:Int->Prop}{n:Nat}(c:∀ k<n,P (k:Int)∧P (-(k:Int))){m:Int}(h:m.natAbs<n):P m:=(Int.natAbs_eq m).elim (fun e=>e▸(c _ h).1) fun e=>e▸(c _ h).2
theorem t8 (z:Int):(hi z).toNat<=2:=wU (P:=fun m=>m.toNat<=2) (by decide) (lS z)
theorem we {P:Int->Int->Prop}[∀ h l,Decidable (P h l)](c:fJ (fun k=>fJ (fun u=>decide (P (k:Int) ((u:Int)-2))&&decide (P (-(k:Int)) ((u:Int)-2))) 6) 3=true)(z:Int){u:Nat}(hu:u<6):P (hi z) (cY u):=
 wU (P:=fun m=>P m (cY u)) (fun k hk=>have q:=Ab (bh (bh c hk) hu); ⟨Ax q.1,Ax q.2⟩) (lS z)
section
variable {l i:Int}{m:Nat}
theorem Fs {d:Int}{m:Nat}(h:d.toNat=m+1):0<d∧(d-1).toNat=m:=by
 have q:d=((m+1:Nat):Int):=by
  cases d with
  | ofNat n=>exact congrArg Int.ofNat h
  | negSucc n=>cases h
 rw [q];exact ⟨Int.natCast_pos.mpr (Nat.succ_pos m),congrArg Int.toNat (Int.add_sub_cancel (m:Int) 1)⟩
theorem Ow {d:Int}(h:d.toNat=0):d<=0:=Int.toNat_eq_zero.mp h
theorem Tg (h:(l+1-i).toNat=0)(q:decide (i<=l)=true):False:=Int.not_le.mpr (Int.le_of_sub_nonpos (Ow h)) (Ax q)
theorem Oq (h:(l+1-i).toNat=m+1):¬ decide (i<=l)=false∧(l+1-(i+1)).toNat=m:=
 ⟨fun q=>of_decide_eq_false q (Int.le_of_lt_add_one (Int.lt_of_sub_pos (Fs h).1)),by rw [← Int.sub_sub]; exact (Fs h).2⟩
theorem Xi (h:(i-l+1).toNat=0)(q:decide (l<=i)=true):False:=Int.not_le.mpr (Int.lt_of_sub_neg (Ow h:i-l<0)) (Ax q)
theorem UB (h:(i-l+1).toNat=m+1):¬ decide (l<=i)=false∧(i-1-l+1).toNat=m:=
 ⟨fun q=>of_decide_eq_false q (Int.le_of_sub_nonneg (Int.le_of_lt_add_one (Fs h).1)),by rw [Int.sub_sub,Int.add_comm 1 l,← Int.sub_sub,Int.sub_add_cancel,← Int.add_sub_cancel (i-l) 1]; exact (Fs h).2⟩
theorem Vi (h:(l-i).toNat=0)(q:decide (i<l)=true):False:=Int.not_lt.mpr (Int.le_of_sub_nonpos (Ow h)) (Ax q)
theorem Tc (h:(l-i).toNat=m+1):¬ decide (i<l)=false∧(l-(i+1)).toNat=m:=
 ⟨fun q=>of_decide_eq_false q (Int.lt_of_sub_pos (Fs h).1),by rw [← Int.sub_sub]; exact (Fs h).2⟩
theorem VE (h:(l-i-1).toNat=0)(q:decide (i+1 ≥ l)=false):False:=by
 rw [Int.sub_sub] at h;exact of_decide_eq_false q (Int.le_of_sub_nonpos (Ow h))
theorem Tt (h:(l-i-1).toNat=m+1):¬ decide (i+1 ≥ l)=true∧(l-(i+1)-1).toNat=m:=by
 rw [Int.sub_sub] at h;exact ⟨fun q=>Int.not_le.mpr (Int.lt_of_sub_pos (Fs h).1) (Ax q),(Fs h).2⟩
end
theorem Nb:∀ k<3,d6 k=0∨d6 k=1∨d6 k=3:=by decide
theorem pk {k:Nat}(h:k<=2):bd 2 (d6 k):=by
 rcases Nb k (Nat.lt_succ_of_le h) with e | e | e<;>rw [e]<;>exact K9 rfl
def ab (n:Nat)(a:List Int):Prop:=∀ i,bd n (a.getD i 0)
def WG (code:List In)(bz:List Int)(p':Nat)(o:List Int)(t:Nat)(res:Option (List Int)):Option SW->Prop
 | some s=>U code (mm bz s.x s.y s.a s.z) 0 p' (o++s.o) t res
 | Option.none=>res=Option.none
noncomputable def qD:Option SW->Nat
 | some s=>s.t
 | Option.none=>0
section
variable {S:Scope}{bz tmp arr:List Int}{n qa i f p p':Nat}{x y z v:Int}{code:List In}{o:List Int}{t:Nat}{res:Option (List Int)}{e:Ex}
theorem Gd (V:MV S bz n qa)(ha:arr.length=n):(mm bz x y arr z).length<=10:=by
 rw [pC ha]; have:=V.b1; have:=V.n3; lia
theorem rs (V:MV S bz n qa)(ha:arr.length=n){k:Nat}(ht:Nat.ble tmp.length 100=true)(hk:Nat.ble k 1000=true):Rs (mm bz x y arr z++tmp).length k:=by
 have h1:=Gd (x:=x) (y:=y) (z:=z) V ha;have h2:=Ad ht;have h3:=Ad hk;refine Nat.ble_eq_true_of_le ?_;rw [Ac];exact Aa (Aq (Aq h1 h2) (Al h3 10)) (by decide)
theorem PM:∀ {k:Nat},k<5->k<(mm bz x y arr z++tmp).length:=fun h=>An h (Ar 5 _)
theorem qL (V:MV S bz n qa)(ha:arr.length=n)(h:At code [S] f p (.set nX e) p')(hw:(e.wf&&Nat.ble e.sz 1000)=true)(ht:Nat.ble tmp.length 100=true)(he:bN [S] (mm bz x y arr z++tmp) 0 e=.ok v)(g:U code (mm bz v y arr z++tmp) 0 p' o t res):U code (mm bz x y arr z++tmp) 0 p o t res:=
 At.set h (Ab hw).1 (rs V ha ht (Ab hw).2) (Go.of (aV V.x rfl) (Go.of he ⟨PM (by decide),g⟩))
theorem wA (V:MV S bz n qa)(ha:arr.length=n)(h:At code [S] f p (.set nY e) p')(hw:(e.wf&&Nat.ble e.sz 1000)=true)(ht:Nat.ble tmp.length 100=true)(he:bN [S] (mm bz x y arr z++tmp) 0 e=.ok v)(g:U code (mm bz x v arr z++tmp) 0 p' o t res):U code (mm bz x y arr z++tmp) 0 p o t res:=
 At.set h (Ab hw).1 (rs V ha ht (Ab hw).2) (Go.of (aV V.y rfl) (Go.of he ⟨PM (by decide),g⟩))
theorem Hl (V:MV S bz n qa)(ha:arr.length=n)(h:At code [S] f p (.set nZ e) p')(hw:(e.wf&&Nat.ble e.sz 1000)=true)(ht:Nat.ble tmp.length 100=true)(g:Go (bN [S] (mm bz x y arr z++tmp) 0 e) (fun v=>U code (mm bz x y arr v++tmp) 0 p' o t res) res):U code (mm bz x y arr z++tmp) 0 p o t res:=
 At.set h (Ab hw).1 (rs V ha ht (Ab hw).2) (Go.of (Uw V _) (g.mono fun v g=>⟨(Ai (bD (rZ ha))).1,by
  rw [yF (Ai (rZ (bz:=bz) (x:=x) (y:=y) (z:=z) ha)).1,sZ ha]; exact g⟩))
theorem C5 (V:MV S bz n qa)(ha:arr.length=n)(hz:bd 900 z):bN [S] (mm bz x y arr z++tmp) 0 nO=.ok (hi z):=
 aO (eZ V ha) rfl (i4 4 (hz.small (by decide)) (by decide +kernel))
theorem Uz {sc:List Scope}{st:List Int}(u:Nat):bN sc st 0 (Cz u)=.ok ((u:Int)-1):=by
 cases u with
 | zero=>rfl
 | succ i=>exact congrArg R.ok (Int.add_sub_cancel (i:Int) 1).symm
theorem uQ (u:Nat):(Cz u).wf=true∧(Cz u).sz<=9:=by cases u<;>exact ⟨rfl,Ad rfl⟩
theorem Ba {v:Int}(h:qA n v=true):v.toNat<n:=by
 have h:=Ax h; exact Int.ofNat_lt.mp ((Int.toNat_of_nonneg h.1).symm▸h.2)
theorem Vh (V:MV S bz n qa)(ha:arr.length=n){u:Nat}(h:At code [S] f p (.setAt nA (Cz u) (.name nZ)) p')(g:WG code bz p' o t res (di n 0 u x y z arr)):U code (mm bz x y arr z) 0 p o (t+qD (di n 0 u x y z arr)) res:=by
 rw [← az (mm bz x y arr z)];refine At.setAt h (uQ u).1 rfl (rs V ha rfl (Nat.ble_eq_true_of_le (Aa (uQ u).2 (by decide)))) (rs V ha rfl rfl) ?_;rw [Uz,eI V];revert g;rw [show di n 0 u x y z arr=(match qA n ((u:Int)-1) with | true=>some ⟨x,y,z,arr.set ((u:Int)-1).toNat z,[],0⟩ | false=>Option.none) from rfl]
 cases hA:qA n ((u:Int)-1) with
 | false=>exact fun g=>g
 | true=>
  intro g;have hi:=Ba hA;refine Go.of rfl (Go.of (eZ V ha) ⟨(Ai (bD (rA ha hi))).1,?_⟩);rw [yF (Ai (rA (bz:=bz) (x:=x) (y:=y) (z:=z) ha hi)).1,sA ha hi,az];rw [show t+qD (some _)=t from rfl];have g:U code _ 0 p' (o++[]) t res:=g;rw [az] at g; exact g
end
section
variable {S dK:Scope}{bz arr:List Int}{n qa ga i f p p':Nat}{x y z v:Int}{code:List In}{o:List Int}{t:Nat}{res:Option (List Int)}{e:Ex}
theorem v8 (V:MV S bz n qa)(Q:QC code dK S (5+(bz.length+n)) qa ga)(ha:arr.length=n)(hz:bd 900 z)(ho:o.length<=1000){ra:Nat}{c:Int}(hr:(mm bz x y arr z)[ra]?=some c)(hc:bd 900 c)(fG:ra≠5+(bz.length+n))(g:U code ((mm bz x y arr z).set ra (qv c (hi z).toNat (hi z) z)) 0 p' (o++qo (hi z).toNat (hi z) z) t res) :
  U code (mm bz x y arr z++[0,((0:Nat):Int),(p':Int)]++[hi z,(ra:Int)]) (mm bz x y arr z).length qa o (t+qt (hi z).toNat) res:=by
 have k2:=t8 z;have hl:=Gd (x:=x) (y:=y) (z:=z) V ha;have lr:=(Ai hr).1;have e:(mm bz x y arr z).getD ra 0=c:=by rw [List.getD_eq_getElem?_getD,hr]; rfl
 refine RD Q _ _ _ 0 p' ra t o z rfl lr (rZ ha) fG (Aa (Aq hl (Nat.mul_le_mul_left 9 k2)) (by decide)) (Ao (Aq ho k2) (by decide)) ?_ (fun j hj=>?_) ?_
 ·rw [e]; exact (hc.add ((pk k2).le (by decide))).small (by decide)
 ·exact (bd.add (n:=2) (K9 rfl) (pk (Aa (Nat.le_of_lt hj) k2))).small (by decide)
 ·rw [e]; exact g
theorem Vg (V:MV S bz n qa)(Q:QC code dK S (5+(bz.length+n)) qa ga)(ha:arr.length=n)(hz:bd 900 z)(hA:ab 900 arr)(ho:o.length<=1000){u:Nat}(h:At code [S] f p (.call nQ [nO,.at nA (Cz u)]) p')(g:WG code bz p' o t res (di n 1 u x y z arr)):U code (mm bz x y arr z) 0 p o (t+qD (di n 1 u x y z arr)) res:=by
 have go:∀ t,Go (gR [S] (mm bz x y arr z) 0 [false,true] [nO,.at nA (Cz u)]) (fun as=>∃ link,frameOf (mm bz x y arr z) 0 0=some link∧U code (mm bz x y arr z++[(link:Int),((0:Nat):Int),(p':Int)]++as) (mm bz x y arr z).length qa o t res) res->U code (mm bz x y arr z) 0 p o (t+1) res:=fun t g=>by
  refine At.call (l:=0) (a:=qa) (q:=qP) h V.q ?_ ?_ g
  ·intro e he;rcases List.mem_cons.mp he with rfl | he
   ·rfl
   ·rw [List.mem_singleton.mp he]; exact (uQ u).1
  ·rw [← az (mm bz x y arr z)];exact rs V ha rfl (Nat.ble_eq_true_of_le (Aa (Ak (Al (Al (uQ u).2 4) 0) nO.sz) (by decide)))
 have e1:=C5 (tmp:=[]) (x:=x) (y:=y) V ha hz;rw [az] at e1;have ev:gR [S] (mm bz x y arr z) 0 [false,true] [nO,.at nA (Cz u)]=(match qA n ((u:Int)-1) with | true=>.ok [hi z,((5+(bz.length+((u:Int)-1).toNat):Nat):Int)] | false=>.err):=by
  show (bN [S] (mm bz x y arr z) 0 nO).bind _=_;rw [e1];show (((yj [S] (mm bz x y arr z) 0 nA (bN [S] (mm bz x y arr z) 0 (Cz u))).bind _).bind _).bind _=_;rw [Uz,eI V];cases qA n ((u:Int)-1)<;>rfl
 rw [ev] at go;revert g;rw [show di n 1 u x y z arr=CN n u fun i=>⟨x,y,z,arr.set i (qv (arr.getD i 0) (hi z).toNat (hi z) z),qo (hi z).toNat (hi z) z,qt (hi z).toNat+1⟩ from rfl];unfold CN;revert go;cases LB:qA n ((u:Int)-1) with
 | false=>exact fun go (g:res=Option.none)=>by subst g; exact (go 0 rfl).none _
 | true=>
  intro go g;have hi:=Ba LB;exact go _ ⟨0,rfl,v8 V Q ha hz ho (rA ha hi) (hA _) (fun q=>Nat.ne_of_lt hi (Nat.add_left_cancel (Nat.add_left_cancel q))) (by rw [sA ha hi]; exact g)⟩
theorem Vf (V:MV S bz n qa)(Q:QC code dK S (5+(bz.length+n)) qa ga)(ha:arr.length=n)(hz:bd 900 z)(hx:bd 900 x)(ho:o.length<=1000){u:Nat}(h:At code [S] f p (.call nQ [nO,.name nX]) p')(g:WG code bz p' o t res (di n 2 u x y z arr)):U code (mm bz x y arr z) 0 p o (t+qD (di n 2 u x y z arr)) res:=by
 have e1:=C5 (tmp:=[]) (x:=x) (y:=y) V ha hz;rw [az] at e1;refine At.call (l:=0) (a:=qa) (q:=qP) h V.q ?_ ?_ (Go.of (a:=[hi z,((3:Nat):Int)]) ?_ ⟨0,rfl,v8 V Q ha hz ho (rfl:(mm bz x y arr z)[3]?=some x) hx (Nat.ne_of_lt (An (by decide:3<5) (Af 5 _))) g⟩)
 ·intro e he;rcases List.mem_cons.mp he with rfl | he
  ·rfl
  ·rw [List.mem_singleton.mp he]; rfl
 ·rw [← az (mm bz x y arr z)]; exact rs V ha rfl rfl
 ·show (bN [S] (mm bz x y arr z) 0 nO).bind _=_;rw [e1];show (((kJ [S] (mm bz x y arr z) 0 nX).bind _).bind _).bind _=_;rw [show kJ [S] (mm bz x y arr z) 0 nX=.ok 3 from aV V.x rfl]; rfl
theorem IM (u:Nat)(a b:Int):iI (GQ u) a b=.ok (b2i (rel u a b)):=by
 match u with
 | 0=>rfl
 | 1=>rfl
 | 2=>rfl
 | 3=>rfl
 | 4=>rfl
 | _+5=>rfl
theorem Nl (u:Nat):(Ex.bin (GQ u) (.name nX) nO).wf=true:=by
 match u with
 | 0=>rfl
 | 1=>rfl
 | 2=>rfl
 | 3=>rfl
 | 4=>rfl
 | _+5=>rfl
theorem Ve (V:MV S bz n qa)(ha:arr.length=n)(hz:bd 900 z){u:Nat}(h:At code [S] f p (TV u) p')(g:WG code bz p' o t res (di n 3 u x y z arr)):U code (mm bz x y arr z) 0 p o (t+qD (di n 3 u x y z arr)) res:=by
 obtain ⟨q,h1,hF⟩:=At.if1 h (Nl u);obtain ⟨q1,q2,r,hA,hB,hW,hG⟩:=At.if2 h1 rfl;rw [← az (mm bz x y arr z)];have g:WG code bz p' o t res (some (match rel u x (hi z) with
  | false=>⟨x,y,z,arr,[],0⟩
  | true=>match decide (z.fmod 2=1) with
   | true=>⟨z-1,y,z,arr,[],0⟩
   | false=>⟨x,x,z,arr,[],0⟩)):=g
 have zt:∀ {a b:Bool} {A B C:SW},A.t=0->B.t=0->C.t=0->qD (some (match a with | false=>A | true=>match b with | true=>B | false=>C))=0:=fun {a b A B C} h1 h2 h3=>by
  cases a with
  | false=>exact h1
  | true=>cases b with
   | false=>exact h3
   | true=>exact h2
 rw [show qD (di n 3 u x y z arr)=0 from zt rfl rfl rfl];refine hF (rs V ha rfl rfl) (Go.of (aO (eX V) (C5 V ha hz) (IM u x (hi z))) (b2 (fun e=>?_) fun e=>?_))
 ·rw [e] at g;have g:U code _ 0 p' (o++[]) t res:=g;rw [az] at g ⊢; exact g
 ·rw [e] at g;refine hG (rs V ha rfl rfl) (Go.of (a:=b2i (decide (z.fmod 2=1))) ?_ (b2 (fun e'=>?_) fun e'=>?_))
  ·show (bN [S] (mm bz x y arr z++[]) 0 (.name nZ)).bind _=_;rw [eZ V ha]; exact congrArg R.ok (NR z)
  ·rw [e'] at g;have g:U code _ 0 p' (o++[]) t res:=g;refine wA V ha hB rfl rfl (eX V) ?_;rw [az] at g ⊢; exact g
  ·rw [e'] at g;have g:U code _ 0 p' (o++[]) t res:=g;refine qL V ha hA rfl rfl (aO (eZ V ha) rfl rfl) (hW ?_);rw [az] at g ⊢; exact g
end
section
variable {S:Scope}{bz arr:List Int}{n qa p p':Nat}{x y z:Int}{code:List In}{o:List Int}{t:Nat}{res:Option (List Int)}
theorem uS (u:Nat):((x9 u).wf&&Nat.ble (x9 u).sz 1000)=true:=by unfold x9; cases Nat.blt u 2<;>rfl
theorem Pd {sc:List Scope}{st:List Int}{b:Nat}(u:Nat):bN sc st b (x9 u)=.ok (cY u):=by
 match u with
 | 0=>rfl
 | 1=>rfl
 | u+2=>exact congrArg R.ok (Int.add_sub_cancel (u:Int) 2).symm
theorem Vd (V:MV S bz n qa)(ha:arr.length=n)(hz:bd 900 z){u:Nat}(h:At code [S] (5+(bz.length+(n+1))) p (.for nX (x9 u) nO true b4) p')(g:WG code bz p' o t res (di n 4 u x y z arr)):U code (mm bz x y arr z) 0 p o (t+qD (di n 4 u x y z arr)) res:=by
 have hw:=Ab (uS u);obtain ⟨top,q,q',hA,hE,hT,hB⟩:=At.for h hw.1 rfl;obtain ⟨m1,a1,a2⟩:=At.seq hA.nk;have a2:=a2.one;have ln:∀ {x y z:Int},(mm bz x y arr z).length=0+(5+(bz.length+(n+1))):=(pC ha).trans (Nat.zero_add _).symm;have r2:∀ {x y z:Int},Rs ((mm bz x y arr z).length+2) 0:=fun {x y z}=>Rs.two (az (mm bz x y arr z)▸rs V ha (tmp:=[]) rfl rfl);have loop:∀ (l:Int) (m:Nat) (i x y z:Int) (t:Nat),(l+1-i).toNat=m->U code (mm bz (yu m i x y z).1 (yu m i x y z).2.1 arr (yu m i x y z).2.2) 0 p' o t res->U code (mm bz x y arr z++[i,l]) 0 top o (t+(m+1)) res:=by
  intro l m
  induction m with
  | zero=>
   intro i x y z t hm g;exact hT ln r2 (fun h=>(Tg hm h).elim) fun _=>g
  | succ m ih=>
   intro i x y z t hm g;refine hT ln r2 (fun _=>Go.of (a:=3) (aV V.x rfl) ⟨An (by decide:3<5) (Aa (Ar 5 _) (Af _ 2)),?_⟩) fun h=>absurd h (Oq hm).1;show U code (mm bz i y arr z++[i,l]) 0 q o (t+(m+1)) res;exact wA V ha a1 rfl rfl (aO (eY V) (eX V) rfl) (Hl V ha a2 rfl rfl (Go.of (aO (eZ V ha) rfl rfl) (hB ln r2 (ih (i+1) i (y-i) (z+1) t (Oq hm).2 g))))
 have e1:=C5 (tmp:=[]) (x:=x) (y:=y) V ha hz;rw [az] at e1;have r1:=fun {k:Nat} (hk:Nat.ble k 1000=true)=>az (mm bz x y arr z)▸rs (x:=x) (y:=y) (z:=z) V ha (tmp:=[]) (k:=k) rfl hk;have g:U code _ 0 p' (o++[]) t res:=g;rw [az] at g;exact hE (r1 hw.2) (r1 rfl) (Go.of (Pd u) (Go.of e1 (loop (hi z) (hi z+1-cY u).toNat (cY u) x y z t rfl g)))
theorem Vc (V:MV S bz n qa)(ha:arr.length=n)(hz:bd 900 z){u:Nat}(h:At code [S] (5+(bz.length+(n+1))) p (.for nX (x9 u) nO false i5) p')(g:WG code bz p' o t res (di n 5 u x y z arr)):U code (mm bz x y arr z) 0 p o (t+qD (di n 5 u x y z arr)) res:=by
 have hw:=Ab (uS u);obtain ⟨top,q,q',hA,hE,hT,hB⟩:=At.for h hw.1 rfl;obtain ⟨top2,k,k',kA,kE,kT,kB⟩:=At.for hA rfl rfl;obtain ⟨m1,a1,a2⟩:=At.seq kA.nk;have a2:=a2.one;have ln:∀ {x y z:Int},(mm bz x y arr z).length=0+(5+(bz.length+(n+1))):=(pC ha).trans (Nat.zero_add _).symm;have ln2:∀ {x y z i l:Int},(mm bz x y arr z++[i,l]).length=0+(5+(bz.length+(n+1))+2):=(yM _ _ _).trans (congrArg (·+2) ln);have r2:∀ {x y z:Int},Rs ((mm bz x y arr z).length+2) 0:=fun {x y z}=>Rs.two (az (mm bz x y arr z)▸rs V ha (tmp:=[]) rfl rfl);have r4:∀ {x y z i l:Int},Rs ((mm bz x y arr z++[i,l]).length+2) 0:=fun {x y z i l}=>Rs.two (rs V ha (tmp:=[i,l]) rfl rfl);have lp:∀ (i l:Int) (m:Nat) (j x y z:Int) (t:Nat),(2-j).toNat=m->U code (mm bz (lg m j x y z).1 (lg m j x y z).2.1 arr (lg m j x y z).2.2++[i,l]) 0 q' o t res->U code (mm bz x y arr z++[i,l]++[j,1]) 0 top2 o (t+(m+1)) res:=by
  intro i l m
  induction m with
  | zero=>
   intro j x y z t hm g;exact kT ln2 r4 (fun h=>(Tg (l:=1) hm h).elim) fun _=>g
  | succ m ih=>
   intro j x y z t hm g;refine kT ln2 r4 (fun _=>Go.of (a:=4) (aV V.y rfl) ⟨An (PM (by decide)) (Af _ 2),?_⟩) fun h=>absurd h (Oq (l:=1) hm).1;show U code (mm bz x j arr z++[i,l]++[j,1]) 0 k o (t+(m+1)) res;have ih:=ih (j+1) 7 j (z+j) t (Oq (l:=1) hm).2 g;have g2:=kB (v:=j) ln2 r4 ih;rw [Ae] at g2 ⊢;exact Hl V ha a1 rfl rfl (Go.of (aO (eZ V ha) (eY V) rfl) (qL V ha a2 rfl rfl rfl g2))
 have loop:∀ (l:Int) (m:Nat) (i x y z:Int) (t:Nat),(i-l+1).toNat=m->U code (mm bz (qz m i x y z).1.1 (qz m i x y z).1.2.1 arr (qz m i x y z).1.2.2) 0 p' o t res->U code (mm bz x y arr z++[i,l]) 0 top o (t+((qz m i x y z).2+1)) res:=by
  intro l m
  induction m with
  | zero=>
   intro i x y z t hm g;exact hT ln r2 (fun h=>(Xi hm h).elim) fun _=>g
  | succ m ih=>
   intro i x y z t hm g;have ih:=fun g=>ih (i-1) (lg (2-i).toNat i i y z).1 (lg (2-i).toNat i i y z).2.1 (lg (2-i).toNat i i y z).2.2 t (UB hm).2 g;have ih:=ih g;revert ih;clear g;rw [show (qz (m+1) i x y z).2=(qz m (i-1) (lg (2-i).toNat i i y z).1 (lg (2-i).toNat i i y z).2.1 (lg (2-i).toNat i i y z).2.2).2+(2+(2-i).toNat) from rfl];generalize (qz m (i-1) (lg (2-i).toNat i i y z).1 (lg (2-i).toNat i i y z).2.1 (lg (2-i).toNat i i y z).2.2).2=w;intro ih;rw [show t+(w+(2+(2-i).toNat)+1)=t+(w+1)+((2-i).toNat+1)+1 by rw [Aw w,Nat.add_comm 2,← Nat.add_assoc]; rfl];refine hT ln r2 (fun _=>Go.of (a:=3) (aV V.x rfl) ⟨An (by decide:3<5) (Aa (Ar 5 _) (Af _ 2)),?_⟩) fun h=>absurd h (UB hm).1;show U code (mm bz i y arr z++[i,l]) 0 q o (t+(w+1)+((2-i).toNat+1)) res;exact kE (rs V ha rfl rfl) (rs V ha rfl rfl) (Go.of (eX V) (lp i l _ i i y z _ rfl (hB ln r2 ih)))
 have e1:=C5 (tmp:=[]) (x:=x) (y:=y) V ha hz;rw [az] at e1;have r1:=fun {k:Nat} (hk:Nat.ble k 1000=true)=>az (mm bz x y arr z)▸rs (x:=x) (y:=y) (z:=z) V ha (tmp:=[]) (k:=k) rfl hk;have g:U code _ 0 p' (o++[]) t res:=g;rw [az] at g;exact hE (r1 hw.2) (r1 rfl) (Go.of (Pd u) (Go.of e1 (loop (hi z) (cY u-hi z+1).toNat (cY u) x y z t rfl g)))
theorem Vb (V:MV S bz n qa)(ha:arr.length=n)(hz:bd 900 z){f u q:Nat}(h0:At code [S] f p (.set nX (x9 u)) q)(h:At code [S] f q (.gf (.bin [60] (.name nX) nO) (.nk b6)) p')(g:WG code bz p' o t res (di n 6 u x y z arr)):U code (mm bz x y arr z) 0 p o (t+qD (di n 6 u x y z arr)) res:=by
 obtain ⟨k,k',hA,hW,hF⟩:=At.gf h rfl;obtain ⟨m1,a1,a2⟩:=At.seq hA.nk;have a2:=a2.one;have loop:∀ (m:Nat) (x y:Int) (t:Nat),(hi z-x).toNat=m->U code (mm bz (wc m x y).1 (wc m x y).2 arr z++[]) 0 p' o t res->U code (mm bz x y arr z++[]) 0 q o (t+(m+1)) res:=by
  intro m
  induction m with
  | zero=>
   intro x y t hm g;exact hF (rs V ha rfl rfl) (Go.of (aO (eX V) (C5 V ha hz) rfl) (b2 (fun _=>g) fun h=>(Vi hm h).elim))
  | succ m ih=>
   intro x y t hm g;refine hF (t:=t+(m+1)) (rs V ha rfl rfl) (Go.of (aO (eX V) (C5 V ha hz) rfl) (b2 (fun h=>absurd h (Tc hm).1) fun _=>?_));exact qL V ha a1 rfl rfl (aO (eX V) rfl rfl) (wA V ha a2 rfl rfl (aO (eY V) (eX V) rfl) (hW (ih (x+1) (y+(x+1)) t (Tc hm).2 g)))
 have g:U code _ 0 p' (o++[]) t res:=g;rw [az,← az (mm _ _ _ _ _)] at g;rw [← az (mm bz x y arr z)];exact qL V ha h0 (uS u) rfl (Pd u) (loop (hi z-cY u).toNat (cY u) y t rfl g)
theorem Va (V:MV S bz n qa)(ha:arr.length=n)(hz:bd 900 z){f u q:Nat}(h0:At code [S] f p (.set nX (x9 u)) q)(h:At code [S] f q (.rep b6 (.bin [62,61] (.name nX) nO)) p')(g:WG code bz p' o t res (di n 7 u x y z arr)):U code (mm bz x y arr z) 0 p o (t+qD (di n 7 u x y z arr)) res:=by
 obtain ⟨k,hA,hF⟩:=At.rep h rfl;obtain ⟨m1,a1,a2⟩:=At.seq hA;have a2:=a2.one;have loop:∀ (m:Nat) (x y:Int) (t:Nat),(hi z-x-1).toNat=m->U code (mm bz (wc (m+1) x y).1 (wc (m+1) x y).2 arr z++[]) 0 p' o t res->U code (mm bz x y arr z++[]) 0 q o (t+(m+1)) res:=by
  intro m
  induction m with
  | zero=>
   intro x y t hm g;exact qL V ha a1 rfl rfl (aO (eX V) rfl rfl) (wA V ha a2 rfl rfl (aO (eY V) (eX V) rfl) (hF (rs V ha rfl rfl) (Go.of (aO (eX V) (C5 V ha hz) rfl) (b2 (fun h=>(VE hm h).elim) fun _=>g))))
  | succ m ih=>
   intro x y t hm g;exact qL V ha a1 rfl rfl (aO (eX V) rfl rfl) (wA V ha a2 rfl rfl (aO (eY V) (eX V) rfl) (hF (t:=t+(m+1)) (rs V ha rfl rfl) (Go.of (aO (eX V) (C5 V ha hz) rfl) (b2 (fun _=>ih (x+1) (y+(x+1)) t (Tt hm).2 g) fun h=>absurd h (Tt hm).1))))
 have g:U code _ 0 p' (o++[]) t res:=g;rw [az,← az (mm _ _ _ _ _)] at g;rw [← az (mm bz x y arr z)];exact qL V ha h0 (uS u) rfl (Pd u) (loop (hi z-cY u-1).toNat (cY u) y t rfl g)
end
def B3 (a:Nat)(w:Int×Int×Int):Prop:=bd a w.1∧bd a w.2.1∧bd a w.2.2
theorem B3.le {a b:Nat}{w:Int×Int×Int}(h:B3 a w)(hb:a<=b):B3 b w:=⟨h.1.le hb,h.2.1.le hb,h.2.2.le hb⟩
theorem C6 {i:Int}{a:Nat}(h:i.natAbs<16)(ha:4<=a):bd a i:=bd.le (n:=4) h ha
theorem Pz {i:Int}{m:Nat}(h:i.natAbs+(m+1)<=15):i.natAbs<16∧(i+1).natAbs<16∧(i+1).natAbs+m<=15:=
 have q:(i+1).natAbs+m<=15:=Aa (Al (Int.natAbs_add_le i 1) m) (Aa (Nat.le_of_eq (Aw _ 1 m)) h)
 ⟨Nat.lt_succ_of_le (Aa (Af _ _) h),Nat.lt_succ_of_le (Aa (Af _ _) q),q⟩
theorem Vz:∀ k:Nat,k<6->(3-(k:Int)).natAbs<16∧(3-(k:Int)).natAbs+(2-(3-(k:Int))).toNat<=15∧(2-(3-(k:Int))).toNat<=4:=by decide
section
variable {a:Nat}(ha:4<=a)
include ha
theorem AA:∀ (m:Nat) (i x y z:Int) (b:Nat),a<=b->i.natAbs+m<=15->B3 b (x,y,z)->B3 (b+m) (yu m i x y z)
 | 0,i,x,y,z,b,hb,_,h=>h
 | m+1,i,x,y,z,b,hb,h1,h=>by
  obtain ⟨q1,_,q2⟩:=Pz h1;have bi:bd b i:=C6 q1 (Aa ha hb);have:=AA m (i+1) i (y-i) (z+1) (b+1) (Nat.le_succ_of_le hb) q2 ⟨bi.le (Nat.le_succ b),h.2.1.sub bi,h.2.2.add (C6 (by decide) (Aa ha hb))⟩;rw [Nat.add_assoc,Nat.add_comm 1] at this; exact this
theorem AB:∀ (m:Nat) (i x y z:Int) (b:Nat),a<=b->i.natAbs+m<=15->B3 b (x,y,z)->B3 (b+m) (lg m i x y z)
 | 0,i,x,y,z,b,hb,_,h=>h
 | m+1,i,x,y,z,b,hb,h1,h=>by
  obtain ⟨q1,_,q2⟩:=Pz h1;have bi:bd b i:=C6 q1 (Aa ha hb);have:=AB m (i+1) 7 i (z+i) (b+1) (Nat.le_succ_of_le hb) q2 ⟨C6 (i:=7) (by decide) (Nat.le_succ_of_le (Aa ha hb)),bi.le (Nat.le_succ b),h.2.2.add bi⟩;rw [Nat.add_assoc,Nat.add_comm 1] at this; exact this
theorem Az:∀ (m k:Nat) (x y z:Int) (b:Nat),a<=b->k+m<=6->B3 b (x,y,z)->B3 (b+4*m) (qz m (3-(k:Int)) x y z).1
 | 0,k,x,y,z,b,hb,_,h=>h
 | m+1,k,x,y,z,b,hb,h1,h=>by
  obtain ⟨q1,q2,q3⟩:=Vz k (An (Nat.lt_add_of_pos_right (Nat.succ_pos m)) h1);have g:=AB ha (2-(3-(k:Int))).toNat (3-(k:Int)) (3-(k:Int)) y z b hb q2 ⟨C6 (i:=3-(k:Int)) q1 (Aa ha hb),h.2⟩;have:=Az m (k+1) _ _ _ (b+4) (Aa hb (Af _ _)) (by rw [Aw]; exact h1) (g.le (Ak q3 b));rw [Nat.add_assoc,Nat.add_comm 4,show (3-((k+1:Nat):Int))=3-(k:Int)-1 from (Int.sub_sub 3 (k:Int) 1).symm] at this; exact this
theorem tP:∀ (m:Nat) (x y:Int) (b:Nat),a<=b->x.natAbs+m<=15->bd b y->bd (b+m) (wc m x y).1∧bd (b+m) (wc m x y).2
 | 0,x,y,b,hb,h1,h=>⟨C6 (i:=x) (Nat.lt_succ_of_le h1) (Aa ha hb),h⟩
 | m+1,x,y,b,hb,h1,h=>by
  obtain ⟨_,q1,q2⟩:=Pz h1;have:=tP m (x+1) (y+(x+1)) (b+1) (Nat.le_succ_of_le hb) q2 (h.add (C6 q1 (Aa ha hb)));rw [Nat.add_assoc,Nat.add_comm 1] at this; exact this
end
structure WB (n a c:Nat)(s:SW):Prop where
 x:bd a s.x
 y:bd a s.y
 z:bd a s.z
 a:ab a s.a
 l:s.a.length=n
 o:s.o.length<=c
def OB (n a c:Nat):Option SW->Prop
 | some s=>WB n a c s
 | Option.none=>True
theorem Bt {a i:Nat}{v:Int}{l:List Int}(h:ab a l)(hv:bd a v):ab a (l.set i v):=fun j=>by
 by_cases e:i=j
 ·subst e;by_cases hi:i<l.length
  ·rw [pQ hi]; exact hv
  ·rw [List.set_eq_of_length_le (Nat.le_of_not_lt hi)]; exact h i
 ·rw [List.getD_eq_getElem?_getD,List.getElem?_set_ne e,← List.getD_eq_getElem?_getD]; exact h j
theorem ab.le {a b:Nat}{l:List Int}(h:ab a l)(hb:a<=b):ab b l:=fun i=>(h i).le hb
theorem F2 {a:Nat}{u z:Int}(ha:4<=a)(hu:bd a u)(hz:bd a z):bd (a+24) (qv u (hi z).toNat (hi z) z):=by
 have h1:=(hu.add ((pk (t8 z)).le (Aa (by decide) ha))).mul (K9 rfl:bd 2 2);have hh:bd (a+3) (hi z):=C6 (Nat.lt_trans (lS z) (by decide)) (Aa ha (Af _ _));exact ((h1.add hh).add (hz.le (Af a 4))).le (Ak (by decide:5<=24) a)
theorem FK {n k u a:Nat}{x y z:Int}{arr:List Int}(ha:4<=a)(hu:u<6)(hx:bd a x)(hy:bd a y)(hz:bd a z)(hA:ab a arr)(hn:arr.length=n):OB n (a+24) 5 (di n k u x y z arr):=by
 have l:a<=a+24:=Af _ _;have mx:=hx.le l;have my:=hy.le l;have mz:=hz.le l;have mA:=hA.le l;have n0:([]:List Int).length<=5:=Nat.zero_le _;have nq:(qo (hi z).toNat (hi z) z).length<=5:=by rw [zZ]; exact Aa (Au (t8 z)) (by decide)
 have on:∀ {f:Nat->SW},(∀ i,WB n (a+24) 5 (f i))->OB n (a+24) 5 (CN n u f):=fun h=>by
  unfold CN;cases qA n ((u:Int)-1) with
  | true=>exact h _
  | false=>trivial
 match k with
 | 0=>exact on (f:=fun i=>⟨x,y,z,arr.set i z,[],0⟩) fun i=>⟨mx,my,mz,Bt mA mz,List.length_set.trans hn,n0⟩
 | 1=>exact on (f:=fun i=>⟨x,y,z,arr.set i (qv (arr.getD i 0) (hi z).toNat (hi z) z),qo (hi z).toNat (hi z) z,qt (hi z).toNat+1⟩) fun i=>⟨mx,my,mz,Bt mA (F2 ha (hA i) hz),List.length_set.trans hn,nq⟩
 | 2=>exact ⟨F2 ha hx hz,my,mz,mA,hn,nq⟩
 | 3=>
  show WB n (a+24) 5 (match rel u x (hi z) with
   | false=>⟨x,y,z,arr,[],0⟩
   | true=>match decide (z.fmod 2=1) with
    | true=>⟨z-1,y,z,arr,[],0⟩
    | false=>⟨x,x,z,arr,[],0⟩)
  cases rel u x (hi z) with
  | false=>exact ⟨mx,my,mz,mA,hn,n0⟩
  | true=>cases decide (z.fmod 2=1) with
   | true=>exact ⟨(hz.sub (C6 (by decide) ha)).le (Ak (by decide:1<=24) a),my,mz,mA,hn,n0⟩
   | false=>exact ⟨mx,mx,mz,mA,hn,n0⟩
 | 4=>
  obtain ⟨q1,q3⟩:=we (P:=fun h l=>l.natAbs+(h+1-l).toNat<=15∧(h+1-l).toNat<=24) rfl z hu;have:=(AA ha (hi z+1-cY u).toNat (cY u) x y z a (Aj a) q1 ⟨hx,hy,hz⟩).le (Ak q3 a);exact ⟨this.1,this.2.1,this.2.2,mA,hn,n0⟩
 | 5=>
  obtain ⟨q1,q2,q3⟩:=we (P:=fun h l=>3-((3-l).toNat:Int)=l∧(3-l).toNat+(l-h+1).toNat<=6∧4*(l-h+1).toNat<=24) rfl z hu;have:=(Az ha (cY u-hi z+1).toNat _ x y z a (Aj a) q2 ⟨hx,hy,hz⟩).le (Ak q3 a);rw [q1] at this;exact ⟨this.1,this.2.1,this.2.2,mA,hn,n0⟩
 | 6=>
  obtain ⟨q1,q3⟩:=we (P:=fun h l=>l.natAbs+(h-l).toNat<=15∧(h-l).toNat<=24) rfl z hu;have:=tP ha (hi z-cY u).toNat (cY u) y a (Aj a) q1 hy;have l:=Ak q3 a;exact ⟨this.1.le l,this.2.le l,mz,mA,hn,n0⟩
 | _+7=>
  obtain ⟨q1,q3⟩:=we (P:=fun h l=>l.natAbs+((h-l-1).toNat+1)<=15∧(h-l-1).toNat+1<=24) rfl z hu;have:=tP ha ((hi z-cY u-1).toNat+1) (cY u) y a (Aj a) q1 hy;have l:=Ak q3 a;exact ⟨this.1.le l,this.2.le l,mz,mA,hn,n0⟩
section
variable {P:Nat->Prop}
theorem Ll (h0:P 0)(h1:P 1)(h2:P 2):∀ {k:Nat},k<3->P k
 | 0,_=>h0
 | 1,_=>h1
 | 2,_=>h2
theorem PL (h0:P 0)(h1:P 1)(h2:P 2)(h3:P 3)(h4:P 4)(h5:P 5):∀ {k:Nat},k<6->P k
 | 0,_=>h0
 | 1,_=>h1
 | 2,_=>h2
 | k+3,h=>Ll (P:=fun k=>P (k+3)) h3 h4 h5 (Nat.lt_of_add_lt_add_right h)
theorem PK (h0:P 0)(h1:P 1)(h2:P 2)(h3:P 3)(h4:P 4)(h5:P 5)(h6:P 6):∀ {k:Nat},k<7->P k
 | 0,_=>h0
 | k+1,h=>PL (P:=fun k=>P (k+1)) h1 h2 h3 h4 h5 h6 (Nat.lt_of_add_lt_add_right h)
theorem OM (h0:P 0)(h1:P 1)(h2:P 2)(h3:P 3)(h4:P 4)(h5:P 5)(h6:P 6)(h7:P 7):∀ {k:Nat},k<8->P k
 | 0,_=>h0
 | k+1,h=>PK (P:=fun k=>P (k+1)) h1 h2 h3 h4 h5 h6 h7 (Nat.lt_of_add_lt_add_right h)
end
theorem kM.pair {code:List In}{sc:List Scope}{f p p':Nat}{s r:St}(h:kM code sc f p [s,r] p'):∃ q,At code sc f p s q∧At code sc f q r p':=by
 obtain ⟨q,h,h'⟩:=h.inv;exact ⟨q,h,h'.single⟩
theorem MY {S dK:Scope}{bz arr:List Int}{n qa ga k u p p' t:Nat}{x y z:Int}{code:List In}{o:List Int}{res:Option (List Int)}(V:MV S bz n qa)(Q:QC code dK S (5+(bz.length+n)) qa ga)(ha:arr.length=n)(hz:bd 900 z)(hx:bd 900 x)(hA:ab 900 arr)(ho:o.length<=1000)(hk:k<8)
  (h:kM code [S] (5+(bz.length+(n+1))) p (v9 k u) p') (g:WG code bz p' o t res (di n k u x y z arr)):U code (mm bz x y arr z) 0 p o (t+qD (di n k u x y z arr)) res:=by
 revert h g;exact OM (P:=fun k=>kM code [S] (5+(bz.length+(n+1))) p (v9 k u) p'->WG code bz p' o t res (di n k u x y z arr)->U code (mm bz x y arr z) 0 p o (t+qD (di n k u x y z arr)) res) (fun h=>Vh V ha h.single) (fun h=>Vg V Q ha hz hA ho h.single) (fun h=>Vf V Q ha hz hx ho h.single) (fun h=>Ve V ha hz h.single) (fun h=>Vd V ha hz h.single) (fun h=>Vc V ha hz h.single) (fun h=>h.pair.elim fun _ h=>Vb V ha hz h.1 h.2) (fun h=>h.pair.elim fun _ h=>Va V ha hz h.1 h.2) hk
structure XK (sc:List Scope)(e:Ex)(m k:Nat):Prop where
 wf:e.wf=true
 ok:nh sc e=true
 sz:e.sz<=m
 fu:e.fu<=k
theorem XK.bin {sc:List Scope}{o:Tx}{a c:Ex}{m m' k:Nat}(ho:aG o ops=true)(h:XK sc a m k)(h':XK sc c m' k):XK sc (.bin o a c) (m+(m'+1)) (k+1):=
 ⟨Bool.and_eq_true_iff.mpr ⟨Bool.and_eq_true_iff.mpr ⟨ho,h.wf⟩,h'.wf⟩,Bool.and_eq_true_iff.mpr ⟨h.ok,h'.ok⟩,Aq h.sz (Au h'.sz),Au (Nat.max_le.mpr ⟨h.fu,h'.fu⟩)⟩
theorem XK.le {sc:List Scope}{e:Ex}{m k m' k':Nat}(h:XK sc e m k)(hm:m<=m')(hk:k<=k'):XK sc e m' k':=⟨h.wf,h.ok,Aa h.sz hm,Aa h.fu hk⟩
theorem Q4:fJ (fun n=>fJ (fun i=>Nat.ble (sO (n+1) i).fu 10) 8) 3=true:=by decide +kernel
theorem Hb {B n i:Nat}(hB:B<2)(hn:n<3)(hi:i<8):XK [bt B (n+1)] (sO (n+1) i) 10 10:=by
 have h:=Ab (bh (bh (bh Q3 hB) hn) hi);have h2:=Ab h.2;exact ⟨h2.1,h.1,Ad h2.2,Ad (bh (bh Q4 hn) hi)⟩
theorem uO:∀ o<7,aG (eT o) ops=true:=by decide +kernel
structure Rd where
 k:Nat
 u:Nat
 i:Nat
 s:Nat
 j:Nat
 t:Nat
 l:Nat
structure Rd.ok (r:Rd):Prop where
 k:r.k<8
 u:r.u<6
 i:r.i<8
 s:r.s<7
 j:r.j<8
 t:r.t<7
 l:r.l<8
noncomputable def Rd.x (n:Nat)(r:Rd):Ex:=wH n r.i r.s r.j r.t r.l
noncomputable def Rd.p (n:Nat)(r:Rd):Tx:=o6 n r.i r.s r.j r.t r.l
noncomputable def Rd.v (n:Nat)(r:Rd)(x y z:Int)(a:List Int):Option Int:=o5 r.i r.s r.j r.t r.l (wV x y z (a.getD (n-1) 0))
theorem Rd.ok.xk {B n:Nat}{r:Rd}(h:r.ok)(hB:B<2)(hn:n<3):XK [bt B (n+1)] (r.x (n+1)) 40 12:=by
 have a:=Hb hB hn h.i;have b:=Hb hB hn h.j;have c:=Hb hB hn h.l;have p2:=fun (_:Unit)=>XK.bin (uO r.t h.t) (XK.bin (uO r.s h.s) a b) (c.le (Aj _) (by decide:10<=11));have p1:=fun (_:Unit)=>XK.bin (uO r.s h.s) (a.le (Aj _) (by decide:10<=11)) (XK.bin (uO r.t h.t) b c);unfold Rd.x wH Ov;cases mulQ r.s with
 | false=>cases mulQ r.t with
  | false=>exact (p2 ()).le (by decide) (by decide)
  | true=>exact (p1 ()).le (by decide) (by decide)
 | true=>cases mulQ r.t with
  | false=>exact (p2 ()).le (by decide) (by decide)
  | true=>exact (p2 ()).le (by decide) (by decide)
noncomputable def GR (n:Nat)(r:Rd):List Tx:=[[122,58,61]++r.p n,[119,114,105,116,101,40,122,41],mW r.k r.u]
noncomputable def sS (n:Nat)(r:Rd):List St:=[.set nZ (r.x n)]++([.write (.name nZ)]++(v9 r.k r.u++[]))
theorem zY {n:Nat}(hn:n<3){r:Rd}(h:r.ok):iX (GR (n+1) r) (sS (n+1) r):=
 iX.cons (Eb hn h.i h.s h.j h.t h.l) (iX.cons (Pc.of (by kernel_rfl) rfl) (iX.cons (FJ h.k h.u).1 iX.nil))
theorem FZ {B n:Nat}(hB:B<2)(hn:n<3){r:Rd}(h:r.ok):(sS (n+1) r).all gu=true∧(sS (n+1) r).all (hU [bt B (n+1)])=true∧(sS (n+1) r).length<=4:=by
 have k:=h.xk hB hn;have w:=FJ h.k h.u;refine ⟨a9 (Bool.and_eq_true_iff.mpr ⟨Bool.and_eq_true_iff.mpr ⟨Bool.and_eq_true_iff.mpr ⟨k.wf,Nat.ble_eq_true_of_le (Au (Nat.max_le.mpr ⟨by decide,Aa k.fu (by decide)⟩))⟩,Nat.ble_eq_true_of_le (Aa (Ak (Au k.sz) 1) (by decide))⟩,rfl⟩) (a9 rfl (a9 w.2.1 rfl)),a9 (Bool.and_eq_true_iff.mpr ⟨Bool.and_eq_true_iff.mpr ⟨?_,k.ok⟩,rfl⟩) (a9 ?_ (a9 (MX hB hn h.k h.u) rfl)),?_⟩
 ·match B,hB with
  | 0,_=>rfl
  | 1,_=>rfl
 ·match B,hB with
  | 0,_=>rfl
  | 1,_=>rfl
 ·show (v9 r.k r.u++[]).length+1+1<=4;rw [List.append_nil];exact Au (Au w.2.2)
noncomputable def SW.put (v:Int)(s:SW):SW:=⟨s.x,s.y,s.z,s.a,v::s.o,s.t⟩
noncomputable def uD (n:Nat)(r:Rd)(x y z:Int)(a:List Int):Option SW:=(r.v n x y z a).bind fun v=>(di n r.k r.u x y v a).map (SW.put v)
theorem F0 {S:Scope}{bz:List Int}{n qa:Nat}(V:MV S bz n qa){r:Rd}(h:r.ok){a:Nat}{x y z:Int}{arr:List Int}(ha:4<=a)(h4:a<=400)(hx:bd a x)(hy:bd a y)(hz:bd a z)(hA:ab a arr)(hn:arr.length=n):CB (3*a+3) (r.v n x y z arr)∧OB n (3*a+27) 6 (uD n r x y z arr):=by
 have P:=(z5 (tmp:=[]) V hn (Aa (by decide) ha) h4 hx hy hz (hA _) r.i r.s r.j r.t r.l).2;refine ⟨P,?_⟩;unfold uD;have P:CB (3*a+3) (r.v n x y z arr):=P;revert P;cases r.v n x y z arr with
 | none=>exact fun _=>trivial
 | some v=>
  intro P;have l:a<=3*a+3:=Aa (Nat.le_mul_of_pos_left a (by decide)) (Af _ _);have W:=FK (n:=n) (k:=r.k) (u:=r.u) (a:=3*a+3) (by lia) h.u (hx.le l) (hy.le l) P (hA.le l) hn;show OB n _ _ ((di n r.k r.u x y v arr).map (SW.put v));revert W;cases di n r.k r.u x y v arr with
  | none=>exact fun _=>trivial
  | some s=>exact fun W=>⟨W.x,W.y,W.z,W.a,W.l,Au W.o⟩
section
variable {dK:Scope}{arr:List Int}{B n ga p p' t:Nat}{x y z:Int}{code:List In}{o:List Int}{res:Option (List Int)}
theorem F1 (hB:B<2)(hn:n<3)(Q:QC code dK (bt B (n+1)) (5+((bs B).length+(n+1))) 1 ga){r:Rd}(h:r.ok){a:Nat}(h4:4<=a)(ha:a<=299)(hx:bd a x)(hy:bd a y)(hz:bd a z)(hA:ab a arr)(hl:arr.length=n+1)(ho:o.length<=900)
  (c:kM code [bt B (n+1)] (5+((bs B).length+(n+1+1))) p (sS (n+1) r) p') (g:WG code (bs B) p' o t res (uD (n+1) r x y z arr)):U code (mm (bs B) x y arr z) 0 p o (t+qD (uD (n+1) r x y z arr)) res:=by
 have V:=mv hB (Au (Nat.zero_le n)) (Nat.succ_le_of_lt hn);have P:=z5 (tmp:=[]) (x:=x) (y:=y) (z:=z) V hl (Aa (by decide) h4) (by lia) hx hy hz (hA _) r.i r.s r.j r.t r.l;have K:=h.xk hB hn;have ev:bN [bt B (n+1)] (mm (bs B) x y arr z++[]) 0 (r.x (n+1))=Cu (r.v (n+1) x y z arr):=P.1;have bv:CB (3*a+3) (r.v (n+1) x y z arr):=P.2;obtain ⟨q1,c1,c⟩:=c.inv;obtain ⟨q2,c2,c⟩:=c.inv;have c:kM code [bt B (n+1)] (5+((bs B).length+(n+1+1))) _ (v9 r.k r.u++[]) p':=c;rw [List.append_nil] at c;rw [← az (mm (bs B) x y arr z)];refine Hl V hl c1 (Bool.and_eq_true_iff.mpr ⟨K.wf,Nat.ble_eq_true_of_le (Aa K.sz (by decide))⟩) rfl ?_;rw [ev];clear ev P;revert g bv;unfold uD;cases r.v (n+1) x y z arr with
 | none=>exact fun g _=>g
 | some v=>
  intro g bv;have l9:a<=900:=by lia
  have bv:bd 900 v:=bd.le bv (by lia);refine At.write c2 rfl (rs V hl rfl rfl) (Ao ho (by decide)) (Go.of (eZ V hl) ?_);rw [az];show U code _ 0 _ (o++[v]) (t+qD ((di (n+1) r.k r.u x y v arr).map (SW.put v))) res;have e:qD ((di (n+1) r.k r.u x y v arr).map (SW.put v))=qD (di (n+1) r.k r.u x y v arr):=by cases di (n+1) r.k r.u x y v arr<;>rfl
  rw [e];refine MY V Q hl bv (hx.le l9) (hA.le l9) (by rw [Ac]; exact Aa (Au ho) (by decide)) h.k c ?_;revert g;show WG code (bs B) p' o t res ((di (n+1) r.k r.u x y v arr).map (SW.put v))->_;cases di (n+1) r.k r.u x y v arr with
  | none=>exact id
  | some s=>intro g; exact ((Ae o [v] s.o).symm▸g:U code (mm (bs B) s.x s.y s.a s.z) 0 p' (o++[v]++s.o) t res)
noncomputable def mX (n:Nat):List St:=[.for nX (.int 0) (.int (n-1)) true (.write (.at nA (.name nX)))]
noncomputable def CL:List St:=[.write (.name nX)]++([.write (.name nY)]++[])
theorem M7 (hB:B<2)(hn:n<3)(hl:arr.length=n+1)(ho:o.length<=900)(c:kM code [bt B (n+1)] (5+((bs B).length+(n+1+1))) p (CL++mX (n+1)) p')(hr:code[p']?=some .ret):U code (mm (bs B) x y arr z) 0 p o (n+1+1) (some (o++([x,y]++arr))):=by
 have V:=mv hB (Au (Nat.zero_le n)) (Nat.succ_le_of_lt hn);obtain ⟨q1,c1,c⟩:=c.inv;obtain ⟨q2,c2,c⟩:=c.inv;have c3:=c.single;rw [← az (mm (bs B) x y arr z)];refine At.write c1 rfl (rs V hl rfl rfl) (Ao ho (by decide)) (Go.of (eX V) ?_);refine At.write c2 rfl (rs V hl rfl rfl) (by rw [Ac]; exact Ao (Au ho) (by decide)) (Go.of (eY V) ?_);obtain ⟨top,q,q',hA,hE,hT,WY⟩:=At.for c3 rfl rfl;have ln:∀ {x:Int},(mm (bs B) x y arr z).length=0+(5+((bs B).length+(n+1+1))):=(pC hl).trans (Nat.zero_add _).symm;have r2:∀ {x:Int},Rs ((mm (bs B) x y arr z).length+2) 0:=fun {x}=>Rs.two (az (mm (bs B) x y arr z)▸rs V hl (tmp:=[]) rfl rfl);have loop:∀ (m i:Nat) (x:Int) (o:List Int),i+m=n+1->o.length+m<=1000->U code (mm (bs B) x y arr z++[(i:Int),(n:Int)]) 0 top o (m+1) (some (o++arr.drop i)):=by
  intro m
  induction m with
  | zero=>
   intro i x o hi ho;refine hT (t:=0) ln r2 (fun h=>absurd (Int.ofNat_le.mp (Ax h)) (Nat.not_le.mpr ((show i=n+1 from hi)▸Nat.lt_succ_self n))) fun _=>?_;rw [List.drop_eq_nil_of_le (hl.trans hi.symm▸Aj _),List.append_nil];exact U.done hr
  | succ m ih=>
   intro i x o hi ho;have wk:i<n+1:=hi▸Nat.lt_add_of_pos_right (Nat.succ_pos m);refine hT (t:=m+1) ln r2 (fun _=>Go.of (a:=3) (aV V.x rfl) ⟨An (by decide:3<5) (Aa (Ar 5 _) (Af _ 2)),?_⟩) fun h=>absurd (Int.ofNat_le.mpr (Nat.le_of_lt_succ wk)) (of_decide_eq_false h);show U code (mm (bs B) (i:Int) y arr z++[(i:Int),(n:Int)]) 0 q o (m+1) _;refine At.write hA rfl (rs V hl rfl rfl) (An (Nat.lt_add_of_pos_right (Nat.succ_pos m)) (Aa ho (by decide))) (Go.of (a:=arr.getD i 0) ?_ ?_)
   ·show (yj _ _ 0 nA (bN _ _ 0 (.name nX))).bind _=_;rw [eX V]; exact eA V hl wk
   ·have g:=ih (i+1) (i:Int) (o++[arr.getD i 0]) ((Aw i 1 m).trans hi) (by rw [Ac]; show o.length+1+m<=1000; rw [Aw]; exact ho);rw [Ae,show [arr.getD i 0]++arr.drop (i+1)=arr.drop i by
     rw [List.drop_eq_getElem_cons (hl▸wk:i<arr.length)];rw [List.getD_eq_getElem?_getD,List.getElem?_eq_getElem (hl▸wk)]; rfl] at g
    exact WY ln r2 g
 have g:=loop (n+1) 0 x (o++[x]++[y]) (Nat.zero_add _) (by rw [Ac,Ac]; show o.length+1+1+(n+1)<=1000; exact Aa (Aq (Al ho 2) (Nat.succ_le_of_lt hn)) (by decide));rw [Ae,Ae] at g;refine hE (rs V hl rfl rfl) (rs V hl rfl rfl) ?_;rw [az,Ae];exact g
noncomputable def s8 (n:Nat)(r1 r2:Rd)(x y:Int):Option (List Int×Nat):=(uD n r1 x y 0 (List.replicate n 0)).bind fun s=>(uD n r2 s.x s.y s.z s.a).bind fun w=>some (s.o++(w.o++([w.x,w.y]++w.a)),n+1+w.t+s.t)
noncomputable def wQ (m:Option (List Int×Nat))(f:Nat):Option (List Int):=match m with
 | some w=>cut w.2 f (some w.1)
 | Option.none=>Option.none
theorem QK (a n:Nat):ab a (List.replicate n 0):=fun i=>by
 rw [List.getD_eq_getElem?_getD,List.getElem?_replicate];by_cases h:i<n
 ·rw [if_pos h]; exact Nat.two_pow_pos a
 ·rw [if_neg h]; exact Nat.two_pow_pos a
theorem mainRun (hB:B<2)(hn:n<3)(Q:QC code dK (bt B (n+1)) (5+((bs B).length+(n+1))) 1 ga){r1 r2:Rd}(h1:r1.ok)(h2:r2.ok)(hx:bd 67 x)(hy:bd 67 y)
  (c:kM code [bt B (n+1)] (5+((bs B).length+(n+1+1))) p (sS (n+1) r1++(sS (n+1) r2++(CL++mX (n+1)))) p') (hr:code[p']?=some .ret) (f:Nat):Fin code ⟨mm (bs B) x y (List.replicate (n+1) 0) 0,0,p,[],f⟩ (wQ (s8 (n+1) r1 r2 x y) f):=by
 have V:=mv hB (Au (Nat.zero_le n)) (Nat.succ_le_of_lt hn);obtain ⟨m1,c1,c⟩:=c.split;obtain ⟨m2,c2,c⟩:=c.split;have z0:bd 67 0:=Nat.two_pow_pos 67;have l0:(List.replicate (n+1) (0:Int)).length=n+1:=List.length_replicate;have b1:=(F0 V h1 (by decide) (by decide) hx hy z0 (QK 67 (n+1)) l0).2;have wD:=fun t res=>F1 (t:=t) (res:=res) (o:=[]) hB hn Q h1 (by decide) (by decide) hx hy z0 (QK 67 (n+1)) l0 (Nat.zero_le _) c1;unfold s8;revert wD b1;cases uD (n+1) r1 x y 0 (List.replicate (n+1) 0) with
 | none=>
  intro _ wD;have:=wD 0 Option.none rfl f;rw [fP] at this; exact this
 | some s=>
  intro b1 wD;show Fin code _ (wQ ((uD (n+1) r2 s.x s.y s.z s.a).bind _) f);have b2:=(F0 V h2 (by decide:4<=3*67+27) (by decide) b1.x b1.y b1.z b1.a b1.l).2;have so:=b1.o;have yG:=fun t res=>F1 (t:=t) (res:=res) (o:=[]++s.o) hB hn Q h2 (by decide:4<=3*67+27) (by decide) b1.x b1.y b1.z b1.a b1.l (Aa so (by decide)) c2;revert yG b2;cases uD (n+1) r2 s.x s.y s.z s.a with
  | none=>
   intro _ yG;have:=wD 0 Option.none (yG 0 Option.none rfl) f;rw [fP] at this; exact this
  | some w=>
   intro b2 yG;have wo:=b2.o;have g:=wD _ _ (yG _ _ (M7 hB hn b2.l (by rw [Ac]; exact Aa (Aq so wo) (by decide)) c hr)) f;rw [Ae,List.nil_append] at g;exact g
end
noncomputable def gN:Tx:=[93,111,102,32,105,110,116,101,103,101,114,59,122,58,105,110,116,101,103,101,114,59,112,114,111,99,101,100,117,114,101,32,113,40,110,44,118,97,114,32,118,41,59,118,97,114,32,120,58,105,110,116,101,103,101,114,59,112,114,111,99,101,100,117,114,101,32,103,59,98,101,103,105,110,32,118,58,61,118,42,50,43,110,43,122,59,110,58,61,110,45,49,59,105,102,32,110,62,61,48,32,116,104,101,110,32,113,40,110,44,120,41,101,110,100,59,98,101,103,105,110,32,102,111,114,32,120,58,61,110,32,100,111,119,110,116,111,32,49,32,100,111,32,118,58,61,118,43,120,59,103,59,119,114,105,116,101,40,120,43,110,41,101,110,100,59,98,101,103,105,110,32,120,58,61]
noncomputable def da:List (Tx×Tx):=[([112,114,111,103,114,97,109,32,112],[80,82,79,71,82,65,77,32,80,49,120]),
 ([112,59],[112,59,123,32,97,32,123,32,59,32,125]),
 ([44,121,58],[32,44,32,89,32,58]),
 ([120,44,121,58],[120,58,105,110,116,101,103,101,114,59,121,58]),
 ([101,110,100,46],[101,110,100,123,125,46,123,120,125,10]),
 ([50,43,110],[40,50,41,43,45,45,110]),
 ([118,58,61,118,43,120,59],[98,101,103,105,110,32,118,58,61,118,43,120,59,101,110,100,59]),
 ([113,40,110,44,120,41,101,110,100],[113,40,40,110,41,44,40,120,41,41,101,110,100]),
 ([110,58,61,110,45,49],[123,125,110,58,61,123,97,125,110,45,48,48,49]),
 ([112,114,111,99,101,100,117,114,101,32,103],[112,114,111,99,101,100,117,114,101,32,104,40,120,44,118,97,114,32,121,41,59,98,101,103,105,110,32,121,58,61,120,32,101,110,100,59,112,114,111,99,101,100,117,114,101,32,103]),
 ([97,58,97,114,114,97,121,91],[98,58,97,114,114,97,121,91,49,93,111,102,32,105,110,116,101,103,101,114,59,97,58,97,114,114,97,121,91]),
 ([98,101,103,105,110,32,120,58,61],[98,101,103,105,110,59,59,120,58,61])]
noncomputable def bg:List (Tx×Tx):=[([112,59],[112,59,123]),
 ([49,32,100,111],[49,100,111]),
 ([112,59],[112,59,9]),
 ([112,114,111,103,114,97,109,32,112],[112,114,111,103,114,97,109,32,112,233]),
 ([100,111,119,110,116,111,32,49],[100,111,119,110,116,111,32,1635]),
 ([101,110,100,46],[101,110,100,46,120]),
 ([101,110,100,46],[101,110,100,46,49]),
 ([101,110,100,46],[101,110,100]),
 ([112,114,111,103,114,97,109,32,112],[112,114,111,103,114,97,109,32,53]),
 ([112,114,111,103,114,97,109,32,112],[112,114,111,103,114,97,109,32,79,100,100]),
 ([105,102,32,110,62,61,48],[105,102,32,110,58,61,48]),
 ([113,40,110,44,120,41,101,110,100],[113,40,110,44,120,32,101,110,100]),
 ([49,32,100,111],[49]),
 ([122,59,110,58,61],[122,32,110,58,61]),
 ([93,111,102],[93]),
 ([120,44,121,58],[120,44,121,44,120,58]),
 ([122,58,105,110,116,101,103,101,114],[122,44,113,58,105,110,116,101,103,101,114]),
 ([118,41,59,118,97,114,32,120,58],[118,41,59,118,97,114,32,118,44,120,58]),
 ([97,58,97,114,114,97,121,91],[98,58,97,114,114,97,121,91,48,93,111,102,32,105,110,116,101,103,101,114,59,97,58,97,114,114,97,121,91]),
 ([118,58,61,118,42,50],[118,91,48,93,58,61,118,42,50]),
 ([43,110,43,122],[43,110,43,97]),
 ([43,110,43,122],[43,110,43,119]),
 ([43,110,43,122],[43,110,43,122,91,48,93]),
 ([110,58,61,110,45,49],[103,58,61,110,45,49]),
 ([43,120,59,103,59],[43,120,59,110,59]),
 ([113,40,110,44,120,41,101,110,100],[113,40,110,41,101,110,100]),
 ([113,40,110,44,120,41,101,110,100],[113,40,110,44,120,44,120,41,101,110,100]),
 ([103,59,119,114,105,116,101],[103,40,49,41,59,119,114,105,116,101]),
 ([113,40,110,44,120,41,101,110,100],[113,40,110,44,45,120,41,101,110,100]),
 ([113,40,110,44,120,41,101,110,100],[113,40,110,44,97,41,101,110,100]),
 ([102,111,114,32,120,58,61,110],[102,111,114,32,97,58,61,110]),
 ([102,111,114,32,120,58,61,110],[102,111,114,32,103,58,61,110]),
 ([112,114,111,99,101,100,117,114,101,32,113],[112,114,111,99,101,100,117,114,101,32,104,59,98,101,103,105,110,32,113,40,49,44,120,41,101,110,100,59,112,114,111,99,101,100,117,114,101,32,113]),
 ([98,101,103,105,110,32,120,58,61],[98,101,103,105,110,32,110,58,61,49,59,120,58,61]),
 ([98,101,103,105,110,32,120,58,61],[98,101,103,105,110,32,103,59,120,58,61]),
 ([113,40,110,44,120,41,101,110,100],[113,40,41,101,110,100])]
theorem not_true {b:Bool}(h:(!b)=true):b=false:=by cases b<;>first | rfl | cases h
theorem pY:∀ (a u v:Tx),a.length<=u.length->pre a (u++v)=pre a u
 | [],u,v,_=>by cases u<;>cases v<;>rfl
 | x::a,[],v,h=>absurd h (Nat.not_succ_le_zero _)
 | x::a,y::u,v,h=>congrArg (Nat.beq x y&&·) (pY a u v (Am h))
theorem vr:∀ {a u:Tx},pre a u=true->a.length<=u.length
 | [],u,_=>Nat.zero_le _
 | x::a,[],h=>by cases h
 | x::a,y::u,h=>Au (vr (Ab h).2)
noncomputable def Lg (a b:Tx):Tx->Option Tx
 | []=>Option.none
 | c::l=>match pre a (c::l) with
  | true=>some (b++(c::l).drop a.length)
  | false=>(Lg a b l).map (c::·)
theorem tF (a b:Tx)(c:Nat)(l:Tx):bA a b (c::l)=(match pre a (c::l) with
  | true=>b++(c::l).drop a.length
  | false=>c::bA a b l):=rfl
theorem zV {a b v:Tx}:∀ {u u':Tx},Lg a b u=some u'->a.length<=u.length∧bA a b (u++v)=u'++v
 | [],u',h=>by cases h
 | c::l,u',h=>by
  have h:(match pre a (c::l) with
   | true=>some (b++(c::l).drop a.length)
   | false=>(Lg a b l).map (c::·))=some u':=h
  revert h;cases hp:pre a (c::l) with
  | true=>
   intro h;cases h;have hl:=vr hp;refine ⟨hl,?_⟩;rw [List.cons_append,tF,← List.cons_append,pY a _ v hl,hp,Ae,List.drop_append_of_le_length hl]
  | false=>
   intro h;obtain ⟨w,hw,rfl⟩:=Option.map_eq_some_iff.mp (show (Lg a b l).map (c::·)=some u' from h);have ih:=zV (v:=v) hw;have hl:a.length<=(c::l).length:=Nat.le_succ_of_le ih.1;refine ⟨hl,?_⟩;rw [List.cons_append,tF,← List.cons_append,pY a _ v hl,hp];exact congrArg (c::·) ih.2
noncomputable def bq:Tx:=[101,110,100,46]
theorem rt (b:Tx):∀ A:Tx,bH 46 A=false->bA bq b (A++bq)=A++b
 | [],_=>List.append_nil b
 | c::A,h=>by
  have h:=Bool.or_eq_false_iff.mp h;have e:pre bq (c::(A++bq))=false:=by
   match A,h with
   | [],_=>show (Nat.beq 101 c&&_)=false; cases Nat.beq 101 c<;>rfl
   | [d],_=>show (Nat.beq 101 c&&(Nat.beq 110 d&&_))=false; cases Nat.beq 101 c<;>cases Nat.beq 110 d<;>rfl
   | [d,e],_=>show (Nat.beq 101 c&&(Nat.beq 110 d&&(Nat.beq 100 e&&_)))=false; cases Nat.beq 101 c<;>cases Nat.beq 110 d<;>cases Nat.beq 100 e<;>rfl
   | d::e::f::A,h=>
    have h:=(Bool.or_eq_false_iff.mp (Bool.or_eq_false_iff.mp (Bool.or_eq_false_iff.mp h.2).2).2).1;show (Nat.beq 101 c&&(Nat.beq 110 d&&(Nat.beq 100 e&&(Nat.beq 46 f&&_))))=false;rw [h];cases Nat.beq 101 c<;>cases Nat.beq 110 d<;>cases Nat.beq 100 e<;>rfl
  rw [List.cons_append,tF,e];exact congrArg (c::·) (rt b A h.2)
noncomputable def hh (n:Nat):Tx:=[112,114,111,103,114,97,109,32,112,59,118,97,114,32,120,44,121,58,105,110,116,101,103,101,114,59,97,58,97,114,114,97,121,91]++([48+n]++gN)
noncomputable def pairAt (l:List (Tx×Tx))(b:Nat):Tx×Tx:=l.getD b ([],[])
noncomputable def iY (q:Tx×Tx)(n:Nat):Option Tx:=Lg q.1 q.2 (hh n)
noncomputable def Uy:Ex:=.bin [43] (.bin [43] (.bin [42] (.name nV) (.int 2)) (.name nN)) (.name nZ)
noncomputable def Ux:Ex:=.bin [43] (.bin [43] (.bin [42] (.name nV) (.int 2)) (.neg (.neg (.name nN)))) (.name nZ)
noncomputable def gT (e:Ex):Bl:=.mk [] .nil (.seq (.set nV e) (.seq (.set nN (.bin [45] (.name nN) (.int 1))) (.one (.if1 (.bin [62,61] (.name nN) (.int 0)) (.call nQ [.name nN,.name nX])))))
noncomputable def hT:Bl:=.mk [] .nil (.one (.set nY (.name nX)))
noncomputable def gP (w:Bool)(e:Ex):Bl:=match w with
 | false=>.proc nG [] (gT e) .nil
 | true=>.proc [104] [(nX,false),(nY,true)] hT (.proc nG [] (gT e) .nil)
noncomputable def PD:St:=.set nV (.bin [43] (.name nV) (.name nX))
noncomputable def Ts:St:=.nk (.seq PD (.one .empty))
noncomputable def qT (w:Bool)(e:Ex)(s:St):Bl:=.mk [(nX,Option.none)] (gP w e) (.seq (.for nX (.name nN) (.int 1) false s) (.seq (.call nG []) (.one (.write (.bin [43] (.name nX) (.name nN))))))
noncomputable def OC (w:Bool)(e:Ex)(s:St):Bl:=.proc nQ qP (qT w e s) .nil
def Pn (e:Ex):Prop:=Ex.wf e=true∧Nat.ble e.sz 20=true∧∀ {sc:List Scope} {st:List Int} {b:Nat} {u d w:Int},small u=true->bN sc st b (.name nV)=.ok u->bN sc st b (.name nN)=.ok d->bN sc st b (.name nZ)=.ok w->bN sc st b e=.ok (u*2+d+w)
theorem SJ:Pn Uy:=⟨rfl,rfl,fun hs h1 h2 h3=>aO (aO (aO h1 rfl (mul_eq hs (by decide +kernel))) h2 rfl) h3 rfl⟩
theorem SI:Pn Ux:=⟨rfl,rfl,fun {sc st b u d w} hs h1 h2 h3=>aO (aO (aO h1 rfl (mul_eq hs (by decide +kernel))) (jM (jM h2)) rfl) h3 (by rw [Int.neg_neg]; rfl)⟩
theorem S7 {sc:List Scope}:km sc PD nV (.bin [43] (.name nV) (.name nX)):=fun h=>h
theorem SY {sc:List Scope}:km sc Ts nV (.bin [43] (.name nV) (.name nX)):=fun h=>by
 obtain ⟨q,h1,h2⟩:=At.seq h.nk;rw [h2.one.empty]; exact h1
noncomputable def Tr:Scope:=[(nN,.var 3),(nV,.ref 4),(nX,.var 5)]
noncomputable def kC (w:Bool)(ga:Nat):Scope:=match w with
 | false=>[(nN,.var 3),(nV,.ref 4),(nX,.var 5),(nG,.proc ga [])]
 | true=>[(nN,.var 3),(nV,.ref 4),(nX,.var 5),([104],.proc 2 [(nX,false),(nY,true)]),(nG,.proc ga [])]
theorem W7 {code:List In}{S:Scope}{w:Bool}{e:Ex}{cs:List In×Scope}(h:bU [S] Tr 2 (gP w e)=.ok cs)(hf:Frag code 2 cs.1):∃ ga c,cs.2=kC w ga∧dJ [kC w ga,S] ga [] (gT e)=.ok c∧Frag code ga c:=by
 cases w with
 | false=>
  obtain ⟨c,h1,h2⟩:=R.ao h;cases h2;exact ⟨2,c,rfl,h1,(bO hf).1⟩
 | true=>
  obtain ⟨c,h1,h2⟩:=R.ao h;obtain ⟨d,h3,h4⟩:=R.ao h2;obtain ⟨c',h5,h6⟩:=R.ao h3;cases h6;cases h4;exact ⟨2+c.length,c',rfl,h5,(bO (bO hf).2).1⟩
theorem KW {P:Nat->Prop}(h0:P 0)(h1:P 1):∀ {k:Nat},k<2->P k
 | 0,_=>h0
 | 1,_=>h1
 | k+2,h=>absurd h (Nat.not_lt.mpr (Ar 2 k))
theorem fz {B n ga:Nat}{w:Bool}(hB:B<2):findS nZ [[],kC w ga,bt B (n+1)] 0=some (2,.var (5+((bs B).length+(n+1)))):=
 KW (P:=fun B=>findS nZ [[],kC w ga,bt B (n+1)] 0=some (2,.var (5+((bs B).length+(n+1))))) (by rw [show (bs 0).length+(n+1)=n+1 from Nat.zero_add _]; cases w<;>rfl) (by rw [show 5+((bs 1).length+(n+1))=6+(n+1) from (Nat.add_assoc 5 1 (n+1)).symm]; cases w<;>rfl) hB
theorem fq {B n ga:Nat}{w:Bool}(hB:B<2):findS nQ [[],kC w ga,bt B (n+1)] 0=some (2,.proc 1 qP):=
 KW (P:=fun B=>findS nQ [[],kC w ga,bt B (n+1)] 0=some (2,.proc 1 qP)) (by cases w<;>rfl) (by cases w<;>rfl) hB
theorem fF {S:Scope}(w:Bool)(ga:Nat):findS nN [kC w ga,S] 0=some (0,.var 3)∧findS nV [kC w ga,S] 0=some (0,.ref 4)∧findS nX [kC w ga,S] 0=some (0,.var 5)∧findS nG [kC w ga,S] 0=some (0,.proc ga [])∧findS nN [[],kC w ga,S] 0=some (1,.var 3)∧findS nV [[],kC w ga,S] 0=some (1,.ref 4)∧findS nX [[],kC w ga,S] 0=some (1,.var 5):=by
 cases w<;>exact ⟨rfl,rfl,rfl,rfl,rfl,rfl,rfl⟩
theorem RG {B n:Nat}{code pc:List In}{w:Bool}{e:Ex}{s:St}(hB:B<2)(he:Pn e)(hs:∀ {sc},km sc s nV (.bin [43] (.name nV) (.name nX)))(h:dJ [bt B (n+1)] 1 qP (qT w e s)=.ok pc)(hf:Frag code 1 pc):∃ dK ga,QC code dK (bt B (n+1)) (5+((bs B).length+(n+1))) 1 ga:=by
 obtain ⟨w',cs,pb,pe,h1,h2,WH,h4,h5,h6⟩:=mh h hf;have hw:(Tr,6)=w':=R.ok.inj h1;subst hw;obtain ⟨ga,c,OT,hc,hg⟩:=W7 h2 WH;obtain ⟨w',ds,OF,Tw,k1,k2,_,k4,k5,k6⟩:=mh hc hg;have hw:([],3)=w':=R.ok.inj k1;subst hw;have hd:([],[])=ds:=R.ok.inj k2;subst hd;rw [OT] at h4;obtain ⟨m1,a1,a2⟩:=h4.seq;obtain ⟨m2,a2,a3⟩:=a2.seq;obtain ⟨n1,b1,b2⟩:=k4.seq;obtain ⟨n2,b2,b3⟩:=b2.seq;have bd:∃ pb m1 m2 pe s,km [kC w ga,bt B (n+1)] s nV (.bin [43] (.name nV) (.name nX))∧At code [kC w ga,bt B (n+1)] 6 pb (.for nX (.name nN) (.int 1) false s) m1∧At code [kC w ga,bt B (n+1)] 6 m1 (.call nG []) m2∧At code [kC w ga,bt B (n+1)] 6 m2 (.write (.bin [43] (.name nX) (.name nN))) pe∧code[pe]?=some .ret∧
  ∀ {st:List Int} {b:Nat} {o:List Int} {t:Nat} {res:Option (List Int)},st.length+1<=900000->U code (st++[0]) b pb o t res->U code st b 1 o t res:=⟨pb,m1,m2,pe,s,hs,a1,a2,a3.one,h5,fun hl g=>h6 hl g⟩
 have gb:∃ pb m1 m2 pe e,(Ex.wf e=true∧Nat.ble e.sz 20=true∧∀ {st:List Int} {b:Nat} {u d w':Int},small u=true->bN [[],kC w ga,bt B (n+1)] st b (.name nV)=.ok u->bN [[],kC w ga,bt B (n+1)] st b (.name nN)=.ok d->bN [[],kC w ga,bt B (n+1)] st b (.name nZ)=.ok w'->bN [[],kC w ga,bt B (n+1)] st b e=.ok (u*2+d+w'))∧
  At code [[],kC w ga,bt B (n+1)] 3 pb (.set nV e) m1∧At code [[],kC w ga,bt B (n+1)] 3 m1 (.set nN (.bin [45] (.name nN) (.int 1))) m2∧At code [[],kC w ga,bt B (n+1)] 3 m2 (.if1 (.bin [62,61] (.name nN) (.int 0)) (.call nQ [.name nN,.name nX])) pe∧code[pe]?=some .ret∧
  ∀ {st:List Int} {b:Nat} {o:List Int} {t:Nat} {res:Option (List Int)},st.length<=900000->U code st b pb o t res->U code st b ga o t res:=⟨OF,n1,n2,Tw,e,⟨he.1,he.2.1,fun h1 h2 h3 h4=>he.2.2 h1 h2 h3 h4⟩,b1,b2,b3.one,k5,fun {st b o t res} hl g=>k6 (st:=st) hl (by
   show U code (st++[]) b OF o t res;rw [az]; exact g)⟩
 have F:=fF (S:=bt B (n+1)) w ga;exact ⟨kC w ga,ga,F.1,F.2.1,F.2.2.1,F.2.2.2.1,F.2.2.2.2.1,F.2.2.2.2.2.1,F.2.2.2.2.2.2,fz hB,fq hB,bd,gb⟩
noncomputable def xT (c:Nat):Tx:=match Nat.blt c 3 with
 | true=>[45,51-c]
 | false=>[45+c]
noncomputable def xE (c:Nat):Ex:=match Nat.blt c 3 with
 | true=>.neg (.int (3-c))
 | false=>.int (c-3)
noncomputable def xV (c:Nat):Int:=(c:Int)-3
noncomputable def c7:List Nat:=[0,1,2,3,4,5,6]
theorem Bp:∀ {c:Nat},c<7->c∈c7:=fun {c} h=>(by decide:∀ c<7,c∈[0,1,2,3,4,5,6]) c h
theorem MU:c7.map (fun c=>Hp ([120,58,61]++xT c))=c7.map (fun c=>.ok [.set nX (xE c)]):=by kernel_rfl
theorem Q2:c7.all (fun c=>gu (.set nX (xE c))&&((xE c).wf&&Nat.ble (xE c).sz 1000&&Nat.ble ([120,58,61]++xT c).length 200))=true:=by decide +kernel
theorem Q1 {sc:List Scope}{st:List Int}{b c:Nat}:bN sc st b (xE c)=.ok (xV c):=by
 match c with
 | 0=>rfl
 | 1=>rfl
 | 2=>rfl
 | c+3=>exact congrArg R.ok (Int.add_sub_cancel (c:Int) 3).symm
theorem MW {sc:List Scope}{c:Nat}:hU sc (.set nX (xE c))=okN sc nX:=by
 show (okN sc nX&&nh sc (xE c))=_;unfold xE;cases Nat.blt c 3<;>exact Bool.and_true _
noncomputable def tl (n:Nat):Tx:=[102,111,114,32,120,58,61,48,32,116,111,32]++([47+n]++[32,100,111,32,119,114,105,116,101,40,97,91,120,93,41])
noncomputable def KP:List Tok:=[.word gF,.word nv,.fin]
noncomputable def n3:List Nat:=[0,1,2]
theorem fA:∀ {c:Nat},c<3->c∈n3:=fun {c} h=>(by decide:∀ c<3,c∈[0,1,2]) c h
noncomputable def Cv (e:Tx)(n:Nat):R (List St×List Tok):=(gI 200 (tl (n+1)++e)).bind fun ts=>RW 9 (ts++[.fin])
noncomputable def uM:Tx:=[101,110,100,123,125,46,123,120,125,10]
theorem pj:n3.map (Cv bq)=n3.map (fun n=>.ok (mX (n+1),KP)):=by kernel_rfl
theorem DS:n3.map (Cv uM)=n3.map (fun n=>.ok (mX (n+1),KP)):=by kernel_rfl
theorem Im:n3.all (fun n=>Nat.ble (tl (n+1)).length 60)=true:=by decide +kernel
theorem FO {e:Tx}{n:Nat}{q:List St×List Tok}(hn:n<3)(he:Nat.ble e.length 40=true)(h:Cv e n=.ok q):FE 9 100 (tl (n+1)++e) (.ok q):=by
 obtain ⟨ts,h1,h2⟩:=R.ao h;exact ⟨by rw [Ac]; exact Aq (Ad (List.all_eq_true.mp Im _ (fA hn))) (Ad he),.inl ⟨ts,vM 200 _ _ h1,h2⟩⟩
noncomputable def d8 (n c m:Nat)(r1 r2:Rd):List Tx:=([120,58,61]++xT c)::([121,58,61]++bW (m:Int))::(GR n r1++(GR n r2++[[119,114,105,116,101,40,120,41],[119,114,105,116,101,40,121,41]]))
noncomputable def d9 (n c m:Nat)(r1 r2:Rd):List St:=[.set nX (xE c)]++([.set nY (.int m)]++(sS n r1++(sS n r2++CL)))
theorem iX.join {us vs:List Tx}{ss rs:List St}(h:iX us ss)(h':iX vs rs):iX (us++vs) (ss++rs):=fun {n b v m} g=>by
 have:=h (h' g);have e:jx ss (jx rs m)=jx (ss++rs) m:=by
  cases m with
  | ok q=>exact congrArg R.ok (Prod.ext (Ae ss rs q.1).symm rfl)
  | err=>rfl
  | bot=>rfl
 have sg:∀ us:List Tx,dj us (dj vs v)=dj (us++vs) v:=fun us=>by
  induction us with
  | nil=>rfl
  | cons u us ih=>exact congrArg (u++59::·) ih
 rw [e,sg,Nat.add_assoc,Nat.add_assoc,Nat.add_comm rs.length,← Ac,← Nat.mul_add,Nat.add_comm vs.length,← Ac] at this;exact this
section
variable {n c m:Nat}{r1 r2:Rd}
theorem H9:iX [[119,114,105,116,101,40,120,41],[119,114,105,116,101,40,121,41]] CL:=iX.cons (Pc.of (by kernel_rfl) rfl) (iX.cons (Pc.of (by kernel_rfl) rfl) iX.nil)
theorem Ha (hc:c<7):Pc ([120,58,61]++xT c) [.set nX (xE c)]∧gu (.set nX (xE c))=true∧((xE c).wf&&Nat.ble (xE c).sz 1000)=true:=by
 have h:=Ab (List.all_eq_true.mp Q2 _ (Bp hc));have h2:=Ab h.2;exact ⟨Pc.of (cM MU (Bp hc)) h2.2,h.1,h2.1⟩
theorem mi (hn:n<3)(hc:c<7)(hm:m<10 ^ 20)(h1:r1.ok)(h2:r2.ok):iX (d8 (n+1) c m r1 r2) (d9 (n+1) c m r1 r2):=
 iX.cons (Ha hc).1 (iX.cons (QW hm) (iX.join (zY hn h1) (iX.join (zY hn h2) H9)))
theorem F8 {B:Nat}(hB:B<2):okN [bt B (n+1)] nX=true∧okN [bt B (n+1)] nY=true∧CL.all (hU [bt B (n+1)])=true∧(mX (n+1)).all (hU [bt B (n+1)])=true:=
 KW (P:=fun B=>okN [bt B (n+1)] nX=true∧okN [bt B (n+1)] nY=true∧CL.all (hU [bt B (n+1)])=true∧(mX (n+1)).all (hU [bt B (n+1)])=true) ⟨rfl,rfl,rfl,rfl⟩ ⟨rfl,rfl,rfl,rfl⟩ hB
theorem k9 {B:Nat}(hB:B<2)(hn:n<3)(hc:c<7)(h1:r1.ok)(h2:r2.ok):(d9 (n+1) c m r1 r2).all gu=true∧(d9 (n+1) c m r1 r2).all (hU [bt B (n+1)])=true∧(d9 (n+1) c m r1 r2).length<=12:=by
 have a:=FZ hB hn h1;have b:=FZ hB hn h2;have k:=F8 (n:=n) hB;refine ⟨a9 (Bool.and_eq_true_iff.mpr ⟨(Ha hc).2.1,rfl⟩) (a9 rfl (a9 a.1 (a9 b.1 rfl))),a9 (Bool.and_eq_true_iff.mpr ⟨MW.trans k.1,rfl⟩) (a9 (Bool.and_eq_true_iff.mpr ⟨Bool.and_eq_true_iff.mpr ⟨k.2.1,rfl⟩,rfl⟩) (a9 a.2.1 (a9 b.2.1 k.2.2.1))),?_⟩;show (sS (n+1) r1++(sS (n+1) r2++CL)).length+1+1<=12;rw [Ac,Ac];exact Al (Aq a.2.2 (Aq b.2.2 (Aj 2))) 2
theorem mj:(d8 n c m r1 r2).length=10:=rfl
structure wY (s:Nat)(w:Tx)(ps:List St):Prop where
 fe:∀ {k b:Nat} {v:Tx} {m:R (List St×List Tok)},FE k b v m->FE (k+ps.length) (b+402) (s::(w++v)) (jx ps m)
 len:ps.length<=2
theorem BN (m:R (List St×List Tok)):jx [] m=m:=by cases m<;>rfl
theorem FE.lead {k b b':Nat}{v:Tx}{m:R (List St×List Tok)}(h:FE k b v m)(hb:b<=b'):FE k b' v m:=⟨Aa h.1 hb,h.2⟩
theorem FE.sp {k b:Nat}{v:Tx}{m:R (List St×List Tok)}(h:FE k b v m):FE k (b+1) (32::v) m:=⟨Au h.1,by
 rcases h.2 with ⟨T,t1,t2⟩ | ⟨t1,t2⟩
 ·exact .inl ⟨T,t1.space,t2⟩
 ·exact .inr ⟨t1.space,t2⟩⟩
theorem zj:wY 32 [] []:=⟨fun {k b v m} h=>by
 rw [BN];exact h.sp.lead (Ak (by decide) b),by decide⟩
theorem F9:Pc [] [.empty]:=Pc.of (by kernel_rfl) rfl
theorem I2:wY 59 [59] [.empty,.empty]:=⟨fun h=>iX.cons F9 (iX.cons F9 iX.nil) h,by decide⟩
theorem kR {s:Nat}{w nm hd e:Tx}{ps:List St}{B:Bl}{q:List St×List Tok}(L:wY s w ps)(H:Hd s nm hd B)(hn:n<3)(hc:c<7)(hm:m<10 ^ 20)(h1:r1.ok)(h2:r2.ok)(he:Nat.ble e.length 40=true)(ht:Cv e n=.ok q) :
  dF (hd++s::(w++dj (d8 (n+1) c m r1 r2) (tl (n+1)++e)))=HZ nm (hV s hd).1 B (jx ps (jx (d9 (n+1) c m r1 r2) (.ok q))):=by
 have hl:=(k9 (B:=0) (m:=m) (by decide) hn hc h1 h2).2.2;have hL:=Aq hl L.len;have x:=L.fe (mi hn hc hm h1 h2 ((FO hn he ht).ge (n:=aY-((d9 (n+1) c m r1 r2).length+ps.length)) (Nat.le_sub_of_add_le (Aa (Ak hL 9) (by decide)))));rw [Nat.add_assoc,Nat.sub_add_cancel (Aa hL (by decide))] at x;exact H.par x (by rw [mj]; rfl)
end
theorem L5 {code:List In}{sc:List Scope}{f p p':Nat}{rest:List St}:∀ {ps:List St},(∀ s∈ps,s=.empty)->kM code sc f p (ps++rest) p'->kM code sc f p rest p'
 | [],_,h=>h
 | s::ps,hp,h=>by
  cases h with
  | cons h1 h2=>
   rw [hp s (.head _)] at h1;rw [h1.empty] at h2;exact L5 (fun s hs=>hp s (.tail _ hs)) h2
theorem vV {ps:List St}{q:St->Bool}(hp:∀ s∈ps,s=.empty)(hq:q .empty=true):ps.all q=true:=List.all_eq_true.mpr fun s hs=>hp s hs▸hq
theorem VK (B n:Nat):[0,0,0]++List.replicate (B+n+3+1) (0:Int)=mm (bs B) 0 0 (List.replicate (n+1) 0) 0:=by
 show 0::0::0::0::0::List.replicate (B+n+2) (0:Int)=0::0::0::0::0::(List.replicate B 0++(List.replicate (n+1) 0++List.replicate 1 0));rw [List.replicate_append_replicate,List.replicate_append_replicate]; rfl
theorem FI:∀ c<7,bd 67 (xV c):=fun c h=>by
 show (xV c).natAbs<2 ^ 67;unfold xV;exact Nat.lt_trans ((by decide:∀ c:Nat,c<7->((c:Int)-3).natAbs<8) c h) (by decide)
section
variable {s:Nat}{w nm hd et:Tx}{ps:List St}{wq:Bool}{e:Ex}{sv:St}{B n c m:Nat}{r1 r2:Rd}{pc:List In}{S4:Scope}
theorem Kn (L:wY s w ps)(hp:∀ s∈ps,s=.empty)(H:Hd s nm hd (OC wq e sv))(C:HC (hV s hd).1 (OC wq e sv) pc S4 (bt B (n+1)) (B+n+3))(hB:B<2)(hn:n<3)(He:Pn e)(Hs:∀ {sc},km sc sv nV (.bin [43] (.name nV) (.name nX)))(hc:c<7)(hm:m<10 ^ 20)(h1:r1.ok)(h2:r2.ok)(het:Nat.ble et.length 40=true)(ht:Cv et n=.ok (mX (n+1),KP))(f:Nat) :
  kL (hd++s::(w++dj (d8 (n+1) c m r1 r2) (tl (n+1)++et))) f (wQ (s8 (n+1) r1 r2 (xV c) (m:Int)) f):=by
 have P:=kR L H hn hc hm h1 h2 het ht;have K:=k9 (m:=m) hB hn hc h1 h2;have T:=(F8 (n:=n) hB).2.2.2;have V:=mv hB (Au (Nat.zero_le n)) (Nat.succ_le_of_lt hn);have a1:(ps++(d9 (n+1) c m r1 r2++mX (n+1))).all gu=true:=a9 (vV hp rfl) (a9 K.1 rfl);have a2:(ps++(d9 (n+1) c m r1 r2++mX (n+1))).all (hU [bt B (n+1)])=true:=a9 (vV hp rfl) (a9 K.2.1 T);have a3:(ps++(d9 (n+1) c m r1 r2++mX (n+1))).length<=15:=by
  rw [Ac,Ac];exact Aq L.len (Aq K.2.2 (Aj 1))
 have sk:=fun {code:List In} {f p p':Nat}=>L5 (code:=code) (sc:=[bt B (n+1)]) (f:=f) (p:=p) (p':=p') (rest:=d9 (n+1) c m r1 r2++mX (n+1)) hp;have P:dF (hd++s::(w++dj (d8 (n+1) c m r1 r2) (tl (n+1)++et)))=HZ nm (hV s hd).1 (OC wq e sv) (.ok (ps++(d9 (n+1) c m r1 r2++mX (n+1)),KP)):=P;have ne:ps++(d9 (n+1) c m r1 r2++mX (n+1))≠[]:=fun q=>by
  have:=congrArg List.length q;rw [Ac,Ac] at this;exact absurd this (Nat.ne_of_gt (An (Nat.zero_lt_one) (Aa (Ar 1 _) (Ar _ _))))
 revert P a1 a2 a3 sk ne;generalize ps++(d9 (n+1) c m r1 r2++mX (n+1))=l;intro a1 a2 a3 sk P ne;cases l with
 | nil=>exact absurd rfl ne
 | cons s0 ss=>
 have a1:=Ab a1;obtain ⟨code,pb,pe,g1,g2,g3,g4,g5⟩:=C.good a1.1 a1.2 (Aa (Am a3) (by decide)) a2;refine kL.run P g1 ?_;obtain ⟨c1,k1,k2⟩:=R.ao C.procs;have k2:R.ok (c1++[],dz nQ (.proc 1 qP) S4)=.ok (pc,bt B (n+1)):=k2;have k2:=R.ok.inj k2;rw [← show c1++[]=pc from congrArg Prod.fst k2] at g2;rw [show dz nQ (.proc 1 qP) S4=bt B (n+1) from congrArg Prod.snd k2] at k1;obtain ⟨dK,ga,Q⟩:=RG hB He Hs k1 (bO g2).1;have ek:B+n+3+4=5+((bs B).length+(n+1+1)):=by rw [show (bs B).length=B from List.length_replicate]; exact (Nat.add_comm 5 (B+(n+1+1))).symm
 rw [ek] at g3;have g3:=sk g3;unfold d9 at g3;rw [Ae,Ae,Ae,Ae] at g3;obtain ⟨p1,x1,g3⟩:=g3.inv;obtain ⟨p2,x2,g3⟩:=g3.inv;have run:=fun f=>mainRun hB hn Q h1 h2 (FI c hc) (show bd 67 (m:Int) from Nat.lt_trans hm (by decide)) g3 g4 f;have st:∀ {t res},U code (mm (bs B) (xV c) (m:Int) (List.replicate (n+1) 0) 0++[]) 0 _ [] t res->U code [0,0,0] 0 0 [] t res:=fun {t res} g=>by
  refine g5 (by lia) ?_;rw [VK,← az (mm _ _ _ _ _)];exact qL V List.length_replicate x1 (Ha hc).2.2 rfl Q1 (wA V List.length_replicate x2 rfl rfl rfl g)
 revert run;cases s8 (n+1) r1 r2 (xV c) (m:Int) with
 | none=>
  intro run;have:=st (t:=0) (res:=Option.none) (fun f=>by rw [az,fP]; exact run f) f;rw [fP] at this; exact this
 | some w=>exact fun run=>st (t:=w.2) (res:=some w.1) (fun f=>by rw [az]; exact run f) f
end
noncomputable def nL (b k:Nat){α:Type}(x y:α):α:=match Nat.beq b k with
 | true=>x
 | false=>y
noncomputable def tH (b n:Nat):Tx:=nL b 4 (hh n) ((iY (pairAt da b) n).getD [])
noncomputable def sL (b:Nat):Nat:=nL b 11 59 32
noncomputable def wL (b:Nat):Tx:=nL b 11 [59] []
noncomputable def pL (b:Nat):List St:=nL b 11 [.empty,.empty] []
noncomputable def TG (b:Nat):Tx:=nL b 0 [112,49,120] [112]
noncomputable def qJ (b n:Nat):Tx:=(tH b n).take ((tH b n).length-nL b 11 5 4)
noncomputable def BL (b:Nat):Nat:=nL b 10 1 0
noncomputable def GS (b:Nat):Bl:=OC (nL b 9 true false) (nL b 5 Ux Uy) (nL b 6 Ts PD)
noncomputable def Xp (b n:Nat):Bool:=(nL b 4 true (iY (pairAt da b) n).isSome)&&(aB (tH b n) (qJ b n++sL b::(wL b++[120,58,61]))&&(HR (sL b) (TG b) (qJ b n)&&(O4 (hV (sL b) (qJ b n)).1 (GS b)&&dN [] (cF ([]:List (Tx×Bool))++cF (hV (sL b) (qJ b n)).1++(GS b).names))))
noncomputable def VJ:List Nat:=[0,1,2,3,4,5,6,7,8,9,10,11]
noncomputable def cL:List (Nat×Nat):=VJ.flatMap fun b=>n3.map fun n=>(b,n)
theorem jP {b n:Nat}(hb:b<12)(hn:n<3):(b,n)∈cL:=List.mem_flatMap.mpr ⟨b,(by decide:∀ m<12,m∈[0,1,2,3,4,5,6,7,8,9,10,11]) b hb,List.mem_map.mpr ⟨n,fA hn,rfl⟩⟩
set_option maxHeartbeats 0 in
theorem GH:cL.all (fun q=>Xp q.1 (q.2+1))=true:=by decide +kernel
theorem Bn:cL.map (fun q=>dG (dH 5) aY (hV (sL q.1) (qJ q.1 (q.2+1))).2)=cL.map (fun q=>.ok (GS q.1,[.word iN])):=by kernel_rfl
noncomputable def yW (b n:Nat):R (Nat×Scope):=(eK [] 3 (hV (sL b) (qJ b n)).1).bind fun w=>(bU [] w.1 1 (GS b)).bind fun c=>.ok (w.2,c.2)
theorem Bo:cL.map (fun q=>yW q.1 (q.2+1))=cL.map (fun q=>.ok (BL q.1+q.2+3+4,bt (BL q.1) (q.2+1))):=by kernel_rfl
theorem gV (d:Nat):∀ u v:Tx,bH d (u++v)=(bH d u||bH d v)
 | [],v=>rfl
 | c::u,v=>(congrArg (Nat.beq d c||·) (gV d u v)).trans (Bool.or_assoc ..).symm
def iB (u:Tx):Prop:=(bH 46 u||bH 125 u)=false
theorem iB.d {u:Tx}(h:iB u):bH 46 u=false:=(Bool.or_eq_false_iff.mp h).1
theorem iB.b {u:Tx}(h:iB u):bH 125 u=false:=(Bool.or_eq_false_iff.mp h).2
theorem iB.app {u v:Tx}(h:iB u)(h':iB v):iB (u++v):=by
 unfold iB;rw [gV,gV,h.d,h.b,h'.d,h'.b]; rfl
theorem iB.seg {tl:Tx}(ht:iB tl):∀ us:List Tx,(∀ u∈us,iB u)->iB (dj us tl)
 | [],_=>ht
 | u::us,h=>(h u (.head _)).app (show iB ([59]++dj us tl) from iB.app rfl (iB.seg ht us fun v hv=>h v (.tail _ hv)))
theorem Kv {u:Tx}(h:∀ c∈u,aI c=true):iB u:=by
 have k:∀ {d:Nat},aI d=false->bH d u=false:=fun {d} hd=>by
  induction u with
  | nil=>rfl
  | cons c u ih=>
   refine Bool.or_eq_false_iff.mpr ⟨?_,ih fun c hc=>h c (.tail _ hc)⟩;cases e:Nat.beq d c with
   | false=>rfl
   | true=>rw [As e,h c (.head _)] at hd; cases hd
 exact Bool.or_eq_false_iff.mpr ⟨k (by decide),k (by decide)⟩
theorem N6:fJ (fun n=>fJ (fun i=>!(bH 46 (jq (n+1) i)||bH 125 (jq (n+1) i))) 8) 3=true:=by decide +kernel
theorem N8:fJ (fun i=>!(bH 46 (eT i)||bH 125 (eT i))) 7=true:=by decide +kernel
theorem N9:wR.all (fun q=>!(bH 46 (mW q.1 q.2)||bH 125 (mW q.1 q.2)))=true:=by decide +kernel
theorem N5:fJ (fun c=>!(bH 46 (xT c)||bH 125 (xT c))) 7=true:=by decide +kernel
theorem N7:fJ (fun n=>!(bH 46 (tl (n+1))||bH 125 (tl (n+1)))&&!(bH 46 (hh (n+1))||bH 125 (hh (n+1)))) 3=true:=by decide +kernel
section
variable {n c m:Nat}{r1 r2:Rd}
theorem GF (hn:n<3){r:Rd}(h:r.ok):∀ u∈GR (n+1) r,iB u:=fun u hu=>by
 have W:=fun i (hi:i<8)=>show iB (jq (n+1) i) from not_true (bh (bh N6 hn) hi);have G:=fun i (hi:i<7)=>show iB (eT i) from not_true (bh N8 hi);have sp:∀ {v:Tx},iB v->iB (32::v):=fun {v} h=>show iB ([32]++v) from iB.app rfl h;rcases List.mem_cons.mp hu with rfl | hu
 ·exact iB.app rfl ((W _ h.i).app (sp ((G _ h.s).app (sp ((W _ h.j).app (sp ((G _ h.t).app (sp (W _ h.l)))))))))
 rcases List.mem_cons.mp hu with rfl | hu
 ·rfl
 rw [List.mem_singleton.mp hu];exact not_true (List.all_eq_true.mp N9 _ (jf h.k h.u))
noncomputable def bT (n c m:Nat)(r1 r2:Rd)(e:Tx):Tx:=xT c++59::dj (d8 n c m r1 r2).tail (tl n++e)
noncomputable def gg (n c m:Nat)(r1 r2:Rd):Tx:=hh n++bT n c m r1 r2 bq
theorem BI (us:List Tx)(a b:Tx):dj us (a++b)=dj us a++b:=by
 induction us with
 | nil=>rfl
 | cons u us ih=>show u++59::dj us (a++b)=(u++59::dj us a)++b; rw [ih,Ae]; rfl
theorem ue (e:Tx):bT n c m r1 r2 e=(xT c++59::dj (d8 n c m r1 r2).tail (tl n))++e:=by
 unfold bT;rw [BI,Ae]; rfl
theorem sq (hn:n<3)(hc:c<7)(h1:r1.ok)(h2:r2.ok):iB (xT c++59::dj (d8 (n+1) c m r1 r2).tail (tl (n+1)))∧iB (hh (n+1)):=by
 have t:=Ab (bh N7 hn);refine ⟨iB.app (not_true (bh N5 hc)) (show iB ([59]++dj _ _) from iB.app rfl (iB.seg (not_true t.1) _ fun u hu=>?_)),not_true t.2⟩;rcases List.mem_cons.mp (show u∈([121,58,61]++bW (m:Int))::(GR (n+1) r1++(GR (n+1) r2++[[119,114,105,116,101,40,120,41],[119,114,105,116,101,40,121,41]])) from hu) with rfl | hu
 ·exact iB.app rfl (Kv fun c hc=>vX hc)
 rcases List.mem_append.mp hu with hu | hu
 ·exact GF hn h1 u hu
 rcases List.mem_append.mp hu with hu | hu
 ·exact GF hn h2 u hu
 rcases List.mem_cons.mp hu with rfl | hu
 ·rfl
 rw [List.mem_singleton.mp hu]; rfl
theorem rf (hn:n<3)(hc:c<7)(h1:r1.ok)(h2:r2.ok)(e:Tx):bA bq e (gg (n+1) c m r1 r2)=hh (n+1)++bT (n+1) c m r1 r2 e:=by
 have k:=sq (m:=m) hn hc h1 h2;unfold gg;rw [ue,ue,← Ae,← Ae];exact rt e _ (k.2.app k.1).d
theorem iw {q:Tx×Tx}{u:Tx}(h:iY q n=some u):bA q.1 q.2 (gg n c m r1 r2)=u++bT n c m r1 r2 bq:=(zV h).2
theorem Fc (e:Tx):[120,58,61]++bT n c m r1 r2 e=dj (d8 n c m r1 r2) (tl n++e):=rfl
theorem qc {α:Type}{P:α->Prop}{b k:Nat}{x y:α}(hx:P x)(hy:P y):P (nL b k x y):=by
 unfold nL;cases Nat.beq b k with
 | true=>exact hx
 | false=>exact hy
theorem vO (b:Nat):wY (sL b) (wL b) (pL b)∧∀ s∈pL b,s=.empty:=by
 unfold sL wL pL nL;cases Nat.beq b 11 with
 | true=>exact ⟨I2,fun s hs=>(List.mem_cons.mp hs).elim id fun hs=>List.mem_singleton.mp hs⟩
 | false=>exact ⟨zj,fun s hs=>absurd hs List.not_mem_nil⟩
theorem EY {b:Nat}(hb:b<12)(hn:n<3)(hc:c<7)(hm:m<10 ^ 20)(h1:r1.ok)(h2:r2.ok)(f:Nat):kL (bA (pairAt da b).1 (pairAt da b).2 (gg (n+1) c m r1 r2)) f (wQ (s8 (n+1) r1 r2 (xV c) (m:Int)) f):=by
 have k:=Ab (List.all_eq_true.mp GH _ (jP hb hn));have k2:=Ab k.2;have k3:=Ab k2.2;have k4:=Ab k3.2;have H:Hd (sL b) (TG b) (qJ b (n+1)) (GS b):=⟨k3.1,cM (a:=(b,n)) Bn (jP hb hn)⟩;have e0:yW b (n+1)=.ok (BL b+n+3+4,bt (BL b) (n+1)):=cM (a:=(b,n)) Bo (jP hb hn);unfold yW at e0;obtain ⟨w,e1,e2⟩:=R.ao e0;obtain ⟨d,e3,e4⟩:=R.ao e2;have e4:=R.ok.inj e4;have ew:w=(w.1,BL b+n+3+4):=Prod.ext rfl (show w.2=_ from congrArg (fun q:Nat×Scope=>q.1) e4);have ed:d=(d.1,bt (BL b) (n+1)):=Prod.ext rfl (show d.2=_ from congrArg (fun q:Nat×Scope=>q.2) e4);rw [ew] at e1;rw [ed] at e3;have C:HC (hV (sL b) (qJ b (n+1))).1 (GS b) d.1 w.1 (bt (BL b) (n+1)) (BL b+n+3):=⟨k4.1,k4.2,e1,e3⟩;have key:=fun et (het:Nat.ble et.length 40=true) (ht:Cv et n=.ok (mX (n+1),KP))=>Kn (vO b).1 (vO b).2 H C (qc (P:=(·<2)) (by decide) (by decide)) hn (qc SI SJ) (qc (P:=fun sv=>∀ {sc},km sc sv nV (.bin [43] (.name nV) (.name nX))) SY S7) hc hm h1 h2 het ht f;have e5:tH b (n+1)=qJ b (n+1)++sL b::(wL b++[120,58,61]):=eP k2.1;have tx:∀ e,tH b (n+1)++bT (n+1) c m r1 r2 e=qJ b (n+1)++sL b::(wL b++dj (d8 (n+1) c m r1 r2) (tl (n+1)++e)):=fun e=>by
  rw [e5,Ae,List.cons_append,Ae]; rfl
 cases h4:Nat.beq b 4 with
 | true=>
  have h4:=As h4;subst h4;rw [show bA (pairAt da 4).1 (pairAt da 4).2 (gg (n+1) c m r1 r2)=tH 4 (n+1)++bT (n+1) c m r1 r2 uM from rf hn hc h1 h2 uM,tx];exact key uM rfl (cM DS (fA hn))
 | false=>
  have k1:nL b 4 true (iY (pairAt da b) (n+1)).isSome=true:=k.1;unfold nL at k1;rw [h4] at k1;obtain ⟨u,hu⟩:=Option.isSome_iff_exists.mp k1;rw [iw hu,show u=tH b (n+1) by unfold tH nL; rw [h4,hu]; rfl,tx];exact key bq rfl (cM pj (fA hn))
end
noncomputable def zm {α:Type}:R α->Bool
 | .err=>true
 | _=>false
theorem rU {α:Type}{m:R α}(h:zm m=true):m=.err:=by cases m<;>first | rfl | cases h
noncomputable def ua (vs:List (Tx×Option Nat))(ps:Bl):Bool:=match dN [] (cF ([]:List (Tx×Bool))++cF vs++ps.names) with
 | false=>true
 | true=>zm ((eK [] 3 vs).bind fun w=>bU [] w.1 (0+1) ps)
theorem xU {vs:List (Tx×Option Nat)}{ps:Bl}(h:ua vs ps=true)(ss:St):dJ [] 0 [] (.mk vs ps ss)=.err:=by
 show (match dN [] (cF ([]:List (Tx×Bool))++cF vs++ps.names) with
  | false=>.err
  | true=>(eK [] 3 vs).bind fun w=>
   (bU [] w.1 (0+1) ps).bind fun c=>
   (bk (c.2::[]) w.2 (0+1+c.1.length+(d7 (w.2-3)).length) ss).bind fun d=>.ok ([In.jmp (0+1+c.1.length)]++c.1++d7 (w.2-3)++d++[.ret]):R (List In))=_
 unfold ua at h;revert h;cases dN [] (cF ([]:List (Tx×Bool))++cF vs++ps.names) with
 | false=>exact fun _=>rfl
 | true=>
  intro h;have h:(eK [] 3 vs).bind (fun w=>bU [] w.1 (0+1) ps)=.err:=rU h;show (eK [] 3 vs).bind _=_;revert h;cases eK [] 3 vs with
  | err=>exact fun _=>rfl
  | bot=>intro h; cases h
  | ok w=>
   intro h;show (bU [] w.1 (0+1) ps).bind _=_;rw [show bU [] w.1 (0+1) ps=.err from h]; rfl
noncomputable def yJ (ts:List Tok):PB:=aJ wProgram ts fun r=>fL r fun _ r=>aJ bJ r fun r=>dH dB r
theorem q7 {α β:Type}{w:Tx}{ts:List Tok}{f:List Tok->R α}{g:List Tok->R β}(h:∀ r,f r=.err->g r=.err):aJ w ts f=.err->aJ w ts g=.err:=by
 cases ts with
 | nil=>intro h; cases h
 | cons k ts=>
  show (match k.is w with | true=>f ts | false=>.err)=R.err->(match k.is w with | true=>g ts | false=>.err)=R.err
  cases k.is w with
  | true=>exact h ts
  | false=>exact fun _=>rfl
theorem BS {α β:Type}{ts:List Tok}{f:Tx->List Tok->R α}{g:Tx->List Tok->R β}(h:∀ x r,f x r=.err->g x r=.err):fL ts f=.err->fL ts g=.err:=by
 rcases ts with _ | ⟨_ | _ | _ | _,ts⟩<;>first | exact h _ ts | exact fun _=>rfl | (intro h; cases h)
theorem D8 {K:List Tok}(h:yJ K=.err)(z:List Tok):jg (K++z)=.err:=by
 have l:Lr z (yJ K) (yJ (K++z)):=.want fun r=>.name fun x r=>.want fun r=>iy dB r z;rw [h] at l;refine q7 (fun r=>BS fun x r=>q7 fun r h=>?_) (show yJ (K++z)=.err from l);rw [h]; rfl
noncomputable def tB (b n:Nat):Tx:=(iY (pairAt bg b) n).getD []
noncomputable def hQ (b n:Nat):Tx:=(tB b n).take ((tB b n).length-4)
noncomputable def QR (b n:Nat):R (Bl×List Tok):=dG (dH 5) aY (hV 32 (hQ b n)).2
noncomputable def OD (b n:Nat):Bl:=(get (.nil,[]) (QR b n)).1
noncomputable def QH (b n:Nat):Bool:=isOk (eM 32 600 (hQ b n++[32]))&&(Nat.ble (hQ b n).length 700&&(zm (yJ (toks 32 (hQ b n)))||(HR 32 [112] (hQ b n)&&(isOk (QR b n)&&(decide ((get (.nil,[]) (QR b n)).2.map gG=[.word iN].map gG)&&(O4 (hV 32 (hQ b n)).1 (OD b n)&&ua (hV 32 (hQ b n)).1 (OD b n)))))))
noncomputable def KR:Nat->Nat
 | 0=>123
 | 1=>49
 | 2=>9
 | 3=>233
 | _=>1635
noncomputable def kA:Nat->Nat
 | 0=>10
 | 1=>173
 | 2=>10
 | 3=>9
 | _=>173
noncomputable def UO (b n:Nat):Bool:=isOk (eM (KR b) 600 ((tB b n).take (kA b)++[KR b]))&&(aB (tB b n) ((tB b n).take (kA b)++KR b::(tB b n).drop (kA b+1))&&(Nat.ble (tB b n).length 700&&(!bH 125 ((tB b n).drop (kA b+1))&&nL b 1 (Nat.beq (((tB b n).drop (kA b+1)).headD 0) 100) true)))
noncomputable def wF (b:Nat):Tx:=nL b 33 [110,58,61,49,59] [103,59]
noncomputable def UN (b n:Nat):Bool:=aB (tB b n) (qJ 4 n++32::(wF b++[120,58,61]))
noncomputable def UM (b n:Nat):Bool:=(iY (pairAt bg b) n).isSome&&(match Nat.blt b 5 with
 | true=>UO b n
 | false=>match Nat.blt b 33 with
  | true=>aB (tB b n) (hQ b n++32::[120,58,61])&&QH b n
  | false=>match Nat.blt b 35 with
   | true=>UN b n
   | false=>aB (tB b n) (hQ b n++32::[120,58,61])&&QH b n)
set_option maxHeartbeats 0 in
theorem E8:fJ (fun b=>Nat.beq b 5||(Nat.beq b 6||(Nat.beq b 7||fJ (fun n=>UM b (n+1)) 3))) 36=true:=by decide +kernel
theorem oO {c:Nat}:∀ l:Tx,bH c l=false->behind c l=Option.none
 | [],_=>rfl
 | d::l,h=>by
  have h:=Bool.or_eq_false_iff.mp h;unfold behind;have e:Nat.beq d c=false:=by
   cases hb:Nat.beq d c with
   | false=>rfl
   | true=>rw [As hb,Nat.beq_refl] at h; cases h.1
  rw [e];exact oO l h.2
theorem xt {l:Tx}(h:behind 125 l=Option.none):cX 123 l=.err:=by
 show (match behind 125 l with
  | Option.none=>.err
  | some l'=>.ok (Option.none,l'):R (Option Tok×Tx))=.err
 rw [h]
theorem SM {b:Nat}(hb:b<5)(l:Tx)(h:bH 125 l=false)(h1:b=1->∃ q,l=100::q):cX (KR b) l=.err:=by
 match b,hb with
 | 0,_=>exact xt (oO _ h)
 | 1,_=>obtain ⟨q,rfl⟩:=h1 rfl; rfl
 | 2,_=>cases l<;>rfl
 | 3,_=>cases l<;>rfl
 | 4,_=>cases l<;>rfl
theorem JZ {q v:Tx}(h:Nat.beq (q.headD 0) 100=true):∃ r,q++v=100::r:=by
 cases q with
 | nil=>cases h
 | cons c q=>exact ⟨q++v,congrArg (·::(q++v)) (As h)⟩
section
variable {n c m:Nat}{r1 r2:Rd}{fu:Int}
theorem u3 (hn:n<3):FE 9 100 (tl (n+1)++bq) (.ok (mX (n+1),KP)):=FO hn rfl (cM pj (fA hn))
theorem KG (hn:n<3)(hc:c<7)(hm:m<10 ^ 20)(h1:r1.ok)(h2:r2.ok):(bT (n+1) c m r1 r2 bq).length<=2200:=by
 have h:=(mi hn hc hm h1 h2 (u3 hn)).1;rw [← Fc,Ac,mj] at h;exact Aa (Aa (Ar _ _) h) (by decide)
theorem Xf {b:Nat}{u:Tx}(hu:iY (pairAt bg b) (n+1)=some u)(hb:b<5)(h:UO b (n+1)=true)(hn:n<3)(hc:c<7)(hm:m<10 ^ 20)(h1:r1.ok)(h2:r2.ok):kL (bA (pairAt bg b).1 (pairAt bg b).2 (gg (n+1) c m r1 r2)) fu Option.none:=by
 have e:tB b (n+1)=u:=by unfold tB; rw [hu]; rfl
 rw [iw hu,← e];have k:=Ab h;have k2:=Ab k.2;have k3:=Ab k2.2;have k4:=Ab k3.2;have e1:=eP k2.1;have cl:=sq (m:=m) hn hc h1 h2;have er:aT (KR b::((tB b (n+1)).drop (kA b+1)++bT (n+1) c m r1 r2 bq)):=by
  refine aT.err (SM hb _ ?_ ?_)
  ·rw [ue,gV,gV,not_true k4.1,cl.1.b]; rfl
  ·intro e;have g2:=k4.2;rw [e] at g2 ⊢;exact JZ g2
 have i:=(dW (v:=(tB b (n+1)).drop (kA b+1)++bT (n+1) c m r1 r2 bq) 600 ((tB b (n+1)).take (kA b)++[KR b]) _ (jL (d:=[]) k.1)).2 er;rw [nC,← List.cons_append,← Ae,← e1] at i;refine kL.kX ?_;unfold dF;rw [rR i (pK k3.1 (KG hn hc hm h1 h2) rfl)]; rfl
theorem Uu {b:Nat}{u:Tx}(hu:iY (pairAt bg b) (n+1)=some u)(h:(aB (tB b (n+1)) (hQ b (n+1)++32::[120,58,61])&&QH b (n+1))=true)(hn:n<3)(hc:c<7)(hm:m<10 ^ 20)(h1:r1.ok)(h2:r2.ok):kL (bA (pairAt bg b).1 (pairAt bg b).2 (gg (n+1) c m r1 r2)) fu Option.none:=by
 have e:tB b (n+1)=u:=by unfold tB; rw [hu]; rfl
 have h:=Ab h;rw [iw hu,← e,eP h.1,Ae];show kL (hQ b (n+1)++32::dj (d8 (n+1) c m r1 r2) (tl (n+1)++bq)) fu Option.none;have k:=Ab h.2;have k2:=Ab k.2;have K:=k9 (B:=0) (m:=m) (by decide) hn hc h1 h2;rcases Bool.or_eq_true_iff.mp k2.2 with k3 | k3
 ·obtain ⟨lb,⟨T,t1,_⟩ | ⟨_,t2⟩⟩:=mi hn hc hm h1 h2 (u3 hn)
  ·refine kL.kX ?_;have i:=(dW (v:=dj (d8 (n+1) c m r1 r2) (tl (n+1)++bq)) 600 (hQ b (n+1)++[32]) _ (jL (d:=[]) k.1)).1 _ t1.space;rw [nC] at i;unfold dF;rw [vL i (pK k2.1 (b:=2200) (show (dj (d8 (n+1) c m r1 r2) (tl (n+1)++bq)).length+1<=2200 from Aa (Au (Aa lb (by rw [mj]; exact Aj _))) (by decide)) rfl),Ae];exact D8 (rU k3) _
  ·cases t2
 ·have k4:=Ab k3;have k5:=Ab k4.2;have k6:=Ab k5.2;have k7:=Ab k6.2;have H:Hd 32 [112] (hQ b (n+1)) (OD b (n+1)):=⟨k4.1,(jL (d:=(.nil,[])) k5.1).trans (congrArg R.ok (Prod.ext rfl (pO (Ax k6.1))))⟩;have P:=kR (m:=m) zj H hn hc hm h1 h2 rfl (cM pj (fA hn));refine kL.tO (q:=([112],.mk (hV 32 (hQ b (n+1))).1 (OD b (n+1)) (bV (.set nX (xE c)) (([St.set nY (.int m)]++(sS (n+1) r1++(sS (n+1) r2++CL)))++mX (n+1))))) P ?_;have a:=Ab (show (gu (.set nX (xE c))&&([St.set nY (.int m)]++(sS (n+1) r1++(sS (n+1) r2++CL))).all gu)=true from K.1);refine (qk k7.1 a.1 (a9 a.2 rfl) ?_).trans (xU k7.2 _);rw [Ac];exact Aa (Aq (Ap K.2.2) (Aj 1)) (by decide)
theorem Ue (hn:n<3):∃ ps pc S4,Hd 32 [112] (qJ 4 (n+1)) ps∧HC (hV 32 (qJ 4 (n+1))).1 ps pc S4 (bt 0 (n+1)) (0+n+3)∧hh (n+1)=qJ 4 (n+1)++32::[120,58,61]:=by
 have hb:4<12:=by decide
 have k:=Ab (List.all_eq_true.mp GH _ (jP hb hn));have k2:=Ab k.2;have k3:=Ab k2.2;have k4:=Ab k3.2;have e0:yW 4 (n+1)=.ok (0+n+3+4,bt 0 (n+1)):=cM (a:=(4,n)) Bo (jP hb hn);unfold yW at e0;obtain ⟨w,e1,e2⟩:=R.ao e0;obtain ⟨d,e3,e4⟩:=R.ao e2;have e4:=R.ok.inj e4;have ew:w=(w.1,0+n+3+4):=Prod.ext rfl (show w.2=_ from congrArg (fun q:Nat×Scope=>q.1) e4);have ed:d=(d.1,bt 0 (n+1)):=Prod.ext rfl (show d.2=_ from congrArg (fun q:Nat×Scope=>q.2) e4);rw [ew] at e1;rw [ed] at e3;exact ⟨GS 4,d.1,w.1,⟨k3.1,cM (a:=(4,n)) Bn (jP hb hn)⟩,⟨k4.1,k4.2,e1,e3⟩,eP k2.1⟩
theorem Qz {e:Tx}{q:List Tok}(he:Nat.ble e.length 40=true)(hq:Cv e n=.ok (mX (n+1),q))(hr:∀ a:Tx×Bl,(aJ gF q fun r=>aJ nv r (fin? a))=.err)(hn:n<3)(hc:c<7)(hm:m<10 ^ 20)(h1:r1.ok)(h2:r2.ok):kL (bA bq e (gg (n+1) c m r1 r2)) fu Option.none:=by
 obtain ⟨ps,pc,S4,H,C,e1⟩:=Ue hn;rw [rf hn hc h1 h2,e1,Ae];show kL (qJ 4 (n+1)++32::dj (d8 (n+1) c m r1 r2) (tl (n+1)++e)) fu Option.none;exact kL.kX ((kR zj H hn hc hm h1 h2 he hq).trans (hr _))
noncomputable def sF (b:Nat):St:=nL b 33 (.set nN (.int 1)) (.call nG [])
theorem Xe {b:Nat}{u:Tx}(hb:b=33∨b=34)(hu:iY (pairAt bg b) (n+1)=some u)(h:UN b (n+1)=true)(hn:n<3)(hc:c<7)(hm:m<10 ^ 20)(h1:r1.ok)(h2:r2.ok):kL (bA (pairAt bg b).1 (pairAt bg b).2 (gg (n+1) c m r1 r2)) fu Option.none:=by
 obtain ⟨ps,pc,S4,H,C,e1⟩:=Ue hn;have e:tB b (n+1)=u:=by unfold tB; rw [hu]; rfl
 rw [iw hu,← e,eP h,Ae,List.cons_append,Ae];show kL (qJ 4 (n+1)++32::(wF b++dj (d8 (n+1) c m r1 r2) (tl (n+1)++bq))) fu Option.none;have L:wY 32 (wF b) [sF b]∧gu (sF b)=true∧hU [bt 0 (n+1)] (sF b)=false:=by
  rcases hb with rfl | rfl
  ·exact ⟨⟨fun {k b v m} h=>(FE.sp (iX.cons (Pc.of (u:=[110,58,61,49]) (ss:=[.set nN (.int 1)]) (by kernel_rfl) rfl) iX.nil h)).lead (Ak (by decide:201*1+1<=402) b),by decide⟩,rfl,rfl⟩
  ·exact ⟨⟨fun {k b v m} h=>(FE.sp (iX.cons (Pc.of (u:=[103]) (ss:=[.call nG []]) (by kernel_rfl) rfl) iX.nil h)).lead (Ak (by decide:201*1+1<=402) b),by decide⟩,rfl,rfl⟩
 have K:=k9 (B:=0) (m:=m) (by decide) hn hc h1 h2;have P:=kR (m:=m) L.1 H hn hc hm h1 h2 rfl (cM pj (fA hn));refine kL.tO (q:=([112],.mk (hV 32 (qJ 4 (n+1))).1 ps (bV (sF b) (d9 (n+1) c m r1 r2++mX (n+1))))) P ?_;refine C.bad L.2.1 (a9 K.1 rfl) ?_ (by rw [L.2.2]; rfl);rw [Ac];exact Aa (Aq K.2.2 (Aj 1)) (by decide)
theorem Cd {b:Nat}(hb:b<36)(hn:n<3)(hc:c<7)(hm:m<10 ^ 20)(h1:r1.ok)(h2:r2.ok):kL (bA (pairAt bg b).1 (pairAt bg b).2 (gg (n+1) c m r1 r2)) fu Option.none:=by
 rcases Bool.or_eq_true_iff.mp (bh E8 hb) with h | h
 ·rw [As h];exact Qz (q:=[.word gF,.word nv,.name [120],.fin]) rfl (cM (f:=Cv [101,110,100,46,120]) (g:=fun n=>.ok (mX (n+1),[.word gF,.word nv,.name [120],.fin])) (l:=n3) (by kernel_rfl) (fA hn)) (fun a=>rfl) hn hc hm h1 h2
 rcases Bool.or_eq_true_iff.mp h with h | h
 ·rw [As h];exact Qz (q:=[.word gF,.word nv,.int 1,.fin]) rfl (cM (f:=Cv [101,110,100,46,49]) (g:=fun n=>.ok (mX (n+1),[.word gF,.word nv,.int 1,.fin])) (l:=n3) (by kernel_rfl) (fA hn)) (fun a=>rfl) hn hc hm h1 h2
 rcases Bool.or_eq_true_iff.mp h with h | h
 ·rw [As h];exact Qz (q:=[.word gF,.fin]) rfl (cM (f:=Cv [101,110,100]) (g:=fun n=>.ok (mX (n+1),[.word gF,.fin])) (l:=n3) (by kernel_rfl) (fA hn)) (fun a=>rfl) hn hc hm h1 h2
 have k:=Ab (show UM b (n+1)=true from bh h hn);obtain ⟨u,hu⟩:=Option.isSome_iff_exists.mp k.1;have k2:=k.2;revert k2;cases x1:Nat.blt b 5 with
 | true=>exact fun k2=>Xf hu (Ad x1) k2 hn hc hm h1 h2
 | false=>
 cases x2:Nat.blt b 33 with
 | true=>exact fun k2=>Uu hu k2 hn hc hm h1 h2
 | false=>
 cases x3:Nat.blt b 35 with
 | true=>
  have:¬ b<33:=fun q=>Bool.false_ne_true (x2.symm.trans (Nat.ble_eq_true_of_le q));have:=Ad x3;exact fun k2=>Xe (by lia) hu k2 hn hc hm h1 h2
 | false=>exact fun k2=>Uu hu k2 hn hc hm h1 h2
end
noncomputable def tR:List Tx:=[[43],[45],[42],[100,105,118],[109,111,100],[45],[42]]
noncomputable def zk:List Tx:=[[61],[60,62],[60],[60,61],[62],[62,61]]
structure fW (T:aQ)(D:Nat->Option aD):Prop extends Core T D where
 UJ:D 27=some Hw
 UI:D 28=some Dm
 UH:D 29=some yQ
 UG:D 30=some yP
 UE:D 31=some yO
 UD:D 32=some Hv
 yk:∀ k,Nat.ble 27 k=true->Nat.ble k 32=true->T.bX k=Option.none
 g2:T.glob 2=some (.cp (.type "int"))
 g3:T.glob 3=some (.tup (tR.map .str))
 g4:T.glob 4=some (.tup (zk.map .str))
 g5:T.glob 5=some (.str gN)
 g6:T.glob 6=some (.tup (da.map fun q=>.tup [.str q.1,.str q.2]))
 g7:T.glob 7=some (.tup (bg.map fun q=>.tup [.str q.1,.str q.2]))
 g8:T.glob 8=some (.cp (.type "tuple"))
noncomputable def fx:Nat->Ss->Ss
 | 0,b=>b
 | k+1,.cons _ r=>fx k r
 | _+1,.nil=>.nil
noncomputable abbrev qQ (Q:QV):QF:=fun fl _ J'=>match fl with
 | .ret v=>Q v J'
 | .next=>Q .none J'
 | _=>False
theorem cU (j:Int){b:Nat}(hb:0<b):j.fmod (b:Int)=((j.fmod (b:Int)).toNat:Int)∧(j.fmod (b:Int)).toNat<b:=by
 have h0:=Int.fmod_nonneg_of_pos j (Int.natCast_pos.mpr hb);exact ⟨(Int.toNat_of_nonneg h0).symm,(Int.toNat_lt h0).mpr (Int.fmod_lt_of_pos j (Int.natCast_pos.mpr hb))⟩
def Ch {α:Type}(c:Nat)(m:Option α)(s:α)(B B':List AV):Prop:=(m=some s∧B'=B)∨(m=Option.none∧B.length<B'.length∧B'.length<=B.length+c)
section
variable {α β:Type}{c d:Nat}{m:Option α}{v:α}{B B' qC:List AV}
theorem Ch.le (h:Ch c m v B B'):B.length<=B'.length∧B'.length<=B.length+c:=
 h.elim (fun h=>h.2.symm▸⟨Aj _,Af _ _⟩) fun h=>⟨Nat.le_of_lt h.2.1,h.2.2⟩
theorem Ch.bind {f:α->Option β}{w:β}(h:Ch c m v B B')(g:Ch d (f v) w B' qC):Ch (c+d) (m.bind f) w B qC:=by
 have l:=h.le;have k:=g.le;have u:qC.length<=B.length+(c+d):=Aa k.2 (Aa (Al l.2 d) (Nat.le_of_eq (Nat.add_assoc ..)));rcases h with ⟨e,q⟩ | ⟨e,q⟩
 ·subst q;rcases g with ⟨e',q⟩ | ⟨e',q⟩
  ·exact .inl ⟨by rw [e]; exact e',q⟩
  ·exact .inr ⟨by rw [e]; exact e',q.1,u⟩
 ·exact .inr ⟨by rw [e]; rfl,An q.1 k.1,u⟩
theorem Ch.map {f:α->β}(h:Ch c m v B B'):Ch c (m.map f) (f v) B B':=
 h.elim (fun h=>.inl ⟨by rw [h.1]; rfl,h.2⟩) fun h=>.inr ⟨by rw [h.1]; rfl,h.2⟩
theorem Ch.ok (e:m=some v):Ch c m v B B:=.inl ⟨e,rfl⟩
theorem Ch.no {a:AV}(e:m=Option.none):Ch 1 m v B (B++[a]):=.inr ⟨e,by rw [Ac]; exact Nat.lt_succ_self _,by rw [Ac]; exact Aj _⟩
end
theorem QJ (n:Nat):bd n 0:=Nat.two_pow_pos n
section
variable {T:aQ}{D:Nat->Option aD}
theorem pV (K:fW T D){n:Nat}{a b:Int}{J:ae}{Q:QV}{X:QX}(hb:b≠0)(sb:b.natAbs<2 ^ 1000)(h:Q (.int (rem a b)) J):aj T D (n+1) 27 [.int a,.int b] J Q X:=by
 refine ⟨Hw,K.UJ,rfl,?_⟩;refine ⟨fun q=>hb (Int.natAbs_eq_zero.mp (Int.ofNat.inj q)),sb,?_⟩;rw [← rest_eq a b] at h;refine aX (b:=decide (a<0)) (fun ha=>?_) fun ha=>?_
 ·rw [if_pos (Ax ha)] at h; exact h
 ·rw [if_neg (of_decide_eq_false ha)] at h; exact h
theorem uZ (K:fW T D){n o i j bo:Nat}{a b:Int}{l:List AV}{J:ae}{Q:QV}{X:QX}(ho:o<7)(ha:bd (i+1) a)(hb:bd (j+1) b)(hi:i+1<=1000)(hj:j+1<=1000)(hl:J[bo]?=some (.list l))(ll:l.length<1000)
  (h:∀ v l' J',bd (i+j+2) v->Ch 1 (oS o a b) v l l'->J'[bo]?=some (.list l')->au bo J J'->Q (.int v) J'):aj T D (n+2) 28 [.str (eT o),.int a,.int b,.obj bo] J Q X:=by
 refine ⟨Dm,K.UI,rfl,?_⟩;have sb:=uP o ha hb;have ok:∀ v,oS o a b=some v->Q (.int v) J:=fun v e=>h v l J (tK sb e) (.ok e) hl (au.refl _ _);have no:oS o a b=Option.none->Q (.int 0) (J.set bo (.list (l++[.str (eT o)]))):=fun e=>h 0 _ _ (QJ _) (.no e) (get_set hl) au.self;have b1:=hb.le hj;have a1:=ha.le hi;clear h sb;have zero:∀ {C:Calls} {e:Ev} {U0:QF} {XX:XS} {v:AV},e 3=some (.obj bo)->e 0=some v->(U0 (.ret (.int 0)) e (J.set bo (.list (l++[v]))))->aH T C (.cons (.expr (.bm (.v 3) .append (.cons (.v 0) .nil))) (.cons (.ret (.int 0)) .nil)) e J U0 XX:=fun h3 h0 q=>aa h3 (ag hl (aa h0 (ag hl ⟨Nat.lt_trans ll (by decide),q⟩)));revert ok no;refine PK (P:=fun o=>(∀ v,oS o a b=some v->Q (.int v) J)->(oS o a b=Option.none->Q (.int 0) (J.set bo (.list (l++[.str (eT o)]))))->aH T (aj T D (n+1)) Dm.body (fun i=>[AV.str (eT o),.int a,.int b,.obj bo][i]?) J (qQ Q) (fun _ J'=>X J')) (fun ok _=>ok _ rfl) (fun ok _=>ok _ rfl) (fun ok _=>⟨a1,b1,ok _ rfl⟩) (fun ok no=>?_) (fun ok no=>?_) (fun ok _=>ok _ rfl) (fun ok _=>⟨a1,b1,ok _ rfl⟩) ho
 ·refine aX (b:=decide (b=0)) (fun h0=>zero rfl rfl (no (by show (match decide (b=0) with | true=>_ | false=>_)=_; rw [h0]))) fun h0=>?_
  have LI:=of_decide_eq_false h0;refine ⟨K.yk 27 rfl rfl,pV K LI b1 ⟨LI,b1,?_⟩⟩;rw [div_eq LI];exact ok _ (by show (match decide (b=0) with | true=>_ | false=>_)=_; rw [h0])
 ·refine aX (b:=decide (b=0)) (fun h0=>zero rfl rfl (no (by show (match decide (b=0) with | true=>_ | false=>_)=_; rw [h0]))) fun h0=>?_
  have LI:=of_decide_eq_false h0;refine ⟨K.yk 27 rfl rfl,pV K LI b1 ?_⟩;exact ok _ (by show (match decide (b=0) with | true=>_ | false=>_)=_; rw [h0])
theorem ec {C:Calls}{QQ:QF}{XX:XS}{e:Ev}{J:ae}{i:Nat}{ex:E}{s:S}{q:Ss}(h:bb T C ex e J (fun v J1=>aH T C (.cons s q) (upd e i v) J1 QQ XX) (XX e)):aH T C (.cons (.set i ex) (.cons s q)) e J QQ XX:=h
end
theorem M3:∀ n<3,[97,91]++bW (((n+1:Nat):Int)-1)++[93]=jq (n+1) 3:=by decide +kernel
theorem Nz (a b c d e:Tx):fX [32] [a,b,c,d,e]=a++32::(b++32::(c++32::(d++32::e))):=by
 show a++[32]++(b++[32]++(c++[32]++(d++[32]++e)))=_;rw [Ae,Ae,Ae,Ae]; rfl
theorem JW:∀ o<7,aG (eT o) [.str [43],.str [45]]=!mulQ o:=by decide +kernel
theorem JV:∀ o<7,aG (eT o) [.str [42],.str [100,105,118],.str [109,111,100]]=mulQ o:=by decide +kernel
section
variable {T:aQ}{D:Nat->Option aD}{n i j k s t bo:Nat}{x y z last:Int}{B:List AV}
theorem Hc {a:Tx}(ha:a=jq (n+1) 3)(hi:i<8):[AV.str [120],.str [121],.str [122],.str a,.str [45,120],.str [40,121,45,120,41],.str [50],.str [45,51]][i]?=some (.str (jq (n+1) i)):=by
 subst ha;exact OM (P:=fun i=>[AV.str [120],.str [121],.str [122],.str (jq (n+1) 3),.str [45,120],.str [40,121,45,120,41],.str [50],.str [45,51]][i]?=some (.str (jq (n+1) i))) rfl rfl rfl rfl rfl rfl rfl rfl hi
noncomputable def vals (x y z l:Int):List AV:=[.int x,.int y,.int z,.int l,.int (-x),.int (y-x),.int 2,.int (-3)]
theorem Ry (hi:i<8):(vals x y z last)[i]?=some (.int (wV x y z last i)):=
 OM (P:=fun i=>(vals x y z last)[i]?=some (.int (wV x y z last i))) rfl rfl rfl rfl rfl rfl rfl rfl hi
theorem FU (ho:s<7):(tR.map AV.str)[s]?=some (.str (eT s)):=
 PK (P:=fun s=>(tR.map AV.str)[s]?=some (.str (eT s))) rfl rfl rfl rfl rfl rfl rfl ho
structure XI (i j k s t bo:Nat)(x y z l:Int)(tx:Tx)(e:Ev):Prop where
 e8:e 8=some (.obj bo)
 K8:e 10=some (.tup (vals x y z l))
 wu:e 11=some (.int i)
 CH:e 12=some (.int j)
 sX:e 13=some (.int k)
 QG:e 14=some (.str (eT s))
 CG:e 15=some (.str (eT t))
 UA:e 16=some (.str tx)
theorem od {e:Ev}{v w:Nat}(ib:e w=some (.tup (vals x y z last)))(hv:e v=some (.int i))(hi:i<8){J:ae}{C:Calls}{Q:QV}{X:QX}(q:Q (.int (wV x y z last i)) J):bb T C (.idx (.v w) (.v v)) e J Q X:=
 aa ib (aa hv (aq (bc hi) (aq (Ry hi) q)))
theorem NU (K:fW T D){m a:Nat}(hi:i<8)(hj:j<8)(hk:k<8)(hs:s<7)(ht:t<7)(h2:2<=a)(h4:a<=400)(hx:bd a x)(hy:bd a y)(hz:bd a z)(hl:bd a last){tx:Tx}{e:Ev}(E:XI i j k s t bo x y z last tx e){J:ae}(hb:J[bo]?=some (.list B))(ll:B.length<999){Q:QV}{XX:XS}
  (h:∀ v B' J',bd (3*a+3) v->Ch 2 (o5 i s j t k (wV x y z last)) v B B'->J'[bo]?=some (.list B')->au bo J J'->Q (.tup [.str tx,.int v]) J'):aH T (aj T D (m+2)) (fx 8 yQ.body) e J (qQ Q) XX:=by
 have W:=fun i=>LX h2 hx hy hz hl i;have a1:a+1<=1000:=Aa (Au h4) (by decide);have a2:a+a+1+1<=1000:=Aa (Al (Aq h4 h4) 2) (by decide);have e1:=z6 a;have e2:=tG a;have l0:B.length<1000:=Nat.lt_succ_of_lt ll;have l1:∀ {v w B'},Ch 1 (v:Option Int) w B B'->B'.length<1000:=fun q=>Ao q.le.2 (Nat.succ_lt_succ ll);have p2:(∀ v B',Ch 1 (oS s (wV x y z last i) (wV x y z last j)) v B B'->∀ w qC,Ch 1 (oS t v (wV x y z last k)) w B' qC->Ch 2 (o5 i s j t k (wV x y z last)) w B qC)->aH T (aj T D (m+2)) (fx 9 yQ.body) e J (qQ Q) XX:=fun g=>
  aa E.UA (aa E.CG (aa E.QG (od E.K8 E.wu hi (od E.K8 E.CH hj (aa E.e8 ⟨K.yk 28 rfl rfl,uZ K hs (W i) (W j) a1 a1 hb l0 fun v B' J' bv cv yA kp=>
   od E.K8 E.sX hk (aa E.e8 ⟨K.yk 28 rfl rfl,uZ K ht bv (W k) a2 a1 yA (l1 cv) fun w qC FH bw cw HT CT=>h w qC FH (e2▸bw) (g v B' cv w qC cw) HT (kp.trans CT)⟩)⟩)))))
 have p1:(∀ v B',Ch 1 (oS t (wV x y z last j) (wV x y z last k)) v B B'->∀ w qC,Ch 1 (oS s (wV x y z last i) v) w B' qC->Ch 2 (o5 i s j t k (wV x y z last)) w B qC)->bb T (aj T D (m+2)) (.tuple (.cons (.v 16) (.cons (.call 28 (.cons (.v 14) (.cons (.idx (.v 10) (.v 11)) (.cons (.call 28 (.cons (.v 15) (.cons (.idx (.v 10) (.v 12)) (.cons (.idx (.v 10) (.v 13)) (.cons (.v 8) .nil))))) (.cons (.v 8) .nil))))) .nil))) e J Q (XX e):=fun g=>
  aa E.UA (aa E.QG (od E.K8 E.wu hi (aa E.CG (od E.K8 E.CH hj (od E.K8 E.sX hk (aa E.e8 ⟨K.yk 28 rfl rfl,uZ K ht (W j) (W k) a1 a1 hb l0 fun v B' J' bv cv yA kp=>
   aa E.e8 ⟨K.yk 28 rfl rfl,uZ K hs (W i) bv a1 a2 yA (l1 cv) fun w qC FH bw cw HT CT=>h w qC FH (e1▸bw) (g v B' cv w qC cw) HT (kp.trans CT)⟩⟩))))))
 refine aa E.QG ?_;show qE (.bool (aG (eT s) [.str [43],.str [45]])) _ _;rw [JW s hs];unfold o5 at p1 p2;revert p1 p2;cases mulQ s with
 | true=>exact fun p2 _=>p2 fun v B' c1 w qC c2=>Ch.bind (f:=fun v=>oS t v (wV x y z last k)) c1 c2
 | false=>
  intro p2 p1;refine aa E.CG ?_;show qE (.bool (aG (eT t) [.str [42],.str [100,105,118],.str [109,111,100]])) _ _;rw [JV t ht];revert p1 p2;cases mulQ t with
  | true=>exact fun _ p1=>p1 fun v B' c1 w qC c2=>c1.bind c2
  | false=>exact fun p2 _=>p2 fun v B' c1 w qC c2=>Ch.bind (f:=fun v=>oS t v (wV x y z last k)) c1 c2
theorem Ny {C:Calls}{W:List AV}{a b c p q:Tx}{vi vj vk:Int}{e:Ev}{J:ae}(h9:e 9=some (.tup W))(C1:e 11=some (.int vi))(yi:e 12=some (.int vj))(FF:e 13=some (.int vk))(yg:e 14=some (.str p))(G5:e 15=some (.str q))(i1:dQ vi W.length=some i)(i2:W[i]?=some (.str a))(j1:dQ vj W.length=some j)(j2:W[j]?=some (.str b))(k1:dQ vk W.length=some k)(k2:W[k]?=some (.str c))(la:a.length<=5)(lb:b.length<=5)(lc:c.length<=5)(lp:p.length<=3)(lq:q.length<=3){Q:QV}{X:QX}(h:∀ J',J'=J++[.list [.str a,.str p,.str b,.str q,.str c]]->Q (.str (fX [32] [a,p,b,q,c])) J'):bb T C (.bm (.str [32]) .join (.cons (.list (.cons (.idx (.v 9) (.v 11)) (.cons (.v 14) (.cons (.idx (.v 9) (.v 12)) (.cons (.v 15) (.cons (.idx (.v 9) (.v 13)) .nil)))))) .nil)) e J Q X:=by
 refine aa h9 (aa C1 (aq i1 (aq i2 (aa yg (aa h9 (aa yi (aq j1 (aq j2 (aa G5 (aa h9 (aa FF (aq k1 (aq k2 (ag ay ⟨[a,p,b,q,c],rfl,?_,h _ rfl⟩))))))))))))));exact Aa (Aq (Aq la (Aq lp (Aq lb (Aq lq (Aq lc (Aj 0)))))) (Aj 5)) (by decide:26<=1000000)
theorem BW (K:fW T D){m a:Nat}{c d o vn:Int}(hn:n<3)(en:vn=((n+1:Nat):Int))(hi:i<8)(hj:j<8)(hk:k<8)(hs:s<7)(ht:t<7)(ei:c.fmod 8=i)(ej:d.fmod 8=j)(ek:(c+d+o).fmod 8=k)(es:o.fmod 7=s)(et:(c+o).fmod 7=t)(h2:2<=a)(h4:a<=400)(hx:bd a x)(hy:bd a y)(hz:bd a z)(hl:bd a last){J:ae}(hb:J[bo]?=some (.list B))(ll:B.length<999){Q:QV}{X:QX}
  (h:∀ v B' J',bd (3*a+3) v->Ch 2 (o5 i s j t k (wV x y z last)) v B B'->J'[bo]?=some (.list B')->au bo J J'->Q (.tup [.str (o6 (n+1) i s j t k),.int v]) J'):aj T D (m+3) 29 [.int c,.int d,.int o,.int x,.int y,.int z,.int last,.int vn,.obj bo] J Q X:=by
 subst en;refine ⟨yQ,K.UH,rfl,?_⟩;refine ⟨An ((by decide:∀ n<3,(((n+1:Nat):Int)-1).natAbs<10) n hn) (by decide),?_⟩;have w3:=M3 n hn;have l3:=(wl hn (by decide:3<8)).d;rw [← w3] at l3;have wl:=fun {i} (hi:i<8)=>(wl hn hi).d;refine ⟨Aa (by rw [Ac,Ac] at l3; exact Aa (Af _ _) l3) (by decide:5<=1000000),⟨by rw [Ac] at l3; exact Aa l3 (by decide:5<=1000000),?_⟩⟩;refine ⟨by decide,by decide,?_⟩;refine ⟨by decide,by decide,?_⟩;refine ⟨by decide,by decide,?_⟩;refine aq K.g3 ⟨by decide,by decide,aq (a:=s) (by rw [es]; exact bc hs) (aq (FU hs) ?_)⟩;refine aq K.g3 ⟨by decide,by decide,aq (a:=t) (by rw [et]; exact bc ht) (aq (FU ht) ?_)⟩;refine ec (Ny rfl rfl rfl rfl rfl rfl (by rw [ei]; exact bc hi) (Hc w3 hi) (by rw [ej]; exact bc hj) (Hc w3 hj) (by rw [ek]; exact bc hk) (Hc w3 hk) (wl hi) (wl hj) (wl hk) (Fu s hs).2.2 (Fu t ht).2.2 fun J' eJ=>?_);subst eJ;exact NU (tx:=fX [32] [jq (n+1) i,eT s,jq (n+1) j,eT t,jq (n+1) k]) K hi hj hk hs ht h2 h4 hx hy hz hl ⟨rfl,rfl,congrArg (fun v=>some (AV.int v)) ei,congrArg (fun v=>some (AV.int v)) ej,congrArg (fun v=>some (AV.int v)) ek,rfl,rfl,rfl⟩ (ar hb) ll fun v B' J' bv cv yA kp=>(Nz ..).symm▸h v B' J' bv cv yA ((au.refl _ _).push.trans kp)
end
noncomputable def CR (z:Int):Int->List Int->List Int
 | _,[]=>[]
 | v,n::r=>(qv v n.toNat n z+n)::CR z 1 r
noncomputable def mY:List Int->Int
 | []=>0
 | n::r=>3+max n 0+mY r
theorem Ir {n:Int}(h:n.natAbs<3):(aC 0 (n+1) 1).sum=d6 n.toNat:=wU (P:=fun n=>(aC 0 (n+1) 1).sum=d6 n.toNat) (by decide) h
theorem I1 {n:Int}(h:n.natAbs<3):Nat.ble (aC 0 (n+1) 1).length 1000000=true∧Nat.ble (n+1).natAbs 1000000=true:=wU (P:=fun n=>Nat.ble (aC 0 (n+1) 1).length 1000000=true∧Nat.ble (n+1).natAbs 1000000=true) (by decide) h
section
variable {T:aQ}{D:Nat->Option aD}{QQ:QF}{XX:XS}
structure Po (a0 a3 a4:AV)(v z t:Int)(mo:Nat)(e:Ev):Prop where
 e0:e 0=some a0
 e1:e 1=some (.int v)
 e2:e 2=some (.int z)
 e3:e 3=some a3
 e4:e 4=some a4
 e5:e 5=some (.obj mo)
 e6:e 6=some (.int t)
theorem VL {C:Calls}{a0 a3 a4:AV}{z v t n:Int}{mo:Nat}{M:List AV}{e:Ev}{J:ae}(hn:n.natAbs<3)(hv:bd 950 v)(hm:J[mo]?=some (.list M))(lm:M.length<100)(E:Po a0 a3 a4 v z t mo e)
  (h:∀ e' J',Po a0 a3 a4 1 z (t+(3+max n 0)) mo e'->J'[mo]?=some (.list (M++[.int (qv v n.toNat n z+n)]))->au mo J J'->QQ .next e' J'):aH T C pH (upd e 7 (.int n)) J QQ XX:=by
 have l:=I1 hn;refine aa (e:=upd e 7 _) (i:=1) E.e1 ⟨Ad l.2,.inl rfl,Ad l.1,?_⟩;rw [Ir hn];refine ⟨((hv.add ((pk (wU (P:=fun m=>m.toNat<=2) (by decide) hn)).le (by decide:2<=950))).le (by decide):bd 1000 _),by decide,?_⟩;refine aa (e:=upd e 7 _) (i:=2) E.e2 ?_;refine aa (e:=upd (upd e 7 _) 1 _) (i:=5) E.e5 (ag hm (ag hm ⟨Nat.lt_trans lm (by decide),?_⟩));refine aa (e:=upd (upd (upd e 7 _) 1 _) 1 _) (i:=6) E.e6 ?_;exact h _ _ ⟨E.e0,rfl,E.e2,E.e3,E.e4,E.e5,rfl⟩ (get_set hm) au.self
theorem Nt {C:Calls}{a0 a3 a4:AV}{z:Int}{lo mo:Nat}(ne:lo≠mo):∀ (r p:List Int) (M:List AV) (v t:Int) (e:Ev) (J:ae),(∀ n∈r,n.natAbs<3)->bd 950 v->J[lo]?=some (.list ((p++r).map .int))->J[mo]?=some (.list M)->M.length+r.length<=100->Po a0 a3 a4 v z t mo e->
  (∀ e' J' v',Po a0 a3 a4 v' z (t+mY r) mo e'->J'[mo]?=some (.list (M++(CR z v r).map .int))->au mo J J'->QQ .next e' J')->kh (nc 7) (aH T C pH) lo (r.length+1) p.length e J QQ XX:=by
 intro r
 induction r with
 | nil=>
  intro p M v t e J _ _ hl hm _ E h;refine ag hl ?_;rw [List.append_nil,List.getElem?_eq_none (Nat.le_of_eq (Ah ..))];refine ⟨Ah ..,h e J v ?_ ?_ (au.refl _ _)⟩
  ·exact (Int.add_zero t).symm▸E
  ·exact hm.trans (congrArg (fun l=>some (MO.list l)) (List.append_nil M).symm)
 | cons n r ih=>
  intro p M v t e J hr hv hl hm lm E h;refine ag hl ?_;rw [show ((p++n::r).map AV.int)[p.length]?=some (.int n) by rw [List.getElem?_map,List.getElem?_append_right (Aj _),Nat.sub_self]; rfl];refine VL (hr n (.head _)) hv hm (An (Nat.lt_add_of_pos_right (Nat.succ_pos _)) lm) E fun e' J' E' OX kp=>?_;have hp:p.length+1=(p++[n]).length:=by rw [Ac]; rfl
  show kh (nc 7) (aH T C pH) lo (r.length+1) (p.length+1) e' J' QQ XX;rw [hp];refine ih (p++[n]) _ 1 _ e' J' (fun n hn=>hr n (.tail _ hn)) (K9 rfl) ?_ OX ?_ E' fun e2 J2 v2 E2 Ly VM=>h e2 J2 v2 ?_ ?_ (kp.trans VM)
  ·rw [Ae]; exact kp.get ne hl
  ·rw [Ac,Nat.add_assoc,Nat.add_comm _ r.length]; exact lm
  ·rw [Int.add_assoc] at E2; exact E2
  ·rw [Ae] at Ly; exact Ly
noncomputable def sP (m:Int):List Int:=match aC m (-1) (-1) with
 | []=>[m]
 | a::l=>a::l
def Pl (z v m:Int):Prop:=∃ k w,dQ (-1) ((sP m).map AV.int).length=some k∧((sP m).map AV.int)[k]?=some (.int w)∧[w-1]++((CR z v (sP m)).drop 1).reverse=qo m.toNat m z∧mY (sP m)=((qt m.toNat+1:Nat):Int)∧((CR z v (sP m)).map AV.int)[0]?=some (.int (qv v m.toNat m z+m))∧Nat.ble 1 ((CR z v (sP m)).map AV.int).length=true∧Nat.ble ((CR z v (sP m)).map AV.int).length 3=true∧(sP m).all (fun n=>Nat.blt n.natAbs 3)=true∧Nat.ble (aC m (-1) (-1)).length 3=true∧Nat.ble (sP m).length 3=true
theorem RM (z v:Int){m:Int}(hm:m.natAbs<3):Pl z v m:=
 have h0:Pl z v 0:=⟨0,0,rfl,rfl,rfl,rfl,rfl,rfl,rfl,rfl,rfl,rfl⟩
 wU (fun k hk=>Ll (P:=fun k=>Pl z v (k:Int)∧Pl z v (-(k:Int))) ⟨h0,h0⟩ ⟨⟨1,0,rfl,rfl,rfl,rfl,rfl,rfl,rfl,rfl,rfl,rfl⟩,⟨0,-1,rfl,rfl,rfl,rfl,rfl,rfl,rfl,rfl,rfl,rfl⟩⟩ ⟨⟨2,0,rfl,rfl,rfl,rfl,rfl,rfl,rfl,rfl,rfl,rfl⟩,⟨0,-2,rfl,rfl,rfl,rfl,rfl,rfl,rfl,rfl,rfl,rfl⟩⟩ hk) hm
theorem IY {C:Calls}{m:Int}{e:Ev}{J:ae}(hm:m.natAbs<3)(hl:Nat.ble (aC m (-1) (-1)).length 3=true)(h0:e 0=some (.int m))(h:∀ J' lo,J'[lo]?=some (.list ((sP m).map .int))->Ext J J'->aH T C (fx 1 yP.body) (upd e 4 (.obj lo)) J' QQ XX):aH T C yP.body e J QQ XX:=by
 refine aa h0 ⟨Aa (Nat.le_of_lt hm) (by decide:3<=1000000),by decide,rfl,.inr rfl,Aa (Ad hl) (by decide:3<=1000000),ag ay ?_⟩;unfold sP at h;have g:=fun (l:List AV) (q:_)=>h (J++[.list l]) J.length q (Ext.refl _).push;revert h g;cases aC m (-1) (-1) with
 | nil=>exact fun h _=>aa h0 (h _ _ ay (Ext.refl _).push.push)
 | cons a l=>exact fun _ g=>g _ ay
theorem v7 (K:fW T D){n oo:Nat}{m v z:Int}{O:List AV}{J:ae}{Q:QV}{X:QX}(hm:m.natAbs<3)(hv:bd 950 v)(ho:J[oo]?=some (.list O))(lo:O.length<=900)
  (h:∀ J',J'[oo]?=some (.list (O++(qo m.toNat m z).map .int))->au oo J J'->Q (.tup [.int (qv v m.toNat m z),.int ((qt m.toNat+1:Nat):Int)]) J'):aj T D (n+1) 30 [.int m,.int v,.int z,.obj oo] J Q X:=by
 refine ⟨yP,K.UG,rfl,?_⟩;obtain ⟨k,w,g1,g2,g3,g4,g5,g6,g7,g8,g9,W8⟩:=RM z v hm;refine IY hm g9 rfl fun J1 TK hl x1=>?_;have j7:=x1.get ho;have TJ:=(Ai hl).1;have KW:=(Ai j7).1;have al:∀ n∈sP m,n.natAbs<3:=fun n hn=>Ad (List.all_eq_true.mp g8 n hn);refine ⟨_,Nt (lo:=TK) (mo:=J1.length) (a0:=.int m) (a3:=.obj oo) (a4:=.obj TK) (Nat.ne_of_lt TJ) (sP m) [] [] v 0 _ _ al hv (ar hl) ay (Aa (Ak (Ad W8) 0) (by decide)) ⟨rfl,rfl,rfl,rfl,rfl,rfl,rfl⟩ fun e' J2 v' E' Ly kp=>?_⟩;have yx:=kp.get (Nat.ne_of_lt TJ) (ar hl);have ia:=kp.get (Nat.ne_of_lt KW) (ar j7);have Ll:=(Ai ia).1;refine aa E'.e3 (ag ia (aa E'.e4 (jK yx g1 g2 (aa E'.e5 (ag (ar Ly) ⟨Ad g6,Ad g7,?_⟩)))));have l7:(((CR z v (sP m)).map AV.int).drop 1).reverse.length<=3:=by rw [List.length_reverse,List.length_drop]; exact Aa (Nat.sub_le _ _) (Ad g7)
 refine uh (ar ay) ay (Aa (Ak l7 1) (by decide:4<=1000000)) ?_;refine ag (ar (ar (ar ia))) (ag ay ⟨?_,?_,?_⟩)
 ·rw [Ac,Ac]; exact Nat.ne_of_lt (An Ll (Aa (Af _ _) (Af _ _)))
 ·exact Aa (Aq lo (Au l7)) (by decide:904<=1000000)
 have eo:[AV.int (w-1)]++(((CR z v (sP m)).map AV.int).drop 1).reverse=(qo m.toNat m z).map .int:=by rw [← g3,List.map_append,List.map_reverse,List.map_drop]; rfl
 have Wq:J2[J1.length]?=some (.list ((CR z v (sP m)).map AV.int)):=Ly;have ne:J1.length≠oo:=Ne.symm (Nat.ne_of_lt KW);refine aa E'.e5 (jK (au.self.get ne (ar (ar (ar Wq)))) (bc (p:=0) (Ad g6)) g5 (aa E'.e0 (aa E'.e6 ?_)));rw [Int.add_sub_cancel,g4,Int.zero_add];refine h _ ?_ ?_
 ·rw [← eo]; exact get_set (ar (ar (ar ia)))
 ·exact (au.ext x1.push x1.1 kp).push.push.push.keep.trans au.self
end
noncomputable def uL:Nat->Int->List AV
 | 0,_=>[]
 | m+1,j=>.int j::uL m (j+1)
noncomputable def dL:Nat->Int->List AV
 | 0,_=>[]
 | m+1,j=>.int j::dL m (j-1)
theorem FL:∀ (m:Nat) (a:Int),((List.range m).map fun (k:Nat)=>a+(k:Int)).map AV.int=uL m a
 | 0,_=>rfl
 | m+1,a=>by
  show _=AV.int a::uL m (a+1);rw [List.range_succ_eq_map,List.map_cons,List.map_cons,List.map_map,List.map_map,← FL m (a+1),List.map_map];refine congr (congrArg List.cons (congrArg AV.int (Int.add_zero a))) (List.map_congr_left fun k _=>congrArg AV.int ?_);show a+((k:Int)+1)=a+1+k;rw [Int.add_assoc,Int.add_comm 1]
theorem GB:∀ (m:Nat) (a:Int),((List.range m).map fun (k:Nat)=>a-(k:Int)).map AV.int=dL m a
 | 0,_=>rfl
 | m+1,a=>by
  show _=AV.int a::dL m (a-1);rw [List.range_succ_eq_map,List.map_cons,List.map_cons,List.map_map,List.map_map,← GB m (a-1),List.map_map];refine congr (congrArg List.cons (congrArg AV.int (Int.sub_zero a))) (List.map_congr_left fun k _=>congrArg AV.int ?_);show a-((k:Int)+1)=a-1-k;rw [Int.sub_sub,Int.add_comm 1]
theorem Dh (a b:Int):itemsOf (.j6 a b 1)=some (uL (b-a).toNat a):=congrArg some (FL _ a)
theorem RE (a b:Int):itemsOf (.j6 a b (-1))=some (dL (a-b).toNat a):=congrArg some (GB _ a)
structure ZE (tx:Tx)(s:SW)(e:Ev):Prop where
 e2:e 2=some (.int s.x)
 e3:e 3=some (.int s.y)
 e4:e 4=some (.int s.z)
 e5:e 5=some (.tup (s.a.map .int))
 sX:e 13=some (.int s.t)
 CG:e 15=some (.str tx)
section
variable {T:aQ}{D:Nat->Option aD}{C:Calls}{QQ:QF}{XX:XS}{J:ae}{tx:Tx}{a:List Int}
theorem Gh:∀ (m:Nat) (i x y z:Int) (t:Nat) (e:Ev),ZE tx ⟨x,y,z,a,[],t⟩ e->
  (∀ e',ZE tx ⟨(yu m i x y z).1,(yu m i x y z).2.1,(yu m i x y z).2.2,a,[],m+t⟩ e'->QQ .next e' J)->cS (nc 2) (aH T C AS) (uL m i) e J QQ XX
 | 0,i,x,y,z,t,e,E,h=>h e ((Nat.zero_add t).symm▸E)
 | m+1,i,x,y,z,t,e,E,h=>by
  refine aa (e:=upd e 2 _) (i:=3) E.e3 (aa (e:=upd (upd e 2 _) 3 _) (i:=4) E.e4 (aa (e:=upd (upd (upd e 2 _) 3 _) 4 _) (i:=13) E.sX ?_));refine Gh m (i+1) i (y-i) (z+1) (t+1) _ ⟨rfl,rfl,rfl,E.e5,rfl,E.CG⟩ fun e' E'=>h e' ?_;rw [← Nat.add_assoc,Aw] at E'; exact E'
theorem Gf:∀ (m:Nat) (i x y z:Int) (t:Nat) (e:Ev),ZE tx ⟨x,y,z,a,[],t⟩ e->
  (∀ e',ZE tx ⟨(lg m i x y z).1,(lg m i x y z).2.1,(lg m i x y z).2.2,a,[],m+t⟩ e'->QQ .next e' J)->cS (nc 3) (aH T C AR) (uL m i) e J QQ XX
 | 0,i,x,y,z,t,e,E,h=>h e ((Nat.zero_add t).symm▸E)
 | m+1,i,x,y,z,t,e,E,h=>by
  refine aa (e:=upd e 3 _) (i:=4) E.e4 (aa (e:=upd (upd (upd e 3 _) 4 _) 2 _) (i:=13) E.sX ?_);refine Gf m (i+1) 7 i (z+i) (t+1) _ ⟨rfl,rfl,rfl,E.e5,rfl,E.CG⟩ fun e' E'=>h e' ?_;rw [← Nat.add_assoc,Aw] at E'; exact E'
theorem Gg:∀ (m:Nat) (i x y z:Int) (t:Nat) (e:Ev),i.natAbs+m<=9->ZE tx ⟨x,y,z,a,[],t⟩ e->
  (∀ e',ZE tx ⟨(qz m i x y z).1.1,(qz m i x y z).1.2.1,(qz m i x y z).1.2.2,a,[],(qz m i x y z).2+t⟩ e'->QQ .next e' J)->cS (nc 2) (aH T C AQ) (dL m i) e J QQ XX
 | 0,i,x,y,z,t,e,_,E,h=>h e ((Nat.zero_add t).symm▸E)
 | m+1,i,x,y,z,t,e,h1,E,h=>by
  refine aa (e:=upd e 2 _) (i:=13) E.sX ⟨Aa (Aa (Af _ _) h1) (by decide:9<=1000000),(by decide:2<=1000000),aq (Dh _ _) ?_⟩;refine Gf (2-i).toNat i i y z (t+2) _ ⟨rfl,E.e3,E.e4,E.e5,rfl,E.CG⟩ fun e1 E1=>?_;refine Gg m (i-1) _ _ _ _ _ (Aa (Al (Int.natAbs_add_le i (-1)) m) (Aa (Nat.le_of_eq (Aw _ 1 m)) h1)) E1 fun e' E'=>h e' ?_;rw [Nat.add_comm t 2,← Nat.add_assoc,← Nat.add_assoc,Nat.add_assoc _ _ 2,Nat.add_comm _ 2] at E'; exact E'
theorem zi:∀ (m:Nat) (x x' y z:Int) (t:Nat) (e:Ev),(m=0->x'=x)->ZE tx ⟨x',y,z,a,[],t⟩ e->
  (∀ e',ZE tx ⟨(wc m x y).1,(wc m x y).2,z,a,[],m+t⟩ e'->QQ .next e' J)->cS (nc 2) (aH T C AP) (uL m (x+1)) e J QQ XX
 | 0,x,x',y,z,t,e,hx,E,h=>h e ((Nat.zero_add t).symm▸hx rfl▸E)
 | m+1,x,x',y,z,t,e,hx,E,h=>by
  refine aa (e:=upd e 2 _) (i:=3) E.e3 (aa (e:=upd (upd e 2 _) 3 _) (i:=13) E.sX ?_);refine zi m (x+1) (x+1) (y+(x+1)) z (t+1) _ (fun _=>rfl) ⟨rfl,rfl,E.e4,E.e5,rfl,E.CG⟩ fun e' E'=>h e' ?_;rw [← Nat.add_assoc,Aw] at E'; exact E'
structure SE (n k:Nat)(u r:Int)(w:Nat)(x y z:Int)(a:List Int)(oo bo:Nat)(e:Ev):Prop where
 e0:e 0=some (.int k)
 e1:e 1=some (.int r)
 e2:e 2=some (.int x)
 e3:e 3=some (.int y)
 e4:e 4=some (.int z)
 e5:e 5=some (.tup (a.map .int))
 e6:e 6=some (.obj oo)
 e7:e 7=some (.obj bo)
 e8:e 8=some (.int (n:Int))
 e9:e 9=some (.int u)
 wu:e 11=some (.int (cY w))
 CH:e 12=some (.int (hi z))
 sX:e 13=some (.int 0)
def BQ (n b:Nat)(oo bo:Nat)(O:List Int)(B:List AV)(tx:Tx)(m:Option SW)(QQ:QF):Prop:=∀ e' J' s B',ZE tx s e'->WB n b 5 s->Ch 1 m s B B'->J'[oo]?=some (.list ((O++s.o).map .int))->J'[bo]?=some (.list B')->QQ .next e' J'
theorem BQ.fin {n b oo bo:Nat}{O:List Int}{B:List AV}{m:Option SW}{s:SW}{e:Ev}(h:BQ n b oo bo O B tx m QQ)(hm:m=some s)(ob:OB n b 5 m)(E:ZE tx s e)(ho:J[oo]?=some (.list ((O++s.o).map .int)))(hb:J[bo]?=some (.list B)):QQ .next e J:=h e J s B E (by rw [hm] at ob; exact ob) (.ok hm) ho hb
noncomputable def zN:Ss->Ss
 | .cons (.ifs _ a _) _=>a
 | _=>.nil
noncomputable def jN:Ss->Ss
 | .cons (.ifs _ _ a) _=>a
 | _=>.nil
theorem z3:∀ (a:List Int) (i:Nat) (v:Int),i<a.length->(a.map AV.int).take i++[.int v]++(a.map AV.int).drop (i+1)=(a.set i v).map .int
 | c::a,0,v,_=>rfl
 | c::a,i+1,v,h=>congrArg (AV.int c::·) (z3 a i v (Nat.lt_of_succ_lt_succ h))
theorem RH {n bo t:Nat}{x y z p v:Int}{o:List Int}{B:List AV}{e:Ev}(hA:a.length=n)(n3:n<=3)(E:ZE tx ⟨x,y,z,a,o,t⟩ e)(h7:e 7=some (.obj bo))(h8:e 8=some (.int (n:Int)))(h9:e 9=some (.int p))(yg:e 14=some (.int v))(hb:J[bo]?=some (.list B))(lb:B.length<1000)
  (h1:qA n p=true->∀ e',ZE tx ⟨x,y,z,a.set p.toNat v,o,t⟩ e'->QQ .next e' J) (h2:qA n p=false->QQ .next e (J.set bo (.list (B++[.int p])))):aH T C (zN pG) e J QQ XX:=by
 refine aa h9 (aa h8 ⟨Aa n3 (by decide:3<=1000000),rfl,?_⟩);show qE (.bool (decide (0<=p)&&decide (p<(n:Int)))) _ _;rw [← Bool.decide_and];refine aX (fun q=>?_) fun q=>?_
 ·have q':=Ax q;have pt:=Int.toNat_of_nonneg q'.1;have lp:p.toNat<n:=Int.ofNat_lt.mp (pt.symm▸q'.2);have ll:(a.map AV.int).length=n:=(Ah ..).trans hA;refine aa E.e5 (aa h9 ⟨rfl,q'.1,by rw [ll]; exact q'.2,aa yg ⟨?_,aa E.e5 (aa h9 ⟨Int.le_add_of_nonneg_left q'.1,by rw [ll]; exact q'.2,?_,?_⟩)⟩⟩)
  ·rw [List.length_take];exact Aa (Al (Aa (Nat.min_le_left _ _) (Aa (Nat.le_of_lt lp) n3)) 1) (by decide:4<=1000000)
  ·rw [Ac,List.length_take,List.length_drop,ll];exact Aa (Aq (Al (Aa (Nat.min_le_left _ _) (Aa (Nat.le_of_lt lp) n3)) 1) (Aa (Nat.sub_le _ _) n3)) (by decide:7<=1000000)
  ·rw [show (p+1).toNat=p.toNat+1 from Int.toNat_add q'.1 (by decide),z3 a p.toNat v (hA▸lp)];exact h1 q _ ⟨E.e2,E.e3,E.e4,rfl,E.sX,E.CG⟩
 ·exact aa h7 (ag hb (aa h9 (ag hb ⟨Nat.lt_trans lb (by decide),h2 q⟩)))
theorem qX:∀ w<4,bW (cY w)=GU w∧(GU w).length<=2∧(cY w).natAbs<3:=by decide +kernel
theorem pD {A B:Tx}{w:Nat}{e:Ev}{s:S}{r:Ss}(hw:w<4)(la:Nat.ble A.length 100=true)(lb:Nat.ble B.length 100=true)(C1:e 11=some (.int (cY w)))(h:aH T C (.cons s r) (upd e 15 (.str (A++GU w++B))) J QQ XX):aH T C (.cons (.set 15 (.bin .add (.bin .add (.str A) (.bi .str (.cons (.v 11) .nil))) (.str B))) (.cons s r)) e J QQ XX:=by
 obtain ⟨q1,q2,q3⟩:=qX w hw;have la:=Ad la;refine aa C1 ⟨Nat.lt_trans q3 (by decide),?_⟩;rw [q1];refine ⟨Aa (Aq la q2) (by decide:102<=1000000),?_,h⟩;rw [Ac];exact Aa (Aq (Aq la q2) (Ad lb)) (by decide:202<=1000000)
section
variable {n k w b oo bo:Nat}{p r x y z:Int}{O:List Int}{B:List AV}{e:Ev}
theorem Xw (K:fW T D){m u:Nat}(E:SE n 2 p r w x y z a oo bo e)(hx:bd 900 x)(ho:J[oo]?=some (.list (O.map .int)))(lo:O.length<=900)(ne:bo≠oo)(hb:J[bo]?=some (.list B))(ob:OB n b 5 (di n 2 u x y z a))(h:BQ n b oo bo O B (mW 2 u) (di n 2 u x y z a) QQ):aH T (aj T D (m+1)) AO e J QQ XX:=by
 refine aa (e:=upd e 15 _) (i:=12) E.CH (aa (e:=upd e 15 _) (i:=2) E.e2 (aa (e:=upd e 15 _) (i:=4) E.e4 (aa (e:=upd e 15 _) (i:=6) E.e6 ⟨K.yk 30 rfl rfl,v7 K (lS z) (hx.le (by decide)) ho (by rw [Ah]; exact lo) fun J' dZ kp=>?_⟩)));rw [← List.map_append] at dZ;exact h.fin rfl ob ⟨rfl,E.e3,E.e4,E.e5,rfl,rfl⟩ dZ (kp.get ne hb)
theorem u4 {u:Nat}(hu:u<4):u<6:=Nat.lt_trans hu (by decide)
theorem Xu {u:Nat}(hu:u<4)(E:SE n 4 p r u x y z a oo bo e)(ho:J[oo]?=some (.list (O.map .int)))(hb:J[bo]?=some (.list B))(ob:OB n b 5 (di n 4 u x y z a))(h:BQ n b oo bo O B (mW 4 u) (di n 4 u x y z a) QQ):aH T C AM e J QQ XX:=by
 have q3:=(qX u hu).2.2;refine pD hu rfl rfl E.wu (aa (e:=upd (upd e 15 _) 13 _) (i:=11) E.wu (aa (e:=upd (upd e 15 _) 13 _) (i:=12) E.CH ⟨Aa (Nat.le_of_lt q3) (by decide:3<=1000000),Aa (we (P:=fun h _=>(h+1).natAbs<=4) rfl z (u4 hu)) (by decide:4<=1000000),aq (Dh _ _) ?_⟩));exact Gh (hi z+1-cY u).toNat (cY u) x y z 1 _ ⟨E.e2,E.e3,E.e4,E.e5,rfl,rfl⟩ fun e' E'=>h.fin rfl ob E' (by rw [List.append_nil]; exact ho) hb
theorem Xs {u:Nat}(hu:u<4)(E:SE n 5 p r u x y z a oo bo e)(ho:J[oo]?=some (.list (O.map .int)))(hb:J[bo]?=some (.list B))(ob:OB n b 5 (di n 5 u x y z a))(h:BQ n b oo bo O B (mW 5 u) (di n 5 u x y z a) QQ):aH T C AL e J QQ XX:=by
 have q3:=(qX u hu).2.2;refine pD hu rfl rfl E.wu (aa (e:=upd (upd e 15 _) 13 _) (i:=11) E.wu (aa (e:=upd (upd e 15 _) 13 _) (i:=12) E.CH ⟨Aa (Nat.le_of_lt q3) (by decide:3<=1000000),Aa (we (P:=fun h _=>(h-1).natAbs<=4) rfl z (u4 hu)) (by decide:4<=1000000),rfl,aq (RE _ _) ?_⟩));rw [we (P:=fun h l=>l-(h-1)=l-h+1) rfl z (u4 hu)];exact Gg (cY u-hi z+1).toNat (cY u) x y z 1 _ (we (P:=fun h l=>l.natAbs+(l-h+1).toNat<=9) rfl z (u4 hu)) ⟨E.e2,E.e3,E.e4,E.e5,rfl,rfl⟩ fun e' E'=>h.fin rfl ob E' (by rw [List.append_nil]; exact ho) hb
theorem Xr {u:Nat}(hu:u<4)(E:SE n 6 p r u x y z a oo bo e)(ho:J[oo]?=some (.list (O.map .int)))(hb:J[bo]?=some (.list B))(ob:OB n b 5 (di n 6 u x y z a))(h:BQ n b oo bo O B (mW 6 u) (di n 6 u x y z a) QQ):aH T C AK e J QQ XX:=by
 have q3:=(qX u hu).2.2;refine pD hu rfl rfl E.wu (aa (e:=upd (upd e 15 _) 13 _) (i:=11) E.wu (aa (e:=upd (upd (upd e 15 _) 13 _) 2 _) (i:=11) E.wu (aa (e:=upd (upd (upd e 15 _) 13 _) 2 _) (i:=12) E.CH ⟨Aa (we (P:=fun _ l=>(l+1).natAbs<=4) rfl z (u4 hu)) (by decide:4<=1000000),Aa (we (P:=fun h _=>(h+1).natAbs<=4) rfl z (u4 hu)) (by decide:4<=1000000),aq (Dh _ _) ?_⟩)));rw [Int.add_sub_add_right];exact zi (hi z-cY u).toNat (cY u) (cY u) y z 1 _ (fun _=>rfl) ⟨rfl,E.e3,E.e4,E.e5,rfl,rfl⟩ fun e' E'=>h.fin rfl ob E' (by rw [List.append_nil]; exact ho) hb
theorem Xq {u:Nat}(hu:u<4)(E:SE n 7 p r u x y z a oo bo e)(ho:J[oo]?=some (.list (O.map .int)))(hb:J[bo]?=some (.list B))(ob:OB n b 5 (di n 7 u x y z a))(h:BQ n b oo bo O B (mW 7 u) (di n 7 u x y z a) QQ):aH T C (jN (jN (jN (jN (jN (jN pG)))))) e J QQ XX:=by
 have q3:=(qX u hu).2.2;refine pD hu rfl rfl E.wu (aa (e:=upd e 15 _) (i:=11) E.wu (aa (e:=upd e 15 _) (i:=12) E.CH (aa (e:=upd e 15 _) (i:=11) E.wu ⟨Aa (we (P:=fun _ l=>(l+1).natAbs<=4) rfl z (u4 hu)) (by decide:4<=1000000),Aa (we (P:=fun h l=>(max h (l+1)+1).natAbs<=5) rfl z (u4 hu)) (by decide:5<=1000000),aq (Dh _ _) ?_⟩)));rw [we (P:=fun h l=>(max h (l+1)+1-(l+1)).toNat=(h-l-1).toNat+1) rfl z (u4 hu)];exact zi ((hi z-cY u-1).toNat+1) (cY u) x y z 0 _ (fun h=>by cases h) ⟨E.e2,E.e3,E.e4,E.e5,E.sX,rfl⟩ fun e' E'=>h.fin rfl ob E' (by rw [List.append_nil]; exact ho) hb
theorem Nn {u:Nat}(hu:u<6):(zk.map AV.str)[u]?=some (.str (GQ u)):=PL (P:=fun u=>(zk.map AV.str)[u]?=some (.str (GQ u))) rfl rfl rfl rfl rfl rfl hu
theorem zX:∀ u<6,(GQ u).length<=2:=by decide
theorem D7 {u:Nat}{x h:Int}(hu:u<6)(eu:r.fmod 6=u)(h1:e 1=some (.int r))(h2:e 2=some (.int x))(yi:e 12=some (.int h)){Q:QV}{X:QX}(q:Q (.bool (rel u x h)) J):bb T C (.idx (.tuple (.cons (.cmp .eq (.v 2) (.v 12)) (.cons (.cmp .ne (.v 2) (.v 12)) (.cons (.cmp .lt (.v 2) (.v 12)) (.cons (.cmp .le (.v 2) (.v 12)) (.cons (.cmp .gt (.v 2) (.v 12)) (.cons (.cmp .ge (.v 2) (.v 12)) .nil))))))) (.bin .mod (.v 1) (.int 6))) e J Q X:=by
 refine aa h2 (aa yi ?_);refine aa h2 (aa yi ?_);refine aa h2 (aa yi ?_);refine aa h2 (aa yi ?_);refine aa h2 (aa yi ?_);refine aa h2 (aa yi ?_);refine aa h1 ⟨by decide,by decide,aq (a:=u) (by rw [eu]; exact bc hu) (aq (a:=.bool (rel u x h)) ?_ q)⟩;exact PL (P:=fun u=>[AV.bool (decide (x=h)),.bool (!decide (x=h)),.bool (decide (x<h)),.bool (decide (x<=h)),.bool (decide (x>h)),.bool (decide (x ≥ h))][u]?=some (.bool (rel u x h))) rfl rfl rfl rfl rfl rfl hu
theorem Xv (K:fW T D){u:Nat}(hu:u<6)(eu:r.fmod 6=u)(E:SE n 3 p r w x y z a oo bo e)(ho:J[oo]?=some (.list (O.map .int)))(hb:J[bo]?=some (.list B))(ob:OB n b 5 (di n 3 u x y z a))(h:BQ n b oo bo O B (mW 3 u) (di n 3 u x y z a) QQ):aH T C AN e J QQ XX:=by
 have ho:J[oo]?=some (.list ((O++[]).map .int)):=by rw [List.append_nil]; exact ho
 refine aq K.g4 (aa E.e1 ⟨by decide,by decide,aq (a:=u) (by rw [eu]; exact bc hu) (aq (Nn hu) ⟨?_,?_,?_⟩)⟩)
 ·exact Aa (Ak (zX u hu) 4) (by decide:6<=1000000)
 ·rw [Ac]; exact Aa (Al (Ak (zX u hu) 4) 43) (by decide:49<=1000000)
 refine D7 (e:=upd e 15 _) hu eu E.e1 E.e2 E.CH ?_;have f:=fun (s:SW) (q:di n 3 u x y z a=some s) (e':Ev) (E':ZE (mW 3 u) s e') (q2:s.o=[])=>h.fin (J:=J) q ob E' (by rw [q2]; exact ho) hb;unfold di at f;refine aX (fun q=>?_) fun q=>?_
 ·rw [q] at f;refine aa (e:=upd e 15 _) (i:=4) E.e4 ⟨by decide,by decide,aX (b:=decide (z.fmod 2=1)) (fun q2=>?_) fun q2=>?_⟩
  ·rw [q2] at f;exact aa (e:=upd e 15 _) (i:=4) E.e4 (f _ rfl _ ⟨rfl,E.e3,E.e4,E.e5,E.sX,rfl⟩ rfl)
  ·rw [q2] at f;exact aa (e:=upd e 15 _) (i:=2) E.e2 (f _ rfl _ ⟨E.e2,rfl,E.e4,E.e5,E.sX,rfl⟩ rfl)
 ·rw [q] at f;exact f _ rfl _ ⟨E.e2,E.e3,E.e4,E.e5,E.sX,rfl⟩ rfl
end
end
noncomputable def OE (n e:Nat):Nat:=[1,n,n / 2+1,1,n,n+1,1,n,0,n / 2+1].getD e 0
theorem F6:∀ n<3,∀ e<10,([0,((n+1:Nat):Int)-1,Int.fdiv ((n+1:Nat):Int) 2,0,((n+1:Nat):Int)-1,((n+1:Nat):Int),0,((n+1:Nat):Int)-1,-1,Int.fdiv ((n+1:Nat):Int) 2]:List Int)[e]?=some ((OE (n+1) e:Nat)-1:Int)∧OE (n+1) e<=n+2:=by decide +kernel
theorem F5:∀ u:Nat,u<6->bW ((u:Int)-1)=KS u∧(KS u).length<=2∧((u:Int)-1).natAbs<6:=by decide +kernel
noncomputable def uu (p v w:Nat):Nat->Nat
 | 0=>p
 | 1=>p
 | 3=>v
 | _=>w
noncomputable def LO (n:Nat)(a:List Int)(p:Int):Int:=match qA n p with
 | true=>a.getD p.toNat 0
 | false=>0
theorem SR {n u:Nat}{a:List Int}(hA:a.length=n)(hu:u<=n+1):∃ k,dQ ((u:Int)-1) ((a.map AV.int)++[AV.int 0]).length=some k∧((a.map AV.int)++[AV.int 0])[k]?=some (.int (LO n a ((u:Int)-1))):=by
 have ll:((a.map AV.int)++[AV.int 0]).length=n+1:=by rw [Ac,Ah,hA]; rfl
 have top:((a.map AV.int)++[AV.int 0])[n]?=some (.int 0):=by
  rw [List.getElem?_append_right (by rw [Ah,hA]; exact Aj _),Ah,hA,Nat.sub_self]; rfl
 rw [ll];cases u with
 | zero=>
  refine ⟨n,?_,?_⟩
  ·exact kZ
  ·exact top
 | succ i=>
  rw [show ((i+1:Nat):Int)-1=(i:Int) from Int.add_sub_cancel (i:Int) 1];refine ⟨i,bc hu,?_⟩;unfold LO;rcases Nat.lt_or_eq_of_le (Am hu) with q | q
  ·rw [vQ q,List.getElem?_append_left (by rw [Ah,hA]; exact q),List.getElem?_map];show _=some (AV.int (a.getD i 0));rw [List.getD_eq_getElem?_getD,List.getElem?_eq_getElem (hA.symm▸q)]; rfl
  ·subst q;rw [show qA i (i:Int)=false from decide_eq_false fun h=>Int.lt_irrefl _ h.2];exact top
section
variable {T:aQ}{D:Nat->Option aD}{C:Calls}{QQ:QF}{XX:XS}{J:ae}{a:List Int}{n k w b u oo bo:Nat}{r x y z:Int}{O:List Int}{B:List AV}{e:Ev}
theorem UR {t:Nat}{o:List Int}{v:Int}(hA:a.length=n)(n3:n<=3)(h7:e 7=some (.obj bo))(h8:e 8=some (.int (n:Int)))(h9:e 9=some (.int ((u:Int)-1)))(Z:ZE (mW k u) ⟨x,y,z,a,o,t⟩ e)(yg:e 14=some (.int v))(ho:J[oo]?=some (.list ((O++o).map .int)))(ne:bo≠oo)(hb:J[bo]?=some (.list B))(lb:B.length<1000)(wb:WB n b 5 ⟨x,y,z,a,o,t⟩){m:Option SW}(hm:m=CN n u fun i=>⟨x,y,z,a.set i v,o,t⟩)(ob:OB n b 5 m)(h:BQ n b oo bo O B (mW k u) m QQ):aH T C (zN pG) e J QQ XX:=by
 unfold CN at hm;refine RH (v:=v) hA n3 Z h7 h8 h9 yg hb lb (fun q e' E'=>?_) fun q=>?_
 ·rw [q] at hm;exact h.fin hm ob E' ho hb
 ·rw [q] at hm;exact h _ _ _ _ Z wb (.no hm) (au.self.get (Ne.symm ne) ho) (get_set hb)
theorem n7 {k w:Int}{A B:Ss}{Q:QF}{X:XS}(h0:e 0=some (.int k))(hd:decide (k=w)=true)(h:aH T C A e J Q X):Ft T C (.ifs (.cmp .eq (.v 0) (.int w)) A B) e J Q X:=aa h0 (jD (b:=decide (k=w)) hd h)
theorem cA {k w:Int}{A B:Ss}{Q:QF}{X:XS}(h0:e 0=some (.int k))(hd:decide (k=w)=false)(h:aH T C B e J Q X):Ft T C (.ifs (.cmp .eq (.v 0) (.int w)) A B) e J Q X:=aa h0 (gw (b:=decide (k=w)) hd h)
theorem n8 {k w:Int}{A B:Ss}{Q:QF}{X:XS}(h0:e 0=some (.int k))(hd:decide (k<w)=false)(h:aH T C B e J Q X):Ft T C (.ifs (.cmp .lt (.v 0) (.int w)) A B) e J Q X:=aa h0 (gw (b:=decide (k<w)) hd h)
theorem Gi {k w:Int}{A B:Ss}{Q:QF}{X:XS}(h0:e 0=some (.int k))(hd:decide (k<w)=true)(h:aH T C A e J Q X):Ft T C (.ifs (.cmp .lt (.v 0) (.int w)) A B) e J Q X:=aa h0 (jD (b:=decide (k<w)) hd h)
structure SB (n b:Nat)(x y z:Int)(a:List Int):Prop where
 x:bd b x
 y:bd b y
 z:bd b z
 A:ab b a
 l:a.length=n
theorem SB.wb (h:SB n b x y z a){o:List Int}{t:Nat}(ho:o.length<=5):WB n (b+24) 5 ⟨x,y,z,a,o,t⟩:=⟨h.x.le (Af _ _),h.y.le (Af _ _),h.z.le (Af _ _),h.A.le (Af _ _),h.l,ho⟩
theorem Iu (K:fW T D){m p v:Nat}(hk:k<8)(hw:w<4)(hv:v<6)(hp:p<=n+1)(ev:r.fmod 6=v)(n3:n<=3)(b4:4<=b)(b9:b<=900)(S:SB n b x y z a)(E:SE n k ((p:Int)-1) r w x y z a oo bo e)(ib:e 10=some (.str ([97,91]++KS p++[93])))(yg:e 14=some (.int z))(G5:e 15=some (.str (mW 0 p)))(ho:J[oo]?=some (.list (O.map .int)))(lo:O.length<=900)(ne:bo≠oo)(hb:J[bo]?=some (.list B))(lb:B.length<1000){Q:QV}
  (h:∀ s B' J',WB n (b+24) 5 s->Ch 1 (di n k (uu p v w k) x y z a) s B B'->J'[oo]?=some (.list ((O++s.o).map .int))->J'[bo]?=some (.list B')->Q (.tup [.str (mW k (uu p v w k)),.int s.x,.int s.y,.int s.z,.tup (s.a.map .int),.int s.t]) J'):aH T (aj T D (m+1)) (fx 8 yO.body) e J (qQ Q) XX:=by
 have p6:p<6:=Ao hp (Ao (Au n3) (by decide));have ob:=fun k {u} (hu:u<6)=>FK (k:=k) b4 hu S.x S.y S.z S.A S.l;have fin:∀ {tx:Tx} {mm:Option SW},(∀ s B' J',WB n (b+24) 5 s->Ch 1 mm s B B'->J'[oo]?=some (.list ((O++s.o).map .int))->J'[bo]?=some (.list B')->Q (.tup [.str tx,.int s.x,.int s.y,.int s.z,.tup (s.a.map .int),.int s.t]) J')->BQ n (b+24) oo bo O B tx mm fun f e1 J1=>match f with
   | .next=>aH T (aj T D (m+1)) AJ e1 J1 (qQ Q) XX
   | f=>qQ Q f e1 J1:=fun h e' J' s B' Z wb ch dZ yA=>aa Z.CG (aa Z.e2 (aa Z.e3 (aa Z.e4 (aa Z.e5 (aa Z.sX (h s B' J' wb ch dZ yA))))))
 have Wh:J[oo]?=some (.list ((O++[]).map .int)):=by rw [List.append_nil]; exact ho
 have w6:w<6:=Nat.lt_trans hw (by decide);revert E h;refine OM (P:=fun k=>SE n k ((p:Int)-1) r w x y z a oo bo e->(∀ s B' J',WB n (b+24) 5 s->Ch 1 (di n k (uu p v w k) x y z a) s B B'->J'[oo]?=some (.list ((O++s.o).map .int))->J'[bo]?=some (.list B')->Q (.tup [.str (mW k (uu p v w k)),.int s.x,.int s.y,.int s.z,.tup (s.a.map .int),.int s.t]) J')->aH T (aj T D (m+1)) (fx 8 yO.body) e J (qQ Q) XX) (fun E h=>?_) (fun E h=>?_) (fun E h=>?_) (fun E h=>?_) (fun E h=>?_) (fun E h=>?_) (fun E h=>?_) (fun E h=>?_) hk
 ·exact cA E.e0 rfl (Gi E.e0 rfl (UR (t:=0) S.l n3 E.e7 E.e8 E.e9 ⟨E.e2,E.e3,E.e4,E.e5,E.sX,G5⟩ yg Wh ne hb lb (S.wb (Nat.zero_le 5)) rfl (ob 0 p6) (fin h)))
 ·obtain ⟨k',c1,c2⟩:=SR S.l hp;have hc:bd 900 (LO n a ((p:Int)-1)):=by
   unfold LO;cases qA n ((p:Int)-1) with
   | true=>exact (S.A _).le b9
   | false=>exact QJ _
  have q2:=(F5 p p6).2.1;have l3:([97,91]++KS p++[93]).length<=5:=by rw [Ac,Ac]; exact Al (Ak q2 2) 1
  refine n7 E.e0 rfl (aa ib ⟨Aa (Ak l3 10) (by decide:15<=1000000),?_,?_⟩)
  ·rw [Ac]; exact Aa (Al (Ak l3 10) 1) (by decide:16<=1000000)
  refine aa (e:=upd e 15 _) (i:=12) E.CH (aa (e:=upd e 15 _) (i:=5) E.e5 ⟨?_,aa (e:=upd e 15 _) (i:=9) E.e9 (aq c1 (aq c2 (aa (e:=upd e 15 _) (i:=4) E.e4 (aa (e:=upd e 15 _) (i:=6) E.e6 ⟨K.yk 30 rfl rfl,v7 K (lS z) (hc.le (by decide)) ho (by rw [Ah]; exact lo) fun J' dZ kp=>?_⟩))))⟩)
  ·rw [Ah,S.l]; exact Aa (Al n3 1) (by decide:4<=1000000)
  rw [← List.map_append] at dZ;have ol:(qo (hi z).toNat (hi z) z).length<=5:=(show OB n (b+24) 5 (di n 2 0 x y z a) from ob 2 (by decide)).o;refine Gi (e:=c0 (upd e 15 _) [14,13] _) E.e0 rfl (UR (e:=c0 (upd e 15 _) [14,13] _) (t:=qt (hi z).toNat+1) S.l n3 E.e7 E.e8 E.e9 ⟨E.e2,E.e3,E.e4,E.e5,rfl,rfl⟩ rfl dZ ne (kp.get ne hb) lb (S.wb ol) ?_ (ob 1 p6) (fin h));unfold di CN LO;cases qA n ((p:Int)-1)<;>rfl
 ·exact cA E.e0 rfl (n8 E.e0 rfl (n7 E.e0 rfl (Xw K E (S.x.le b9) ho lo ne hb (ob 2 w6) (fin h))))
 ·exact cA E.e0 rfl (n8 E.e0 rfl (cA E.e0 rfl (n7 E.e0 rfl (Xv K hv ev E ho hb (ob 3 hv) (fin h)))))
 ·exact cA E.e0 rfl (n8 E.e0 rfl (cA E.e0 rfl (cA E.e0 rfl (n7 E.e0 rfl (Xu hw E ho hb (ob 4 w6) (fin h))))))
 ·exact cA E.e0 rfl (n8 E.e0 rfl (cA E.e0 rfl (cA E.e0 rfl (cA E.e0 rfl (n7 E.e0 rfl (Xs hw E ho hb (ob 5 w6) (fin h)))))))
 ·exact cA E.e0 rfl (n8 E.e0 rfl (cA E.e0 rfl (cA E.e0 rfl (cA E.e0 rfl (cA E.e0 rfl (n7 E.e0 rfl (Xr hw E ho hb (ob 6 w6) (fin h))))))))
 ·exact cA E.e0 rfl (n8 E.e0 rfl (cA E.e0 rfl (cA E.e0 rfl (cA E.e0 rfl (cA E.e0 rfl (cA E.e0 rfl (Xq hw E ho hb (ob 7 w6) (fin h))))))))
end
section
variable {T:aQ}{D:Nat->Option aD}{C:Calls}{QQ:QF}{XX:XS}{J:ae}{a:List Int}{n k w b u oo bo:Nat}{r x y z:Int}{O:List Int}{B:List AV}{e:Ev}
theorem I0 {i:Nat}{l:List AV}{Q:QV}{X:QX}(h:e i=some (.tup l))(q:Q (.int l.length) J):bb T C (.bi .len (.cons (.v i) .nil)) e J Q X:=aa h q
theorem DW (K:fW T D){m p v f:Nat}{vk:Int}(ek:vk=k)(hk:k<8)(hw:w<4)(hv:v<6)(hf:f<10)(ew:r.fmod 4=w)(ev:r.fmod 6=v)(ef:r.fmod 10=f)(hn:n<3)(hp:p=OE (n+1) f)(b4:4<=b)(b9:b<=900)(S:SB (n+1) b x y z a)(ho:J[oo]?=some (.list (O.map .int)))(lo:O.length<=900)(ne:bo≠oo)(hb:J[bo]?=some (.list B))(lb:B.length<1000){Q:QV}{X:QX}
  (h:∀ s B' J',WB (n+1) (b+24) 5 s->Ch 1 (di (n+1) k (uu p v w k) x y z a) s B B'->J'[oo]?=some (.list ((O++s.o).map .int))->J'[bo]?=some (.list B')->Q (.tup [.str (mW k (uu p v w k)),.int s.x,.int s.y,.int s.z,.tup (s.a.map .int),.int s.t]) J') :
  aj T D (m+2) 31 [.int vk,.int r,.int x,.int y,.int z,.tup (a.map .int),.obj oo,.obj bo] J Q X:=by
 subst ek;refine ⟨yO,K.UE,rfl,?_⟩;obtain ⟨p1,p2⟩:=F6 n hn f hf;rw [← hp] at p1 p2;have p6:p<6:=Ao p2 (An (Nat.add_lt_add_right hn 2) (by decide));obtain ⟨t1,t2,t3⟩:=F5 p p6;have ll:(((a.map AV.int).length:Nat):Int)=((n+1:Nat):Int):=by rw [Ah,S.l]
 refine ec (I0 (l:=a.map AV.int) rfl ?_);rw [ll];refine ⟨by decide,by decide,by decide,by decide,by decide,by decide,aq (a:=f) (by rw [ef]; exact bc hf) (aq (a:=.int ((p:Int)-1)) ?_ ?_)⟩
 ·exact (List.getElem?_map (f:=AV.int) (l:=[0,((n+1:Nat):Int)-1,Int.fdiv ((n+1:Nat):Int) 2,0,((n+1:Nat):Int)-1,((n+1:Nat):Int),0,((n+1:Nat):Int)-1,-1,Int.fdiv ((n+1:Nat):Int) 2]) ..).trans (congrArg (Option.map AV.int) p1)
 refine ⟨Nat.lt_trans t3 (by decide),?_⟩;rw [t1];refine ⟨Aa (Ak t2 2) (by decide:4<=1000000),?_,?_⟩
 ·rw [Ac]; exact Aa (Al (Ak t2 2) 1) (by decide:5<=1000000)
 refine ⟨by decide,by decide,?_⟩;refine ⟨K.yk 27 rfl rfl,pV K (by decide) (by decide) ⟨?_,?_⟩⟩
 ·rw [Ac,Ac]; exact Aa (Al (Al (Ak t2 2) 1) 3) (by decide:8<=1000000)
 exact Iu K hk hw hv p2 ev (Nat.succ_le_of_lt hn) b4 b9 S ⟨rfl,rfl,rfl,rfl,rfl,rfl,rfl,rfl,rfl,rfl,congrArg (fun v=>some (AV.int (v-2))) ew,rfl,rfl⟩ rfl rfl rfl ho lo ne hb lb h
end
theorem Us (j:Int):j.fmod 3=((j.fmod 3).toNat:Int)∧(j.fmod 3).toNat<3:=cU j (by decide)
theorem Qy (j:Int):j.fmod 4=((j.fmod 4).toNat:Int)∧(j.fmod 4).toNat<4:=cU j (by decide)
theorem Qx (j:Int):j.fmod 6=((j.fmod 6).toNat:Int)∧(j.fmod 6).toNat<6:=cU j (by decide)
theorem LJ (j:Int):j.fmod 7=((j.fmod 7).toNat:Int)∧(j.fmod 7).toNat<7:=cU j (by decide)
theorem C3 (j:Int):j.fmod 8=((j.fmod 8).toNat:Int)∧(j.fmod 8).toNat<8:=cU j (by decide)
theorem HY (j:Int):j.fmod 10=((j.fmod 10).toNat:Int)∧(j.fmod 10).toNat<10:=cU j (by decide)
noncomputable def Hn (n:Nat)(k r c d o:Int):Rd:=⟨(k.fmod 8).toNat,uu (OE n (r.fmod 10).toNat) (r.fmod 6).toNat (r.fmod 4).toNat (k.fmod 8).toNat,(c.fmod 8).toNat,(o.fmod 7).toNat,(d.fmod 8).toNat,((c+o).fmod 7).toNat,((c+d+o).fmod 8).toNat⟩
theorem M4 {p v w k:Nat}(hp:p<6)(hv:v<6)(hw:w<6):uu p v w k<6:=by
 match k with
 | 0=>exact hp
 | 1=>exact hp
 | 2=>exact hw
 | 3=>exact hv
 | _+4=>exact hw
theorem pX {n:Nat}(hn:n<3)(k r c d o:Int):(Hn (n+1) k r c d o).ok:=
 ⟨(C3 k).2,M4 (Ao (F6 n hn _ (HY r).2).2 (An (Nat.add_lt_add_right hn 2) (by decide))) (Qx r).2 (Nat.lt_trans (Qy r).2 (by decide)),(C3 c).2,(LJ o).2,(C3 d).2,(LJ _).2,(C3 _).2⟩
theorem zG {k u:Nat}(hk:k<8)(hu:u<6):(mW k u).length<=200:=Ad (Ab (Ab (List.all_eq_true.mp Bk _ (jf hk hu))).2).1
theorem Et {a:List Int}{n:Nat}(h:a.length=n+1):dQ (-1) (a.map AV.int).length=some n∧(a.map AV.int)[n]?=some (.int (a.getD n 0)):=by
 refine ⟨?_,?_⟩
 ·rw [Ah,h]; exact kZ
 ·rw [List.getElem?_map,List.getD_eq_getElem?_getD,List.getElem?_eq_getElem (h.symm▸Nat.lt_succ_self n)]; rfl
structure LE (bE:List Int)(n:Nat)(s:SW)(tx:Tx)(oo bo:Nat)(e:Ev):Prop where
 e0:e 0=some (.jr (bE.map .int))
 e1:e 1=some (.int (n:Int))
 e2:e 2=some (.int s.x)
 e3:e 3=some (.int s.y)
 e4:e 4=some (.int s.z)
 e5:e 5=some (.tup (s.a.map .int))
 e6:e 6=some (.str tx)
 e7:e 7=some (.obj oo)
 e8:e 8=some (.obj bo)
 e9:e 9=some (.int s.t)
noncomputable def yr (n:Nat)(r:Rd):Tx:=[122,58,61]++(r.p n++([59,119,114,105,116,101,40,122,41,59]++(mW r.k r.u++[59])))
noncomputable def SW.after (s w:SW):SW:=⟨w.x,w.y,w.z,w.a,s.o++w.o,s.t+w.t⟩
theorem ct {a b:Nat}(h:a<=b)(hb:Nat.ble b 1000000=true):a<=lid:=Aa h (Ad hb)
section
variable {T:aQ}{D:Nat->Option aD}{QQ:QF}{XX:XS}{bE:List Int}{n oo bo m b L:Nat}{s:SW}{tx:Tx}{B:List AV}{e:Ev}{J:ae}
theorem S8 {C:Calls}{p w:Tx}{s:S}{q:Ss}(h6:e 6=some (.str tx))(W4:e 17=some (.str p))(W3:e 18=some (.str w))(lt:tx.length<=1000)(lp:p.length<=25)(lw:w.length<=200)(h:aH T C (.cons s q) (upd e 6 (.str (tx++([122,58,61]++(p++([59,119,114,105,116,101,40,122,41,59]++(w++[59]))))))) J QQ XX) :
  aH T C (.cons (.set 6 (.bin .add (.bin .add (.bin .add (.bin .add (.bin .add (.v 6) (.str [122,58,61])) (.v 17)) (.str [59,119,114,105,116,101,40,122,41,59])) (.v 18)) (.str [59]))) (.cons s q)) e J QQ XX:=by
 have l1:(tx++[122,58,61]).length<=1003:=by rw [Ac]; exact Al lt 3
 have l2:(tx++[122,58,61]++p).length<=1028:=by rw [Ac]; exact Aq l1 lp
 have l3:(tx++[122,58,61]++p++[59,119,114,105,116,101,40,122,41,59]).length<=1038:=by rw [Ac]; exact Al l2 10
 have l4:(tx++[122,58,61]++p++[59,119,114,105,116,101,40,122,41,59]++w).length<=1238:=by rw [Ac]; exact Aq l3 lw
 refine aa h6 ⟨ct (Al lt 3) rfl,aa W4 ⟨ct (Aq l1 lp) rfl,ct (Al l2 10) rfl,aa W3 ⟨ct (Aq l3 lw) rfl,ct (Al l4 1) rfl,?_⟩⟩⟩;rw [← Ae,← Ae,← Ae,← Ae] at h;exact h
theorem u9 {C:Calls}{is:List Nat}{f:Nat}{as:Es}{s:S}{q:Ss}(h:iK T C as e J (fun vs J1=>T.bX f=Option.none∧C f vs J1 (fun v J1=>wa is e v fun e1=>aH T C (.cons s q) e1 J1 QQ XX) (XX e)) (XX e)):aH T C (.cons (.eV is (.call f as)) (.cons s q)) e J QQ XX:=h
theorem KI {C:Calls}{c d o x y z l v:Int}{q:List AV}{k:Nat}(h1:e 1=some (.int v))(h2:e 2=some (.int x))(h3:e 3=some (.int y))(h4:e 4=some (.int z))(h5:e 5=some (.tup q))(h8:e 8=some (.obj bo))(yg:e 14=some (.int c))(G5:e 15=some (.int d))(W5:e 16=some (.int o))(i1:dQ (-1) q.length=some k)(i2:q[k]?=some (.int l)){Q:List AV->ae->Prop}{X:QX}(p:Q [.int c,.int d,.int o,.int x,.int y,.int z,.int l,.int v,.obj bo] J):iK T C (.cons (.v 14) (.cons (.v 15) (.cons (.v 16) (.cons (.v 2) (.cons (.v 3) (.cons (.v 4) (.cons (.idx (.v 5) (.neg (.int 1))) (.cons (.v 1) (.cons (.v 8) .nil))))))))) e J Q X:=
 aa yg (aa G5 (aa W5 (aa h2 (aa h3 (aa h4 (aa h5 (aq i1 (aq i2 (aa h1 (aa h8 p))))))))))
theorem KH {C:Calls}{k r x y z:Int}{q:List AV}(h2:e 2=some (.int x))(h3:e 3=some (.int y))(h4:e 4=some (.int z))(h5:e 5=some (.tup q))(h7:e 7=some (.obj oo))(h8:e 8=some (.obj bo))(yi:e 12=some (.int k))(FF:e 13=some (.int r)){Q:List AV->ae->Prop}{X:QX}(p:Q [.int (k.fmod 8),.int r,.int x,.int y,.int z,.tup q,.obj oo,.obj bo] J):iK T C (.cons (.bin .mod (.v 12) (.int 8)) (.cons (.v 13) (.cons (.v 2) (.cons (.v 3) (.cons (.v 4) (.cons (.v 5) (.cons (.v 7) (.cons (.v 8) .nil)))))))) e J Q X:=
 aa yi ⟨by decide,by decide,aa FF (aa h2 (aa h3 (aa h4 (aa h5 (aa h7 (aa h8 p))))))⟩
theorem rq (K:fW T D){k r c d o:Int}(hn:n<3)(b4:4<=b)(b2:b<=299)(S:SB (n+1) b s.x s.y s.z s.a)(E:LE bE (n+1) s tx oo bo e)(lt:tx.length<=1000)(ho:J[oo]?=some (.list (s.o.map .int)))(lo:s.o.length<=800)(ne:bo≠oo)(hb:J[bo]?=some (.list B))(lb:B.length<900)
  (h:∀ w B' e' J',WB (n+1) (3*b+27) 6 w->Ch 3 (uD (n+1) (Hn (n+1) k r c d o) s.x s.y s.z s.a) w B B'->LE bE (n+1) (s.after w) (tx++yr (n+1) (Hn (n+1) k r c d o)) oo bo e'->J'[oo]?=some (.list ((s.o++w.o).map .int))->J'[bo]?=some (.list B')->QQ .next e' J') :
  aH T (aj T D (m+3)) AH (c0 e [12,13,14,15,16] [.int k,.int r,.int c,.int d,.int o]) J QQ XX:=by
 obtain ⟨i1,i2⟩:=Et S.l;have rk:=pX hn k r c d o;refine u9 (KI (e:=c0 e [12,13,14,15,16] [_,_,_,_,_]) E.e1 E.e2 E.e3 E.e4 E.e5 E.e8 rfl rfl rfl i1 i2 ⟨K.yk 29 rfl rfl,?_⟩);refine BW K hn rfl rk.i rk.j rk.l rk.s rk.t (C3 c).1 (C3 d).1 (C3 _).1 (LJ o).1 (LJ _).1 (Aa (by decide) b4) (Aa b2 (by decide)) S.x S.y S.z (S.A n) hb (Nat.lt_trans lb (by decide)) fun v B1 J1 bv cv G3 kp=>?_;have j7:=kp.get (Ne.symm ne) ho;have l1:B1.length<1000:=Ao cv.le.2 (Nat.lt_trans (Nat.add_lt_add_right lb 2) (by decide));refine aa (e:=c0 (c0 e _ _) [17,4] _) (i:=7) E.e7 (ag j7 (ag j7 ⟨?_,?_⟩))
 ·rw [Ah]; exact Ao lo (by decide:800<1000000)
 refine u9 (KH (e:=c0 (c0 e [12,13,14,15,16] [_,_,_,_,_]) [17,4] [_,_]) E.e2 E.e3 rfl E.e5 E.e7 E.e8 rfl rfl ⟨K.yk 31 rfl rfl,?_⟩);have b3:b<=3*b+3:=Aa (Nat.le_mul_of_pos_left b (by decide)) (Af _ _);have ia:(J1.set oo (.list (s.o.map AV.int++[.int v])))[oo]?=some (.list ((s.o++[v]).map .int)):=by rw [List.map_append]; exact get_set j7
 refine DW (n:=n) (O:=s.o++[v]) (b:=3*b+3) K (C3 k).1 (C3 k).2 (Qy r).2 (Qx r).2 (HY r).2 (Qy r).1 (Qx r).1 (HY r).1 hn rfl (Aa b4 b3) (Al (Nat.mul_le_mul_left 3 b2) 3) ⟨S.x.le b3,S.y.le b3,bv,S.A.le b3,S.l⟩ ia ?_ ne (au.self.get ne G3) l1 fun w B2 J2 wb cw Lw WQ=>?_
 ·rw [Ac]; exact Aa (Au lo) (by decide:801<=900)
 refine S8 (tx:=tx) (p:=o6 (n+1) _ _ _ _ _) (e:=c0 (c0 (c0 e _ _) [17,4] _) [18,2,3,4,5,19] _) E.e6 rfl rfl lt (pZ hn rk.i rk.s rk.j rk.t rk.l) (zG rk.k rk.u) ?_;refine aa (e:=upd (c0 (c0 (c0 e _ _) [17,4] _) [18,2,3,4,5,19] _) 6 _) (i:=9) E.e9 ?_;refine h (SW.put v w) B2 _ _ ⟨wb.x,wb.y,wb.z,wb.a,wb.l,Au wb.o⟩ (cv.bind (f:=fun v=>(di (n+1) _ _ s.x s.y v s.a).map (SW.put v)) cw.map) ⟨E.e0,E.e1,rfl,rfl,rfl,rfl,rfl,E.e7,E.e8,rfl⟩ ?_ WQ;rw [Ae] at Lw; exact Lw
end
theorem mw:∀ l:List Int,iC (l.map .int) (l.map .int)=some true
 | []=>rfl
 | a::l=>by
  show (match some (decide (a=a)),iC (l.map .int) (l.map .int) with
   | some x,some y=>some (x&&y)
   | _,_=>Option.none)=_
  rw [mw l,decide_eq_true (rfl:a=a)]; rfl
theorem ku:∀ l:List Int,AV.depth.jO (l.map .int)=0
 | []=>rfl
 | a::l=>by
  show max 0 (AV.depth.jO (l.map .int))=0;rw [ku l]; rfl
noncomputable abbrev fQ:QF:=qQ fun a _=>a=AV.bool true
section
variable {T:aQ}{D:Nat->Option aD}{m:Nat}{XX:XS}{QQ:QF}
theorem xA {C:Calls}{i:Nat}{b:Ss}{x:AV}{r:List AV}{e1:Ev}{J:ae}(h:∀ G7:QF,(∀ e' J',cS (nc i) (aH T C b) r e' J' QQ XX->G7 .next e' J')->aH T C b (upd e1 i x) J G7 XX):cS (nc i) (aH T C b) (x::r) e1 J QQ XX:=h _ fun _ _ g=>g
theorem oK {C:Calls}{is:List Nat}{vs:List AV}{b:Ss}{r:List AV}{e1:Ev}{J:ae}(hl:Nat.beq vs.length is.length=true)(h:∀ G7:QF,(∀ e' J',cS (wa is) (aH T C b) r e' J' QQ XX->G7 .next e' J')->aH T C b (c0 e1 is vs) J G7 XX):cS (wa is) (aH T C b) (.tup vs::r) e1 J QQ XX:=iR hl (h _ fun _ _ g=>g)
theorem q8 (K:fW T D){C:Calls}:∀ (l:List Int) (e:Ev) (J:ae),(∀ e',QQ .next e' J)->cS (nc 27) (aH T C AI) (l.map .int) e J QQ XX
 | [],e,J,h=>h e
 | a::l,e,J,h=>xA (x:=.int a) fun G7 hq=>aq K.g2 (hq _ _ (q8 K l _ J h))
theorem Kq (K:fW T D)(hm:130<=m){text:Tx}{F:Int}{res:Option (List Int)}{O:List Int}{d:Bool}{oo:Nat}{e:Ev}{J:ae}(hE:kL text F res)(h6:e 6=some (.str text))(h7:e 7=some (.obj oo))(WZ:e 23=some (.int F))(Ur:e 24=some (.bool d))(ho:J[oo]?=some (.list (O.map .int)))(hd:d=res.isNone)(hO:∀ o,res=some o->o=O):aH T (aj T D m) (fx 5 lR) e J fQ XX:=by
 subst hd;refine aa (e:=upd (upd e 25 _) 26 _) (i:=6) h6 (aa (e:=upd (upd e 25 _) 26 _) (i:=23) WZ ⟨K.ck 26 rfl rfl,EO K.toCore hm hE ?_⟩);cases res with
 | none=>exact fun J'=>aa (e:=upd (upd (upd e 25 _) 26 _) 26 _) (i:=24) Ur rfl
 | some o=>
  intro J' x1;have dZ:=x1.get ho;rw [← hO o rfl] at dZ;refine aa (e:=upd (upd (upd e 25 _) 26 _) 25 _) (i:=24) Ur ?_;refine aq K.g8 ?_;refine aa (e:=upd (upd (upd e 25 _) 26 _) 25 _) (i:=7) h7 (ag dZ ?_);refine Gz (mw o) (by show Nat.ble (AV.depth.jO (o.map .int)+1) 100=true; rw [ku]; rfl) ?_;exact q8 K o _ _ fun e'=>rfl
theorem Ip:(da++bg).all (fun q=>!aB q.1 []&&(!aB q.1 q.2&&Nat.ble q.2.length 60))=true:=by decide +kernel
theorem FN {a b:Tx}(h:(!aB a b)=true):a≠b:=fun q=>by
 rw [q,iu] at h; cases h
theorem Io {q:Tx×Tx}(h:q∈da++bg):q.1≠[]∧q.1≠q.2∧q.2.length<=60:=
 have k:=Ab (List.all_eq_true.mp Ip q h);have k2:=Ab k.2
 ⟨FN k.1,FN k2.1,Ad k2.2⟩
theorem Ed {l:List (Tx×Tx)}{b:Nat}(h:b<l.length):(l.map fun q=>AV.tup [.str q.1,.str q.2])[b]?=some (.tup [.str (pairAt l b).1,.str (pairAt l b).2])∧pairAt l b∈l:=by
 unfold pairAt;rw [List.getElem?_map,List.getD_eq_getElem?_getD,List.getElem?_eq_getElem h];exact ⟨rfl,List.getElem_mem h⟩
variable {bE:List Int}
noncomputable def sc (bE:List Int)(i:Nat):Int:=bE.getD i 0
theorem fK {C:Calls}(h:17<=bE.length)(i:Nat)(hi:Nat.blt i 17=true){e:Ev}(h0:e 0=some (.jr (bE.map .int))){J:ae}{Q:QV}{X:QX}(q:Q (.int (sc bE i)) J):bb T C (.idx (.v 0) (.int (i:Int))) e J Q X:=by
 have hl:i<bE.length:=An (Ad hi) h;refine aa h0 (aq (bc (p:=i) (by rw [Ah]; exact hl)) (aq (a:=.int (sc bE i)) ?_ q));unfold sc;rw [List.getElem?_map,List.getD_eq_getElem?_getD,List.getElem?_eq_getElem hl]; rfl
structure TE (bE:List Int)(tx:Tx)(N oo bo:Nat)(br:Bool)(e:Ev):Prop where
 e0:e 0=some (.jr (bE.map .int))
 e6:e 6=some (.str tx)
 e7:e 7=some (.obj oo)
 e8:e 8=some (.obj bo)
 e9:e 9=some (.int (N:Int))
 Pe:e 20=some (.bool br)
theorem EJ {N g:Nat}(h:1<=N):(N:Int)+(g:Int)-1=((N+g-1:Nat):Int):=by
 cases N with
 | zero=>cases h
 | succ M=>
  rw [show ((M+1:Nat):Int)+(g:Int)=((M+g:Nat):Int)+1 from congrArg Int.ofNat (Aw M 1 g),Int.add_sub_cancel,Aw M 1 g]; rfl
theorem EI {C:Calls}{N g:Nat}{e:Ev}{J:ae}{Q:QV}{X:QX}(hn:17<=bE.length)(N1:1<=N)(eg:(sc bE 16).fmod 5=g)(h0:e 0=some (.jr (bE.map .int)))(h9:e 9=some (.int (N:Int)))(q:Q (.int ((N+g-1:Nat):Int)) J):bb T C (.bin .sub (.bin .add (.v 9) (.bin .mod (.idx (.v 0) (.int 16)) (.int 5))) (.int 1)) e J Q X:=by
 rw [← EJ N1,← eg] at q;exact aa h9 (fK hn 16 rfl h0 ⟨by decide,by decide,q⟩)
theorem Bf (K:fW T D)(hm:130<=m)(hn:17<=bE.length){tx:Tx}{q:Tx×Tx}{N g oo bo:Nat}{br:Bool}{O:List Int}{B:List AV}{e:Ev}{J:ae}(E:TE bE tx N oo bo br e)(lt:tx.length<=2000)(hq:q∈da++bg)(W2:e 21=some (.str q.1))(W0:e 22=some (.str q.2))(N1:1<=N)(eg:(sc bE 16).fmod 5=g)(ho:J[oo]?=some (.list (O.map .int)))(hb:J[bo]?=some (.list B))
  (hE:∃ res,kL (bA q.1 q.2 tx) ((N+g-1:Nat):Int) res∧(br||(Nat.blt 0 B.length||Nat.blt (N+g-1) N))=res.isNone∧∀ o,res=some o->o=O):aH T (aj T D m) (fx 2 lR) e J fQ XX:=by
 obtain ⟨c1,c2,c3⟩:=Io hq;obtain ⟨res,h1,h2,h3⟩:=hE;refine aa E.e6 (aa W2 (aa W0 ⟨rfl,c1,c2,?_,?_⟩))
 ·exact ct (Aq lt (Nat.mul_le_mul (Au lt) c3)) rfl
 refine EI (e:=upd e 6 _) hn N1 eg E.e0 E.e9 ?_;have fin:∀ d,d=res.isNone->aH T (aj T D m) (fx 5 lR) (upd (upd (upd e 6 (.str (bA q.1 q.2 tx))) 23 (.int ((N+g-1:Nat):Int))) 24 (.bool d)) J fQ XX:=fun d hd=>Kq K hm h1 rfl E.e7 rfl rfl ho hd h3;refine aa (e:=upd (upd e 6 _) 23 _) (i:=20) E.Pe (aX (fun q=>?_) fun q=>?_)
 ·rw [q] at h2; exact fin _ h2
 rw [q] at h2;have h2:(Nat.blt 0 B.length||Nat.blt (N+g-1) N)=res.isNone:=h2;refine aa (e:=upd (upd e 6 _) 23 _) (i:=8) E.e8 (ag hb (aX (b:=decide ((B.length:Int)>0)) (fun q=>?_) fun q=>?_))
 ·have q:=Ax q;rw [show Nat.blt 0 B.length=true from Nat.ble_eq_true_of_le (Int.ofNat_lt.mp q)] at h2;exact fin _ h2
 ·have q:=of_decide_eq_false q;rw [show Nat.blt 0 B.length=false from Bool.eq_false_iff.mpr fun h=>q (Int.ofNat_lt.mpr (Ad h))] at h2;have h2:Nat.blt (N+g-1) N=res.isNone:=h2;refine aa (e:=upd (upd e 6 _) 23 _) (i:=9) E.e9 (fin (decide ((N:Int)>((N+g-1:Nat):Int))) ?_);rw [← h2];cases k:Nat.blt (N+g-1) N with
  | true=>exact decide_eq_true (Int.ofNat_lt.mpr (Ad k))
  | false=>exact decide_eq_false fun h=>Bool.false_ne_true (k.symm.trans (Nat.ble_eq_true_of_le (Int.ofNat_lt.mp h)))
end
theorem Xc (j:Int):j.fmod 5=((j.fmod 5).toNat:Int)∧(j.fmod 5).toNat<5:=cU j (by decide)
theorem SA (j:Int):j.fmod 12=((j.fmod 12).toNat:Int)∧(j.fmod 12).toNat<12:=cU j (by decide)
theorem Xb (j:Int):j.fmod 100000000000000000000=((j.fmod 100000000000000000000).toNat:Int)∧(j.fmod 100000000000000000000).toNat<10 ^ 20:=cU j (b:=100000000000000000000) (by decide)
theorem Mb:∀ n<3,bW ((n+1:Nat):Int)=[48+(n+1)]∧bW (((n+1:Nat):Int)-1)=[47+(n+1)]∧(((n+1:Nat):Int)-1).natAbs<4:=by decide +kernel
theorem QZ:∀ c<7,bW (xV c)=xT c∧(xV c).natAbs<4∧(xT c).length<=2:=by decide +kernel
noncomputable def hA:Tx:=[112,114,111,103,114,97,109,32,112,59,118,97,114,32,120,44,121,58,105,110,116,101,103,101,114,59,97,58,97,114,114,97,121,91]
noncomputable def wW:Tx:=[119,114,105,116,101,40,120,41,59,119,114,105,116,101,40,121,41,59,102,111,114,32,120,58,61,48,32,116,111,32]
noncomputable def Om:Tx:=[32,100,111,32,119,114,105,116,101,40,97,91,120,93,41,101,110,100,46]
noncomputable def yq (n c m:Nat):Tx:=hA++[48+n]++gN++xT c++[59,121,58,61]++bW (m:Int)++[59]
theorem Ig (n c m:Nat)(r1 r2:Rd):yq n c m++yr n r1++yr n r2++wW++[47+n]++Om=gg n c m r1 r2:=by
 unfold yq;rw [Ae,Ae,Ae,Ae,Ae,Ae,Ae,Ae,Ae,Ae];have q:∀ (r:Rd) (v:Tx),yr n r++v=dj (GR n r) v:=fun r v=>by
  unfold yr;rw [Ae,Ae,Ae,Ae];show _=([122,58,61]++r.p n)++59::([119,114,105,116,101,40,122,41]++59::(mW r.k r.u++59::v));rw [Ae]; rfl
 rw [q r1,q r2];unfold gg hh bT;rw [Ae,Ae];rfl
section
variable {T:aQ}{D:Nat->Option aD}{m:Nat}{XX:XS}{QQ:QF}{bE:List Int}{C:Calls}{e:Ev}{J:ae}{Q:QV}{X:QX}
theorem vC {l:List (Tx×Tx)}{i:Int}{b:Nat}{g:Nat}{ix:E}(hg:T.glob g=some (.tup (l.map fun q=>.tup [.str q.1,.str q.2])))(hb:b<l.length)(hi:∀ {Q:QV},Q (.int b) J->bb T C ix e J Q X)(q:pairAt l b∈l->Q (.tup [.str (pairAt l b).1,.str (pairAt l b).2]) J):bb T C (.idx (.g g) ix) e J Q X:=by
 obtain ⟨p1,p2⟩:=Ed hb;exact aq hg (hi (aq (bc (by rw [Ah]; exact hb)) (aq p1 (q p2))))
theorem MT (K:fW T D)(hm:130<=m)(hn:17<=bE.length){tx:Tx}{N oo bo:Nat}{br:Bool}{O:List Int}{B:List AV}{r:Option (List Int×Nat)}(E:TE bE tx N oo bo br e)(lt:tx.length<=2000)(N1:1<=N)(ho:J[oo]?=some (.list (O.map .int)))(hb:J[bo]?=some (.list B))(ch:Ch 6 r (O,N) [] B)
  (hL:∀ b<12,∀ f:Nat,kL (bA (pairAt da b).1 (pairAt da b).2 tx) f (wQ r f)) (hB:∀ b<36,∀ f:Int,kL (bA (pairAt bg b).1 (pairAt bg b).2 tx) f Option.none):aH T (aj T D m) lR e J fQ XX:=by
 obtain ⟨e5,_⟩:=Xc (sc bE 16);obtain ⟨b1,b2⟩:=SA (sc bE 15);refine vC (i:=0) K.g6 b2 (fun q=>by rw [← b1] at q; exact fK hn 15 rfl E.e0 ⟨by decide,by decide,q⟩) fun p2=>?_;refine aa (e:=c0 e [21,22] _) (i:=20) E.Pe (aX (fun q=>?_) fun q=>?_)
 ·obtain ⟨a1,a2⟩:=Us (sc bE 14);have TM:((sc bE 14).fmod 3).toNat*12+((sc bE 15).fmod 12).toNat<36:=An (Nat.add_lt_add_left b2 _) (Aa (Al (Nat.mul_le_mul_right 12 (Nat.le_of_lt_succ a2)) 12) (by decide));refine vC (i:=0) (b:=((sc bE 14).fmod 3).toNat*12+((sc bE 15).fmod 12).toNat) K.g7 TM (fun q=>?_) fun p3=>?_
  ·refine fK (e:=c0 e [21,22] [_,_]) hn 14 rfl E.e0 ⟨by decide,by decide,⟨An (by rw [a1]; exact a2) (by decide:3<=2 ^ 1000),by decide,fK (e:=c0 e [21,22] [_,_]) hn 15 rfl E.e0 ⟨by decide,by decide,?_⟩⟩⟩;rw [a1,b1]; exact q
  ·refine Bf (e:=c0 (c0 e [21,22] _) [21,22] _) K hm hn ⟨E.e0,E.e6,E.e7,E.e8,E.e9,E.Pe⟩ lt (List.mem_append_right _ p3) rfl rfl N1 e5 ho hb ⟨Option.none,hB _ TM _,?_,fun o h=>by cases h⟩;rw [q]; rfl
 ·refine Bf (e:=c0 e [21,22] _) K hm hn ⟨E.e0,E.e6,E.e7,E.e8,E.e9,E.Pe⟩ lt (List.mem_append_left _ p2) rfl rfl N1 e5 ho hb ⟨_,hL _ b2 _,?_,?_⟩
  ·rw [q];rcases ch with ⟨c1,c2⟩ | ⟨c1,c2,_⟩
   ·subst c2;rw [c1];show Nat.blt _ N=(match Nat.ble N _ with | true=>some O | false=>Option.none).isNone
    rcases Nat.lt_or_ge (N+((sc bE 16).fmod 5).toNat-1) N with k | k
    ·rw [show Nat.blt _ N=true from Nat.ble_eq_true_of_le k,show Nat.ble N _=false from Bool.eq_false_iff.mpr fun q=>Nat.not_le_of_lt k (Ad q)]; rfl
    ·rw [show Nat.blt _ N=false from Bool.eq_false_iff.mpr fun q=>Nat.not_le_of_lt (Ad q) k,show Nat.ble N _=true from Nat.ble_eq_true_of_le k]; rfl
   ·rw [c1,show Nat.blt 0 B.length=true from Nat.ble_eq_true_of_le c2]; rfl
  ·intro o h;rcases ch with ⟨c1,c2⟩ | ⟨c1,c2,_⟩
   ·rw [c1] at h;unfold wQ cut at h;revert h;show (match Nat.ble N _ with | true=>some O | false=>Option.none)=some o->_
    cases Nat.ble N _ with
    | true=>exact fun h=>(Ag h).symm
    | false=>exact fun h=>by cases h
   ·rw [c1] at h; cases h
end
section
variable {T:aQ}{D:Nat->Option aD}{m:Nat}{XX:XS}{QQ:QF}{bE:List Int}{C:Calls}{e:Ev}{J:ae}{Q:QV}{X:QX}
theorem RK {n:Nat}(hn:17<=bE.length)(h0:e 0=some (.jr (bE.map .int)))(eg:(sc bE 0).fmod 3=n)(q:Q (.int ((n+1:Nat):Int)) J):bb T C (.bin .add (.int 1) (.bin .mod (.idx (.v 0) (.int 0)) (.int 3))) e J Q X:=by
 refine fK hn 0 rfl h0 ⟨by decide,by decide,?_⟩;show Q (.int (1+(sc bE 0).fmod 3)) J;rw [eg,Int.add_comm]; exact q
theorem Q0 {c:Nat}(hn:17<=bE.length)(h0:e 0=some (.jr (bE.map .int)))(eg:(sc bE 1).fmod 7=c)(q:Q (.int (xV c)) J):bb T C (.bin .sub (.bin .mod (.idx (.v 0) (.int 1)) (.int 7)) (.int 3)) e J Q X:=by
 refine fK hn 1 rfl h0 ⟨by decide,by decide,?_⟩;show Q (.int ((sc bE 1).fmod 7-3)) J;rw [eg]; exact q
theorem QY {y:Nat}(hn:17<=bE.length)(h0:e 0=some (.jr (bE.map .int)))(eg:(sc bE 2).fmod 100000000000000000000=y)(q:Q (.int (y:Int)) J):bb T C (.bin .mod (.idx (.v 0) (.int 2)) (.int 100000000000000000000)) e J Q X:=by
 refine fK hn 2 rfl h0 ⟨by decide,by decide,?_⟩;rw [← eg] at q; exact q
theorem S9 {n:Nat}(hn:n<3)(h1:e 1=some (.int ((n+1:Nat):Int)))(q:Q (.tup ((List.replicate (n+1) 0).map .int)) J):bb T C (.bin .mul (.tuple (.cons (.int 0) .nil)) (.v 1)) e J Q X:=by
 refine aa h1 ⟨_,rfl,Ll (P:=fun n=>((n+1:Nat):Int)=1∨((n+1:Nat):Int)=2∨((n+1:Nat):Int)=3) (.inl rfl) (.inr (.inl rfl)) (.inr (.inr rfl)) hn,?_⟩;rw [List.map_replicate] at q; exact q
theorem RA (K:fW T D){n c y:Nat}(hn:n<3)(hc:c<7)(hy:y<10 ^ 20)(h1:e 1=some (.int ((n+1:Nat):Int)))(h2:e 2=some (.int (xV c)))(h3:e 3=some (.int (y:Int)))(q:(yq (n+1) c y).length<=300->Q (.str (yq (n+1) c y)) J):bb T C (.bin .add (.bin .add (.bin .add (.bin .add (.bin .add (.bin .add (.str hA) (.bi .str (.cons (.v 1) .nil))) (.g 5)) (.bi .str (.cons (.v 2) .nil))) (.str [59,121,58,61])) (.bi .str (.cons (.v 3) .nil))) (.str [59])) e J Q X:=by
 obtain ⟨n1,n2,n3⟩:=Mb n hn;obtain ⟨x1,x2,x3⟩:=QZ c hc;have y1:=qi hy;have l1:(hA++[48+(n+1)]).length<=35:=by rw [Ac]; exact Ad rfl
 have l2:(hA++[48+(n+1)]++gN).length<=250:=by rw [Ac]; exact Aa (Al l1 _) (Ad rfl)
 have l3:(hA++[48+(n+1)]++gN++xT c).length<=252:=by rw [Ac]; exact Aq l2 x3
 have l4:(hA++[48+(n+1)]++gN++xT c++[59,121,58,61]).length<=256:=by rw [Ac]; exact Al l3 4
 have l5:(hA++[48+(n+1)]++gN++xT c++[59,121,58,61]++bW (y:Int)).length<=276:=by rw [Ac]; exact Aq l4 y1
 have l6:(yq (n+1) c y).length<=300:=by unfold yq; rw [Ac]; exact Aa (Al l5 1) (by decide)
 refine aa h1 ⟨Ao (Nat.succ_le_of_lt hn) (by decide:3<2 ^ 100),?_⟩;rw [n1];refine ⟨ct (Aj (34+1)) rfl,aq K.g5 ⟨ct (Al l1 gN.length) rfl,aa h2 ⟨Nat.lt_trans x2 (by decide),?_⟩⟩⟩;rw [x1];exact ⟨ct (Aq l2 x3) rfl,ct (Al l3 4) rfl,aa h3 ⟨Nat.lt_trans hy (by decide),ct (Aq l4 y1) rfl,ct (Al l5 1) rfl,q l6⟩⟩
theorem SO {n:Nat}{tx:Tx}(hn:n<3)(h1:e 1=some (.int ((n+1:Nat):Int)))(h6:e 6=some (.str tx))(lt:tx.length<=1000)(q:(tx++wW++[47+(n+1)]++Om).length<=2000->Q (.str (tx++wW++[47+(n+1)]++Om)) J):bb T C (.bin .add (.bin .add (.bin .add (.v 6) (.str wW)) (.bi .str (.cons (.bin .sub (.v 1) (.int 1)) .nil))) (.str Om)) e J Q X:=by
 obtain ⟨n1,n2,n3⟩:=Mb n hn;have l1:(tx++wW).length<=1030:=by rw [Ac]; exact Al lt 30
 have l2:(tx++wW++[47+(n+1)]).length<=1031:=by rw [Ac]; exact Al l1 1
 refine aa h6 ⟨ct (Al lt 30) rfl,aa h1 ⟨Nat.lt_trans n3 (by decide),?_⟩⟩;rw [n2];exact ⟨ct (Al l1 1) rfl,ct (Al l2 19) rfl,q (by rw [Ac]; exact Aa (Al l2 19) (by decide))⟩
theorem pW {n:Nat}(hn:n<3){r:Rd}(h:r.ok):(yr (n+1) r).length<=239:=by
 unfold yr;rw [Ac,Ac,Ac,Ac];exact Ak (Aq (pZ hn h.i h.s h.j h.t h.l) (Ak (Al (zG h.k h.u) 1) 10)) 3
theorem F4 (hn:17<=bE.length)(h0:e 0=some (.jr (bE.map .int))){i j k l o:Nat}(hi:Nat.blt i 17=true)(hj:Nat.blt j 17=true)(hk:Nat.blt k 17=true)(hl:Nat.blt l 17=true)(ho:Nat.blt o 17=true)(q:Q (.tup [.int (sc bE i),.int (sc bE j),.int (sc bE k),.int (sc bE l),.int (sc bE o)]) J):bb T C (.tuple (.cons (.idx (.v 0) (.int (i:Int))) (.cons (.idx (.v 0) (.int (j:Int))) (.cons (.idx (.v 0) (.int (k:Int))) (.cons (.idx (.v 0) (.int (l:Int))) (.cons (.idx (.v 0) (.int (o:Int))) .nil)))))) e J Q X:=
 fK hn i hi h0 (fK hn j hj h0 (fK hn k hk h0 (fK hn l hl h0 (fK hn o ho h0 q))))
theorem Kb {is:List Nat}{src:E}{b:Ss}{s:S}{r:Ss}(h:bb T C src e J (fun v J1=>dn (itemsOf v) fun l=>cS (wa is) (aH T C b) l e J1 (fun f e1 J1=>match f with
   | .next=>aH T C (.cons s r) e1 J1 QQ XX
   | f=>QQ f e1 J1) XX) (XX e)):aH T C (.cons (.pd is src b) (.cons s r)) e J QQ XX:=h
theorem vT {ex:E}{s:S}{q:Ss}(h:bb T C ex e J (fun _ J1=>aH T C (.cons s q) e J1 QQ XX) (XX e)):aH T C (.cons (.expr ex) (.cons s q)) e J QQ XX:=h
theorem SN (K:fW T D)(hm:130<=m)(hn:17<=bE.length){n c y oo bo:Nat}{r1 r2:Rd}{s:SW}{B:List AV}(n3:n<3)(hc:c<7)(hy:y<10 ^ 20)(h1:r1.ok)(h2:r2.ok)(E:LE bE (n+1) s (yq (n+1) c y++yr (n+1) r1++yr (n+1) r2) oo bo e)(lt:(yq (n+1) c y).length<=300)(la:s.a.length=n+1)(lo:s.o.length<=100)(ho:J[oo]?=some (.list (s.o.map .int)))(ne:bo≠oo)(hb:J[bo]?=some (.list B))(t1:1<=s.t)
  (ch:Ch 6 (s8 (n+1) r1 r2 (xV c) (y:Int)) (s.o++([s.x,s.y]++s.a),s.t) [] B):aH T (aj T D m) (fx 1 tS) e J fQ XX:=by
 have l1:(yq (n+1) c y++yr (n+1) r1++yr (n+1) r2).length<=1000:=by
  rw [Ac,Ac];exact Aa (Aq (Aq lt (pW n3 h1)) (pW n3 h2)) (by decide)
 have gq:=(Ai ho).1;refine vT (aa E.e7 (ag ho (aa E.e2 (aa E.e3 (ag (ar ho) (ag ay ⟨Nat.ne_of_lt gq,?_,?_⟩))))))
 ·rw [Ah]; exact ct (Al lo 2) rfl
 have ia:=get_set (m:=.list (s.o.map AV.int++[AV.int s.x,AV.int s.y])) (ar (m:=.list [AV.int s.x,AV.int s.y]) ho);refine vT (aa E.e7 (ag ia (aa E.e5 (ag ia ⟨?_,?_⟩))))
 ·rw [Ac,Ah,Ah,la]; exact ct (Aq (Al lo 2) (Nat.succ_le_of_lt n3)) rfl
 refine ec (SO n3 E.e1 E.e6 l1 fun l2=>?_);rw [Ig] at l2 ⊢;refine ec (fK (e:=upd e 6 _) hn 13 rfl E.e0 ⟨by decide,by decide,?_⟩);refine MT (e:=upd (upd e 6 _) 20 _) (O:=s.o++([s.x,s.y]++s.a)) (N:=s.t) K hm hn ⟨E.e0,rfl,E.e7,E.e8,E.e9,rfl⟩ l2 t1 ?_ (au.self.get ne (au.self.get ne (ar hb))) ch (fun b hb f=>EY hb n3 hc hy h1 h2 f) fun b hb f=>Cd hb n3 hc hy h1 h2;rw [List.map_append,List.map_append,← Ae];exact get_set ia
end
section
variable {T:aQ}{D:Nat->Option aD}{m:Nat}{XX:XS}{bE:List Int}{e:Ev}{J:ae}
theorem IK {n:Nat}{r1 r2:Rd}{x y:Int}{w w2:SW}{B1 B2:List AV}(c1:Ch 3 (uD n r1 x y 0 (List.replicate n 0)) w [] B1)(c2:Ch 3 (uD n r2 w.x w.y w.z w.a) w2 B1 B2):Ch 6 (s8 n r1 r2 x y) (w.o++(w2.o++([w2.x,w2.y]++w2.a)),n+1+w2.t+w.t) [] B2:=
 c1.bind (f:=fun s=>(uD n r2 s.x s.y s.z s.a).bind fun w=>some (s.o++(w.o++([w.x,w.y]++w.a)),n+1+w.t+s.t)) (c2.bind (f:=fun w2=>some (w.o++(w2.o++([w2.x,w2.y]++w2.a)),n+1+w2.t+w.t)) (Ch.ok (c:=0) rfl))
theorem Em (K:fW T D)(hm:130<=m)(hn:17<=bE.length){n c y oo bo:Nat}(n3:n<3)(hc:c<7)(hy:y<10 ^ 20)(E:LE bE (n+1) ⟨xV c,y,0,List.replicate (n+1) 0,[],n+1+1⟩ (yq (n+1) c y) oo bo e)(lt:(yq (n+1) c y).length<=300)(ho:J[oo]?=some (.list []))(ne:bo≠oo)(hb:J[bo]?=some (.list []))
  (ib:e 10=some (.tup [.int (sc bE 3),.int (sc bE 4),.int (sc bE 5),.int (sc bE 6),.int (sc bE 7)])) (C1:e 11=some (.tup [.int (sc bE 8),.int (sc bE 9),.int (sc bE 10),.int (sc bE 11),.int (sc bE 12)])):aH T (aj T D (m+3)) tS e J fQ XX:=by
 refine Kb (aa ib (aa C1 ?_));have k1:=pX n3 (sc bE 3) (sc bE 4) (sc bE 5) (sc bE 6) (sc bE 7);have k2:=pX n3 (sc bE 8) (sc bE 9) (sc bE 10) (sc bE 11) (sc bE 12);have U6:bd 67 (y:Int):=Nat.lt_trans hy (by decide);refine oK rfl fun G7 hq=>rq (b:=67) K n3 (by decide) (by decide) ⟨FI c hc,U6,QJ _,QK _ _,List.length_replicate ..⟩ E (Aa lt (by decide)) ho (Nat.zero_le _) ne hb (by decide) fun w B1 e1 J1 wb c1 E1 j7 G3=>hq _ _ ?_;refine oK rfl fun X3 Wc=>rq (s:=SW.after ⟨xV c,y,0,List.replicate (n+1) 0,[],n+1+1⟩ w) (b:=228) K n3 (by decide) (by decide) ⟨wb.x,wb.y,wb.z,wb.a,wb.l⟩ E1 ?_ j7 (Aa wb.o (by decide)) ne G3 (Ao c1.le.2 (by decide)) fun w2 B2 e2 J2 Td c2 E2 ia LF=>Wc _ _ ?_
 ·rw [Ac]; exact Aa (Aq lt (pW n3 k1)) (by decide)
 refine SN K (Aa hm (Af _ _)) hn n3 hc hy k1 k2 E2 lt Td.l ?_ ia ne LF ?_ ?_
 ·show (([]++w.o)++w2.o).length<=100;rw [List.nil_append,Ac]; exact Aa (Aq wb.o Td.o) (by decide)
 ·exact Aa (Au (Nat.zero_le _)) (Aa (Af (n+1+1) w.t) (Af _ w2.t))
 ·have q:=IK c1 c2;rw [Aw (n+1+1),← Ae] at q;exact q
theorem JX {C:Calls}{QQ:QF}{c:E}{A:Ss}{s:S}{q:Ss}(h:bb T C c e J (fun vc J1=>qE vc (aH T C A e J1 (fun f e1 J1=>match f with
   | .next=>aH T C (.cons s q) e1 J1 QQ XX
   | f=>QQ f e1 J1) XX) (aH T C (.cons s q) e J1 QQ XX)) (XX e)):aH T C (.cons (.ifs c A .nil) (.cons s q)) e J QQ XX:=h
theorem Nj {C:Calls}{QQ:QF}{i:Nat}{k:Int}{s:S}{q:Ss}(h:aH T C (.cons s q) (upd e i (.int k)) J QQ XX):aH T C (.cons (.set i (.int k)) (.cons s q)) e J QQ XX:=h
theorem FV {C:Calls}{QQ:QF}{i:Nat}{s:S}{q:Ss}(h:aH T C (.cons s q) (upd e i (.obj J.length)) (J++[.list []]) QQ XX):aH T C (.cons (.set i (.list .nil)) (.cons s q)) e J QQ XX:=h
theorem Nk {C:Calls}{QQ:QF}{i j:Nat}{k:Int}{s:S}{q:Ss}(hj:e j=some (.int k))(h:aH T C (.cons s q) (upd e i (.int (k+1))) J QQ XX):aH T C (.cons (.set i (.bin .add (.v j) (.int 1))) (.cons s q)) e J QQ XX:=aa hj h
theorem I3 (K:fW T D)(hm:130<=m){X:QX}:aj T D (m+3+1) 32 [.jr (bE.map .int)] [] (fun a _=>a=.bool true) X:=by
 refine ⟨Hv,K.UD,rfl,?_⟩;refine JX (aX (b:=decide (((bE.map AV.int).length:Int)<17)) (fun _=>rfl) fun hl=>?_);have hn:17<=bE.length:=Nat.le_of_not_lt fun q=>of_decide_eq_false hl (Int.ofNat_lt.mpr (by rw [Ah]; exact q));obtain ⟨n1,n3⟩:=Us (sc bE 0);obtain ⟨c1,c7⟩:=LJ (sc bE 1);obtain ⟨y1,hy⟩:=Xb (sc bE 2);refine ec (RK hn rfl n1 ?_);refine ec (Q0 hn rfl c1 ?_);refine ec (QY hn rfl y1 ?_);refine Nj ?_;refine ec (S9 n3 rfl ?_);refine ec (RA K n3 c7 hy rfl rfl rfl fun lt=>?_);refine FV ?_;refine FV ?_;refine Nk (k:=((_+1:Nat):Int)) rfl ?_;refine ec (F4 (i:=3) (j:=4) (k:=5) (l:=6) (o:=7) hn rfl rfl rfl rfl rfl rfl ?_);refine ec (F4 (i:=8) (j:=9) (k:=10) (l:=11) (o:=12) hn rfl rfl rfl rfl rfl rfl ?_);exact Em K hm hn n3 c7 hy ⟨rfl,rfl,rfl,rfl,rfl,rfl,rfl,rfl,rfl,rfl⟩ lt rfl (by decide) rfl rfl rfl
end
end Mine.Internal.P
namespace Mine.Internal
open PySem PySem.Calls PyProof.Rows
structure aM where
 l:List (Addr×Option Addr)
 tk:Nat->Option Tx
noncomputable def aM.push (Y:aM)(p:Addr×Option Addr):aM:=⟨Y.l++[p],Y.tk⟩
noncomputable def aM.tok (Y:aM)(t:Nat)(x:Tx):aM:=⟨Y.l,fun u=>if u=t then some x else Y.tk u⟩
structure aM.Le (Y Y':aM):Prop where
 l:Y.l <+: Y'.l
 tk:∀ t x,Y.tk t=some x->Y'.tk t=some x
theorem aM.Le.refl (Y:aM):Y.Le Y:=⟨List.prefix_refl _,fun _ _ h=>h⟩
theorem aM.Le.trans {Y Y' LR:aM}(a:Y.Le Y')(b:Y'.Le LR):Y.Le LR:=⟨a.l.trans b.l,fun t x h=>b.tk t x (a.tk t x h)⟩
theorem aM.Le.push (Y:aM)(p:Addr×Option Addr):Y.Le (Y.push p):=⟨⟨_,rfl⟩,fun _ _ h=>h⟩
theorem af {α:Type}{o:Option α}{a:α}{P:Prop}(h:o=none)(h':o=some a):P:=by rw [h] at h'; cases h'
theorem aM.Le.tok {Y:aM}{t:Nat}(x:Tx)(h:Y.tk t=none):Y.Le (Y.tok t x):=⟨List.prefix_refl _,fun u y e=>by
 show (if u=t then some x else Y.tk u)=some y
 by_cases q:u=t
 ·subst q; exact af h e
 ·rw [if_neg q]; exact e⟩
theorem aM.zL (Y:aM)(t:Nat)(x:Tx):(Y.tok t x).tk t=some x:=if_pos rfl
noncomputable abbrev ng (p:Addr×Option Addr):List Addr:=p.1::p.2.toList
noncomputable def bP (Y:aM):List Addr:=Y.l.flatMap ng
noncomputable def aE (l:Tx):Str:=⟨l.toArray⟩
def DB (h:Heap) (a:Addr) (items:Array Value):Prop:=∃ n,h.get? a=some ({ cls:=.type "tuple",dict:=none,data:=.seq items n,slots:=#[] }:Obj)
def wX (h:Heap) (a:Addr) (items:Array Value):Prop:=∃ n,h.get? a=some ({ cls:=.type "list",dict:=none,data:=.seq items n,slots:=#[] }:Obj)
theorem DB.tup {h:Heap}{a:Addr}{items:Array Value}(x:DB h a items):IsTup h a items:=let ⟨n,e⟩:=x; ⟨_,e,rfl,n,rfl⟩
def Ol (h:Heap)(r:Addr)(a b c:Int):Prop:=∃ t u v,IsRange h r a b c t u v
section
variable (base h:Heap)(Y:aM)
mutual
noncomputable def RV:AV->Value->Prop
 | .none,v=>v=.none
 | .bool b,v=>v=.bool b
 | .int i,v=>∃ t,v=.int i t
 | .str s,v=>∃ t,v=.str (aE s) t∧s.length<=lid∧t≠0∧Y.tk t=some s
 | .tup vs,v=>∃ a items,v=.ref a∧DB h a items∧bl vs items.toList∧vs.length<=lid
 | .obj r,v=>∃ p,v=.ref p.1∧Y.l[r]?=some p
 | .j6 a b c,v=>∃ r,v=.ref r∧Ol h r a b c∧a.natAbs<=lid∧b.natAbs<=lid∧(c=1∨c=-1)
 | .jr vs,v=>∃ a items,v=.ref a∧wX base a items∧bl vs items.toList∧vs.length<=lid
 | .cp c,v=>v=c
noncomputable def bl:List AV->List Value->Prop
 | [],l=>l=[]
 | x::xs,l=>∃ v vs,l=v::vs∧RV x v∧bl xs vs
end
end
def ju (o:Obj):Prop:=(o.cls=.type "tuple"∧∃ items n,o.data=.seq items n)∨(o.cls=.type "range"∧∃ vs,o.data=.fields vs)
def nD (h h':Heap):Prop:=∀ b o,h.get? b=some o->ju o->h'.get? b=some o
section
variable {base h h':Heap}{Y Y':aM}
theorem aM.Le.at_ (hp:Y.Le Y'){r:Nat}{p:Addr×Option Addr}(e:Y.l[r]?=some p):Y'.l[r]?=some p:=by
 obtain ⟨t,ht⟩:=hp.l;rw [← ht,List.getElem?_append_left (Ai e).1]; exact e
theorem RV.mono (hi:nD h h')(hp:Y.Le Y'):∀ x v,RV base h Y x v->RV base h' Y' x v:=by
 intro x
 induction x using AV.rec (motive_2:=fun xs=>∀ vs,bl base h Y xs vs->bl base h' Y' xs vs) with
 | none=>exact fun v h=>h
 | bool b=>exact fun v h=>h
 | int i=>exact fun v h=>h
 | str s=>exact fun v q=>q.imp fun t q=>⟨q.1,q.2.1,q.2.2.1,hp.tk t s q.2.2.2⟩
 | tup vs ih=>exact fun v q=>q.imp fun a q=>q.imp fun items q=>⟨q.1,q.2.1.imp fun n ht=>hi a _ ht (.inl ⟨rfl,items,n,rfl⟩),ih _ q.2.2.1,q.2.2.2⟩
 | obj r=>exact fun v q=>q.imp fun p q=>⟨q.1,hp.at_ q.2⟩
 | j6 a b c=>exact fun v q=>q.imp fun r q=>⟨q.1,q.2.1.imp fun t q=>q.imp fun u q=>q.imp fun w hr=>hi _ _ hr (.inr ⟨rfl,_,rfl⟩),q.2.2⟩
 | jr vs ih=>exact fun v q=>q.imp fun a q=>q.imp fun items q=>⟨q.1,q.2.1,ih _ q.2.2.1,q.2.2.2⟩
 | cp c=>exact fun v h=>h
 | nil=>rename_i vs q; exact q
 | cons x xs CU CV=>rename_i vs q; exact q.imp fun v q=>q.imp fun vs q=>⟨q.1,CU v q.2.1,CV vs q.2.2⟩
theorem bl.el {P:List Value->Prop}{x:AV}{xs:List AV}{l:List Value}(q:bl base h Y (x::xs) l)(k:∀ v vs,RV base h Y x v->bl base h Y xs vs->P (v::vs)):P l:=by
 obtain ⟨v,vs,rfl,a,b⟩:=q;exact k v vs a b
theorem bl.nl {P:List Value->Prop}{l:List Value}(q:bl base h Y [] l)(k:P []):P l:=by cases (show l=[] from q); exact k
theorem bl.mono (hi:nD h h')(hp:Y.Le Y'){xs vs}(q:bl base h Y xs vs):bl base h' Y' xs vs:=by
 induction xs generalizing vs with
 | nil=>exact q
 | cons x xs ih=>exact q.el (P:=bl base h' Y' (x::xs)) fun v vs a b=>⟨v,vs,rfl,RV.mono hi hp _ _ a,ih b⟩
theorem bl.length {xs:List AV}{vs:List Value}(q:bl base h Y xs vs):xs.length=vs.length:=by
 induction xs generalizing vs with
 | nil=>exact q.nl (P:=fun l=>0=l.length) rfl
 | cons x xs ih=>exact q.el (P:=fun l=>xs.length+1=l.length) fun v vs a b=>congrArg Nat.succ (ih b)
theorem bl.size {xs:List AV}{items:Array Value}(r:bl base h Y xs items.toList):xs.length=items.size:=r.length.trans Array.length_toList
theorem bl.get {xs:List AV}{vs:List Value}{k:Nat}{x:AV}(q:bl base h Y xs vs)(e:xs[k]?=some x):∃ v,vs[k]?=some v∧RV base h Y x v:=by
 induction xs generalizing vs k with
 | nil=>exact af rfl e
 | cons y xs ih=>
  refine q.el (P:=fun l=>∃ v,l[k]?=some v∧RV base h Y x v) fun v vs a b=>?_;cases k with
  | zero=>exact ⟨v,rfl,Ag e▸a⟩
  | succ k=>exact ih (k:=k) b e
theorem bl.append {xs ys:List AV}{vs ws:List Value}(q:bl base h Y xs vs)(y:bl base h Y ys ws):bl base h Y (xs++ys) (vs++ws):=by
 induction xs generalizing vs with
 | nil=>exact q.nl (P:=fun l=>bl base h Y ys (l++ws)) y
 | cons x xs ih=>exact q.el (P:=fun l=>bl base h Y (x::(xs++ys)) (l++ws)) fun v vs a b=>⟨v,vs++ws,rfl,a,ih b⟩
theorem bl.take {xs:List AV}{vs:List Value}(k:Nat)(q:bl base h Y xs vs):bl base h Y (xs.take k) (vs.take k):=by
 induction xs generalizing vs k with
 | nil=>exact q.nl (P:=fun l=>bl base h Y ([].take k) (l.take k)) (by rw [List.take_nil]; exact List.take_nil)
 | cons x xs ih=>
  cases k with
  | zero=>exact (rfl:vs.take 0=[])
  | succ k=>exact q.el (P:=fun l=>bl base h Y (x::xs.take k) (l.take (k+1))) fun v vs a b=>⟨v,vs.take k,rfl,a,ih k b⟩
theorem bl.drop {xs:List AV}{vs:List Value}(k:Nat)(q:bl base h Y xs vs):bl base h Y (xs.drop k) (vs.drop k):=by
 induction xs generalizing vs k with
 | nil=>exact q.nl (P:=fun l=>bl base h Y ([].drop k) (l.drop k)) (by rw [List.drop_nil]; exact List.drop_nil)
 | cons x xs ih=>
  cases k with
  | zero=>exact q
  | succ k=>exact q.el (P:=fun l=>bl base h Y (xs.drop k) (l.drop (k+1))) fun v vs a b=>ih k b
theorem bl.set {xs:List AV}{vs:List Value}(k:Nat){x:AV}{v:Value}(q:bl base h Y xs vs)(y:RV base h Y x v):bl base h Y (xs.set k x) (vs.set k v):=by
 induction xs generalizing vs k with
 | nil=>exact q.nl (P:=fun l=>bl base h Y [] (l.set k v)) (rfl:_=[])
 | cons z xs ih=>
  refine q.el (P:=fun l=>bl base h Y ((z::xs).set k x) (l.set k v)) fun w vs a b=>?_;cases k with
  | zero=>exact ⟨v,vs,rfl,y,b⟩
  | succ k=>exact ⟨w,vs.set k v,rfl,a,ih k b⟩
theorem bl.rev {xs:List AV}{vs:List Value}(q:bl base h Y xs vs):bl base h Y xs.reverse vs.reverse:=by
 induction xs generalizing vs with
 | nil=>exact q.nl (P:=fun l=>bl base h Y [] l.reverse) (rfl:_=[])
 | cons x xs ih=>
  refine q.el (P:=fun l=>bl base h Y (x::xs).reverse l.reverse) fun v vs a b=>?_;rw [List.reverse_cons,List.reverse_cons];exact (ih b).append ⟨v,[],rfl,a,rfl⟩
theorem bl.one {x:AV}{v:Value}(r:RV base h Y x v):bl base h Y [x] [v]:=⟨v,[],rfl,r,rfl⟩
end
noncomputable def atName:At->Str
 | .ts=>"ts"
 | .pos=>"pos"
 | .code=>"code"
noncomputable def nt (base h:Heap)(Y:aM):List (Tx×AV)->List (Str×Value)->Prop
 | [],l=>l=[]
 | (x,a)::es,l=>∃ v r,l=(aE x,v)::r∧RV base h Y a v∧nt base h Y es r
theorem ig {a b:Tx}(h:aE a=aE b):a=b:=(List.toArray_inj (by injection h))
theorem a6 {a b:Tx}:aB a b=true↔a=b:=by
 induction a generalizing b with
 | nil=>cases b<;>exact ⟨fun h=>(by cases h<;>rfl),fun h=>(by cases h<;>rfl)⟩
 | cons a l ih=>
  cases b with
  | nil=>exact ⟨fun h=>(by cases h),fun h=>(by cases h)⟩
  | cons b r=>
   show (Nat.beq a b&&aB l r)=true↔_;rw [Bool.and_eq_true_iff,ih,Nat.beq_eq,List.cons_eq_cons]
theorem xq (x y:Tx)(a:AV)(es:List (Tx×AV)):((y,a)::es).lookup x=if x=y then some a else es.lookup x:=by
 rw [List.lookup_cons];by_cases q:x=y
 ·rw [if_pos q,q,beq_self_eq_true]
 ·rw [if_neg q,beq_eq_false_iff_ne.mpr q]
section
variable {base h h':Heap}{Y Y':aM}
theorem nt.el {P:List (Str×Value)->Prop}{p:Tx×AV}{es:List (Tx×AV)}{l:List (Str×Value)}(q:nt base h Y (p::es) l)(k:∀ v r,RV base h Y p.2 v->nt base h Y es r->P ((aE p.1,v)::r)):P l:=by
 obtain ⟨v,vs,rfl,a,b⟩:=q;exact k v vs a b
theorem nt.nl {P:List (Str×Value)->Prop}{l:List (Str×Value)}(q:nt base h Y [] l)(k:P []):P l:=by cases (show l=[] from q); exact k
theorem nt.mono (hi:nD h h')(hp:Y.Le Y'){es:List (Tx×AV)}{gm:List (Str×Value)}(q:nt base h Y es gm):nt base h' Y' es gm:=by
 induction es generalizing gm with
 | nil=>exact q
 | cons p es ih=>exact q.el (P:=nt base h' Y' (p::es)) fun v r a b=>⟨v,r,rfl,RV.mono hi hp _ _ a,ih b⟩
theorem nt.length {es:List (Tx×AV)}{gm:List (Str×Value)}(q:nt base h Y es gm):es.length=gm.length:=by
 induction es generalizing gm with
 | nil=>exact q.nl (P:=fun l=>0=l.length) rfl
 | cons p es ih=>exact q.el (P:=fun l=>es.length+1=l.length) fun v r a b=>congrArg Nat.succ (ih b)
theorem qn (k x:Str)(v:Value)(gm:List (Str×Value)):valueAt ((k,v)::gm) x=if k=x then some v else valueAt gm x:=by
 unfold valueAt;rw [List.find?_cons];by_cases q:k=x
 ·rw [if_pos q]; simp only [q,decide_true]; rfl
 ·rw [if_neg q]; simp only [q,decide_false]
def MP (base h:Heap)(Y:aM)(o:Option AV)(m:Option Value):Prop:=match o with
 | some a=>∃ v,m=some v∧RV base h Y a v
 | none=>m=none
theorem nt.look (x:Tx){es:List (Tx×AV)}{gm:List (Str×Value)}(q:nt base h Y es gm):MP base h Y (es.lookup x) (valueAt gm (aE x)):=by
 induction es generalizing gm with
 | nil=>exact q.nl (P:=fun l=>valueAt l (aE x)=none) rfl
 | cons p es ih=>
  refine q.el (P:=fun l=>MP base h Y ((p::es).lookup x) (valueAt l (aE x))) fun v r a b=>?_;rw [xq x p.1 p.2,qn];by_cases q:x=p.1
  ·rw [if_pos q,if_pos (congrArg aE q.symm)]; exact ⟨v,rfl,a⟩
  ·rw [if_neg q,if_neg fun z=>q (ig z).symm]; exact ih b
theorem nt.put (x:Tx){a:AV}{v:Value}(hv:RV base h Y a v){es:List (Tx×AV)}{gm:List (Str×Value)}(q:nt base h Y es gm)(nd:(gm.map (·.1)).Nodup):nt base h Y (putD x a es) (stored gm (aE x) v):=by
 induction es generalizing gm with
 | nil=>exact q.nl (P:=fun l=>nt base h Y [(x,a)] (stored l (aE x) v)) ⟨v,[],rfl,hv,rfl⟩
 | cons p es ih=>
  revert nd;refine q.el (P:=fun l=>(l.map (·.1)).Nodup->nt base h Y (putD x a (p::es)) (stored l (aE x) v)) fun u gm h1 h2 nd=>?_;have nd:=List.nodup_cons.mp nd;have ih:=ih h2 nd.2;show nt base h Y (cond (aB p.1 x) ((p.1,a)::es) (p::putD x a es)) _;revert ih;unfold stored;cases q:aB p.1 x with
  | true=>
   have q:=a6.mp q;subst q;have e1:(gm.map fun kv=>if kv.1=aE p.1 then (kv.1,v) else kv)=gm:=(List.map_congr_left fun kv hm=>if_neg fun (q:kv.1=aE p.1)=>nd.1 (List.mem_map.mpr ⟨kv,hm,q⟩)).trans (List.map_id gm)
   intro _;rw [if_pos (by rw [List.any_cons,decide_eq_true (rfl:(aE p.1,u).1=aE p.1)]; rfl),List.map_cons,if_pos rfl,e1];exact ⟨v,gm,rfl,hv,h2⟩
  | false=>
   have fG:aE p.1≠aE x:=fun z=>by rw [a6.mpr (ig z)] at q; cases q
   rw [List.any_cons,decide_eq_false fG,Bool.false_or,List.map_cons,if_neg fG];by_cases Dv:(gm.any fun kv=>decide (kv.1=aE x))=true
   ·rw [if_pos Dv,if_pos Dv]; exact fun ih=>⟨u,_,rfl,h1,ih⟩
   ·rw [if_neg Dv,if_neg Dv]; exact fun ih=>⟨u,_,rfl,h1,ih⟩
theorem sy (x:Tx)(a:AV)(es:List (Tx×AV)):(putD x a es).length<=es.length+1:=by
 induction es with
 | nil=>exact Aj 1
 | cons p es ih=>
  show (cond (aB p.1 x) ((p.1,a)::es) (p::putD x a es)).length<=es.length+1+1;cases aB p.1 x
  ·exact Au ih
  ·exact Nat.le_succ _
end
section
variable (prog:Program)(w:World)(base:Heap)(cls:Nat->Option Addr)
noncomputable def kK (h:Heap)(Y:aM):List (At×AV)->List DictEntry->Prop
 | [],l=>l=[]
 | (x,a)::fs,l=>∃ en es,l=en::es∧(∃ t,en.key=.str (atName x) t)∧RV base h Y a en.val∧kK h Y fs es
noncomputable def kl (h:Heap)(Y:aM)(p:Addr×Option Addr):MO->Prop
 | .list vs=>p.2=none∧∃ items,wX h p.1 items∧bl base h Y vs items.toList∧vs.length<=lid
 | .dict es=>p.2=none∧∃ gm:List (Str×Value),h.DictOf (strKind prog w) p.1 gm∧nt base h Y es gm∧es.length<=lid
 | .inst c fs=>∃ dx C sl es n,p.2=some dx∧cls c=some C∧h.get? p.1=some ⟨.ref C,some dx,.plain,sl⟩∧
   h.get? dx=some ⟨.type "dict",none,.dict es.toArray n,#[]⟩∧kK base h Y fs es∧(fs.map (·.1)).Nodup
structure m7 (Y:aM)(J:ae)(h:Heap):Prop where
 len:Y.l.length=J.length
 obj:∀ (r:Nat) p o,Y.l[r]?=some p->J[r]?=some o->kl prog w base cls h Y p o
 apart:∀ (r r':Nat) p p',r≠r'->Y.l[r]?=some p->Y.l[r']?=some p'->∀ b∈ng p,b∉ng p'
 yK:∀ (r:Nat) p,Y.l[r]?=some p->(ng p).Nodup
 new:∀ a∈bP Y,base.get? a=none
end
open PySem PySem.Calls PyProof.Rows
abbrev Kp (h h':Heap):Prop:=∀ b o,h.get? b=some o->h'.get? b=some o
theorem Kp.push {h:Heap}(o:Obj):Kp h (h.push o):=fun _ _ e=>Heap.get?_push_of_some _ e
theorem Kp.fS {h h':Heap}(k:Kp h h'):nD h h':=fun b o e _=>k b o e
theorem fO (h:Heap):h.get? h.objs.size=none:=Heap.get?_none_of_le (Aj _)
def m8 (h h':Heap):Prop:=∀ a o,h.get? a=some o->∃ o',h'.get? a=some o'
theorem m8.trans {h h' wm:Heap}(x:m8 h h')(y:m8 h' wm):m8 h wm:=fun a o e=>let ⟨o',e'⟩:=x a o e; y a o' e'
theorem m8.none {h h':Heap}(x:m8 h h'){a:Addr}(e:h'.get? a=none):h.get? a=none:=by
 cases q:h.get? a with
 | none=>rfl
 | some o=>obtain ⟨o',e'⟩:=x a o q; exact af e e'
theorem m8.keeps {h h':Heap}(k:Kp h h'):m8 h h':=fun a o e=>⟨o,k a o e⟩
theorem m8.but {h h':Heap}{a:Addr}(hs:Heap.SameBut a h h')(ha:∃ o',h'.get? a=some o'):m8 h h':=fun b o e=>by
 by_cases q:b=a
 ·subst q; exact ha
 ·exact ⟨o,(hs.2 b q).trans e⟩
structure a7 (F:List Addr)(own:Addr->Prop)(Y:aM)(h:Heap)(Y':aM)(h':Heap):Prop where
 pre:Y.Le Y'
 fresh:∀ a∈bP Y',a∈bP Y∨h.get? a=none
 oX:m8 h h'
 fS:nD h h'
 keep:∀ b o,h.get? b=some o->b∉bP Y->¬ own b->b∉F->h'.get? b=some o
 slot:∀ b o,h.get? b=some o->b∉bP Y->¬ own b->∃ sl,h'.get? b=some { o with slots:=sl }
def jz:Addr->Prop:=fun _=>False
section
variable {F:List Addr}{own:Addr->Prop}{Y Y' LR:aM}{h h' wm:Heap}
theorem a7.qV (hp:Y.Le Y')(hf:∀ a∈bP Y',a∈bP Y∨h.get? a=none)(k:Kp h h'):a7 F own Y h Y' h':=⟨hp,hf,m8.keeps k,k.fS,fun b o e _ _ _=>k b o e,fun b o e _ _=>⟨o.slots,k b o e⟩⟩
theorem a7.other (hk:Kp h h'):a7 F own Y h Y h':=.qV (aM.Le.refl _) (fun _ m=>.inl m) hk
theorem a7.refl:a7 F own Y h Y h:=.other fun _ _ e=>e
theorem a7.push (o:Obj):a7 F own Y h Y (h.push o):=.other (Kp.push o)
theorem a7.tok {t:Nat}(x:Tx)(ht:Y.tk t=none):a7 F own Y h (Y.tok t x) h:=.qV (aM.Le.tok x ht) (fun _ m=>.inl m) fun _ _ e=>e
theorem oB (Y:aM)(p:Addr×Option Addr):bP (Y.push p)=bP Y++ng p:=by
 unfold bP aM.push;rw [List.flatMap_append]; exact congrArg (_++·) (List.append_nil _)
theorem lZ {p:Addr×Option Addr}(hf:∀ a∈ng p,h.get? a=none):∀ a∈bP (Y.push p),a∈bP Y∨h.get? a=none:=fun a m=>(List.mem_append.mp (oB Y p▸m)).imp id (hf a)
theorem Ma:∀ a∈ng (h.objs.size,none),h.get? a=none:=fun a q=>List.mem_singleton.mp q▸fO h
theorem a7.alloc (o:Obj):a7 F own Y h (Y.push (h.objs.size,none)) (h.push o):=.qV (aM.Le.push _ _) (lZ Ma) (Kp.push o)
theorem a7.trans (x:a7 F own Y h Y' h')(y:a7 F own Y' h' LR wm):a7 F own Y h LR wm:=by
 have off:∀ b o,h.get? b=some o->b∉bP Y->b∉bP Y':=fun b o e n m=>(x.fresh b m).elim n fun q=>af q e;exact ⟨x.pre.trans y.pre,fun a m=>(y.fresh a m).elim (x.fresh a) fun q=>.inr (x.oX.none q),x.oX.trans y.oX,fun b o e i=>y.fS b o (x.fS b o e i) i,
  fun b o e n w f=>y.keep b o (x.keep b o e n w f) (off b o e n) w f,fun b o e n w=>let ⟨sl,e1⟩:=x.slot b o e n w; let ⟨VA,e2⟩:=y.slot b _ e1 (off b o e n) w; ⟨VA,e2⟩⟩
theorem a7.IU {own':Addr->Prop}(x:a7 F own Y h Y' h')(hw:∀ b,own b->own' b):a7 F own' Y h Y' h':=
 ⟨x.pre,x.fresh,x.oX,x.fS,fun b o e n w f=>x.keep b o e n (fun q=>w (hw b q)) f,fun b o e n w=>x.slot b o e n fun q=>w (hw b q)⟩
theorem a7.jb (x:a7 F jz Y h Y' h'):a7 F own Y h Y' h':=x.IU fun _ q=>q.elim
theorem a7.less {L:Addr}(x:a7 (L::F) own Y h Y' h')(hL:h.get? L=none):a7 F own Y h Y' h':=
 ⟨x.pre,x.fresh,x.oX,x.fS,fun b o e n w f=>x.keep b o e n w fun m=>(List.mem_cons.mp m).elim (fun q=>af hL (q▸e)) f,x.slot⟩
theorem a7.chg {a:Addr}{oa:Obj}(hs:Heap.SameBut a h h')(yf:∃ o',h'.get? a=some o')(ha:h.get? a=some oa)(hi:¬ ju oa)(hm:∀ b,b∉bP Y->¬ own b->b≠a):a7 F own Y h Y h':=
 ⟨aM.Le.refl _,fun _ m=>.inl m,m8.but hs yf,fun b o e i=>(hs.2 b fun q=>by subst q; rw [ha] at e; cases e; exact hi i).trans e,
  fun b o e n w _=>(hs.2 b (hm b n w)).trans e,fun b o e n w=>⟨o.slots,(hs.2 b (hm b n w)).trans e⟩⟩
theorem a7.upd {a:Addr}{oa:Obj}(hs:Heap.SameBut a h h')(yf:∃ o',h'.get? a=some o')(ha:h.get? a=some oa)(hi:¬ ju oa)(hm:a∈bP Y):a7 F own Y h Y h':=.chg hs yf ha hi fun b n _ q=>n (q▸hm)
theorem a7.RL {a:Addr}{oa:Obj}(hs:Heap.SameBut a h h')(yf:∃ o',h'.get? a=some o')(ha:h.get? a=some oa)(hi:¬ ju oa)(hm:own a):a7 F own Y h Y h':=.chg hs yf ha hi fun b _ n q=>n (q▸hm)
theorem a7.rv {base:Heap}(x:a7 F own Y h Y' h'){a:AV}{v:Value}(r:RV base h Y a v):RV base h' Y' a v:=RV.mono x.fS x.pre a v r
theorem a7.Cy {base:Heap}(x:a7 F own Y h Y' h'){a:List AV}{v:List Value}(r:bl base h Y a v):bl base h' Y' a v:=bl.mono x.fS x.pre r
end
section
variable {prog:Program}{w:World}{base:Heap}{cls:Nat->Option Addr}{h h':Heap}{Y Y':aM}{J:ae}
theorem kK.mono (hi:nD h h')(hp:Y.Le Y'){fs:List (At×AV)}{es:List DictEntry}(q:kK base h Y fs es):kK base h' Y' fs es:=by
 induction fs generalizing es with
 | nil=>exact q
 | cons p fs ih=>exact Exists.imp (fun en q=>Exists.imp (fun es q=>⟨q.1,q.2.1,RV.mono hi hp _ _ q.2.2.1,ih q.2.2.2⟩) q) q
theorem eh (p:Addr×Option Addr):p.1∈ng p:=List.mem_cons_self ..
theorem Be {p:Addr×Option Addr}{dx:Addr}(e:p.2=some dx):dx∈ng p:=List.mem_cons_of_mem _ (e▸List.mem_singleton.mpr rfl)
theorem kl.mono {p:Addr×Option Addr}(hi:nD h h')(hp:Y.Le Y')(hk:∀ b ob,b∈ng p->h.get? b=some ob->h'.get? b=some ob){o:MO}(x:kl prog w base cls h Y p o):kl prog w base cls h' Y' p o:=by
 cases o with
 | list vs=>exact ⟨x.1,x.2.imp fun items q=>⟨q.1.imp fun n hb=>hk _ _ (eh p) hb,bl.mono hi hp q.2.1,q.2.2⟩⟩
 | dict es=>exact ⟨x.1,x.2.imp fun gm q=>⟨q.1.imp fun ob q=>q.imp fun es q=>q.imp fun ep q=>⟨hk _ _ (eh p) q.1,q.2⟩,q.2.1.mono hi hp,q.2.2⟩⟩
 | inst c fs=>exact x.imp fun dx q=>q.imp fun C q=>q.imp fun sl q=>q.imp fun es q=>q.imp fun n q=>⟨q.1,q.2.1,hk _ _ (eh p) q.2.2.1,hk _ _ (Be q.1) q.2.2.2.1,q.2.2.2.2.1.mono hi hp,q.2.2.2.2.2⟩
theorem cI {r:Nat}{p:Addr×Option Addr}(e:Y.l[r]?=some p){b:Addr}(hb:b∈ng p):b∈bP Y:=
 List.mem_flatMap.mpr ⟨p,List.mem_of_getElem? e,hb⟩
def G8 (o:Obj):Prop:=o.cls≠.type "tuple"∧o.cls≠.type "range"∧o.cls≠.type "ValueError"∧o.cls≠.type "traceback"
theorem G8.fS {o:Obj}(h:G8 o):¬ ju o:=fun i=>i.elim (fun q=>h.1 q.1) fun q=>h.2.1 q.1
theorem tJ {o:Obj} {v:Value} (h:o.cls=v) (h1:v≠.type "tuple") (h2:v≠.type "range") (h3:v≠.type "ValueError") (h4:v≠.type "traceback"):G8 o:=⟨h▸h1,h▸h2,h▸h3,h▸h4⟩
theorem lX {o:Obj} (h:o.cls=.type "list"):G8 o:=tJ h (by decide) (by decide) (by decide) (by decide)
theorem rI {o:Obj} (h:o.cls=.type "dict"):G8 o:=tJ h (by decide) (by decide) (by decide) (by decide)
theorem Eg {o:Obj}{C:Addr}(h:o.cls=.ref C):G8 o:=tJ h (fun q=>by cases q) (fun q=>by cases q) (fun q=>by cases q) (fun q=>by cases q)
theorem m7.odd (S:m7 prog w base cls Y J h){a:Addr}(m:a∈bP Y):∃ o,h.get? a=some o∧G8 o:=by
 obtain ⟨p,hp,ha⟩:=List.mem_flatMap.mp m;obtain ⟨r,hr⟩:=List.mem_iff_getElem?.mp hp;have gq:r<J.length:=S.len▸(Ai hr).1;have x:=S.obj r p J[r] hr (List.getElem?_eq_getElem gq);have one:p.2=none->a=p.1:=fun e=>by
  rcases List.mem_cons.mp ha with q | q
  ·exact q
  ·rw [e] at q; cases q
 revert x;cases J[r] with
 | list vs=>
  exact fun x=>x.2.elim fun items q=>q.1.elim fun n hb=>one x.1▸⟨_,hb,lX rfl⟩
 | dict es=>
  exact fun x=>x.2.elim fun gm q=>q.1.elim fun ob q=>q.elim fun es q=>q.elim fun ep q=>one x.1▸⟨ob,q.1,rI q.2.1.1⟩
 | inst c fs=>
  exact fun x=>x.elim fun dx q=>q.elim fun C q=>q.elim fun sl q=>q.elim fun es q=>q.elim fun n x=>(List.mem_cons.mp ha).elim (fun q=>q▸⟨_,x.2.2.1,Eg rfl⟩) fun q=>List.mem_singleton.mp (x.1▸q:a∈(some dx).toList)▸⟨_,x.2.2.2.1,rI rfl⟩
theorem m7.lt (S:m7 prog w base cls Y J h){a:Addr}(m:a∈bP Y):∃ o,h.get? a=some o∧¬ ju o:=let ⟨o,e,i⟩:=S.odd m; ⟨o,e,i.fS⟩
theorem m7.qR (S:m7 prog w base cls Y J h)(hi:nD h h')(hk:∀ b ob,b∈bP Y->h.get? b=some ob->h'.get? b=some ob):m7 prog w base cls Y J h':=
 ⟨S.len,fun r p o e1 e2=>(S.obj r p o e1 e2).mono hi (aM.Le.refl _) fun b ob hb=>hk b ob (cI e1 hb),S.apart,S.yK,S.new⟩
theorem m7.tok (S:m7 prog w base cls Y J h){t:Nat}(x:Tx)(ht:Y.tk t=none):m7 prog w base cls (Y.tok t x) J h:=
 ⟨S.len,fun r p o e1 e2=>(S.obj r p o e1 e2).mono (fun _ _ e _=>e) (aM.Le.tok x ht) fun _ _ _ e=>e,S.apart,S.yK,S.new⟩
theorem kQ {l:List (Addr×Option Addr)}{p q:Addr×Option Addr}{r:Nat}(e:(l++[p])[r]?=some q):l[r]?=some q∨(r=l.length∧q=p):=by
 by_cases gq:r<l.length
 ·rw [List.getElem?_append_left gq] at e; exact .inl e
 ·rw [List.getElem?_append_right (Nat.le_of_not_lt gq)] at e;cases hz:r-l.length with
  | zero=>rw [hz] at e; cases e; exact .inr ⟨Nat.le_antisymm (Nat.sub_eq_zero_iff_le.mp hz) (Nat.le_of_not_lt gq),rfl⟩
  | succ k=>rw [hz] at e; cases e
theorem m7.alloc (S:m7 prog w base cls Y J h)(hb:base.StaysIn h)(hk:Kp h h')(m:MO){p:Addr×Option Addr}(Bb:∀ a∈ng p,h.get? a=none)(Wk:(ng p).Nodup)
  (hm:kl prog w base cls h' (Y.push p) p m):m7 prog w base cls (Y.push p) (J++[m]) h':=by
 have old:∀ (r:Nat) q,Y.l[r]?=some q->∀ b∈ng q,b∉ng p:=fun r q e b yA hp=>let ⟨o,ho,_⟩:=S.lt (cI e yA); af (Bb _ hp) ho;refine ⟨by rw [Ac]; exact (Ac).trans (congrArg (·+1) S.len),fun r q o e1 e2=>?_,fun r r' q q' fG e1 e2 b G3 LF=>?_,fun r q e=>?_,fun a ha=>?_⟩
 ·rcases kQ e1 with e | ⟨rfl,rfl⟩
  ·rw [List.getElem?_append_left (S.len▸(Ai e).1)] at e2;exact (S.obj r q o e e2).mono hk.fS (aM.Le.push _ _) fun _ _ _ e=>hk _ _ e
  ·rw [S.len,List.getElem?_append_right (Aj _),Nat.sub_self] at e2;cases e2; exact hm
 ·rcases kQ e1 with e | ⟨e,rfl⟩<;>rcases kQ e2 with e' | ⟨e',rfl⟩
  ·exact S.apart r r' q q' fG e e' b G3 LF
  ·exact old r q e b G3 LF
  ·exact old r' q' e' b LF G3
  ·exact fG (e.trans e'.symm)
 ·rcases kQ e with e | ⟨_,rfl⟩
  ·exact S.yK r q e
  ·exact Wk
 ·exact (List.mem_append.mp (oB Y p▸ha)).elim (S.new a) fun q=>(m8.keeps hb).none (Bb a q)
theorem m7.upd {r:Nat}{p:Addr×Option Addr}(S:m7 prog w base cls Y J h)(hr:Y.l[r]?=some p)(hk:∀ b o,h.get? b=some o->b∉ng p->h'.get? b=some o)
  {o:MO} (hm:kl prog w base cls h' Y p o):m7 prog w base cls Y (J.set r o) h':=by
 have off:∀ b ob,h.get? b=some ob->ju ob->b∉ng p:=fun b ob e i m=>by
  obtain ⟨XT,e',n⟩:=S.lt (cI hr m);rw [e] at e'; cases e'; exact n i
 refine ⟨S.len.trans List.length_set.symm,fun r' q o' e1 e2=>?_,S.apart,S.yK,S.new⟩;by_cases hq:r=r'
 ·subst hq;rw [hr] at e1; cases e1;rw [List.getElem?_set_self (S.len▸(Ai hr).1)] at e2;cases e2; exact hm
 ·rw [List.getElem?_set_ne hq] at e2;exact (S.obj r' q o' e1 e2).mono (fun b ob e i=>hk b ob e (off b ob e i)) (aM.Le.refl _) fun b ob hb e=>hk b ob e fun m=>S.apart r r' p q hq hr e1 b m hb
end
open PySem PySem.Calls PyProof.Rows
structure Fm where
 qual:Str
 scope:Scope
 L:Addr
 a:Addr
 cd:Value
 cells:List (Str×Addr)
noncomputable def Fm.env (f:Fm):Env:={ scope:=f.scope,locals:=f.L,globals:=mainGlobals,cells:=f.cells,qual:=f.qual++".<locals>.",func:=some f.a,code:=f.cd,frame:=some f.L,builtins:=builtinsNs }
def Fm.own (f:Fm):Addr->Prop:=fun b=>b=f.L∨∃ x,f.cells.lookup x=some b
structure ba (f:Fm)(vars:List Str):Prop where
 kind:f.scope.kind=.function
 var:∀ x∈vars,f.env.kindOf x=some .local∨(f.env.kindOf x=some .cell∧∃ c,f.cells.lookup x=some c)
 nodup:vars.Nodup
 inj:∀ x y c,f.cells.lookup x=some c->f.cells.lookup y=some c->x=y
 PJ:∀ x c,f.cells.lookup x=some c->c≠f.L
 Pf:∀ x∈vars,(x==("__debug__" : Str))=false
def Fm.val (f:Fm)(h:Heap)(x:Str)(v:Value):Prop:=
 (f.env.kindOf x=some .local∧∃ m,h.Ns f.L m∧m x=some v)∨(f.env.kindOf x=some .cell∧∃ c,f.cells.lookup x=some c∧h.IsCell c (some v))
noncomputable def aA (l:List Env):List Addr:=l.filterMap (·.frame)
section
variable (prog:Program)(w:World)(base:Heap)(cls:Nat->Option Addr)
structure St (f:Fm)(vars:List Str)(outer:List Env)(Y:aM)(e:Ev)(J:ae)(h:Heap):Prop where
 stays:base.StaysIn h
 sim:m7 prog w base cls Y J h
 ns:∃ m,h.Ns f.L m
 CI:∀ x c,f.cells.lookup x=some c->∃ v,h.IsCell c v
 ev:∀ i a,e i=some a->∃ x v,vars[i]?=some x∧f.val h x v∧RV base h Y a v
 wt:h.FunFrames base (f.env::outer)
 off:∀ b,f.own b->b∉bP Y
 wJ:∀ b∈aA (f.env::outer),b∉bP Y
 new:∀ b,f.own b->base.get? b=none
 C2:∀ b∈aA (f.env::outer),∃ o es n,h.get? b=some o∧o.data=.dict es n
def bx (s s':Shared):Prop:=s'.gens=s.gens∧s'.drawn=s.drawn∧s'.os=s.os∧s.toks<=s'.toks
structure U5 (h:Heap)(e:Addr)(o:Obj)(vs:Array Value):Prop where
 g:h.get? e=some o
 c:o.cls=.type "ValueError"
 d:o.data=.fields vs
structure UY (h₀ h:Heap)(e:Addr)(vs:Array Value)(T:Addr)(o:Obj)(ts:Array Value)(m:Value):Prop where
 f:vs[1]?=some (.ref T)
 n:h₀.get? T=none
 ne:T≠e
 g:h.get? T=some o
 c:o.cls=.type "traceback"
 d:o.data=.fields ts
 m:ts[3]?=some m
structure C7 (h₀ h:Heap)(e:Addr):Prop where
 new:h₀.get? e=none
 there:∃ oe vs,U5 h e oe vs∧(vs[1]?=some .none∨∃ T oT ts,UY h₀ h e vs T oT ts .none)
end
theorem bx.refl (s:Shared):bx s s:=⟨rfl,rfl,rfl,Aj _⟩
theorem bx.trans {s s' Cw:Shared}(x:bx s s')(y:bx s' Cw):bx s Cw:=⟨y.1.trans x.1,y.2.1.trans x.2.1,y.2.2.1.trans x.2.2.1,Aa x.2.2.2 y.2.2.2⟩
theorem C7.pre {h₀ ak h:Heap}{e:Addr}(x:C7 ak h e)(hs:m8 h₀ ak):C7 h₀ h e:=
 ⟨hs.none x.1,x.2.imp fun oe q=>q.imp fun vs q=>⟨q.1,q.2.imp_right fun q=>q.imp fun T q=>q.imp fun oT q=>q.imp fun ts q=>⟨q.f,hs.none q.n,q.ne,q.g,q.c,q.d,q.m⟩⟩⟩
theorem jl {base h h':Heap}(k:∀ b o,h.get? b=some o->(∀ vs,o.data≠.fields vs)->∃ o',h'.get? b=some o'∧∀ vs,o'.data≠.fields vs){l:List Env}(q:h.FunFrames base l):h'.FunFrames base l:=by
 induction l with
 | nil=>trivial
 | cons env l ih=>exact ⟨q.1,q.2.1.imp fun L q=>q.elim fun o q=>(k L o q.2.2.1 q.2.2.2).imp fun o' z=>⟨q.1,q.2.1,z⟩,ih q.2.2⟩
section
variable {prog:Program}{w:World}{base:Heap}{cls:Nat->Option Addr}{f:Fm}{vars:List Str}{outer:List Env}{Y Y':aM}{e:Ev}{J J':ae}{h h':Heap}
theorem Fm.val.move {x:Str}{v:Value}(q:f.val h x v)(hk:∀ b o,f.own b->h.get? b=some o->∃ sl,h'.get? b=some { o with slots:=sl }):f.val h' x v:=
 q.imp (fun q=>⟨q.1,q.2.imp fun m q=>⟨q.1.elim fun o q=>q.elim fun es q=>q.elim fun ep q=>(hk _ _ (.inl rfl) q.1).elim fun sl dZ=>⟨_,es,ep,dZ,q.2⟩,q.2⟩⟩)
  fun q=>⟨q.1,q.2.imp fun c q=>⟨q.1,q.2.elim fun o z=>(hk _ _ (.inr ⟨x,q.1⟩) z.1).elim fun sl dZ=>⟨_,dZ,z.2⟩⟩⟩
theorem St.Ga {own':Addr->Prop}(S:St prog w base cls f vars outer Y e J h)(HO:Y.Le Y')(Sl:nD h h')(sW:∀ a∈bP Y',a∈bP Y∨h.get? a=none)(Lq:∀ b o,h.get? b=some o->b∉bP Y->¬ own' b->∃ sl,h'.get? b=some { o with slots:=sl })(ho:∀ b,own' b->¬ f.own b∧b∉aA (f.env::outer))(hb:base.StaysIn h')(hs:m7 prog w base cls Y' J' h'):St prog w base cls f vars outer Y' e J' h':=by
 have hk:∀ b o,f.own b->h.get? b=some o->∃ sl,h'.get? b=some { o with slots:=sl }:=fun b o q eo=>Lq b o eo (S.off b q) fun w=>(ho b w).1 q;have fr:∀ b,b∉bP Y->(∃ o,h.get? b=some o)->b∉bP Y':=fun b n eo m=>(sW b m).elim n fun q=>eo.elim fun o eo=>af q eo;refine ⟨hb,hs,?_,fun x c hc=>?_,fun i a ei=>?_,?_,fun b q=>fr b (S.off b q) ?_,fun b q=>fr b (S.wJ b q) ?_,S.new,fun b q=>?_⟩
 ·exact S.ns.imp fun m q=>q.elim fun o q=>q.elim fun es q=>q.elim fun ep q=>(hk _ _ (.inl rfl) q.1).elim fun sl dZ=>⟨_,es,ep,dZ,q.2⟩
 ·exact (S.CI x c hc).imp fun v q=>q.elim fun o q=>(hk _ _ (.inr ⟨x,hc⟩) q.1).elim fun sl dZ=>⟨_,dZ,q.2⟩
 ·exact (S.ev i a ei).imp fun x q=>q.imp fun v q=>⟨q.1,q.2.1.move hk,RV.mono Sl HO _ _ q.2.2⟩
 ·have:∀ {l:List Env},(∀ b∈aA l,b∉bP Y∧¬ own' b)->h.FunFrames base l->h'.FunFrames base l:=by
   intro l
   induction l with
   | nil=>intro _ _; trivial
   | cons env rest ih=>
    intro hm hl;obtain ⟨uH,⟨L,o,hf,hn,OU,hd⟩,hr⟩:=hl;obtain ⟨sl,dZ⟩:=Lq L o OU (hm L (by simp [aA,hf])).1 (hm L (by simp [aA,hf])).2;exact ⟨uH,⟨L,_,hf,hn,dZ,hd⟩,ih (fun b hb=>hm b (by
     unfold aA at hb ⊢;rw [List.filterMap_cons];split
     ·exact hb
     ·exact List.mem_cons_of_mem _ hb)) hr⟩
  exact this (fun b hb=>⟨S.wJ b hb,fun w=>(ho b w).2 hb⟩) S.wt
 ·exact q.elim (fun q=>q▸S.ns.elim fun m q=>q.imp fun o q=>q.elim fun es q=>q.elim fun ep q=>q.1) fun q=>q.elim fun x hc=>(S.CI x b hc).elim fun v q=>q.imp fun o q=>q.1
 ·obtain ⟨_,o,ho,_⟩:=S.wt.mem q; exact ⟨o,ho⟩
 ·exact (S.C2 b q).elim fun o z=>z.elim fun es z=>z.elim fun n z=>(Lq b o z.1 (S.wJ b q) fun w=>(ho b w).2 q).elim fun sl ia=>⟨_,es,n,ia,z.2⟩
theorem St.vI {own':Addr->Prop}(S:St prog w base cls f vars outer Y e J h)(P:a7 (aA (f.env::outer)) own' Y h Y' h')(ho:∀ b,own' b->¬ f.own b∧b∉aA (f.env::outer))(hb:base.StaysIn h')(hs:m7 prog w base cls Y' J' h'):St prog w base cls f vars outer Y' e J' h':=
 S.Ga P.pre P.fS P.fresh P.slot ho hb hs
theorem St.move (S:St prog w base cls f vars outer Y e J h)(P:a7 (aA (f.env::outer)) jz Y h Y' h')(hb:base.StaysIn h')(hs:m7 prog w base cls Y' J' h'):St prog w base cls f vars outer Y' e J' h':=
 S.vI P (fun _ q=>q.elim) hb hs
theorem gS (hb:base.StaysIn h)(k:Kp h h'):base.StaysIn h':=fun b o' e=>k b o' (hb b o' e)
theorem St.other (S:St prog w base cls f vars outer Y e J h)(hk:Kp h h'):St prog w base cls f vars outer Y e J h':=
 S.move (a7.other hk) (gS S.stays hk) (S.sim.qR hk.fS fun b o _ e=>hk b o e)
theorem St.tok (S:St prog w base cls f vars outer Y e J h){t:Nat}(x:Tx)(ht:Y.tk t=none):St prog w base cls f vars outer (Y.tok t x) e J h:=
 S.move (a7.tok x ht) S.stays (S.sim.tok x ht)
theorem St.alloc (S:St prog w base cls f vars outer Y e J h)(o:Obj)(m:MO)(hm:kl prog w base cls (h.push o) (Y.push (h.objs.size,none)) (h.objs.size,none) m) :
  St prog w base cls f vars outer (Y.push (h.objs.size,none)) e (J++[m]) (h.push o):=
 S.move (a7.alloc o) (gS S.stays (Kp.push o)) (S.sim.alloc S.stays (Kp.push o) m Ma (List.nodup_cons.mpr ⟨List.not_mem_nil,List.nodup_nil⟩) hm)
theorem St.upd (S:St prog w base cls f vars outer Y e J h){r:Nat}{p:Addr×Option Addr}(hr:Y.l[r]?=some p){a:Addr}(ha:a∈ng p)(hs:Heap.SameBut a h h')(yf:∃ o',h'.get? a=some o'){o:MO}(hm:kl prog w base cls h' Y p o) :
  a7 (aA (f.env::outer)) jz Y h Y h'∧St prog w base cls f vars outer Y e (J.set r o) h':=by
 have nB:=cI hr ha;obtain ⟨oa,Lu,hi⟩:=S.sim.lt nB;have P:a7 (aA (f.env::outer)) jz Y h Y h':=a7.upd hs yf Lu hi nB;refine ⟨P,S.move P (fun b o e=>(hs.2 b fun q=>?_).trans (S.stays b o e)) (S.sim.upd hr (fun b o e n=>(hs.2 b fun q=>n (q▸ha)).trans e) hm)⟩;exact af (S.sim.new a nB) (q▸e)
end
section
variable {prog:Program}{w:World}{base:Heap}{cls:Nat->Option Addr}{f:Fm}{vars:List Str}{outer:List Env}{Y Y':aM}{e:Ev}{J J':ae}{s:Shared}{A:Around}{EC:Value->Shared->Prop}
theorem rO (V:ba f vars)(S:St prog w base cls f vars outer Y e J s.heap){i:Nat}{x:Str}{a:AV}(hx:vars[i]?=some x)(ha:e i=some a){QC:Value->Shared->Prop}
  (h:∀ v,RV base s.heap Y a v->QC v s):wpAny (model prog w) A (loadName f.env x) QC EC s:=by
 obtain ⟨y,v,hy,hv,r⟩:=S.ev i a ha;rw [hx] at hy; cases hy;rcases hv with ⟨k,m,hm,hv⟩ | ⟨k,c,hc,hv⟩
 ·exact wpAny_loadName_local V.kind k hm hv (h v r)
 ·exact wpAny_loadName_cell V.kind k hc hv (h v r)
structure zF (f:Fm)(h h':Heap)(b:Addr)(x:Str)(v:Value):Prop where
 own:f.own b
 oa:∃ oa,h.get? b=some oa∧¬ ju oa
 same:Heap.SameBut b h h'
 OG:∀ y u,y≠x->f.val h y u->f.val h' y u
 this:f.val h' x v
 ns:∃ m,h'.Ns f.L m
 CI:∀ y c,f.cells.lookup y=some c->∃ v,h'.IsCell c v
 nf:∃ o',h'.get? b=some o'∧∀ vs,o'.data≠.fields vs
 dict:(∃ o es n,h.get? b=some o∧o.data=.dict es n)->∃ o es n,h'.get? b=some o∧o.data=.dict es n
theorem oj {h h':Heap}(V:ba f vars)(S:St prog w base cls f vars outer Y e J h){i:Nat}{x:Str}{a:AV}{v:Value}(hx:vars[i]?=some x)(hv:RV base h Y a v){b:Addr}(H:zF f h h' b x v) :
  a7 (aA (f.env::outer)) f.own Y h Y h'∧St prog w base cls f vars outer Y (upd e i a) J h':=by
 have P:a7 (aA (f.env::outer)) f.own Y h Y h':=H.oa.elim fun oa q=>a7.RL H.same (H.nf.imp fun _ z=>z.1) q.1 q.2 H.own;have ne:∀ {c o},h.get? c=some o->c≠b->h'.get? c=some o:=fun {c o} eo n=>(H.same.2 c n).trans eo;refine ⟨P,⟨fun c o eo=>ne (S.stays c o eo) fun q=>af (S.new b H.own) (q▸eo),S.sim.qR P.fS fun c o hc eo=>ne eo fun q=>S.off b H.own (q▸hc),H.ns,H.CI,fun j a' ej=>?_,jl (fun c o eo hd=>?_) S.wt,S.off,S.wJ,S.new,fun c hc=>?_⟩⟩
 ·have ej:cond (Nat.beq j i) (some a) (e j)=some a':=ej;revert ej;cases hj:Nat.beq j i with
  | true=>exact fun ej=>⟨x,v,As hj▸hx,H.this,Ag ej▸P.rv hv⟩
  | false=>
   refine fun ej=>(S.ev j a' ej).imp fun y q=>q.imp fun u q=>⟨q.1,H.OG y u (fun z=>?_) q.2.1,P.rv q.2.2⟩;have g1:=Ai hx;have g2:=Ai (z▸q.1);rw [(List.getElem_inj V.nodup).mp (g2.2.trans g1.2.symm),Nat.beq_refl] at hj; cases hj
 ·by_cases hc:c=b
  ·exact hc▸H.nf
  ·exact ⟨o,ne eo hc,hd⟩
 ·by_cases hq:c=b
  ·exact hq▸H.dict (hq▸S.C2 c hc)
  ·exact (S.C2 c hc).imp fun o z=>z.imp fun es z=>z.imp fun n z=>⟨ne z.1 hq,z.2⟩
theorem rW {o:Obj}{es n}(h:o.data=.dict es n):¬ ju o:=fun q=>by
 rcases q with ⟨_,Ln,n,q⟩ | ⟨_,vs,q⟩<;>(rw [h] at q; cases q)
theorem B6 {o:Obj}{v}(h:o.data=.cell v):¬ ju o:=fun q=>by
 rcases q with ⟨_,Ln,n,q⟩ | ⟨_,vs,q⟩<;>(rw [h] at q; cases q)
theorem w7 (V:ba f vars)(S:St prog w base cls f vars outer Y e J s.heap){i:Nat}{x:Str}{a:AV}{v:Value}(hx:vars[i]?=some x)(hv:RV base s.heap Y a v){QC:Unit->Shared->Prop}
  (h:∀ s',bx s s'->a7 (aA (f.env::outer)) f.own Y s.heap Y s'.heap->St prog w base cls f vars outer Y (upd e i a) J s'.heap->QC () s') :
  wpAny (model prog w) A (storeName f.env x v) QC EC s:=by
 rcases V.var x (List.mem_of_getElem? hx) with k | ⟨k,c,hc⟩
 ·obtain ⟨m,hm⟩:=S.ns;refine wpAny_storeName_local k hm (fun h' hn hs=>?_) (by show (f.scope.kind==.class||(f.scope.kind==.module&&f.L != mainGlobals))=false; rw [V.kind]; rfl);have H:zF f s.heap h' f.L x v:=by
   obtain ⟨oL,es,ep,ho,hd,hq⟩:=id hm;obtain ⟨TF,Uv,Xg,dZ,qB,_⟩:=id hn;refine ⟨.inl rfl,⟨oL,ho,rW hd⟩,hs,fun y u hy hu=>hu.imp (fun z=>⟨z.1,_,hn,?_⟩) fun z=>⟨z.1,z.2.imp fun c z=>⟨z.1,z.2.imp fun o q=>⟨(hs.2 c (V.PJ y c z.1)).trans q.1,q.2⟩⟩⟩,
    .inl ⟨k,_,hn,if_pos rfl⟩,⟨_,hn⟩,fun y c hc=>(S.CI y c hc).imp fun u q=>q.imp fun o q=>⟨(hs.2 c (V.PJ y c hc)).trans q.1,q.2⟩,⟨TF,dZ,fun vs q=>by rw [qB] at q; cases q⟩,fun _=>⟨TF,Uv,Xg,dZ,qB⟩⟩
   obtain ⟨_,m',⟨o1,XZ,X0,q1,q2,_,q3⟩,sQ⟩:=z;rw [ho] at q1; cases q1; rw [hd] at q2; cases q2;show (if y=x then some v else m y)=some u
   rw [if_neg hy,← hq.2,q3]; exact sQ
  have F:=oj V S hx hv H;exact h _ ⟨rfl,rfl,rfl,by first | exact Aj _ | exact Nat.le_succ _⟩ F.1 F.2
 ·obtain ⟨v0,o,ho,hd⟩:=S.CI x c hc;refine wpAny_storeName_cell V.kind k hc ⟨o,ho,hd⟩ fun h' hn hs=>?_;have Uj:f.L≠c:=Ne.symm (V.PJ x c hc);have H:zF f s.heap h' c x v:=by
   obtain ⟨o',dZ,qB⟩:=id hn;refine ⟨.inr ⟨x,hc⟩,⟨o,ho,B6 hd⟩,hs,fun y u hy hu=>hu.imp (fun z=>⟨z.1,z.2.imp fun m q=>⟨q.1.sameBut hs Uj,q.2⟩⟩) fun z=>⟨z.1,z.2.imp fun c' q=>⟨q.1,q.2.imp fun o1 z=>⟨(hs.2 c' fun e=>hy (V.inj y x c (e▸q.1) hc)).trans z.1,z.2⟩⟩⟩,
    .inr ⟨k,c,hc,o',dZ,qB⟩,S.ns.imp fun m hm=>hm.sameBut hs Uj,fun y c' Qq=>?_,⟨o',dZ,fun vs q=>by rw [qB] at q; cases q⟩,fun q=>?_⟩
   ·by_cases hq:c'=c
    ·exact hq▸⟨_,o',dZ,qB⟩
    ·exact (S.CI y c' Qq).imp fun u q=>q.imp fun o1 q=>⟨(hs.2 c' hq).trans q.1,q.2⟩
   ·obtain ⟨o1,es,n,j7,LC⟩:=q;rw [ho] at j7; cases j7; rw [hd] at LC; cases LC
  have F:=oj V S hx hv H;exact h _ ⟨rfl,rfl,rfl,by first | exact Aj _ | exact Nat.le_succ _⟩ F.1 F.2
end
open PySem PySem.Calls PyProof.Rows
structure w0 (h₀ h:Heap)(e:Addr)(m:Value):Prop where
 new:h₀.get? e=none
 there:∃ oe vs T oT ts,U5 h e oe vs∧UY h₀ h e vs T oT ts m
theorem w0.Xd {h₀ h:Heap}{e:Addr}(x:w0 h₀ h e .none):C7 h₀ h e:=
 ⟨x.1,x.2.imp fun oe q=>q.imp fun vs q=>q.elim fun T q=>q.elim fun oT q=>q.elim fun ts q=>⟨q.1,.inr ⟨T,oT,ts,q.2⟩⟩⟩
structure bY (F:List Addr)(h₀ h h':Heap):Prop where
 oX:m8 h h'
 keep:∀ b o,h.get? b=some o->((∃ o',h₀.get? b=some o')∨(o.cls≠.type "ValueError"∧o.cls≠.type "traceback"))->(b∉F->h'.get? b=some o)∧∃ sl,h'.get? b=some { o with slots:=sl }
theorem bY.trans {F:List Addr}{h₀ h h' wm:Heap}(x:bY F h₀ h h')(y:bY F h₀ h' wm):bY F h₀ h wm:=by
 refine ⟨x.oX.trans y.oX,fun b o e c=>?_⟩;have k:=x.keep b o e c;exact ⟨fun n=>(y.keep b o (k.1 n) c).1 n,k.2.elim fun sl e1=>(y.keep b _ e1 c).2⟩
theorem bY.upd {F:List Addr} {h₀ h:Heap} {a:Addr} {o:Obj} (g:Obj->Obj) (ha:h₀.get? a=none) (ho:h.get? a=some o) (hg:(g o).isFreed=false) (hc:o.cls=.type "ValueError"∨o.cls=.type "traceback"):bY F h₀ h (h.update a g):=by
 refine ⟨m8.but (Heap.SameBut.update ..) ⟨_,Heap.get?_update_self g ho hg⟩,fun b o' e c=>?_⟩;have fG:b≠a:=fun q=>by
  subst q;rw [ho] at e; cases e;exact c.elim (fun c=>c.elim fun _ c=>af ha c) fun c=>hc.elim c.1 c.2
 have:=Heap.get?_update_other h g (Ne.symm fG);exact ⟨fun _=>this.trans e,o'.slots,this.trans e⟩
theorem bY.push {F:List Addr}{h₀ h:Heap}(o:Obj):bY F h₀ h (h.push o):=⟨m8.keeps (Kp.push o),fun _ o' e _=>⟨fun _=>Heap.get?_push_of_some _ e,o'.slots,Heap.get?_push_of_some _ e⟩⟩
theorem bY.slots {F:List Addr}{h₀ h h':Heap}(x:Heap.SlotsOnly F h h'):bY F h₀ h h':=
 ⟨fun b o e=>let ⟨sl,e'⟩:=x.2.2 b o e; ⟨_,e'⟩,fun b o e _=>⟨fun n=>(x.2.1 b n).trans e,x.2.2 b o e⟩⟩
section
variable {M:Model}{A:Around}{E:Value->Shared->Prop}{s:Shared}{base h₀:Heap}{env:Env}{outer:List Env}{L e:Addr}
theorem gZ {m:Value}{Q:Unit->Shared->Prop}{F:List Addr}(x:w0 h₀ s.heap e m)(h:∀ h',w0 h₀ h' e .none->bY F h₀ s.heap h'->Q () { s with heap:=h' }):wpAny M A (setFlight (.ref e) none) Q E s:=by
 obtain ⟨n,oe,vs,T,oT,ts,y,z⟩:=x;have yd:3<ts.size:=(Array.getElem?_eq_some_iff.mp z.m).1;unfold setFlight;refine wpAny_bind (wpAny_field y.g y.d z.f ?_);rw [if_pos (show (Value.ref T != Value.none)=true from by simp)];have dm:=Obj.data_mapFields z.d (·.setIfInBounds 3 Value.none);have fr:=Obj.isFreed_of_fields dm;refine wpAny_setField z.g z.d yd (h _ ⟨n,oe,vs,T,_,_,⟨?_,y.c,y.d⟩,z.f,z.n,z.ne,Heap.get?_update_self _ z.g fr,(Obj.cls_mapFields ..).trans z.c,dm,by simp [Array.getElem?_setIfInBounds,yd]⟩ (bY.upd _ z.n z.g fr (.inr z.c)));rw [Heap.get?_update_other _ _ z.ne]; exact y.g
theorem nH {l:List Env}(hl:s.heap.FunFrames base l){a:Addr}{o:Obj}{vs:Array Value}(ha:s.heap.get? a=some o)(hd:o.data=.fields vs):a∉aA l:=fun hm=>by
 obtain ⟨_,o',ho,Wj⟩:=hl.mem hm;rw [ha] at ho; cases ho; exact Wj vs hd
theorem oz {oe:Obj}{vs:Array Value}{head:Value}{EH:Bool}{Q:Unit->Shared->Prop}
  (sW:A.frames=some (env::outer)) (hl:s.heap.FunFrames base (env::outer)) (hf:env.frame=some L) (hb:m8 h₀ s.heap) (hn:h₀.get? e=none)
  (he:s.heap.get? e=some oe) (hc:oe.cls=.type "ValueError") (hd:oe.data=.fields vs) (yd:1<vs.size)
  (h:∀ h',w0 h₀ h' e (rawInt L)->bY (aA (env::outer)) h₀ s.heap h'->Q () { s with heap:=h' }) :
  wpAny M A (do setField (.ref e) 1 (← EntryCells.newEntry head (← frameOf env) .none (rawInt L) .none (← entryPlaceOf L EH))) Q E s:=by
 have Sr:=nH hl he hd;refine wpAny_bind (wpAny_frameOf_fun sW hl hf fun ak aP=>?_);refine wpAny_bind (wpAny_entryPlaceOf fun pl Wf=>?_);unfold EntryCells.newEntry newFields;refine wpAny_bind (wpAny_newObj_type ?_ (Wf.sizeOk5 _ _ _ _ _));have CD:ak.get? e=some oe:=(aP.2.1 e Sr).trans he;generalize Qg:({ cls:=.type "traceback",dict:=none,data:=.fields ([head,.ref L,.none,rawInt L,.none]++(if pl.isEmpty then List.replicate 6 Value.none else pl)).toArray }:Obj)=ob
 have Sh:ob.cls=.type "traceback":=by rw [← Qg]
 have Sf:ob.data=.fields ([head,.ref L,.none,rawInt L,.none]++(if pl.isEmpty then List.replicate 6 Value.none else pl)).toArray:=by rw [← Qg]
 have Se:ob.isFreed=false:=by rw [← Qg]; rfl
 have sR:=Heap.get?_push_of_some (h:=ak) ob CD;refine wpAny_setField sR hd yd ?_;have Uk:ak.objs.size≠e:=Nat.ne_of_gt (Heap.lt_size CD);have Qo:=Obj.data_mapFields hd (·.setIfInBounds 1 (Value.ref ak.objs.size));refine h _ ⟨hn,_,_,ak.objs.size,ob,_,⟨Heap.get?_update_self _ sR (Obj.isFreed_of_fields Qo),(Obj.cls_mapFields _ _).trans hc,Qo⟩,by simp [yd],(hb.trans (fun b o e=>let ⟨sl,e'⟩:=aP.2.2 b o e; ⟨_,e'⟩)).none (Heap.get?_none_of_le (Aj _)),Uk,?_,Sh,Sf,by simp⟩ ?_
 ·rw [Heap.get?_update_other _ _ (Ne.symm Uk)]; exact Heap.get?_push_size _ Se
 ·exact ((bY.slots aP).trans (bY.push ob)).trans (bY.upd _ hn sR (Obj.isFreed_of_fields Qo) (.inl hc))
theorem ks {Q:Unit->Shared->Prop}(sW:A.frames=some (env::outer))(hl:s.heap.FunFrames base (env::outer))(hf:env.frame=some L)(hb:m8 h₀ s.heap)(x:C7 h₀ s.heap e)
  (h:∀ h',w0 h₀ h' e (rawInt L)->bY (aA (env::outer)) h₀ s.heap h'->Q () { s with heap:=h' }):wpAny M A (noteFrame (.ref e) env) Q E s:=by
 obtain ⟨n,oe,vs,y,h4⟩:=x;unfold noteFrame;simp only [hf];rcases h4 with h4 | ⟨T,oT,ts,z⟩
 ·refine wpAny_bind (wpAny_field y.g y.d h4 ?_);rw [if_neg (by decide)];exact oz sW hl hf hb n y.g y.c y.d (Array.getElem?_eq_some_iff.mp h4).1 h
 ·refine wpAny_bind (wpAny_field y.g y.d z.f ?_);rw [if_pos (show (Value.ref T != Value.none)=true from by simp)];refine wpAny_bind (wpAny_field z.g z.d z.m ?_);rw [if_neg (show ¬ ((Value.none==rawInt L)=true) from by simp [rawInt])];refine wpAny_bind (wpAny_setField z.g z.d (Array.getElem?_eq_some_iff.mp z.m).1 ?_);have N:=bY.upd (F:=aA (env::outer)) (Obj.mapFields (·.setIfInBounds 3 Value.none)) z.n z.g (Obj.isFreed_of_fields (Obj.data_mapFields z.d _)) (.inr z.c);refine oz (base:=base) (s:={ s with heap:=s.heap.update T (Obj.mapFields (·.setIfInBounds 3 Value.none)) }) sW (jl (fun c o eo hd=>⟨o,(Heap.get?_update_other _ _ fun q=>?_).trans eo,hd⟩) hl) hf (hb.trans N.oX) n ((Heap.get?_update_other _ _ z.ne).trans y.g) y.c y.d (Array.getElem?_eq_some_iff.mp z.f).1 fun h' x' N'=>h h' x' (N.trans N');rw [← q,z.g] at eo; exact hd _ (Ag eo▸z.d)
theorem qr {Q:Unit->Shared->Prop}(sW:A.frames=some (env::outer))(hl:s.heap.FunFrames base (env::outer))(hf:env.frame=some L)(hb:m8 h₀ s.heap)(x:C7 h₀ s.heap e)
  (h:∀ h',C7 h₀ h' e->bY (aA (env::outer)) h₀ s.heap h'->Q () { s with heap:=h' }):wpAny M A (leaving env (.ref e)) Q E s:=by
 unfold leaving;refine wpAny_bind (ks sW hl hf hb x fun h' x' N=>?_);exact gZ x' fun wm U7 N'=>h wm U7.Xd (N.trans N')
end
section
variable {prog:Program}{w:World}{base:Heap}{cls:Nat->Option Addr}{f:Fm}{vars:List Str}{outer:List Env}{Y DA:aM}{e:Ev}{J:ae}{h h' h₀:Heap}
theorem bY.fS {F:List Addr}(N:bY F h₀ h h')(hF:∀ b∈F,∀ o,h.get? b=some o->¬ ju o):∀ b o,h.get? b=some o->ju o->h'.get? b=some o:=fun b o eo i=>
 (N.keep b o eo (.inr (by rcases i with ⟨i,_⟩ | ⟨i,_⟩<;>rw [i]<;>simp))).1 fun m=>hF b m o eo i
theorem bY.Px {own:Addr->Prop}{F:List Addr}(N:bY F h₀ h h')(hF:∀ b∈F,∀ o,h.get? b=some o->¬ ju o)(P:a7 F own DA h₀ Y h):a7 F own DA h₀ Y h':=by
 refine ⟨P.pre,P.fresh,P.oX.trans N.oX,fun b o eo i=>N.fS hF b o (P.fS b o eo i) i,fun b o eo n w f=>(N.keep b o (P.keep b o eo n w f) (.inl ⟨o,eo⟩)).1 f,fun b o eo n w=>?_⟩;exact (P.slot b o eo n w).elim fun sl e1=>(N.keep b _ e1 (.inl ⟨o,eo⟩)).2
theorem dh {l:List Env}(hd:∀ b∈aA l,∃ o es n,h.get? b=some o∧o.data=.dict es n):∀ b∈aA l,∀ o,h.get? b=some o->¬ ju o:=fun b hb o ho i=>by
 obtain ⟨o',es,n,dZ,qB⟩:=hd b hb;rw [ho] at dZ; cases dZ;exact rW qB i
end
open PySem PySem.Calls PyProof.Rows PySem.SeqAt
theorem pS (a b:Tx):(aE a==aE b)=aB a b:=by
 cases h:aB a b with
 | true=>rw [a6.mp h]; exact beq_self_eq_true _
 | false=>exact beq_eq_false_iff_ne.mpr fun q=>by rw [a6.mpr (ig q)] at h; cases h
theorem eE (a b:Tx):aE a++aE b=aE (a++b):=by
 show Str.append (aE a) (aE b)=_;simp [aE,Str.append]
theorem aU (a:Tx):(aE a).length=a.length:=rfl
theorem ox {a b:AV}{as bs:List AV}{r:Bool}(e:iC (a::as) (b::bs)=some r):∃ p q,oZ a b=some p∧iC as bs=some q∧(p&&q)=r:=by
 have e:(match oZ a b,iC as bs with
  | some x,some y=>some (x&&y)
  | _,_=>Option.none)=some r:=e
 revert e;cases oZ a b with
 | none=>intro e; cases e
 | some p=>
  cases iC as bs with
  | none=>intro e; cases e
  | some q=>intro e; cases e; exact ⟨p,q,rfl,rfl,rfl⟩
noncomputable def K1:AV->Nat
 | .none=>0
 | .bool _=>1
 | .int _=>2
 | .str _=>3
 | .tup _=>4
 | _=>5
noncomputable def K0:Value->Nat
 | .none=>0
 | .bool _=>1
 | .int _ _=>2
 | .str _ _=>3
 | _=>4
section
variable {base h:Heap}{Y:aM}{v:Value}{P:Value->Prop}
theorem Xh (q:RV base h Y .none v)(k:P .none):P v:=(show v=.none from q)▸k
theorem QD {b:Bool}(q:RV base h Y (.bool b) v)(k:P (.bool b)):P v:=(show v=.bool b from q)▸k
theorem QB {i:Int}(q:RV base h Y (.int i) v)(k:∀ t,P (.int i t)):P v:=Exists.elim q fun t e=>e▸k t
theorem Pa {x:Tx}(q:RV base h Y (.str x) v)(k:∀ t,P (.str (aE x) t)):P v:=Exists.elim q fun t e=>e.1▸k t
theorem QA {l:List AV}(q:RV base h Y (.tup l) v)(k:∀ a items,DB h a items->bl base h Y l items.toList->P (.ref a)):P v:=Exists.elim q fun a q=>q.elim fun items q=>q.1▸k a items q.2.1 q.2.2.1
theorem Gj {a:AV}(q:RV base h Y a v)(h5:Nat.beq (K1 a) 5=false):K0 v=K1 a:=by
 cases a with
 | none=>exact Xh (P:=fun v=>K0 v=0) q rfl
 | bool b=>exact QD (P:=fun v=>K0 v=1) q rfl
 | int i=>exact QB (P:=fun v=>K0 v=2) q fun _=>rfl
 | str x=>exact Pa (P:=fun v=>K0 v=3) q fun _=>rfl
 | tup l=>exact QA (P:=fun v=>K0 v=4) q fun _ _ _ _=>rfl
 | _=>cases h5
theorem Nx {a b:AV}{G:Prop}(x:RV base h Y a v)(y:RV base h Y b v)(h1:Nat.beq (K1 a) 5=false)(h2:Nat.beq (K1 b) 5=false)(h3:Nat.beq (K1 a) (K1 b)=false):G:=by
 rw [← Gj x h1,← Gj y h2,Nat.beq_refl] at h3;cases h3
theorem xc:∀ (a:AV) (b:AV) (v:Value) (r:Bool),RV base h Y a v->RV base h Y b v->oZ a b=some r->r=true:=by
 intro a
 induction a using AV.rec (motive_2:=fun as=>∀ bs vs r,bl base h Y as vs->bl base h Y bs vs->iC as bs=some r->r=true) with
 | none=>intro b v r ha hb e; exact af rfl e
 | bool x=>
  intro b v r ha hb e;cases b with
  | bool y=>
   have q:Value.bool x=.bool y:=(show v=.bool x from ha).symm.trans hb;exact (Ag e).symm.trans (beq_iff_eq.mpr (Value.bool.inj q))
  | _=>exact af rfl e
 | int x=>
  intro b v r ha hb e;cases b with
  | int y=>
   obtain ⟨t,p⟩:=ha; obtain ⟨u,q⟩:=hb;exact (Ag e).symm.trans (decide_eq_true (Value.int.inj (p.symm.trans q)).1)
  | str y=>exact Nx ha hb rfl rfl rfl
  | _=>exact af rfl e
 | str x=>
  intro b v r ha hb e;cases b with
  | str y=>
   obtain ⟨t,p,_⟩:=ha; obtain ⟨u,q,_⟩:=hb;exact (Ag e).symm.trans (a6.mpr (ig (Value.str.inj (p.symm.trans q)).1))
  | _=>exact af rfl e
 | tup xs ih=>
  intro b v r ha hb e;cases b with
  | tup ys=>
   obtain ⟨l,items,p,⟨n,ho⟩,rs,_⟩:=ha;obtain ⟨l',items',q,⟨n',dZ⟩,mZ,_⟩:=hb;cases p.symm.trans q;rw [ho] at dZ; cases dZ;exact ih ys _ r rs mZ e
  | _=>exact af rfl e
 | obj r=>intro b v r ha hb e; exact af rfl e
 | j6 a b c=>intro b v r ha hb e; exact af rfl e
 | jr a=>intro b v r ha hb e; exact af rfl e
 | cp a=>intro b v r ha hb e; exact af rfl e
 | nil=>
  rename_i bs vs r ha hb e
  cases bs with
  | nil=>exact (Ag e).symm
  | cons=>exact bl.nl (P:=fun l=>bl base h Y (_::_) l->r=true) ha (fun hb=>Exists.elim hb fun _ q=>q.elim fun _ q=>by cases q.1) hb
 | cons x xs CU CV=>
  rename_i bs vs r ha hb e
  cases bs with
  | nil=>exact bl.nl (P:=fun l=>bl base h Y (x::xs) l->r=true) hb (fun hb=>Exists.elim hb fun _ q=>q.elim fun _ q=>by cases q.1) ha
  | cons y ys=>
   revert hb;refine bl.el (P:=fun l=>bl base h Y (y::ys) l->r=true) ha fun v vs h1 h2 hb=>?_;obtain ⟨v',Oo,q,g1,g2⟩:=hb;cases q;obtain ⟨p,q,e1,e2,rfl⟩:=ox e;rw [CU y v p h1 g1 e1,CV ys vs q h2 g2 e2]; rfl
end
section
variable {base:Heap}{Y:aM}{s:Shared}
def eb (A:Around)(s:Shared)(va vb:Value)(r:Bool):Prop:=EqAt A s va vb r∧RcAt A s va vb r∧RcNeAt A s va vb (!r)
theorem UL {n m:Nat}(h:n+m<cLine):n<cLine:=Ao (Af _ _) h
theorem all_succ (f:Nat->Bool)(n:Nat):(List.range (n+1)).all f=(f 0&&(List.range n).all fun j=>f (j+1)):=by
 rw [List.range_succ_eq_map,List.all_cons,List.all_map]; rfl
theorem got {r r':Bool}{P:Bool->Prop}(e:some r'=some r)(p:P r'):P r:=Ag e▸p
theorem Ko:∀ (a:AV) (b:AV) (A:Around) (va vb:Value) (r:Bool),oZ a b=some r->RV base s.heap Y a va->RV base s.heap Y b vb->A.units+a.depth<cLine->eb A s va vb r:=by
 intro a
 induction a using AV.rec (motive_2:=fun as=>∀ bs (A:Around) (yo CM:List Value) r,iC as bs=some r->bl base s.heap Y as yo->bl base s.heap Y bs CM->A.units+AV.depth.jO as<cLine->
   ∃ e:Nat->Bool,(∀ j (h1:j<yo.length) (h2:j<CM.length),EqAt A s yo[j] CM[j] (e j))∧((List.range (min yo.length CM.length)).all e&&(yo.length==CM.length))=r) with
 | none=>intro b A va vb r e; exact af rfl e
 | bool x=>
  intro b A va vb r e ha hb hu;refine QD (P:=fun va=>eb A s va vb r) ha ?_;cases b with
  | bool y=>exact QD (P:=fun vb=>eb A s (.bool x) vb r) hb (got (P:=eb A s (.bool x) _) e ⟨EqAt.bool_bool _ _,RcAt.bool_bool _ _,RcNeAt.bool_bool _ _⟩)
  | _=>exact af rfl e
 | int x=>
  intro b A va vb r e ha hb hu;refine QB (P:=fun va=>eb A s va vb r) ha (fun t=>?_);cases b with
  | int y=>exact QB (P:=fun vb=>eb A s (.int x t) vb r) hb (fun t2=>(got (P:=eb A s (.int x t) _) e ⟨EqAt.int_int _ _ _ _,RcAt.int_int _ _ _ _,RcNeAt.int_int _ _ _ _⟩))
  | str y=>exact Pa (P:=fun vb=>eb A s (.int x t) vb r) hb (fun t2=>(got (P:=eb A s (.int x t) _) e ⟨EqAt.int_str _ _ _ _,RcAt.int_str _ _ _ _,RcNeAt.int_str _ _ _ _⟩))
  | _=>exact af rfl e
 | str x=>
  intro b A va vb r e ha hb hu;refine Pa (P:=fun va=>eb A s va vb r) ha (fun t=>?_);cases b with
  | str y=>exact Pa (P:=fun vb=>eb A s (.str (aE x) t) vb r) hb (fun t2=>(got (P:=eb A s (.str (aE x) t) _) ((congrArg some (pS x y)).trans e) ⟨EqAt.str_str _ _ _ _,RcAt.str_str _ _ _ _,RcNeAt.str_str _ _ _ _⟩))
  | _=>exact af rfl e
 | tup xs ih=>
  intro b A va vb r e ha hb hu;refine QA (P:=fun va=>RV base s.heap Y (.tup xs) va->eb A s va vb r) ha (fun l items ht rs ha=>?_) ha;have ht:=ht.tup;cases b with
  | tup ys=>
   refine QA (P:=fun vb=>RV base s.heap Y (.tup ys) vb->eb A s (.ref l) vb r) hb (fun l2 dc T4 OA hb=>?_) hb;obtain ⟨g,hg,hr⟩:=ih ys A.in1 items.toList dc.toList r e rs OA (Ao (Nat.le_of_eq ((Nat.add_assoc ..).trans (congrArg (A.units+·) (Nat.add_comm 1 _)))) hu);have h1:=RcAt.tuples ht T4.tup (UL hu) fun j h1 h2=>hg j h1 h2;have h2:=RcNeAt.tuples ht T4.tup (UL hu) fun j h1 h2=>hg j h1 h2;rw [show ((List.range (min items.size dc.size)).all g&&(items.size==dc.size))=r from hr] at h1 h2;refine ⟨?_,h1,h2⟩;by_cases hq:l=l2
   ·subst hq;rw [xc _ _ _ _ ha hb e];exact EqAt.same _
   ·exact EqAt.of_refs hq h1
  | _=>exact af rfl e
 | obj r=>intro b A va vb r e; exact af rfl e
 | j6 a b c=>intro b A va vb r e; exact af rfl e
 | jr a=>intro b A va vb r e; exact af rfl e
 | cp a=>intro b A va vb r e; exact af rfl e
 | nil=>
  rename_i bs A yo CM r e ha hb hu
  obtain rfl:yo=[]:=ha;refine ⟨fun _=>true,fun j h1=>absurd h1 (Nat.not_lt_zero _),?_⟩;cases bs with
  | nil=>obtain rfl:CM=[]:=hb; exact Ag e
  | cons y ys=>obtain ⟨v,vs,rfl,_⟩:=hb; exact (by rw [show min ([]:List Value).length (v::vs).length=0 from Nat.zero_min _]; exact Ag e)
 | cons x xs CU CV=>
  rename_i bs A yo CM r e ha hb hu
  obtain ⟨v,vs,rfl,h1,h2⟩:=ha;cases bs with
  | nil=>
   obtain rfl:CM=[]:=hb;exact ⟨fun _=>true,fun j _ h2=>absurd h2 (Nat.not_lt_zero _),Ag e⟩
  | cons y ys=>
   obtain ⟨v',Oo,rfl,g1,g2⟩:=hb;obtain ⟨p,q,e1,e2,rfl⟩:=ox e;have k1:=(CU y A v v' p e1 h1 g1 (Ao (Ak (Nat.le_max_left _ _) _) hu)).1;obtain ⟨g,hg,rfl⟩:=CV ys A vs Oo q e2 h2 g2 (Ao (Ak (Nat.le_max_right _ _) _) hu);refine ⟨fun j=>Nat.casesOn j p g,fun j=>?_,?_⟩
   ·cases j with
    | zero=>exact fun _ _=>k1
    | succ j=>exact fun l1 l2=>hg j (Nat.lt_of_succ_lt_succ l1) (Nat.lt_of_succ_lt_succ l2)
   ·show ((List.range (min (vs.length+1) (Oo.length+1))).all _&&(vs.length+1==Oo.length+1))=_;rw [Nat.add_min_add_right,all_succ,Bool.and_assoc];congr 2;exact Bool.eq_iff_iff.mpr ⟨fun h=>beq_iff_eq.mpr (Nat.succ.inj (beq_iff_eq.mp h)),fun h=>beq_iff_eq.mpr (congrArg Nat.succ (beq_iff_eq.mp h))⟩
end
open PySem PySem.Calls PyProof.Rows PySem.SeqAt
structure Cx where
 prog:Program
 w:World
 base:Heap
 cls:Nat->Option Addr
 K:PySem.W.Frag
 tk0:Nat->Option Tx
 f:Fm
 vars:List Str
 outer:List Env
noncomputable abbrev Cx.M (c:Cx):Model:=model c.prog c.w
noncomputable abbrev Cx.F (c:Cx):List Addr:=aA (c.f.env::c.outer)
structure CS (c:Cx)(Y:aM)(e:Ev)(J:ae)(s:Shared):Prop extends St c.prog c.w c.base c.cls c.f c.vars c.outer Y e J s.heap where
 pos:0<s.toks
 mY:∀ t,s.toks<=t->Y.tk t=none
 sU:∀ t x,c.tk0 t=some x->Y.tk t=some x
abbrev Cx.S (c:Cx)(Y:aM)(e:Ev)(J:ae)(s:Shared):Prop:=CS c Y e J s
abbrev Cx.P (c:Cx)(Y:aM)(h:Heap)(Y':aM)(h':Heap):Prop:=a7 c.F jz Y h Y' h'
abbrev Cx.V (c:Cx)(h:Heap)(Y:aM)(a:AV)(v:Value):Prop:=RV c.base h Y a v
def cV (c:Cx)(e:Ev)(s:Shared)(Y:aM)(Q:QV)(QC:Value->Shared->Prop):Prop:=
 ∀ v s' Y' a J',bx s s'->c.P Y s.heap Y' s'.heap->c.S Y' e J' s'->c.V s'.heap Y' a v->Q a J'->QC v s'
def s7 (c:Cx)(e:Ev)(s:Shared)(Y:aM)(X:QX)(EC:Value->Shared->Prop):Prop:=
 ∀ ex s' Y' J',bx s s'->c.P Y s.heap Y' s'.heap->c.S Y' e J' s'->C7 s.heap s'.heap ex->X J'->EC (.ref ex) s'
section
variable {c:Cx}{e:Ev}{s s₁:Shared}{Y ax:aM}{Q:QV}{X:QX}{QC EC:Value->Shared->Prop}
theorem cV.pre (H:cV c e s Y Q QC)(hs:bx s s₁)(P:c.P Y s.heap ax s₁.heap):cV c e s₁ ax Q QC:=
 fun v s' Y' a J' fE P' S' r q=>H v s' Y' a J' (hs.trans fE) (P.trans P') S' r q
theorem s7.pre (H:s7 c e s Y X EC)(hs:bx s s₁)(P:c.P Y s.heap ax s₁.heap):s7 c e s₁ ax X EC:=
 fun ex s' Y' J' fE P' S' x q=>H ex s' Y' J' (hs.trans fE) (P.trans P') S' (x.pre P.oX) q
theorem CS.le {J:ae}(S:c.S Y e J s){tk:Nat}(h:s.toks<=tk):c.S Y e J { s with toks:=tk }:=
 ⟨S.toSt,An S.pos h,fun t ht=>S.mY t (Aa h ht),S.sU⟩
theorem CS.heap {J:ae}(S:c.S Y e J s){e':Ev}{J':ae}{h':Heap}(S':St c.prog c.w c.base c.cls c.f c.vars c.outer Y e' J' h'):c.S Y e' J' { s with heap:=h' }:=
 ⟨S',S.pos,S.mY,S.sU⟩
theorem CS.gM {J:ae}(S:c.S Y e J s)(o:Obj):c.S Y e J { s with heap:=s.heap.push o }:=S.heap (S.toSt.other (Kp.push o))
theorem CS.tok {J:ae}(S:c.S Y e J s)(x:Tx):c.S (Y.tok s.toks x) e J { s with toks:=s.toks+1 }:=
 ⟨S.toSt.tok x (S.mY _ (Aj _)),Nat.succ_pos _,fun t ht=>by
  have h1:s.toks+1<=t:=ht;show (if t=s.toks then some x else Y.tk t)=none
  rw [if_neg (Nat.ne_of_gt h1)];exact S.mY t (Ap h1),fun t y e=>(aM.Le.tok x (S.mY _ (Aj _))).tk t y (S.sU t y e)⟩
theorem cV.now {J:ae}{a:AV}{v:Value}{tk:Nat}(H:cV c e s Y Q QC)(S:c.S Y e J s)(r:c.V s.heap Y a v)(q:Q a J)(hn:s.toks<=tk):QC v { s with toks:=tk }:=
 H v _ Y a J ⟨rfl,rfl,rfl,hn⟩ a7.refl (S.le hn) r q
theorem cV.dP {J:ae}{a:AV}{v:Value}(H:cV c e s Y Q QC)(S:c.S Y e J s)(r:c.V s.heap Y a v)(q:Q a J):QC v s:=
 H v _ Y a J ⟨rfl,rfl,rfl,Aj _⟩ a7.refl S r q
theorem cV.str {J:ae}{x:Tx}(H:cV c e s Y Q QC)(S:c.S Y e J s)(hz:x.length<=lid)(q:Q (.str x) J):QC (.str (aE x) s.toks) { s with toks:=s.toks+1 }:=by
 exact H _ _ (Y.tok s.toks x) (.str x) J ⟨rfl,rfl,rfl,Nat.le_succ _⟩ (a7.tok x (S.mY _ (Aj _))) (S.tok x) ⟨_,rfl,hz,Nat.ne_of_gt S.pos,aM.zL ..⟩ q
theorem cV.list {J:ae}{vs:List AV}{items:Array Value}(H:cV c e s Y Q QC)(S:c.S Y e J s)(r:bl c.base s.heap Y vs items.toList)(hz:vs.length<=lid)(q:Q (.obj J.length) (J++[.list vs])) :
  QC (.ref s.heap.objs.size) { s with heap:=s.heap.push { cls:=.type "list",data:=.seq items } }:=by
 have hl:Y.l.length=J.length:=S.sim.len;refine H _ _ (Y.push (s.heap.objs.size,none)) (.obj J.length) (J++[.list vs]) ⟨rfl,rfl,rfl,Aj _⟩ (a7.alloc _) ⟨S.toSt.alloc _ _ ?_,S.pos,S.mY,S.sU⟩ ?_ q
 ·refine ⟨rfl,items,⟨0,Heap.get?_push_size _ rfl⟩,?_,hz⟩;exact (a7.alloc (F:=c.F) (own:=jz) _).Cy r
 ·exact ⟨(s.heap.objs.size,none),rfl,hl▸List.getElem?_concat_length⟩
theorem cV.tuple {J:ae}{vs:List AV}{items:Array Value}(H:cV c e s Y Q QC)(S:c.S Y e J s)(r:bl c.base s.heap Y vs items.toList)(hz:vs.length<=lid)(q:Q (.tup vs) J) :
  QC (.ref s.heap.objs.size) { s with heap:=s.heap.push { cls:=.type "tuple",data:=.seq items } }:=by
 refine H _ _ Y (.tup vs) J ⟨rfl,rfl,rfl,Aj _⟩ (a7.push _) (S.gM _) ?_ q;exact ⟨_,items,rfl,⟨0,Heap.get?_push_size _ rfl⟩,(a7.push (F:=c.F) (own:=jz) _).Cy r,hz⟩
theorem Cx.S.bM {J:ae}{r:Nat}{l:List AV}{v:Value}(S:c.S Y e J s)(hr:J[r]?=some (.list l))(hv:c.V s.heap Y (.obj r) v) :
  ∃ p items n,v=.ref p∧Y.l[r]?=some (p,none)∧IsL s.heap p items n∧bl c.base s.heap Y l items.toList∧l.length<=lid:=by
 obtain ⟨⟨p,d⟩,rfl,hp⟩:=hv;obtain ⟨e1,items,⟨n,ho⟩,rs,hz⟩:=S.sim.obj r _ _ hp hr;cases (e1:d=none);exact ⟨p,items,n,rfl,hp,ho,rs,hz⟩
theorem Cx.S.eD {J:ae}{r:Nat}{p:Addr}{items items':Array Value}{n:Nat}{l':List AV}{g:Array Value->Array Value}(S:c.S Y e J s)(hp:Y.l[r]?=some (p,none))(ho:IsL s.heap p items n)(hg:g items=items')
  (rs:bl c.base s.heap Y l' items'.toList) (hz:l'.length<=lid):c.P Y s.heap Y (s.heap.update p (Obj.mapSeq g))∧c.S Y e (J.set r (.list l')) { s with heap:=s.heap.update p (Obj.mapSeq g) }:=by
 have hm:p∈bP Y:=cI hp (eh _);have P:c.P Y s.heap Y (s.heap.update p (Obj.mapSeq g)):=a7.upd (Heap.SameBut.update ..) ⟨_,ho.update g⟩ ho (lX rfl).fS hm;subst hg;exact ⟨P,S.heap (S.toSt.upd (o:=.list l') hp (eh _) (Heap.SameBut.update ..) ⟨_,ho.update g⟩ ⟨rfl,_,⟨_,ho.update g⟩,P.Cy rs,hz⟩).2⟩
end
noncomputable def nz:wy->Operator
 | .add=>.Add | .sub=>.Sub | .mul=>.Mult | .fdiv=>.FloorDiv | .mod=>.Mod | .band=>.BitAnd
noncomputable def dp:C8->CmpOp
 | .eq=>.Eq | .ne=>.NotEq | .lt=>.Lt | .le=>.LtE | .gt=>.Gt | .ge=>.GtE | .isin=>.In | .iZ=>.NotIn | .is=>.Is | .uW=>.IsNot
theorem aK:lid<=sizeLine:=by rw [sizeLine_eq]; decide
theorem bits_le {a:Int}(ha:a.natAbs<2 ^ 1000):Builtin.Int.intBits a<=1000:=by
 unfold Builtin.Int.intBits;split
 ·lia
 ·rename_i h
  have h0:a.natAbs≠0:=by
   intro q; apply h; simp; lia
  have:=(Nat.log2_lt h0).mpr ha;lia
theorem Nr {a b:Int}(ha:a.natAbs<2 ^ 1000)(hb:b.natAbs<2 ^ 1000):IntMulOk a b:=by
 have h1:=bits_le ha;have h2:=bits_le hb;unfold IntMulOk;have:Builtin.Int.intTooBig ((Builtin.Int.intBits a:Int)+(Builtin.Int.intBits b:Int))=false:=by
  unfold Builtin.Int.intTooBig;rw [bitsLine_eq];exact decide_eq_false (by lia)
 rw [this];simp
theorem noPylong {a b:Int}(hb:b.natAbs<2 ^ 1000):Builtin.divisionGoesByPylong a b=false:=by
 have h2:=bits_le hb;unfold Builtin.Int.intBits at h2;unfold Builtin.divisionGoesByPylong;have:¬ ((if b==0 then 0 else b.natAbs.log2 / 30+1)>300):=by
  split
  ·lia
  ·rename_i h
   simp only [h] at h2;simp at h2;lia
 simp only [decide_eq_false this,Bool.false_and]
theorem Cm (a:Int):Builtin.bitAnd a 1=a.fmod 2:=by
 rw [Int.fmod_eq_emod_of_nonneg _ (by decide)];cases a with
 | ofNat n=>
  show ((n &&& 1:Nat):Int)=((n%2:Nat):Int);rw [Nat.and_one_is_mod]
 | negSucc n=>
  have e:(Builtin.bitNot (Int.negSucc n)).toNat=n:=by unfold Builtin.bitNot; lia
  show (1:Int)-((1 &&& (Builtin.bitNot (Int.negSucc n)).toNat:Nat):Int)=Int.subNatNat 2 (n%2+1);rw [e,Nat.and_comm,Nat.and_one_is_mod];rcases Nat.mod_two_eq_zero_or_one n with h | h<;>rw [h]<;>rfl
theorem bp {base h:Heap}{Y:aM}{i:Int}{t:Tok}:RV base h Y (.int i) (.int i t):=⟨_,rfl⟩
theorem lI {base h:Heap}{Y:aM}{x:Tx}{t:Tok}(hz:x.length<=lid∧t≠0∧Y.tk t=some x):RV base h Y (.str x) (.str (aE x) t):=⟨_,rfl,hz⟩
theorem cJ {base h:Heap}{Y:aM}{b:Bool}:RV base h Y (.bool b) (.bool b):=rfl
theorem i7 {base h:Heap}{Y:aM}:RV base h Y .none .none:=rfl
theorem iQ {v:AV}{P:Int->Prop}(h:bI v P):∃ x,v=.int x∧P x:=by
 cases v<;>first | exact ⟨_,rfl,h⟩ | exact h.elim
theorem lH {v:AV}{P:Tx->Prop}(h:fU v P):∃ x,v=.str x∧P x:=by
 cases v<;>first | exact ⟨_,rfl,h⟩ | exact h.elim
theorem lN {v:AV}{P:Nat->Prop}(h:gH v P):∃ x,v=.obj x∧P x:=by
 cases v<;>first | exact ⟨_,rfl,h⟩ | exact h.elim
theorem zK {v:AV}{P:List AV->Prop}(h:Hh v P):∃ x,v=.tup x∧P x:=by
 cases v<;>first | exact ⟨_,rfl,h⟩ | exact h.elim
theorem il {v:AV}{P:Bool->Prop}(h:u1 v P):∃ x,v=.bool x∧P x:=by
 cases v<;>first | exact ⟨_,rfl,h⟩ | exact h.elim
theorem z9 {v:Tx}{P:Nat->Prop}(h:o7 v P):∃ x,v=[x]∧P x:=by
 cases v with
 | nil=>exact h.elim
 | cons x r=>cases r with
  | nil=>exact ⟨_,rfl,h⟩
  | cons _ _=>exact h.elim
theorem bL {α:Type}{o:Option α}{P:α->Prop}(h:dn o P):∃ x,o=some x∧P x:=by
 cases o
 ·exact h.elim
 ·exact ⟨_,rfl,h⟩
theorem gO {b:Bool}{P:Prop}(h:kF b P):b=true∧P:=by
 cases b
 ·exact h.elim
 ·exact ⟨rfl,h⟩
theorem tm {e:Ev}{i:Nat}{P:AV->Prop}(h:qK e i P):∃ x,e i=some x∧P x:=by
 unfold qK at h;split at h
 ·rename_i x q; exact ⟨x,q,h⟩
 ·exact h.elim
theorem bR {r:Nat}{J:ae}{P:List AV->Prop}(h:cQ r J P):∃ l,J[r]?=some (.list l)∧P l:=by
 unfold cQ at h; exact h
theorem uc {r:Nat}{J:ae}{P:List (Tx×AV)->Prop}(h:wO r J P):∃ l,J[r]?=some (.dict l)∧P l:=by
 unfold wO at h; exact h
section
open Builtin
theorem j3:fillsNumberSlot (.type "tuple") "mul"=pure false:=
 PySem.fillsNumberSlot_seq (id:="tuple.__mul__") (r:=some (.builtin "tuple.__rmul__")) F.slot_tuple_mul.lookup (by decide +kernel) F.slot_tuple_rmul.lookup (by decide +kernel)
theorem qp:seqRepeat? (.type "tuple")=pure (some (.builtin "tuple.__mul__")):=by
 unfold seqRepeat?;rw [PySem.seqSlot_of (T:="tuple") (name:="__mul__") (id:="tuple.__mul__") F.slot_tuple_mul.lookup (by decide +kernel),PySem.seqSlot_of (T:="tuple") (name:="__rmul__") (id:="tuple.__rmul__") F.slot_tuple_rmul.lookup (by decide +kernel)]
 rfl
theorem DO (a:Int)(t:Tok)(l:Addr)(items:Array Value)(n:Nat) :
  Meets (Builtin.«int.__rmul__» ⟨[.int a t,.ref l],[]⟩) (fun _ R s=>s.heap.get? l=some { cls:=.type "tuple",dict:=none,data:=.seq items n,slots:=#[] }∧R (.ok (.ret Value.notImplemented)) s):=
 .of_wp fun prog w A R s h=>by obtain ⟨hp,g,d,tk,os⟩:=s; obtain ⟨hl,h⟩:=h; wp_walk; exact ⟨_,rfl,h⟩
theorem DR (t:Addr)(items:Array Value)(n:Nat)(u:Tok) :
  Meets (Builtin.«tuple.__mul__» ⟨[.ref t,.int 1 u],[]⟩) (fun _ R s=>s.heap.get? t=some { cls:=.type "tuple",dict:=none,data:=.seq items n,slots:=#[] }∧R (.ok (.ret (.ref t))) s):=
 .of_wp fun prog w A R s h=>by
  obtain ⟨hp,g,d,tk,os⟩:=s; obtain ⟨hl,h⟩:=h
  wp_walk
  exact ⟨_,rfl,h⟩
theorem DQ (t:Addr)(v:Value)(n:Nat)(u:Tok) :
  Meets (Builtin.«tuple.__mul__» ⟨[.ref t,.int 2 u],[]⟩) (fun _ R s=>s.heap.get? t=some { cls:=.type "tuple",dict:=none,data:=.seq #[v] n,slots:=#[] }∧R (.ok (.ret (Value.ref s.heap.objs.size))) { s with heap:=s.heap.push { cls:=.type "tuple",data:=.seq #[v,v] } }):=
 .of_wp fun prog w A R s h=>by
  obtain ⟨hp,g,d,tk,os⟩:=s; obtain ⟨hl,h⟩:=h
  wp_walk
  exact ⟨_,rfl,h⟩
theorem DP (t:Addr)(v:Value)(n:Nat)(u:Tok) :
  Meets (Builtin.«tuple.__mul__» ⟨[.ref t,.int 3 u],[]⟩) (fun _ R s=>s.heap.get? t=some { cls:=.type "tuple",dict:=none,data:=.seq #[v] n,slots:=#[] }∧R (.ok (.ret (Value.ref s.heap.objs.size))) { s with heap:=s.heap.push { cls:=.type "tuple",data:=.seq #[v,v,v] } }):=
 .of_wp fun prog w A R s h=>by
  obtain ⟨hp,g,d,tk,os⟩:=s; obtain ⟨hl,h⟩:=h
  wp_walk
  exact ⟨_,rfl,h⟩
end
section
variable {c:Cx}{e:Ev}{s:Shared}{Y:aM}{J:ae}{Q:QV}{X:QX}{QC EC:Value->Shared->Prop}{A:Around}
theorem bF {base h:Heap}{a:AV}{v:Value}{P:Int->Prop}(p:bI a P)(r:RV base h Y a v)(G:Value->Prop)(k:∀ x t,P x->G (.int x t)):G v:=by
 obtain ⟨x,rfl,p⟩:=iQ p;obtain ⟨t,rfl⟩:=r;exact k x t p
theorem fy {base h:Heap}{a b:AV}{v w:Value}{P:Int->Int->Prop}(p:yL a b P)(r:RV base h Y a v)(r':RV base h Y b w)(G:Value->Value->Prop)(k:∀ x t y u,P x y->G (.int x t) (.int y u)):G v w:=
 bF (P:=fun x=>bI b fun y=>P x y) p r (fun v=>G v w) fun x t p=>bF p r' (G (.int x t)) fun y u p=>k x t y u p
def Ta (Y:aM)(x:Tx)(t:Nat):Prop:=x.length<=lid∧t≠0∧Y.tk t=some x
theorem iM {base h:Heap}{a:AV}{v:Value}{P:Tx->Prop}(p:fU a P)(r:RV base h Y a v)(G:Value->Prop)(k:∀ x t,Ta Y x t->P x->G (.str (aE x) t)):G v:=by
 obtain ⟨x,rfl,p⟩:=lH p;obtain ⟨t,rfl,hz⟩:=r;exact k x t hz p
theorem ee {a:AV}{v:Value}{P:Nat->Prop}{G:Prop}(p:gH a P)(r:c.V s.heap Y a v)(k:∀ x,c.V s.heap Y (.obj x) v->P x->G):G:=by
 obtain ⟨x,rfl,p⟩:=lN p;exact k x r p
structure QU (c:Cx)(Y:aM)(s:Shared)(r:Nat)(l:List AV)(p:Addr)(items:Array Value)(n:Nat):Prop where
 at_:Y.l[r]?=some (p,none)
 is:IsL s.heap p items n
 rs:bl c.base s.heap Y l items.toList
 le:l.length<=lid
theorem dI {r:Nat}{v:Value}{P:List AV->Prop}(p:cQ r J P)(S:c.S Y e J s)(rv:c.V s.heap Y (.obj r) v)(G:Value->Prop)(k:∀ l a items n,QU c Y s r l a items n->P l->G (.ref a)):G v:=by
 obtain ⟨l,h1,p⟩:=bR p;obtain ⟨a,items,n,rfl,hp,ho,rs,hz⟩:=Cx.S.bM S h1 rv;exact k l a items n ⟨hp,ho,rs,hz⟩ p
theorem QU.size {r:Nat}{l:List AV}{p:Addr}{items:Array Value}{n:Nat}(L:QU c Y s r l p items n):l.length=items.size:=L.rs.size
theorem r7 {base h:Heap}{l:List AV}{vs:List Value}(rs:bl base h Y l vs):∀ k,bl base h Y (List.replicate k l).flatten (List.replicate k vs).flatten
 | 0=>(rfl:_=[])
 | k+1=>rs.append (r7 rs k)
theorem rB (a:AV):∀ k,(List.replicate k [a]).flatten=List.replicate k a
 | 0=>rfl
 | k+1=>congrArg (a::·) (rB a k)
theorem x5 {a b:AV}{va vb:Value}(h:addW a b J Q)(S:c.S Y e J s)(ra:c.V s.heap Y a va)(rb:c.V s.heap Y b vb)(H:cV c e s Y Q QC) :
  wpAny c.M A (binaryOp .Add va vb) QC EC s:=by
 cases a with
 | int a=>
  obtain ⟨t,rfl⟩:=ra;exact bF h rb (fun vb=>wpAny c.M A (binaryOp .Add (.int a t) vb) QC EC s) fun y u h=>PyProof.Rows.add_int (H.now S bp h (Nat.le_succ _))
 | str x=>
  obtain ⟨t,rfl,ha⟩:=ra;refine iM h rb (fun vb=>wpAny c.M A (binaryOp .Add _ vb) QC EC s) fun y u hb h=>PySem.P.add_str ?_;cases x with
  | nil=>exact H.dP S (lI hb) h.2
  | cons x0 x=>
   cases y with
   | nil=>exact H.dP S (lI ha) (List.append_nil (x0::x)▸h.2)
   | cons y0 y=>
    rw [eE];have hz:=h.1;rw [← Ac] at hz;exact ⟨Aa hz aK,H.str S hz h.2⟩
 | obj r=>
  refine ee h rb fun r' rb h=>dI h S ra (fun va=>wpAny c.M A (binaryOp .Add va vb) QC EC s) fun l p items n L h=>dI h S rb (fun vb=>wpAny c.M A (binaryOp .Add (.ref p) vb) QC EC s) fun l' p' items' n' L' h=>?_;refine P.add_list L.is L'.is (H.list S (items:=items++items') (by rw [Array.toList_append]; exact L.rs.append L'.rs) (by rw [Ac]; exact h.1) h.2) ?_;rw [← L.size,← L'.size];exact Aa h.1 aK
 | tup l=>
  obtain ⟨l',rfl,hz,q⟩:=zK h;obtain ⟨t,items,rfl,⟨n,ht⟩,rs,_⟩:=id ra;obtain ⟨b,dc,rfl,⟨n2,hb⟩,OA,_⟩:=id rb;have z1:=rs.size;have z2:=OA.size;cases l with
  | nil=>exact concat_meets ⟨_,ht,rfl⟩ ⟨_,hb,rfl⟩ noFill_tuple_add seq_tuple_add F.slot_tuple_add F.entry_tuple_add (F.args_tuple_add_2 _ _) (tuple_addW0 t b items dc n n2 none none #[] #[] (Array.isEmpty_iff_size_eq_zero.mpr z1.symm)) ⟨ht,hb,H.dP S rb q⟩
  | cons x l=>
   have ne:¬ items.isEmpty=true:=fun w=>Nat.succ_ne_zero _ (z1.trans (Array.isEmpty_iff_size_eq_zero.mp w));cases l' with
   | nil=>exact concat_meets ⟨_,ht,rfl⟩ ⟨_,hb,rfl⟩ noFill_tuple_add seq_tuple_add F.slot_tuple_add F.entry_tuple_add (F.args_tuple_add_2 _ _) (tuple_addW1 t b items dc n n2 none none #[] #[] ne (Array.isEmpty_iff_size_eq_zero.mpr z2.symm)) ⟨ht,hb,H.dP S ra (List.append_nil (x::l)▸q)⟩
   | cons y l'=>
    refine concat_meets ⟨_,ht,rfl⟩ ⟨_,hb,rfl⟩ noFill_tuple_add seq_tuple_add F.slot_tuple_add F.entry_tuple_add (F.args_tuple_add_2 _ _) (tuple_addW2 t b items dc n n2 none none #[] #[] ne (fun w=>Nat.succ_ne_zero _ (z2.trans (Array.isEmpty_iff_size_eq_zero.mp w))) (z1▸z2▸Aa hz aK)) ⟨ht,hb,?_⟩;exact H.tuple S (items:=items++dc) (by rw [Array.toList_append]; exact rs.append OA) (by rw [Ac]; exact hz) q
 | _=>exact h.elim
theorem xp {a b:AV}{va vb:Value}(h:Mc a b J Q)(S:c.S Y e J s)(ra:c.V s.heap Y a va)(rb:c.V s.heap Y b vb)(H:cV c e s Y Q QC) :
  wpAny c.M A (binaryOp .Mult va vb) QC EC s:=by
 cases a with
 | int a=>
  obtain ⟨t,rfl⟩:=ra;exact bF h rb (fun vb=>wpAny c.M A (binaryOp .Mult (.int a t) vb) QC EC s) fun y u h=>PyProof.Rows.mul_int (H.now S bp h.2.2 (Nat.le_succ _)) (Nr h.1 h.2.1)
 | obj r=>
  refine bF h rb (fun vb=>wpAny c.M A (binaryOp .Mult va vb) QC EC s) fun m u h=>dI h S ra (fun va=>wpAny c.M A (binaryOp .Mult va (.int m u)) QC EC s) fun l p items n L h=>?_;obtain ⟨i,rfl,h0,hz,q⟩:=h;have hlen:1=items.size:=L.size;have Mu:lid=1000000:=rfl;have dZ:s.heap.get? p=some ({ cls:=.type "list",dict:=none,data:=.seq items n,slots:=#[] }:Obj):=L.is
  refine wpAny_binaryOp_repeat_ref (T:="list") (U:="int") (by decide) ⟨_,dZ,rfl⟩ (fun s'=>typeIs_int s' m u) noFill_list_mul F.fills_int_mul F.slot_int_rmul repeat_list F.slot_int_index.lookup
   (call_meets F.slot_int_rmul (typeIs_int s m u) F.entry_int_rmul (F.args_int_rmul_2 _ _) (lm_int_rmul_list_any m u p items n none #[])
    ⟨dZ,rfl,⟨_,dZ,rfl⟩,call_meets F.slot_list_mul ⟨_,dZ,rfl⟩ F.entry_list_mul (F.args_list_mul_2 _ _)
     (lm_list_mul_any p items n none #[] m u (by simp [Builtin.List.listFitsIndex]; lia) (by rw [← hlen]; lia) (by simp [Builtin.List.listTooLong,sizeLine,← hlen]; lia))
     ⟨dZ,?_⟩⟩)
  rw [listMul_foldl_if];refine H.list S (vs:=List.replicate m.toNat (.int i)) (items:=(List.replicate m.toNat items.toList).flatten.toArray) (rB (.int i) _▸r7 L.rs m.toNat) ?_ q;rw [List.length_replicate]; lia
 | tup l=>
  refine bF h rb (fun vb=>wpAny c.M A (binaryOp .Mult va vb) QC EC s) fun m u h=>?_;obtain ⟨x,rfl,hm,q⟩:=h;obtain ⟨t,items,rfl,⟨n,ht⟩,rs,_⟩:=id ra;obtain ⟨v,hv,rv⟩:=rs.get (k:=0) rfl;have e:items=#[v]:=by
   apply Array.toList_inj.mp;have z:=rs.length;revert hv z;cases items.toList with
   | nil=>exact fun h _=>af rfl h
   | cons a l=>
    intro h z;cases Ag h;cases List.length_eq_zero_iff.mp (Nat.succ.inj z).symm;rfl
  subst e;refine wpAny_binaryOp_repeat_ref (T:="tuple") (U:="int") (by decide) ⟨_,ht,rfl⟩ (fun s'=>typeIs_int s' m u) j3 F.fills_int_mul F.slot_int_rmul qp F.slot_int_index.lookup
   (call_meets F.slot_int_rmul (typeIs_int s m u) F.entry_int_rmul (F.args_int_rmul_2 _ _) (DO m u t #[v] n) ⟨ht,rfl,⟨_,ht,rfl⟩,?_⟩)
  rcases hm with rfl | rfl | rfl
  ·exact call_meets F.slot_tuple_mul ⟨_,ht,rfl⟩ F.entry_tuple_mul (F.args_tuple_mul_2 _ _) (DR t #[v] n u) ⟨ht,H.dP S ra q⟩
  ·exact call_meets F.slot_tuple_mul ⟨_,ht,rfl⟩ F.entry_tuple_mul (F.args_tuple_mul_2 _ _) (DQ t v n u) ⟨ht,H.tuple S (vs:=[x,x]) (items:=#[v,v]) ⟨v,[v],rfl,rv,v,[],rfl,rv,rfl⟩ (by decide:2<=1000000) q⟩
  ·exact call_meets F.slot_tuple_mul ⟨_,ht,rfl⟩ F.entry_tuple_mul (F.args_tuple_mul_2 _ _) (DP t v n u) ⟨ht,H.tuple S (vs:=[x,x,x]) (items:=#[v,v,v]) ⟨v,[v,v],rfl,rv,v,[v],rfl,rv,v,[],rfl,rv,rfl⟩ (by decide:3<=1000000) q⟩
 | _=>exact h.elim
theorem xP {op:wy}{a b:AV}{va vb:Value}(h:H0 op a b J Q)(S:c.S Y e J s)(ra:c.V s.heap Y a va)(rb:c.V s.heap Y b vb)(H:cV c e s Y Q QC) :
  wpAny c.M A (binaryOp (nz op) va vb) QC EC s:=by
 cases op with
 | add=>exact x5 h S ra rb H
 | mul=>exact xp h S ra rb H
 | sub=>exact fy h ra rb (fun va vb=>wpAny c.M A (binaryOp .Sub va vb) QC EC s) fun x t y u h=>PyProof.Rows.sub_int (H.now S bp h (Nat.le_succ _))
 | fdiv=>exact fy h ra rb (fun va vb=>wpAny c.M A (binaryOp .FloorDiv va vb) QC EC s) fun x t y u h=>PyProof.Rows.floordiv_int h.1 (H.now S bp h.2.2 (Nat.le_succ _)) (.inl (noPylong h.2.1))
 | mod=>exact fy h ra rb (fun va vb=>wpAny c.M A (binaryOp .Mod va vb) QC EC s) fun x t y u h=>PyProof.Rows.mod_int' h.1 (H.now S bp h.2.2 (Nat.le_succ _))
 | band=>
  refine fy h ra rb (fun va vb=>wpAny c.M A (binaryOp .BitAnd va vb) QC EC s) fun x t y u h=>?_;obtain ⟨rfl,q⟩:=h;refine PyProof.Rows.and_int (H.now S ?_ q (Nat.le_succ _));rw [Cm];exact bp
theorem xn {i:Int}{va:Value}(S:c.S Y e J s)(ra:c.V s.heap Y (.int i) va)(q:Q (.int (-i)) J)(H:cV c e s Y Q QC):wpAny c.M A (unaryOp .USub va) QC EC s:=by
 obtain ⟨t,rfl⟩:=ra;exact PyProof.Rows.neg_int (H.now S bp q (Nat.le_succ _))
end
open PySem PySem.Calls PyProof.Rows PySem.SeqAt
theorem rK (c:Nat):∀ l:Tx,decide (c∈l)=bH c l
 | []=>decide_eq_false List.not_mem_nil
 | d::l=>by
  show _=(Nat.beq c d||bH c l);rw [← rK c l,Bool.eq_iff_iff,decide_eq_true_iff,List.mem_cons,Bool.or_eq_true,decide_eq_true_iff];exact or_congr ⟨fun h=>h▸Nat.beq_refl c,As⟩ Iff.rfl
theorem jn (c:Nat)(l:Tx):Txt.contains (aE l) (aE [c])=bH c l:=by
 have:=StrLaws.found_one (aE l) c;rw [← rK,Bool.eq_iff_iff];rw [Bool.eq_iff_iff] at this;rw [decide_eq_true_eq] at this ⊢;exact this
noncomputable def isNone:Value->Bool
 | .none=>true
 | _=>false
section
variable {c:Cx}{e:Ev}{s:Shared}{Y:aM}{J:ae}{EC:Value->Shared->Prop}{A:Around}
theorem Fj {a:AV}{l:List AV}(h:cq (a::l)=true):∃ x,a=.str x∧cq l=true:=by
 cases a<;>first | exact ⟨_,rfl,h⟩ | cases h
theorem w4 (a b:Tx):aB a b=aB b a:=by
 rw [Bool.eq_iff_iff,a6,a6];exact ⟨Eq.symm,Eq.symm⟩
theorem tq {base h:Heap}{x:Tx}{u:Tok}{l:List AV}:∀ {vs:List Value},cq l=true->bl base h Y l vs->(∀ y∈vs,EqAt A s y (.str (aE x) u) (y.isStr (aE x)))∧(vs.any fun v=>v.isStr (aE x))=aG x l:=by
 induction l with
 | nil=>
  intro vs _ hr;cases (hr:_=[]);exact ⟨fun _ h=>absurd h List.not_mem_nil,rfl⟩
 | cons a l ih=>
  intro vs hl hr;obtain ⟨y,rfl,hl⟩:=Fj hl;obtain ⟨v,vs,rfl,⟨t,rfl,_⟩,hr⟩:=hr;have w:=ih hl hr;refine ⟨fun z hz=>?_,?_⟩
  ·rcases List.mem_cons.mp hz with rfl | hz
   ·exact EqAt.str_str _ _ _ _
   ·exact w.1 z hz
  ·show ((aE y==aE x)||vs.any _)=(aB x y||aG x l);rw [pS,w.2,w4]
end
section
open Builtin
theorem kq (r:Addr)(a b:Int)(t u v:Tok)(x:Int)(y:Tok) :
  Meets (Builtin.«range.__contains__» ⟨[.ref r,.int x y],[]⟩) (fun _ R s=>s.heap.get? r=some { cls:=.type "range",dict:=none,data:=.fields #[.int a t,.int b u,.int 1 v],slots:=#[] }∧R (.ok (.ret (.bool (Builtin.Range.rangePlace? a b 1 x).isSome))) s):=
 .of_wp fun prog w A R s h=>by
  obtain ⟨hp,g,d,tk,os⟩:=s; obtain ⟨hl,h⟩:=h
  wp_walk
  exact ⟨_,rfl,h⟩
theorem IT (a b x:Int):(Builtin.Range.rangePlace? a b 1 x).isSome=(decide (a<=x)&&decide (x<b)):=by
 unfold Builtin.Range.rangePlace?;rw [if_pos (show (1:Int)>0 by decide),Int.emod_one];show (if ((decide (a<=x)&&decide (x<b))&&true)=true then some _ else none).isSome=_
 rw [Bool.and_true];cases decide (a<=x)&&decide (x<b)<;>rfl
end
section
variable {c:Cx}{e:Ev}{s:Shared}{Y:aM}{J:ae}{QC EC:Value->Shared->Prop}{A:Around}
def wx (s:Shared)(r:Bool)(QC:Value->Shared->Prop):Prop:=∀ tk,s.toks<=tk->QC (.bool r) { s with toks:=tk }
theorem wx.f {r:Bool}(H:wx s (r ^^ false) QC):wx s r QC:=by rw [Bool.xor_false] at H; exact H
theorem wx.t {r:Bool}(H:wx s (r ^^ true) QC):wx s (!r) QC:=by rw [Bool.xor_true] at H; exact H
theorem wx.now {r:Bool}(H:wx s r QC):QC (.bool r) s:=H s.toks (Aj _)
theorem in_list {l:Addr}{items:Array Value}{v:Value}{f:Value->Bool}{r neg:Bool}(hl:s.heap.IsList l items)(he:∀ y∈items.toList,EqAt A.in1 s y v (f y))(ha:items.toList.any f=r)(H:wx s (r ^^ neg) QC) :
  wpAny c.M A (compareOp (if neg then .NotIn else .In) v (.ref l)) QC EC s:=by
 rw [Array.any_toList] at ha;subst ha;cases neg
 ·exact in_listAt f hl (fun y hy=>he y (Array.mem_toList_iff.mpr hy)) (H.f.now)
 ·exact notIn_listAt f hl (fun y hy=>he y (Array.mem_toList_iff.mpr hy)) (H.t.now)
theorem rV {a b:AV}{va vb:Value}{P:Bool->Prop}(neg:Bool)(yT:(c.base.get? sysModules).isSome=true)(h:P8 a b J P)(S:c.S Y e J s)(ra:c.V s.heap Y a va)(rb:c.V s.heap Y b vb)(H:∀ r,P r->wx s (r ^^ neg) QC) :
  wpAny c.M A (compareOp (if neg then .NotIn else .In) va vb) QC EC s:=by
 have tx:∀ {x:Tx} {t:Nat} {l:Addr} {items:Array Value} {vs:List AV},s.heap.IsList l items->bl c.base s.heap Y vs items.toList->cq vs=true->P (aG x vs)->wpAny c.M A (compareOp (if neg then .NotIn else .In) (.str (aE x) t) (.ref l)) QC EC s:=fun {x t l items vs} hl rs ht q=>
  in_list hl (tq (A:=A.in1) (s:=s) (x:=x) (u:=t) ht rs).1 (tq (A:=A.in1) (s:=s) (x:=x) (u:=t) ht rs).2 (H _ q)
 cases b with
 | tup l=>
  refine iM h ra (fun va=>wpAny c.M A (compareOp (if neg then .NotIn else .In) va vb) QC EC s) fun x t _ h=>?_
  have h:=gO h;obtain ⟨p,items,rfl,ht,rs,_⟩:=rb;have w:=tq (A:=A.in1) (s:=s) (x:=x) (u:=t) h.1 rs;have H:=H _ h.2;rw [← w.2,Array.any_toList] at H;cases neg
  ·exact in_tupleAt _ ht.tup (fun y hy=>w.1 y (Array.mem_toList_iff.mpr hy)) H.f.now
  ·exact notIn_tupleAt _ ht.tup (fun y hy=>w.1 y (Array.mem_toList_iff.mpr hy)) H.t.now
 | jr l=>
  refine iM h ra (fun va=>wpAny c.M A (compareOp (if neg then .NotIn else .In) va vb) QC EC s) fun x t _ h=>?_
  have h:=gO h;obtain ⟨p,items,rfl,⟨n,ht⟩,rs,_⟩:=rb;exact tx ⟨_,S.stays _ _ ht,rfl,n,rfl⟩ rs h.1 h.2
 | str l=>
  refine iM h ra (fun va=>wpAny c.M A (compareOp (if neg then .NotIn else .In) va vb) QC EC s) fun x t _ h=>?_
  obtain ⟨k,rfl,q⟩:=z9 h;obtain ⟨u,rfl,_⟩:=rb;have H:=H _ q;cases neg
  ·exact SB.contains (by rw [jn]; exact H.f.now)
  ·exact SB.notContains (by rw [jn]; exact H.t.now)
 | obj o=>
  cases a with
  | str x=>
   obtain ⟨t,rfl,_⟩:=ra;have h:s9 x o J P:=h;unfold s9 at h;rcases h with ⟨l,h1,hl,q⟩ | ⟨es,h1,q⟩
   ·refine dI (P:=fun l=>cq l=true∧P (aG x l)) (by unfold cQ; exact ⟨l,h1,hl,q⟩) S rb (fun vb=>wpAny c.M A (compareOp (if neg then .NotIn else .In) _ vb) QC EC s) fun l p items n L h=>tx L.is.isList L.rs h.1 h.2
   ·obtain ⟨⟨p,d⟩,rfl,hp⟩:=rb;obtain ⟨e1,gm,Qk,hf,_⟩:=S.sim.obj o _ _ hp h1;have hm:=Qk.mapOf;have hd:(p==sysModules)=false:=by
     cases hq:p==sysModules with
     | false=>rfl
     | true=>
      have:=S.sim.new p (cI hp (eh _));rw [eq_of_beq hq] at this;rw [this] at yT;cases yT
    have hx:(valueAt gm (aE x)).isSome=(es.lookup x).isSome:=by
     have:=hf.look x;cases q9:es.lookup x with
     | none=>rw [q9] at this; rw [show valueAt gm (aE x)=none from this]; rfl
     | some a=>rw [q9] at this; obtain ⟨v,e2,_⟩:=this; rw [e2]; rfl
    have q':=H _ q;rw [← hx] at q';cases neg
    ·exact wpAny_in_of (strKind_is _ _ _ t) hd hm (q'.f _ (Nat.le_succ _))
    ·exact wpAny_notIn_of (strKind_is _ _ _ t) hd hm (q'.t _ (Nat.le_succ _))
  | _=>exact h.elim
 | j6 lo hi st=>
  refine bF h ra (fun va=>wpAny c.M A (compareOp (if neg then .NotIn else .In) va vb) QC EC s) fun x t h=>?_
  obtain ⟨rfl,q⟩:=h;obtain ⟨r,rfl,⟨t1,t2,t3,hr⟩,_⟩:=rb;have q:=H _ q;rw [← IT] at q;cases neg
  ·exact PySem.SeqRoads2.in_meets ⟨_,hr,rfl⟩ F.slot_range_contains F.entry_range_contains (F.args_range_contains_2 _ _) (kq r lo hi t1 t2 t3 x t) ⟨hr,_,rfl,q.f.now⟩
  ·exact PySem.SeqRoads2.notIn_meets ⟨_,hr,rfl⟩ F.slot_range_contains F.entry_range_contains (F.args_range_contains_2 _ _) (kq r lo hi t1 t2 t3 x t) ⟨hr,_,rfl,q.t.now⟩
 | _=>exact h.elim
theorem uw {a:AV}{va:Value}{P:Bool->Prop}(h:eN a P)(ra:c.V s.heap Y a va)(H:∀ r,P r->wx s r QC):wpAny c.M A (compareOp .Is va .none) QC EC s:=by
 unfold eN at h;cases a with
 | none=>cases (ra:va=.none); exact is_none_none (H _ h).now
 | int _=>obtain ⟨t,rfl⟩:=ra; exact is_int_none (H _ h).now
 | str _=>obtain ⟨t,rfl,_⟩:=ra; exact is_str_none (H _ h).now
 | tup _=>obtain ⟨t,_,rfl,_⟩:=ra; exact is_ref_none (H _ h).now
 | _=>exact h.elim
theorem sD {a:AV}{va:Value}{P:Bool->Prop}(h:eN a fun r=>P (!r))(ra:c.V s.heap Y a va)(H:∀ r,P r->wx s r QC):wpAny c.M A (compareOp .IsNot va .none) QC EC s:=by
 unfold eN at h;cases a with
 | none=>cases (ra:va=.none); exact isnot_none_none (H _ h).now
 | int _=>obtain ⟨t,rfl⟩:=ra; exact isnot_int_none (H _ h).now
 | str _=>obtain ⟨t,rfl,_⟩:=ra; exact isnot_str_none (H _ h).now
 | tup _=>obtain ⟨t,_,rfl,_⟩:=ra; exact isnot_ref_none (H _ h).now
 | _=>exact h.elim
theorem Ic {a:AV}{b:Value}{P:Bool->Prop}(h:LY a b P):∃ x y,a=.cp (.type x)∧b=.type y∧P (x==y):=by
 cases a with
 | cp v=>
  cases v with
  | type x=>
   cases b with
   | type y=>exact ⟨x,y,rfl,rfl,h⟩
   | _=>exact h.elim
  | _=>exact h.elim
 | _=>exact h.elim
theorem d4 {op:C8}{a b:AV}{va vb:Value}{P:Bool->Prop}(hu:A.units+100<cLine)(yT:(c.base.get? sysModules).isSome=true)(h:Dx op a b J P)(S:c.S Y e J s)(ra:c.V s.heap Y a va)(rb:c.V s.heap Y b vb)(H:∀ r,P r->wx s r QC) :
  wpAny c.M A (compareOp (dp op) va vb) QC EC s:=by
 have key:∀ {R:Bool->Prop},LL a b R->∃ r,eb A s va vb r∧R r:=fun {R} h=>by
  obtain ⟨r,e1,h⟩:=bL h;obtain ⟨hd,h⟩:=gO h;exact ⟨r,Ko _ _ A va vb r e1 ra rb (Ao (Ak (Ad hd) _) hu),h⟩
 cases op with
 | eq=>obtain ⟨r,k,h⟩:=key h; exact k.2.1 _ _ _ _ (H r h).now
 | ne=>obtain ⟨r,k,h⟩:=key h; exact k.2.2 _ _ _ _ (H _ h).now
 | lt=>exact fy h ra rb (fun va vb=>wpAny c.M A (compareOp .Lt va vb) QC EC s) fun x t y u h=>PyProof.Rows.lt_int (H _ h).now
 | le=>exact fy h ra rb (fun va vb=>wpAny c.M A (compareOp .LtE va vb) QC EC s) fun x t y u h=>PyProof.Rows.le_int (H _ h).now
 | gt=>exact fy h ra rb (fun va vb=>wpAny c.M A (compareOp .Gt va vb) QC EC s) fun x t y u h=>PyProof.Rows.gt_int (H _ h).now
 | ge=>exact fy h ra rb (fun va vb=>wpAny c.M A (compareOp .GtE va vb) QC EC s) fun x t y u h=>PyProof.Rows.ge_int (H _ h).now
 | isin=>exact rV false yT h S ra rb fun r q=>(Bool.xor_false r).symm▸H r q
 | iZ=>exact rV (P:=fun r=>P (!r)) true yT h S ra rb fun r q=>(Bool.xor_true r).symm▸H _ q
 | is=>
  cases b with
  | none=>cases (rb:vb=.none); exact uw h ra H
  | cp v=>
   cases (rb:vb=v);obtain ⟨x,y,rfl,rfl,h⟩:=Ic h;cases (ra:va=.type x);refine wpAny_is_plain rfl ?_;have q:(Value.type x==Value.type y)=(x==y):=by
    rw [Bool.eq_iff_iff]; simp
   rw [q]; exact (H _ h).now
  | _=>exact h.elim
 | uW=>
  cases b with
  | none=>cases (rb:vb=.none); exact sD h ra H
  | _=>exact h.elim
end
open PySem PySem.Calls PyProof.Rows PySem.SeqAt MeetsSeq
theorem lP {i:Int}{n k:Nat}(h:dQ i n=some k):seqIndex? i n=some k∧k<n∧(0<=i->k=i.toNat)∧(i<0->k=(i+n).toNat∧-(n:Int)<=i):=by
 unfold dQ at h;unfold seqIndex?;by_cases h0:0<=i
 ·rw [if_pos h0] at h;have h2:=Int.not_lt.mpr h0;by_cases h1:i<n
  ·rw [if_pos h1] at h;have hk:=Ag h;refine ⟨?_,hk▸(Int.toNat_lt h0).mpr h1,fun _=>hk.symm,fun q=>absurd q h2⟩;show (if (decide (0<=if i<0 then i+n else i)&&decide ((if i<0 then i+n else i)<n))=true then some (if i<0 then i+n else i).toNat else none)=_
   rw [if_neg h2,decide_eq_true h0,decide_eq_true h1]; exact h
  ·rw [if_neg h1] at h; cases h
 ·rw [if_neg h0] at h;have h2:=Int.not_le.mp h0;by_cases h1:0<=i+n
  ·rw [if_pos h1] at h;have hk:=Ag h;have h3:i+n<n:=Int.lt_of_lt_of_le (Int.add_lt_add_right h2 n) (Int.le_of_eq (Int.zero_add _));refine ⟨?_,hk▸(Int.toNat_lt h1).mpr h3,fun q=>absurd q h0,fun _=>⟨hk.symm,Int.le_of_sub_nonneg (by rw [Int.sub_neg]; exact h1)⟩⟩;show (if (decide (0<=if i<0 then i+n else i)&&decide ((if i<0 then i+n else i)<n))=true then some (if i<0 then i+n else i).toNat else none)=_
   rw [if_pos h2,decide_eq_true h1,decide_eq_true h3]; exact h
  ·rw [if_neg h1] at h; cases h
theorem En:lid=1000000:=rfl
theorem vY {α:Type}(l:List α)(a b:Nat):(l.drop (min a l.length)).take (min b l.length-min a l.length)=cut l a b:=by
 unfold cut;rw [← List.drop_take];rcases Nat.le_total a l.length with h | h
 ·rw [Nat.min_eq_left h,← List.take_eq_take_min]
 ·rw [Nat.min_eq_right h,List.drop_of_length_le,List.drop_of_length_le]
  ·exact Aa (List.length_take_le' ..) h
  ·exact List.length_take_le' ..
theorem Bj {α:Type}(l:List α)(a b:Nat):(cut l a b).length<=l.length:=Aa (List.length_drop▸Nat.sub_le _ _) (List.length_take_le' ..)
theorem l8 {a b n:Nat}(h:a<=b):min a n<=min b n:=Nat.le_min.mpr ⟨Aa (Nat.min_le_left ..) h,Nat.min_le_right ..⟩
theorem rj (a b len:Nat)(C0:a<=b):Builtin.Str.strSliceIndices (some (a:Int)) (some (b:Int)) 1 len=(List.range (min b len-min a len)).map (fun k=>min a len+k):=by
 rw [← StrLaws.strSliceIndices_plain (a:=min a len) (b:=min b len) (len:=len) (l8 C0) (Nat.min_le_right ..)];unfold Builtin.Str.strSliceIndices;have h0:∀ n:Nat,¬ ((n:Int)<0):=fun n=>Int.not_lt.mpr (Av n);have h1:=h0 a;have h2:=h0 b;have h3:=h0 (min a len);have h4:=h0 (min b len);have h5:(1:Int)>0:=by decide
 simp only [h1,h2,h3,h4,h5,if_false,if_true];have q:∀ a:Nat,min ((min a len:Nat):Int) (len:Int)=min (a:Int) (len:Int):=fun a=>by
  rcases Nat.le_total a len with h | h
  ·rw [Nat.min_eq_left h]
  ·rw [Nat.min_eq_right h,Int.min_eq_right (Int.ofNat_le.mpr h),Int.min_self]
 rw [q,q]
theorem mn (x:Tx)(a b:Nat)(C0:a<=b):(Builtin.Str.strSliceIndices (some (a:Int)) (some (b:Int)) 1 (aE x).length).filterMap ((aE x).cps[·]?)=cut x a b:=by
 rw [rj a b _ C0,← StrLaws.strSliceIndices_plain (a:=min a (aE x).length) (b:=min b (aE x).length) (len:=(aE x).length) (l8 C0) (Nat.min_le_right ..),
  StrLaws.sliced_plain (aE x) (a:=min a (aE x).length) (b:=min b (aE x).length) (l8 C0) (Nat.min_le_right ..),aU]
 exact vY x a b
section
variable {c:Cx}{e:Ev}{s:Shared}{Y:aM}{J:ae}{Q:QV}{QC EC:Value->Shared->Prop}{A:Around}
theorem pF {i:Int}{n k:Nat}(h:dQ i n=some k)(hn:n<=lid):-(lid:Int)<=i∧i<lid:=by
 obtain ⟨_,h1,h2,h3⟩:=lP h;have hn:=Int.ofNat_le.mpr hn;have z:-(lid:Int)<=0:=Int.neg_nonpos_of_nonneg (Av lid);by_cases h0:0<=i
 ·exact ⟨Int.le_trans z h0,Int.lt_of_lt_of_le ((Int.toNat_lt h0).mp (h2 h0▸h1)) hn⟩
 ·exact ⟨Int.le_trans (Int.neg_le_neg hn) (h3 (Int.not_le.mp h0)).2,Int.lt_of_lt_of_le (Int.not_le.mp h0) (Av lid)⟩
theorem Gk {i:Int}(h:-(lid:Int)<=i):-(2 ^ 63:Int)<=i:=Int.le_trans (by decide) h
theorem Gl {i:Int}(h:i<(lid:Int)):i<(2 ^ 63:Int):=Int.lt_of_lt_of_le h (by decide)
theorem rP {p:Addr}{items:Array Value}{n:Nat}{i:Int}{t:Tok}{k:Nat}{x:AV}{l:List AV}(hk:dQ i l.length=some k)(hx:l[k]?=some x)(ho:IsL s.heap p items n)(rs:bl c.base s.heap Y l items.toList)(hz:l.length<=lid)(q:Q x J)(S:c.S Y e J s)(H:cV c e s Y Q QC) :
  wpAny c.M A (getItem (.ref p) (.int i t)) QC EC s:=by
 obtain ⟨v,hv,rv⟩:=rs.get hx;rw [Array.getElem?_toList] at hv;have hlen:=rs.size;obtain ⟨XU,T8,tc,Si⟩:=lP hk;have hb:=pF hk hz;by_cases h0:0<=i
 ·exact wpAny_getItem_list ho.isList h0 (Int.lt_trans hb.2 (by decide)) (tc h0▸hv) (H.dP S rv q)
 ·have hi:=Int.not_le.mp h0;have:=Si hi;exact wpAny_getItem_list_neg ho.isList hi (hlen▸this.2) (Int.le_trans (by decide) hb.1) (by rw [← hlen,← this.1]; exact hv) (H.dP S rv q)
theorem oI {a b:AV}{va vb:Value}(h:iJ a b J fun r=>Q r J)(S:c.S Y e J s)(ra:c.V s.heap Y a va)(rb:c.V s.heap Y b vb)(H:cV c e s Y Q QC) :
  wpAny c.M A (getItem va vb) QC EC s:=by
 have hl:=En;cases a with
 | obj r=>
  cases b with
  | int i=>
   obtain ⟨t,rfl⟩:=rb;refine dI h S ra (fun va=>wpAny c.M A (getItem va (.int i t)) QC EC s) fun l p items n L h=>?_;obtain ⟨k,hk,h⟩:=bL h;obtain ⟨x,hx,q⟩:=bL h;exact rP hk hx L.is L.rs L.le q S H
  | str x=>
   obtain ⟨es,h1,h⟩:=uc h;obtain ⟨v,hv,q⟩:=bL h;obtain ⟨t,rfl,hz⟩:=rb; obtain ⟨⟨p,d⟩,rfl,hp⟩:=ra;obtain ⟨e1,gm,Qk,hf,_⟩:=S.sim.obj _ _ _ hp h1;have:=hf.look x;rw [hv] at this;obtain ⟨v',e2,rv⟩:=this;exact wpAny_getItem_of (strKind_is _ _ _ t) Qk.mapOf e2 (H.now S rv q (Nat.le_succ _))
  | _=>exact h.elim
 | tup l=>
  refine bF h rb (fun vb=>wpAny c.M A (getItem va vb) QC EC s) fun i t h=>?_;obtain ⟨k,hk,h⟩:=bL h;obtain ⟨x,hx,q⟩:=bL h;obtain ⟨p,items,rfl,ht,rs,hz⟩:=ra;obtain ⟨v,hv,rv⟩:=rs.get hx;rw [Array.getElem?_toList] at hv;have b:=pF hk hz;exact PyProof.Rows.getItem_tuple ht.tup (Gk b.1) (Gl b.2) (by rw [← rs.size]; exact (lP hk).1) hv (H.dP S rv q)
 | jr l=>
  refine bF h rb (fun vb=>wpAny c.M A (getItem va vb) QC EC s) fun i t h=>?_;obtain ⟨k,hk,h⟩:=bL h;obtain ⟨x,hx,q⟩:=bL h;obtain ⟨p,items,rfl,⟨n,ht⟩,rs,hz⟩:=ra;exact rP hk hx (S.stays _ _ ht) rs hz q S H
 | str l=>
  refine bF h rb (fun vb=>wpAny c.M A (getItem va vb) QC EC s) fun i u h=>?_;obtain ⟨k,hk,h⟩:=bL h;obtain ⟨x,hx,q⟩:=bL h;obtain ⟨t,rfl,hz⟩:=ra;have b:=pF hk hz.1;refine PySem.P.getItem_str (c:=x) ?_ (by rw [aU,(lP hk).1]; show l.toArray[k]?=some x; rw [List.getElem?_toArray]; exact hx) (H.str (x:=[x]) S (Ar 1 999999) q);rw [decide_eq_false (Int.not_lt.mpr (Gk b.1)),decide_eq_false (Int.not_le.mpr (Gl b.2))]; rfl
 | _=>exact h.elim
theorem Mf {x:AV}{a:Nat}(h:Dk (some x)=some a):x=.int a:=by
 cases x with
 | int i=>
  have h:(if 0<=i then some i.toNat else Option.none)=some a:=h
  by_cases h0:0<=i
  ·rw [if_pos h0] at h; cases Ag h; rw [Int.toNat_of_nonneg h0]
  ·rw [if_neg h0] at h; cases h
 | _=>exact af rfl h
theorem Sm {n:Nat}{x:AV}{a:Nat}(h:Du n (some x)=some a):x=.int a:=by
 cases x<;>exact Mf h
noncomputable abbrev j9 (vl vh:Value):Obj:={ cls:=.type "slice",data:=.fields #[vl,vh,.none] }
noncomputable abbrev cO (s:Shared)(vl vh:Value):Shared:={ s with heap:=s.heap.push (j9 vl vh) }
noncomputable def kj (h:Heap)(Y:aM)(base:Heap):Option AV->Value->Prop
 | Option.none,v=>v=.none
 | some a,v=>RV base h Y a v
theorem j0 {r:Nat}{lo hi:Option AV}{va vl vh:Value}{l:List AV}{a b:Nat}(h1:J[r]?=some (.list l))(ha:Dk lo=some a)(hb:Du l.length hi=some b)(q:Q (.obj J.length) (J++[.list (cut l a b)]))(S:c.S Y e J s)(ra:c.V s.heap Y (.obj r) va)(rl:kj s.heap Y c.base lo vl)(rh:kj s.heap Y c.base hi vh)(H:cV c e s Y Q QC) :
  wpAny c.M A (getItem va (.ref s.heap.objs.size)) QC EC (cO s vl vh):=by
 have H':cV c e (cO s vl vh) Y Q QC:=H.pre ⟨rfl,rfl,rfl,Aj _⟩ (a7.push _);have S':=S.gM (j9 vl vh);have Lq:=Heap.IsSliceOf.new s.heap vl vh .none;have VF:=(a7.push (F:=c.F) (own:=jz) (j9 vl vh)).rv ra;obtain ⟨p,items,n,rfl,hp,ho,rs,hz⟩:=Cx.S.bM (s:=cO s vl vh) S' h1 VF;have hlen:=rs.size;have hl:=aK;have pl:∃ o,IsPart vl o∧(o.elim 0 (clipAt items.size):Nat)=min a items.size:=by
  cases lo with
  | none=>
   cases (rl:vl=.none); cases Ag (ha:some 0=some a);exact ⟨none,.none,(Nat.zero_min _).symm⟩
  | some x=>
   cases Mf ha;obtain ⟨t1,rfl⟩:=rl;exact ⟨some (a:Int),.int _ _,clipAt_nat ..⟩
 have pu:∃ o,IsPart vh o∧(o.elim items.size (clipAt items.size):Nat)=min b items.size:=by
  cases hi with
  | none=>
   cases (rh:vh=.none); cases Ag (hb:some l.length=some b);exact ⟨none,.none,by rw [hlen]; exact (Nat.min_self _).symm⟩
  | some x=>
   cases Sm hb;obtain ⟨t1,rfl⟩:=rh;exact ⟨some (b:Int),.int _ _,clipAt_nat ..⟩
 obtain ⟨o1,p1,e1⟩:=pl;obtain ⟨o2,p2,e2⟩:=pu;refine wpAny_getItem_list_slice (lo:=o1) (hi:=o2) (st:=none) ho.isList Lq p1 p2 .none (by simp) ?_ (by lia);rw [slicePick_plain,e1,e2];refine H'.list S' (vs:=cut l a b) ?_ ?_ q
 ·rw [List.toList_toArray,← Array.length_toList,vY];exact (rs.take b).drop a
 ·exact Aa (Bj ..) hz
theorem Ej {a b n:Nat}(h:min b n-min a n=n)(hn:0<n):a=0∧n<=b:=by
 have hb:n<=b:=Aa (Aa (Nat.le_of_eq h.symm) (Nat.sub_le ..)) (Nat.min_le_left b n);rw [Nat.min_eq_right hb] at h;rcases Nat.eq_zero_or_pos a with ha | ha
 ·exact ⟨ha,hb⟩
 ·exact absurd h (Nat.ne_of_lt (Nat.sub_lt hn (Nat.lt_min.mpr ⟨ha,hn⟩)))
theorem kI {l:Tx}{i j:Int}{va vl vh:Value}(h0:0<=i)(Fz:i<=j)(q:Q (.str (cut l i.toNat j.toNat)) J)(S:c.S Y e J s)(ra:c.V s.heap Y (.str l) va)(rl:c.V s.heap Y (.int i) vl)(rh:c.V s.heap Y (.int j) vh)(H:cV c e s Y Q QC) :
  wpAny c.M A (getItem va (.ref s.heap.objs.size)) QC EC (cO s vl vh):=by
 have H':cV c e (cO s vl vh) Y Q QC:=H.pre ⟨rfl,rfl,rfl,Aj _⟩ (a7.push _);have S':=S.gM (j9 vl vh);obtain ⟨t,rfl,hz⟩:=ra; obtain ⟨t1,rfl⟩:=rl; obtain ⟨t2,rfl⟩:=rh;refine wpAny_getItem_str_slice (l:=some (i,t1)) (u:=some (j,t2)) (st:=none) ⟨_,Heap.get?_push_size _ rfl,rfl,rfl⟩ rfl ?_;obtain ⟨a,rfl⟩:=Int.eq_ofNat_of_zero_le h0;obtain ⟨b,rfl⟩:=Int.eq_ofNat_of_zero_le (Int.le_trans h0 Fz);have C0:a<=b:=Int.ofNat_le.mp Fz;have Mw:(cut l a b).length<=lid:=Aa (Bj ..) hz.1;unfold sliceMade;rw [slicePicked];split
 ·rename_i hc
  have hc:=(Ab hc).2;have e1:cut l a b=l:=by
   have h1:=mn l a b C0;have h2:(Builtin.Str.strSliceIndices (some (a:Int)) (some (b:Int)) 1 (aE l).length).length=l.length:=eq_of_beq hc;rw [rj a b _ C0,Ah,List.length_range,aU] at h2;unfold cut;rcases Nat.eq_zero_or_pos l.length with Ql | Ql
   ·cases List.length_eq_zero_iff.mp Ql; rw [List.take_nil,List.drop_nil]
   ·have m:=Ej h2 Ql;rw [m.1,List.drop_zero,List.take_of_length_le m.2]
  exact H'.dP S' (a:=.str l) (v:=.str (aE l) t) (lI hz) (e1▸q)
 ·show (Made.str ⟨((Builtin.Str.strSliceIndices (some (a:Int)) (some (b:Int)) 1 (aE l).length).filterMap ((aE l).cps[·]?)).toArray⟩).post QC _;rw [mn l a b C0];exact ⟨Aa Mw aK,H'.str S' (x:=cut l a b) Mw q⟩
theorem xZ (b n:Nat)(hb:b<=n):Builtin.Slice.sliceAdjust none (some (b:Int)) 1 (n:Int)=(0,(b:Int)):=by
 unfold Builtin.Slice.sliceAdjust;have h1:¬ ((1:Int)<0):=by decide
 have h2:¬ ((b:Int)<0):=Int.not_lt.mpr (Av b);simp only [h1,h2,if_false];congr 1;exact Int.min_eq_left (Int.ofNat_le.mpr hb)
theorem xh (b:Nat):Builtin.Slice.slicePlaces 0 (b:Int) 1=b:=by
 unfold Builtin.Slice.slicePlaces;have h1:(1:Int)>0:=by decide
 simp only [h1,if_true,Int.ediv_one];split<;>omega
theorem j5 {prog:Program}{w:World}{A:Around}{E:Value->Shared->Prop}{s:Shared}{t sl:Addr}{items:Array Value}{b:Nat}{u:Tok}{Q:Value->Shared->Prop}(ht:IsTup s.heap t items)(hs:s.heap.IsSliceOf sl .none (.int b u) .none)(hb:b<items.size)
  (h:Q (.ref s.heap.objs.size) { s with heap:=s.heap.push { cls:=.type "tuple",data:=.seq (items.toList.take b).toArray } })
  (yd:items.size<=sizeLine):wpAny (model prog w) A (getItem (.ref t) (.ref sl)) Q E s:=by
 have hd:sizeOk (.seq (items.toList.take b).toArray):=by
  show (items.toList.take b).toArray.size<=sizeLine;rw [List.size_toArray];exact Aa (List.length_take_le' ..) (Array.length_toList▸yd)
 obtain ⟨os,uF,CE,qI⟩:=id hs;have WT:s.TypeIs (.ref sl) "slice":=⟨os,uF,CE⟩
 unfold getItem;refine wpAny_holding ?_;refine wpAny_bind (wpAny_sequenceKey ht.typeIs (by decide) ?_);refine wpAny_bind (wpAny_callSpecial?_slot (name:=Str.ofString "__getitem__") ht.typeIs slot_tuple_getitem
  (wpAny_call_entry slot_tuple_getitem ht.typeIs entry_tuple_getitem ?_ (args_tuple_getitem _ _)))
 show wpAny _ _ (Builtin.Tuple.tupleItemsOf (.ref t) >>= _) _ _ s;refine wpAny_bind (tupleItemsOf_ ht ?_);refine wpAny_bind (wpAny_typeOf WT ?_);rw [if_pos (by decide)];have ap:∀ {Q:Int×Int×Nat->Shared->Prop},Q (0,1,b) s->wpAny (model prog w) A.in1 (Builtin.Slice.sliceApplied (.ref sl) (pure (items.size:Int))) Q E s:=by
  intro Q h;unfold Builtin.Slice.sliceApplied Builtin.Slice.sliceFields;refine wpAny_bind (wpAny_bind (wpAny_field uF qI (x:=.none) rfl (wpAny_bind (wpAny_field uF qI (x:=.int b u) rfl (wpAny_bind (wpAny_field uF qI (x:=.none) rfl (wpAny_pure ?_)))))));refine wpAny_bind (slicePart_none ?_);show wpAny _ _ (if ((1:Int)==0)=true then _ else _) _ _ s
  rw [if_neg (by decide)];refine wpAny_bind (slicePart_none (wpAny_bind (slicePart_int (wpAny_bind (wpAny_pure ?_)))));show wpAny _ _ (match Builtin.Slice.sliceAdjust none (some (b:Int)) 1 (items.size:Int) with | (lo,hi)=>pure (lo,(1:Int),Builtin.Slice.slicePlaces lo hi 1)) _ _ s
  rw [xZ b _ (Nat.le_of_lt hb)];show wpAny _ _ (pure ((0:Int),(1:Int),Builtin.Slice.slicePlaces 0 (b:Int) 1)) _ _ s;rw [xh b];exact wpAny_pure h
 refine wpAny_bind (ap ?_);have Lx:¬ (((0:Int)==0&&(1:Int)==1&&b==items.size)=true):=by
  rw [beq_eq_false_iff_ne.mpr (Nat.ne_of_lt hb)]; decide
 show wpAny _ _ (if ((0:Int)==0&&(1:Int)==1&&b==items.size)=true then _ else _) _ _ s
 have pick:((List.range b).filterMap fun (k:Nat)=>items[((0:Int)+(k:Int)*1).toNat]?).toArray=(items.toList.take b).toArray:=by
  have e:(fun (k:Nat)=>items[((0:Int)+(k:Int)*1).toNat]?)=(fun x=>items[x]?) ∘ fun x=>0+x:=by
   funext k;rw [Int.mul_one,Int.zero_add,Int.toNat_natCast];exact congrArg (fun i=>items[i]?) (Nat.zero_add k).symm
  rw [e,← List.filterMap_map,pick_run items 0 b]; rfl
 rw [if_neg Lx,pick];exact wpAny_bind (m:=Builtin.Tuple.tupleExact _) (wpAny_newObj_type (wpAny_pure ⟨_,rfl,wpAny_pure h⟩) hd)
theorem sx {a:AV}{lo hi:Option AV}{va vl vh:Value}(h:tD a lo hi J Q)(S:c.S Y e J s)(ra:c.V s.heap Y a va)(rl:kj s.heap Y c.base lo vl)(rh:kj s.heap Y c.base hi vh)(H:cV c e s Y Q QC) :
  wpAny c.M A (getItem va (.ref s.heap.objs.size)) QC EC (cO s vl vh):=by
 cases a with
 | str l=>
  obtain ⟨x,rfl,h⟩:=bL h;obtain ⟨y,rfl,h⟩:=bL h;obtain ⟨i,rfl,h⟩:=iQ h;obtain ⟨j,rfl,h0,Fz,q⟩:=iQ h;exact kI h0 Fz q S ra rl rh H
 | tup l=>
  cases hi with
  | some y=>
   obtain ⟨j,rfl,rfl,h0,hj,q⟩:=iQ h;obtain ⟨t1,rfl⟩:=rh; cases (rl:vl=.none);have H':cV c e (cO s .none (.int j t1)) Y Q QC:=H.pre ⟨rfl,rfl,rfl,Aj _⟩ (a7.push _);have S':=S.gM (j9 .none (.int j t1));obtain ⟨p,items,rfl,ht,rs,hz⟩:=(a7.push (F:=c.F) (own:=jz) (j9 .none (.int j t1))).rv ra;obtain ⟨k,rfl⟩:=Int.eq_ofNat_of_zero_le h0;refine j5 (b:=k) (u:=t1) ht.tup (Heap.IsSliceOf.new s.heap _ _ .none) (rs.size▸Int.ofNat_lt.mp hj) ?_ (rs.size▸Aa hz aK);exact H'.tuple S' (vs:=l.take k) (items:=(items.toList.take k).toArray) (rs.take k) (Aa (List.length_take_le' ..) hz) q
  | none=>
   obtain ⟨x,rfl,h⟩:=bL h;obtain ⟨i,rfl,h1,hi,q⟩:=iQ h;obtain ⟨t1,rfl⟩:=rl; cases (rh:vh=.none);have H':cV c e (cO s (.int i t1) .none) Y Q QC:=H.pre ⟨rfl,rfl,rfl,Aj _⟩ (a7.push _);have S':=S.gM (j9 (.int i t1) .none);obtain ⟨p,items,rfl,ht,rs,hz⟩:=(a7.push (F:=c.F) (own:=jz) (j9 (.int i t1) .none)).rv ra;have hlen:=rs.size;obtain ⟨k,rfl⟩:=Int.eq_ofNat_of_zero_le (show 0<=i by lia);have hl:=aK;refine PyProof.Rows.getItem_tuple_from (a:=k) (u:=t1) ht.tup (Heap.IsSliceOf.new s.heap _ _ .none) (by lia) (by lia) ?_ (by lia);exact H'.tuple S' (vs:=l.drop k) (items:=(items.toList.drop k).toArray) (rs.drop k) (Aa (List.length_drop▸Nat.sub_le _ _) hz) q
 | obj r=>
  obtain ⟨l,h1,h⟩:=bR h;obtain ⟨x,ha,h⟩:=bL h;obtain ⟨y,hb,q⟩:=bL h;exact j0 h1 ha hb q S ra rl rh H
 | _=>exact h.elim
end
open PySem PySem.Calls PyProof.Rows PySem.SeqAt MeetsSeq
theorem nK {α:Type}(p:Nat->Bool)(xs:List α)(a j:Nat)(hp:∀ k,j<=k->k<j+xs.length->p k=decide (a<=k)):((xs.zipIdx j).filterMap fun x=>if p x.2 then none else some x.1)=xs.take (a-j):=by
 induction xs generalizing j with
 | nil=>exact List.take_nil.symm
 | cons x xs ih=>
  have h0:=hp j (Aj _) (Nat.lt_add_of_pos_right (Nat.succ_pos _));have ih:=ih (j+1) fun k h1 h2=>hp k (Ap h1) (Aw j 1 xs.length▸h2);rw [List.zipIdx_cons,List.filterMap_cons];by_cases h:a<=j
  ·simp only [h0,h,decide_true,if_true];rw [ih,Nat.sub_eq_zero_of_le h,Nat.sub_eq_zero_of_le (Nat.le_succ_of_le h)]; rfl
  ·simp only [h0,h,decide_false,Bool.false_eq_true,if_false];rw [ih,← Nat.succ_pred_eq_of_pos (Nat.sub_pos_of_lt (Nat.lt_of_not_le h))]; rfl
theorem Cf {α:Type}(p:Nat->Bool)(xs:List α)(a:Nat)(hp:∀ k,k<xs.length->p k=decide (a<=k)):(xs.zipIdx.filterMap fun x=>if p x.2 then none else some x.1)=xs.take a:=nK p xs a 0 fun k _ h=>hp k (Nat.zero_add xs.length▸h)
theorem r9 (items:Array Value)(k:Nat):(items.extract k items.size).toList=items.toList.drop k:=by
 rw [Array.toList_extract,List.extract_eq_take_drop];exact List.take_of_length_le (Nat.le_of_eq List.length_drop)
theorem r8 (items:Array Value)(k:Nat):(items.extract 0 k).toList=items.toList.take k:=by
 rw [Array.toList_extract,List.extract_eq_take_drop]; rfl
theorem vZ {α:Type}(l l':List α)(k:Nat):(l.take k++l'++l.drop k).length=l.length+l'.length:=by
 rw [Ac,Ac,Aw,← Ac,List.take_append_drop]
section
variable {prog:Program}{w:World}{A:Around}{E:Value->Shared->Prop}{s:Shared}
theorem EL {i:Int}{n k:Nat}(h:dQ i n=some k)(hn:n<=lid):Builtin.List.listFitsIndex i=true:=by
 have hb:=pF h hn;by_cases h0:0<=i
 ·exact fitsIndex_of h0 (Int.lt_trans hb.2 (by decide))
 ·exact fitsIndex_neg (Int.not_le.mp h0) (Int.le_trans (by decide) hb.1)
theorem nE {l:Addr}{items:Array Value}{n:Nat}{i:Int}{u:Tok}{k:Nat}{v:Value}{Q:Unit->Shared->Prop}(hl:IsL s.heap l items n)(hk:dQ i items.size=some k)(hn:items.size<=lid)
  (h:Q () { s with heap:=s.heap.update l (Obj.mapSeq (·.setIfInBounds k v)) }):wpAny (model prog w) A (setItem (.ref l) (.int i u) v) Q E s:=by
 have hT:s.TypeIs (.ref l) "list":=⟨_,hl,rfl⟩
 obtain ⟨hs,T8,h1,h2⟩:=lP hk;have HQ:=EL hk hn;have hx:items[k]?=some items[k]:=Array.getElem?_eq_getElem T8;unfold setItem;refine wpAny_holding ?_;refine wpAny_bind (wpAny_sequenceKey hT (by decide) ?_);refine wpAny_bind (wpAny_callSpecial?_slot (name:=Str.ofString "__setitem__") hT slot_list_setitem
  (wpAny_call_entry slot_list_setitem hT entry_list_setitem ?_ (args_list_setitem _ _ _)))
 show wpAny _ _ (Builtin.List.listSubscript? (.int i u) >>= _) _ _ s;refine wpAny_bind (wpAny_listSubscript_int HQ ?_);by_cases h0:0<=i
 ·obtain ⟨j,rfl⟩:=Int.eq_ofNat_of_zero_le h0;obtain rfl:k=j:=by have:=h1 h0; simpa using this
  show wpAny _ _ ((seqItemAt l k >>= fun r=>pure (r.map (k,·))) >>= _) _ _ s;refine wpAny_bind (wpAny_bind (wpAny_seqItemAt hl rfl (wpAny_pure ?_)));rw [hx];show wpAny _ _ (setSeqItemAt l k v >>= _) _ _ s;refine wpAny_bind (wpAny_setSeqItemAt hl rfl ?_)
  first
   | exact wpAny_bind (wpAny_pure (wpAny_pure ⟨.none,rfl,wpAny_pure h⟩))
   | exact wpAny_pure ⟨.none,rfl,wpAny_pure h⟩
 ·obtain ⟨j,rfl⟩:∃ j:Nat,i=Int.negSucc j:=by
   cases i with
   | ofNat n=>exact absurd (Av n) h0
   | negSucc j=>exact ⟨j,rfl⟩
  show wpAny _ _ ((Builtin.List.listItems (.ref l) >>= fun xs=>pure ((seqIndex? (Int.negSucc j) xs.size).bind fun j=>xs[j]?.map (j,·))) >>= _) _ _ s;refine wpAny_bind (wpAny_bind ?_);unfold Builtin.List.listItems;refine wpAny_bind (wpAny_seqItems hl rfl (wpAny_pure (wpAny_pure ?_)));rw [hs];simp only [Option.bind_some,hx,Option.map_some];show wpAny _ _ (setSeqItemAt l k v >>= _) _ _ s;refine wpAny_bind (wpAny_setSeqItemAt hl rfl ?_)
  first
   | exact wpAny_bind (wpAny_pure (wpAny_pure ⟨.none,rfl,wpAny_pure h⟩))
   | exact wpAny_pure ⟨.none,rfl,wpAny_pure h⟩
theorem kn {sl:Addr}{vl vu:Value}{lo hi:Option Int}{Q:Value×Value×Value->Shared->Prop}(hs:s.heap.IsSliceOf sl vl vu .none)(pl:IsPart vl lo)(pu:IsPart vu hi)(h:Q (rawPart lo,rawPart hi,.none) s) :
  wpAny (model prog w) A (Builtin.List.listSliceParts (.ref sl)) Q E s:=by
 obtain ⟨os,uF,CE,qI⟩:=id hs;rw [listSliceParts_eq];refine wpAny_bind (wpAny_field uF qI (x:=.none) rfl (wpAny_bind (wpAny_listPart .none ?_)));rw [if_neg (show ¬ ((rawPart none==rawInt 0)=true) from Bool.false_ne_true)];refine wpAny_bind (wpAny_field uF qI (x:=vl) rfl (wpAny_bind (wpAny_listPart pl ?_)));exact wpAny_bind (wpAny_field uF qI (x:=vu) rfl (wpAny_bind (wpAny_listPart pu (wpAny_pure h))))
theorem ot {sl:Addr}{vl vu:Value}{Q:Option Int->Shared->Prop}(hs:s.heap.IsSliceOf sl vl vu .none)(h:Q none s):wpAny (model prog w) A (Builtin.List.listSubscript? (.ref sl)) Q E s:=by
 obtain ⟨os,uF,CE,qI⟩:=id hs;unfold Builtin.List.listSubscript?;refine wpAny_bind (wpAny_specialOf (⟨os,uF,CE⟩:s.TypeIs (.ref sl) "slice") slice_no_index ?_)
 simp only [Option.isNone_none,if_true];exact wpAny_pure h
theorem mQ {l m sl:Addr}{items dc:Array Value}{n n2 a:Nat}{t u:Tok}{Q:Unit->Shared->Prop}(hl:IsL s.heap l items n)(hm:IsL s.heap m dc n2)(Wu:l≠m)(hs:s.heap.IsSliceOf sl (.int a t) (.int a u) .none)(ha:a<=items.size)(hz:items.size+dc.size<=sizeLine)
  (h:Q () { s with heap:=s.heap.update l (Obj.mapSeq fun xs=>xs.extract 0 a++dc++xs.extract a xs.size) }):wpAny (model prog w) A (setItem (.ref l) (.ref sl) (.ref m)) Q E s:=by
 have hT:s.TypeIs (.ref l) "list":=⟨_,hl,rfl⟩
 obtain ⟨os,uF,CE,qI⟩:=id hs;unfold setItem;refine wpAny_holding ?_;refine wpAny_bind (wpAny_sequenceKey hT (by decide) ?_);refine wpAny_bind (wpAny_callSpecial?_slot (name:=Str.ofString "__setitem__") hT slot_list_setitem
  (wpAny_call_entry slot_list_setitem hT entry_list_setitem ?_ (args_list_setitem _ _ _)))
 show wpAny _ _ (Builtin.List.listSubscript? (.ref sl) >>= _) _ _ s;refine wpAny_bind (ot hs ?_);show wpAny _ _ (typeOf (.ref sl) >>= _) _ _ s;refine wpAny_bind (wpAny_typeOf (⟨os,uF,CE⟩:s.TypeIs (.ref sl) "slice") ?_)
 rw [if_neg (by decide)];refine wpAny_bind (kn hs (.int _ _) (.int _ _) ?_);have Wa:Builtin.List.listSameRef (.ref l) (.ref m)=false:=by simp [Builtin.List.listSameRef,Wu]
 rw [Wa];refine wpAny_bind (m:=Builtin.List.listAllItems (.ref m) _) ?_;unfold Builtin.List.listAllItems;refine wpAny_bind (wpAny_typeOf (⟨_,hm,rfl⟩:s.TypeIs (.ref m) "list") ?_)
 rw [if_pos (by decide)];unfold Builtin.List.listItems;refine wpAny_bind (wpAny_seqItems hm rfl (wpAny_pure ?_));refine wpAny_bind (wpAny_bind (wpAny_seqItems hl rfl (wpAny_pure ?_)));refine wpAny_bind (wpAny_of_eq (sliceIndices_raw (some a) (some a) none items.size (by simp)) ?_);have hb:sliceBounds (some (a:Int)) (some (a:Int)) none items.size=((a:Int),(a:Int),1):=by
  unfold sliceBounds;have h1:¬ ((a:Int)<0):=Int.not_lt.mpr (Av a);have h2:max (0:Int) (min (a:Int) (items.size:Int))=a:=by rw [Int.min_eq_left (Int.ofNat_le.mpr ha),Int.max_eq_right (Av a)]
  simp [h1,h2]
 rw [hb];show wpAny _ _ (if ((1:Int)==1)=true then _ else _) _ _ s
 rw [if_pos (by decide)];refine wpAny_bind (wpAny_rule ?_);have NK:Builtin.List.listTooLong (items.size+dc.size)=false:=by
  unfold Builtin.List.listTooLong;exact decide_eq_false (by lia)
 rw [NK];rw [if_neg Bool.false_ne_true];refine wpAny_bind (m:=Builtin.List.listUpdate (.ref l) _) ?_;show wpAny _ _ (updateSeq l _) _ _ s;refine wpAny_updateSeq hl rfl ?_ (by lia) ?_
 ·refine wpAny_bind (wpAny_letGo ?_);refine wpAny_bind (m:=ret .none) (wpAny_pure (wpAny_pure ⟨.none,rfl,wpAny_pure ?_⟩))
  simpa using h
 ·rw [Int.max_self,Int.toNat_natCast,← Array.length_toList,Array.toList_append,Array.toList_append,r9,r8,vZ,Array.length_toList,Array.length_toList];exact Aa hz (Nat.le_succ _)
theorem mU {l sl:Addr}{items:Array Value}{n a:Nat}{t:Tok}{Q:Unit->Shared->Prop}(hl:IsL s.heap l items n)(hs:s.heap.IsSliceOf sl (.int a t) .none .none)(ha:a<=items.size)(hz:items.size<=sizeLine)
  (h:∀ g:Array Value->Array Value,(g items).toList=items.toList.take a->Q () { s with heap:=s.heap.update l (Obj.mapSeq g) }):wpAny (model prog w) A (delItem (.ref l) (.ref sl)) Q E s:=by
 have hT:s.TypeIs (.ref l) "list":=⟨_,hl,rfl⟩
 obtain ⟨os,uF,CE,qI⟩:=id hs;refine wpAny_delItem_slot hT (by decide) F.slot_list_delitem ?_;refine wpAny_call_entry F.slot_list_delitem hT F.entry_list_delitem ?_ (F.args_list_delitem_2 _ _);show wpAny _ _ (Builtin.List.listSubscript? (.ref sl) >>= _) _ _ s;refine wpAny_bind (ot hs ?_);show wpAny _ _ (typeOf (.ref sl) >>= _) _ _ s;refine wpAny_bind (wpAny_typeOf (⟨os,uF,CE⟩:s.TypeIs (.ref sl) "slice") ?_)
 rw [if_neg (by decide)];refine wpAny_bind (kn hs (.int _ _) .none ?_);unfold Builtin.List.listItems;refine wpAny_bind (wpAny_bind (wpAny_seqItems hl rfl (wpAny_pure ?_)));refine wpAny_bind (wpAny_of_eq (sliceIndices_raw (some a) none none items.size (by simp)) ?_);have hb:sliceBounds (some (a:Int)) none none items.size=((a:Int),(items.size:Int),1):=by
  unfold sliceBounds;have h1:¬ ((a:Int)<0):=Int.not_lt.mpr (Av a);have h2:max (0:Int) (min (a:Int) (items.size:Int))=a:=by rw [Int.min_eq_left (Int.ofNat_le.mpr ha),Int.max_eq_right (Av a)]
  simp [h1,h2]
 rw [hb];refine wpAny_bind (wpAny_rule ?_);refine wpAny_bind (m:=Builtin.List.listUpdate (.ref l) _) ?_;show wpAny _ _ (updateSeq l _) _ _ s;have key:∀ (p:Nat->Bool),(∀ k,k<items.size->p k=decide (a<=k))->(items.toList.zipIdx.filterMap fun x=>if p x.2 then none else some x.1)=items.toList.take a:=fun p hp=>Cf p _ a fun k hk=>hp k (by simpa using hk)
 have sel:∀ k,k<items.size->(decide ((a:Int)<=k)&&decide ((k:Int)<items.size)&&(((k:Int)-a)%1==0))=decide (a<=k):=fun k hk=>by
  have h1:decide ((k:Int)<items.size)=true:=decide_eq_true (Int.ofNat_lt.mpr hk);rw [h1,Bool.and_true,Int.emod_one];simp
 refine wpAny_updateSeq hl rfl ?_ hz ?_
 ·refine wpAny_bind (wpAny_letGo ?_);refine wpAny_bind (m:=ret .none) (wpAny_pure (wpAny_pure ⟨.none,rfl,h _ ?_⟩));show (List.filterMap _ items.toList.zipIdx).toArray.toList=_;rw [List.toList_toArray];exact key (fun k=>decide ((a:Int)<=k)&&decide ((k:Int)<items.size)&&(((k:Int)-a)%1==0)) sel
 ·show (List.filterMap _ items.toList.zipIdx).toArray.size<=_;rw [List.size_toArray];refine Aa (List.length_filterMap_le _ _) ?_;simp only [List.length_zipIdx,Array.length_toList];lia
end
open PySem PySem.Calls PyProof.Rows PySem.SeqAt MeetsSeq
def Pj (c:Cx)(e:Ev)(s:Shared)(Y:aM)(Q:QX)(QC:Unit->Shared->Prop):Prop:=
 ∀ s' Y' J',bx s s'->c.P Y s.heap Y' s'.heap->c.S Y' e J' s'->Q J'->QC () s'
theorem qq:fillsInplaceSlot (.type "list") "add" (Operator.Add==.Add)=pure false:=by
 unfold fillsInplaceSlot;show (typeLookup (.type "list") (dunderI "add") >>= fun fi=>pure (fi.isSome&&!isSeqSlot fi))=pure false
 rw [typeLookup_type,builtinLookup_eq_fast]; kernel_rfl
theorem xa:seqSlot? (.type "list") (dunderI "add")=pure (some (.builtin "list.__iadd__")):=by
 unfold seqSlot?;rw [typeLookup_type,builtinLookup_eq_fast]; kernel_rfl
section
variable {c:Cx}{e:Ev}{s:Shared}{Y:aM}{J:ae}{Q:QV}{X:QX}{QC EC:Value->Shared->Prop}{UC:Unit->Shared->Prop}{A:Around}
theorem jj {a i x:AV}{va vi vx:Value}(h:dT a i x J X)(S:c.S Y e J s)(ra:c.V s.heap Y a va)(ri:c.V s.heap Y i vi)(rx:c.V s.heap Y x vx)(H:Pj c e s Y X UC) :
  wpAny c.M A (setItem va vi vx) UC EC s:=by
 refine ee h ra fun r ra h=>?_;cases i with
 | int i=>
  obtain ⟨t,rfl⟩:=ri;refine dI h S ra (fun va=>wpAny c.M A (setItem va _ vx) UC EC s) fun l p items n L h=>?_;obtain ⟨k,hk,q⟩:=bL h;refine nE L.is (L.size▸hk) (L.size▸L.le) ?_;obtain ⟨P,S'⟩:=Cx.S.eD (l':=l.set k x) S L.at_ L.is (g:=(·.setIfInBounds k vx)) rfl (by rw [Array.toList_setIfInBounds]; exact L.rs.set k rx) (by rw [List.length_set]; exact L.le);exact H _ Y _ ⟨rfl,rfl,rfl,Aj _⟩ P S' q
 | str x'=>
  obtain ⟨es,h1,hz,q⟩:=uc h;obtain ⟨t,rfl,_⟩:=ri; obtain ⟨⟨p,d⟩,rfl,hp⟩:=ra;obtain ⟨e1,gm,hm,hf,qF⟩:=S.sim.obj _ _ _ hp h1;cases (e1:d=none);refine wpAny_setItem_pairs (strKind_is _ _ _ t) hm (fun h' OX hs=>?_) (hf.length▸Aa (Nat.le_of_lt hz) aK);have nB:p∈bP Y:=cI hp (eh _);obtain ⟨oa,Lu,hi⟩:=S.sim.lt nB;have hex:∃ o',h'.get? p=some o':=by obtain ⟨o',_,_,dZ,_⟩:=OX; exact ⟨o',dZ⟩
  have P:c.P Y s.heap Y h':=a7.upd hs hex Lu hi nB;have nd:(gm.map (·.1)).Nodup:=by obtain ⟨_,_,_,_,_,_,_,_,nd⟩:=hm; exact nd
  exact H _ Y _ ⟨rfl,rfl,rfl,Nat.le_succ _⟩ P ((S.le (Nat.le_succ _)).heap (S.toSt.upd (o:=.dict (putD x' x es)) hp (eh _) hs hex ⟨rfl,_,OX,(hf.put x' rx nd).mono P.fS (aM.Le.refl _),Aa (sy x' x es) hz⟩).2) q
 | _=>exact h.elim
theorem mP {a lo hi x:AV}{va vl vh vx:Value}(h:ou a lo hi x J X)(S:c.S Y e J s)(ra:c.V s.heap Y a va)(rl:c.V s.heap Y lo vl)(rh:c.V s.heap Y hi vh)(rx:c.V s.heap Y x vx)(H:Pj c e s Y X UC) :
  wpAny c.M A (setItem va (.ref s.heap.objs.size) vx) UC EC (cO s vl vh):=by
 refine ee h ra fun r ra h=>bF h rl (fun vl=>wpAny c.M A (setItem va (.ref s.heap.objs.size) vx) UC EC (cO s vl vh)) fun i t1 h=>bF h rh (fun vh=>wpAny c.M A (setItem va (.ref s.heap.objs.size) vx) UC EC (cO s (.int i t1) vh)) fun j t2 h=>ee h rx fun r' rx h=>?_;have Pp:c.P Y s.heap Y (cO s (.int i t1) (.int j t2)).heap:=a7.push _;have S':c.S Y e J (cO s (.int i t1) (.int j t2)):=S.gM _;refine dI h S' (Pp.rv ra) (fun va=>wpAny c.M A (setItem va (.ref s.heap.objs.size) vx) UC EC (cO s (.int i t1) (.int j t2))) fun l p items n L h=>dI h S' (Pp.rv rx) (fun vx=>wpAny c.M A (setItem (.ref p) (.ref s.heap.objs.size) vx) UC EC (cO s (.int i t1) (.int j t2))) fun l' p' items' n' L' h=>?_;obtain ⟨fG,rfl,h0,LB,hz,q⟩:=h;obtain ⟨k,rfl⟩:=Int.eq_ofNat_of_zero_le h0;refine mQ L.is L'.is (fun q=>S.sim.apart r r' _ _ fG L.at_ L'.at_ p (eh _) (q▸eh _)) (Heap.IsSliceOf.new ..) (L.size▸Int.ofNat_le.mp LB) (L.size▸L'.size▸Aa hz aK) ?_;obtain ⟨P,LS⟩:=Cx.S.eD (l':=l.take k++l'++l.drop k) S' L.at_ L.is (g:=fun xs=>xs.extract 0 k++items'++xs.extract k xs.size)
  (items':=items.extract 0 k++items'++items.extract k items.size) rfl (by
   rw [Array.toList_append,Array.toList_append,r9,r8];exact ((L.rs.take k).append L'.rs).append (L.rs.drop k)) (by rw [vZ]; exact hz)
 exact H _ Y _ ⟨rfl,rfl,rfl,Aj _⟩ (Pp.trans P) LS q
theorem nJ {a lo:AV}{va vl:Value}(h:sh a lo J X)(S:c.S Y e J s)(ra:c.V s.heap Y a va)(rl:c.V s.heap Y lo vl)(H:Pj c e s Y X UC) :
  wpAny c.M A (delItem va (.ref s.heap.objs.size)) UC EC (cO s vl .none):=by
 refine ee h ra fun r ra h=>bF h rl (fun vl=>wpAny c.M A (delItem va (.ref s.heap.objs.size)) UC EC (cO s vl .none)) fun i t1 h=>?_;have Pp:c.P Y s.heap Y (cO s (.int i t1) .none).heap:=a7.push _;have S':c.S Y e J (cO s (.int i t1) .none):=S.gM _;refine dI h S' (Pp.rv ra) (fun va=>wpAny c.M A (delItem va (.ref s.heap.objs.size)) UC EC (cO s (.int i t1) .none)) fun l p items n L h=>?_;obtain ⟨h0,LB,q⟩:=h;obtain ⟨k,rfl⟩:=Int.eq_ofNat_of_zero_le h0;refine mU L.is (Heap.IsSliceOf.new ..) (L.size▸Int.ofNat_le.mp LB) (L.size▸Aa L.le aK) fun g hg=>?_;obtain ⟨P,LS⟩:=Cx.S.eD (l':=l.take k) S' L.at_ L.is (g:=g) (items':=g items) rfl (by rw [hg]; exact L.rs.take k) (Aa (List.length_take_le' ..) L.le);exact H _ Y _ ⟨rfl,rfl,rfl,Aj _⟩ (Pp.trans P) LS q
theorem qy {r:Nat}{l:List AV}{x:AV}{va vx:Value}(h1:J[r]?=some (.list l))(hz:l.length<lid)(q:Q .none (J.set r (.list (l++[x]))))(S:c.S Y e J s)(ra:c.V s.heap Y (.obj r) va)(rx:c.V s.heap Y x vx)(H:cV c e s Y Q QC) :
  wpAny c.M A (call (.builtin "list.append") [va,vx]) QC EC s:=by
 obtain ⟨p,items,n,rfl,hp,ho,rs,_⟩:=Cx.S.bM S h1 ra;have e1:=rs.size;have hl:=aK;refine call_meets F.slot_list_append ⟨_,ho,rfl⟩ F.entry_list_append (F.args_list_append_2 _ _) (list_append p items n vx (by lia)) ⟨ho,?_⟩;obtain ⟨P,S'⟩:=Cx.S.eD (l':=l++[x]) S hp ho (g:=fun xs=>xs.push vx) rfl (by
  rw [Array.toList_push]; exact rs.append (.one rx)) (by rw [Ac]; exact hz)
 exact H _ _ Y _ _ ⟨rfl,rfl,rfl,Aj _⟩ P S' i7 q
theorem jm {r:Nat} {l l':List AV} {items':Array Value} {n':Nat} {T':String} {va:Value} {p':Addr} (h1:J[r]?=some (.list l)) (hT:T'="list"∨T'="tuple") (dZ:s.heap.get? p'=some { cls:=.type T',dict:=none,data:=.seq items' n',slots:=#[] }) (mZ:bl c.base s.heap Y l' items'.toList)
  (hz:l.length+l'.length<=lid) (q:Q .none (J.set r (.list (l++l')))) (S:c.S Y e J s) (ra:c.V s.heap Y (.obj r) va) (H:cV c e s Y Q QC) :
  wpAny c.M A (call (.builtin "list.extend") [va,.ref p']) QC EC s:=by
 obtain ⟨p,items,n,rfl,hp,ho,rs,_⟩:=Cx.S.bM S h1 ra;have qF:=Aa hz aK;rw [rs.size,mZ.size] at qF;have nl:¬(!items.isEmpty&&Builtin.List.listTooLong (items.size+items'.size))=true:=by
  have:Builtin.List.listTooLong (items.size+items'.size)=false:=by
   unfold Builtin.List.listTooLong; exact decide_eq_false (Nat.not_lt.mpr qF)
  rw [this,Bool.and_false]; exact Bool.false_ne_true
 have fin:QC .none { s with heap:=s.heap.update p (Obj.mapSeq fun x=>x++items') }:=by
  obtain ⟨P,S'⟩:=Cx.S.eD (l':=l++l') S hp ho (g:=fun xs=>xs++items') rfl (by rw [Array.toList_append]; exact rs.append mZ) (by rw [Ac]; exact hz);exact H _ _ Y _ _ ⟨rfl,rfl,rfl,Aj _⟩ P S' i7 q
 rcases hT with rfl | rfl
 ·exact call_meets F.slot_list_extend ⟨_,ho,rfl⟩ F.entry_list_extend (F.args_list_extend_2 _ _) (AutoSeq1.list_extend_list_list_0 p items n p' items' n' nl (Aa (Af ..) qF) (Nat.le_succ_of_le qF)) ⟨ho,dZ,fin⟩
 ·exact call_meets F.slot_list_extend ⟨_,ho,rfl⟩ F.entry_list_extend (F.args_list_extend_2 _ _) (AutoSeq1.list_extend_list_tuple_0 p items n p' items' n' nl (Aa (Af ..) qF) (Nat.le_succ_of_le qF)) ⟨ho,dZ,fin⟩
theorem xg {r:Nat}{l:List AV}{x:AV}{va:Value}(h1:J[r]?=some (.list (l++[x])))(q:Q x (J.set r (.list l)))(S:c.S Y e J s)(ra:c.V s.heap Y (.obj r) va)(H:cV c e s Y Q QC) :
  wpAny c.M A (call (.builtin "list.pop") [va]) QC EC s:=by
 obtain ⟨p,items,n,rfl,hp,ho,rs,hz⟩:=Cx.S.bM S h1 ra;have e1:=rs.size;rw [Ac] at e1 hz;have e1:l.length+1=items.size:=e1;have hl:=aK;obtain ⟨v,hv,rv⟩:=rs.get (k:=l.length) (x:=x) List.getElem?_concat_length;rw [Array.getElem?_toList] at hv;have yd:items.size-1=l.length:=by rw [← e1]; rfl
 refine call_meets F.slot_list_pop ⟨_,ho,rfl⟩ F.entry_list_pop (F.args_list_pop_1 _) (list_pop_last p items n v (by rw [yd]; exact hv) (by lia)) ⟨ho,?_⟩;obtain ⟨P,S'⟩:=Cx.S.eD (l':=l) S hp ho (g:=fun xs=>xs.eraseIdxIfInBounds (items.size-1)) (items':=items.eraseIdxIfInBounds (items.size-1)) rfl (by
  have e2:(items.eraseIdxIfInBounds (items.size-1)).toList=items.toList.take l.length:=by
   unfold Array.eraseIdxIfInBounds;rw [dif_pos (by rw [← e1]; exact Nat.lt_succ_self _),Array.toList_eraseIdx,yd,List.eraseIdx_eq_take_drop_succ,List.drop_of_length_le (by rw [Array.length_toList,e1]; exact Aj _),List.append_nil]
  rw [e2];have:=rs.take l.length;rw [List.take_left] at this; exact this) (Ap hz)
 exact H _ _ Y _ _ ⟨rfl,rfl,rfl,Aj _⟩ P S' (P.rv rv) q
theorem iW {op:wy}{a b:AV}{va vb:Value}(h:lC op a b J Q)(S:c.S Y e J s)(ra:c.V s.heap Y a va)(rb:c.V s.heap Y b vb)(H:cV c e s Y Q QC) :
  wpAny c.M A (inplaceOp (nz op) va vb) QC EC s:=by
 cases op with
 | add=>
  cases a with
  | obj r=>
   refine ee h rb fun r' rb h=>dI h S ra (fun va=>(c.V s.heap Y (.obj r) va)->wpAny c.M A (inplaceOp .Add va vb) QC EC s) (fun l p items n L h ra=>dI h S rb (fun vb=>wpAny c.M A (inplaceOp .Add (.ref p) vb) QC EC s) fun l' p' items' n' L' h=>?_) ra;obtain ⟨fG,hz,q⟩:=h;have qF:=Aa hz aK;have hT:s.TypeIs (.ref p) "list":=⟨_,L.is,rfl⟩
   have WU:s.TypeIs (.ref p') "list":=⟨_,L'.is,rfl⟩
   rw [L.size,L'.size] at qF;unfold inplaceOp;refine wpAny_holding ?_;refine wpAny_bind (wpAny_typeOf hT (wpAny_bind (wpAny_of_eq qq ?_)));show wpAny _ A (if false=true then _ else _) _ _ s
   rw [if_neg Bool.false_ne_true];refine wpAny_bind (binaryOp1_none (nm:="add") hT WU noFill_list_add ?_)
   refine wpAny_bind (wpAny_of_eq xa ?_);refine wpAny_bind (wpAny_rule ?_);refine call_meets F.slot_list_iadd hT F.entry_list_iadd (F.args_list_iadd_2 _ _) (AutoSeq1.list___iadd___list_list_0 p items n p' items' n' ?_ (Aa (Af ..) qF) (Nat.le_succ_of_le qF)) ⟨L.is,L'.is,?_⟩
   ·have:Builtin.List.listTooLong (items.size+items'.size)=false:=by
     unfold Builtin.List.listTooLong; exact decide_eq_false (Nat.not_lt.mpr qF)
    rw [this]; simp
   ·obtain ⟨P,S'⟩:=Cx.S.eD (l':=l++l') S L.at_ L.is (g:=fun xs=>xs++items') rfl (by rw [Array.toList_append]; exact L.rs.append L'.rs) (by rw [Ac]; exact hz);exact H _ _ Y _ _ ⟨rfl,rfl,rfl,Aj _⟩ P S' (P.rv ra) q
  | int x=>
   obtain ⟨t,rfl⟩:=ra;exact bF h rb (fun vb=>wpAny c.M A (inplaceOp .Add (.int x t) vb) QC EC s) fun y u h=>PyProof.Rows.iadd_int (H.now S bp h (Nat.le_succ _))
  | _=>exact h.elim
 | sub=>exact fy h ra rb (fun va vb=>wpAny c.M A (inplaceOp .Sub va vb) QC EC s) fun x t y u h=>PyProof.Rows.isub_int (H.now S bp h (Nat.le_succ _))
 | _=>exact h.elim
end
open PySem PySem.Calls PyProof.Rows PySem.SeqAt PySem.NumText
noncomputable def lF:Bi->Value
 | .len=>.builtin "len" | .str=>.type "str" | .int=>.type "int" | .abs=>.builtin "abs" | .range=>.type "range"
 | .max=>.builtin "max" | .sum=>.builtin "sum" | .tuple=>.type "tuple" | .type=>.type "type" | .list=>.type "list"
theorem mS (i:Int):Str.ofString (toString i)=aE (bW i):=Str.ofString_eq_toList _
theorem log2_lt_of {n k:Nat}(hk:0<k)(h:n<2 ^ k):n.log2<k:=by
 by_cases h0:n=0
 ·subst h0; simpa using hk
 ·exact (Nat.log2_lt h0).mpr h
theorem qu {i:Int}(h:i.natAbs<2 ^ 100):(bW i).length<=lid:=by
 have e:=int_text_length_le (a:=i) (k:=100) (by decide) (log2_lt_of (by decide) h);have:lid=1000000:=rfl;simp only [bW,Ah,String.length_toList];lia
theorem xC (x:Tx):fC x=digitsVal x:=by
 unfold fC digitsVal;congr 1;funext n c;lia
theorem dg {a b c:Int}(hc:c=1∨c=-1):Builtin.Range.rangeSize a b c=((aC a b c).length:Int):=by
 rcases hc with rfl | rfl
 ·rw [rangeSize_one];simp only [aC,if_true,Ah,List.length_range];split
  ·rename_i h; exact (Int.toNat_of_nonneg (Int.sub_nonneg_of_le (Int.le_of_lt h))).symm
  ·rename_i h; exact (congrArg Int.ofNat (Int.toNat_eq_zero.mpr (Int.sub_nonpos_of_le (Int.not_lt.mp h)))).symm
 ·unfold Builtin.Range.rangeSize;have:aC a b (-1)=(List.range (a-b).toNat).map fun (k:Nat)=>a-(k:Int):=by
   unfold aC; rw [if_neg (by decide),if_pos rfl]
  rw [this,Ah,List.length_range];simp;split<;>lia
theorem RF (a b:Int):aC a b (-1)=(List.range (a-b).toNat).map fun (k:Nat)=>a-(k:Int):=by unfold aC; rw [if_neg (by decide),if_pos rfl]
theorem toNat_abs (x:Int):x.toNat<=x.natAbs:=by cases x<;>first | exact Aj _ | exact Nat.zero_le _
theorem u5 {a b:Int}(ha:a.natAbs<=lid)(hb:b.natAbs<=lid):(a-b).toNat<=2*lid:=
 Aa (toNat_abs _) (Aa (Int.natAbs_sub_le a b) (Aa (Aq ha hb) (Nat.le_of_eq (Nat.two_mul _).symm)))
theorem mR {a b c:Int}(ha:a.natAbs<=lid)(hb:b.natAbs<=lid):(aC a b c).length<=2*lid:=by
 unfold aC;split
 ·rw [Ah,List.length_range]; exact u5 hb ha
 ·split
  ·rw [Ah,List.length_range]; exact u5 ha hb
  ·exact Nat.zero_le _
theorem qZ {i:Int}(h:i.natAbs<=2*lid):Builtin.Range.rangeFitsLong i=true:=by
 have h:i.natAbs<=2000000:=h;unfold Builtin.Range.rangeFitsLong;exact Bool.and_eq_true_iff.mpr ⟨decide_eq_true (by lia),decide_eq_true (by lia)⟩
theorem jR {a b c:Int}(hc:c=1∨c=-1)(ha:a.natAbs<=lid)(hb:b.natAbs<=lid):Builtin.Range.small a b c=true:=by
 have up:∀ {n:Nat},n<=lid->n<=2*lid:=fun h=>Aa h (by decide);unfold Builtin.Range.small;rw [dg hc,qZ (up ha),qZ (up hb),qZ (i:=((aC a b c).length:Int)) (mR (c:=c) ha hb)];rcases hc with rfl | rfl
 ·rw [if_pos (by decide),show b+((1:Int)-1)=b from Int.add_zero b,qZ (up hb)];exact Bool.or_true _
 ·rw [if_neg (by decide),show b+((-1:Int)+1)=b from Int.add_zero b,qZ (up hb)];exact Bool.or_true _
theorem gY {a b c:Int}(hc:c=1∨c=-1)(i:Nat)(h:i<(aC a b c).length):(aC a b c)[i]?=some (a+i*c):=by
 rcases hc with rfl | rfl
 ·simp only [aC,if_true,Ah,List.length_range] at h ⊢;simp [h]
 ·rw [RF] at h ⊢;simp only [Ah,List.length_range] at h;simp [h];lia
section
variable {c:Cx}{e:Ev}{s:Shared}{Y:aM}{J:ae}{Q:QV}{X:QX}{QC EC:Value->Shared->Prop}{A:Around}
theorem cV.more {a:AV}{v:Value}{h':Heap}{tk:Nat}(H:cV c e s Y Q QC)(S:c.S Y e J s)(hk:∀ b o,s.heap.get? b=some o->h'.get? b=some o)(hn:s.toks<=tk)(r:c.V h' Y a v)(q:Q a J):QC v { s with heap:=h',toks:=tk }:=
 H v _ Y a J ⟨rfl,rfl,rfl,hn⟩ (a7.other hk) ((S.le hn).heap (S.toSt.other hk)) r q
theorem cV.listAt {D:Addr}{items:Array Value}{vs:List AV}{h':Heap}{tk:Nat}(H:cV c e s Y Q QC)(S:c.S Y e J s)(hk:∀ b o,s.heap.get? b=some o->h'.get? b=some o)(hD:s.heap.get? D=none)(hL:wX h' D items)
  (rs:bl c.base h' Y vs items.toList) (hz:vs.length<=lid) (hn:s.toks<=tk) (q:Q (.obj J.length) (J++[.list vs])):QC (.ref D) { s with heap:=h',toks:=tk }:=by
 have hf:∀ a∈ng (D,none),s.heap.get? a=none:=fun a ha=>List.mem_singleton.mp ha▸hD;have P:c.P Y s.heap (Y.push (D,none)) h':=.qV (aM.Le.push _ _) (lZ hf) hk;have mZ:bl c.base h' (Y.push (D,none)) vs items.toList:=rs.mono (fun _ _ e _=>e) (aM.Le.push _ _);have QN:=S.toSt.move P (gS S.stays hk) (S.sim.alloc S.stays hk (.list vs) hf (List.nodup_cons.mpr ⟨List.not_mem_nil,List.nodup_nil⟩) ⟨rfl,items,hL,mZ,hz⟩);exact H _ _ (Y.push (D,none)) (.obj J.length) (J++[.list vs]) ⟨rfl,rfl,rfl,hn⟩ P ⟨QN,An S.pos hn,fun t ht=>S.mY t (Aa hn ht),S.sU⟩ ⟨(D,none),rfl,S.sim.len▸List.getElem?_concat_length⟩ q
theorem bl.of_get {base h:Heap}{xs:List AV}{vs:List Value}(hl:xs.length=vs.length)(k:∀ (i:Nat) x v,xs[i]?=some x->vs[i]?=some v->RV base h Y x v):bl base h Y xs vs:=by
 induction xs generalizing vs with
 | nil=>exact List.length_eq_zero_iff.mp hl.symm
 | cons x xs ih=>
  cases vs with
  | nil=>cases hl
  | cons v vs=>exact ⟨v,vs,rfl,k 0 x v rfl rfl,ih (Nat.succ.inj hl) fun i=>k (i+1)⟩
theorem ux {a b st:Int} {v:Value} (hh:A.handled=none) (hc:st=1∨st=-1) (hz:(aC a b st).length<=lid) (q:Q (.obj J.length) (J++[.list ((aC a b st).map .int)])) (S:c.S Y e J s) (r:c.V s.heap Y (.j6 a b st) v) (H:cV c e s Y Q QC):wpAny c.M A (call (.type "list") [v]) QC EC s:=by
 obtain ⟨p,rfl,⟨t,u,w,hr⟩,ha,hb,_⟩:=r;refine wpAny_with_toks (Aj _) (call_list_range hh hr (jR hc ha hb) (dg hc) (Aa hz (by decide)) fun h' tk acc n hk hL hi hn=>?_);refine H.listAt S hk (fO _) ⟨n,hL⟩ (bl.of_get (by rw [Ah,Array.length_toList]; exact hi.1.symm) fun i x v h1 h2=>?_) (by rw [Ah]; exact hz) hn q;rw [Array.getElem?_toList] at h2;obtain ⟨t,rfl⟩:=hi.2 i v h2;have gq:=(Array.getElem?_eq_some_iff.mp h2).1;rw [hi.1] at gq;rw [List.getElem?_map,gY hc i gq] at h1;exact Ag h1▸bp
theorem Oi {base h:Heap}{x:AV}{vs:List Value}(q:bl base h Y [x] vs):∃ v,vs=[v]∧RV base h Y x v:=by
 obtain ⟨v,vs,rfl,h1,h2⟩:=q;cases (h2:vs=[]);exact ⟨v,rfl,h1⟩
theorem Oh {base h:Heap}{x y:AV}{vs:List Value}(q:bl base h Y [x,y] vs):∃ v w,vs=[v,w]∧RV base h Y x v∧RV base h Y y w:=by
 obtain ⟨v,vs,rfl,h1,h2⟩:=q;obtain ⟨w,rfl,h3⟩:=Oi h2;exact ⟨v,w,rfl,h1,h3⟩
theorem vN {p:Addr} {items:Array Value} {n:Nat} {l:List AV} (ho:IsL s.heap p items n) (rs:bl c.base s.heap Y l items.toList) (hz:l.length<=lid) (q:Q (.int l.length) J) (S:c.S Y e J s) (H:cV c e s Y Q QC):wpAny c.M A (call (.builtin "len") [.ref p]) QC EC s:=by
 have Mu:lid=1000000:=rfl;have hlen:=rs.size;refine PyProof.Rows.len_list ho.isList (by lia) ?_;rw [← hlen];exact H.now S bp q (Af _ 2)
theorem xu {a:AV} {v:Value} (h:Mg a J Q) (S:c.S Y e J s) (r:c.V s.heap Y a v) (H:cV c e s Y Q QC):wpAny c.M A (call (.builtin "len") [v]) QC EC s:=by
 have Mu:lid=1000000:=rfl;have TL:s.toks<=s.toks+1+1:=Af _ 2;cases a with
 | obj r'=>
  obtain ⟨l,h1,q⟩:=bR h;obtain ⟨p,items,n,rfl,hp,ho,mZ,hz⟩:=Cx.S.bM S h1 r;exact vN ho mZ hz q S H
 | str x=>
  obtain ⟨t,rfl,hz,_⟩:=r;refine PySem.P.len_str (by rw [aU]; lia) ?_;rw [aU];exact H.now S bp h TL
 | tup l=>
  obtain ⟨p,items,rfl,ht,mZ,hz⟩:=r;have hlen:=mZ.size;refine PyProof.Rows.len_tuple ht.tup (by lia) ?_;rw [← hlen];exact H.now S bp h TL
 | jr l=>
  obtain ⟨p,items,rfl,⟨n,ht⟩,mZ,hz⟩:=r;exact vN (S.stays _ _ ht) mZ hz h S H
 | _=>exact h.elim
theorem sr {a:AV} {v:Value} (h:zM a J Q) (S:c.S Y e J s) (r:c.V s.heap Y a v) (H:cV c e s Y Q QC):wpAny c.M A (call (.type "int") [v]) QC EC s:=by
 cases a with
 | bool b=>
  cases (r:v=.bool b);exact call_int_bool (H.now S (a:=.int _) bp h (Nat.le_succ _))
 | str x=>
  obtain ⟨t,rfl,_⟩:=r;obtain ⟨h1,h2,h3,q⟩:=h;refine PySem.W.KIN.call_text (n:=(fC x:Int)) ?_ (by rw [aU]; lia) (H.now S bp q (Nat.le_succ _));rw [xC];have:=intText_digits (x:=aE x) (by
   intro d hd;have:=List.all_eq_true.mp h3 d (by simpa [aE] using hd)
   simpa [aI] using this) (by simpa [aE] using h1) (by rw [aU]; lia)
  simpa [aE] using this
 | _=>exact h.elim
theorem kr {a b st:Int}(hc:st=1∨st=-1):∀ j,j<=(aC a b st).length->preSum (fun i=>a+(i:Int)*st) j=((aC a b st).take j).sum
 | 0,_=>rfl
 | j+1,hj=>by
  rw [preSum,kr hc j (Ap hj),List.take_add_one,gY hc j hj];simp
theorem w5 {a b st:Int} {v:Value} (hh:A.handled=none) (hc:st=1∨st=-1) (q:Q (.int (aC a b st).sum) J) (S:c.S Y e J s) (r:c.V s.heap Y (.j6 a b st) v) (H:cV c e s Y Q QC):wpAny c.M A (call (.builtin "sum") [v]) QC EC s:=by
 obtain ⟨p,rfl,⟨t,u,w,hr⟩,ha,hb,_⟩:=r;refine wpAny_with_toks (Aj _) (call_sum_walkAnyS (wpAny_pyIter_range hr (jR hc ha hb) ?_));have W:=(Walks.range (prog:=c.prog) (w:=c.w) (A:=A.in1) hh s.heap.objs.size a st (aC a b st).length).toS;refine ⟨s.heap.objs.size,_,_,_,_,_,_,fun i=>a+i*st,rfl,W,?_,fun b hb=>?_,fun i v hP=>hP,fun s' t' hm hn=>?_⟩
 ·rw [dg hc]
  simpa [IsRangeIter] using Heap.get?_push_size s.heap rfl
 ·obtain rfl:=List.mem_singleton.mp hb;exact Heap.lt_size (Heap.get?_push_size _ rfl)
 ·obtain ⟨h',g',d',Ti,VG⟩:=s';have e1:g'=s.gens:=hm.gens;have e2:d'=s.drawn:=hm.drawn;have e3:VG=s.os:=hm.os;subst e1 e2 e3;rw [kr hc _ (Aj _),List.take_length];exact H.more S (fun b o e=>hm.heap b o (fun hb=>absurd (Heap.lt_size e) ((List.mem_singleton.mp hb)▸Nat.lt_irrefl _)) (Heap.get?_push_of_some _ e)) hn bp q
theorem jS {a b st:Int}{i j k:Tok}(hc:st=1∨st=-1)(ha:a.natAbs<=lid)(hb:b.natAbs<=lid){tk:Nat}(hn:s.toks<=tk)(q:Q (.j6 a b st) J)(S:c.S Y e J s)(H:cV c e s Y Q QC) :
  QC (.ref s.heap.objs.size) { s with heap:=s.heap.push { cls:=.type "range",data:=.fields #[.int a i,.int b j,.int st k] },toks:=tk }:=
 H.more (a:=.j6 a b st) S (Kp.push _) hn ⟨_,rfl,⟨_,_,_,IsRange.new ..⟩,ha,hb,hc⟩ q
theorem xS {b:Bi}{a:AV}{v:Value}(hh:A.handled=none)(h:MJ b a J Q)(S:c.S Y e J s)(r:c.V s.heap Y a v)(H:cV c e s Y Q QC) :
  wpAny c.M A (call (lF b) [v]) QC EC s:=by
 cases b with
 | len=>exact xu h S r H
 | str=>
  refine bF h r (fun v=>wpAny c.M A (call (.type "str") [v]) QC EC s) fun x t h=>PySem.P.str_of_int (Nat.lt_trans (log2_lt_of (by decide) h.1) (by decide)) ?_
  rw [show ((toString _:String):Str)=_ from mS _];exact H.str S (qu h.1) h.2
 | int=>exact sr h S r H
 | abs=>
  refine bF h r (fun v=>wpAny c.M A (call (.builtin "abs") [v]) QC EC s) fun x t h=>wpAny_with_toks (Aj _) (call_abs_int fun u tk hn=>H.now S ?_ h hn)
  rw [show (if x<0 then -x else x)=(x.natAbs:Int) by
   split
   ·rename_i h; exact (Int.ofNat_natAbs_of_nonpos (Int.le_of_lt h)).symm
   ·rename_i h; exact (Int.natAbs_of_nonneg (Int.not_lt.mp h)).symm]
  exact bp
 | range=>exact bF h r (fun v=>wpAny c.M A (call (.type "range") [v]) QC EC s) fun x t h=>call_range_1 (jS (.inl rfl) (Nat.zero_le _) h.1 (Af _ 2) h.2 S H)
 | sum=>
  cases a with
  | j6 a b c=>exact w5 hh h.1 h.2.2 S r H
  | _=>exact h.elim
 | tuple=>
  refine ee h r fun r' r h=>dI h S r (fun v=>wpAny c.M A (call (.type "tuple") [v]) QC EC s) fun l p items n L q=>?_
  refine call_tuple_list L.is.isList (fun h' hk=>?_) (by rw [← L.size]; exact Aa L.le aK);have uH:Kp s.heap (h'.push { cls:=.type "tuple",data:=.seq items }):=fun b o e=>Heap.get?_push_of_some _ (hk b o e)
  exact H.more (a:=.tup l) S uH (Aj _) ⟨_,items,rfl,⟨0,Heap.get?_push_size _ rfl⟩,(a7.other (F:=c.F) (own:=jz) uH).Cy L.rs,L.le⟩ q
 | type=>
  cases a with
  | int x=>obtain ⟨t,rfl⟩:=r; exact call_type_of (typeIs_int _ _ _) (by decide) (H.dP S (show c.V s.heap Y (.cp (.type "int")) _ from rfl) h)
  | tup l=>obtain ⟨t,items,rfl,⟨n,ht⟩,_⟩:=r; exact call_type_of ⟨_,ht,rfl⟩ (by decide) (H.dP S (show c.V s.heap Y (.cp (.type "tuple")) _ from rfl) h)
  | _=>exact h.elim
 | list=>
  cases a with
  | j6 a b c=>exact ux hh h.1 h.2.1 h.2.2 S r H
  | _=>exact h.elim
 | _=>exact h.elim
theorem xR {b:Bi}{x y:AV}{v w:Value}(hh:A.handled=none)(h:MI b x y J Q)(S:c.S Y e J s)(r1:c.V s.heap Y x v)(r2:c.V s.heap Y y w)(H:cV c e s Y Q QC):wpAny c.M A (call (lF b) [v,w]) QC EC s:=by
 refine fy h r1 r2 (fun v w=>wpAny c.M A (call (lF b) [v,w]) QC EC s) fun a t a' u h=>?_;cases b with
 | range=>exact call_range_2 (jS (.inl rfl) h.1 h.2.1 (Nat.le_succ _) h.2.2 S H)
 | max=>
  refine wpAny_with_toks (Aj _) (max_two_ints hh fun h' tk hk hn=>H.more S hk hn ?_ h);rcases Int.lt_or_le a a' with q | q
  ·rw [if_pos q,Int.max_eq_right (Int.le_of_lt q)]; exact bp
  ·rw [if_neg (Int.not_lt.mpr q),Int.max_eq_left q]; exact bp
 | _=>exact h.elim
theorem xQ {b:Bi}{x y z:AV}{v w u:Value}(h:MH b x y z J Q)(S:c.S Y e J s)(r1:c.V s.heap Y x v)(r2:c.V s.heap Y y w)(r3:c.V s.heap Y z u)(H:cV c e s Y Q QC):wpAny c.M A (call (lF b) [v,w,u]) QC EC s:=by
 cases b with
 | range=>
  refine bF h r1 (fun v=>wpAny c.M A (call (.type "range") [v,w,u]) QC EC s) fun a i h=>bF h r2 (fun w=>wpAny c.M A (call (.type "range") [_,w,u]) QC EC s) fun a' j h=>bF h r3 (fun u=>wpAny c.M A (call (.type "range") [_,_,u]) QC EC s) fun X1 k h=>?_
  obtain ⟨h1,h2,rfl,q⟩:=h;exact call_range_3 (by decide) (jS (.inr rfl) h1 h2 (Aj _) q S H) (.inl (noPylong (by decide)))
 | _=>exact h.elim
theorem Ck {b:Bi}{as:List AV}{vs:List Value}(hh:A.handled=none)(h:UT b as J Q)(S:c.S Y e J s)(rs:bl c.base s.heap Y as vs)(H:cV c e s Y Q QC) :
  wpAny c.M A (call (lF b) vs) QC EC s:=by
 cases as with
 | nil=>exact h.elim
 | cons x as=>
 obtain ⟨v,vs,rfl,r1,rs⟩:=rs;cases as with
 | nil=>cases (rs:vs=[]); exact xS hh h S r1 H
 | cons y as=>
 obtain ⟨w,vs,rfl,r2,rs⟩:=rs;cases as with
 | nil=>cases (rs:vs=[]); exact xR hh h S r1 r2 H
 | cons z as=>
 obtain ⟨u,vs,rfl,r3,rs⟩:=rs;cases as with
 | nil=>cases (rs:vs=[]); exact xQ h S r1 r2 r3 H
 | cons _ _=>exact h.elim
end
open PySem PySem.Calls PyProof.Rows PySem.SeqAt
noncomputable def y4:Bm->String
 | .append=>"list.append" | .pop=>"list.pop" | .isascii=>"str.isascii" | .isalpha=>"str.isalpha" | .isalnum=>"str.isalnum" | .isdigit=>"str.isdigit"
 | .lower=>"str.lower" | .find=>"str.find" | .replace=>"str.replace" | .join=>"str.join" | .extend=>"list.extend"
noncomputable def pN:Bm->Str
 | .append=>"append" | .pop=>"pop" | .isascii=>"isascii" | .isalpha=>"isalpha" | .isalnum=>"isalnum" | .isdigit=>"isdigit"
 | .lower=>"lower" | .find=>"find" | .replace=>"replace" | .join=>"join" | .extend=>"extend"
theorem KJ:∀ c<128,Unicode.isAlpha c=cP c:=by decide +kernel
theorem KL:∀ c<128,Unicode.isAlnum c=(cP c||aI c):=by decide +kernel
theorem Kr:∀ c<128,Unicode.isDigit c=aI c:=by decide +kernel
theorem sH {c:Nat}(h:c<128):Txt.isalpha (aE [c])=cP c:=by
 rw [← KJ c h]; simp [Txt.isalpha,aE,Str.length]
theorem sI {c:Nat}(h:c<128):Txt.isalnum (aE [c])=(cP c||aI c):=by
 rw [← KL c h]; simp [Txt.isalnum,aE,Str.length]
theorem sE {c:Nat}(h:c<128):Txt.isdigit (aE [c])=aI c:=by
 rw [← Kr c h]; simp [Txt.isdigit,aE,Str.length]
theorem sG (c:Nat):Txt.isascii (aE [c])=Nat.blt c 128:=by
 rw [Bool.eq_iff_iff]; simp [Txt.isascii,aE,Nat.blt]; exact Nat.lt_succ_iff
theorem rL {x:Tx}(h:∀ c∈x,c<128):Txt.lower (aE x)=aE (x.map o8):=by
 rw [lower_ascii (x:=aE x) (by simpa [aE] using h)];simp only [aE,List.map_toArray];congr 2;apply List.map_congr_left;intro c _;unfold lo1 o8 isUp;simp
theorem EM {x:Tx}{c:Nat}{i:Int}(h0:0<=i)(h1:i<=x.length):Txt.find3 (aE x) (aE [c]) i=og c x i.toNat:=by
 obtain ⟨m,rfl⟩:=Int.eq_ofNat_of_zero_le h0;have hm:m<=x.length:=Int.ofNat_le.mp h1;have yz:fromIndex (aE x).length m=m:=by
  unfold fromIndex; rw [if_neg (Int.not_lt.mpr h0)]; rw [Int.max_eq_right h0]; rfl
 have yU:∀ v (hv:v<x.length),(aE x).cps.getD v 0=x[v]:=fun v hv=>by
  simp [aE,Array.getD,hv]
 show _=og c x m;unfold og;rcases StrLaws.find3_spec (aE x) c m with ⟨h,hn⟩ | ⟨k,h,Lz,hk,hc,hn⟩
 ·rw [show aE [c]=(⟨#[c]⟩:Str) from rfl,h];have:(x.drop m).findIdx? (·==c)=none:=by
   rw [List.findIdx?_eq_none_iff];intro y hy;obtain ⟨j,hj⟩:=List.mem_iff_getElem?.mp hy;rw [List.getElem?_drop] at hj;have gq:=Ai hj;have:=hn (m+j) (yz▸Af _ _) gq.1;rw [yU _ gq.1,gq.2] at this;exact beq_eq_false_iff_ne.mpr this
  rw [this]
 ·rw [yz] at Lz hn;have Qm:k<x.length:=hk;rw [show aE [c]=(⟨#[c]⟩:Str) from rfl,h];have e:m+(k-m)=k:=Nat.add_sub_cancel' Lz;have:(x.drop m).findIdx? (·==c)=some (k-m):=by
   rw [List.findIdx?_eq_some_iff_getElem];refine ⟨by rw [List.length_drop]; exact Nat.sub_lt_sub_right Lz Qm,?_,fun j hj=>?_⟩
   ·rw [yU k Qm] at hc;simp only [List.getElem_drop,beq_iff_eq,e];exact hc
   ·have Ub:m+j<k:=e▸Nat.add_lt_add_left hj m;have:=hn (m+j) (Af _ _) Ub;rw [yU _ (Nat.lt_trans Ub Qm)] at this
    simpa using this
  rw [this];show (k:Int)=((m+(k-m):Nat):Int);rw [e]
theorem vP (sep:Tx):∀ ts:List Tx,Str.join (aE sep) (ts.map aE)=aE (fX sep ts)
 | []=>rfl
 | [x]=>rfl
 | x::y::r=>by
  have ih:=vP sep (y::r);simp only [List.map_cons] at ih;show aE x++aE sep++Str.join (aE sep) (aE y::r.map aE)=_;rw [ih,eE,eE];rfl
open PySem PySem.Calls PyProof.Rows PySem.SeqAt PySem.Builtin PySem.Builtin.Str
theorem vt {y l:Tx}:pre y l=true↔l.take y.length=y:=by
 induction y generalizing l with
 | nil=>exact ⟨fun _=>rfl,fun _=>by cases l<;>rfl⟩
 | cons a y ih=>
  cases l with
  | nil=>exact ⟨fun h=>(Bool.false_ne_true h).elim,fun h=>(List.cons_ne_nil _ _ h.symm).elim⟩
  | cons b l=>
   show (Nat.beq a b&&pre y l)=true↔b::l.take y.length=a::y;rw [Bool.and_eq_true_iff,ih,Nat.beq_eq,List.cons_eq_cons];exact and_congr eq_comm Iff.rfl
theorem xW (x y:Tx)(k:Nat):StrLaws.At (aE x) (aE y) (aE x).length k->pre y (x.drop k)=true:=by
 rintro ⟨_,h⟩;rw [StrLaws.subAt_eq,aU] at h;exact vt.mpr (eq_of_beq h)
theorem prefix_at (x y:Tx)(k:Nat)(hk:k<=x.length)(h:pre y (x.drop k)=true):StrLaws.At (aE x) (aE y) (aE x).length k:=by
 have h:=vt.mp h;have hl:=congrArg List.length h;rw [List.length_take,List.length_drop] at hl;refine ⟨?_,?_⟩
 ·rw [aU,aU]; exact Nat.add_le_of_le_sub' hk (Aa (Nat.le_of_eq hl.symm) (Nat.min_le_right _ _))
 ·rw [StrLaws.subAt_eq,aU];exact beq_iff_eq.mpr h
section
variable {c:Cx}{e:Ev}{s:Shared}{Y:aM}{J:ae}{Q:QV}{X:QX}{QC EC:Value->Shared->Prop}{A:Around}
theorem Kz {m:Bm}{a:AV}{P:Prop}(h:yZ m a J P):P∧(((m=.append∨m=.pop∨m=.extend)∧∃ r l,a=.obj r∧J[r]?=some (.list l))∨(m≠.append∧m≠.pop∧m≠.extend∧∃ x,a=.str x)):=by
 cases a with
 | obj r=>
  cases m with
  | append=>obtain ⟨l,h1,h⟩:=bR h; exact ⟨h,.inl ⟨.inl rfl,r,l,rfl,h1⟩⟩
  | pop=>obtain ⟨l,h1,h⟩:=bR h; exact ⟨h,.inl ⟨.inr (.inl rfl),r,l,rfl,h1⟩⟩
  | extend=>obtain ⟨l,h1,h⟩:=bR h; exact ⟨h,.inl ⟨.inr (.inr rfl),r,l,rfl,h1⟩⟩
  | _=>exact h.elim
 | str x=>
  cases m with
  | append=>exact h.elim
  | pop=>exact h.elim
  | extend=>exact h.elim
  | _=>exact ⟨h,.inr ⟨fun q=>(by cases q),fun q=>(by cases q),fun q=>(by cases q),x,rfl⟩⟩
 | _=>exact h.elim
theorem uA {m:Bm}{a:AV}{v:Value}{pl:Sem Bool}{P:Prop}{QM:Value×List Value->Shared->Prop}(h:yZ m a J P)(S:c.S Y e J s)(r:c.V s.heap Y a v)(H:P->QM (.builtin (y4 m),[v]) s) :
  wpAny c.M A (getMethod v (pN m) pl) QM EC s:=by
 obtain ⟨p,⟨hm,r',l,rfl,hl⟩ | ⟨h1,h2,h3,x,rfl⟩⟩:=Kz h
 ·have H:=H p;obtain ⟨p,items,n,rfl,_,ho,_⟩:=Cx.S.bM S hl r;rcases hm with rfl | rfl | rfl
  ·exact getMethod_builtin (T:="list") ⟨_,ho,rfl⟩ F.plainAttrs_list F.slot_list_append F.type_list_append (fun a ha=>by cases ha; exact ⟨_,ho,rfl⟩) H
  ·exact getMethod_builtin (T:="list") ⟨_,ho,rfl⟩ F.plainAttrs_list F.slot_list_pop F.type_list_pop (fun a ha=>by cases ha; exact ⟨_,ho,rfl⟩) H
  ·exact getMethod_builtin (T:="list") ⟨_,ho,rfl⟩ F.plainAttrs_list F.slot_list_extend F.type_list_extend (fun a ha=>by cases ha; exact ⟨_,ho,rfl⟩) H
 ·have H:=H p;obtain ⟨t,rfl,_⟩:=r;cases m with
  | append=>exact absurd rfl h1
  | pop=>exact absurd rfl h2
  | isascii=>exact GM.isascii H
  | isalpha=>exact GM.isalpha H
  | isalnum=>exact GM.isalnum H
  | isdigit=>exact GM.isdigit H
  | lower=>exact GM.lower H
  | find=>exact GM.find H
  | replace=>exact GM.replace H
  | join=>exact GM.join H
  | extend=>exact absurd rfl h3
theorem DL {a:AV}{l:List AV}{ts:List Tx}(h:j8 (a::l)=some ts):∃ x us,a=.str x∧j8 l=some us∧ts=x::us:=by
 cases a with
 | str x=>
  have h:(j8 l).map (x::·)=some ts:=h;cases h1:j8 l with
  | none=>exact af (by rw [h1]; rfl) h
  | some us=>rw [h1] at h; exact ⟨x,us,rfl,rfl,(Ag h).symm⟩
 | _=>exact af rfl h
def QL (Y:aM)(ts:List Tx)(vs:List Value):Prop:=∃ k:List (Str×Tok),vs=strValues k∧k.map (·.1)=ts.map aE∧∀ p∈k,∃ x:Tx,p.1=aE x∧x.length<=lid∧p.2≠0∧Y.tk p.2=some x
theorem By {base h:Heap}{l:List AV}{ts:List Tx}{vs:List Value}(e:j8 l=some ts)(hr:bl base h Y l vs):QL Y ts vs:=by
 induction l generalizing ts vs with
 | nil=>exact hr.nl (P:=QL Y ts) (Ag e▸⟨[],rfl,rfl,fun _ h=>absurd h List.not_mem_nil⟩)
 | cons a l ih=>
  obtain ⟨x,us,rfl,h1,rfl⟩:=DL e;exact hr.el (P:=QL Y (x::us)) fun v vs r hr=>Exists.elim r fun t r=>Exists.elim (ih h1 hr) fun k q=>⟨(aE x,t)::k,by rw [r.1,q.1]; rfl,congrArg (aE x::·) q.2.1,fun p hp=>(List.mem_cons.mp hp).elim (fun e=>e▸⟨x,rfl,r.2⟩) (q.2.2 p)⟩
theorem nF (sep:Tx)(ts:List Tx):(fX sep ts).length<=(ts.map List.length).sum+ts.length*sep.length:=by
 induction ts with
 | nil=>exact Nat.zero_le _
 | cons x r ih=>
  rw [List.map_cons,List.sum_cons,List.length_cons,Nat.succ_mul];cases r with
  | nil=>exact Af x.length _
  | cons y r=>
   show (x++sep++fX sep (y::r)).length<=_;rw [Ac,Ac,Nat.add_assoc,Nat.add_assoc];refine Ak (Aa (Ak ih _) (Nat.le_of_eq ?_)) _;rw [Nat.add_comm,Nat.add_assoc]
theorem mu (y z:Tx)(i:Nat)(x:Tx)(h:∀ k,k<i->pre y (x.drop k)=false)(hi:i<=x.length):bA y z x=x.take i++bA y z (x.drop i):=by
 induction i generalizing x with
 | zero=>rfl
 | succ i ih=>
  cases x with
  | nil=>exact absurd hi (Nat.not_succ_le_zero _)
  | cons c l=>
   show (match pre y (c::l) with | true=>z++(c::l).drop y.length | false=>c::bA y z l)=c::(l.take i++bA y z (l.drop i))
   rw [show pre y (c::l)=false from h 0 (Nat.succ_pos _)];exact congrArg (c::·) (ih l (fun k hk=>h (k+1) (Nat.succ_lt_succ hk)) (Am hi))
theorem xd (y z x:Tx)(hy:y≠[])(h:pre y x=true):bA y z x=z++x.drop y.length:=by
 cases x with
 | nil=>cases y with
  | nil=>exact absurd rfl hy
  | cons _ _=>cases h
 | cons c l=>
  show (match pre y (c::l) with | true=>z++(c::l).drop y.length | false=>c::bA y z l)=_
  rw [h]
theorem zO (x:Tx)(a b:Nat):strSub (aE x) a b=aE ((x.drop a).take (b-a)):=by
 apply Str.ext';apply Array.toList_inj.mp;rw [StrLaws.strSub_toList];rfl
section
open Builtin Builtin.Str
theorem mT (x y z:Str)(t u v w:Tok)
  (hf:((occurrences x y 0 x.length 1).isEmpty||(y.length==0&&z.length==0))=false->
   (u==0||v==0)=false∧(u==v)=false∧(y==z)=false∧tooLong (x.length+(occurrences x y 0 x.length 1).length*z.length)=false) :
  Gives («str.replace» ⟨[.str x t,.str y u,.str z v,.int 1 w],[]⟩) (if ((occurrences x y 0 x.length 1).isEmpty||(y.length==0&&z.length==0))=true then .val (.str x t) else .str (glued z (partsBetween x (occurrences x y 0 x.length 1) y.length))):=by
 show Gives (if ((occurrences x y 0 x.length 1).isEmpty||(y.length==0&&z.length==0))=true then (do rule "str.replace.nothing"; ret (.str x t)) else
  (do let same ← isSame (.str y u) (.str z v); if same=true then (do rule "str.replace.old-is-new"; ret (.str x t)) else if tooLong (x.length+(occurrences x y 0 x.length 1).length*z.length)=true then unsupported "str.replace:memory" else retStr (glued z (partsBetween x (occurrences x y 0 x.length 1) y.length)))) _
 cases hc:((occurrences x y 0 x.length 1).isEmpty||(y.length==0&&z.length==0))
 ·obtain ⟨h0,V6,Qa,hl⟩:=hf hc;rw [isSame_str_other y z u v h0 V6 Qa,hl];exact .of_eq rfl
 ·exact .rule (.of_eq rfl)
end
theorem vG {x y:Tx}{k:Nat}(hk:k<=x.length)(h:¬ StrLaws.At (aE x) (aE y) (aE x).length k):pre y (x.drop k)=false:=by
 cases q:pre y (x.drop k) with
 | false=>rfl
 | true=>exact absurd (prefix_at x y k hk q) h
theorem uq {x y z:Tx}{v vy vz vn:Value}(h1:y≠[])(h2:y≠z)(h3:x.length+(x.length+1)*z.length<=lid)(q:Q (.str (bA y z x)) J)(S:c.S Y e J s)(r:c.V s.heap Y (.str x) v)(ry:c.V s.heap Y (.str y) vy)(rz:c.V s.heap Y (.str z) vz)(rn:c.V s.heap Y (.int 1) vn)(H:cV c e s Y Q QC) :
  wpAny c.M A (call (.builtin "str.replace") [v,vy,vz,vn]) QC EC s:=by
 have LA:=aK;obtain ⟨t,rfl,hx⟩:=r; obtain ⟨u,rfl,hy⟩:=ry; obtain ⟨w,rfl,hw⟩:=rz; obtain ⟨tn,rfl⟩:=rn;have V5:u≠w:=fun e=>by subst e; have:=hy.2.2; rw [hw.2.2] at this; exact h2 (Ag this).symm
 have Qa:(aE y==aE z)=false:=by
  rw [pS];cases q:aB y z with
  | false=>rfl
  | true=>exact absurd (a6.mp q) h2
 have h4:=StrLaws.occ_length_le (aE x) (aE y) 0 (aE x).length 1;have TY:x.length+z.length<=lid:=Aa (Ak (Aa (Nat.le_of_eq (Nat.one_mul _).symm) (Nat.mul_le_mul_right _ (Ar 1 _))) _) h3;have hl:tooLong ((aE x).length+(occurrences (aE x) (aE y) 0 (aE x).length 1).length*(aE z).length)=false:=by
  unfold tooLong;exact decide_eq_false (Nat.not_lt.mpr (Aa (Ak (Aa (Nat.mul_le_mul_right _ h4) (Nat.le_of_eq (Nat.one_mul _))) _) (Aa TY LA)))
 refine call_gives F.slot_str_replace (typeIs_str _ _ _) F.entry_str_replace (F.args_str_replace_4 _ _ _ _)
  (mT (aE x) (aE y) (aE z) t u w tn fun _=>⟨by simp [hy.2.1,hw.2.1],by simp [V5],Qa,hl⟩) ?_
 have e0:((aE y).length==0&&(aE z).length==0)=false:=by
  rw [show ((aE y).length==0)=false from beq_eq_false_iff_ne.mpr fun q=>h1 (List.length_eq_zero_iff.mp q)]; rfl
 rcases StrLaws.occ_head_from (aE x) (aE y) 0 1 (Aj 1) with ⟨ho,hn⟩ | ⟨i,rest,ho,_,CZ,hn⟩
 ·rw [ho,e0];have e:bA y z x=x:=by
   rw [mu y z x.length x (fun k hk=>vG (Nat.le_of_lt hk) (hn k (Nat.zero_le _))) (Aj _),List.take_length,List.drop_length];exact List.append_nil x
  exact H.dP S (lI hx) (e▸q)
 ·have hr:rest=[]:=List.length_eq_zero_iff.mp (Nat.le_zero.mp (Am (by rw [ho] at h4; exact h4)));subst hr;have hi:i<=x.length:=Aa (Af _ _) CZ.1;have e:bA y z x=x.take i++(z++x.drop (i+y.length)):=by
   rw [mu y z i x (fun k hk=>vG (Aa (Nat.le_of_lt hk) hi) (hn k (Nat.zero_le _) hk)) hi,xd y z _ h1 (xW x y i CZ),List.drop_drop]
  have g:Builtin.Str.glued (aE z) (Builtin.Str.partsBetween (aE x) [i] (aE y).length)=aE (bA y z x):=by
   rw [StrLaws.glued_eq_join];show Builtin.Str.strSub (aE x) 0 i++aE z++Builtin.Str.strSub (aE x) (i+(aE y).length) (aE x).length=_;rw [zO,zO,eE,eE,e,aU,aU,Nat.sub_zero,List.drop_zero,Ae,List.take_of_length_le (l:=x.drop (i+y.length)) (by rw [List.length_drop]; exact Aj _)]
  rw [ho,e0,g];have hz:(bA y z x).length<=lid:=by
   rw [e,Ac,Ac,List.length_drop,Nat.add_left_comm];refine Aa ?_ TY;rw [Nat.add_comm z.length];exact Al (Aa (Aq (List.length_take_le ..) (Nat.sub_le_sub_left (Af i y.length) _)) (Nat.le_of_eq (Nat.add_sub_of_le hi))) _
  exact ⟨Aa hz LA,H.str S hz q⟩
theorem uz {sep:Tx}{r':Nat}{l:List AV}{ts:List Tx}{v vl:Value}(h1:J[r']?=some (.list l))(h2:j8 l=some ts)(h3:(ts.map List.length).sum+ts.length*sep.length<=lid)(q:Q (.str (fX sep ts)) J)(S:c.S Y e J s)(r:c.V s.heap Y (.str sep) v)(rl:c.V s.heap Y (.obj r') vl)(H:cV c e s Y Q QC) :
  wpAny c.M A (call (.builtin "str.join") [v,vl]) QC EC s:=by
 have LA:=aK;obtain ⟨p,items,n,rfl,hp,ho,mZ,_⟩:=Cx.S.bM S h1 rl;obtain ⟨t,rfl,_⟩:=r;obtain ⟨k,ek,hk,uE⟩:=By h2 mZ;have hI:s.heap.IsList p (strValues k).toArray:=by
  rw [← ek]; exact ho.isList
 have HQ:tooLong ((k.map (·.1)).toArray.foldl (·+·.length+(aE sep).length) 0)=false:=by
  rw [hk,StrLaws.joinTotal,List.map_map,Ah,show ts.map (Str.length ∘ aE)=ts.map List.length from List.map_congr_left fun x _=>aU x];unfold tooLong;exact decide_eq_false (Nat.not_lt.mpr (Aa h3 LA))
 have Ua:=Aa (nF sep ts) h3;refine call_meets F.slot_str_join (typeIs_str _ _ _) F.entry_str_join (F.args_str_join_2 _ _) (meets_str_join_list (aE sep) t p k HQ) ⟨hI,?_⟩;have OG:(Made.str (glued (aE sep) (k.map (·.1)))).post (fun v s'=>QC v s') s:=by
  rw [hk,StrLaws.glued_eq_join,vP];exact ⟨Aa Ua LA,H.str S Ua q⟩
 cases k with
 | nil=>exact OG
 | cons pq k=>
  cases k with
  | cons _ _=>exact OG
  | nil=>
   obtain ⟨x,e1,hz⟩:=uE pq (List.mem_cons_self ..);cases ts with
   | nil=>cases hk
   | cons y ts=>
    cases ts with
    | cons _ _=>cases (List.cons.inj hk).2
    | nil=>
     cases ig (e1.symm.trans (List.cons.inj hk).1);show QC (.str pq.1 pq.2) s;rw [e1];exact H.dP S (lI hz) q
theorem tI {base h:Heap}{a:AV}{v:Value}{P:Nat->Prop}(p:fU a fun x=>o7 x P)(r:RV base h Y a v)(G:Value->Prop)(k:∀ c t,P c->G (.str (aE [c]) t)):G v:=
 iM p r G fun x t _ p=>by
  obtain ⟨c,rfl,p⟩:=z9 p;exact k c t p
theorem uf {base h:Heap}{a:AV}{v:Value}{P:Nat->Prop}(p:fU a fun x=>o7 x fun c=>kF (Nat.blt c 128) (P c))(r:RV base h Y a v)(G:Value->Prop)(k:∀ c t,c<128->P c->G (.str (aE [c]) t)):G v:=
 tI p r G fun c t p=>k c t (Ad (gO p).1) (gO p).2
theorem xI {m:Bm}{a:AV}{v:Value}(h:MG m a J Q)(S:c.S Y e J s)(r:c.V s.heap Y a v)(H:cV c e s Y Q QC) :
  wpAny c.M A (call (.builtin (y4 m)) [v]) QC EC s:=by
 cases m with
 | pop=>
  refine ee h r fun r' r h=>?_;obtain ⟨l',h1,l,x,rfl,q⟩:=bR h;exact xg h1 q S r H
 | isascii=>exact tI h r (fun v=>wpAny c.M A (call (.builtin "str.isascii") [v]) QC EC s) fun k t h=>SC.isascii (H.dP S (by rw [sG]; exact cJ) h)
 | isalpha=>exact uf h r (fun v=>wpAny c.M A (call (.builtin "str.isalpha") [v]) QC EC s) fun k t hk h=>SC.isalpha (H.dP S (by rw [sH hk]; exact cJ) h)
 | isalnum=>exact uf h r (fun v=>wpAny c.M A (call (.builtin "str.isalnum") [v]) QC EC s) fun k t hk h=>SC.isalnum (H.dP S (by rw [sI hk]; exact cJ) h)
 | isdigit=>exact uf h r (fun v=>wpAny c.M A (call (.builtin "str.isdigit") [v]) QC EC s) fun k t hk h=>SC.isdigit (H.dP S (by rw [sE hk]; exact cJ) h)
 | lower=>
  refine iM h r (fun v=>wpAny c.M A (call (.builtin "str.lower") [v]) QC EC s) fun x t hz h=>?_
  have qF:(x.map o8).length<=lid:=by rw [Ah]; exact hz.1
  refine SC.lower ?_ ?_
  ·rw [rL h.1];unfold Builtin.Str.tooLong;exact decide_eq_false (Nat.not_lt.mpr (Aa qF aK))
  ·rw [rL h.1];exact H.str S qF h.2
 | _=>exact h.elim
theorem xH {m:Bm}{a x:AV}{v vx:Value}(h:MF m a x J Q)(S:c.S Y e J s)(r:c.V s.heap Y a v)(rx:c.V s.heap Y x vx)(H:cV c e s Y Q QC) :
  wpAny c.M A (call (.builtin (y4 m)) [v,vx]) QC EC s:=by
 cases m with
 | append=>
  refine ee h r fun r' r h=>?_;obtain ⟨l,h1,hz,q⟩:=bR h;exact qy h1 hz q S r rx H
 | extend=>
  refine ee h r fun r' r h=>?_;obtain ⟨l,h1,h⟩:=bR h;cases x with
  | obj r2=>
   obtain ⟨l',h2,_,hz,q⟩:=bR h;obtain ⟨p,items,n,rfl,_,ho,rs,_⟩:=Cx.S.bM S h2 rx;exact jm h1 (.inl rfl) ho rs hz q S r H
  | tup l'=>
   obtain ⟨p,items,rfl,⟨n,ht⟩,rs,_⟩:=rx;exact jm h1 (.inr rfl) ht rs h.1 h.2 S r H
  | _=>exact h.elim
 | join=>
  obtain ⟨sep,rfl,h⟩:=lH h;refine ee h rx fun r' rx h=>?_;obtain ⟨l,h1,ts,h2,h3,q⟩:=bR h;exact uz h1 h2 h3 q S r rx H
 | _=>exact h.elim
theorem xG {m:Bm}{a x y:AV}{v vx vy:Value}(h:ME m a x y J Q)(S:c.S Y e J s)(r:c.V s.heap Y a v)(rx:c.V s.heap Y x vx)(ry:c.V s.heap Y y vy)(H:cV c e s Y Q QC) :
  wpAny c.M A (call (.builtin (y4 m)) [v,vx,vy]) QC EC s:=by
 cases m with
 | find=>
  refine iM h r (fun v=>wpAny c.M A (call (.builtin "str.find") [v,vx,vy]) QC EC s) fun x t _ h=>tI h rx (fun vx=>wpAny c.M A (call (.builtin "str.find") [_,vx,vy]) QC EC s) fun k u h=>bF h ry (fun vy=>wpAny c.M A (call (.builtin "str.find") [_,_,vy]) QC EC s) fun i w h=>SC.find3 ?_
  rw [EM h.1 h.2.1];exact H.now S bp h.2.2 (Nat.le_succ _)
 | _=>exact h.elim
theorem Ci {m:Bm}{a:AV}{as:List AV}{v:Value}{vs:List Value}(h:LQ m a as J Q)(S:c.S Y e J s)(r:c.V s.heap Y a v)(rs:bl c.base s.heap Y as vs)(H:cV c e s Y Q QC) :
  wpAny c.M A (call (.builtin (y4 m)) (v::vs)) QC EC s:=by
 cases as with
 | nil=>cases (rs:vs=[]); exact xI h S r H
 | cons x as=>
 obtain ⟨vx,vs,rfl,rx,rs⟩:=rs;cases as with
 | nil=>cases (rs:vs=[]); exact xH h S r rx H
 | cons y as=>
 obtain ⟨vy,vs,rfl,ry,rs⟩:=rs;cases as with
 | nil=>cases (rs:vs=[]); exact xG h S r rx ry H
 | cons z as=>
 obtain ⟨vz,vs,rfl,rz,rs⟩:=rs;cases as with
 | nil=>
  cases (rs:vs=[]);cases m with
  | replace=>
   obtain ⟨x',rfl,h⟩:=lH h;obtain ⟨y',rfl,h⟩:=lH h;obtain ⟨z',rfl,h⟩:=lH h;obtain ⟨n,rfl,rfl,h1,h2,h3,q⟩:=iQ h;exact uq h1 h2 h3 q S r rx ry rz H
  | _=>exact h.elim
 | cons _ _=>exact h.elim
end
open PySem PySem.Calls PyProof.Rows PySem.SeqAt PySem.W
structure GN (K:Frag)(C:Addr):Prop where
 dict:hasDictIn K C=true
 get:plainGet K C ""=true
 set:findIn K (.ref C) "__setattr__"=some (some (.builtin "object.__setattr__"))
 over:plainOver K C=true
 no:∀ x:At,findIn K (.ref C) (atName x)=some none
structure fk (c:Cx):Prop where
 K:c.K.In c.base
 cls:∀ i C,c.cls i=some C->GN c.K C
 sys:(c.base.get? sysModules).isSome=true
 lim:c.base.NoLimit
theorem mM:∀ x y:At,atName x=atName y->x=y:=by
 intro x y h;cases x<;>cases y<;>first | rfl | (exact absurd h (by decide +kernel))
theorem rT {x y:At}{t:Tok}:Value.isStr (.str (atName y) t) (atName x)=decide (y=x):=by
 show (atName y==atName x)=_;rw [Bool.eq_iff_iff];simp only [beq_iff_eq,decide_eq_true_eq];exact ⟨fun q=>mM _ _ q,fun q=>by rw [q]⟩
theorem jT (x:At)(a:AV)(p:At×AV)(fs:List (At×AV)):ny x a (p::fs)=if p.1=x then (p.1,a)::fs else p::ny x a fs:=rfl
section
variable {base h:Heap}{Y:aM}
theorem kK.nl {P:List DictEntry->Prop}{l:List DictEntry}(q:kK base h Y [] l)(k:P []):P l:=by cases (show l=[] from q); exact k
theorem kK.el {P:List DictEntry->Prop}{p:At×AV}{fs:List (At×AV)}{l:List DictEntry}(q:kK base h Y (p::fs) l)(k:∀ en es t,en.key=.str (atName p.1) t->RV base h Y p.2 en.val->kK base h Y fs es->P (en::es)):P l:=by
 obtain ⟨en,es,rfl,⟨t,h1⟩,h2,h3⟩:=q;exact k en es t h1 h2 h3
theorem kK.zg {fs:List (At×AV)}{es:List DictEntry}(q:kK base h Y fs es):es.any (·.refKey)=false:=by
 induction fs generalizing es with
 | nil=>exact q.nl (P:=fun es=>es.any (·.refKey)=false) rfl
 | cons p fs ih=>
  refine q.el (P:=fun es=>es.any (·.refKey)=false) fun en es t h1 _ h3=>?_;rw [List.any_cons,ih h3,Bool.or_false];unfold DictEntry.refKey;rw [h1]
theorem oJ {name:Str}{en:DictEntry}{es:List DictEntry}{y:Str}{t:Tok}(hy:en.key=.str y t)(hn:(y==name)=false)(hr:es.any (·.refKey)=false):getL name (en::es)=getL name es:=by
 unfold getL;rw [List.find?_cons,show en.key.isStr name=false by rw [hy]; exact hn,List.any_cons,hr,show en.refKey=false by unfold DictEntry.refKey; rw [hy]];rfl
def MQ (base h:Heap)(Y:aM)(o:Option AV)(m:Option (Option Value)):Prop:=match o with
 | some a=>∃ v,m=some (some v)∧RV base h Y a v
 | none=>m=some none
theorem kK.look (x:At){fs:List (At×AV)}{es:List DictEntry}(q:kK base h Y fs es):MQ base h Y (fs.lookup x) (getL (atName x) es):=by
 induction fs generalizing es with
 | nil=>exact q.nl (P:=fun es=>getL (atName x) es=some none) rfl
 | cons p fs ih=>
  refine q.el (P:=fun es=>MQ base h Y ((p::fs).lookup x) (getL (atName x) es)) fun en es t h1 h2 h3=>?_;rw [List.lookup_cons];by_cases CW:x=p.1
  ·rw [← CW,beq_self_eq_true];refine ⟨en.val,?_,h2⟩;unfold getL;rw [List.find?_cons,h1,rT,decide_eq_true CW.symm]
  ·rw [beq_eq_false_iff_ne.mpr CW,oJ h1 (beq_eq_false_iff_ne.mpr fun q=>CW (mM _ _ q).symm) h3.zg];exact ih h3
theorem kK.other {name:Str}(hn:∀ x:At,atName x≠name){fs:List (At×AV)}{es:List DictEntry}(q:kK base h Y fs es):getL name es=some none:=by
 induction fs generalizing es with
 | nil=>exact q.nl (P:=fun es=>getL name es=some none) rfl
 | cons p fs ih=>exact q.el (P:=fun es=>getL name es=some none) fun en es t h1 h2 h3=>(oJ h1 (beq_eq_false_iff_ne.mpr (hn p.1)) h3.zg).trans (ih h3)
theorem kK.put (x:At){hsh:Int}{tk:Tok}{a:AV}{v:Value}(hv:RV base h Y a v){fs:List (At×AV)}{es:List DictEntry}(q:kK base h Y fs es):kK base h Y (ny x a fs) (putL (atName x) hsh (.str (atName x) tk) v es):=by
 induction fs generalizing es with
 | nil=>exact q.nl (P:=fun es=>kK base h Y [(x,a)] (putL (atName x) hsh (.str (atName x) tk) v es)) ⟨_,[],rfl,⟨tk,rfl⟩,hv,rfl⟩
 | cons p fs ih=>
  refine q.el (P:=fun es=>kK base h Y (ny x a (p::fs)) (putL (atName x) hsh (.str (atName x) tk) v es)) fun en es t h1 h2 h3=>?_;have hk:en.key.isStr (atName x)=decide (p.1=x):=by rw [h1]; exact rT
  unfold putL;rw [hk,jT];by_cases CW:p.1=x
  ·rw [if_pos CW,if_pos (decide_eq_true CW)];exact ⟨_,_,rfl,⟨t,h1⟩,hv,h3⟩
  ·rw [if_neg CW,if_neg (by rw [decide_eq_false CW]; exact Bool.false_ne_true)];exact ⟨en,_,rfl,⟨t,h1⟩,h2,ih h3⟩
theorem kK.length {fs:List (At×AV)}{es:List DictEntry}(q:kK base h Y fs es):fs.length=es.length:=by
 induction fs generalizing es with
 | nil=>exact q.nl (P:=fun es=>0=es.length) rfl
 | cons p fs ih=>exact q.el (P:=fun es=>fs.length+1=es.length) fun _ _ _ _ _ h3=>congrArg Nat.succ (ih h3)
end
theorem BM (x:At)(a:AV){fs:List (At×AV)}{y:At}(h:y∈(ny x a fs).map (·.1)):y=x∨y∈fs.map (·.1):=by
 induction fs with
 | nil=>exact .inl (List.mem_singleton.mp h)
 | cons p fs ih=>
  rw [jT] at h;by_cases hz:p.1=x
  ·rw [if_pos hz] at h; exact .inr h
  ·rw [if_neg hz] at h;exact (List.mem_cons.mp h).elim (fun h=>.inr (h▸List.mem_cons_self ..)) fun h=>(ih h).imp id (List.mem_cons_of_mem _)
theorem mB {x:At}{a:AV}{fs:List (At×AV)}(nd:(fs.map (·.1)).Nodup):((ny x a fs).map (·.1)).Nodup:=by
 induction fs with
 | nil=>exact List.nodup_cons.mpr ⟨List.not_mem_nil,List.nodup_nil⟩
 | cons p fs ih=>
  have h:=List.nodup_cons.mp nd;rw [jT];by_cases hz:p.1=x
  ·rw [if_pos hz]; exact nd
  ·rw [if_neg hz];exact List.nodup_cons.mpr ⟨fun q=>(BM x a q).elim hz h.1,ih h.2⟩
theorem Og {l:List At}(nd:l.Nodup):l.length<=3:=by
 have:l ⊆ [At.ts,At.pos,At.code]:=fun x _=>by cases x<;>decide
 exact (List.Nodup.length_le_of_subset nd this)
section
variable {c:Cx}{e:Ev}{s:Shared}{Y:aM}{J:ae}{Q:QV}{X:QX}{QC EC:Value->Shared->Prop}{UC:Unit->Shared->Prop}{A:Around}
theorem xy {base h:Heap}{a:AV}{v:Value}(hn:tN a=true)(r:RV base h Y a v):handedIn v=true:=by
 cases a with
 | none=>cases (r:v=.none); rfl
 | bool b=>cases (r:v=.bool b); rfl
 | int i=>obtain ⟨_,rfl⟩:=r; rfl
 | cp _=>cases hn
 | str _=>obtain ⟨_,rfl,_⟩:=r; rfl
 | obj _=>obtain ⟨_,rfl,_⟩:=r; rfl
 | j6 _ _ _=>obtain ⟨_,rfl,_⟩:=r; rfl
 | _=>obtain ⟨_,_,rfl,_⟩:=r; rfl
theorem Cx.S.qd {r k:Nat}{fs:List (At×AV)}{v:Value}(S:c.S Y e J s)(hr:J[r]?=some (.inst k fs))(hv:c.V s.heap Y (.obj r) v) :
  ∃ p dx C sl es n,v=.ref p∧Y.l[r]?=some (p,some dx)∧c.cls k=some C∧s.heap.get? dx=some (dictOf es n)∧InstAt s.heap p ⟨.ref C,some dx,.plain,sl⟩ C (some (dictOf es n))∧kK c.base s.heap Y fs es∧(fs.map (·.1)).Nodup:=by
 obtain ⟨⟨p,d⟩,rfl,hp⟩:=hv;obtain ⟨dx,C,sl,es,n,e1,e2,h1,h2,fr,nd⟩:=S.sim.obj r _ _ hp hr;cases (e1:d=some dx);exact ⟨p,dx,C,sl,es,n,rfl,hp,e2,h2,⟨h1,rfl,rfl,h2⟩,fr,nd⟩
theorem mL {a:AV}{x:At}{va:Value}{expr:Bool}(O:fk c)(h:gk a x J fun v=>Q v J)(S:c.S Y e J s)(ra:c.V s.heap Y a va)(H:cV c e s Y Q QC) :
  wpAny c.M A (getAttr va (atName x) expr) QC EC s:=by
  unfold gk at h;obtain ⟨r,k,fs,v,rfl,h1,hv,hs,q⟩:=h;obtain ⟨p,dx,C,sl,es,n,rfl,hp,hC,hd,I,fr,nd⟩:=Cx.S.qd S h1 ra;have ok:=O.cls _ _ hC;have fl:=fr.look x;rw [hv] at fl;obtain ⟨u,hu,ru⟩:=fl;exact get_value (O.K.keeps S.stays) I (plainGet_of ok.get).1 (findObj_own ok.dict (ok.no x) rfl hu) (xy hs ru) (H.now S ru q (Nat.le_succ _))
theorem iE {a y:AV}{x:At}{va vy:Value}(O:fk c)(h:dt a x y J X)(S:c.S Y e J s)(ra:c.V s.heap Y a va)(ry:c.V s.heap Y y vy)(H:Pj c e s Y X UC) :
  wpAny c.M A (setAttr va (atName x) vy) UC EC s:=by
  unfold dt at h;obtain ⟨r,k,fs,rfl,h1,q⟩:=h;obtain ⟨p,dx,C,sl,es,n,rfl,hp,hC,hd,I,fr,nd⟩:=Cx.S.qd S h1 ra;have ok:=O.cls _ _ hC;have X':c.K.In s.heap:=O.K.keeps S.stays;have ht:takerIn c.K C (atName x)=some none:=by unfold takerIn; rw [ok.no x]; rfl
  refine set_plain X' I ok.set (osa_open (s:={ s with toks:=s.toks+1 }) X' I ok.over ht fun b=>?_);obtain ⟨cd,hc,qB⟩:=any_some ok.dict;have hx:=I.at_;generalize hg:Obj.putName (atName x) (PyData.keyHash c.w.params (atName x)) (.str (atName x) (s.toks+1)) vy=g;have Uc:g (dictOf es n)=dictOf (putL (atName x) (PyData.keyHash c.w.params (atName x)) (.str (atName x) (s.toks+1)) vy es) (putN (atName x) es n):=by rw [← hg]; exact putName_dict ..
  have Dt:(s.heap.update dx g).get? dx=some (dictOf (putL (atName x) (PyData.keyHash c.w.params (atName x)) (.str (atName x) (s.toks+1)) vy es) (putN (atName x) es n)):=by
   rw [Heap.get?_update_self g hd (by rw [Uc]; rfl),Uc]
  have nB:dx∈ng (p,some dx):=Be rfl;have Wg:p≠dx:=by
   intro q;exact (List.nodup_cons.mp (S.sim.yK r _ hp)).1 (q▸List.mem_singleton.mpr rfl)
  have Wd:(s.heap.update dx g).get? p=some ⟨.ref C,some dx,.plain,sl⟩:=by
   rw [Heap.get?_update_other _ _ (Ne.symm Wg)]; exact I.at_
  have Mq:=fr.put x (hsh:=PyData.keyHash c.w.params (atName x)) (tk:=s.toks+1) ry;have Ul:a7 c.F jz Y s.heap Y (s.heap.update dx g):=by
   obtain ⟨oa,Lu,hi⟩:=S.sim.lt (cI hp nB);exact a7.upd (Heap.SameBut.update ..) ⟨_,Dt⟩ Lu hi (cI hp nB)
  have S2:=S.toSt.upd (h':=s.heap.update dx g) (o:=.inst k (ny x y fs)) hp nB (Heap.SameBut.update ..) ⟨_,Dt⟩
   ⟨dx,C,sl,_,_,rfl,hC,Wd,Dt,Mq.mono Ul.fS (aM.Le.refl _),mB nd⟩
  have fin:UC () { s with heap:=s.heap.update dx g,toks:=s.toks+1+1 }:=
   H _ Y _ ⟨rfl,rfl,rfl,Aa (Nat.le_succ _) (Nat.le_succ _)⟩ Ul ((S.le (Aa (Nat.le_succ _) (Nat.le_succ _))).heap S2.2) q
  refine wpAny_bind (wpAny_pure (wpAny_bind (wpAny_bind (wpAny_loadPart hx (wpAny_bind (Looks.here (s:={ s with toks:=s.toks+1 }) (looks_clsIn X' hc) ?_))))));rw [qB];refine wpAny_pure (a:=some dx) (wpAny_bind (wpAny_pure (wpAny_bind ?_)));unfold nsSet;refine wpAny_bind (wpAny_bind (wpAny_askSetting (wpAny_pure (wpAny_bind (wpAny_mkText (wpAny_bind (wpAny_loadPart hd ?_)))))))
  dsimp only
  have cc:(!es.toArray.any (·.key.isStr (atName x))&&es.toArray.any (·.refKey))=false:=by
   rw [← Array.any_toList (as:=es.toArray) (p:=(·.refKey))];rw [fr.zg,Bool.and_false]
  rw [aRefKeyMayBeTheName_at,cc];have hlen:(putL (atName x) (PyData.keyHash c.w.params (atName x)) (.str (atName x) (s.toks+1)) vy es).length<=3:=by
   rw [← Mq.length,← Ah (·.1)];exact Og (mB (x:=x) (a:=y) nd)
  refine wpAny_updatePart hd ?_;have WC:Obj.putName (atName x) (if (atName x).cps.isEmpty=true then 0 else reduceHash ((model c.prog c.w).w.params.strHash (atName x).cps)) (.str (atName x) (s.toks+1)) vy=g:=hg
  rw [WC];refine wpAny_bind (wpAny_lookBehind Dt (pastItsLine_dict (Aa hlen (by rw [sizeLine_eq]; decide))) ?_);exact wpAny_pure fin
end
open PySem PySem.Calls PyProof.Rows PySem.SeqAt PySem.W
noncomputable def iS:Bi->Str
 | .len=>"len" | .str=>"str" | .int=>"int" | .abs=>"abs" | .range=>"range"
 | .max=>"max" | .sum=>"sum" | .tuple=>"tuple" | .type=>"type" | .list=>"list"
structure Nm where
 gn:Nat->Option Str
 fn:Nat->Option Str
 cn:Nat->Option Str
 fa:Nat->Option Addr
 pl:Nat->Bool
structure iL (c:Cx)(T:aQ)(N:Nm)(mg mb:Str->Option Value):Prop where
 g:c.base.Ns mainGlobals mg
 b:c.base.Ns builtinsNs mb
 glob:∀ i x a,N.gn i=some x->T.glob i=some a->∃ v,(mg x=some v∨(mg x=none∧mb x=some v))∧
  ∀ h Y,(∀ t y,c.tk0 t=some y->Y.tk t=some y)->c.base.StaysIn h->RV c.base h Y a v
 fn:∀ k x,N.fn k=some x->T.bX k=none->∃ a o fd,N.fa k=some a∧mg x=some (.ref a)∧c.base.get? a=some o∧o.data=.func fd
 ai:∀ k x i C,N.fn k=some x->T.bX k=some i->c.cls i=some C->∃ a,N.fa k=some a∧findIn c.K (.ref C) x=some (some (.ref a))∧
  typeIn c.K (.ref a)=some (.type "function")∧keepIn c.K (.ref a)=true∧∀ y,atName y≠x
 cls:∀ i x,N.cn i=some x->∃ C,c.cls i=some C∧mg x=some (.ref C)∧makesIn c.K C=true∧keepIn c.K (.ref C)=true∧
  ∀ k,T.init i=some k->∃ a,N.fa k=some a∧findIn c.K (.ref C) "__init__"=some (some (.ref a))∧typeIn c.K (.ref a)=some (.type "function")
 bi:∀ b,mg (iS b)=none∧mb (iS b)=some (lF b)
 pl:∀ k,N.pl k=true->T.bX k=none
 ve:mg "ValueError"=none∧mb "ValueError"=some (.type "ValueError")
structure m9 (c:Cx)(d u:Nat)(A:Around):Prop where
 wt:A.frames=some (c.f.env::c.outer)
 hand:A.handled=none
 depth:A.depth<=d
 units:A.units<=u
def iq (c:Cx)(C:Calls)(fa:Nat->Option Addr)(d u:Nat):Prop:=
 ∀ k vs J Q X,C k vs J Q X->∃ a,fa k=some a∧∀ A e s Y vals R,m9 c d u A->c.S Y e J s->bl c.base s.heap Y vs vals->
  cV c e s Y Q (fun v s'=>R (.ok (.ret v)) s')->s7 c e s Y X (fun x s'=>R (.error x) s')->codeAny c.M A (.call (.ref a) ⟨vals,[]⟩) R s
def CJ (c:Cx)(e:Ev)(s:Shared)(Y:aM)(Q:QV)(QT:Bool->Shared->Prop):Prop:=
 ∀ v s' Y' J',bx s s'->c.P Y s.heap Y' s'.heap->c.S Y' e J' s'->Q v J'->∃ b,v=.bool b∧QT b s'
theorem kf {v:AV}{A B:Prop}(h:qE v A B):(v=.bool true∧A)∨(v=.bool false∧B):=by
 cases v with
 | bool b=>cases b with
  | true=>exact .inl ⟨rfl,h⟩
  | false=>exact .inr ⟨rfl,h⟩
 | _=>exact h.elim
def y6 (c:Cx)(e:Ev)(s:Shared)(Y:aM)(Q:List AV->ae->Prop)(QC:List Value->Shared->Prop):Prop:=
 ∀ vs s' Y' as J',bx s s'->c.P Y s.heap Y' s'.heap->c.S Y' e J' s'->bl c.base s'.heap Y' as vs->Q as J'->QC vs s'
section
variable {c:Cx}{e:Ev}{s s₁:Shared}{Y ax:aM}{X:QX}{EC:Value->Shared->Prop}
theorem CJ.pre {Q:QV}{QT:Bool->Shared->Prop}(H:CJ c e s Y Q QT)(hs:bx s s₁)(P:c.P Y s.heap ax s₁.heap):CJ c e s₁ ax Q QT:=
 fun v s' Y' J' fE P' S' q=>H v s' Y' J' (hs.trans fE) (P.trans P') S' q
theorem CJ.get {s':Shared}{Y':aM}{J:ae}{b:Bool}{Q:QV}{QT:Bool->Shared->Prop}(H:CJ c e s Y Q QT)(hs:bx s s')(P:c.P Y s.heap Y' s'.heap)(S:c.S Y' e J s')(q:Q (.bool b) J):QT b s':=by
 obtain ⟨b',hb,q⟩:=H _ s' Y' J hs P S q;cases hb; exact q
theorem CJ.now {J:ae}{b:Bool}{tk:Nat}{Q:QV}{QT:Bool->Shared->Prop}(H:CJ c e s Y Q QT)(S:c.S Y e J s)(q:Q (.bool b) J)(hn:s.toks<=tk):QT b { s with toks:=tk }:=H.get (s':={ s with toks:=tk }) ⟨rfl,rfl,rfl,hn⟩ a7.refl (S.le hn) q
theorem y6.pre {Q:List AV->ae->Prop}{QT:List Value->Shared->Prop}(H:y6 c e s Y Q QT)(hs:bx s s₁)(P:c.P Y s.heap ax s₁.heap):y6 c e s₁ ax Q QT:=
 fun v s' Y' a J' fE P' S' r q=>H v s' Y' a J' (hs.trans fE) (P.trans P') S' r q
end
section
variable (c:Cx)(T:aQ)(C:Calls)(d u:Nat)
def bu (ir:E)(x:Expr):Prop:=∀ A e J s Y Q X QC EC,m9 c d u A->bb T C ir e J Q X->c.S Y e J s->cV c e s Y Q QC->s7 c e s Y X EC->wpAny c.M A (eval x c.f.env) QC EC s
def nr (ir:E)(x:Expr):Prop:=∀ A e J s Y Q X QT EC,m9 c d u A->bb T C ir e J Q X->c.S Y e J s->CJ c e s Y Q QT->s7 c e s Y X EC->wpAny c.M A (isTrue x c.f.env (eval x c.f.env)) QT EC s
def kG (ir:Es)(xs:List Expr):Prop:=∀ A p e J s Y Q X QC EC,m9 c d u A->iK T C ir e J Q X->c.S Y e J s->y6 c e s Y Q QC->s7 c e s Y X EC->wpAny c.M A (spliced (backTo p (starEach xs c.f.env))) QC EC s
def DF (ir:Es)(xs:List Expr):Prop:=∀ A e J s Y Q X QT EC,m9 c d u A->Dz T C ir e J Q X->c.S Y e J s->CJ c e s Y Q QT->s7 c e s Y X EC->wpAny c.M A (allTrue .And xs c.f.env) QT EC s
def DD (ir:Es)(xs:List Expr):Prop:=∀ A e J s Y Q X QT EC,m9 c d u A->Dy T C ir e J Q X->c.S Y e J s->CJ c e s Y Q QT->s7 c e s Y X EC->wpAny c.M A (allTrue .Or xs c.f.env) QT EC s
def DG (ir:Es)(xs:List Expr):Prop:=∀ A p e J s Y Q X QC EC,m9 c d u A->Dz T C ir e J Q X->c.S Y e J s->cV c e s Y Q QC->s7 c e s Y X EC->wpAny c.M A (boolOp p .And (evalEach xs c.f.env)) QC EC s
def DE (ir:Es)(xs:List Expr):Prop:=∀ A p e J s Y Q X QC EC,m9 c d u A->Dy T C ir e J Q X->c.S Y e J s->cV c e s Y Q QC->s7 c e s Y X EC->wpAny c.M A (boolOp p .Or (evalEach xs c.f.env)) QC EC s
def ti (ir:Eo)(x:Option Expr):Prop:=∀ A e J s Y Q X (QC:Value->Shared->Prop) EC,m9 c d u A->yV T C ir e J Q X->c.S Y e J s->
 (∀ v s' Y' a J',bx s s'->c.P Y s.heap Y' s'.heap->c.S Y' e J' s'->kj s'.heap Y' c.base a v->Q a J'->QC v s')->s7 c e s Y X EC->wpAny c.M A (valueOrNone (evalOpt x c.f.env)) QC EC s
end
section
variable {c:Cx}{T:aQ}{C:Calls}{d u:Nat}
theorem DM {ir:E}{x:Expr}(h:bu c T C d u ir x)(hd:∀ env whole,isTrue x env whole=(do let v ← whole; standAt x.pos; holding [v] (truthy v))):nr c T C d u ir x:=by
 intro A e J s Y Q X QT EC hA hw S H HX;rw [hd];refine wpAny_bind (h A e J s Y _ X _ EC hA hw S ?_ HX);intro v s' Y' a J' hs P S' r q;obtain ⟨b,rfl,q'⟩:=H a s' Y' J' hs P S' q;cases (r:v=.bool b);exact wpAny_bind (wpAny_standAt (wpAny_holding (wpAny_truthy_bool q')))
theorem ER {k:Nat}{p:Pos}:bu c T C d u .none (.Constant .none k p):=fun A e J s Y Q X QC EC hA h S H HX=>by
 rw [eval_Constant]; exact wpAny_pure (H.dP S i7 h)
theorem EW {b:Bool}{k:Nat}{p:Pos}:bu c T C d u (.bool b) (.Constant (.bool b) k p):=fun A e J s Y Q X QC EC hA h S H HX=>by
 rw [eval_Constant]; exact wpAny_pure (H.dP S cJ h)
theorem t9 {i:Int}{k:Nat}{p:Pos}:bu c T C d u (.int i) (.Constant (.int i) k p):=fun A e J s Y Q X QC EC hA h S H HX=>
 wpAny_Constant_int (H.now S bp h (Nat.le_succ _))
theorem Ke {x:Tx}{y:Str}{k:Nat}{p:Pos}(hy:y=aE x)(hz:x.length<=lid):bu c T C d u (.str x) (.Constant (.str y) k p):=fun A e J s Y Q X QC EC hA h S H HX=>by
 subst hy;exact Constant_str (H.str S hz h)
theorem SG {i:Nat}{x:Str}{p:Pos}(V:ba c.f c.vars)(hx:c.vars[i]?=some x):bu c T C d u (.v i) (.Name x p):=fun A e J s Y Q X QC EC hA h S H HX=>by
 obtain ⟨a,ha,q⟩:=tm h;exact wpAny_Name (rO V S.toSt hx ha fun v r=>H.dP S r q) (V.Pf x (List.mem_of_getElem? hx))
theorem ij {A:Around}{Y:aM}{e:Ev}{J:ae}{s:Shared}{x:Str}{p:Pos}{v:Value}{mg mb:Str->Option Value}{QC EC:Value->Shared->Prop}(S:c.S Y e J s)
  (V:ba c.f c.vars) (hk:c.f.env.kindOf x=some .globalImplicit∧(x==("__debug__" : Str))=false) (hg:c.base.Ns mainGlobals mg) (hb:c.base.Ns builtinsNs mb) (hv:mg x=some v∨(mg x=none∧mb x=some v)) (h:QC v s) :
  wpAny c.M A (eval (.Name x p) c.f.env) QC EC s:=by
 refine Name_function_global V.kind hk.1 ?_ hk.2;rcases hv with hv | ⟨hn,hv⟩
 ·exact loadGlobal_global (env:=c.f.env) (hg.keeps S.stays) hv h
 ·exact loadGlobal_builtin (env:=c.f.env) (hg.keeps S.stays) hn (hb.keeps S.stays) hv h
theorem SH {i:Nat} {x:Str} {p:Pos} {N:Nm} {mg mb:Str->Option Value} (O:iL c T N mg mb) (V:ba c.f c.vars) (hx:N.gn i=some x) (hk:c.f.env.kindOf x=some .globalImplicit∧(x==("__debug__" : Str))=false) :
  bu c T C d u (.g i) (.Name x p):=fun A e J s Y Q X QC EC hA h S H HX=>by
 obtain ⟨a,ha,q⟩:=bL h;obtain ⟨v,hv,rv⟩:=O.glob i x a hx ha;exact ij S V hk O.g O.b hv (H.dP S (rv s.heap Y S.sU S.stays) q)
theorem aO {op:wy}{a b:E}{l r:Expr}{p:Pos}(ha:bu c T C d u a l)(hb:bu c T C d u b r):bu c T C d u (.bin op a b) (.BinOp l (nz op) r p):=by
 intro A e J s Y Q X QC EC hA h S H HX;refine wpAny_BinOp (ha A e J s Y _ X _ EC hA h S ?_ HX);intro va s₁ ax a1 J1 hs P S1 ra ak;refine hb A e J1 s₁ ax _ X _ EC hA ak S1 ?_ (HX.pre hs P);intro vb s2 Y2 b1 J2 b7 P2 S2 rb h2;exact xP h2 S2 (P2.rv ra) rb ((H.pre hs P).pre b7 P2)
theorem jM {a:E}{x:Expr}{p:Pos}(ha:bu c T C d u a x):bu c T C d u (.neg a) (.UnaryOp .USub x p):=by
 intro A e J s Y Q X QC EC hA h S H HX;rw [arm_eval_UnaryOp];refine wpAny_bind (ha A e J s Y _ X _ EC hA h S ?_ HX);intro va s₁ ax a1 J1 hs P S1 ra ak;obtain ⟨i,rfl,q⟩:=iQ ak;exact wpAny_bind (wpAny_standAt (wpAny_holding (xn S1 ra q (H.pre hs P))))
theorem Ii {a:E}{x:Expr}{p:Pos}(ha:nr c T C d u a x):nr c T C d u (.not a) (.UnaryOp .Not x p):=by
 intro A e J s Y Q X QT EC hA h S H HX;show wpAny c.M A (do return !(← isTrue x c.f.env (eval x c.f.env))) QT EC s;refine wpAny_bind (ha A e J s Y _ X _ EC hA h S ?_ HX);intro v s' Y' J' hs P S' q;obtain ⟨b,rfl,q⟩:=il q;have q':=H.get hs P S' q;exact ⟨b,rfl,wpAny_pure q'⟩
theorem Ki {a:E}{x:Expr}{p:Pos}(ha:bu c T C d u a x):bu c T C d u (.not a) (.UnaryOp .Not x p):=by
 intro A e J s Y Q X QC EC hA h S H HX;rw [arm_eval_UnaryOp];refine wpAny_bind (ha A e J s Y _ X _ EC hA h S ?_ HX);intro va s₁ ax a1 J1 hs P S1 ra ak;obtain ⟨b,rfl,q⟩:=il ak;cases (ra:va=.bool b);refine wpAny_bind (wpAny_standAt (wpAny_holding ?_));show wpAny c.M A (holding [Value.bool b] (do return Value.bool (!(← truthy (Value.bool b))))) _ _ _;exact wpAny_holding (wpAny_bind (wpAny_truthy_bool (wpAny_pure ((H.pre hs P).dP S1 cJ q))))
theorem Km {op:C8}{a b:E}{l r:Expr}{p:Pos}(hu:u+100<cLine)(O:fk c)(ha:bu c T C d u a l)(hb:bu c T C d u b r)(hm:behindInMarks (dp op) r=false):bu c T C d u (.cmp op a b) (.Compare l [dp op] [r] p):=by
 intro A e J s Y Q X QC EC hA h S H HX;refine wpAny_Compare1 (ha A e J s Y _ X _ EC hA h S ?_ HX) hm;intro va s₁ ax a1 J1 hs P S1 ra ak;refine hb A e J1 s₁ ax _ X _ EC hA ak S1 ?_ (HX.pre hs P);intro vb s2 Y2 b1 J2 b7 P2 S2 rb h2;exact d4 (Ao (Al hA.units _) hu) O.sys h2 S2 (P2.rv ra) rb fun r q tk hn=>((H.pre hs P).pre b7 P2).now S2 cJ q hn
theorem Ik {op:C8}{a b:E}{l r:Expr}{p:Pos}(hu:u+100<cLine)(O:fk c)(ha:bu c T C d u a l)(hb:bu c T C d u b r)(hm:behindInMarks (dp op) r=false):nr c T C d u (.cmp op a b) (.Compare l [dp op] [r] p):=by
 intro A e J s Y Q X QT EC hA h S H HX;refine wpAny_isTrue_Compare1 (ha A e J s Y _ X _ EC hA h S ?_ HX) hm;intro va s₁ ax a1 J1 hs P S1 ra ak;refine hb A e J1 s₁ ax _ X _ EC hA ak S1 ?_ (HX.pre hs P);intro vb s2 Y2 b1 J2 b7 P2 S2 rb h2;refine d4 (Ao (Al hA.units _) hu) O.sys h2 S2 (P2.rv ra) rb fun r q tk hn=>?_;exact wpAny_truthy_bool (((H.pre hs P).pre b7 P2).now S2 q hn)
end
open PySem PySem.Calls PyProof.Rows PySem.SeqAt PySem.W
section
variable {c:Cx}{T:aQ}{C:Calls}{d u:Nat}
theorem EU {o1 o2:C8}{a b k:E}{l r r2:Expr}{p:Pos}(hu:u+100<cLine)(O:fk c)(ha:bu c T C d u a l)(hb:bu c T C d u b r)(hk:bu c T C d u k r2)(hm:behindInMarks (dp o2) r2=false) :
  bu c T C d u (.te o1 o2 a b k) (.Compare l [dp o1,dp o2] [r,r2] p):=by
 intro A e J s Y Q X QC EC hA h S H HX;refine Compare_chain (ha A e J s Y _ X _ EC hA h S ?_ HX) hm;intro va s₁ ax a1 J1 hs P S1 ra ak;refine chain_link (hb A e J1 s₁ ax _ X _ EC hA ak S1 ?_ (HX.pre hs P));intro vb s2 Y2 b1 J2 b7 P2 S2 rb h2;refine d4 (Ao (Al hA.units _) hu) O.sys h2 S2 (P2.rv ra) rb fun q hq tk hn=>?_;refine wpAny_truthy_bool ?_;have H2:=(H.pre hs P).pre b7 P2;have X2:=(HX.pre hs P).pre b7 P2;cases q with
 | false=>
  exact H2.now S2 cJ hq hn
 | true=>
  have Lp:bx s2 { s2 with toks:=tk }:=⟨rfl,rfl,rfl,hn⟩;refine chain_last (hk A e J2 _ Y2 _ X _ EC hA hq (S2.le hn) ?_ (X2.pre Lp a7.refl));intro vc s3 Y3 c1 J3 gz P3 S3 rc h3;exact d4 (Ao (Al hA.units _) hu) O.sys h3 S3 (P3.rv rb) rc fun r q tk hn=>((H2.pre Lp a7.refl).pre gz P3).now S3 cJ q hn
theorem DN {o1 o2:C8}{a b k:E}{l r r2:Expr}{p:Pos}(hu:u+100<cLine)(O:fk c)(ha:bu c T C d u a l)(hb:bu c T C d u b r)(hk:bu c T C d u k r2)(hm:behindInMarks (dp o2) r2=false) :
  nr c T C d u (.te o1 o2 a b k) (.Compare l [dp o1,dp o2] [r,r2] p):=by
 intro A e J s Y Q X QT EC hA h S H HX;refine isTrue_chain (ha A e J s Y _ X _ EC hA h S ?_ HX) hm;intro va s₁ ax a1 J1 hs P S1 ra ak;show wpAny c.M A (do
  let rv ← holding [va] (eval r c.f.env)
  standAt p
  let cv ← holding [va,rv] (compareOp (dp o1) va rv)
  release [va,rv] [cv]
  if ← holding [cv,rv] (truthy cv) then testChain p rv [dp o2] [eval r2 c.f.env] else pure false) QT EC s₁
 refine wpAny_bind (wpAny_holding (hb A e J1 s₁ ax _ X _ EC hA ak S1 ?_ (HX.pre hs P)));intro vb s2 Y2 b1 J2 b7 P2 S2 rb h2;refine wpAny_bind (wpAny_standAt (wpAny_bind (wpAny_holding ?_)));refine d4 (Ao (Al hA.units _) hu) O.sys h2 S2 (P2.rv ra) rb fun q hq tk hn=>?_;refine wpAny_bind (wpAny_release' (wpAny_bind (wpAny_holding (wpAny_truthy_bool ?_))));have H2:=(H.pre hs P).pre b7 P2;have X2:=(HX.pre hs P).pre b7 P2;have Lp:bx s2 { s2 with toks:=tk }:=⟨rfl,rfl,rfl,hn⟩;cases q with
 | false=>
  exact wpAny_pure (H2.now S2 hq hn)
 | true=>
  show wpAny c.M A (do
   let rv ← holding [vb] (eval r2 c.f.env)
   standAt p
   let cv ← operate [vb,rv] (compareOp (dp o2) vb rv)
   holding [cv] (truthy cv)) QT EC _
  refine wpAny_bind (wpAny_holding (hk A e J2 _ Y2 _ X _ EC hA hq (S2.le hn) ?_ (X2.pre Lp a7.refl)));intro vc s3 Y3 c1 J3 gz P3 S3 rc h3;refine wpAny_bind (wpAny_standAt (wpAny_bind (wpAny_operate' ?_)));refine d4 (Ao (Al hA.units _) hu) O.sys h3 S3 (P3.rv rb) rc fun r q tk hn=>?_;exact wpAny_holding (wpAny_truthy_bool (((H2.pre Lp a7.refl).pre gz P3).now S3 q hn))
theorem Fi {a:E}{x:Expr}(ha:nr c T C d u a x):DF c T C d u (.cons a .nil) [x]:=by
 intro A e J s Y Q X QT EC hA h S H HX;refine wpAny_allTrue_And_cons (ha A e J s Y _ X _ EC hA h S ?_ HX);intro v s' Y' J' hs P S' q;obtain ⟨b,rfl,q⟩:=il q;have q':=H.get hs P S' q;cases b with
 | true=>exact ⟨_,rfl,wpAny_allTrue_And_nil q'⟩
 | false=>exact ⟨_,rfl,q'⟩
theorem Fh {a:E}{x:Expr}(ha:nr c T C d u a x):DD c T C d u (.cons a .nil) [x]:=by
 intro A e J s Y Q X QT EC hA h S H HX;refine wpAny_allTrue_Or_cons (ha A e J s Y _ X _ EC hA h S ?_ HX);intro v s' Y' J' hs P S' q;obtain ⟨b,rfl,q⟩:=il q;have q':=H.get hs P S' q;cases b with
 | true=>exact ⟨_,rfl,q'⟩
 | false=>exact ⟨_,rfl,wpAny_allTrue_Or_nil q'⟩
theorem Cq {a b:E}{as:Es}{x y:Expr}{xs:List Expr}(ha:nr c T C d u a x)(hs:DF c T C d u (.cons b as) (y::xs)):DF c T C d u (.cons a (.cons b as)) (x::y::xs):=by
 intro A e J s Y Q X QT EC hA h S H HX;refine wpAny_allTrue_And_cons (ha A e J s Y _ X _ EC hA h S ?_ HX);intro v s' Y' J' oW P S' q;rcases kf q with ⟨rfl,q⟩ | ⟨rfl,q⟩
 ·exact ⟨_,rfl,hs A e J' s' Y' Q X QT EC hA q S' (H.pre oW P) (HX.pre oW P)⟩
 ·exact ⟨_,rfl,H.get oW P S' q⟩
theorem Co {a b:E}{as:Es}{x y:Expr}{xs:List Expr}(ha:nr c T C d u a x)(hs:DD c T C d u (.cons b as) (y::xs)):DD c T C d u (.cons a (.cons b as)) (x::y::xs):=by
 intro A e J s Y Q X QT EC hA h S H HX;refine wpAny_allTrue_Or_cons (ha A e J s Y _ X _ EC hA h S ?_ HX);intro v s' Y' J' oW P S' q;rcases kf q with ⟨rfl,q⟩ | ⟨rfl,q⟩
 ·exact ⟨_,rfl,H.get oW P S' q⟩
 ·exact ⟨_,rfl,hs A e J' s' Y' Q X QT EC hA q S' (H.pre oW P) (HX.pre oW P)⟩
theorem Cr {a:E}{x:Expr}(ha:bu c T C d u a x):DG c T C d u (.cons a .nil) [x]:=by
 intro A p e J s Y Q X QC EC hA h S H HX;refine ha A e J s Y _ X _ EC hA h S ?_ HX;intro v s' Y' a' J' hs P S' r q;obtain ⟨b,rfl,q⟩:=il q;exact H v s' Y' _ J' hs P S' r q
theorem Cp {a:E}{x:Expr}(ha:bu c T C d u a x):DE c T C d u (.cons a .nil) [x]:=by
 intro A p e J s Y Q X QC EC hA h S H HX;refine ha A e J s Y _ X _ EC hA h S ?_ HX;intro v s' Y' a' J' hs P S' r q;obtain ⟨b,rfl,q⟩:=il q;exact H v s' Y' _ J' hs P S' r q
theorem xY {a b:E}{as:Es}{x y:Expr}{xs:List Expr}(ha:bu c T C d u a x)(hs:DG c T C d u (.cons b as) (y::xs)):DG c T C d u (.cons a (.cons b as)) (x::y::xs):=by
 intro A p e J s Y Q X QC EC hA h S H HX;refine wpAny_bind (m:=eval x c.f.env) (ha A e J s Y _ X _ EC hA h S ?_ HX);intro v s' Y' a' J' oW P S' r q;rcases kf q with ⟨rfl,q⟩ | ⟨rfl,q⟩
 ·cases (r:v=.bool true);exact wpAny_bind (wpAny_standAt (wpAny_bind (wpAny_holding (wpAny_truthy_bool (hs A p e J' s' Y' Q X QC EC hA q S' (H.pre oW P) (HX.pre oW P))))))
 ·cases (r:v=.bool false);exact wpAny_bind (wpAny_standAt (wpAny_bind (wpAny_holding (wpAny_truthy_bool (wpAny_pure ((H.pre oW P).dP S' cJ q))))))
theorem xX {a b:E}{as:Es}{x y:Expr}{xs:List Expr}(ha:bu c T C d u a x)(hs:DE c T C d u (.cons b as) (y::xs)):DE c T C d u (.cons a (.cons b as)) (x::y::xs):=by
 intro A p e J s Y Q X QC EC hA h S H HX;refine wpAny_bind (m:=eval x c.f.env) (ha A e J s Y _ X _ EC hA h S ?_ HX);intro v s' Y' a' J' oW P S' r q;rcases kf q with ⟨rfl,q⟩ | ⟨rfl,q⟩
 ·cases (r:v=.bool true);exact wpAny_bind (wpAny_standAt (wpAny_bind (wpAny_holding (wpAny_truthy_bool (wpAny_pure ((H.pre oW P).dP S' cJ q))))))
 ·cases (r:v=.bool false);exact wpAny_bind (wpAny_standAt (wpAny_bind (wpAny_holding (wpAny_truthy_bool (hs A p e J' s' Y' Q X QC EC hA q S' (H.pre oW P) (HX.pre oW P))))))
theorem Kk {q a b:E}{x y z:Expr}{p:Pos}(hq:nr c T C d u q x)(ha:bu c T C d u a y)(hb:bu c T C d u b z):bu c T C d u (.ite q a b) (.IfExp x y z p):=by
 intro A e J s Y Q X QC EC hA h S H HX;refine wpAny_bind (m:=isTrue x c.f.env (eval x c.f.env)) (hq A e J s Y _ X _ EC hA h S ?_ HX);intro r s' Y' J' hs P S' q';rcases kf q' with ⟨rfl,q'⟩ | ⟨rfl,q'⟩
 ·exact ⟨_,rfl,ha A e J' s' Y' Q X QC EC hA q' S' (H.pre hs P) (HX.pre hs P)⟩
 ·exact ⟨_,rfl,hb A e J' s' Y' Q X QC EC hA q' S' (H.pre hs P) (HX.pre hs P)⟩
theorem EN:kG c T C d u .nil []:=fun A p e J s Y Q X QC EC hA h S H HX=>
 spliced_nil (H [] s Y [] J (bx.refl s) a7.refl S (rfl:_=[]) h)
theorem sd {a:E}{as:Es}{x:Expr}{xs:List Expr}(ha:bu c T C d u a x)(hs:kG c T C d u as xs)(hx:∀ env rest,starEach (x::rest) env=(false,eval x env)::starEach rest env):kG c T C d u (.cons a as) (x::xs):=by
 intro A p e J s Y Q X QC EC hA h S H HX;rw [hx];show wpAny c.M A (spliced ((false,eval x c.f.env)::backTo p (starEach xs c.f.env))) QC EC s;refine spliced_cons (ha A e J s Y _ X _ EC hA h S ?_ HX);intro v s₁ ax a1 J1 aP P1 S1 r1 ak;refine hs A p e J1 s₁ ax _ X _ EC hA ak S1 ?_ (HX.pre aP P1);intro vs s2 Y2 XA J2 b7 P2 S2 r2 h2;exact (H.pre aP P1) (v::vs) s2 Y2 (a1::XA) J2 b7 P2 S2 ⟨_,_,rfl,P2.rv r1,r2⟩ h2
theorem Kd:ti c T C d u .no none:=fun A e J s Y Q X QC EC hA h S H HX=>
 wpAny_pure (H .none s Y Option.none J (bx.refl s) a7.refl S (rfl:_=_) h)
theorem qh {a:E}{x:Expr}(ha:bu c T C d u a x):ti c T C d u (.yes a) (some x):=by
 intro A e J s Y Q X QC EC hA h S H HX;refine ha A e J s Y _ X _ EC hA h S ?_ HX;intro v s' Y' a' J' hs P S' r q;exact H v s' Y' (some a') J' hs P S' r q
theorem Ca {as:Es}{xs:List Expr}{k:Nat}{p:Pos}(hs:kG c T C d u as xs):bu c T C d u (.tuple as) (.Tuple xs k p):=by
 intro A e J s Y Q X QC EC hA h S H HX;show wpAny c.M A (do standAt p; newTuple (← spliced (backTo p (starEach xs c.f.env)))) QC EC s;refine wpAny_bind (wpAny_standAt (wpAny_bind (hs A p e J s Y _ X _ EC hA h S ?_ HX)));intro vs s₁ ax XB J1 aP P1 S1 r1 ak;obtain ⟨hz,ak⟩:=gO ak;have hz:=Ad hz;exact wpAny_newTuple ((H.pre aP P1).tuple S1 (items:=vs.toArray) r1 hz ak) (r1.length▸Aa hz aK)
theorem ET {as:Es}{xs:List Expr}{p:Pos}(hs:kG c T C d u as xs):bu c T C d u (.list as) (.List xs p):=by
 intro A e J s Y Q X QC EC hA h S H HX;show wpAny c.M A (do standAt p; newList (← spliced (backTo p (starEach xs c.f.env)))) QC EC s;refine wpAny_bind (wpAny_standAt (wpAny_bind (hs A p e J s Y _ X _ EC hA h S ?_ HX)));intro vs s₁ ax XB J1 aP P1 S1 r1 ak;obtain ⟨hz,ak⟩:=gO ak;have hz:=Ad hz;exact wpAny_newList ((H.pre aP P1).list S1 (items:=vs.toArray) r1 hz ak) (r1.length▸Aa hz aK)
theorem EX {a:E}{x:Expr}{y:At}{p:Pos}(O:fk c)(ha:bu c T C d u a x)(hb:attributeBase x (atName y) c.f.env (eval x c.f.env)=eval x c.f.env):bu c T C d u (.attr a y) (.Attribute x (atName y) p):=by
 intro A e J s Y Q X QC EC hA h S H HX;show wpAny c.M A (do
  let o ← attributeBase x (atName y) c.f.env (eval x c.f.env)
  standAt p.atName
  let r ← holding [o] (getAttr o (atName y) true)
  letTemporaryGo x o r
  pure r) QC EC s
 rw [hb];refine wpAny_bind (ha A e J s Y _ X _ EC hA h S ?_ HX);intro v s₁ ax a1 J1 aP P1 S1 r1 ak;refine wpAny_bind (wpAny_standAt (wpAny_bind (wpAny_holding (mL O ak S1 r1 ?_))));intro w s2 Y2 a2 J2 b7 P2 S2 r2 h2;exact wpAny_bind (wpAny_letTemporaryGo (wpAny_pure ((H.pre aP P1) w s2 Y2 a2 J2 b7 P2 S2 r2 h2)))
theorem Qv {A:Around} {s:Shared} {o:Value} {Q:Bool->Shared->Prop} {EC:Value->Shared->Prop} (h:s.TypeIs o "str"∨s.TypeIs o "list"∨s.TypeIs o "tuple"∨s.TypeIs o "dict") (q:Q false s):wpAny c.M A (getitemInPython o) Q EC s:=by
 rcases h with h | h | h | h
 ·rw [getitemInPython_of_ne h.not_modules]; exact wpAny_bind (wpAny_specialOf h F.slot_str_getitem.lookup (wpAny_pure q))
 ·rw [getitemInPython_of_ne h.not_modules]; exact wpAny_bind (wpAny_specialOf h F.slot_list_getitem.lookup (wpAny_pure q))
 ·rw [getitemInPython_of_ne h.not_modules]; exact wpAny_bind (wpAny_specialOf h F.slot_tuple_getitem.lookup (wpAny_pure q))
 ·rw [getitemInPython_of_ne h.not_modules]; exact wpAny_bind (wpAny_specialOf h F.slot_dict_getitem.lookup (wpAny_pure q))
theorem Ie {e:Ev} {J:ae} {s:Shared} {Y:aM} {a b:AV} {v:Value} {R:AV->Prop} (h:iJ a b J R) (S:c.S Y e J s) (r:c.V s.heap Y a v):s.TypeIs v "str"∨s.TypeIs v "list"∨s.TypeIs v "tuple"∨s.TypeIs v "dict":=by
 cases a with
 | obj r'=>
  cases b with
  | int i=>
   obtain ⟨l,h1,_⟩:=bR h;obtain ⟨p,items,n,rfl,hp,ho,_⟩:=Cx.S.bM S h1 r;exact .inr (.inl ⟨_,ho,rfl⟩)
  | str x=>
   obtain ⟨es,h1,_⟩:=uc h;obtain ⟨⟨p,dd⟩,rfl,hp⟩:=r;obtain ⟨e1,gm,⟨ob,Uv,ep,hb,hx,_⟩,_⟩:=S.sim.obj _ _ _ hp h1;exact .inr (.inr (.inr ⟨_,hb,hx.1⟩))
  | _=>exact h.elim
 | tup l=>
  obtain ⟨p,items,rfl,⟨n,ht⟩,_⟩:=r;exact .inr (.inr (.inl ⟨_,ht,rfl⟩))
 | jr l=>
  obtain ⟨p,items,rfl,⟨n,ht⟩,_⟩:=r;exact .inr (.inl ⟨_,S.stays _ _ ht,rfl⟩)
 | str l=>
  obtain ⟨t,rfl,_⟩:=r;exact .inl (typeIs_str _ _ _)
 | _=>exact h.elim
theorem Kl {a b:E}{x y:Expr}{p:Pos}(ha:bu c T C d u a x)(hb:bu c T C d u b y)(hy:∀ o i,subscripted y false o i=operate [o,i] (getItem o i)):bu c T C d u (.idx a b) (.Subscript x y p):=by
 intro A e J s Y Q X QC EC hA h S H HX;refine Subscript_ (ha A e J s Y _ X _ EC hA h S ?_ HX);intro v s₁ ax a1 J1 aP P1 S1 r1 ak;refine hb A e J1 s₁ ax _ X _ EC hA ak S1 ?_ (HX.pre aP P1);intro w s2 Y2 b1 J2 b7 P2 S2 r2 h2;unfold subscriptTail;refine wpAny_bind (Qv (Ie h2 S2 (P2.rv r1)) ?_);refine wpAny_bind ?_;rw [hy];refine wpAny_operate' (oI h2 S2 (P2.rv r1) r2 ?_);intro z s3 Y3 a3 J3 gz P3 S3 r3 h3;exact wpAny_bind (wpAny_letTemporaryGo (wpAny_pure (((H.pre aP P1).pre b7 P2) z s3 Y3 a3 J3 gz P3 S3 r3 h3)))
theorem ty_slice {e:Ev} {J:ae} {s:Shared} {Y:aM} {a:AV} {lo hi:Option AV} {v:Value} {Q:QV} (h:tD a lo hi J Q) (S:c.S Y e J s) (r:c.V s.heap Y a v):s.TypeIs v "str"∨s.TypeIs v "list"∨s.TypeIs v "tuple"∨s.TypeIs v "dict":=by
 cases a with
 | str l=>
  obtain ⟨t,rfl,_⟩:=r;exact .inl (typeIs_str _ _ _)
 | tup l=>
  obtain ⟨p,items,rfl,⟨n,ht⟩,_⟩:=r;exact .inr (.inr (.inl ⟨_,ht,rfl⟩))
 | obj r'=>
  obtain ⟨l,h1,_⟩:=bR h;obtain ⟨p,items,n,rfl,hp,ho,_⟩:=Cx.S.bM S h1 r;exact .inr (.inl ⟨_,ho,rfl⟩)
 | _=>exact h.elim
theorem kj.mono {base h h':Heap}{Y Y':aM}{own:Addr->Prop}{F:List Addr}(P:a7 F own Y h Y' h'){o:Option AV}{v:Value}(r:kj h Y base o v):kj h' Y' base o v:=by
 cases o with
 | none=>exact r
 | some a=>exact P.rv r
theorem dy {s:Shared}{v:Value}{T':String}(o:Obj)(h:s.TypeIs v T'):Shared.TypeIs { s with heap:=s.heap.push o } v T':=by
 unfold Shared.TypeIs at h ⊢;cases v<;>first | exact h | (obtain ⟨ob,h1,h2⟩:=h; exact ⟨ob,Heap.get?_push_of_some _ h1,h2⟩)
theorem Cb {a:E}{lo hi:Eo}{x:Expr}{yl yh:Option Expr}{p p':Pos}(ha:bu c T C d u a x)(hl:ti c T C d u lo yl)(hh:ti c T C d u hi yh):bu c T C d u (.slice a lo hi) (.Subscript x (.Slice yl yh none p') p):=by
 intro A e J s Y Q X QC EC hA h S H HX;refine Subscript_ (ha A e J s Y _ X _ EC hA h S ?_ HX);intro v s₁ ax a1 J1 aP P1 S1 r1 ak;show wpAny c.M A (do
  let l ← valueOrNone (evalOpt yl c.f.env);let u ← holding [l] (valueOrNone (evalOpt yh c.f.env));let s ← holding [l,u] (valueOrNone (evalOpt none c.f.env))
  newFields "slice" [l,u,s]) _ EC s₁
 refine wpAny_bind (hl A e J1 s₁ ax _ X _ EC hA ak S1 ?_ (HX.pre aP P1));intro vl s2 Y2 l2 J2 b7 P2 S2 rl h2;refine wpAny_bind (wpAny_holding (hh A e J2 s2 Y2 _ X _ EC hA h2 S2 ?_ ((HX.pre aP P1).pre b7 P2)));intro vh s3 Y3 l3 J3 gz P3 S3 rh h3;refine wpAny_bind (wpAny_holding (wpAny_pure ?_));refine wpAny_newObj_type ?_ (by show 3<=sizeLine+2; rw [sizeLine_eq]; decide);unfold subscriptTail;refine wpAny_bind (Qv ?_ ?_)
 ·exact (ty_slice h3 S3 (P3.rv (P2.rv r1))).imp (dy _) (Or.imp (dy _) (Or.imp (dy _) (dy _)))
 refine wpAny_bind ?_;show wpAny c.M A (operate [Value.ref s3.heap.objs.size,v] (getItem v (Value.ref s3.heap.objs.size))) _ EC _;refine wpAny_operate' (sx h3 S3 (P3.rv (P2.rv r1)) (rl.mono P3) rh ?_);intro z s4 Y4 a4 J4 nM P4 S4 r4 h4;exact wpAny_bind (wpAny_letTemporaryGo (wpAny_pure ((((H.pre aP P1).pre b7 P2).pre gz P3) z s4 Y4 a4 J4 nM P4 S4 r4 h4)))
theorem Kf {a b:E}{x y:Expr}{p:Pos}(ha:bu c T C d u a x)(hb:bu c T C d u b y){A:Around}{e:Ev}{J:ae}{s:Shared}{Y:aM}{Q:QV}{X:QX}{QC EC:Value->Shared->Prop}(hA:m9 c d u A)(h:TB T C a b e J Q X)(S:c.S Y e J s)(H:cV c e s Y Q QC)(HX:s7 c e s Y X EC):wpAny c.M A (eval (.BoolOp .Or [x,y] p) c.f.env) QC EC s:=by
 rw [arm_eval_BoolOp];refine wpAny_bind (m:=eval x c.f.env) (ha A e J s Y _ X _ EC hA h S ?_ HX);intro v s' Y' a' J' oW P S' r q;obtain ⟨r',rfl,q⟩:=lN q;obtain ⟨l,hl,q⟩:=bR q;obtain ⟨p0,items,n,rfl,_,ho,rs,hz⟩:=Cx.S.bM S' hl r;have hlen:=rs.size;refine wpAny_bind (wpAny_standAt (wpAny_bind (wpAny_holding (wpAny_truthy_list ho.isList (Int.lt_of_le_of_lt (Int.ofNat_le.mpr (hlen▸hz)) (by decide)) ?_))));have hle:s'.toks<=s'.toks+1+1:=Af _ 2;have b7:bx s' { s' with toks:=s'.toks+1+1 }:=⟨rfl,rfl,rfl,hle⟩;cases l with
 | nil=>
  rw [show items.isEmpty=true from Array.isEmpty_iff_size_eq_zero.mpr hlen.symm];exact hb A e J' _ Y' Q X QC EC hA q (S'.le hle) ((H.pre oW P).pre b7 a7.refl) ((HX.pre oW P).pre b7 a7.refl)
 | cons z l=>
  rw [show items.isEmpty=false from Bool.eq_false_iff.mpr fun w=>Nat.succ_ne_zero _ (hlen.trans (Array.isEmpty_iff_size_eq_zero.mp w))];exact wpAny_pure ((H.pre oW P).now S' r q hle)
theorem BO:∀ (items:Array Value),1<=items.size->items.size<=3->(slicePick items none (some 0) (some (-1))).toList=(items.toList.drop 1).reverse
 | ⟨[]⟩,h,_=>absurd h (by decide)
 | ⟨[_]⟩,_,_=>by kernel_rfl
 | ⟨[_,_]⟩,_,_=>by kernel_rfl
 | ⟨[_,_,_]⟩,_,_=>by kernel_rfl
 | ⟨_::_::_::_::_⟩,_,h=>absurd h (Nat.not_le.mpr (Ar 4 _))
theorem EP {a:E}{x:Expr}{yh:Option Expr}{ys:Expr}{p p':Pos}(ha:bu c T C d u a x)(hh:ti c T C d u (.yes (.int 0)) yh)(hs:ti c T C d u (.yes (.neg (.int 1))) (some ys)):bu c T C d u (.wG a) (.Subscript x (.Slice none yh (some ys) p') p):=by
 intro A e J s Y Q X QC EC hA h S H HX;refine Subscript_ (ha A e J s Y _ X _ EC hA h S ?_ HX);intro v s₁ ax a1 J1 aP P1 S1 r1 ak;obtain ⟨r,rfl,ak⟩:=lN ak;obtain ⟨l,hl,l1,l3,q⟩:=bR ak;show wpAny c.M A (do
  let l ← valueOrNone (evalOpt none c.f.env);let u ← holding [l] (valueOrNone (evalOpt yh c.f.env));let s ← holding [l,u] (valueOrNone (evalOpt (some ys) c.f.env))
  newFields "slice" [l,u,s]) _ EC s₁
 refine wpAny_bind (wpAny_pure ?_);have i0:yV T C (.yes (.int 0)) e J1 (fun o J'=>o=some (.int 0)∧J'=J1) X:=⟨rfl,rfl⟩;refine wpAny_bind (wpAny_holding (hh A e J1 s₁ ax _ X _ EC hA i0 S1 ?_ (HX.pre aP P1)));rintro vh s2 Y2 _ J2 b7 P2 S2 rh ⟨rfl,rfl⟩;have i1:yV T C (.yes (.neg (.int 1))) e J2 (fun o J'=>o=some (.int (-1))∧J'=J2) X:=⟨rfl,rfl⟩;refine wpAny_bind (wpAny_holding (hs A e J2 s2 Y2 _ X _ EC hA i1 S2 ?_ ((HX.pre aP P1).pre b7 P2)));rintro vs s3 Y3 _ J3 gz P3 S3 rs ⟨rfl,rfl⟩;obtain ⟨t1,rfl⟩:=rh;obtain ⟨t2,rfl⟩:=rs;have r3:=P3.rv (P2.rv r1);obtain ⟨q0,items,n,rfl,hp,ho,rr,hz⟩:=Cx.S.bM S3 hl r3;refine wpAny_newObj_type ?_ (by show 3<=sizeLine+2; rw [sizeLine_eq]; decide);unfold subscriptTail;refine wpAny_bind (Qv ?_ ?_)
 ·exact .inr (.inl (dy _ ⟨_,ho,rfl⟩))
 refine wpAny_bind ?_;show wpAny c.M A (operate [.ref q0,Value.ref s3.heap.objs.size] (getItem (.ref q0) (Value.ref s3.heap.objs.size))) _ EC _;have H3:=((H.pre aP P1).pre b7 P2).pre gz P3;have ye:=rr.size;refine wpAny_operate' (wpAny_getItem_list_slice (s:={ s3 with heap:=s3.heap.push { cls:=.type "slice",data:=.fields #[.none,.int 0 t1,.int (-1) t2] } }) (items:=items) (lo:=none) (hi:=some 0) (st:=some (-1)) ?_ (Heap.IsSliceOf.new s3.heap _ _ _) .none (.int _ _) (.int _ _) (by decide) ?_ ?_)
 ·exact (show IsL (s3.heap.push _) q0 items n from Heap.get?_push_of_some _ ho).isList
 ·have H4:cV c e { s3 with heap:=s3.heap.push { cls:=.type "slice",data:=.fields #[.none,.int 0 t1,.int (-1) t2] } } Y3 Q QC:=H3.pre ⟨rfl,rfl,rfl,Aj _⟩ (a7.push _)
  refine wpAny_bind (wpAny_letTemporaryGo (wpAny_pure (H4.list (S3.gM _) (vs:=(l.drop 1).reverse) ?_ ?_ q)))
  ·rw [BO items (ye▸l1) (ye▸l3)];exact ((a7.push (F:=c.F) (own:=jz) _).Cy rr).drop 1 |>.rev
  ·rw [List.length_reverse,List.length_drop]; exact Aa (Nat.sub_le _ _) hz
 ·exact ye▸Aa hz aK
end
open PySem PySem.Calls PyProof.Rows PySem.SeqAt PySem.W
theorem qw {M:Model}{A:Around}{E:Value->Shared->Prop}{s:Shared}{f:Value}{trees:List (Bool×Sem Value)}{Q:Args->Shared->Prop}(hp:trees.any (·.1)=false)
  (h:wpAny M A (spliced trees) (fun vs s'=>Q ⟨vs,[]⟩ s') E s):wpAny M A (evalArgs f true trees []) Q E s:=by
 match trees,hp,h with
 | [],_,h=>
  unfold evalArgs;show wpAny M A (spliced [] >>= _) Q E s;refine wpAny_bind (wpAny_mono h (fun vs s' h'=>?_) fun _ _ x=>x);refine wpAny_holding ?_;exact wpAny_bind (wpAny_pure (wpAny_bind (wpAny_pure (wpAny_pure h'))))
 | (true,_)::_,hp,_=>cases hp
 | (false,x)::rest,_,h=>exact evalArgs_plain h
section
variable {c:Cx}{T:aQ}{C:Calls}{d u:Nat}
theorem m9.more {A:Around}(hA:m9 c d u A):m9 c (d+2) (u+10) A:=⟨hA.wt,hA.hand,Aa hA.depth (Af ..),Aa hA.units (Af ..)⟩
abbrev Ld (c:Cx)(f:Value):Prop:=∀ h,c.base.StaysIn h->∃ k,(k=Keeper.frame∨k=Keeper.machine∨k=Keeper.boundFrame)∧Looks c.M h (keeperOf f) k
theorem Ek {f:Nat}{v:AV}{J:ae}{P:Nat->Prop}(h:bG T f v J P):∃ r c fs,v=.obj r∧J[r]?=some (.inst c fs)∧T.bX f=some c∧P r:=by
 unfold bG at h; exact h
theorem cz {A:Around}{as:Es}{xs:List Expr}{p:Pos}{e:Ev}{J:ae}{s:Shared}{Y:aM}{Q:List AV->ae->Prop}{X:QX}{QC EC:Value->Shared->Prop}{f:Value}{first:List Value}
  (hA:m9 c d u A) (hk:Ld c f) (hs:kG c T C d u as xs)
  (cG:∀ env,(backTo p (starEach xs env)).any (·.1)=false) (h:iK T C as e J Q X) (S:c.S Y e J s)
  (H:y6 c e s Y Q fun vs s'=>wpAny c.M A (call f (first++vs)) QC EC s') (HX:s7 c e s Y X EC):wpAny c.M A (callWith p f first (backTo p (starEach xs c.f.env)) []) QC EC s:=by
 refine callWith_of (P:=c.base.StaysIn) (by rw [cG]; rfl) hk (qw (cG _) (hs A p e J s Y Q X _ EC hA h S ?_ HX));intro vs s' Y' m5 J' fE P' S' r q;exact ⟨S'.stays,H vs s' Y' m5 J' fE P' S' r q⟩
theorem jk (id:String):Ld c (.builtin id):=fun _ _=>⟨.machine,.inr (.inl rfl),Looks.of_pure rfl⟩
theorem xv (id:String):Ld c (.type id):=fun _ _=>⟨.machine,.inr (.inl rfl),Looks.of_pure rfl⟩
theorem Eu {a:Addr}{o:Obj}{fd:FuncData}(ha:c.base.get? a=some o)(hd:o.data=.func fd):Ld c (.ref a):=fun h hs=>
 ⟨.frame,.inl rfl,(Looks.ld (part:=none) (hs a o ha)).andThen (by
  obtain ⟨o1,o2,o3,o4⟩:=o;cases hd;exact .now)⟩
theorem AE {f:Value}(O:fk c)(hf:keepIn c.K f=true):Ld c f:=fun h hs=>keeps_K hf h (O.K.keeps hs)
theorem Ew (b:Bi):Ld c (lF b):=by
 cases b<;>first | exact jk _ | exact xv _
theorem fD {A:Around}{x:Str}{p1 p:Pos}{xs:List Expr}{s:Shared}{QC EC:Value->Shared->Prop}(h:wpAny c.M A (eval (.Name x p1) c.f.env) (fun f s'=>wpAny c.M A (callWith p f [] (backTo p (starEach xs c.f.env)) []) QC EC s') EC s) :
  wpAny c.M A (eval (.Call (.Name x p1) xs [] p) c.f.env) QC EC s:=by
 show wpAny c.M A (eval (.Name x p1) c.f.env >>= fun f=>callWith p f [] (backTo p (starEach xs c.f.env)) (backToKw p (keywordEach [] c.f.env))) QC EC s;exact wpAny_bind h
theorem NX {b:Bi} {as:Es} {xs:List Expr} {p1 p:Pos} {N:Nm} {mg mb:Str->Option Value} (O:iL c T N mg mb) (V:ba c.f c.vars) (hk:c.f.env.kindOf (iS b)=some .globalImplicit∧(iS b==("__debug__" : Str))=false)
  (hs:kG c T C d u as xs) (cG:∀ env,(backTo p (starEach xs env)).any (·.1)=false):bu c T C d u (.bi b as) (.Call (.Name (iS b) p1) xs [] p):=by
 intro A e J s Y Q X QC EC hA h S H HX;refine fD (ij S V hk O.g O.b (.inr (O.bi b)) ?_);refine cz hA (Ew b) hs cG h S ?_ HX;intro vs s' Y' m5 J' fE P' S' r q;exact Ck hA.hand q S' r (H.pre fE P')
theorem EV {k:Nat} {as:Es} {x:Str} {xs:List Expr} {p1 p:Pos} {N:Nm} {mg mb:Str->Option Value} (O:iL c T N mg mb) (V:ba c.f c.vars) (CO:iq c C N.fa (d+2) (u+10)) (hx:N.fn k=some x) (hk:c.f.env.kindOf x=some .globalImplicit∧(x==("__debug__" : Str))=false)
  (hs:kG c T C d u as xs) (cG:∀ env,(backTo p (starEach xs env)).any (·.1)=false) (hc:T.bX k=none):bu c T C d u (.call k as) (.Call (.Name x p1) xs [] p):=by
 intro A e J s Y Q X QC EC hA h S H HX;obtain ⟨a,o,fd,hf,hg,ha,hd⟩:=O.fn k x hx hc;refine fD (ij S V hk O.g O.b (.inl hg) ?_);refine cz hA (Eu ha hd) hs cG h S ?_ HX;intro vs s' Y' m5 J' fE P' S' r q;obtain ⟨a',FA,run⟩:=CO k m5 J' Q X q.2;rw [hf] at FA; cases FA;exact wpAny_call (run A e s' Y' vs _ hA.more S' r (H.pre fE P') (HX.pre fE P'))
theorem iF {A:Around}{o:Expr}{name:Str}{apos p:Pos}{xs:List Expr}{s:Shared}{QC EC:Value->Shared->Prop}(hb:attributeBase o name c.f.env (eval o c.f.env)=eval o c.f.env)(hl:(apos.endLine==p.line)=true)(hn:xs.length<30)
  (cG:∀ env,(backTo p (starEach xs env)).any (·.1)=false)
  (h:wpAny c.M A (eval o c.f.env) (fun ov s'=>wpAny c.M A (getMethod ov name (do return (← importBound o c.f.env).getD true)) (fun r Cw=>wpAny c.M A (callWith p r.1 r.2 (backTo p (starEach xs c.f.env)) []) QC EC Cw) EC s') EC s) :
  wpAny c.M A (eval (.Call (.Attribute o name apos) xs [] p) c.f.env) QC EC s:=by
 rw [arm_eval_Call,hb];refine wpAny_bind (wpAny_mono h (fun ov s₁ ak=>?_) fun _ _ e=>e);refine wpAny_bind (wpAny_standAt ?_);have NP:methodCallForm (xs.length+([]:List Keyword).length) (backTo p (starEach xs c.f.env)) (backToKw p (keywordEach [] c.f.env))=true:=by
  unfold methodCallForm;have e1:(backTo p (starEach xs c.f.env)).all (fun x=>!x.1)=true:=by
   rw [List.all_eq_true];intro x hx;have:=cG c.f.env;rw [List.any_eq_false] at this
   simpa using this x hx
  rw [e1];exact decide_eq_true (show xs.length+0+0<30 from hn)
 have tc:methodCallPos true o c.f.env apos p=pure p:=by unfold methodCallPos; simp [hl]
 unfold methodCall;rw [NP];refine wpAny_bind (wpAny_holding ?_);show wpAny c.M A (getMethod ov name (do return (← importBound o c.f.env).getD true)) _ EC s₁;refine wpAny_mono ak (fun r s2 h2=>?_) fun _ _ e=>e;exact wpAny_bind (wpAny_of_eq tc h2)
theorem NW {a:E}{m:Bm}{as:Es}{x:Expr}{xs:List Expr}{apos p:Pos}(ha:bu c T C d u a x)(hb:attributeBase x (pN m) c.f.env (eval x c.f.env)=eval x c.f.env)(hl:(apos.endLine==p.line)=true)(hn:xs.length<30)
  (hs:kG c T C d u as xs) (cG:∀ env,(backTo p (starEach xs env)).any (·.1)=false):bu c T C d u (.bm a m as) (.Call (.Attribute x (pN m) apos) xs [] p):=by
 intro A e J s Y Q X QC EC hA h S H HX;refine iF hb hl hn cG (ha A e J s Y _ X _ EC hA h S ?_ HX);intro v s₁ ax a1 J1 aP P1 S1 r1 ak;refine uA ak S1 r1 fun ak=>?_;refine cz hA (jk _) hs cG ak S1 ?_ (HX.pre aP P1);intro vs s' Y' m5 J' fE P' S' r q;exact Ci q S' (P'.rv r1) r ((H.pre aP P1).pre fE P')
theorem ES {a:E}{k:Nat}{as:Es}{x:Expr}{y:Str}{xs:List Expr}{apos p:Pos}{N:Nm}{mg mb:Str->Option Value}(O:fk c)(NO:iL c T N mg mb)(CO:iq c C N.fa (d+2) (u+10))(hx:N.fn k=some y)
  (ha:bu c T C d u a x) (hb:attributeBase x y c.f.env (eval x c.f.env)=eval x c.f.env) (hl:(apos.endLine==p.line)=true) (hn:xs.length<30)
  (hs:kG c T C d u as xs) (cG:∀ env,(backTo p (starEach xs env)).any (·.1)=false):bu c T C d u (.ai a k as) (.Call (.Attribute x y apos) xs [] p):=by
 intro A e J s Y Q X QC EC hA h S H HX;refine iF hb hl hn cG (ha A e J s Y _ X _ EC hA h S ?_ HX);intro v s₁ ax a1 J1 aP P1 S1 r1 ak;obtain ⟨r,i,fs,rfl,hr,Ui,ak⟩:=Ek ak;obtain ⟨q,dx,CA,sl,es,n,rfl,hp,hC,hd,I,fr,nd⟩:=Cx.S.qd S1 hr r1;have ok:=O.cls _ _ hC;obtain ⟨fa,WE,zv,Qd,zr,CZ⟩:=NO.ai k y i CA hx Ui hC;refine method_fn (f:=fa) (O.K.keeps S1.stays) I (plainGet_of ok.get).1 (plainGet_of ok.get).2 zv Qd ?_ ?_
 ·show (lookIn y (dictOf es n)).map _=_;rw [lookIn_dict,fr.other CZ]; rfl
 ·refine cz hA (AE O zr) hs cG ak S1 ?_ (HX.pre aP P1);intro vs s' Y' m5 J' fE P' S' rr q';obtain ⟨a',FA,run⟩:=CO k (.obj r::m5) J' Q X q';rw [WE] at FA; cases FA;exact wpAny_call (run A e s' Y' (.ref q::vs) _ hA.more S' ⟨_,_,rfl,P'.rv r1,rr⟩ ((H.pre aP P1).pre fE P') ((HX.pre aP P1).pre fE P'))
theorem Kj {i:Nat}{as:Es}{x:Str}{xs:List Expr}{p1 p:Pos}{N:Nm}{mg mb:Str->Option Value}(O:fk c)(NO:iL c T N mg mb)(V:ba c.f c.vars)(CO:iq c C N.fa (d+2) (u+10))(hx:N.cn i=some x)
  (hk:c.f.env.kindOf x=some .globalImplicit∧(x==("__debug__" : Str))=false) (hs:kG c T C d u as xs) (cG:∀ env,(backTo p (starEach xs env)).any (·.1)=false):bu c T C d u (.new i as) (.Call (.Name x p1) xs [] p):=by
 intro A e J s Y Q X QC EC hA h S H HX;obtain ⟨CA,hC,hg,Wr,zr,NL⟩:=NO.cls i x hx;refine fD (ij S V hk NO.g NO.b (.inl hg) ?_);refine cz hA (AE O zr) hs cG h S ?_ HX;intro vs s' Y' m5 J' fE P' S' r q;obtain ⟨k,uH,Ui,q⟩:=q;obtain ⟨fi,yz,zv,Qd⟩:=NL k uH;obtain ⟨a',FA,run⟩:=CO k _ _ _ X q;rw [yz] at FA; cases FA;have X':c.K.In s'.heap:=O.K.keeps S'.stays;refine wpAny_call ?_;have VX:(Code.builtin "type.__call__" ⟨.ref CA::vs,[]⟩).weight=1:=by
  unfold Code.weight;have h1:(Code.builtin "type.__call__" ⟨.ref CA::vs,[]⟩).isGuard=false:=by
   show guardIds.contains "type.__call__"=false
   decide +kernel
  rw [h1]; rfl
 have V8:(Code.builtin "type.__call__" ⟨.ref CA::vs,[]⟩).cUnits=1:=rfl
 have WI:(Code.builtin "type.__call__" ⟨.ref CA::vs,[]⟩).envs=[]:=rfl
 have K7:m9 c (d+2) (u+10) (A.under (.builtin "type.__call__" ⟨.ref CA::vs,[]⟩)):=by
  have h1:=hA.depth; have h2:=hA.units;refine ⟨?_,hA.hand,?_,?_⟩
  ·unfold Around.under;simp only [WI];exact hA.wt
  ·show A.depth+_<=_;rw [VX]; exact Aq h1 (by decide)
  ·show A.units+_<=_;rw [V8]; exact Aq h2 (by decide)
 have S0:=S';obtain ⟨gD,g,dr,tk,os⟩:=s';refine make_core (makes_of X' Wr) (looks_findIn X' zv) (fun self=>bind_fn X' self Qd) (.inl rfl) ?_;have iG:Kp gD ((gD.push emptyDict).push (instObj CA gD.objs.size)):=fun b o e=>Heap.get?_push_of_some _ (Heap.get?_push_of_some _ e);have WA:((gD.push emptyDict).push (instObj CA gD.objs.size)).get? (gD.objs.size+1)=some (instObj CA gD.objs.size):=by
  have:=Heap.get?_push_size (o:=instObj CA gD.objs.size) (gD.push emptyDict) rfl
  rwa [Heap.size_push] at this
 have hd2:((gD.push emptyDict).push (instObj CA gD.objs.size)).get? gD.objs.size=some emptyDict:=Heap.get?_push_of_some _ (Heap.get?_push_size _ rfl);have sW:∀ a∈ng (gD.objs.size+1,some gD.objs.size),gD.get? a=none:=by
  intro a ha;rcases List.mem_cons.mp ha with rfl | ha
  ·exact Heap.get?_none_of_le (Nat.le_succ _)
  ·exact List.mem_singleton.mp ha▸fO _
 have P2:c.P Y' gD (Y'.push (gD.objs.size+1,some gD.objs.size)) ((gD.push emptyDict).push (instObj CA gD.objs.size)):=.qV (aM.Le.push _ _) (lZ sW) iG;have QN:=S'.toSt.move P2 (gS S'.stays iG) (S'.sim.alloc S'.stays iG (.inst i []) sW (List.nodup_cons.mpr ⟨fun q=>Nat.succ_ne_self _ (List.mem_singleton.mp q),List.nodup_cons.mpr ⟨List.not_mem_nil,List.nodup_nil⟩⟩) ⟨gD.objs.size,CA,#[],[],0,rfl,hC,WA,hd2,rfl,List.nodup_nil⟩);have S2:c.S (Y'.push (gD.objs.size+1,some gD.objs.size)) e (J'++[.inst i []]) ⟨(gD.push emptyDict).push (instObj CA gD.objs.size),g,dr,tk,os⟩:=⟨QN,S'.pos,S'.mY,S'.sU⟩;have b7:bx (⟨gD,g,dr,tk,os⟩:Shared) ⟨(gD.push emptyDict).push (instObj CA gD.objs.size),g,dr,tk,os⟩:=⟨rfl,rfl,rfl,Aj _⟩;have L6:c.V ((gD.push emptyDict).push (instObj CA gD.objs.size)) (Y'.push (gD.objs.size+1,some gD.objs.size)) (.obj J'.length) (.ref (gD.objs.size+1)):=
  ⟨(gD.objs.size+1,some gD.objs.size),rfl,S'.sim.len▸List.getElem?_concat_length⟩
 refine run _ e _ _ (.ref (gD.objs.size+1)::vs) _ K7 S2 ⟨_,_,rfl,L6,P2.Cy r⟩ ?_ ?_
 ·intro v s2 Y2 a2 J2 zq DC H5 r2 q2;obtain ⟨rfl,q2⟩:=q2;cases (r2:v=.none);exact ⟨rfl,(H.pre fE P') _ s2 Y2 (.obj J'.length) J2 (b7.trans zq) (P2.trans DC) H5 (DC.rv L6) q2⟩
 ·intro ex s2 Y2 J2 zq DC H5 x2 q2;exact (HX.pre fE P') ex s2 Y2 J2 (b7.trans zq) (P2.trans DC) H5 (x2.pre P2.oX) q2
theorem Cc {p:Pos}:bu c T C d u .oh (.Dict [] [] p):=by
 intro A e J s Y Q X QC EC hA h S H HX;refine wpAny_Dict_empty ?_;exact H _ _ (Y.push (s.heap.objs.size,none)) (.obj J.length) (J++[MO.dict []]) ⟨rfl,rfl,rfl,Aj _⟩ (a7.alloc _) ⟨S.toSt.alloc _ (.dict []) ⟨rfl,[],Heap.DictOf.new _,rfl,Nat.zero_le _⟩,S.pos,S.mY,S.sU⟩ ⟨(s.heap.objs.size,none),rfl,S.sim.len▸List.getElem?_concat_length⟩ h
end
open PySem PySem.Calls PyProof.Rows PySem.SeqAt PySem.W
section
variable {c:Cx}{T:aQ}{C:Calls}{d u:Nat}{e:Ev}{s:Shared}{Y:aM}{J:ae}{Q:QV}{X:QX}{QC EC:Value->Shared->Prop}{A:Around}
theorem mC {h:Heap}{C:Addr}{m:Str->Option Value}{o:Obj}(hn:h.Ns C m)(eo:h.get? C=some o):¬ ju o:=fun im=>by
 obtain ⟨oC,es,ep,ho,hd,_⟩:=hn;cases Ag (ho.symm.trans eo);rcases im with ⟨_,Ln,n9,q⟩ | ⟨_,XR,q⟩<;>rw [hd] at q<;>cases q
theorem mD {h:Heap}{C:Addr}{items:Array Value}{n:Nat}{o:Obj}(hn:IsL h C items n)(eo:h.get? C=some o):¬ ju o:=by
 cases Ag ((hn:h.get? C=_).symm.trans eo);exact (lX rfl).fS
structure XM (c:Cx)(Y:aM)(n:Nat)(m6:Nat->Heap->Prop)(ys:List AV)(C D:Addr)(s₁:Shared)(k:Nat)(s':Shared)(h':Heap)(tk i:Nat)(items:Array Value)(m':Str->Option Value):Prop where
 fa:s'={ s₁ with heap:=h',toks:=tk }
 fb:i<=n
 fc:k=n+1-i
 fd:m6 i h'
 fe:h'.Ns C m'
 ff:wX h' D items
 fg:bl c.base h' Y (ys.take i) items.toList
 fh:∀ b o,s₁.heap.get? b=some o->h'.get? b=some o
 fj:s₁.toks<=tk
def XJ (c:Cx)(Y:aM)(n:Nat)(m6:Nat->Heap->Prop)(ys:List AV)(C D:Addr)(s₁:Shared)(k:Nat)(s':Shared):Prop:=
 ∃ h' tk i items m',XM c Y n m6 ys C D s₁ k s' h' tk i items m'
theorem oM {elt target iter:Expr}{scope:Scope}{cl:List (Str×Addr)}{pos:Pos}{s₁ cE:Shared}{I:Addr}{fp wr:List Addr}{n:Nat}{P Md:Nat->Value->Heap->Prop}{m6:Nat->Heap->Prop}{ys:List AV}{tk₂:Nat}
  (W:KTurns c.prog c.w A target I fp wr n P Md m6) (NI:∀ i (s:Shared) (Q:Value->Shared->Prop) (E:Value->Shared->Prop),m6 i s.heap->Q (.ref I) s->wpAny c.M A (pyIter (.ref I)) Q E s) (Qh:n=ys.length) (hz:ys.length<=lid) (kg:∀ y∈scope.names,y.2≠.cell) (gJ:scope.kind=.function)
  (b7:cE={ s₁ with heap:=cE.heap,toks:=tk₂ }) (uE:s₁.toks<=tk₂) (kD:m6 0 cE.heap) (O2:∀ b∈fp,b<cE.heap.objs.size)
  (hold:∀ b o,s₁.heap.get? b=some o->b∉wr∧cE.heap.get? b=some o) (OR:∀ i h,m6 i h->∀ b∈wr,∀ o,h.get? b=some o->¬ ju o)
  (NH:∀ i v h tk C (m:Str->Option Value) (QE:Value->Shared->Prop) (EE:Value->Shared->Prop),i<n->P i v h->(∀ b o,s₁.heap.get? b=some o->h.get? b=some o)->h.Ns C m->s₁.heap.get? C=none->
   (∀ y h' Ti,(∃ m',h'.Ns C m')->(∀ b o,b≠C->h.get? b=some o->h'.get? b=some o)->(∀ a,ys[i]?=some a->RV c.base h' Y a y)->QE y { s₁ with heap:=h',toks:=Ti })->
   wpAny c.M A (assign target (compEnvC scope cl C c.f.env) v) (fun _ cE=>wpAny c.M A (eval elt (compEnvC scope cl C c.f.env)) QE EE cE) EE { s₁ with heap:=h,toks:=tk })
  (hQ:∀ D h' tk items,s₁.heap.get? D=none->(∀ b o,s₁.heap.get? b=some o->h'.get? b=some o)->wX h' D items->bl c.base h' Y ys items.toList->s₁.toks<=tk->QC (.ref D) { s₁ with heap:=h',toks:=tk }) :
  wpAny c.M A (newList []) (fun acc s3=>wpAny c.M A (newFunctionEnv scope c.f.env.globals cl [] c.f.env.qual none .none (some c.f.env)) (fun MD s4=>
   codeAny c.M A (.compStart (.ListComp elt [⟨target,iter,[],0⟩] scope pos) 0 (.ref I) acc { MD with scope:=relabel scope c.f.env }) (compPost c.M A EC none QC acc MD.locals) s4) EC s3) EC cE:=by
 refine wpAny_newObj_type (wpAny_newFunctionEnv kg (fun _ h=>absurd h List.not_mem_nil) (fun ak HP Dq=>?_) gJ)
 dsimp only at HP Dq ⊢
 generalize Qt:cE.heap.push { cls:=.type "list",dict:=none,data:=.seq ([]:List Value).toArray }=H2 at HP Dq ⊢
 have hC:H2.objs.size=cE.heap.objs.size+1:=by rw [← Qt,Heap.size_push]
 have O6:cE.heap.objs.size≠H2.objs.size:=by rw [hC]; exact Nat.ne_of_lt (Nat.lt_succ_self _)
 have below:∀ b,b<cE.heap.objs.size->b≠H2.objs.size∧b≠cE.heap.objs.size:=fun b hb=>⟨by rw [hC]; exact Nat.ne_of_lt (Nat.lt_succ_of_lt hb),Nat.ne_of_lt hb⟩;have Un:cE.heap.objs.size∉fp:=fun hm=>Nat.lt_irrefl _ (O2 _ hm);have Uq:H2.objs.size∉fp:=fun hm=>by have:=O2 _ hm; rw [hC] at this; exact Nat.lt_irrefl _ (Nat.lt_of_succ_lt this)
 have Um:cE.heap.objs.size∉wr:=fun hm=>Un (W.sub _ hm);have Up:H2.objs.size∉wr:=fun hm=>Uq (W.sub _ hm);have old:∀ b o,cE.heap.get? b=some o->ak.get? b=some o:=fun b o e=>Dq.extBut b o (below b (Heap.lt_size e)).1 (Heap.get?_push_of_some _ (Qt▸Heap.get?_push_of_some _ e));have Sw:wX ak cE.heap.objs.size #[]:=⟨0,Dq.extBut _ _ O6 (Heap.get?_push_of_some _ (Qt▸Heap.get?_push_size _ rfl))⟩;have Mp:m6 0 ak:=W.frame _ _ _ kD fun b _ o e=>old b o e;have fresh:∀ a,cE.heap.objs.size<=a->s₁.heap.get? a=none:=fun a ha=>by
  cases e:s₁.heap.get? a with
  | none=>rfl
  | some o'=>exact absurd (Heap.lt_size (hold a o' e).2) (Nat.not_lt.mpr ha)
 have Uo:=fresh _ (Aj _);have Qu:s₁.heap.get? H2.objs.size=none:=fresh _ (by rw [hC]; exact Nat.le_succ _);have loop:∀ s3:Shared,s3={ s₁ with heap:=ak,toks:=cE.toks+([]:List (Str×Value)).length }->
   codeAny c.M A (.compLoop (.ListComp elt [⟨target,iter,[],0⟩] scope pos) 0 (.ref I) (.ref cE.heap.objs.size) (compEnvC scope cl H2.objs.size c.f.env))
    (compPost c.M A EC none QC (.ref cE.heap.objs.size) H2.objs.size) s3:=by
  rintro s3 rfl;refine kcp_loop
   (XJ c Y n m6 ys H2.objs.size cE.heap.objs.size s₁) ?_ (n+1)
   ⟨ak,_,0,#[],_,rfl,Nat.zero_le _,rfl,Mp,HP,Sw,rfl,fun b o e=>old b o (hold b o e).2,by rw [b7]; simpa using uE⟩
  rintro k s' ⟨h',tk,i,items,m',rfl,hi,rfl,Dp,OW,G4,mZ,uH,Mo⟩;by_cases gq:i<n
  ·refine wpAny_with_toks (n:=s₁.toks) Mo (W.item i _ _ _ gq Dp fun v yR tk₂ LG iG uG=>?_);refine W.go i v _ _ _ LG fun o9 hP Sb yy=>?_;have Ot:∀ b o,b∉wr->h'.get? b=some o->o9.get? b=some o:=fun b o hb e=>yy b o hb (iG b o hb e);have qG:o9.Ns H2.objs.size m':=OW.at' fun o e=>Ot _ o Up e;refine wpAny_mono (wpAny_toks_of uG (NH i v o9 tk₂ H2.objs.size m' (fun y s'=>s₁.toks<=s'.toks->_) _ gq hP (fun b o e=>Ot b o (hold b o e).1 (uH b o e)) qG Qu ?_)) (fun _ s2 x=>wpAny_with_toks x.1 (wpAny_mono x.2 (fun _ _ z=>z) (fun _ _ z _=>z))) (fun _ _ z=>z.2);intro y h4 Vx Qj GX hy R8;obtain ⟨m4,Qj⟩:=Qj;obtain ⟨nn,G4⟩:=G4;have O5:IsL h4 cE.heap.objs.size items nn:=GX _ _ O6 (Ot _ _ Um G4);have e1:=mZ.size;have hl:(ys.take i).length<=i:=List.length_take_le ..;have qF:=Aa hz aK;refine call_meets F.slot_list_append ⟨_,O5,rfl⟩ F.entry_list_append (F.args_list_append_2 _ _) (PySem.list_append cE.heap.objs.size items nn y (e1▸Aa hl (Aa (Nat.le_of_lt (Qh▸gq)) qF))) ⟨O5,?_⟩;have V7:=O5.update (fun xs=>xs.push y);have uY:Heap.SameBut cE.heap.objs.size h4 (h4.update cE.heap.objs.size (Obj.mapSeq fun xs=>xs.push y)):=Heap.SameBut.update ..;have Tf:∀ b o,b∉wr->b≠H2.objs.size->b≠cE.heap.objs.size->h'.get? b=some o->(h4.update cE.heap.objs.size (Obj.mapSeq fun xs=>xs.push y)).get? b=some o:=fun b o h1 h2 h3 e=>(uY.2 b h3).trans (GX b o h2 (Ot b o h1 e));have RS:∀ b o,h'.get? b=some o->ju o->(h4.update cE.heap.objs.size (Obj.mapSeq fun xs=>xs.push y)).get? b=some o:=fun b o eo im=>by
    refine Tf b o (fun hb=>OR i h' Dp b hb o eo im) (fun q=>?_) (fun q=>?_) eo
    ·exact mC OW (q▸eo) im
    ·exact mD G4 (q▸eo) im
   have RT:∀ b o,h4.get? b=some o->ju o->(h4.update cE.heap.objs.size (Obj.mapSeq fun xs=>xs.push y)).get? b=some o:=fun b o eo im=>by
    exact (uY.2 b fun q=>mD O5 (q▸eo) im).trans eo
   have Lo:ys[i]?=some ys[i]:=List.getElem?_eq_getElem (Qh▸gq);refine ⟨n+1-(i+1),Nat.sub_lt_sub_left (Nat.lt_succ_of_lt gq) (Nat.lt_succ_self i),_,Vx,i+1,items.push y,m4,rfl,gq,rfl,?_,Qj.sameBut uY (Ne.symm O6),⟨_,V7⟩,?_,?_,?_⟩
   ·refine W.frame _ _ _ Sb fun b hb o e=>(uY.2 b fun q=>Un (q▸hb)).trans (GX b o (fun q=>Uq (q▸hb)) e)
   ·rw [List.take_add_one,Lo,Array.toList_push];exact bl.append (mZ.mono RS (aM.Le.refl _)) (.one (RV.mono RT (aM.Le.refl _) _ _ (hy _ Lo)))
   ·intro b o e;exact Tf b o (hold b o e).1 (fun q=>af Qu (q▸e)) (fun q=>af Uo (q▸e)) (uH b o e)
   ·exact R8
  ·have wk:i=n:=Nat.le_antisymm hi (Nat.not_lt.mp gq);subst wk;refine wpAny_with_toks (n:=s₁.toks) Mo (W.done _ _ _ Dp fun yR tk₂ iG uG=>?_);refine ⟨m',OW.at' fun o e=>iG _ o Up e,fun o9 zp=>?_⟩;rw [Qh,List.take_length] at mZ;obtain ⟨nn,G4⟩:=G4;refine hQ _ o9 tk₂ items Uo (fun b o e=>(zp.2 b fun q=>af Qu (q▸e)).trans (iG b o (hold b o e).1 (uH b o e))) ⟨nn,(zp.2 _ O6).trans (iG _ _ Um G4)⟩ ?_ uG;exact mZ.mono (fun b o eo im=>(zp.2 b fun q=>mC OW (q▸eo) im).trans (iG b o (fun hb=>OR i h' Dp b hb o eo im) eo)) (aM.Le.refl _)
 have gz:({ cE with heap:=ak,toks:=cE.toks+([]:List (Str×Value)).length }:Shared)={ s₁ with heap:=ak,toks:=cE.toks+([]:List (Str×Value)).length }:=by
  rw [b7]
 exact codeAny_compStart_list (loop _ gz) (NI 0 _ _ _ Mp (loop _ gz))
end
open PySem PySem.Calls PyProof.Rows PySem.SeqAt PySem.W
theorem iP {β:Type}{x n:Str}{k:β}{l:List (Str×β)}(h:(x==n)=true):((n,k)::l).lookup x=some k:=by rw [List.lookup_cons,h]
theorem eR {β:Type}{x n:Str}{k:β}{l:List (Str×β)}(h:(x==n)=false):((n,k)::l).lookup x=l.lookup x:=by rw [List.lookup_cons,h]
theorem iz {env:Env}(hk:env.scope.kind=.function){names:List (Str×NameKind)}{x:Str}(h:names.lookup x=some .free)(hc:env.kindOf x=some .cell) :
  (names.map fun (n,k)=>if (k==NameKind.free&&env.scope.kind==.function&&env.kindOf n==some .cell) then (n,NameKind.cell) else (n,k)).lookup x=some .cell:=by
 induction names with
 | nil=>exact af rfl h
 | cons p r ih=>
  show List.lookup x ((if (p.2==NameKind.free&&env.scope.kind==.function&&env.kindOf p.1==some .cell)=true then (p.1,NameKind.cell) else (p.1,p.2))::_)=_
  have h:((p.1,p.2)::r).lookup x=some .free:=h;cases hx:x==p.1 with
  | true=>rw [if_pos (by rw [Ag ((iP hx).symm.trans h),hk,← eq_of_beq hx,hc]; rfl),iP hx]
  | false=>
   have g:=ih ((eR hx).symm.trans h);by_cases hq:(p.2==NameKind.free&&env.scope.kind==.function&&env.kindOf p.1==some .cell)=true
   ·rw [if_pos hq,eR hx]; exact g
   ·rw [if_neg hq,eR hx]; exact g
noncomputable def lz (cells:List (Str×Addr)):List (Str×NameKind)->List (Str×Addr)->List (Str×Addr)
 | [],acc=>acc
 | (n,k)::r,acc=>if k==.free then lz cells r ((n,(cells.lookup n).getD 0)::acc) else lz cells r acc
theorem jX (cells:List (Str×Addr))(p:Str×NameKind)(r:List (Str×NameKind))(acc:List (Str×Addr)):lz cells (p::r) acc=if (p.2==.free)=true then lz cells r ((p.1,(cells.lookup p.1).getD 0)::acc) else lz cells r acc:=rfl
theorem mV {scope:Scope}{env:Env}(h:∀ x∈scope.names,x.2=.free->∃ a,env.cells.lookup x.1=some a):closureFor scope env=pure (lz env.cells scope.names []):=by
 have key:∀ (l:List (Str×NameKind)) (acc:List (Str×Addr)),(∀ x∈l,x.2=.free->∃ a,env.cells.lookup x.1=some a)->
   (forIn l acc (fun (x:Str×NameKind) (cs:List (Str×Addr))=>(match x with
    | (name,kind)=>if (kind==NameKind.free)=true then cellOf env name >>= fun a=>pure (ForInStep.yield ((name,a)::cs)) else pure (ForInStep.yield cs):Sem (ForInStep (List (Str×Addr))))):Sem (List (Str×Addr)))=pure (lz env.cells l acc):=by
  intro l
  induction l with
  | nil=>intro acc _; rfl
  | cons x r ih=>
   intro acc hl;obtain ⟨n,k⟩:=x;rw [List.forIn_cons];by_cases hk:k=.free
   ·subst hk;obtain ⟨a,ha⟩:=hl (n,.free) (List.mem_cons_self ..) rfl;have hc:cellOf env n=pure a:=by unfold cellOf; rw [ha]
    simp only [beq_self_eq_true,if_true,hc,pure_bind];rw [ih _ fun y hy=>hl y (List.mem_cons_of_mem _ hy)];have yf:env.cells.lookup n=some a:=ha;rw [jX,if_pos (show ((n,NameKind.free).2==NameKind.free)=true from rfl),show (env.cells.lookup (n,NameKind.free).1)=some a from yf]; rfl
   ·have hb:(k==NameKind.free)=false:=beq_eq_false_iff_ne.mpr hk;simp only [hb,Bool.false_eq_true,if_false,pure_bind];rw [ih _ fun y hy=>hl y (List.mem_cons_of_mem _ hy),jX,if_neg (fun q=>Bool.false_ne_true (hb.symm.trans q))]
 unfold closureFor;show (forIn scope.names [] (fun (x:Str×NameKind) (cs:List (Str×Addr))=>(match x with
    | (name,kind)=>if (kind==NameKind.free)=true then cellOf env name >>= fun a=>pure (ForInStep.yield ((name,a)::cs)) else pure (ForInStep.yield cs):Sem (ForInStep (List (Str×Addr))))) >>= fun s=>pure s)=_
 rw [key scope.names [] h];rfl
theorem xD (cells:List (Str×Addr)){x:Str}{a:Addr}(ha:cells.lookup x=some a)(names:List (Str×NameKind))(acc:List (Str×Addr))(h:acc.lookup x=some a∨(names.lookup x=some .free))(hb:∀ b,acc.lookup x=some b->b=a):(lz cells names acc).lookup x=some a:=by
 induction names generalizing acc with
 | nil=>exact h.elim id fun h=>af rfl h
 | cons p r ih=>
  rw [jX];have h:acc.lookup x=some a∨((p.1,p.2)::r).lookup x=some .free:=h;cases hx:x==p.1 with
  | true=>
   rw [iP hx] at h;by_cases hk:(p.2==NameKind.free)=true
   ·rw [if_pos hk];have e:((p.1,(cells.lookup p.1).getD 0)::acc).lookup x=some a:=by rw [iP hx,← eq_of_beq hx,ha]; rfl
    exact ih _ (.inl e) fun b q=>Ag (q.symm.trans e)
   ·rw [if_neg hk];exact ih acc (h.imp id fun h=>(hk (by rw [Ag h]; rfl)).elim) hb
  | false=>
   rw [eR hx] at h;by_cases hk:(p.2==NameKind.free)=true
   ·rw [if_pos hk];exact ih _ (by rw [eR hx]; exact h) fun b q=>hb b ((eR hx).symm.trans q)
   ·rw [if_neg hk]; exact ih acc h hb
noncomputable def pv (m:Str->Option Value):List Str->List Value->Str->Option Value
 | x::xs,v::vs=>pv (fun z=>if z=x then some v else m z) xs vs
 | _,_=>m
theorem um {x:Str}(xs:List Str)(vs:List Value)(m:Str->Option Value)(h:x∉xs):pv m xs vs x=m x:=by
 induction xs generalizing vs m with
 | nil=>rfl
 | cons y ys ih=>
  cases vs with
  | nil=>rfl
  | cons v vs=>exact (ih vs _ fun q=>h (List.mem_cons_of_mem _ q)).trans (if_neg fun (q:x=y)=>h (q▸List.mem_cons_self ..))
theorem uo {x:Str}{v:Value}(xs:List Str)(vs:List Value)(m:Str->Option Value)(j:Nat)(nd:xs.Nodup)(h:xs[j]?=some x)(h':vs[j]?=some v):pv m xs vs x=some v:=by
 induction xs generalizing vs m j with
 | nil=>exact af List.getElem?_nil h
 | cons y ys ih=>
  have nd:=List.nodup_cons.mp nd;cases vs with
  | nil=>exact af List.getElem?_nil h'
  | cons w ws=>
   cases j with
   | zero=>
    cases Ag h; cases Ag h';exact (um ys ws _ nd.1).trans (if_pos rfl)
   | succ j=>exact ih ws _ j nd.2 h h'
noncomputable def yt (xs:List (Str×Pos)):List Expr:=xs.map fun p=>.Name p.1 p.2
theorem aZ (xs:List (Str×Pos))(env:Env):assignEach (yt xs) env=xs.map fun p=>(false,assign (.Name p.1 p.2) env):=by
 induction xs with
 | nil=>rfl
 | cons x r ih=>
  show (false,assign (.Name x.1 x.2) env)::assignEach (yt r) env=_;rw [ih]; rfl
section
variable {M:Model}{A:Around}{E:Value->Shared->Prop}{env:Env}
theorem qx (hp:(env.scope.kind==.class||(env.scope.kind==.module&&env.locals != env.globals))=false){Q:Unit->Shared->Prop}(xs:List (Str×Pos))(vs:List Value)(m:Str->Option Value)(s:Shared)(hl:xs.length=vs.length)
  (hk:∀ p∈xs,env.kindOf p.1=some .local) (hn:s.heap.Ns env.locals m)
  (h:∀ h' tk,h'.Ns env.locals (pv m (xs.map (·.1)) vs)->(∀ b o,b≠env.locals->s.heap.get? b=some o->h'.get? b=some o)->Q () { s with heap:=h',toks:=tk }) :
  wpAny M A (assignInOrder (xs.map fun p=>assign (.Name p.1 p.2) env) vs) Q E s:=by
 induction xs generalizing vs m s with
 | nil=>
  cases vs with
  | nil=>exact assignInOrder_nil (h s.heap s.toks hn fun _ _ _ e=>e)
  | cons _ _=>cases hl
 | cons p xs ih=>
  cases vs with
  | nil=>cases hl
  | cons v vs=>
   refine assignInOrder_cons (wpAny_assign_Name (wpAny_storeName_local (hk p (List.mem_cons_self ..)) hn (fun ak wj aP=>?_) hp));exact ih vs _ _ (Nat.succ.inj hl) (fun q hq=>hk q (List.mem_cons_of_mem _ hq)) wj fun h2 tk₂ uG iG=>h h2 tk₂ uG fun b o hb e=>iG b o hb ((aP.2 b hb).trans e)
end
section
variable {c:Cx}{T:aQ}{C:Calls}{d u:Nat}
theorem Ea {m j:Nat}{a:AV}{r ys:List AV}(h:picks m j (a::r)=some ys):∃ vs y zs,a=.tup vs∧vs.length=m∧vs[j]?=some y∧picks m j r=some zs∧ys=y::zs:=by
 cases a with
 | tup vs=>
  have h:(match Nat.beq vs.length m,vs[j]? with
   | true,some y=>(picks m j r).map (y::·)
   | _,_=>Option.none)=some ys:=h
  cases h0:Nat.beq vs.length m with
  | false=>rw [h0] at h; exact af rfl h
  | true=>
   cases h1:vs[j]? with
   | none=>rw [h0,h1] at h; exact af rfl h
   | some y=>
    cases h2:picks m j r with
    | none=>rw [h0,h1,h2] at h; exact af rfl h
    | some zs=>
     rw [h0,h1,h2] at h;exact ⟨vs,y,zs,rfl,As h0,h1,rfl,(Ag h).symm⟩
 | _=>exact af rfl h
theorem xj {m j:Nat}{l ys:List AV}(h:picks m j l=some ys):l.length=ys.length∧∀ (i:Nat) (y:AV),ys[i]?=some y->∃ vs:List AV,l[i]?=some (.tup vs)∧vs.length=m∧vs[j]?=some y:=by
 induction l generalizing ys with
 | nil=>cases Ag h; exact ⟨rfl,fun _ _ h=>af List.getElem?_nil h⟩
 | cons a r ih=>
  obtain ⟨vs,y,zs,rfl,hm,h1,h2,rfl⟩:=Ea h;have ih:=ih h2;refine ⟨congrArg Nat.succ ih.1,fun i z hz=>?_⟩;cases i with
  | zero=>exact ⟨vs,rfl,hm,h1.trans hz⟩
  | succ i=>exact ih.2 i z hz
theorem eF {h:Heap} {I:Addr} {o:Obj} {x:String} (ho:h.get? I=some o) (hc:o.cls=.type x) (h1:x≠"tuple") (h2:x≠"range"):∀ b∈[I],∀ o,h.get? b=some o->¬ ju o:=fun b hb o' dZ im=>by
 cases List.mem_singleton.mp hb;cases Ag (ho.symm.trans dZ);rcases im with ⟨q,_⟩ | ⟨q,_⟩<;>rw [hc] at q<;>cases q
 ·exact h1 rfl
 ·exact h2 rfl
theorem kH {items:Array Value}{I t:Addr}:∀ i h,(Heap.IsTupleIter h I t i∧h.IsTuple t items)->∀ b∈[I],∀ o,h.get? b=some o->¬ ju o:=by
 rintro i h ⟨⟨o,ho,hc,hd⟩,_⟩;exact eF ho hc (by decide) (by decide)
theorem j4 {items:Array Value}{I t:Addr}:∀ i h,(Heap.IsListIter h I t i∧h.IsList t items)->∀ b∈[I],∀ o,h.get? b=some o->¬ ju o:=by
 rintro i h ⟨⟨o,ho,hc,hd⟩,_⟩;exact eF ho hc (by decide) (by decide)
theorem Gw {h:Heap}{t:Addr}{o:Obj}(ht:t<h.objs.size)(ho:o.isFreed=false):∀ b∈[h.objs.size,t],b<(h.push o).objs.size:=fun b hb=>by
 rcases List.mem_cons.mp hb with hb | hb
 ·rw [hb]; exact Heap.lt_size (Heap.get?_push_size _ ho)
 ·rw [List.mem_singleton.mp hb]; exact An ht (by rw [Heap.size_push]; exact Nat.le_succ _)
theorem Ay {h:Heap}(o':Obj):∀ b o,h.get? b=some o->b∉[h.objs.size]∧(h.push o').get? b=some o:=fun b o e=>
 ⟨fun hb=>absurd (Heap.lt_size e) (List.mem_singleton.mp hb▸Nat.lt_irrefl _),Heap.get?_push_of_some _ e⟩
theorem Kx {Y:aM}{e:Ev}{J:ae}{s:Shared}{i:Nat}{a:AV}{y:Str}(S:c.S Y e J s)(he:e i=some a)(hy:c.vars[i]?=some y)(hk:c.f.env.kindOf y=some .cell){G:Prop}(k:∀ v ca,c.f.cells.lookup y=some ca->s.heap.IsCell ca (some v)->c.V s.heap Y a v->G):G:=by
 obtain ⟨y',v,VV,R6,r⟩:=S.ev i a he;cases Ag (hy.symm.trans VV);rcases R6 with ⟨q,_⟩ | ⟨_,ca,h1,h2⟩
 ·cases Ag (hk.symm.trans q)
 ·exact k v ca h1 h2 r
theorem uB {m j:Nat}{src:E}{xs:List (Str×Pos)}{y:Str}{py tp pos:Pos}{k:Nat}{iter:Expr}{scope:Scope}(tb:bu c T C d u src iter)(GY:∀ env x,foldedSetIterable iter env x=pure x)
  (hm:xs.length=m) (hy:(xs.map (·.1))[j]?=some y) (nd:(xs.map (·.1)).Nodup) (WN:(y==("__debug__" : Str))=false) (zu:∀ x∈scope.names,x.2≠.free) (kg:∀ x∈scope.names,x.2≠.cell) (gJ:scope.kind=.function)
  (t7:∀ x∈scope.names,x.2=.local->scope.names.lookup x.1=some .local) (Mt:∀ p∈xs,scope.names.lookup p.1=some .local) :
  bu c T C d u (.dX m j src) (.ListComp (.Name y py) [⟨.Tuple (yt xs) k tp,iter,[],0⟩] scope pos):=by
 intro A e J s Y Q X QC EC hA h S H HX;rw [eval_ListComp];refine wpAny_comprehension_free (use:=none) rfl (GY _) (closureFor_none zu) gJ t7 (tb A e J s Y _ X _ EC hA h S ?_ HX);intro v s₁ ax a1 J1 aP P1 S1 r1 ak;obtain ⟨l,rfl,ak⟩:=zK ak;obtain ⟨ys,hp,q⟩:=bL ak;obtain ⟨hlen,yU⟩:=xj hp;obtain ⟨t,items,rfl,ht,rs,hz⟩:=r1;have hl:=rs.size;have yS:t<s₁.heap.objs.size:=by obtain ⟨n,ho⟩:=ht; exact Heap.lt_size ho
 have fG:t≠s₁.heap.objs.size:=Nat.ne_of_lt yS;have hT:s₁.heap.IsTuple t items:=ht.tup;refine wpAny_pyIter_tuple hT ?_;have W:=KTurns.ofWalks (target:=.Tuple (yt xs) k tp) (Walks.tuple (prog:=c.prog) (w:=c.w) (A:=A) hA.hand s₁.heap.objs.size t fG items) fun i v s Q E st q=>letGo_tupleiter st.1 q;refine oM (Y:=ax) (tk₂:=s₁.toks) (s₁:=s₁) (ys:=ys) W (fun i s Q E st q=>(Walks.tuple (prog:=c.prog) (w:=c.w) (A:=A) hA.hand s₁.heap.objs.size t fG items).self i s Q E st q) (hl▸hlen) (hlen▸hz) kg gJ rfl (Aj _)
  ⟨⟨_,Heap.get?_push_size _ rfl,rfl,rfl⟩,hT.at fun o e=>Heap.get?_push_of_some _ e⟩ ?_ ?_ kH ?_ ?_
 ·exact Gw yS rfl
 ·exact Ay _
 ·intro i v h tk CA m' QE EE hi hP hk hn hC zw;have Lo:ys[i]?=some ys[i]:=List.getElem?_eq_getElem (hlen▸hl▸hi);obtain ⟨vs,Wt,T2,V3⟩:=yU i _ Lo;obtain ⟨v',sQ,rv⟩:=rs.get Wt;rw [Array.getElem?_toList] at sQ;have Qc:v=v':=Ag (hP.symm.trans sQ);subst Qc;obtain ⟨t',Ln,rfl,⟨n',V9⟩,mZ,_⟩:=rv;have ye:=mZ.size;have Sa:h.IsTuple t' Ln:=⟨_,hk _ _ V9,rfl,n',rfl⟩;obtain ⟨w,hw,VC⟩:=mZ.get V3;refine wpAny_assign_Tuple (s:={ s₁ with heap:=h,toks:=tk }) hA.hand Sa (by rw [aZ,Ah,hm,← T2,ye]) (by rw [aZ]; simp) fun ak CD=>?_;rw [aZ,List.map_map];have WX:CA≠h.objs.size:=Nat.ne_of_lt hn.lt;refine qx (env:=compEnvC scope [] CA c.f.env) (by simp [compEnvC,relabel,gJ]) xs Ln.toList m' _ (by rw [hm,← T2,ye,Array.length_toList]) (fun p hp=>lookup_relabel_local (Mt p hp)) (hn.at' fun o e=>CD _ o WX e) fun h2 tk₂ uG iG=>?_;refine wpAny_Name (wpAny_loadName_local (by show scope.kind=.function; exact gJ) (lookup_relabel_local ?_) uG (uo _ _ _ j nd hy hw) ?_) WN
  ·have TX:=List.mem_of_getElem? hy;simp only [List.mem_map] at TX;obtain ⟨p,hp,rfl⟩:=TX;exact Mt p hp
  ·have kk:∀ b o,b≠CA->h.get? b=some o->h2.get? b=some o:=fun b o hb e=>iG b o hb (CD b o (Nat.ne_of_lt (Heap.lt_size e)) e);refine zw _ _ _ ⟨_,uG⟩ kk fun a ha=>?_;rw [Lo] at ha; cases ha;exact RV.mono (fun b o eo im=>kk b o (fun hq=>af hC (hq▸eo)) (hk b o eo)) (aM.Le.refl _) _ _ VC
 ·intro D h' tk items' hD hk hL PH hn;exact (H.pre aP P1).listAt S1 hk hD hL PH (hlen▸hz) hn q
theorem sJ {FG:Nat}{src:E}{x y:Str}{px Tu py tp pos:Pos}{k:Nat}{iter:Expr}{scope:Scope}(V:ba c.f c.vars)(tb:bu c T C d u src iter)(GY:∀ env x,foldedSetIterable iter env x=pure x)
  (Mx:c.vars[FG]?=some y) (G1:c.f.env.kindOf y=some .cell) (WM:(x==("__debug__" : Str))=false) (zu:∀ z∈scope.names,z.2=.free->∃ a,c.f.cells.lookup z.1=some a) (kg:∀ z∈scope.names,z.2≠.cell) (gJ:scope.kind=.function)
  (t7:∀ z∈scope.names,z.2=.local->scope.names.lookup z.1=some .local) (hx:scope.names.lookup x=some .local) (hy:scope.names.lookup y=some .free) :
  bu c T C d u (.du FG src) (.ListComp (.Tuple [.Name x Tu,.Name y py] k tp) [⟨.Name x px,iter,[],0⟩] scope pos):=by
 intro A e J s Y Q X QC EC hA h S H HX;rw [eval_ListComp];refine wpAny_comprehension_free (use:=none) rfl (GY _) (mV zu) gJ t7 (tb A e J s Y _ X _ EC hA h S ?_ HX);intro v s₁ ax a1 J1 aP P1 S1 r1 ak;obtain ⟨r,rfl,ak⟩:=lN ak;obtain ⟨l,hr,ak⟩:=bR ak;obtain ⟨a,WJ,q⟩:=tm ak;obtain ⟨t,items,nn,rfl,hp,ho,rs,hz⟩:=Cx.S.bM S1 hr r1;refine Kx S1 WJ Mx G1 fun va ca WO Uh VD=>?_;have hl:=rs.size;have yS:t<s₁.heap.objs.size:=Heap.lt_size ho;have fG:t≠s₁.heap.objs.size:=Nat.ne_of_lt yS;have hT:s₁.heap.IsList t items:=ho.isList;refine wpAny_pyIter_list hT ?_;have W:=KTurns.ofWalks (target:=.Name x px) (Walks.list (prog:=c.prog) (w:=c.w) (A:=A) hA.hand s₁.heap.objs.size t fG items) fun i v s Q E st q=>letGo_listiter st.1 q;refine oM (Y:=ax) (tk₂:=s₁.toks) (s₁:=s₁) (ys:=l.map fun z=>.tup [z,a]) W (fun i s Q E st q=>(Walks.list (prog:=c.prog) (w:=c.w) (A:=A) hA.hand s₁.heap.objs.size t fG items).self i s Q E st q) (by rw [Ah]; exact hl.symm) (by rw [Ah]; exact hz) kg gJ rfl (Aj _)
  ⟨⟨_,Heap.get?_push_size _ rfl,rfl,rfl⟩,hT.at fun o e=>Heap.get?_push_of_some _ e⟩ ?_ ?_ j4 ?_ ?_
 ·exact Gw yS rfl
 ·exact Ay _
 ·intro i v h tk CA m' QE EE hi hP hk hn hC zw;have O1:i<l.length:=hl▸hi;have OY:l[i]?=some l[i]:=List.getElem?_eq_getElem O1;obtain ⟨v',sQ,rv⟩:=rs.get OY;rw [Array.getElem?_toList] at sQ;have Qc:v=v':=Ag (hP.symm.trans sQ);subst Qc;have T9:(compEnvC scope (lz c.f.env.cells scope.names []) CA c.f.env).scope.kind=.function:=gJ;refine wpAny_assign_Name (wpAny_storeName_local (env:=compEnvC scope (lz c.f.env.cells scope.names []) CA c.f.env) (lookup_relabel_local hx) hn (fun ak wj aP=>?_) (by simp [compEnvC,relabel,gJ]));have TO:∀ b o,b≠CA->h.get? b=some o->ak.get? b=some o:=fun b o hb e=>(aP.2 b hb).trans e;have Sv:ca≠CA:=by
   obtain ⟨o,OV,_⟩:=Uh;rintro rfl; rw [hC] at OV; cases OV
  have Su:ak.IsCell ca (some va):=by
   obtain ⟨o,OV,hd⟩:=Uh;exact ⟨o,TO _ _ Sv (hk _ _ OV),hd⟩
  show wpAny c.M A (do standAt tp; newTuple (← spliced (backTo tp (starEach [.Name x Tu,.Name y py] (compEnvC scope (lz c.f.env.cells scope.names []) CA c.f.env))))) QE EE _;refine wpAny_bind (wpAny_standAt (wpAny_bind ?_));refine spliced_cons (wpAny_Name (wpAny_loadName_local (v:=v) T9 (lookup_relabel_local hx) wj (by simp) ?_) WM);refine spliced_cons (wpAny_Name (wpAny_loadName_cell T9 (iz V.kind hy G1) (xD c.f.env.cells WO scope.names [] (.inr hy) (fun _ q=>nomatch q)) Su ?_) (V.Pf y (List.mem_of_getElem? Mx)));refine spliced_nil (wpAny_newTuple ?_ (by show 2<=sizeLine; rw [sizeLine_eq]; decide));have kk:∀ b o,b≠CA->h.get? b=some o->(ak.push { cls:=.type "tuple",data:=.seq [v,va].toArray }).get? b=some o:=fun b o hb e=>Heap.get?_push_of_some _ (TO b o hb e)
  refine zw _ _ _ ⟨_,wj.keeps fun b o e=>Heap.get?_push_of_some _ e⟩ kk fun a' yf=>?_;rw [List.getElem?_map,OY] at yf;cases Ag yf;have fS:∀ b o,s₁.heap.get? b=some o->ju o->(ak.push { cls:=.type "tuple",data:=.seq [v,va].toArray }).get? b=some o:=fun b o eo im=>kk b o (fun hq=>af hC (hq▸eo)) (hk b o eo)
  exact ⟨_,[v,va].toArray,rfl,⟨0,Heap.get?_push_size _ rfl⟩,⟨_,_,rfl,RV.mono fS (aM.Le.refl _) _ _ rv,.one (RV.mono fS (aM.Le.refl _) _ _ VD)⟩,Ar 2 999998⟩
 ·intro D h' tk items' hD hk hL PH hn;exact (H.pre aP P1).listAt S1 hk hD hL PH (by rw [Ah]; exact hz) hn q
end
open PySem PySem.Calls PyProof.Rows PySem.SeqAt PySem.W
abbrev Cx.PO (c:Cx)(Y:aM)(h:Heap)(Y':aM)(h':Heap):Prop:=a7 c.F c.f.own Y h Y' h'
def U3 (base h:Heap)(Y:aM)(fl:Fl)(f:Flow):Prop:=match fl with
 | .next=>f=.next
 | .brk=>f=.brk
 | .cont=>f=.cont
 | .ret a=>∃ v,f=.ret v∧RV base h Y a v
def uK (c:Cx)(s:Shared)(Y:aM)(Q:QF)(QC:Flow->Shared->Prop):Prop:=
 ∀ fl f' s' Y' e' J',bx s s'->c.PO Y s.heap Y' s'.heap->c.S Y' e' J' s'->U3 c.base s'.heap Y' fl f'->Q fl e' J'->QC f' s'
def ym (c:Cx)(s:Shared)(Y:aM)(X:XS)(EC:Value->Shared->Prop):Prop:=
 ∀ ex s' Y' e' J',bx s s'->c.PO Y s.heap Y' s'.heap->c.S Y' e' J' s'->C7 s.heap s'.heap ex->X e' J'->EC (.ref ex) s'
section
variable {c:Cx}{e:Ev}{s s₁:Shared}{Y ax:aM}{X:XS}{EC:Value->Shared->Prop}
theorem uK.pre {Q:QF}{QC:Flow->Shared->Prop}(H:uK c s Y Q QC)(hs:bx s s₁)(P:c.PO Y s.heap ax s₁.heap):uK c s₁ ax Q QC:=
 fun fl f' s' Y' e' J' fE P' S' r q=>H fl f' s' Y' e' J' (hs.trans fE) (P.trans P') S' r q
theorem uK.aL {Q:QF}{QC:Flow->Shared->Prop}(H:uK c s Y Q QC)(hs:bx s s₁)(P:c.P Y s.heap ax s₁.heap):uK c s₁ ax Q QC:=H.pre hs P.jb
theorem ym.pre (H:ym c s Y X EC)(hs:bx s s₁)(P:c.PO Y s.heap ax s₁.heap):ym c s₁ ax X EC:=
 fun ex s' Y' e' J' fE P' S' x q=>H ex s' Y' e' J' (hs.trans fE) (P.trans P') S' (x.pre P.oX) q
theorem ym.aL (H:ym c s Y X EC)(hs:bx s s₁)(P:c.P Y s.heap ax s₁.heap):ym c s₁ ax X EC:=H.pre hs P.jb
theorem ym.x (H:ym c s Y X EC):s7 c e s Y (X e) EC:=fun ex s' Y' J' fE P' S' x q=>H ex s' Y' e J' fE P'.jb S' x q
theorem uK.now {Q:QF}{QC:Flow->Shared->Prop}{J:ae}(H:uK c s Y Q QC)(S:c.S Y e J s){fl:Fl}{f':Flow}(r:U3 c.base s.heap Y fl f')(q:Q fl e J):QC f' s:=H fl f' s Y e J (bx.refl s) a7.refl S r q
theorem uK.nx {Q:QF}{QC:Flow->Shared->Prop}{J:ae}(H:uK c s Y Q QC)(S:c.S Y e J s)(q:Q .next e J):QC .next s:=H.now S (fl:=.next) rfl q
end
theorem dq {c:Cx}{A:Around}{EC:Value->Shared->Prop}{Y:aM}{e:Ev}{J:ae}{s:Shared}(V:ba c.f c.vars)(S:c.S Y e J s){i:Nat}{x:Str}{a:AV}{v:Value}(hx:c.vars[i]?=some x)(hv:c.V s.heap Y a v){QC:Unit->Shared->Prop}
  (h:∀ s',bx s s'->c.PO Y s.heap Y s'.heap->c.S Y (upd e i a) J s'->QC () s'):wpAny c.M A (storeName c.f.env x v) QC EC s:=by
 refine w7 V S.toSt hx hv fun s' hs P S'=>h s' hs P ⟨S',An S.pos hs.2.2.2,fun t ht=>S.mY t (Aa hs.2.2.2 ht),S.sU⟩
theorem om {c:Cx}{A:Around}{EC:Value->Shared->Prop}{Y:aM}{J:ae}(V:ba c.f c.vars){QC:Unit->Shared->Prop}(is:List Nat)(xs:List (Str×Pos))(as:List AV)(vs:List Value)(e:Ev)(s:Shared)(hl:is.length=xs.length)(yx:as.length=is.length)
  (hv:∀ (j:Nat) (i:Nat) (x:Str×Pos),is[j]?=some i->xs[j]?=some x->c.vars[i]?=some x.1) (S:c.S Y e J s) (r:bl c.base s.heap Y as vs)
  (h:∀ s',bx s s'->c.PO Y s.heap Y s'.heap->c.S Y (c0 e is as) J s'->QC () s'):wpAny c.M A (assignInOrder (xs.map fun p=>assign (.Name p.1 p.2) c.f.env) vs) QC EC s:=by
 induction is generalizing xs as vs e s with
 | nil=>
  cases List.length_eq_zero_iff.mp hl.symm;cases List.length_eq_zero_iff.mp yx;cases (r:vs=[]);exact assignInOrder_nil (h s (bx.refl s) a7.refl S)
 | cons i is ih=>
  cases xs with
  | nil=>cases hl
  | cons x xs=>
  cases as with
  | nil=>cases yx
  | cons a as=>
  refine r.el (P:=fun vs=>wpAny c.M A (assignInOrder ((x::xs).map fun p=>assign (.Name p.1 p.2) c.f.env) vs) QC EC s) fun v vs r1 r2=>?_;exact assignInOrder_cons (wpAny_assign_Name (dq V S (hv 0 i x rfl rfl) r1 fun s' hs P S'=>ih xs as vs (upd e i a) s' (Nat.succ.inj hl) (Nat.succ.inj yx) (fun j=>hv (j+1)) S' (P.Cy r2) fun Cw fE P' LS=>h Cw (hs.trans fE) (P.trans P') LS))
section
variable (c:Cx)(T:aQ)(C:Calls)(d u:Nat)
def jv (ir:S)(x:Stmt):Prop:=∀ A e J s Y Q X QC EC,m9 c d u A->PassesOwn c.M A c.f.env EC->Ft T C ir e J Q X->c.S Y e J s->uK c s Y Q QC->ym c s Y X EC->wpAny c.M A (exec x c.f.env) QC EC s
def sY (ir:Ss)(xs:List Stmt):Prop:=∀ A e J s Y Q X QC EC,m9 c d u A->PassesOwn c.M A c.f.env EC->aH T C ir e J Q X->c.S Y e J s->uK c s Y Q QC->ym c s Y X EC->wpAny c.M A (execs xs c.f.env) QC EC s
end
section
variable {c:Cx}{T:aQ}{C:Calls}{d u:Nat}
theorem zQ:sY c T C d u .nil []:=fun A e J s Y Q X QC EC hA hE h S H HX=>wpAny_execs_nil (H.nx S h)
theorem zP {a:S}{x:Stmt}(ha:jv c T C d u a x):sY c T C d u (.cons a .nil) [x]:=by
 intro A e J s Y Q X QC EC hA hE h S H HX;refine wpAny_execs_cons (ha A e J s Y _ X _ EC hA hE h S ?_ HX);intro fl f' s' Y' e' J' fE P' S' r q;have H:=H fl f' s' Y' e' J' fE P' S' r q;cases f' with
 | next=>exact wpAny_execs_nil H
 | _=>exact H
theorem u7 {a b:S}{as:Ss}{x:Stmt}{xs:List Stmt}(ha:jv c T C d u a x)(hs:sY c T C d u (.cons b as) xs):sY c T C d u (.cons a (.cons b as)) (x::xs):=by
 intro A e J s Y Q X QC EC hA hE h S H HX;refine wpAny_execs_cons (ha A e J s Y _ X _ EC hA hE h S ?_ HX);intro fl f' s' Y' e' J' fE P' S' r q;cases fl with
 | next=>cases (r:f'=.next); exact hs A e' J' s' Y' Q X QC EC hA hE q S' (H.pre fE P') (HX.pre fE P')
 | brk=>cases (r:f'=.brk); exact H .brk _ s' Y' e' J' fE P' S' rfl q
 | cont=>cases (r:f'=.cont); exact H .cont _ s' Y' e' J' fE P' S' rfl q
 | ret a=>have r':=r; obtain ⟨v,rfl,rv⟩:=r'; exact H (.ret a) _ s' Y' e' J' fE P' S' r q
theorem DZ {a:E}{x:Expr}{p:Pos}(V:ba c.f c.vars)(ha:bu c T C d u a x)(wh:∀ t l env,swapsWith x t l env=pure false):jv c T C d u (.expr a) (.Expr x p):=by
 intro A e J s Y Q X QC EC hA hE h S H HX;refine wpAny_Expr_any (ha A e J s Y _ (X e) _ EC hA h S ?_ HX.x) (by unfold interactive; rw [show c.f.env.scope.kind=.function from V.kind]; rfl) (wh _ _ _);intro v s₁ ax a1 J1 aP P1 S1 r1 ak;exact (H.aL aP P1).nx S1 ak
theorem tC {i:Nat}{a:E}{x:Expr}{y:Str}{p p':Pos}(V:ba c.f c.vars)(ha:bu c T C d u a x)(wh:∀ t l env,swapsWith x t l env=pure false)(hy:c.vars[i]?=some y):jv c T C d u (.set i a) (.Assign [.Name y p'] x p):=by
 intro A e J s Y Q X QC EC hA hE h S H HX;refine wpAny_Assign_Name (ha A e J s Y _ (X e) _ EC hA h S ?_ HX.x) (wh _ _ _);intro v s₁ ax a1 J1 aP P1 S1 r1 ak;refine dq V S1 hy r1 fun s2 b7 P2 S2=>?_;exact ((H.aL aP P1).pre b7 P2).nx S2 ak
theorem BD {i:Nat}{a b:E}{x z:Expr}{y:Str}{p p' p1:Pos}(V:ba c.f c.vars)(ha:bu c T C d u a x)(hb:bu c T C d u b z)(hy:c.vars[i]?=some y):jv c T C d u (.n4 i a b) (.Assign [.Name y p'] (.BoolOp .Or [x,z] p1) p):=by
 intro A e J s Y Q X QC EC hA hE h S H HX;refine wpAny_Assign_Name (Kf ha hb hA h S ?_ HX.x) (by rfl);intro v s₁ ax a1 J1 aP P1 S1 r1 ak;refine dq V S1 hy r1 fun s2 b7 P2 S2=>?_;exact ((H.aL aP P1).pre b7 P2).nx S2 ak
theorem gc {h h':Heap}(he:Heap.ExtBut h.objs.size h h'):∀ b o,h.get? b=some o->h'.get? b=some o:=fun b o e=>he b o (Nat.ne_of_lt (Heap.lt_size e)) e
theorem zd {is:List Nat}{e:Ev}{v:AV}{P:Ev->Prop}(h:wa is e v P):∃ vs,v=.tup vs∧vs.length=is.length∧P (c0 e is vs):=by
 cases v with
 | tup vs=>
  obtain ⟨hl,h⟩:=gO h;exact ⟨vs,rfl,As hl,h⟩
 | _=>exact h.elim
theorem DX {is:List Nat}{a:E}{x:Expr}{xs:List (Str×Pos)}{k:Nat}{tp p:Pos}(V:ba c.f c.vars)(ha:bu c T C d u a x)(wh:∀ t l env,swapsWith x t l env=pure false)(hlen:is.length=xs.length)
  (hv:∀ (j:Nat) (i:Nat) (x:Str×Pos),is[j]?=some i->xs[j]?=some x->c.vars[i]?=some x.1) (Lx:swappedStores [.Tuple (yt xs) k tp] x c.f.env=pure none):jv c T C d u (.eV is a) (.Assign [.Tuple (yt xs) k tp] x p):=by
 intro A e J s Y Q X QC EC hA hE h S H HX;refine wpAny_Assign_stores (ha A e J s Y _ (X e) _ EC hA h S ?_ HX.x) (by unfold swapsWithSole; exact wh _ _ _) Lx;intro v s₁ ax a1 J1 aP P1 S1 r1 ak;obtain ⟨vs,rfl,hl,q⟩:=zd ak;obtain ⟨t,items,rfl,ht,rs,_⟩:=r1;have yx:=rs.size;show wpAny c.M A (assign (.Tuple (yt xs) k tp) c.f.env (.ref t)) _ EC s₁;refine wpAny_assign_Tuple hA.hand ht.tup (by rw [aZ,Ah,← hlen,← hl,yx]) (by rw [aZ]; simp) fun h2 sR=>?_;rw [aZ,List.map_map];have iG:=gc sR;have S2:c.S ax e J1 { s₁ with heap:=h2 }:=S1.heap (S1.toSt.other iG);have P2:c.P ax s₁.heap ax h2:=a7.other iG;refine om (s:={ s₁ with heap:=h2 }) V is xs vs items.toList e hlen hl hv S2 (P2.Cy rs) fun s3 gz P3 S3=>?_;exact (((H.aL aP P1).aL (s₁:={ s₁ with heap:=h2 }) ⟨rfl,rfl,rfl,Aj _⟩ P2).pre gz P3).nx S3 q
theorem yM {vs:List AV}(h:vs.length=2):∃ a b,vs=[a,b]:=by
 match vs,h with
 | [a,b],_=>exact ⟨a,b,rfl⟩
theorem Bw {i j:Nat}(Fz:i≠j){e:Ev}{a b:AV}:c0 e [i,j] [a,b]=upd (upd e j b) i a:=by
 funext n;show cond (Nat.beq n j) (some b) (cond (Nat.beq n i) (some a) (e n))=cond (Nat.beq n i) (some a) (cond (Nat.beq n j) (some b) (e n));cases h1:Nat.beq n i with
 | false=>rfl
 | true=>
  cases h2:Nat.beq n j with
  | false=>rfl
  | true=>exact absurd ((As h1).symm.trans (As h2)) Fz
theorem BC {i j:Nat}{a:E}{x:Expr}{y z:Str}{py pz:Pos}{k:Nat}{tp p:Pos}(V:ba c.f c.vars)(ha:bu c T C d u a x)(wh:∀ t l env,swapsWith x t l env=pure false)(Fz:i≠j)
  (hy:c.vars[i]?=some y) (hz:c.vars[j]?=some z) (Lx:swappedStores [.Tuple [.Name y py,.Name z pz] k tp] x c.f.env=pure (some [y,z])):jv c T C d u (.eV [i,j] a) (.Assign [.Tuple [.Name y py,.Name z pz] k tp] x p):=by
 intro A e J s Y Q X QC EC hA hE h S H HX;rw [exec_Assign_arm];refine wpAny_bind (wpAny_standAt ?_);have:swapsWithSole [.Tuple [.Name y py,.Name z pz] k tp] x p.line c.f.env=pure false:=by unfold swapsWithSole; exact wh _ _ _
 rw [this];refine wpAny_bind (wpAny_pure ?_);rw [if_neg (by decide)];refine wpAny_bind (ha A e J s Y _ (X e) _ EC hA h S ?_ HX.x);intro v s₁ ax XQ J1 aP P1 S1 RC ak;rw [Lx];refine wpAny_bind (wpAny_pure ?_);obtain ⟨vs,rfl,hl,q⟩:=zd ak;obtain ⟨t,items,rfl,ht,rs,_⟩:=RC;have yx:=rs.size;show wpAny c.M A (do
  rule "assign.swapped-stores"
  let items ← unpackItems (.ref t) 2 none
  assignInOrder [bindName c.f.env z,bindName c.f.env y] items.reverse
  pure .next) QC EC s₁
 have yd:(2:Nat)=items.size:=hl.symm.trans yx;refine wpAny_bind (wpAny_rule (wpAny_bind ?_));rw [yd];refine wpAny_unpackItems_tuple hA.hand ht.tup fun h2 sR=>?_;have iG:=gc sR;have S2:c.S ax e J1 { s₁ with heap:=h2 }:=S1.heap (S1.toSt.other iG);have P2:c.P ax s₁.heap ax h2:=a7.other iG;obtain ⟨a1,a2,rfl⟩:=yM hl;obtain ⟨v1,v2,V1,r1,r2⟩:=Oh (P2.Cy rs);rw [V1];refine wpAny_bind ?_;show wpAny c.M A (assignInOrder [bindName c.f.env z,bindName c.f.env y] [v2,v1]) _ EC _;refine assignInOrder_cons (wpAny_bindName (dq (s:={ s₁ with heap:=h2 }) V S2 hz r2 fun s3 gz P3 S3=>?_));refine assignInOrder_cons (wpAny_bindName (dq V S3 hy (P3.rv r1) fun s4 nM P4 S4=>assignInOrder_nil (wpAny_pure ?_)));refine ((((H.aL aP P1).aL (s₁:={ s₁ with heap:=h2 }) ⟨rfl,rfl,rfl,Aj _⟩ P2).pre gz P3).pre nM P4).nx S4 ?_;have e1:c0 e [i,j] [a1,a2]=upd (upd e j a2) i a1:=Bw Fz;rw [← e1];exact q
theorem rg:3<=sizeLine+2:=by rw [sizeLine_eq]; decide
theorem ui {o a:E}{z:At}{x y:Expr}{p p':Pos}(O:fk c)(ha:bu c T C d u a x)(ho:bu c T C d u o y)(wh:∀ t l env,swapsWith x t l env=pure false):jv c T C d u (.setAttr o z a) (.Assign [.Attribute y (atName z) p'] x p):=by
 intro A e J s Y Q X QC EC hA hE h S H HX;refine wpAny_Assign_stores (ha A e J s Y _ (X e) _ EC hA h S ?_ HX.x) (by unfold swapsWithSole; exact wh _ _ _) (by rfl);intro v s₁ ax a1 J1 aP P1 S1 r1 ak;show wpAny c.M A (do
  let ov ← holding [v] (eval y c.f.env)
  standAt p'.atName
  holding [v,ov] (setAttr ov (atName z) v)
  release [v,ov] []) _ EC s₁
 refine wpAny_bind (wpAny_holding (ho A e J1 s₁ ax _ (X e) _ EC hA ak S1 ?_ (HX.aL aP P1).x));intro w s2 Y2 a2 J2 b7 P2 S2 r2 h2;refine wpAny_bind (wpAny_standAt (wpAny_bind (wpAny_holding (iE O h2 S2 r2 (P2.rv r1) ?_))));intro s3 Y3 J3 gz P3 S3 h3;exact wpAny_release' ((((H.aL aP P1).aL b7 P2).aL gz P3).nx S3 h3)
theorem w8 {o i a:E}{x y z:Expr}{p p':Pos}(ha:bu c T C d u a x)(ho:bu c T C d u o y)(hi:bu c T C d u i z)(wh:∀ t l env,swapsWith x t l env=pure false):jv c T C d u (.bQ o i a) (.Assign [.Subscript y z p'] x p):=by
 intro A e J s Y Q X QC EC hA hE h S H HX;refine wpAny_Assign_Subscript (ha A e J s Y _ (X e) _ EC hA h S ?_ HX.x) (wh _ _ _);intro v s₁ ax a1 J1 aP P1 S1 r1 ak;refine ho A e J1 s₁ ax _ (X e) _ EC hA ak S1 ?_ (HX.aL aP P1).x;intro w s2 Y2 a2 J2 b7 P2 S2 r2 h2;refine hi A e J2 s2 Y2 _ (X e) _ EC hA h2 S2 ?_ ((HX.aL aP P1).aL b7 P2).x;intro iv s3 Y3 a3 J3 gz P3 S3 r3 h3;refine jj h3 S3 (P3.rv r2) r3 (P3.rv (P2.rv r1)) ?_;intro s4 Y4 J4 nM P4 S4 h4;exact ((((H.aL aP P1).aL b7 P2).aL gz P3).aL nM P4).nx S4 h4
theorem su {o lo hi a:E}{x y zl zh:Expr}{p p' p2:Pos}(ha:bu c T C d u a x)(ho:bu c T C d u o y)(hl:bu c T C d u lo zl)(hh:bu c T C d u hi zh)(wh:∀ t l env,swapsWith x t l env=pure false) :
  jv c T C d u (.fM o lo hi a) (.Assign [.Subscript y (.Slice (some zl) (some zh) none p2) p'] x p):=by
 intro A e J s Y Q X QC EC hA hE h S H HX;refine wpAny_Assign_Subscript (ha A e J s Y _ (X e) _ EC hA h S ?_ HX.x) (wh _ _ _);intro v s₁ ax a1 J1 aP P1 S1 r1 ak;refine ho A e J1 s₁ ax _ (X e) _ EC hA ak S1 ?_ (HX.aL aP P1).x;intro w s2 Y2 a2 J2 b7 P2 S2 r2 h2;show wpAny c.M A (do
  let l ← eval zl c.f.env;let u ← holding [l] (eval zh c.f.env);let s ← holding [l,u] (valueOrNone (evalOpt none c.f.env))
  newFields "slice" [l,u,s]) _ EC s2
 refine wpAny_bind (hl A e J2 s2 Y2 _ (X e) _ EC hA h2 S2 ?_ ((HX.aL aP P1).aL b7 P2).x);intro vl s3 Y3 a3 J3 gz P3 S3 r3 h3;refine wpAny_bind (wpAny_holding (hh A e J3 s3 Y3 _ (X e) _ EC hA h3 S3 ?_ (((HX.aL aP P1).aL b7 P2).aL gz P3).x));intro vh s4 Y4 a4 J4 nM P4 S4 r4 h4;refine wpAny_bind (wpAny_holding (wpAny_pure ?_));refine wpAny_newObj_type ?_ rg;refine mP h4 S4 (P4.rv (P3.rv r2)) (P4.rv r3) r4 (P4.rv (P3.rv (P2.rv r1))) ?_;intro s5 Y5 J5 wi P5 S5 h5;exact (((((H.aL aP P1).aL b7 P2).aL gz P3).aL nM P4).aL wi P5).nx S5 h5
theorem IE {i:Nat}{op:wy}{a:E}{x:Expr}{y:Str}{p p':Pos}(V:ba c.f c.vars)(ha:bu c T C d u a x)(hy:c.vars[i]?=some y):jv c T C d u (.aug i op a) (.AugAssign (.Name y p') (nz op) x p):=by
 intro A e J s Y Q X QC EC hA hE h S H HX;obtain ⟨old,ho,h⟩:=tm h;refine wpAny_AugAssign_Name (rO V S.toSt hy ho fun vo ro=>?_);refine ha A e J s Y _ (X e) _ EC hA h S ?_ HX.x;intro v s₁ ax a1 J1 aP P1 S1 r1 ak;refine iW ak S1 (P1.rv ro) r1 ?_;intro w s2 Y2 a2 J2 b7 P2 S2 r2 h2;refine dq V S2 hy r2 fun s3 gz P3 S3=>?_;exact (((H.aL aP P1).aL b7 P2).pre gz P3).nx S3 h2
theorem uk {o a:E}{z:At}{op:wy}{x y:Expr}{p p':Pos}(O:fk c)(ho:bu c T C d u o y)(ha:bu c T C d u a x):jv c T C d u (.dY o z op a) (.AugAssign (.Attribute y (atName z) p') (nz op) x p):=by
 intro A e J s Y Q X QC EC hA hE h S H HX;refine wpAny_AugAssign_AttributeAny (ho A e J s Y _ (X e) _ EC hA h S ?_ HX.x);intro w s₁ ax a1 J1 aP P1 S1 r1 ak;refine mL (Q:=fun old XF=>bb T C a e XF (fun v J2=>lC op old v J2 fun w J3=>dt a1 z w J3 fun J4=>Q .next e J4) (X e)) O ak S1 r1 ?_;intro vo s2 Y2 a2 J2 b7 P2 S2 r2 h2;refine ha A e J2 s2 Y2 _ (X e) _ EC hA h2 S2 ?_ ((HX.aL aP P1).aL b7 P2).x;intro v s3 Y3 a3 J3 gz P3 S3 r3 h3;refine iW h3 S3 (P3.rv r2) r3 ?_;intro nw s4 Y4 a4 J4 nM P4 S4 r4 h4;refine iE O h4 S4 (P4.rv (P3.rv (P2.rv r1))) r4 ?_;intro s5 Y5 J5 wi P5 S5 h5;exact (((((H.aL aP P1).aL b7 P2).aL gz P3).aL nM P4).aL wi P5).nx S5 h5
theorem w9 {o i a:E}{op:wy}{x y z:Expr}{p p':Pos}(ho:bu c T C d u o y)(hi:bu c T C d u i z)(ha:bu c T C d u a x)
  (hz:∀ ov iv new,augStore z ov iv new=(do holding [new,ov,iv] (setItem ov iv new); release [new,ov,iv] []; pure .next)):jv c T C d u (.iT o i op a) (.AugAssign (.Subscript y z p') (nz op) x p):=by
 intro A e J s Y Q X QC EC hA hE h S H HX;refine wpAny_AugAssign_SubscriptAny (ho A e J s Y _ (X e) _ EC hA h S ?_ HX.x) hz;intro w s₁ ax a1 J1 aP P1 S1 r1 ak;refine hi A e J1 s₁ ax _ (X e) _ EC hA ak S1 ?_ (HX.aL aP P1).x;intro iv s2 Y2 a2 J2 b7 P2 S2 r2 h2;refine oI (Q:=fun old XE=>bb T C a e XE (fun v J3=>lC op old v J3 fun w J4=>dT a1 a2 w J4 fun J5=>Q .next e J5) (X e)) h2 S2 (P2.rv r1) r2 ?_;intro vo s3 Y3 a3 J3 gz P3 S3 r3 h3;refine ha A e J3 s3 Y3 _ (X e) _ EC hA h3 S3 ?_ (((HX.aL aP P1).aL b7 P2).aL gz P3).x;intro v s4 Y4 a4 J4 nM P4 S4 r4 h4;refine iW h4 S4 (P4.rv r3) r4 ?_;intro nw s5 Y5 a5 J5 wi P5 S5 r5 h5;refine jj h5 S5 (P5.rv (P4.rv (P3.rv (P2.rv r1)))) (P5.rv (P4.rv (P3.rv r2))) r5 ?_;intro s6 Y6 J6 Ls P6 S6 h6;exact ((((((H.aL aP P1).aL b7 P2).aL gz P3).aL nM P4).aL wi P5).aL Ls P6).nx S6 h6
theorem uj {o lo:E}{y z:Expr}{p p1 p2:Pos}(ho:bu c T C d u o y)(hl:bu c T C d u lo z):jv c T C d u (.ik o lo) (.Delete [.Subscript y (.Slice (some z) none none p2) p1] p):=by
 intro A e J s Y Q X QC EC hA hE h S H HX;refine wpAny_Delete (wpAny_deleteEach_cons ?_);show wpAny c.M A (do
  let ov ← eval y c.f.env;let iv ← holding [ov] (eval (.Slice (some z) none none p2) c.f.env)
  standAt p1
  holding [ov,iv] (delItem ov iv)
  release [ov,iv] []) _ EC s
 refine wpAny_bind (ho A e J s Y _ (X e) _ EC hA h S ?_ HX.x);intro w s₁ ax a1 J1 aP P1 S1 r1 ak;refine wpAny_bind (wpAny_holding ?_);show wpAny c.M A (do
  let l ← eval z c.f.env;let u ← holding [l] (valueOrNone (evalOpt none c.f.env));let s ← holding [l,u] (valueOrNone (evalOpt none c.f.env))
  newFields "slice" [l,u,s]) _ EC s₁
 refine wpAny_bind (hl A e J1 s₁ ax _ (X e) _ EC hA ak S1 ?_ (HX.aL aP P1).x);intro vl s2 Y2 a2 J2 b7 P2 S2 r2 h2;refine wpAny_bind (wpAny_holding (wpAny_pure (wpAny_bind (wpAny_holding (wpAny_pure ?_)))));refine wpAny_newObj_type ?_ rg;refine wpAny_bind (wpAny_standAt (wpAny_bind (wpAny_holding (nJ h2 S2 (P2.rv r1) r2 ?_))));intro s3 Y3 J3 gz P3 S3 h3;exact wpAny_release' (wpAny_deleteEach_nil ((((H.aL aP P1).aL b7 P2).aL gz P3).nx S3 h3))
theorem Iz {q:E}{a b:Ss}{x:Expr}{ya yb:List Stmt}{p:Pos}(hq:nr c T C d u q x)(ha:sY c T C d u a ya)(hb:sY c T C d u b yb):jv c T C d u (.ifs q a b) (.If x ya yb p):=by
 intro A e J s Y Q X QC EC hA hE h S H HX;refine wpAny_If (hq A e J s Y _ (X e) _ EC hA h S ?_ HX.x);intro r s₁ ax J1 aP P1 S1 q';rcases kf q' with ⟨rfl,q'⟩ | ⟨rfl,q'⟩
 ·exact ⟨_,rfl,ha A e J1 s₁ ax Q X QC EC hA hE q' S1 (H.aL aP P1) (HX.aL aP P1)⟩
 ·exact ⟨_,rfl,hb A e J1 s₁ ax Q X QC EC hA hE q' S1 (H.aL aP P1) (HX.aL aP P1)⟩
theorem Iw {a:E}{x:Expr}{p:Pos}(ha:bu c T C d u a x):jv c T C d u (.ret a) (.Return (some x) p):=by
 intro A e J s Y Q X QC EC hA hE h S H HX;refine wpAny_Return_some (ha A e J s Y _ (X e) _ EC hA h S ?_ HX.x);intro v s₁ ax a1 J1 aP P1 S1 r1 ak;exact (H.aL aP P1).now S1 (fl:=.ret a1) ⟨_,rfl,r1⟩ ak
theorem IC {p:Pos}:jv c T C d u .brk (.Break p):=fun A e J s Y Q X QC EC hA hE h S H HX=>by
 show wpAny c.M A (do standAt p; pure .brk) QC EC s;exact wpAny_bind (wpAny_standAt (wpAny_pure (H.now S (fl:=.brk) rfl h)))
theorem D0 {p:Pos}:jv c T C d u .cont (.Continue p):=fun A e J s Y Q X QC EC hA hE h S H HX=>by
 show wpAny c.M A (do standAt p; pure .cont) QC EC s;exact wpAny_bind (wpAny_standAt (wpAny_pure (H.now S (fl:=.cont) rfl h)))
theorem BF {a:E} {x:Expr} {p p1 p2:Pos} {N:Nm} {mg mb:Str->Option Value} (NO:iL c T N mg mb) (V:ba c.f c.vars) (hk:c.f.env.kindOf "ValueError"=some .globalImplicit)
  (ha:bu c T C d u a x) (kD:∀ env rest,starEach (x::rest) env=(false,eval x env)::starEach rest env):jv c T C d u (.raise a) (.Raise (some (.Call (.Name "ValueError" p1) [x] [] p2)) none p):=by
 intro A e J s Y Q X QC EC hA hE h S H HX;refine Raise_madeB PySem.F.excCall_ValueError PySem.F.excRaise_ValueError hA.hand (ij S V ⟨hk,by decide⟩ NO.g NO.b (.inr NO.ve) ⟨rfl,?_⟩) (kD _ _) rfl;rw [kD];show wpAny c.M A (spliced [(false,eval x c.f.env)]) _ EC s;refine spliced_cons (ha A e J s Y _ (X e) _ EC hA h S ?_ HX.x);intro v s₁ ax a1 J1 aP P1 S1 r1 ak;refine spliced_nil ⟨by show 1<=sizeLine; rw [sizeLine_eq]; decide,fun h2 ex me=>?_⟩;have S2:c.S ax e J1 { s₁ with heap:=h2 }:=S1.heap (S1.toSt.other me.keeps);obtain ⟨t,ht,_,_⟩:=me.there;refine (HX.aL aP P1) ex _ ax e J1 ⟨rfl,rfl,rfl,Aj _⟩ (a7.other me.keeps) S2 ⟨me.new,_,_,⟨ht,rfl,rfl⟩,.inl rfl⟩ ak
end
open PySem PySem.Calls PyProof.Rows PySem.SeqAt PySem.W
theorem a7.kN {F:List Addr}{own:Addr->Prop}{Y Y':aM}{h h' wm:Heap}{wr:List Addr}(x:a7 F own Y h Y' h')(hk:∀ b o,b∉wr->h'.get? b=some o->wm.get? b=some o)(hw:∀ b∈wr,h.get? b=none):a7 F own Y h Y' wm:=by
 have off:∀ b o,h.get? b=some o->b∉wr:=fun b o e m=>af (hw b m) e;refine ⟨x.pre,x.fresh,fun b o e=>?_,fun b o e i=>hk b o (off b o e) (x.fS b o e i),fun b o e n w f=>hk b o (off b o e) (x.keep b o e n w f),fun b o e n w=>?_⟩
 ·obtain ⟨o',e'⟩:=x.oX b o e; exact ⟨o',hk b o' (off b o e) e'⟩
 ·obtain ⟨sl,e'⟩:=x.slot b o e n w; exact ⟨sl,hk b _ (off b o e) e'⟩
theorem St.but {prog:Program}{w:World}{base:Heap}{cls:Nat->Option Addr}{f:Fm}{vars:List Str}{outer:List Env}{Y:aM}{e:Ev}{J:ae}{h h':Heap}{wr:List Addr}(S:St prog w base cls f vars outer Y e J h)
  (hk:∀ b o,b∉wr->h.get? b=some o->h'.get? b=some o) (hm:∀ b∈wr,b∉bP Y∧¬ f.own b∧b∉aA (f.env::outer)∧base.get? b=none∧∀ o,h.get? b=some o->¬ ju o):St prog w base cls f vars outer Y e J h':=by
 have fS:nD h h':=fun b o eo i=>hk b o (fun m=>(hm b m).2.2.2.2 o eo i) eo;exact S.Ga (own':=fun b=>b∈wr) (aM.Le.refl _) fS (fun _ m=>.inl m) (fun b o eo _ m=>⟨o.slots,hk b o m eo⟩) (fun b m=>⟨(hm b m).2.1,(hm b m).2.2.1⟩) (fun b o eo=>hk b o (fun m=>af (hm b m).2.2.2.1 eo) (S.stays b o eo)) (S.sim.qR fS fun b o hb eo=>hk b o (fun m=>(hm b m).1 hb) eo)
section
variable {c:Cx}{T:aQ}{C:Calls}{d u:Nat}
theorem CS.fresh {Y:aM}{e:Ev}{J:ae}{s:Shared}(S:c.S Y e J s){b:Addr}(hb:s.heap.get? b=none):b∉bP Y∧¬ c.f.own b∧b∉c.F∧c.base.get? b=none:=by
 refine ⟨fun m=>?_,fun q=>?_,fun q=>?_,?_⟩
 ·obtain ⟨o,ho,_⟩:=S.sim.lt m; exact af hb ho
 ·rcases q with rfl | ⟨x,hc⟩
  ·obtain ⟨m,o,_,_,ho,_⟩:=S.ns; exact af hb ho
  ·obtain ⟨v,o,ho,_⟩:=S.CI x b hc; exact af hb ho
 ·obtain ⟨o,_,_,ho,_⟩:=S.C2 b q; exact af hb ho
 ·cases q:c.base.get? b with
  | none=>rfl
  | some o=>exact af hb (S.stays b o q)
structure XD (c:Cx)(W:Nat->Ev->ae->Prop)(s:Shared)(Y:aM)(n:Nat)(s':Shared)(Y':aM)(e':Ev)(J':ae):Prop where
 fa:bx s s'
 fb:c.PO Y s.heap Y' s'.heap
 fc:c.S Y' e' J' s'
 fd:W n e' J'
def XC (c:Cx)(W:Nat->Ev->ae->Prop)(s:Shared)(Y:aM)(n:Nat)(s':Shared):Prop:=∃ Y' e' J',XD c W s Y n s' Y' e' J'
theorem tA {q:E}{b:Ss}{x:Expr}{ys:List Stmt}{p:Pos}(hq:nr c T C d u q x)(hb:sY c T C d u b ys):jv c T C d u (.gf q b) (.While x ys [] p):=by
 intro A e J s Y Q X QC EC hA hE h S H HX;obtain ⟨k,h⟩:=h;refine wpAny_While (codeAny_whileLoop (XC c (fun n e' J'=>gr (bb T C q) (aH T C b) n e' J' Q X) s Y) ?_ k ⟨Y,e,J,bx.refl s,a7.refl,S,h⟩);rintro n s₁ ⟨ax,e1,J1,aP,P1,S1,ak⟩;cases n with
 | zero=>exact ak.elim
 | succ n=>
  refine wpAny_passesOwn hE (hq A e1 J1 s₁ ax _ (X e1) _ EC hA ak S1 ?_ (HX.pre aP P1).x);intro r s2 Y2 J2 b7 P2 S2 q2;rcases kf q2 with ⟨rfl,q2⟩ | ⟨rfl,q2⟩
  ·refine ⟨_,rfl,wpAny_passesOwn hE (hb A e1 J2 s2 Y2 _ X _ EC hA hE q2 S2 ?_ ((HX.pre aP P1).aL b7 P2))⟩;intro fl f' s3 Y3 e3 J3 gz P3 S3 r3 q3;have hs:=(aP.trans b7).trans gz;have P:=(P1.trans (a7.jb P2)).trans P3;cases fl with
   | next=>cases (r3:f'=.next); exact ⟨n,Nat.lt_succ_self n,Y3,e3,J3,hs,P,S3,q3⟩
   | cont=>cases (r3:f'=.cont); exact ⟨n,Nat.lt_succ_self n,Y3,e3,J3,hs,P,S3,q3⟩
   | brk=>cases (r3:f'=.brk); exact H .next _ s3 Y3 e3 J3 hs P S3 rfl q3
   | ret a=>have r:=r3; obtain ⟨v,rfl,_⟩:=r; exact H (.ret a) _ s3 Y3 e3 J3 hs P S3 r3 q3
  ·exact ⟨_,rfl,wpAny_execs_nil (((H.pre aP P1).aL b7 P2).nx S2 q2)⟩
def La (c:Cx)(d u:Nat)(tg:Ev->AV->(Ev->Prop)->Prop)(target:Expr):Prop:=∀ A x v e J s Y (Q:Ev->Prop) (QC:Unit->Shared->Prop) EC,m9 c d u A->c.S Y e J s->c.V s.heap Y x v->tg e x Q->
 (∀ s' e',bx s s'->c.PO Y s.heap Y s'.heap->c.S Y e' J s'->Q e'->QC () s')->wpAny c.M A (assign target c.f.env v) QC EC s
theorem FP {i:Nat}{y:Str}{p:Pos}(V:ba c.f c.vars)(hy:c.vars[i]?=some y):La c d u (nc i) (.Name y p):=by
 intro A x v e J s Y Q QC EC hA S r h H;exact wpAny_assign_Name (dq V S hy r fun s' hs P S'=>H s' _ hs P S' h)
theorem M9 {is:List Nat}{xs:List (Str×Pos)}{k:Nat}{tp:Pos}(V:ba c.f c.vars)(hlen:is.length=xs.length)(hv:∀ (j:Nat) (i:Nat) (x:Str×Pos),is[j]?=some i->xs[j]?=some x->c.vars[i]?=some x.1) :
  La c d u (wa is) (.Tuple (yt xs) k tp):=by
 intro A x v e J s Y Q QC EC hA S r h H;obtain ⟨vs,rfl,hl,q⟩:=zd h;obtain ⟨t,items,rfl,ht,rs,_⟩:=r;have yx:=rs.size;refine wpAny_assign_Tuple hA.hand ht.tup (by rw [aZ,Ah,← hlen,← hl,yx]) (by rw [aZ]; simp) fun h2 sR=>?_;rw [aZ,List.map_map];have iG:=gc sR;have S2:c.S Y e J { s with heap:=h2 }:=S.heap (S.toSt.other iG);have P2:c.P Y s.heap Y h2:=a7.other iG;refine om (s:={ s with heap:=h2 }) V is xs vs items.toList e hlen hl hv S2 (P2.Cy rs) fun s3 gz P3 S3=>?_;exact H s3 _ gz ((a7.jb P2).trans P3) S3 q
structure XG (c:Cx)(n:Nat)(m6:Nat->Heap->Prop)(wr:List Addr)(W:Nat->Ev->ae->Prop)(s:Shared)(Y:aM)(k:Nat)(s':Shared)(i:Nat)(Y':aM)(e':Ev)(J':ae):Prop where
 fa:i<=n
 fb:k=n+1-i
 fc:bx s s'
 fd:c.PO Y s.heap Y' s'.heap
 fe:c.S Y' e' J' s'
 ff:m6 i s'.heap
 fg:∀ b∈wr,b∉bP Y'
 fh:W i e' J'
def U2 (c:Cx)(n:Nat)(m6:Nat->Heap->Prop)(wr:List Addr)(W:Nat->Ev->ae->Prop)(s:Shared)(Y:aM)(k:Nat)(s':Shared):Prop:=
 ∃ i Y' e' J',XG c n m6 wr W s Y k s' i Y' e' J'
theorem r0 {A:Around}{target:Expr}{body:List Stmt}{tg:Ev->AV->(Ev->Prop)->Prop}{b:Ss}{l:List AV}{I:Addr}{fp wr:List Addr}{n:Nat}{P Md:Nat->Value->Heap->Prop}{m6:Nat->Heap->Prop}{e:Ev}{J:ae}{s:Shared}{Y:aM}{h2:Heap}
  {Q:QF} {X:XS} {QC:Flow->Shared->Prop} {EC:Value->Shared->Prop}
  (W:KTurns c.prog c.w A target I fp wr n P Md m6) (hA:m9 c d u A) (hE:PassesOwn c.M A c.f.env EC) (Fy:La c d u tg target) (hb:sY c T C d u b body) (Qi:n=l.length)
  (S:c.S Y e J s) (iG:∀ b o,s.heap.get? b=some o->h2.get? b=some o) (OQ:∀ b∈wr,s.heap.get? b=none) (kD:m6 0 h2)
  (hex:∀ i h,m6 i h->∀ b∈wr,∃ o,h.get? b=some o∧¬ ju o) (O2:∀ i h,m6 i h->∀ b∈fp,b∈wr∨∃ o,h.get? b=some o∧ju o)
  (hP:∀ i v h Y',P i v h->Y.Le Y'->(∀ b o,s.heap.get? b=some o->ju o->h.get? b=some o)->∀ x,l[i]?=some x->RV c.base h Y' x v)
  (h:cS tg (aH T C b) l e J Q X) (H:uK c s Y Q QC) (HX:ym c s Y X EC) :
  codeAny c.M A (.forLoop target (.ref I) body [] c.f.env) (fun r s'=>match r with | .ok f=>QC f s' | .error e=>cameBackBy c.M A c.f.env EC e s') { s with heap:=h2 }:=by
 have wf:∀ b∈wr,¬ c.f.own b∧b∉c.F∧c.base.get? b=none:=fun b hb=>(S.fresh (OQ b hb)).2;refine codeAny_forLoop_any (U2 c n m6 wr (fun i e' J'=>cS tg (aH T C b) (l.drop i) e' J' Q X) s Y) ?_ (n+1)
  ⟨0,Y,e,J,Nat.zero_le _,rfl,⟨rfl,rfl,rfl,Aj _⟩,a7.other iG,S.heap (S.toSt.other iG),kD,fun b hb=>(S.fresh (OQ b hb)).1,h⟩
 rintro k s₁ ⟨i,ax,e1,J1,hi,rfl,aP,P1,S1,Ox,OI,ak⟩;by_cases gq:i<n
 ·have O1:i<l.length:=Qi▸gq;rw [List.drop_eq_getElem_cons O1] at ak;refine wpAny_with_toks (Aj _) (W.item i _ _ _ gq Ox fun v h3 GO LG yy qG=>?_);refine W.go i v _ _ _ LG fun h4 Qs KQ GX=>?_;have up:∀ b o,b∉wr->s₁.heap.get? b=some o->h4.get? b=some o:=fun b o hb eo=>GX b o hb (yy b o hb eo);have QO:St c.prog c.w c.base c.cls c.f c.vars c.outer ax e1 J1 h4:=S1.toSt.but up fun b hb=>⟨OI b hb,(wf b hb).1,(wf b hb).2.1,(wf b hb).2.2,fun o eo=>by
   obtain ⟨o',C4,ni⟩:=hex i _ Ox b hb;cases Ag (C4.symm.trans eo); exact ni⟩
  have S4:c.S ax e1 J1 { s₁ with heap:=h4,toks:=GO }:=⟨QO,An S1.pos qG,fun t ht=>S1.mY t (Aa qG ht),S1.sU⟩;have P4:c.PO Y s.heap ax h4:=P1.kN up OQ;have nM:bx s { s₁ with heap:=h4,toks:=GO }:=aP.trans ⟨rfl,rfl,rfl,qG⟩;have rv:c.V h4 ax l[i] v:=hP i v h4 ax Qs P1.pre P4.fS _ (List.getElem?_eq_getElem O1);refine Fy A l[i] v e1 J1 _ ax _ _ _ hA S4 rv ak fun s5 e5 wi P5 S5 q5=>?_;refine wpAny_passesOwn hE (hb A e5 J1 s5 ax _ X _ EC hA hE q5 S5 ?_ ((HX.pre nM P4).pre wi P5));intro fl f' s6 Y6 e6 J6 Ls P6 S6 r6 q6;have hs:=(nM.trans wi).trans Ls;have PP:c.PO Y s.heap Y6 s6.heap:=(P4.trans P5).trans P6;have Lb:c.PO ax h4 Y6 s6.heap:=P5.trans P6;have VI:∀ b∈wr,b∉bP Y6:=fun b hb m=>by
   rcases Lb.fresh b m with q | q
   ·exact OI b hb q
   ·obtain ⟨o,eo,_⟩:=hex _ _ KQ b hb; exact af q eo
  have Vy:m6 (i+1) s6.heap:=W.frame _ _ _ KQ fun b hb o eo=>by
   rcases O2 _ _ KQ b hb with hw | ⟨o',C4,im⟩
   ·exact Lb.keep b o eo (OI b hw) (wf b hw).1 (wf b hw).2.1
   ·cases Ag (C4.symm.trans eo); exact Lb.fS b _ C4 im
  have nx:cS tg (aH T C b) (l.drop (i+1)) e6 J6 Q X->∃ k<n+1-i,U2 c n m6 wr (fun i e' J'=>cS tg (aH T C b) (l.drop i) e' J' Q X) s Y k s6:=fun q6=>
   ⟨n+1-(i+1),Nat.sub_lt_sub_left (Nat.lt_succ_of_lt gq) (Nat.lt_succ_self i),i+1,Y6,e6,J6,gq,rfl,hs,PP,S6,Vy,VI,q6⟩
  cases fl with
  | next=>cases (r6:f'=.next); exact nx q6
  | cont=>cases (r6:f'=.cont); exact nx q6
  | brk=>cases (r6:f'=.brk); exact H .next _ s6 Y6 e6 J6 hs PP S6 rfl q6
  | ret a=>have r:=r6; obtain ⟨v,rfl,_⟩:=r; exact H (.ret a) _ s6 Y6 e6 J6 hs PP S6 r6 q6
 ·have wk:i=n:=Nat.le_antisymm hi (Nat.not_lt.mp gq);subst wk;rw [Qi,List.drop_length] at ak;refine wpAny_with_toks (Aj _) (W.done _ _ _ Ox fun h3 GO yy qG=>wpAny_execs_nil ?_);have QO:St c.prog c.w c.base c.cls c.f c.vars c.outer ax e1 J1 h3:=S1.toSt.but yy fun b hb=>⟨OI b hb,(wf b hb).1,(wf b hb).2.1,(wf b hb).2.2,fun o eo=>by
   obtain ⟨o',C4,ni⟩:=hex _ _ Ox b hb;cases Ag (C4.symm.trans eo); exact ni⟩
  exact H .next .next _ ax e1 J1 (aP.trans ⟨rfl,rfl,rfl,qG⟩) (P1.kN yy OQ) ⟨QO,An S1.pos qG,fun t ht=>S1.mY t (Aa qG ht),S1.sU⟩ rfl ak
theorem vE {h:Heap}:∀ b∈[h.objs.size],h.get? b=none:=fun b hb=>List.mem_singleton.mp hb▸fO h
theorem xw {v:AV}{l:List AV}(h:itemsOf v=some l):v=.tup l∨∃ a b st,v=.j6 a b st∧(st=1∨st=-1)∧l=(aC a b st).map .int:=by
 cases v with
 | tup l'=>cases Ag h; exact .inl rfl
 | j6 a b st=>
  have h:(if st=1∨st=-1 then some ((aC a b st).map AV.int) else Option.none)=some l:=h
  by_cases hc:st=1∨st=-1
  ·rw [if_pos hc] at h; exact .inr ⟨a,b,st,rfl,hc,(Ag h).symm⟩
  ·rw [if_neg hc] at h; cases h
 | _=>exact af rfl h
theorem BJ {A:Around} {target:Expr} {I:Addr} {vs:Array Value} {x:String} {v:Value} {s:Shared} {Q:Unit->Shared->Prop} {E:Value->Shared->Prop} {o:Obj} (ho:s.heap.get? I=some o) (hc:o.cls=.type x) (hd:o.data=.fields vs) (hx:["enumerate","zip","dict_itemiterator","dict_reverseitemiterator","odict_iterator","itertools.zip_longest","itertools.pairwise"].contains x=false) (q:Q () s):wpAny c.M A (letOwnedTupleGo target (.ref I) v) Q E s:=by
 obtain ⟨o1,o2,o3,o4⟩:=o;cases hc; cases hd;have key:wpAny c.M A (letOwnedTupleGo (.List [] ⟨0,0,0,0⟩) (.ref I) v) Q E s:=by
  cases v<;>first | exact wpAny_pure q | exact wpAny_bind (wpAny_load ho (by show wpAny _ _ (if (_&&_)=true then _ else _) _ _ _; rw [hx]; exact wpAny_pure q))
 cases target<;>first | exact key | exact wpAny_pure q
structure U4 (c:Cx)(I p:Addr)(W:Nat->Nat->Ev->ae->Prop)(s:Shared)(Y:aM)(k:Nat)(s':Shared)(i:Nat)(Y':aM)(e':Ev)(J':ae):Prop where
 fc:bx s s'
 fd:c.PO Y s.heap Y' s'.heap
 fe:c.S Y' e' J' s'
 ff:Heap.IsListIter s'.heap I p i
 fg:I∉bP Y'
 fh:W k i e' J'
theorem B7 {A:Around}{target:Expr}{body:List Stmt}{tg:Ev->AV->(Ev->Prop)->Prop}{b:Ss}{I p:Addr}{r g:Nat}{e:Ev}{J:ae}{s:Shared}{Y:aM}{h2:Heap}
  {Q:QF} {X:XS} {QC:Flow->Shared->Prop} {EC:Value->Shared->Prop}
  (hA:m9 c d u A) (hE:PassesOwn c.M A c.f.env EC) (Fy:La c d u tg target) (hb:sY c T C d u b body) (hp:Y.l[r]?=some (p,none))
  (S:c.S Y e J s) (iG:∀ b o,s.heap.get? b=some o->h2.get? b=some o) (hI:s.heap.get? I=none) (kD:Heap.IsListIter h2 I p 0)
  (h:kh tg (aH T C b) r g 0 e J Q X) (H:uK c s Y Q QC) (HX:ym c s Y X EC) :
  codeAny c.M A (.forLoop target (.ref I) body [] c.f.env) (fun r s'=>match r with | .ok f=>QC f s' | .error e=>cameBackBy c.M A c.f.env EC e s') { s with heap:=h2 }:=by
 have wf:=(S.fresh hI).2;refine codeAny_forLoop_any (fun k s'=>∃ i Y' e' J',U4 c I p (fun k i e' J'=>kh tg (aH T C b) r k i e' J' Q X) s Y k s' i Y' e' J') ?_ g
  ⟨0,Y,e,J,⟨rfl,rfl,rfl,Aj _⟩,a7.other iG,S.heap (S.toSt.other iG),kD,(S.fresh hI).1,h⟩
 rintro k s₁ ⟨i,ax,e1,J1,B⟩;cases k with
 | zero=>exact B.fh.elim
 | succ k=>
 have P1:=B.fd;have S1:=B.fe;have hr:=P1.pre.at_ hp;obtain ⟨l,hl,ak⟩:=bR B.fh;obtain ⟨_,items,⟨n,ho⟩,rs,hz⟩:=S1.sim.obj r _ _ hr hl;have hT:s₁.heap.IsList p items:=(show IsL s₁.heap p items n from ho).isList;have fG:p≠I:=fun q=>B.fg (q▸cI hr (eh _));have W:=KTurns.ofWalks (target:=target) (Walks.list (prog:=c.prog) (w:=c.w) (A:=A) hA.hand I p fG items) fun i v s Q E st q=>letGo_listiter st.1 q;have nI:∀ {h:Heap} {j:Nat},Heap.IsListIter h I p j->∀ o,h.get? I=some o->¬ ju o:=fun hi o eo=>by
  obtain ⟨o',dZ,Qq,_⟩:=hi;exact eF dZ Qq (by decide) (by decide) I (List.mem_singleton.mpr rfl) o eo
 have but:∀ {h':Heap},(∀ b o,b∉[I]->s₁.heap.get? b=some o->h'.get? b=some o)->St c.prog c.w c.base c.cls c.f c.vars c.outer ax e1 J1 h':=fun up=>
  S1.toSt.but up fun b hb=>List.mem_singleton.mp hb▸⟨B.fg,wf.1,wf.2.1,wf.2.2,nI B.ff⟩
 have wr:∀ b∈[I],s.heap.get? b=none:=fun b hb=>List.mem_singleton.mp hb▸hI;cases hx:l[i]? with
 | none=>
  rw [hx] at ak;have wk:i=items.size:=ak.1.symm.trans rs.size;subst wk;refine wpAny_with_toks (Aj _) (W.done _ _ _ ⟨B.ff,hT⟩ fun h3 GO yy qG=>wpAny_execs_nil ?_);exact H .next .next _ ax e1 J1 (B.fc.trans ⟨rfl,rfl,rfl,qG⟩) (P1.kN yy wr) ⟨but yy,An S1.pos qG,fun t ht=>S1.mY t (Aa qG ht),S1.sU⟩ rfl ak.2
 | some x=>
  rw [hx] at ak;obtain ⟨v',sQ,rv⟩:=rs.get hx;rw [Array.getElem?_toList] at sQ;have gq:i<items.size:=(Array.getElem?_eq_some_iff.mp sQ).1;refine wpAny_with_toks (Aj _) (W.item i _ _ _ gq ⟨B.ff,hT⟩ fun v h3 GO LG yy qG=>?_);refine W.go i v _ _ _ LG fun h4 Qs KQ GX=>?_;cases Ag (Qs.symm.trans sQ);have up:∀ b o,b∉[I]->s₁.heap.get? b=some o->h4.get? b=some o:=fun b o hb eo=>GX b o hb (yy b o hb eo);have S4:c.S ax e1 J1 { s₁ with heap:=h4,toks:=GO }:=⟨but up,An S1.pos qG,fun t ht=>S1.mY t (Aa qG ht),S1.sU⟩;have P4:c.PO Y s.heap ax h4:=P1.kN up wr;have nM:bx s { s₁ with heap:=h4,toks:=GO }:=B.fc.trans ⟨rfl,rfl,rfl,qG⟩;have rv:c.V h4 ax x v':=RV.mono (fun b o eo im=>up b o (fun hb=>nI B.ff o (List.mem_singleton.mp hb▸eo) im) eo) (aM.Le.refl _) _ _ rv;refine Fy A x v' e1 J1 _ ax _ _ _ hA S4 rv ak fun s5 e5 wi P5 S5 q5=>?_;refine wpAny_passesOwn hE (hb A e5 J1 s5 ax _ X _ EC hA hE q5 S5 ?_ ((HX.pre nM P4).pre wi P5));intro fl f' s6 Y6 e6 J6 Ls P6 S6 r6 q6;have hs:=(nM.trans wi).trans Ls;have PP:c.PO Y s.heap Y6 s6.heap:=(P4.trans P5).trans P6;have Lb:c.PO ax h4 Y6 s6.heap:=P5.trans P6;have nx:kh tg (aH T C b) r k (i+1) e6 J6 Q X->∃ k'<k+1,∃ i Y' e' J',U4 c I p (fun k i e' J'=>kh tg (aH T C b) r k i e' J' Q X) s Y k' s6 i Y' e' J':=fun q6=>
   ⟨k,Nat.lt_succ_self k,i+1,Y6,e6,J6,hs,PP,S6,KQ.1.imp fun o q=>⟨Lb.keep I o q.1 B.fg wf.1 wf.2.1,q.2⟩,fun m=>(Lb.fresh I m).elim B.fg fun q=>KQ.1.elim fun o z=>af q z.1,q6⟩
  cases fl with
  | next=>cases (r6:f'=.next); exact nx q6
  | cont=>cases (r6:f'=.cont); exact nx q6
  | brk=>cases (r6:f'=.brk); exact H .next _ s6 Y6 e6 J6 hs PP S6 rfl q6
  | ret a=>have r:=r6; obtain ⟨v,rfl,_⟩:=r; exact H (.ret a) _ s6 Y6 e6 J6 hs PP S6 r6 q6
theorem DY {src:E}{j:Nat}{b:Ss}{target iter:Expr}{body:List Stmt}{p:Pos}(tb:bu c T C d u src iter)(GY:∀ env x,foldedSetIterable iter env x=pure x)(Fy:La c d u (nc j) target)(hb:sY c T C d u b body):jv c T C d u (.forL j src b) (.For target iter body [] p):=by
 intro A e J s Y Q X QC EC hA hE h S H HX;refine wpAny_For (tb A e J s Y _ (X e) _ EC hA h S ?_ HX.x) (GY _);intro v s₁ ax a1 J1 aP P1 S1 r1 ak;obtain ⟨r,rfl,g,ak⟩:=lN ak;have hl:∃ l,J1[r]?=some (.list l):=by
  cases g with
  | zero=>exact ak.elim
  | succ g=>exact (bR ak).imp fun l q=>q.1
 obtain ⟨l,hl⟩:=hl;obtain ⟨p,items,n,rfl,hp,ho,rs,hz⟩:=Cx.S.bM S1 hl r1;refine wpAny_pyIter_list ho.isList ?_;exact B7 hA hE Fy hb hp S1 (Kp.push _) (fO _) ⟨_,Heap.get?_push_size _ rfl,rfl,rfl⟩ ak (H.aL aP P1) (HX.aL aP P1)
theorem pn {src:E}{tg:Ev->AV->(Ev->Prop)->Prop}{b:Ss}{target iter:Expr}{body:List Stmt}{p:Pos}{ir:S}(Wz:∀ {e J Q X},Ft T C ir e J Q X->bb T C src e J (fun v J1=>dn (itemsOf v) fun l=>cS tg (aH T C b) l e J1 Q X) (X e))
  (tb:bu c T C d u src iter) (GY:∀ env x,foldedSetIterable iter env x=pure x) (Fy:La c d u tg target) (hb:sY c T C d u b body):jv c T C d u ir (.For target iter body [] p):=by
 intro A e J s Y Q X QC EC hA hE h S H HX;refine wpAny_For (tb A e J s Y _ (X e) _ EC hA (Wz h) S ?_ HX.x) (GY _);intro v s₁ ax a1 J1 aP P1 S1 r1 ak;obtain ⟨l,hl,ak⟩:=bL ak;rcases xw hl with rfl | ⟨a,b',st,rfl,hc,rfl⟩
 ·obtain ⟨t,items,rfl,⟨nn,ht⟩,rs,hz⟩:=r1;have hT:s₁.heap.IsTuple t items:=⟨_,ht,rfl,nn,rfl⟩;refine wpAny_pyIter_tuple hT ?_;have W:=KTurns.ofWalks (target:=target) (Walks.tuple (prog:=c.prog) (w:=c.w) (A:=A) hA.hand s₁.heap.objs.size t (Nat.ne_of_lt (Heap.lt_size ht)) items) fun i v s Q E st q=>letGo_tupleiter st.1 q;refine r0 W hA hE Fy hb rs.size.symm S1 (Kp.push _) vE ⟨⟨_,Heap.get?_push_size _ rfl,rfl,rfl⟩,hT.at fun o e=>Heap.get?_push_of_some _ e⟩ ?_ ?_ ?_ ak (H.aL aP P1) (HX.aL aP P1)
  ·rintro i h ⟨⟨o,ho,hc,hd⟩,_⟩ b hb;exact ⟨o,List.mem_singleton.mp hb▸ho,eF ho hc (by decide) (by decide) _ (List.mem_singleton.mpr rfl) _ ho⟩
  ·rintro i h ⟨_,⟨o,ho,hc,n',hd⟩⟩ b hb;rcases List.mem_cons.mp hb with hb | hb
   ·exact .inl (List.mem_singleton.mpr hb)
   ·exact .inr ⟨o,List.mem_singleton.mp hb▸ho,.inl ⟨hc,_,_,hd⟩⟩
  ·intro i v h Y' hP hle fS x hx;obtain ⟨v',sQ,rv⟩:=rs.get hx;rw [Array.getElem?_toList] at sQ;cases Ag (hP.symm.trans sQ);exact RV.mono fS hle _ _ rv
 ·obtain ⟨r,rfl,⟨t1,t2,t3,hr⟩,ha,yA,_⟩:=r1;refine wpAny_pyIter_range hr (jR hc ha yA) ?_;have W:=KTurns.ofWalks (target:=target) (Walks.range (prog:=c.prog) (w:=c.w) (A:=A) hA.hand s₁.heap.objs.size a st (aC a b' st).length) fun i v s Q E st' q=>BJ st' rfl rfl (by decide) q;refine r0 W hA hE Fy hb (by rw [Ah]) S1 (Kp.push _) vE ?_ ?_ ?_ ?_ ak (H.aL aP P1) (HX.aL aP P1)
  ·rw [dg hc]
   simpa [IsRangeIter] using Heap.get?_push_size s₁.heap rfl
  ·intro i h kD b hb;exact ⟨_,List.mem_singleton.mp hb▸kD,eF kD rfl (by decide) (by decide) _ (List.mem_singleton.mpr rfl) _ kD⟩
  ·exact fun i h kD b hb=>.inl hb
  ·intro i v h Y' hP hle fS x hx;obtain ⟨t,rfl⟩:=hP;rw [List.getElem?_map] at hx;cases hg:(aC a b' st)[i]? with
   | none=>rw [hg] at hx; cases hx
   | some y=>
    rw [hg] at hx;cases Ag hx;rw [gY hc i (Ai hg).1] at hg;cases Ag hg;exact bp
end
open PySem PySem.Calls PyProof.Rows PySem.SeqAt PySem.W
section
variable {c:Cx}{T:aQ}{C:Calls}{d u:Nat}
theorem lY {Y DA:aM}{e SF:Ev}{J J₀:ae}{s s0:Shared}{h':Heap}(S0:c.S DA SF J₀ s0)(S:c.S Y e J s)(N:bY c.F s0.heap s.heap h'):c.S Y e J { s with heap:=h' }:=by
 have nf:=dh S.C2;have fS:=N.fS nf;have cond:∀ b o,s.heap.get? b=some o->¬ (s0.heap.get? b=none∧∃ o,s.heap.get? b=some o∧(o.cls=.type "ValueError"∨o.cls=.type "traceback"))->(∃ o',s0.heap.get? b=some o')∨(o.cls≠.type "ValueError"∧o.cls≠.type "traceback"):=fun b o eo hn=>by
  cases q:s0.heap.get? b with
  | some o'=>exact .inl ⟨o',rfl⟩
  | none=>
   refine .inr ⟨fun hq=>hn ⟨q,o,eo,.inl hq⟩,fun hq=>hn ⟨q,o,eo,.inr hq⟩⟩
 have P:a7 c.F (fun b=>s0.heap.get? b=none∧∃ o,s.heap.get? b=some o∧(o.cls=.type "ValueError"∨o.cls=.type "traceback")) Y s.heap Y h':=
  ⟨aM.Le.refl _,fun _ m=>.inl m,N.oX,fS,fun b o eo _ nw nf=>(N.keep b o eo (cond b o eo nw)).1 nf,fun b o eo _ nw=>(N.keep b o eo (cond b o eo nw)).2⟩
 refine S.heap (S.toSt.vI P (fun b q=>⟨(S0.fresh q.1).2.1,(S0.fresh q.1).2.2.1⟩) (fun b o eo=>?_) (S.sim.qR fS fun b o hb eo=>?_))
 ·have e0:=S0.stays b o eo;have e1:=S.stays b o eo;refine (N.keep b o e1 (.inl ⟨o,e0⟩)).1 fun hF=>?_;obtain ⟨hb,_⟩:=S.wt.mem hF;exact af hb eo
 ·obtain ⟨o',C4,h1⟩:=S.sim.odd hb;cases Ag (C4.symm.trans eo);exact (N.keep b _ C4 (.inr h1.2.2)).1 fun hF=>S.wJ b hF hb
def MR (k:E)(x:Expr):Prop:=(∃ b kk pp,k=.bool b∧x=.Constant (.bool b) kk pp)∨∃ t kk pp,k=.str t∧x=.Constant (.str (aE t)) kk pp∧t.length<=lid
theorem Iv {b:Ss} {i:Nat} {k:E} {body:List Stmt} {x:Expr} {y:Str} {p p1 p2 p3 p4:Pos} {N:Nm} {mg mb:Str->Option Value} (NO:iL c T N mg mb) (V:ba c.f c.vars) (hk:c.f.env.kindOf "ValueError"=some .globalImplicit) (hb:sY c T C d u b body) (hx:MR k x) (hy:c.vars[i]?=some y) :
  jv c T C d u (.nW b i k) (.Try body [.ExceptHandler (some (.Name "ValueError" p1)) none [.Assign [.Name y p2] x p3] p4] [] [] p):=by
 intro A e J s Y Q X QC EC hA hE h S H HX;obtain ⟨v,hv,h⟩:=bL h;refine wpAny_Try_except (hb A e J s Y Q _ _ _ hA PassesOwn.looking h S ?_ ?_)
 ·intro fl f' s₁ ax e1 J1 aP P1 S1 r1 q1;have H:=H fl f' s₁ ax e1 J1 aP P1 S1 r1 q1;cases f' with
  | next=>exact wpAny_execs_nil H
  | _=>exact H
 ·intro ex s₁ ax e1 J1 aP P1 S1 x1 q1;have sW:c.f.env.frame=some c.f.L:=rfl;refine ks (base:=c.base) hA.wt S1.wt sW P1.oX x1 fun h2 x2 N2=>?_;refine gZ (F:=c.F) (s:={ s₁ with heap:=h2 }) x2 fun h3 x3 N3=>?_;have U1:=N2.trans N3;have S3:c.S ax e1 J1 { s₁ with heap:=h3 }:=lY S S1 U1;have P3:c.PO Y s.heap ax h3:=U1.Px (dh S1.C2) P1;refine wpAny_handleBy_builtin (X:="ValueError") (b:=true) PySem.F.isExc_ValueError (by rw [isSubtype_type]; kernel_rfl) PySem.F.self_ValueError ?_
  refine ij (s:={ s₁ with heap:=h3 }) S3 V ⟨hk,by decide⟩ NO.g NO.b (.inr NO.ve) ⟨rfl,x3.there.imp fun oe q=>q.elim fun vs q=>q.elim fun T q=>q.elim fun oT q=>q.elim fun ts q=>⟨q.1.g,q.1.c⟩,?_⟩;simp only [if_true];refine gZ (s:={ s₁ with heap:=h3 }) (h₀:=s.heap) (F:=c.F) x3 fun h4 x4 N4=>?_;have S4:c.S ax e1 J1 { s₁ with heap:=h4 }:=lY (s:={ s₁ with heap:=h3 }) S S3 N4;have P4:c.PO Y s.heap ax h4:=N4.Px (dh S3.C2) P3;have fin:∀ {w:Value} {Y':aM} {s':Shared},c.S Y' e1 J1 s'->bx s s'->c.PO Y s.heap Y' s'.heap->c.V s'.heap Y' v w->wpAny c.M (A.mark (some (.ref ex))) (storeName c.f.env y w) (fun _ s'=>wpAny c.M (A.mark (some (.ref ex))) (execs [] c.f.env) QC (notedBy c.M (A.mark (some (.ref ex))) c.f.env (cameBackBy c.M A c.f.env EC)) s') (notedBy c.M (A.mark (some (.ref ex))) c.f.env (cameBackBy c.M A c.f.env EC)) s':=fun S' fE P' r'=>
   dq V S' hy r' fun s5 wi P5 S5=>wpAny_execs_nil (H .next .next s5 _ _ J1 (fE.trans wi) (P'.trans P5) S5 rfl q1)
  have nM:bx s { s₁ with heap:=h4 }:=aP.trans ⟨rfl,rfl,rfl,Aj _⟩;refine wpAny_execs_cons ?_;rcases hx with ⟨b,kk,pp,rfl,rfl⟩ | ⟨xx,kk,pp,rfl,rfl,hz⟩
  ·cases Ag hv;refine wpAny_Assign_Name ?_ (by rfl);rw [eval_Constant];exact wpAny_pure (fin S4 nM P4 cJ)
  ·cases Ag hv;refine wpAny_Assign_Name (Constant_str ?_) (by rfl);exact fin (S4.tok xx) (nM.trans ⟨rfl,rfl,rfl,Nat.le_succ _⟩) (P4.trans (a7.tok xx (S4.mY s₁.toks (Aj _)))) ⟨_,rfl,hz,Nat.ne_of_gt S4.pos,aM.zL ..⟩
end
open PySem PySem.Calls PyProof.Rows PySem.SeqAt PySem.W
structure Pm (c:Cx)(T:aQ)(C:Calls)(N:Nm)(mg mb:Str->Option Value)(d u:Nat):Prop where
 O:fk c
 NO:iL c T N mg mb
 V:ba c.f c.vars
 CO:iq c C N.fa (d+2) (u+10)
 hu:u+100<cLine
structure Tb where
 gn:List Tx
 fn:List Tx
 cn:List Tx
 fa:List Addr
 pl:List Bool
noncomputable def Tb.nm (t:Tb):Nm where
 gn:=fun i=>(t.gn[i]?).map aE
 fn:=fun i=>(t.fn[i]?).map aE
 cn:=fun i=>(t.cn[i]?).map aE
 fa:=fun i=>t.fa[i]?
 pl:=fun i=>(t.pl[i]?).getD false
noncomputable def tl (s:Str):Tx:=s.cps.toList
theorem gL (s:Str):aE (tl s)=s:=by cases s; rfl
noncomputable def seq (a b:Str):Bool:=aB (tl a) (tl b)
theorem ka {a b:Str}(h:seq a b=true):a=b:=by rw [← gL a,a6.mp h,gL]
theorem qS {a b:Str}(h:(!(seq a b))=true):a≠b:=fun q=>by
 rw [q,show seq b b=true from a6.mpr rfl] at h; cases h
theorem u0 {a b:Str}(h:(!(seq a b))=true):(a==b)=false:=beq_eq_false_iff_ne.mpr (qS h)
noncomputable def fV (o:Option Tx)(s:Str):Bool:=match o with
 | some y=>aB y (tl s)
 | none=>false
theorem lQ {o:Option Tx}{s:Str}(h:fV o s=true):o.map aE=some s:=by
 cases o with
 | none=>cases h
 | some y=>exact congrArg some (by rw [a6.mp h,gL])
theorem y8 {vars:List Tx}{i:Nat}{s:Str}(h:fV vars[i]? s=true):(vars.map aE)[i]?=some s:=by rw [List.getElem?_map]; exact lQ h
theorem ah {a b:Bool}(h:(a&&b)=true):a=true∧b=true:=Ab h
noncomputable def ON (x:Str):List (Str×NameKind)->Option NameKind
 | []=>none
 | (n,k)::r=>cond (seq n x) (some k) (ON x r)
theorem AD (x:Str):∀ l:List (Str×NameKind),l.lookup x=ON x l
 | []=>rfl
 | (n,k)::r=>by
  rw [List.lookup_cons,AD x r];show _=cond (seq n x) (some k) (ON x r);cases h:seq n x with
  | true=>cases ka h; rw [beq_self_eq_true]; rfl
  | false=>rw [beq_eq_false_iff_ne.mpr (Ne.symm (qS (by rw [h]; rfl)))]; rfl
noncomputable def CC (x:Str)(l:List (Str×NameKind))(k:NameKind):Bool:=decide (ON x l=some k)
theorem i3 {x:Str}{l:List (Str×NameKind)}{k:NameKind}(h:CC x l k=true):l.lookup x=some k:=(AD x l).trans (Ax h)
noncomputable def dE:Expr:=.Constant .none 0 ⟨0,0,0,0⟩
noncomputable def kids (x:Expr):List Expr:=match x with
 | .BoolOp _ xs _=>xs
 | .BinOp l _ r _=>[l,r]
 | .UnaryOp _ a _=>[a]
 | .IfExp a b c _=>[a,b,c]
 | .ListComp e gs _ _=>e::gs.flatMap fun g=>[g.target,g.iter]
 | .Compare l _ rs _=>l::rs
 | .Call f xs _ _=>f::xs
 | .Attribute v _ _=>[v]
 | .Subscript v s _=>[v,s]
 | .List xs _=>xs
 | .Tuple xs _ _=>xs
 | .Slice a b c _=>[a.getD x,b.getD x,c.getD x]
 | _=>[]
noncomputable def kd (x:Expr)(n:Nat):Expr:=(kids x).getD n dE
noncomputable def nm (x:Expr):Str:=match x with
 | .Name y _=>y
 | .Attribute _ y _=>y
 | .Constant (.str y) _ _=>y
 | _=>aE []
noncomputable def num (x:Expr):Nat:=match x with
 | .Constant _ k _=>k
 | .Tuple _ k _=>k
 | _=>0
noncomputable def CP (l:List Expr):List (Str×Pos):=l.map fun e=>(nm e,e.pos)
noncomputable abbrev oV (x:Expr):Expr:=.Name (nm x) x.pos
section
variable (sc:Scope)
noncomputable def Fv (x:Expr):Scope:=match x with
 | .ListComp _ _ s _=>s
 | _=>sc
mutual
noncomputable def cC:E->Expr->Expr
 | .none,x=>.Constant .none (num x) x.pos
 | .bool b,x=>.Constant (.bool b) (num x) x.pos
 | .int i,x=>.Constant (.int i) (num x) x.pos
 | .str _,x=>.Constant (.str (nm x)) (num x) x.pos
 | .v _,x=>oV x
 | .g _,x=>oV x
 | .bin op a b,x=>.BinOp (cC a (kd x 0)) (nz op) (cC b (kd x 1)) x.pos
 | .neg a,x=>.UnaryOp .USub (cC a (kd x 0)) x.pos
 | .not a,x=>.UnaryOp .Not (cC a (kd x 0)) x.pos
 | .cmp op a b,x=>.Compare (cC a (kd x 0)) [dp op] [cC b (kd x 1)] x.pos
 | .te o1 o2 a b k,x=>.Compare (cC a (kd x 0)) [dp o1,dp o2] [cC b (kd x 1),cC k (kd x 2)] x.pos
 | .all es,x=>.BoolOp .And (iH es (kids x)) x.pos
 | .any es,x=>.BoolOp .Or (iH es (kids x)) x.pos
 | .ite q a b,x=>.IfExp (cC q (kd x 0)) (cC a (kd x 1)) (cC b (kd x 2)) x.pos
 | .call _ as,x=>.Call (oV (kd x 0)) (iH as (kids x).tail) [] x.pos
 | .new _ as,x=>.Call (oV (kd x 0)) (iH as (kids x).tail) [] x.pos
 | .ai a _ as,x=>.Call (.Attribute (cC a (kd (kd x 0) 0)) (nm (kd x 0)) (kd x 0).pos) (iH as (kids x).tail) [] x.pos
 | .bi _ as,x=>.Call (oV (kd x 0)) (iH as (kids x).tail) [] x.pos
 | .bm a _ as,x=>.Call (.Attribute (cC a (kd (kd x 0) 0)) (nm (kd x 0)) (kd x 0).pos) (iH as (kids x).tail) [] x.pos
 | .attr a _,x=>.Attribute (cC a (kd x 0)) (nm x) x.pos
 | .idx a b,x=>.Subscript (cC a (kd x 0)) (cC b (kd x 1)) x.pos
 | .slice a lo hi,x=>.Subscript (cC a (kd x 0)) (.Slice (Hi lo (kd (kd x 1) 0)) (Hi hi (kd (kd x 1) 1)) none (kd x 1).pos) x.pos
 | .tuple as,x=>.Tuple (iH as (kids x)) (num x) x.pos
 | .wG a,x=>.Subscript (cC a (kd x 0)) (.Slice none (some (.Constant (.int 0) (num (kd (kd x 1) 1)) (kd (kd x 1) 1).pos)) (some (.UnaryOp .USub (.Constant (.int 1) (num (kd (kd (kd x 1) 2) 0)) (kd (kd (kd x 1) 2) 0).pos) (kd (kd x 1) 2).pos)) (kd x 1).pos) x.pos
 | .list as,x=>.List (iH as (kids x)) x.pos
 | .oh,x=>.Dict [] [] x.pos
 | .dX _ _ src,x=>.ListComp (oV (kd x 0)) [⟨.Tuple (yt (CP (kids (kd x 1)))) (num (kd x 1)) (kd x 1).pos,cC src (kd x 2),[],0⟩] (Fv sc x) x.pos
 | .du _ src,x=>.ListComp (.Tuple [.Name (nm (kd x 1)) (kd (kd x 0) 0).pos,oV (kd (kd x 0) 1)] (num (kd x 0)) (kd x 0).pos) [⟨oV (kd x 1),cC src (kd x 2),[],0⟩] (Fv sc x) x.pos
noncomputable def iH:Es->List Expr->List Expr
 | .nil,_=>[]
 | .cons a as,xs=>cC a (xs.headD dE)::iH as xs.tail
noncomputable def Hi:Eo->Expr->Option Expr
 | .no,_=>none
 | .yes a,x=>some (cC a x)
end
theorem kO (a:E)(x:Expr)(env:Env)(rest:List Expr):starEach (cC sc a x::rest) env=(false,eval (cC sc a x) env)::starEach rest env:=by cases a<;>rfl
theorem It (a:E)(x:Expr)(o i:Value):subscripted (cC sc a x) false o i=operate [o,i] (getItem o i):=by cases a<;>rfl
theorem jh (a:E)(x:Expr)(op:CmpOp):behindInMarks op (cC sc a x)=false:=by cases a<;>rfl
theorem Fe (a:E)(x:Expr)(ov iv new:Value):augStore (cC sc a x) ov iv new=(do holding [new,ov,iv] (setItem ov iv new); release [new,ov,iv] []; pure .next):=by cases a<;>rfl
theorem qY (a:E)(x:Expr)(env:Env)(v:Value):foldedSetIterable (cC sc a x) env v=pure v:=by cases a<;>rfl
noncomputable def PQ (a:E):Nat:=match a with
 | .call ..=>1
 | .new ..=>1
 | .bi ..=>1
 | .dX ..=>2
 | .du ..=>2
 | .tuple ..=>3
 | _=>0
noncomputable def jB (a:E)(n:Nat):Bool:=!(Nat.beq (PQ a) n)
theorem ql {a:E}(h:jB a 1=true)(x:Expr)(y:Str)(env:Env)(w:Sem Value):attributeBase (cC sc a x) y env w=w:=by cases a<;>first | rfl | exact (Bool.false_ne_true h).elim
theorem lA {a:E}(h:jB a 2=true)(x:Expr)(t:Option Expr)(l:Nat)(env:Env):swapsWith (cC sc a x) t l env=pure false:=by cases a<;>first | rfl | exact (Bool.false_ne_true h).elim
theorem Eh {a:E}(h:jB a 3=true)(x:Expr){es:List Expr}{k:Nat}{tp:Pos}(env:Env):swappedStores [.Tuple es k tp] (cC sc a x) env=pure none:=by cases a<;>first | rfl | exact (Bool.false_ne_true h).elim
end
open PySem PySem.Calls PyProof.Rows PySem.SeqAt PySem.W
section
variable (t:Tb)(vars:List Tx)(sc:Scope)
noncomputable def G6 (y:Str):Bool:=CC y sc.names .globalImplicit&&!(seq y "__debug__")
theorem oi {y:Str} (h:G6 sc y=true):sc.names.lookup y=some .globalImplicit∧(y==("__debug__" : Str))=false:=by
 obtain ⟨h1,h2⟩:=ah h;exact ⟨i3 h1,u0 h2⟩
noncomputable def HU (y:Str):List Tx->Bool
 | []=>false
 | v::r=>aB v (tl y)||HU y r
theorem Bc {y:Str}:∀ {l:List Tx},HU y l=true->y∈l.map aE
 | [],h=>by cases h
 | v::r,h=>by
  rcases Bool.or_eq_true_iff.mp h with h | h
  ·rw [a6.mp h];exact List.mem_cons.mpr (.inl (gL y).symm)
  ·exact List.mem_cons_of_mem _ (Bc h)
noncomputable def Pg (scope:Scope)(z:Str×NameKind):Bool:=match z.2 with
 | .cell=>false
 | .local=>CC z.1 scope.names .local
 | .free=>HU z.1 vars&&CC z.1 sc.names .cell
 | _=>true
noncomputable def QI (scope:Scope):Bool:=decide (scope.kind=.function)&&scope.names.all (Pg vars sc scope)
structure UZ (scope:Scope):Prop where
 kind:scope.kind=.function
 cell:∀ z∈scope.names,z.2≠.cell
 names:∀ z∈scope.names,z.2=.local->scope.names.lookup z.1=some .local
 free:∀ z∈scope.names,z.2=.free->z.1∈vars.map aE∧sc.names.lookup z.1=some .cell
theorem GG {scope:Scope}(h:QI vars sc scope=true):UZ vars sc scope:=by
 obtain ⟨h1,h2⟩:=ah h;have key:=List.all_eq_true.mp h2;refine ⟨Ax h1,fun z hz q=>?_,fun z hz q=>?_,fun z hz q=>?_⟩
 ·have k:=key z hz;unfold Pg at k; rw [q] at k; cases k
 ·have k:=key z hz;unfold Pg at k; rw [q] at k; exact i3 k
 ·have k:=key z hz;unfold Pg at k; rw [q] at k;obtain ⟨k1,k2⟩:=ah k;exact ⟨Bc k1,i3 k2⟩
mutual
noncomputable def cZ:E->Expr->Bool
 | .none,_=>true
 | .bool _,_=>true
 | .int _,_=>true
 | .str s,x=>aB s (tl (nm x))&&Nat.ble s.length 1000
 | .v i,x=>fV vars[i]? (nm x)
 | .g i,x=>fV t.gn[i]? (nm x)&&G6 sc (nm x)
 | .bin _ a b,x=>cZ a (kd x 0)&&cZ b (kd x 1)
 | .neg a,x=>cZ a (kd x 0)
 | .not a,x=>cZ a (kd x 0)
 | .cmp _ a b,x=>cZ a (kd x 0)&&cZ b (kd x 1)
 | .te _ _ a b k,x=>cZ a (kd x 0)&&(cZ b (kd x 1)&&cZ k (kd x 2))
 | .all es,x=>lj es (kids x)
 | .any es,x=>lj es (kids x)
 | .ite q a b,x=>cZ q (kd x 0)&&(cZ a (kd x 1)&&cZ b (kd x 2))
 | .call k as,x=>fV t.fn[k]? (nm (kd x 0))&&(t.nm.pl k&&(G6 sc (nm (kd x 0))&&lj as (kids x).tail))
 | .new i as,x=>fV t.cn[i]? (nm (kd x 0))&&(G6 sc (nm (kd x 0))&&lj as (kids x).tail)
 | .ai a k as,x=>fV t.fn[k]? (nm (kd x 0))&&(cZ a (kd (kd x 0) 0)&&(jB a 1&&(((kd x 0).pos.endLine==x.pos.line)&&(Nat.blt (iH sc as (kids x).tail).length 30&&lj as (kids x).tail))))
 | .bi b as,x=>seq (nm (kd x 0)) (iS b)&&(G6 sc (nm (kd x 0))&&lj as (kids x).tail)
 | .bm a m as,x=>seq (nm (kd x 0)) (pN m)&&(cZ a (kd (kd x 0) 0)&&(jB a 1&&(((kd x 0).pos.endLine==x.pos.line)&&(Nat.blt (iH sc as (kids x).tail).length 30&&lj as (kids x).tail))))
 | .attr a z,x=>seq (nm x) (atName z)&&(cZ a (kd x 0)&&jB a 1)
 | .idx a b,x=>cZ a (kd x 0)&&cZ b (kd x 1)
 | .slice a lo hi,x=>cZ a (kd x 0)&&(Hq lo (kd (kd x 1) 0)&&Hq hi (kd (kd x 1) 1))
 | .tuple as,x=>lj as (kids x)
 | .wG a,x=>cZ a (kd x 0)
 | .list as,x=>lj as (kids x)
 | .oh,_=>true
 | .dX m j src,x=>cZ src (kd x 2)&&(decide ((CP (kids (kd x 1))).length=m)&&(decide (((CP (kids (kd x 1))).map (·.1))[j]?=some (nm (kd x 0)))&&(decide ((CP (kids (kd x 1))).map (·.1)).Nodup&&(!(seq (nm (kd x 0)) "__debug__") &&
   ((Fv sc x).names.all (fun z=>decide (z.2≠.free))&&(QI vars sc (Fv sc x)&&(CP (kids (kd x 1))).all fun p=>CC p.1 (Fv sc x).names .local))))))
 | .du FG src,x=>cZ src (kd x 2)&&(fV vars[FG]? (nm (kd (kd x 0) 1))&&(CC (nm (kd (kd x 0) 1)) sc.names .cell&&(!(seq (nm (kd x 1)) "__debug__")&&(QI vars sc (Fv sc x)&&(CC (nm (kd x 1)) (Fv sc x).names .local&&CC (nm (kd (kd x 0) 1)) (Fv sc x).names .free)))))
noncomputable def lj:Es->List Expr->Bool
 | .nil,_=>true
 | .cons a as,xs=>cZ a (xs.headD dE)&&lj as xs.tail
noncomputable def Hq:Eo->Expr->Bool
 | .no,_=>true
 | .yes a,x=>cZ a x
end
end
section
variable {c:Cx}{T:aQ}{C:Calls}{mg mb:Str->Option Value}{d u:Nat}{t:Tb}{vars:List Tx}
theorem fN {sc:Scope}{p:Pos}(env:Env):∀ (es:Es) (xs:List Expr),(backTo p (starEach (iH sc es xs) env)).any (·.1)=false
 | .nil,_=>rfl
 | .cons a as,xs=>by
  show (backTo p (starEach (cC sc a (xs.headD dE)::iH sc as xs.tail) env)).any (·.1)=false;rw [kO];exact fN env as xs.tail
theorem m3 {ir:E}{x:Expr}(h:bu c T C d u ir x)(hd:∀ env whole,isTrue x env whole=(do let v ← whole; standAt x.pos; holding [v] (truthy v))):bu c T C d u ir x∧nr c T C d u ir x:=⟨h,DM h hd⟩
theorem BH (V:ba c.f c.vars)(hv:c.vars=vars.map aE){scope:Scope}(h:UZ vars c.f.scope scope):∀ z∈scope.names,z.2=.free->∃ a,c.f.cells.lookup z.1=some a:=fun z hz hf=>by
 obtain ⟨h1,h2⟩:=h.free z hz hf;rcases V.var z.1 (hv▸h1) with q | ⟨_,a,ha⟩
 ·cases Ag ((h2:c.f.env.kindOf z.1=_).symm.trans q)
 ·exact ⟨a,ha⟩
theorem Ij {q a b:E}{x y z:Expr}{p:Pos}(hq:nr c T C d u q x)(ha:nr c T C d u a y)(hb:nr c T C d u b z):nr c T C d u (.ite q a b) (.IfExp x y z p):=by
 intro A e J s Y Q X QC EC hA h S H HX;refine wpAny_bind (m:=isTrue x c.f.env (eval x c.f.env)) (hq A e J s Y _ X _ EC hA h S ?_ HX);intro r s' Y' J' hs P S' q';rcases kf q' with ⟨rfl,q'⟩ | ⟨rfl,q'⟩
 ·exact ⟨_,rfl,ha A e J' s' Y' Q X QC EC hA q' S' (H.pre hs P) (HX.pre hs P)⟩
 ·exact ⟨_,rfl,hb A e J' s' Y' Q X QC EC hA q' S' (H.pre hs P) (HX.pre hs P)⟩
structure XH (c:Cx)(T:aQ)(C:Calls)(d u:Nat)(es:Es)(xs:List Expr):Prop where
 ev:kG c T C d u es xs
 all:DF c T C d u es xs
 any:DD c T C d u es xs
 ML:DG c T C d u es xs
 MK:DE c T C d u es xs
theorem NV (F:Pm c T C t.nm mg mb d u)(hv:c.vars=vars.map aE)(ir:E):∀ x,cZ t vars c.f.scope ir x=true->bu c T C d u ir (cC c.f.scope ir x)∧nr c T C d u ir (cC c.f.scope ir x):=by
 have var:∀ {i:Nat} {s:Str},fV vars[i]? s=true->c.vars[i]?=some s:=fun h=>by rw [hv]; exact y8 h
 induction ir using E.rec (motive_2:=fun es=>∀ xs,lj t vars c.f.scope es xs=true->XH c T C d u es (iH c.f.scope es xs))
  (motive_3:=fun eo=>∀ x,Hq t vars c.f.scope eo x=true->ti c T C d u eo (Hi c.f.scope eo x)) with
 | none=>exact fun x h=>m3 ER fun _ _=>rfl
 | bool b=>exact fun x h=>m3 EW fun _ _=>rfl
 | int i=>exact fun x h=>m3 t9 fun _ _=>rfl
 | str s=>
  intro x h;obtain ⟨h1,h2⟩:=ah h;exact m3 (Ke (by rw [a6.mp h1,gL]) (Aa (Ad h2) (Ar 1000 999000))) fun _ _=>rfl
 | v i=>exact fun x h=>m3 (SG F.V (var h)) fun _ _=>rfl
 | g i=>
  intro x h;obtain ⟨h1,h2⟩:=ah h;exact m3 (SH F.NO F.V (lQ h1) (oi _ h2)) fun _ _=>rfl
 | bin op a b fT iA=>
  intro x h;obtain ⟨h1,h2⟩:=ah h;exact m3 (aO (fT _ h1).1 (iA _ h2).1) fun _ _=>rfl
 | neg a fT=>exact fun x h=>m3 (jM (fT _ h).1) fun _ _=>rfl
 | not a fT=>exact fun x h=>⟨Ki (fT _ h).1,Ii (fT _ h).2⟩
 | cmp op a b fT iA=>
  intro x h;obtain ⟨h1,h2⟩:=ah h;exact ⟨Km F.hu F.O (fT _ h1).1 (iA _ h2).1 (jh ..),Ik F.hu F.O (fT _ h1).1 (iA _ h2).1 (jh ..)⟩
 | te o1 o2 a b k fT iA TU=>
  intro x h;obtain ⟨h1,h⟩:=ah h;obtain ⟨h2,h3⟩:=ah h;exact ⟨EU F.hu F.O (fT _ h1).1 (iA _ h2).1 (TU _ h3).1 (jh ..),DN F.hu F.O (fT _ h1).1 (iA _ h2).1 (TU _ h3).1 (jh ..)⟩
 | all es ih=>exact fun x h=>⟨fun A=>(ih _ h).ML A _,(ih _ h).all⟩
 | any es ih=>exact fun x h=>⟨fun A=>(ih _ h).MK A _,(ih _ h).any⟩
 | ite q a b TS fT iA=>
  intro x h;obtain ⟨h1,h⟩:=ah h;obtain ⟨h2,h3⟩:=ah h;exact ⟨Kk (TS _ h1).2 (fT _ h2).1 (iA _ h3).1,Ij (TS _ h1).2 (fT _ h2).2 (iA _ h3).2⟩
 | call k as ih=>
  intro x h;obtain ⟨h1,h⟩:=ah h;obtain ⟨h2,h⟩:=ah h;obtain ⟨h3,h4⟩:=ah h;exact m3 (EV F.NO F.V F.CO (lQ h1) (oi _ h3) (ih _ h4).ev (fun env=>fN env ..) (F.NO.pl k h2)) fun _ _=>rfl
 | new i as ih=>
  intro x h;obtain ⟨h1,h⟩:=ah h;obtain ⟨h3,h4⟩:=ah h;exact m3 (Kj F.O F.NO F.V F.CO (lQ h1) (oi _ h3) (ih _ h4).ev (fun env=>fN env ..)) fun _ _=>rfl
 | ai a k as fT ih=>
  intro x h;obtain ⟨h1,h⟩:=ah h;obtain ⟨h2,h⟩:=ah h;obtain ⟨h3,h⟩:=ah h;obtain ⟨h4,h⟩:=ah h;obtain ⟨h5,h6⟩:=ah h;exact m3 (ES F.O F.NO F.CO (lQ h1) (fT _ h2).1 (ql _ h3 ..) h4 (Ad h5) (ih _ h6).ev (fun env=>fN env ..)) fun _ _=>rfl
 | bi b as ih=>
  intro x h;obtain ⟨h1,h⟩:=ah h;obtain ⟨h3,h4⟩:=ah h;have h1:=ka h1;show bu c T C d u (.bi b as) (.Call (oV (kd x 0)) _ [] x.pos)∧nr c T C d u (.bi b as) (.Call (oV (kd x 0)) _ [] x.pos);unfold oV;rw [h1] at h3 ⊢;exact m3 (NX F.NO F.V (oi _ h3) (ih _ h4).ev (fun env=>fN env ..)) fun _ _=>rfl
 | bm a m as fT ih=>
  intro x h;obtain ⟨h1,h⟩:=ah h;obtain ⟨h2,h⟩:=ah h;obtain ⟨h3,h⟩:=ah h;obtain ⟨h4,h⟩:=ah h;obtain ⟨h5,h6⟩:=ah h;have h1:=ka h1;show bu c T C d u (.bm a m as) (.Call (.Attribute _ (nm (kd x 0)) _) _ [] x.pos)∧nr c T C d u (.bm a m as) (.Call (.Attribute _ (nm (kd x 0)) _) _ [] x.pos);rw [h1];exact m3 (NW (fT _ h2).1 (ql _ h3 ..) h4 (Ad h5) (ih _ h6).ev (fun env=>fN env ..)) fun _ _=>rfl
 | attr a y fT=>
  intro x h;obtain ⟨h1,h⟩:=ah h;obtain ⟨h2,h3⟩:=ah h;have h1:=ka h1;show bu c T C d u (.attr a y) (.Attribute _ (nm x) x.pos)∧nr c T C d u (.attr a y) (.Attribute _ (nm x) x.pos);rw [h1];exact m3 (EX F.O (fT _ h2).1 (ql _ h3 ..)) fun _ _=>rfl
 | idx a b fT iA=>
  intro x h;obtain ⟨h1,h2⟩:=ah h;exact m3 (Kl (fT _ h1).1 (iA _ h2).1 (It _ _ _)) fun _ _=>rfl
 | slice a lo hi fT VQ VR=>
  intro x h;obtain ⟨h1,h⟩:=ah h;obtain ⟨h2,h3⟩:=ah h;exact m3 (Cb (fT _ h1).1 (VQ _ h2) (VR _ h3)) fun _ _=>rfl
 | tuple as ih=>exact fun x h=>m3 (Ca (ih _ h).ev) fun _ _=>rfl
 | wG a ih=>exact fun x h=>m3 (EP (ih _ h).1 (qh t9) (qh (jM t9))) fun _ _=>rfl
 | list as ih=>exact fun x h=>m3 (ET (ih _ h).ev) fun _ _=>rfl
 | oh=>exact fun x h=>m3 Cc fun _ _=>rfl
 | dX m j src ih=>
  intro x h;obtain ⟨h1,h⟩:=ah h;obtain ⟨h2,h⟩:=ah h;obtain ⟨h3,h⟩:=ah h;obtain ⟨h4,h⟩:=ah h;obtain ⟨h5,h⟩:=ah h;obtain ⟨h6,h⟩:=ah h;obtain ⟨h7,h8⟩:=ah h;have s:=GG _ _ h7;exact m3 (uB (ih _ h1).1 (qY _ _ _) (Ax h2) (Ax h3) (Ax h4) (u0 h5) (fun z hz=>Ax (List.all_eq_true.mp h6 z hz)) s.cell s.kind s.names fun p hp=>i3 (List.all_eq_true.mp h8 p hp)) fun _ _=>rfl
 | du FG src ih=>
  intro x h;obtain ⟨h1,h⟩:=ah h;obtain ⟨h2,h⟩:=ah h;obtain ⟨h3,h⟩:=ah h;obtain ⟨h4,h⟩:=ah h;obtain ⟨h5,h⟩:=ah h;obtain ⟨h6,h7⟩:=ah h;have s:=GG _ _ h5;exact m3 (sJ F.V (ih _ h1).1 (qY _ _ _) (var h2) (i3 h3) (u0 h4) (BH F.V hv s) s.cell s.kind s.names (i3 h6) (i3 h7)) fun _ _=>rfl
 | nil=>
  exact ⟨EN,fun _ _ _ _ _ _ _ _ _ _ h=>h.elim,fun _ _ _ _ _ _ _ _ _ _ h=>h.elim,fun _ _ _ _ _ _ _ _ _ _ _ h=>h.elim,fun _ _ _ _ _ _ _ _ _ _ _ h=>h.elim⟩
 | cons a as fT ih=>
  rename_i xs h
  obtain ⟨h1,h2⟩:=ah h;have i1:=fT _ h1;have i2:=ih _ h2;cases as with
  | nil=>exact ⟨sd i1.1 i2.ev (kO _ _ _),Fi i1.2,Fh i1.2,Cr i1.1,Cp i1.1⟩
  | cons b as=>exact ⟨sd i1.1 i2.ev (kO _ _ _),Cq i1.2 i2.all,Co i1.2 i2.any,xY i1.1 i2.ML,xX i1.1 i2.MK⟩
 | no=>exact Kd
 | yes a fT=>rename_i x h; exact qh (fT _ h).1
end
open PySem PySem.Calls PyProof.Rows PySem.SeqAt PySem.W
noncomputable def Wm (h:ExceptHandler):List Expr:=match h with
 | .ExceptHandler t _ _ _=>t.toList
noncomputable def Wn (h:ExceptHandler):List Stmt:=match h with
 | .ExceptHandler _ _ b _=>b
noncomputable def Wl (h:ExceptHandler):Pos:=match h with
 | .ExceptHandler _ _ _ p=>p
noncomputable def kS (x:Stmt):List Expr:=match x with
 | .Expr e _=>[e]
 | .Assign ts v _=>v::ts
 | .AugAssign a _ v _=>[v,a]
 | .Delete ts _=>ts
 | .If q _ _ _=>[q]
 | .While q _ _ _=>[q]
 | .For a i _ _ _=>[i,a]
 | .Return o _=>o.toList
 | .Raise o _ _=>o.toList
 | .Try _ hs _ _ _=>hs.flatMap Wm
 | _=>[]
noncomputable def kx (x:Stmt)(n:Nat):Expr:=(kS x).getD n dE
noncomputable def bS (x:Stmt):List Stmt:=match x with
 | .If _ a _ _=>a
 | .While _ a _ _=>a
 | .For _ _ a _ _=>a
 | .Try a _ _ _ _=>a
 | _=>[]
noncomputable def eS (x:Stmt):List Stmt:=match x with
 | .If _ _ b _=>b
 | .Try _ hs _ _ _=>hs.flatMap Wn
 | _=>[]
noncomputable def hP (x:Stmt):Pos:=match x with
 | .Try _ hs _ _ _=>(hs.map Wl).headD x.pos
 | _=>x.pos
section
variable (sc:Scope)
noncomputable abbrev Th (x:Expr):Expr:=.Tuple (yt (CP (kids x))) (num x) x.pos
noncomputable def G0 (l:List Stmt):Stmt:=l.headD (.Pass ⟨0,0,0,0⟩)
mutual
noncomputable def toS:S->Stmt->Stmt
 | .expr a,x=>.Expr (cC sc a (kx x 0)) x.pos
 | .set _ a,x=>.Assign [oV (kx x 1)] (cC sc a (kx x 0)) x.pos
 | .eV _ a,x=>.Assign [Th (kx x 1)] (cC sc a (kx x 0)) x.pos
 | .setAttr o _ a,x=>.Assign [.Attribute (cC sc o (kd (kx x 1) 0)) (nm (kx x 1)) (kx x 1).pos] (cC sc a (kx x 0)) x.pos
 | .bQ o i a,x=>.Assign [.Subscript (cC sc o (kd (kx x 1) 0)) (cC sc i (kd (kx x 1) 1)) (kx x 1).pos] (cC sc a (kx x 0)) x.pos
 | .fM o lo hi a,x=>.Assign [.Subscript (cC sc o (kd (kx x 1) 0)) (.Slice (some (cC sc lo (kd (kd (kx x 1) 1) 0))) (some (cC sc hi (kd (kd (kx x 1) 1) 1))) none (kd (kx x 1) 1).pos) (kx x 1).pos] (cC sc a (kx x 0)) x.pos
 | .aug _ op a,x=>.AugAssign (oV (kx x 1)) (nz op) (cC sc a (kx x 0)) x.pos
 | .dY o _ op a,x=>.AugAssign (.Attribute (cC sc o (kd (kx x 1) 0)) (nm (kx x 1)) (kx x 1).pos) (nz op) (cC sc a (kx x 0)) x.pos
 | .iT o i op a,x=>.AugAssign (.Subscript (cC sc o (kd (kx x 1) 0)) (cC sc i (kd (kx x 1) 1)) (kx x 1).pos) (nz op) (cC sc a (kx x 0)) x.pos
 | .ik o lo,x=>.Delete [.Subscript (cC sc o (kd (kx x 0) 0)) (.Slice (some (cC sc lo (kd (kd (kx x 0) 1) 0))) none none (kd (kx x 0) 1).pos) (kx x 0).pos] x.pos
 | .ifs q a b,x=>.If (cC sc q (kx x 0)) (jw a (bS x)) (jw b (eS x)) x.pos
 | .gf q b,x=>.While (cC sc q (kx x 0)) (jw b (bS x)) [] x.pos
 | .gx _ src b,x=>.For (oV (kx x 1)) (cC sc src (kx x 0)) (jw b (bS x)) [] x.pos
 | .forL _ src b,x=>.For (oV (kx x 1)) (cC sc src (kx x 0)) (jw b (bS x)) [] x.pos
 | .n4 _ a b,x=>.Assign [oV (kx x 1)] (.BoolOp .Or [cC sc a (kd (kx x 0) 0),cC sc b (kd (kx x 0) 1)] (kx x 0).pos) x.pos
 | .pd _ src b,x=>.For (Th (kx x 1)) (cC sc src (kx x 0)) (jw b (bS x)) [] x.pos
 | .ret a,x=>.Return (some (cC sc a (kx x 0))) x.pos
 | .raise a,x=>.Raise (some (.Call (.Name "ValueError" (kd (kx x 0) 0).pos) [cC sc a (kd (kx x 0) 1)] [] (kx x 0).pos)) none x.pos
 | .brk,x=>.Break x.pos
 | .cont,x=>.Continue x.pos
 | .nW b _ k,x=>.Try (jw b (bS x)) [.ExceptHandler (some (.Name "ValueError" (kx x 0).pos)) none [.Assign [oV (kx (G0 (eS x)) 1)] (cC sc k (kx (G0 (eS x)) 0)) (G0 (eS x)).pos] (hP x)] [] [] x.pos
noncomputable def jw:Ss->List Stmt->List Stmt
 | .nil,_=>[]
 | .cons a as,xs=>toS a (G0 xs)::jw as xs.tail
end
variable (t:Tb)(vars:List Tx)
noncomputable def yY (vars:List Tx):List Nat->List (Str×Pos)->Bool
 | [],[]=>true
 | i::is,p::ps=>fV vars[i]? p.1&&yY vars is ps
 | _,_=>false
noncomputable def Gm (k:E):Bool:=match k with
 | .bool _=>true
 | .str _=>true
 | _=>false
noncomputable def L9 (l:List Nat)(P:Nat->Nat->Bool):Bool:=match l with
 | [i,j]=>P i j
 | _=>false
noncomputable def two (l:List Expr)(P:Expr->Expr->Bool):Bool:=match l with
 | [y,z]=>P y z
 | _=>false
noncomputable def eH {α:Type}(o:Option α)(P:α->Bool):Bool:=match o with
 | some x=>P x
 | none=>false
noncomputable def L7 {α:Type}(m:Sem α):Option α:=match m with
 | .pure a=>some a
 | _=>none
noncomputable def SQ (y z:Expr)(k:Nat)(tp:Pos)(v:Expr)(i j:Nat):Bool:=eH (L7 (swappedStores [.Tuple [oV y,oV z] k tp] v ⟨sc,0,0,[],Str.empty,none,.none,none,0⟩)) fun o=>eH o fun l=>decide (l=[nm y,nm z])&&(!(Nat.beq i j)&&(fV vars[i]? (nm y)&&fV vars[j]? (nm z)))
mutual
noncomputable def hU:S->Stmt->Bool
 | .expr a,x=>cZ t vars sc a (kx x 0)&&jB a 2
 | .set i a,x=>cZ t vars sc a (kx x 0)&&(jB a 2&&fV vars[i]? (nm (kx x 1)))
 | .eV is a,x=>cZ t vars sc a (kx x 0)&&(jB a 2&&((jB a 3&&yY vars is (CP (kids (kx x 1))))||(Nat.beq (PQ a) 3&&two (kids (kx x 1)) fun y z=>L9 is (SQ sc vars y z (num (kx x 1)) (kx x 1).pos (cC sc a (kx x 0))))))
 | .setAttr o z a,x=>cZ t vars sc a (kx x 0)&&(jB a 2&&(cZ t vars sc o (kd (kx x 1) 0)&&seq (nm (kx x 1)) (atName z)))
 | .bQ o i a,x=>cZ t vars sc a (kx x 0)&&(jB a 2&&(cZ t vars sc o (kd (kx x 1) 0)&&cZ t vars sc i (kd (kx x 1) 1)))
 | .fM o lo hi a,x=>cZ t vars sc a (kx x 0)&&(jB a 2&&(cZ t vars sc o (kd (kx x 1) 0)&&(cZ t vars sc lo (kd (kd (kx x 1) 1) 0)&&cZ t vars sc hi (kd (kd (kx x 1) 1) 1))))
 | .aug i _ a,x=>cZ t vars sc a (kx x 0)&&fV vars[i]? (nm (kx x 1))
 | .dY o z _ a,x=>cZ t vars sc a (kx x 0)&&(cZ t vars sc o (kd (kx x 1) 0)&&seq (nm (kx x 1)) (atName z))
 | .iT o i _ a,x=>cZ t vars sc a (kx x 0)&&(cZ t vars sc o (kd (kx x 1) 0)&&cZ t vars sc i (kd (kx x 1) 1))
 | .ik o lo,x=>cZ t vars sc o (kd (kx x 0) 0)&&cZ t vars sc lo (kd (kd (kx x 0) 1) 0)
 | .ifs q a b,x=>cZ t vars sc q (kx x 0)&&(jy a (bS x)&&jy b (eS x))
 | .gf q b,x=>cZ t vars sc q (kx x 0)&&jy b (bS x)
 | .gx i src b,x=>cZ t vars sc src (kx x 0)&&(fV vars[i]? (nm (kx x 1))&&jy b (bS x))
 | .forL i src b,x=>cZ t vars sc src (kx x 0)&&(fV vars[i]? (nm (kx x 1))&&jy b (bS x))
 | .n4 i a b,x=>cZ t vars sc a (kd (kx x 0) 0)&&(cZ t vars sc b (kd (kx x 0) 1)&&fV vars[i]? (nm (kx x 1)))
 | .pd is src b,x=>cZ t vars sc src (kx x 0)&&(yY vars is (CP (kids (kx x 1)))&&jy b (bS x))
 | .ret a,x=>cZ t vars sc a (kx x 0)
 | .raise a,x=>G6 sc "ValueError"&&cZ t vars sc a (kd (kx x 0) 1)
 | .brk,_=>true
 | .cont,_=>true
 | .nW b i k,x=>G6 sc "ValueError"&&(jy b (bS x)&&(cZ t vars sc k (kx (G0 (eS x)) 0)&&(Gm k&&fV vars[i]? (nm (kx (G0 (eS x)) 1)))))
noncomputable def jy:Ss->List Stmt->Bool
 | .nil,_=>true
 | .cons a as,xs=>hU a (G0 xs)&&jy as xs.tail
end
end
theorem IV {l:List Nat}{P:Nat->Nat->Bool}(h:L9 l P=true):∃ i j,l=[i,j]∧P i j=true:=by
 cases l with
 | nil=>cases h
 | cons a l=>
 cases l with
 | nil=>cases h
 | cons b l=>
 cases l with
 | nil=>exact ⟨_,_,rfl,h⟩
 | cons _ _=>cases h
theorem M5 {l:List Expr}{P:Expr->Expr->Bool}(h:two l P=true):∃ i j,l=[i,j]∧P i j=true:=by
 cases l with
 | nil=>cases h
 | cons a l=>
 cases l with
 | nil=>cases h
 | cons b l=>
 cases l with
 | nil=>exact ⟨_,_,rfl,h⟩
 | cons _ _=>cases h
theorem M6 {a:E}(h:Nat.beq (PQ a) 3=true):∃ as,a=.tuple as:=by
 cases a<;>first | exact ⟨_,rfl⟩ | exact (Bool.false_ne_true h).elim
theorem NZ {a:E}{sc:Scope}{t:Tb}{vars:List Tx}{x:Expr}(h:Gm a=true)(h':cZ t vars sc a x=true):MR a (cC sc a x):=by
 cases a with
 | bool b=>exact .inl ⟨b,_,_,rfl,rfl⟩
 | str s=>
  obtain ⟨h1,h2⟩:=ah h';refine .inr ⟨s,num x,x.pos,rfl,?_,Aa (Ad h2) (Ar 1000 999000)⟩;show Expr.Constant (.str (nm x)) _ _=_;rw [a6.mp h1,gL]
 | _=>exact (Bool.false_ne_true h).elim
theorem Kw {vars:List Tx}{is:List Nat}{xs:List (Str×Pos)}(h:yY vars is xs=true):is.length=xs.length∧∀ (j:Nat) (i:Nat) (x:Str×Pos),is[j]?=some i->xs[j]?=some x->(vars.map aE)[i]?=some x.1:=by
 induction is generalizing xs with
 | nil=>
  cases xs with
  | nil=>exact ⟨rfl,fun _ _ _ h=>af List.getElem?_nil h⟩
  | cons _ _=>cases h
 | cons i is ih=>
  cases xs with
  | nil=>cases h
  | cons p ps=>
   have h:=ah h;have g:=ih h.2;refine ⟨congrArg Nat.succ g.1,fun j i' x e1 e2=>?_⟩;cases j with
   | zero=>cases Ag e1; cases Ag e2; exact y8 h.1
   | succ j=>exact g.2 j i' x e1 e2
theorem aR {α:Type}{o:Option α}{P:α->Bool}(h:eH o P=true):∃ x,o=some x∧P x=true:=by
 cases o with
 | none=>cases h
 | some x=>exact ⟨x,rfl,h⟩
theorem IQ {α:Type}{m:Sem α}{a:α}(h:L7 m=some a):m=pure a:=by
 cases m with
 | pure b=>cases Ag h; rfl
 | _=>exact af rfl h
section
variable {c:Cx}{T:aQ}{C:Calls}{mg mb:Str->Option Value}{d u:Nat}{t:Tb}{vars:List Tx}
theorem FR (F:Pm c T C t.nm mg mb d u)(hv:c.vars=vars.map aE)(ir:S):∀ x,hU c.f.scope t vars ir x=true->jv c T C d u ir (toS c.f.scope ir x):=by
 have ev:=fun a x h=>NV F hv a x h;have var:∀ {i:Nat} {s:Str},fV vars[i]? s=true->c.vars[i]?=some s:=fun h=>by rw [hv]; exact y8 h
 have yo:∀ {is:List Nat} {xs:List (Str×Pos)},yY vars is xs=true->is.length=xs.length∧∀ (j:Nat) (i:Nat) (x:Str×Pos),is[j]?=some i->xs[j]?=some x->c.vars[i]?=some x.1:=fun h=>by rw [hv]; exact Kw h
 induction ir using S.rec (motive_2:=fun ss=>∀ xs,jy c.f.scope t vars ss xs=true->sY c T C d u ss (jw c.f.scope ss xs)) with
 | expr a=>
  intro x h;obtain ⟨h1,h2⟩:=ah h;exact DZ F.V (ev _ _ h1).1 (lA _ h2 _)
 | set i a=>
  intro x h;obtain ⟨h1,h⟩:=ah h;obtain ⟨h2,h3⟩:=ah h;exact tC F.V (ev _ _ h1).1 (lA _ h2 _) (var h3)
 | eV is a=>
  intro x h;obtain ⟨h1,h⟩:=ah h;obtain ⟨h2,h⟩:=ah h;rcases Bool.or_eq_true_iff.mp h with h | h
  ·obtain ⟨h3,h4⟩:=ah h;obtain ⟨g1,g2⟩:=yo h4;exact DX F.V (ev _ _ h1).1 (lA _ h2 _) g1 g2 (Eh _ h3 _ _)
  ·obtain ⟨h3,h⟩:=ah h;obtain ⟨as,rfl⟩:=M6 h3;obtain ⟨y,z,e1,h⟩:=M5 h;obtain ⟨i,j,rfl,h⟩:=IV h;obtain ⟨o,g1,h⟩:=aR h;obtain ⟨l,g2,h⟩:=aR h;obtain ⟨g3,h⟩:=ah h;obtain ⟨g4,h⟩:=ah h;obtain ⟨g5,g6⟩:=ah h;show jv c T C d u (.eV [i,j] (.tuple as)) (.Assign [.Tuple (yt (CP (kids (kx x 1)))) _ _] _ _);rw [e1];refine BC F.V (ev _ _ h1).1 (lA _ h2 _) (fun q=>?_) (var g5) (var g6) ?_
   ·rw [q,Nat.beq_refl] at g4; cases g4
   ·have g:=IQ g1;rw [g2,Ax g3] at g;exact g
 | setAttr o y a=>
  intro x h;obtain ⟨h1,h⟩:=ah h;obtain ⟨h2,h⟩:=ah h;obtain ⟨h3,h4⟩:=ah h;show jv c T C d u (.setAttr o y a) (.Assign [.Attribute _ (nm (kx x 1)) _] _ _);rw [ka h4];exact ui F.O (ev _ _ h1).1 (ev _ _ h3).1 (lA _ h2 _)
 | bQ o i a=>
  intro x h;obtain ⟨h1,h⟩:=ah h;obtain ⟨h2,h⟩:=ah h;obtain ⟨h3,h4⟩:=ah h;exact w8 (ev _ _ h1).1 (ev _ _ h3).1 (ev _ _ h4).1 (lA _ h2 _)
 | fM o lo hi a=>
  intro x h;obtain ⟨h1,h⟩:=ah h;obtain ⟨h2,h⟩:=ah h;obtain ⟨h3,h⟩:=ah h;obtain ⟨h4,h5⟩:=ah h;exact su (ev _ _ h1).1 (ev _ _ h3).1 (ev _ _ h4).1 (ev _ _ h5).1 (lA _ h2 _)
 | aug i op a=>
  intro x h;obtain ⟨h1,h2⟩:=ah h;exact IE F.V (ev _ _ h1).1 (var h2)
 | dY o y op a=>
  intro x h;obtain ⟨h1,h⟩:=ah h;obtain ⟨h3,h4⟩:=ah h;show jv c T C d u (.dY o y op a) (.AugAssign (.Attribute _ (nm (kx x 1)) _) _ _ _);rw [ka h4];exact uk F.O (ev _ _ h3).1 (ev _ _ h1).1
 | iT o i op a=>
  intro x h;obtain ⟨h1,h⟩:=ah h;obtain ⟨h3,h4⟩:=ah h;exact w9 (ev _ _ h3).1 (ev _ _ h4).1 (ev _ _ h1).1 (Fe _ _ _)
 | ik o lo=>
  intro x h;obtain ⟨h1,h2⟩:=ah h;exact uj (ev _ _ h1).1 (ev _ _ h2).1
 | ifs q a b fT iA=>
  intro x h;obtain ⟨h1,h⟩:=ah h;obtain ⟨h2,h3⟩:=ah h;exact Iz (ev _ _ h1).2 (fT _ h2) (iA _ h3)
 | gf q b iA=>
  intro x h;obtain ⟨h1,h2⟩:=ah h;exact tA (ev _ _ h1).2 (iA _ h2)
 | n4 i a b=>
  intro x h;obtain ⟨h1,h⟩:=ah h;obtain ⟨h2,h3⟩:=ah h;exact BD F.V (ev _ _ h1).1 (ev _ _ h2).1 (var h3)
 | forL i src b iA=>
  intro x h;obtain ⟨h1,h⟩:=ah h;obtain ⟨h2,h3⟩:=ah h;exact DY (ev _ _ h1).1 (qY _ _ _) (FP F.V (var h2)) (iA _ h3)
 | gx i src b iA=>
  intro x h;obtain ⟨h1,h⟩:=ah h;obtain ⟨h2,h3⟩:=ah h;exact pn (tg:=nc i) (fun h=>h) (ev _ _ h1).1 (qY _ _ _) (FP F.V (var h2)) (iA _ h3)
 | pd is src b iA=>
  intro x h;obtain ⟨h1,h⟩:=ah h;obtain ⟨h2,h3⟩:=ah h;obtain ⟨g1,g2⟩:=yo h2;exact pn (tg:=wa is) (fun h=>h) (ev _ _ h1).1 (qY _ _ _) (M9 F.V g1 g2) (iA _ h3)
 | ret a=>exact fun x h=>Iw (ev _ _ h).1
 | raise a=>
  intro x h;obtain ⟨h1,h2⟩:=ah h;exact BF F.NO F.V (oi _ h1).1 (ev _ _ h2).1 (kO _ _ _)
 | brk=>exact fun x h=>IC
 | cont=>exact fun x h=>D0
 | nW b i k iA=>
  intro x h;obtain ⟨h1,h⟩:=ah h;obtain ⟨h2,h⟩:=ah h;obtain ⟨h3,h⟩:=ah h;obtain ⟨h4,h5⟩:=ah h;exact Iv F.NO F.V (oi _ h1).1 (iA _ h2) (NZ h4 h3) (var h5)
 | nil=>exact zQ
 | cons a as fT ih=>
  rename_i xs h
  obtain ⟨h1,h2⟩:=ah h;have i2:=ih _ h2;cases as with
  | nil=>exact zP (fT _ h1)
  | cons b as=>exact u7 (fT _ h1) i2
theorem FT (F:Pm c T C t.nm mg mb d u)(hv:c.vars=vars.map aE):∀ (ss:Ss) (xs:List Stmt),jy c.f.scope t vars ss xs=true->sY c T C d u ss (jw c.f.scope ss xs)
 | .nil,_,_=>zQ
 | .cons a .nil,xs,h=>zP (FR F hv a _ (ah h).1)
 | .cons a (.cons b as),xs,h=>u7 (FR F hv a _ (ah h).1) (FT F hv (.cons b as) xs.tail (ah h).2)
end
open PySem PySem.Calls PyProof.Rows PySem.SeqAt PySem.W
theorem xK {ko:Str->Option NameKind}{x:Str}(bs:List (Str×Value))(m:Str->Option Value)(h:x∉bs.map (·.1)):bindL ko bs m x=m x:=by
 induction bs generalizing m with
 | nil=>rfl
 | cons p r ih=>
  refine (ih (if ko p.1=some .local then fun y=>if y=p.1 then some p.2 else m y else m) fun q=>h (List.mem_cons_of_mem _ q)).trans ?_
  by_cases hk:ko p.1=some .local
  ·rw [if_pos hk]; exact if_neg fun q:x=p.1=>h (q▸List.mem_cons_self ..)
  ·rw [if_neg hk]
theorem vF {x:Str}{ps:List Str}{vs:List Value}(h:x∉ps):x∉(ps.zip vs).map (·.1):=fun q=>(List.mem_map.mp q).elim fun p q=>h (q.2▸(List.of_mem_zip q.1).1)
theorem xM {ko:Str->Option NameKind}{x:Str}{v:Value}(hk:ko x=some .local)(ps:List Str)(vs:List Value)(m:Str->Option Value)(i:Nat)(nd:ps.Nodup)(h:ps[i]?=some x)(h':vs[i]?=some v):bindL ko (ps.zip vs) m x=some v:=by
 induction ps generalizing vs m i with
 | nil=>exact af List.getElem?_nil h
 | cons p ps ih=>
  cases vs with
  | nil=>exact af List.getElem?_nil h'
  | cons w vs=>
   have nd:=List.nodup_cons.mp nd;cases i with
   | succ i=>exact ih vs _ i nd.2 h h'
   | zero=>
    cases Ag h; cases Ag h';refine (xK (ps.zip vs) (if ko x=some .local then fun y=>if y=x then some v else m y else m) (vF nd.1)).trans ?_
    rw [if_pos hk]; exact if_pos rfl
theorem xN {ko:Str->Option NameKind}{x:Str}(bs:List (Str×Value))(m:Str->Option Value)(h:x∉bs.map (·.1)):bindC ko bs m x=m x:=by
 induction bs generalizing m with
 | nil=>rfl
 | cons p r ih=>
  refine (ih (if ko p.1=some .local then m else fun y=>if y=p.1 then some p.2 else m y) fun q=>h (List.mem_cons_of_mem _ q)).trans ?_
  by_cases hk:ko p.1=some .local
  ·rw [if_pos hk]
  ·rw [if_neg hk]; exact if_neg fun q:x=p.1=>h (q▸List.mem_cons_self ..)
theorem xO {ko:Str->Option NameKind}{x:Str}{v:Value}(hk:ko x=some .cell)(ps:List Str)(vs:List Value)(m:Str->Option Value)(i:Nat)(nd:ps.Nodup)(h:ps[i]?=some x)(h':vs[i]?=some v):bindC ko (ps.zip vs) m x=some v:=by
 induction ps generalizing vs m i with
 | nil=>exact af List.getElem?_nil h
 | cons p ps ih=>
  cases vs with
  | nil=>exact af List.getElem?_nil h'
  | cons w vs=>
   have nd:=List.nodup_cons.mp nd;cases i with
   | succ i=>exact ih vs _ i nd.2 h h'
   | zero=>
    cases Ag h; cases Ag h';refine (xN (ps.zip vs) (if ko x=some .local then m else fun y=>if y=x then some v else m y) (vF nd.1)).trans ?_
    rw [if_neg (by rw [hk]; decide)]; exact if_pos rfl
theorem hS (p:Str×NameKind)(n:Nat)(r:List (Str×NameKind))(acc:List (Str×Addr)):cellsFrom n (p::r) acc=if (p.2==.cell)=true then cellsFrom (n+1) r ((p.1,n)::acc) else cellsFrom n r acc:=rfl
theorem xF {x:Str}(names:List (Str×NameKind))(n:Nat)(acc:List (Str×Addr))(h:(acc.lookup x).isSome=true):((cellsFrom n names acc).lookup x).isSome=true:=by
 induction names generalizing n acc with
 | nil=>exact h
 | cons p r ih=>
  rw [hS];by_cases hk:(p.2==NameKind.cell)=true
  ·rw [if_pos hk];refine ih _ _ ?_;cases hx:x==p.1 with
   | true=>rw [iP hx]; rfl
   | false=>rw [eR hx]; exact h
  ·rw [if_neg hk]; exact ih _ _ h
theorem mI {x:Str}(names:List (Str×NameKind))(n:Nat)(acc:List (Str×Addr))(h:names.lookup x=some .cell):((cellsFrom n names acc).lookup x).isSome=true:=by
 induction names generalizing n acc with
 | nil=>exact af rfl h
 | cons p r ih=>
  have h:((p.1,p.2)::r).lookup x=some .cell:=h;rw [hS];cases hx:x==p.1 with
  | true=>
   rw [if_pos (by rw [Ag ((iP hx).symm.trans h)]; rfl)];exact xF r _ _ (by rw [iP hx]; rfl)
  | false=>
   have g:=(eR hx).symm.trans h;by_cases hk:(p.2==NameKind.cell)=true
   ·rw [if_pos hk]; exact ih _ _ g
   ·rw [if_neg hk]; exact ih _ _ g
structure G9 where
 a:Addr
 o:Obj
 fd:FuncData
 body:List Stmt
 vs:List Tx
noncomputable abbrev G9.vars (F:G9):List Str:=F.vs.map aE
structure th (base:Heap)(t:Tb)(k:Nat)(d:aD)(F:G9):Prop where
 fa:t.nm.fa k=some F.a
 at_:base.get? F.a=some F.o
 data:F.o.data=.func F.fd
 body:F.fd.body=.stmts F.body
 SP:F.fd.closure=[]
 glob:F.fd.globals=mainGlobals
 SU:F.fd.builtins=builtinsNs
 co:F.fd.scope.isCoroutine=false
 gen:F.fd.scope.isGenerator=false
 kind:F.fd.scope.kind=.function
 code:base.CodeRec F.fd.code F.fd.qualname
 np:d.np<=F.vars.length
 bind:∀ vs:List Value,vs.length=d.np->bindArgs F.fd ⟨vs,[]⟩=pure ((F.vars.take d.np).zip vs)
 nodup:F.vars.Nodup
 var:∀ x∈F.vars,F.fd.scope.names.lookup x=some .local∨F.fd.scope.names.lookup x=some .cell
 Pf:∀ x∈F.vars,(x==("__debug__" : Str))=false
 tree:jw F.fd.scope d.body F.body=F.body
 good:jy F.fd.scope t F.vs d.body F.body=true
noncomputable def Cx.at (G:Cx)(f:Fm)(vars:List Str)(outer:List Env):Cx:={ G with f:=f,vars:=vars,outer:=outer }
theorem fk.at {G:Cx}(O:fk G)(f:Fm)(vars:List Str)(outer:List Env):fk (G.at f vars outer):=⟨O.K,O.cls,O.sys,O.lim⟩
theorem iL.at {G:Cx}{T:aQ}{N:Nm}{mg mb:Str->Option Value}(O:iL G T N mg mb)(f:Fm)(vars:List Str)(outer:List Env):iL (G.at f vars outer) T N mg mb:=
 ⟨O.g,O.b,O.glob,O.fn,O.ai,O.cls,O.bi,O.pl,O.ve⟩
section
variable {G:Cx}{T:aQ}{t:Tb}{mg mb:Str->Option Value}{D:Nat->Option aD}
theorem back {c c':Cx}{e e':Ev}{J J':ae}{s s':Shared}{Y Y':aM}{ak:Heap}(G1:c.F=aA c'.outer)(kD:c.prog=c'.prog∧c.w=c'.w∧c.base=c'.base∧c.cls=c'.cls∧c.tk0=c'.tk0)(S:c.S Y e J s)(O0:∀ b o,s.heap.get? b=some o->ak.get? b=some o)(hL:c'.f.env.frame=some c'.f.L)(hn:∀ b,c'.f.own b->s.heap.get? b=none)
  (P:c'.PO Y ak Y' s'.heap) (S':c'.S Y' e' J' s'):c.P Y s.heap Y' s'.heap∧c.S Y' e J' s':=by
 have hF:c'.F=c'.f.L::c.F:=by
  show aA (c'.f.env::c'.outer)=_;unfold aA;rw [List.filterMap_cons,hL,G1];rfl
 have P0:a7 c'.F c'.f.own Y s.heap Y' s'.heap:=(a7.other O0).trans P;have P1:a7 c.F c'.f.own Y s.heap Y' s'.heap:=by
  rw [hF] at P0;exact P0.less (hn _ (.inl rfl))
 have P2:c.P Y s.heap Y' s'.heap:=⟨P1.pre,P1.fresh,P1.oX,P1.fS,fun b o eo n _ f=>P1.keep b o eo n (fun w=>af (hn b w) eo) f,fun b o eo n _=>P1.slot b o eo n (fun w=>af (hn b w) eo)⟩;obtain ⟨e1,e2,e3,e4,e5⟩:=kD;have sim:m7 c.prog c.w c.base c.cls Y' J' s'.heap:=by rw [e1,e2,e3,e4]; exact S'.sim
 have stays:c.base.StaysIn s'.heap:=by rw [e3]; exact S'.stays
 exact ⟨P2,⟨S.toSt.move P2 stays sim,S'.pos,S'.mY,by rw [e5]; exact S'.sU⟩⟩
structure LV (s:Shared)(F:G9)(np:Nat)(vals:List Value)(fm:Fm)(ak:Heap):Prop where
 sc:fm.scope=F.fd.scope
 kp:Kp s.heap ak
 own:∀ b,fm.own b->s.heap.get? b=none
 V:ba fm F.vars
 ns:∃ m,ak.Ns fm.L m
 CI:∀ x c,fm.cells.lookup x=some c->∃ v,ak.IsCell c v
 ev:∀ i v,i<np->vals[i]?=some v->∃ x,F.vars[i]?=some x∧fm.val ak x v
set_option backward.match.sparseCases true in
theorem enter {A:Around}{s:Shared}{k:Nat}{fd:aD}{F:G9}{vals:List Value}{R:Result->Shared->Prop}(O:fk G)(K:th G.base t k fd F)(kD:G.base.StaysIn s.heap)(hd:A.depth<recursionLimit)(V2:vals.length=fd.np)
  (H:∀ fm ak tk,s.toks<=tk->LV s F fd.np vals fm ak->wpAny (model G.prog G.w) (A.deeper fm.env) (execs F.body fm.env) (fun f s'=>R (.ok (.ret (match f with | .ret v=>v | _=>.none))) s')
   (fun e s'=>wpAny (model G.prog G.w) (A.deeper fm.env) (leaving fm.env e) (fun _ Cw=>R (.error e) Cw) (fun e' Cw=>R (.error e') Cw) s') { s with heap:=ak,toks:=tk }):codeAny (model G.prog G.w) A (.call (.ref F.a) ⟨vals,[]⟩) R s:=by
 refine codeAny_call_function hd (kD _ _ K.at_) K.data K.co K.gen K.body (K.code.keeps kD) ?_;rw [K.bind vals V2];refine wpAny_pure ?_;rw [K.SP,K.glob,K.SU];have cells:∀ {y:Str},F.fd.scope.names.lookup y=some .cell->∃ cc,(cellsFrom (s.heap.objs.size+1) F.fd.scope.names []).lookup y=some cc:=fun q=>Option.isSome_iff_exists.mp (mI _ _ _ q);refine wpAny_with_toks (Aj _) (wpAny_newFunctionEnv_cells K.kind (fun x hx=>?_) fun XO he s' x uE=>?_)
 ·exact (K.var x.1 (List.mem_of_mem_take ((List.of_mem_zip (a:=x.1) (b:=x.2) hx).1))).imp id fun q=>⟨q,mI _ _ _ q⟩
 subst he;obtain ⟨ak,tk,rfl,_⟩:=x.done;have O0:=x.toInCall.keep;refine ⟨(O.lim.keeps kD).keeps O0,codeAny_func (H ⟨F.fd.qualname,F.fd.scope,s.heap.objs.size,F.a,F.fd.code,cellsFrom (s.heap.objs.size+1) F.fd.scope.names []⟩ ak tk uE ⟨rfl,O0,?_,?_,⟨_,x.toInCall.ns⟩,fun y cc hc=>⟨_,x.cell y cc hc⟩,?_⟩)⟩
 ·rintro b (rfl | ⟨y,hy⟩)
  ·exact fO _
  ·exact Heap.get?_none_of_le (Nat.le_of_lt (x.above y b (mem_of_lookup hy)))
 ·exact ⟨K.kind,fun y hy=>(K.var y hy).imp id fun q=>⟨q,cells q⟩,K.nodup,fun y z cc h1 h2=>name_of_addr x.apart (mem_of_lookup h1) (mem_of_lookup h2),fun y cc h1=>Nat.ne_of_gt (x.above y cc (mem_of_lookup h1)),K.Pf⟩
 ·intro i v hi hv;have Wy:i<F.vars.length:=An hi K.np;have yw:F.vars[i]?=some F.vars[i]:=List.getElem?_eq_getElem Wy;have TZ:(F.vars.take fd.np)[i]?=some F.vars[i]:=by rw [List.getElem?_take,if_pos hi]; exact yw
  have TH:(F.vars.take fd.np).Nodup:=K.nodup.sublist (List.take_sublist _ _);refine ⟨_,yw,?_⟩;rcases K.var _ (List.mem_of_getElem? yw) with q | q
  ·exact .inl ⟨q,_,x.toInCall.ns,xM q _ _ _ i TH TZ hv⟩
  ·obtain ⟨cc,G1⟩:=cells q;have kg:=x.cell F.vars[i] cc G1;rw [xO q _ _ _ i TH TZ hv] at kg;exact .inr ⟨q,cc,G1,kg⟩
theorem LV.cs {s:Shared}{fd:aD}{F:G9}{vs:List AV}{vals:List Value}{fm:Fm}{ak:Heap}{k tk:Nat}{Y:aM}{J:ae}{outer:List Env}(Fr:LV s F fd.np vals fm ak)(K:th G.base t k fd F)(kD:G.base.StaysIn s.heap)(sim:m7 G.prog G.w G.base G.cls Y J s.heap)(rs:bl G.base s.heap Y vs vals)(hlen:vs.length=fd.np)
  (So:s.heap.FunFrames G.base outer) (Sd:∀ b∈aA outer,b∉bP Y) (Sq:∀ b∈aA outer,∃ o es n,s.heap.get? b=some o∧o.data=.dict es n) (tc:0<s.toks) (R7:∀ t,s.toks<=t->Y.tk t=none) (Sk:∀ t x,G.tk0 t=some x->Y.tk t=some x) (uE:s.toks<=tk) :
  (G.at fm F.vars outer).S Y (fun i=>vs[i]?) J { s with heap:=ak,toks:=tk }:=by
 have Gv:∀ b,fm.own b->G.base.get? b=none:=fun b hb=>by
  cases q:G.base.get? b with
  | none=>rfl
  | some o=>exact af (Fr.own b hb) (kD _ _ q)
 have Ms:∀ b,fm.own b->b∉bP Y:=fun b hb m=>by
  obtain ⟨o,ho,_⟩:=sim.lt m;exact af (Fr.own b hb) ho
 refine ⟨⟨gS kD Fr.kp,sim.qR Fr.kp.fS fun b o _ eo=>Fr.kp b o eo,Fr.ns,Fr.CI,fun i a ei=>?_,?_,Ms,fun b hb=>?_,Gv,fun b hb=>?_⟩,An tc uE,fun t ht=>R7 t (Aa uE ht),Sk⟩
 ·obtain ⟨v,hv,rv⟩:=rs.get ei;obtain ⟨x,h1,h2⟩:=Fr.ev i v (hlen▸(Ai ei).1) hv;exact ⟨x,v,h1,h2,RV.mono Fr.kp.fS (aM.Le.refl _) _ _ rv⟩
 ·obtain ⟨m,hn⟩:=Fr.ns;exact .cons (by show fm.scope.kind≠_; rw [Fr.sc,K.kind]; decide) rfl hn (Gv _ (.inl rfl)) (So.of_keeps fun b o eo _=>⟨o,Fr.kp b o eo,rfl⟩)
 ·rcases List.mem_cons.mp (show b∈fm.L::aA outer from hb) with q | q
  ·exact q▸Ms _ (.inl rfl)
  ·exact Sd b q
 ·rcases List.mem_cons.mp (show b∈fm.L::aA outer from hb) with q | q
  ·obtain ⟨m,o,es,ep,ho,GZ,_⟩:=Fr.ns;exact ⟨o,es,ep,q▸ho,GZ⟩
  ·obtain ⟨o,es,nn,ho,GZ⟩:=Sq b q;exact ⟨o,es,nn,Fr.kp b o ho,GZ⟩
theorem LV.run {s:Shared}{fd:aD}{F:G9}{vals:List Value}{fm:Fm}{ak:Heap}{k d u:Nat}{C:Calls}{outer:List Env}(Fr:LV s F fd.np vals fm ak)(K:th G.base t k fd F)(O:fk G)(NO:iL G T t.nm mg mb)(CO:iq (G.at fm F.vars outer) C t.nm.fa (d+2) (u+10))(hu:u+100<cLine):sY (G.at fm F.vars outer) T C d u fd.body F.body:=by
 have OT:(G.at fm F.vars outer).f.scope=F.fd.scope:=Fr.sc;have:=FT (t:=t) (vars:=F.vs) (⟨O.at ..,NO.at ..,Fr.V,CO,hu⟩:Pm (G.at fm F.vars outer) T C t.nm mg mb d u) rfl fd.body F.body (OT▸K.good);rw [OT,K.tree] at this;exact this
theorem Cg (O:fk G)(NO:iL G T t.nm mg mb)(FD:∀ k d,D k=some d->∃ F,th G.base t k d F):∀ n d u f vars outer,d+3*n+3<=recursionLimit->u+13*n+120<cLine->iq (G.at f vars outer) (aj T D n) t.nm.fa d u:=by
 intro n
 induction n with
 | zero=>intro d u f vars outer _ _ k vs J Q X h; exact h.elim
 | succ n ih=>
  intro d u f vars outer hd hu k vs J Q X h;obtain ⟨fd,hD,hlen,h⟩:=h;obtain ⟨F,K⟩:=FD k fd hD;refine ⟨F.a,K.fa,?_⟩;intro A e s Y vals R hA S rs HV HX;refine enter (G:=G) O K S.stays (Ao hA.depth (An (Nat.lt_add_of_pos_right (by decide:0<3)) (Aa (Al (Af _ _) 3) hd))) (rs.length▸hlen) fun fm ak tk uE Fr=>?_;have S1:=Fr.cs (G:=G) K S.stays S.sim rs hlen S.wt S.wJ S.C2 S.pos S.mY S.sU uE;have K7:m9 (G.at fm F.vars (f.env::outer)) (d+1) (u+3) (A.deeper fm.env):=by
   refine ⟨?_,hA.hand,Au hA.depth,Al hA.units 3⟩;show A.frames.map (fm.env::·)=_;rw [hA.wt]; rfl
  have HN:bx s { s with heap:=ak,toks:=tk }:=⟨rfl,rfl,rfl,uE⟩;refine Fr.run K O NO (ih _ _ _ _ _ (by show d+3+3*n+3<=_; rw [Aw d 3]; exact hd) (by show u+13+13*n+120<_; rw [Aw u 13]; exact hu)) (Ao (show u+103<=u+13*(n+1)+120 from Aq (Af u _) (by decide)) hu) (A.deeper fm.env) (fun i=>vs[i]?) J _ Y _ _ _ _ K7 PassesOwn.leaving h S1 ?_ ?_
  ·intro fl f' s2 Y2 e2 J2 b7 P2 S2 r2 q2;obtain ⟨PB,SB⟩:=back (c:=G.at f vars outer) (c':=G.at fm F.vars (f.env::outer)) rfl ⟨rfl,rfl,rfl,rfl,rfl⟩ S Fr.kp rfl Fr.own P2 S2;cases fl with
   | next=>cases (r2:f'=.next); exact HV _ s2 Y2 .none J2 (HN.trans b7) PB SB i7 q2
   | brk=>exact q2.elim
   | cont=>exact q2.elim
   | ret a=>obtain ⟨v,rfl,rv⟩:=r2; exact HV _ s2 Y2 _ J2 (HN.trans b7) PB SB rv q2
  ·intro ex s2 Y2 e2 J2 b7 P2 S2 x2 q2;refine qr (base:=G.base) K7.wt S2.wt rfl P2.oX x2 fun h3 x3 N3=>?_;have S3:=lY S1 S2 N3;have P3:=N3.Px (dh S2.C2) P2;obtain ⟨PB,SB⟩:=back (c:=G.at f vars outer) (c':=G.at fm F.vars (f.env::outer)) (s':={ s2 with heap:=h3 }) rfl ⟨rfl,rfl,rfl,rfl,rfl⟩ S Fr.kp rfl Fr.own P3 S3;exact HX ex _ Y2 J2 (HN.trans (b7.trans ⟨rfl,rfl,rfl,Aj _⟩)) PB SB (x3.pre (m8.keeps Fr.kp)) q2
theorem Il (O:fk G)(NO:iL G T t.nm mg mb)(FD:∀ k d,D k=some d->∃ F,th G.base t k d F){n k:Nat}{vs:List AV}{vals:List Value}{Q:QV}{A:Around}{s:Shared}{R:Result->Shared->Prop}{a:Addr}
  (hb:G.base=s.heap) (sW:A.frames=some []) (NM:A.handled=none) (hd:A.depth+3*n+10<=recursionLimit) (hu:A.units+13*n+200<cLine) (tc:0<s.toks) (R9:∀ t,s.toks<=t->G.tk0 t=none)
  (ha:t.nm.fa k=some a) (h:aj T D (n+1) k vs [] Q (fun _=>False)) (rs:bl G.base s.heap ⟨[],G.tk0⟩ vs vals)
  (HV:∀ v s' a J' Y',bx s s'->G.base.StaysIn s'.heap->RV G.base s'.heap Y' a v->Q a J'->R (.ok (.ret v)) s'):codeAny (model G.prog G.w) A (.call (.ref a) ⟨vals,[]⟩) R s:=by
 obtain ⟨fd,hD,hlen,h⟩:=h;obtain ⟨F,K⟩:=FD k fd hD;cases Ag (ha.symm.trans K.fa);have kD:G.base.StaysIn s.heap:=hb▸fun _ _ e=>e;refine enter O K kD (An (Nat.lt_add_of_pos_right (by decide:0<10)) (Aa (Al (Af _ (3*n)) 10) hd)) (rs.length▸hlen) fun fm ak tk uE Fr=>?_;have S1:=Fr.cs (outer:=[]) (Y:=⟨[],G.tk0⟩) (J:=[]) K kD ⟨rfl,fun _ _ _ h=>af List.getElem?_nil h,fun _ _ _ _ _ h=>af List.getElem?_nil h,fun _ _ h=>af List.getElem?_nil h,fun _ h=>absurd h List.not_mem_nil⟩ rs hlen trivial (fun _ h=>absurd h List.not_mem_nil) (fun _ h=>absurd h List.not_mem_nil) tc R9 (fun _ _ e=>e) uE;have K7:m9 (G.at fm F.vars []) (A.depth+1) (A.units+3) (A.deeper fm.env):=by
  refine ⟨?_,NM,Aj _,Aj _⟩;show A.frames.map (fm.env::·)=_;rw [sW]; rfl
 refine Fr.run (u:=A.units+3) K O NO (Cg O NO FD n _ _ _ _ _ (by show A.depth+3+3*n+3<=_; rw [Aw A.depth 3]; exact Aa (Ak (by decide:6<=10) _) hd) (by show A.units+13+13*n+120<_; rw [Aw A.units 13]; exact Ao (Ak (by decide:133<=200) _) hu)) (Ao (show A.units+103<=A.units+13*n+200 from Aq (Af A.units (13*n)) (by decide)) hu) (A.deeper fm.env) (fun i=>vs[i]?) [] _ ⟨[],G.tk0⟩ _ _ _ _ K7 PassesOwn.leaving h S1 ?_ ?_
 ·intro fl f' s2 Y2 e2 J2 b7 P2 S2 r2 q2;have hs:=(show bx s { s with heap:=ak,toks:=tk } from ⟨rfl,rfl,rfl,uE⟩).trans b7;cases fl with
  | next=>cases (r2:f'=.next); exact HV _ s2 .none J2 Y2 hs S2.stays i7 q2
  | brk=>exact q2.elim
  | cont=>exact q2.elim
  | ret a=>obtain ⟨v,rfl,rv⟩:=r2; exact HV _ s2 _ J2 Y2 hs S2.stays rv q2
 ·exact fun ex s2 Y2 e2 J2 b7 P2 S2 x2 q2=>q2.elim
end
open PySem PySem.Calls PyProof.Rows PySem.SeqAt PySem.W
universe uu
noncomputable def Pq (α:Type uu):Nat->Type uu
 | 0=>α
 | n+1=>Value->Pq α n
noncomputable def cur {α:Type uu}:(n:Nat)->(List Value->α)->Pq α n
 | 0,f=>f []
 | n+1,f=>fun v=>cur n fun vs=>f (v::vs)
theorem GC {α:Type uu}:∀ {n:Nat} {f g:List Value->α},cur n f=cur n g->∀ vs,vs.length=n->f vs=g vs
 | 0,f,g,h,vs,e=>by
  cases List.length_eq_zero_iff.mp e;exact h
 | n+1,f,g,h,vs,e=>by
  cases vs with
  | nil=>cases e
  | cons v vs=>exact GC (n:=n) (congrFun h v) vs (Nat.succ.inj e)
noncomputable def Ph (v:Value):Option Addr:=match v with
 | .ref a=>some a
 | _=>none
theorem zE {v:Value}{a:Addr}(h:Ph v=some a):v=.ref a:=by
 cases v with
 | ref b=>cases Ag h; rfl
 | _=>exact af rfl h
noncomputable def Ut (d:Data):Option (Array Value):=match d with
 | .fields vs=>some vs
 | _=>none
theorem NS {d:Data}{vs:Array Value}(h:Ut d=some vs):d=.fields vs:=by
 cases d with
 | fields b=>cases Ag h; rfl
 | _=>exact af rfl h
noncomputable def LK (d:Data):Option FuncData:=match d with
 | .func f=>some f
 | _=>none
theorem Gy {d:Data}{f:FuncData}(h:LK d=some f):d=.func f:=by
 cases d with
 | func b=>cases Ag h; rfl
 | _=>exact af rfl h
noncomputable def Tj (v:Value):Option Str:=match v with
 | .str s _=>some s
 | _=>none
theorem Nc {v:Value}{s:Str}(h:Tj v=some s):∃ t,v=.str s t:=by
 cases v with
 | str b t=>cases Ag h; exact ⟨t,rfl⟩
 | _=>exact af rfl h
noncomputable def codeB (K:Frag)(cd:Value)(q:Str):Bool:=eH (Ph cd) fun a=>eH (K.lookup a) fun o=>eH (Ut o.data) fun vs=>eH vs.toList[1]? fun v=>eH (Tj v) fun s=>seq s q
theorem E7 {K:Frag}{base:Heap}(X:K.In base){cd:Value}{q:Str}(h:codeB K cd q=true):base.CodeRec cd q:=by
 obtain ⟨a,e1,h⟩:=aR h;obtain ⟨o,e2,h⟩:=aR h;obtain ⟨vs,e3,h⟩:=aR h;obtain ⟨v,e4,h⟩:=aR h;obtain ⟨s,e5,h⟩:=aR h;cases ka h;obtain ⟨t,rfl⟩:=Nc e5;rw [Array.getElem?_toList] at e4;exact ⟨a,o,vs,t,zE e1,X _ _ e2,NS e3,e4⟩
noncomputable def bodyOf (b:FuncBody):List Stmt:=match b with
 | .stmts l=>l
 | _=>[]
noncomputable def Mk (b:FuncBody):Bool:=match b with
 | .stmts _=>true
 | _=>false
theorem Ju {b:FuncBody}(h:Mk b=true):b=.stmts (bodyOf b):=by
 cases b with
 | stmts _=>rfl
 | expr _=>cases h
noncomputable def Hg:List Arg->List Tx->Bool
 | [],[]=>true
 | a::as,x::xs=>aB x (tl a.arg)&&Hg as xs
 | _,_=>false
theorem zI:∀ {as:List Arg} {xs:List Tx},Hg as xs=true->as.map (·.arg)=xs.map aE
 | [],[],_=>rfl
 | [],_::_,h=>by cases h
 | _::_,[],h=>by cases h
 | a::as,x::xs,h=>by
  obtain ⟨h1,h2⟩:=ah h;rw [List.map_cons,List.map_cons,zI h2,a6.mp h1,gL]
noncomputable def Rx (sc:Scope) (x:Tx):Bool:=(CC (aE x) sc.names .local||CC (aE x) sc.names .cell)&&!(seq (aE x) "__debug__")
noncomputable def Qw (K:Frag)(t:Tb)(k:Nat)(d:aD)(vs:List Tx):Bool:=eH t.fa[k]? fun a=>eH (K.lookup a) fun o=>eH (LK o.data) fun fd=>
 Mk fd.body&&(fd.closure.isEmpty&&(Nat.beq fd.globals mainGlobals&&(Nat.beq fd.builtins builtinsNs&&(!fd.scope.isCoroutine&&(!fd.scope.isGenerator&&(decide (fd.scope.kind=.function) &&
  (codeB K fd.code fd.qualname&&(Hg fd.params.args (vs.take d.np)&&(Nat.ble d.np vs.length&&(decide vs.Nodup&&vs.all (Rx fd.scope)))))))))))
noncomputable def Dw (K:Frag)(t:Tb)(k:Nat):FuncData:=(((t.fa[k]?).bind fun a=>K.lookup a).bind fun o=>LK o.data).getD default
abbrev yn:=Scope×Arguments×List Stmt
noncomputable def Tv (fd:FuncData):yn×Value×Value:=((fd.scope,fd.params,bodyOf fd.body),fd.defaults,fd.kwdefaults)
noncomputable def PC (q:Str)(p:Arguments)(v w:Value):FuncData:={ (default:FuncData) with qualname:=q,params:=p,defaults:=v,kwdefaults:=w }
structure LW (K:Frag)(t:Tb)(k:Nat)(d:aD)(vs:List Tx)(p:yn):Prop where
 b:Qw K t k d vs=true
 e:Tv (Dw K t k)=(p,Value.none,Value.none)
 a:∀ q,cur d.np (fun vs=>bindArgs (PC q p.2.1 .none .none) ⟨vs,[]⟩)=cur d.np fun vs=>pure ((p.2.1.args.map (·.arg)).zip vs)
 tr:jw p.1 d.body p.2.2=p.2.2
 g:jy p.1 t vs d.body p.2.2=true
theorem xm {l:List Tx}(h:l.Nodup):(l.map aE).Nodup:=List.pairwise_map.mpr (h.imp fun fG q=>fG (ig q))
theorem LW.ok {K:Frag}{base:Heap}(X:K.In base){t:Tb}{k:Nat}{d:aD}{vs:List Tx}{p:yn}(H:LW K t k d vs p):∃ F,th base t k d F:=by
 obtain ⟨h,he,hb,ht,hg⟩:=H;obtain ⟨a,e1,h⟩:=aR h;obtain ⟨o,e2,h⟩:=aR h;obtain ⟨fd,e3,h⟩:=aR h;have e:Dw K t k=fd:=by unfold Dw; rw [e1,Option.bind_some,e2,Option.bind_some,e3]; rfl
 rw [e] at he;have e5:(fd.scope,fd.params,bodyOf fd.body)=p:=congrArg Prod.fst he;have e6:fd.defaults=.none:=congrArg (·.2.1) he;have e7:fd.kwdefaults=.none:=congrArg (·.2.2) he;cases e5;have hb:cur d.np (fun vs=>bindArgs fd ⟨vs,[]⟩)=cur d.np fun vs=>pure ((fd.params.args.map (·.arg)).zip vs):=by
  have q:cur d.np (fun vs=>bindArgs (PC fd.qualname fd.params fd.defaults fd.kwdefaults) ⟨vs,[]⟩)=cur d.np fun vs=>pure ((fd.params.args.map (·.arg)).zip vs):=by rw [e6,e7]; exact hb fd.qualname
  exact q
 obtain ⟨h1,h⟩:=ah h;obtain ⟨h4,h⟩:=ah h;obtain ⟨h5,h⟩:=ah h;obtain ⟨h6,h⟩:=ah h;obtain ⟨h7,h⟩:=ah h;obtain ⟨h8,h⟩:=ah h;obtain ⟨h9,h⟩:=ah h;obtain ⟨ib,h⟩:=ah h;obtain ⟨C1,h⟩:=ah h;obtain ⟨yi,h⟩:=ah h;obtain ⟨FF,yg⟩:=ah h;have nd:=xm (Ax FF);have Wi:=Ad yi;refine ⟨⟨a,o,fd,bodyOf fd.body,vs⟩,e1,X _ _ e2,Gy e3,Ju h1,List.isEmpty_iff.mp h4,As h5,As h6,(Bool.not_eq_true' _).mp h7,(Bool.not_eq_true' _).mp h8,Ax h9,E7 X ib,Ah (f:=aE)▸Wi,fun ws hw=>?_,nd,fun x hx=>?_,fun x hx=>?_,ht,hg⟩
 ·rw [GC hb ws hw,zI C1,List.map_take]
 ·obtain ⟨y,hy,rfl⟩:=List.mem_map.mp hx;exact (Bool.or_eq_true_iff.mp (ah (List.all_eq_true.mp yg y hy)).1).imp i3 i3
 ·obtain ⟨y,hy,rfl⟩:=List.mem_map.mp hx;exact u0 (ah (List.all_eq_true.mp yg y hy)).2
open PySem PySem.Calls PyProof.Rows PySem.SeqAt PySem.W
structure Sp where
 t:Tb
 zx:List AV
 yX:List Addr
 ND:List (Option Nat)
 bX:List (Option Nat)
 defs:List (aD×List Tx)
noncomputable def Sp.cp (s:Sp):aQ:=⟨fun i=>s.zx[i]?,fun i=>(s.ND[i]?).join,fun k=>(s.bX[k]?).join⟩
noncomputable def Sp.D (s:Sp):Nat->Option aD:=fun k=>(s.defs[k]?).map (·.1)
noncomputable def KZ (l:List (Nat×Tx))(t:Nat):Option Tx:=match l with
 | []=>none
 | (u,x)::r=>cond (Nat.beq u t) (some x) (KZ r t)
noncomputable def Tq (v:Value):Option (Str×Nat):=match v with
 | .str s t=>some (s,t)
 | _=>none
theorem Ni {v:Value}{p:Str×Nat}(h:Tq v=some p):v=.str p.1 p.2:=by
 cases v with
 | str _ _=>cases Ag h; rfl
 | _=>exact af rfl h
noncomputable def TR (v:Value):Option Int:=match v with
 | .int i _=>some i
 | _=>none
theorem NF {v:Value}{i:Int}(h:TR v=some i):∃ t,v=.int i t:=by
 cases v with
 | int _ t=>cases Ag h; exact ⟨t,rfl⟩
 | _=>exact af rfl h
noncomputable def Ou (v:Value):Option String:=match v with
 | .type i=>some i
 | _=>none
theorem y9 {v:Value}{i:String}(h:Ou v=some i):v=.type i:=by
 cases v with
 | type _=>cases Ag h; rfl
 | _=>exact af rfl h
noncomputable def UQ (v:Value):Option String:=match v with
 | .builtin i=>some i
 | _=>none
theorem Oa {v:Value}{i:String}(h:UQ v=some i):v=.builtin i:=by
 cases v with
 | builtin _=>cases Ag h; rfl
 | _=>exact af rfl h
noncomputable def US (v:Value):Option Bool:=match v with
 | .bool i=>some i
 | _=>none
theorem Ob {v:Value}{i:Bool}(h:US v=some i):v=.bool i:=by
 cases v with
 | bool _=>cases Ag h; rfl
 | _=>exact af rfl h
theorem B5 {v:Value}(h:isNone v=true):v=.none:=by
 cases v with
 | none=>rfl
 | _=>exact (Bool.false_ne_true h).elim
noncomputable def Tp (d:Data):Option (Array Value×Nat):=match d with
 | .seq a n=>some (a,n)
 | _=>none
theorem Nf {d:Data}{p:Array Value×Nat}(h:Tp d=some p):d=.seq p.1 p.2:=by
 cases d with
 | seq _ _=>cases Ag h; rfl
 | _=>exact af rfl h
section
variable (K:Frag)(tk:List (Nat×Tx))
noncomputable def Hm (T:String)(v:Value)(P:List Value->Bool):Bool:=eH (Ph v) fun a=>eH (K.lookup a) fun o=>eH (Ou o.cls) fun c=>eH (Tp o.data) fun p=>decide (c=T)&&(o.dict.isNone&&(o.slots.isEmpty&&P p.1.toList))
theorem zS {T:String}{v:Value}{P:List Value->Bool}(h:Hm K T v P=true):∃ a items n,v=.ref a∧K.lookup a=some ⟨.type T,none,.seq items n,#[]⟩∧P items.toList=true:=by
 obtain ⟨a,e1,h⟩:=aR h;obtain ⟨⟨o1,o2,o3,o4⟩,e2,h⟩:=aR h;obtain ⟨c,e3,h⟩:=aR h;obtain ⟨p,e4,h⟩:=aR h;obtain ⟨h1,h⟩:=ah h;obtain ⟨h2,h⟩:=ah h;obtain ⟨h3,h4⟩:=ah h;have e:(⟨o1,o2,o3,o4⟩:Obj)=⟨.type T,none,.seq p.1 p.2,#[]⟩:=by
  rw [show o1=.type T from (y9 e3).trans (congrArg Value.type (Ax h1)),show o2=none from Option.isNone_iff_eq_none.mp h2,show o3=_ from Nf e4,show o4=#[] from Array.isEmpty_iff.mp h3]
 exact ⟨a,p.1,p.2,zE e1,e2.trans (congrArg some e),h4⟩
mutual
noncomputable def PG:AV->Value->Bool
 | .none,v=>isNone v
 | .bool b,v=>eH (US v) fun c=>decide (b=c)
 | .int i,v=>eH (TR v) fun j=>decide (i=j)
 | .str x,v=>eH (Tq v) fun p=>aB x (tl p.1)&&(Nat.ble x.length 2000&&(!(Nat.beq p.2 0)&&eH (KZ tk p.2) (aB x)))
 | .tup vs,v=>Hm K "tuple" v fun l=>Nat.ble vs.length 2000&&wC vs l
 | .jr vs,v=>Hm K "list" v fun l=>Nat.ble vs.length 2000&&wC vs l
 | .obj _,_=>false
 | .j6 _ _ _,_=>false
 | .cp _,_=>false
noncomputable def wC:List AV->List Value->Bool
 | [],[]=>true
 | x::xs,v::vs=>PG x v&&wC xs vs
 | _,_=>false
end
end
theorem tQ {n:Nat}(q:Nat.ble n 2000=true):n<=lid:=Aa (Ad q) (Ar 2000 998000)
theorem II {K:Frag}{tk:List (Nat×Tx)}{base h:Heap}{Y:aM}(X:K.In base)(hs:base.StaysIn h)(ht:∀ t x,KZ tk t=some x->Y.tk t=some x)(a:AV):∀ v,PG K tk a v=true->RV base h Y a v:=by
 induction a using AV.rec (motive_2:=fun as=>∀ vs,wC K tk as vs=true->bl base h Y as vs) with
 | none=>exact fun v hv=>B5 hv
 | bool b=>
  intro v hv;obtain ⟨c,e,hv⟩:=aR hv;cases Ax hv;exact Ob e
 | int i=>
  intro v hv;obtain ⟨c,e,hv⟩:=aR hv;cases Ax hv;exact NF e
 | str s=>
  intro v hv;obtain ⟨p,e,hv⟩:=aR hv;obtain ⟨h1,hv⟩:=ah hv;obtain ⟨h2,hv⟩:=ah hv;obtain ⟨h3,hv⟩:=ah hv;obtain ⟨y,h4,h5⟩:=aR hv;cases a6.mp h5;refine ⟨p.2,?_,tQ h2,fun q=>?_,ht _ _ h4⟩
  ·rw [a6.mp h1,gL]; exact Ni e
  ·rw [q] at h3; cases h3
 | tup vs ih=>
  intro v hv;obtain ⟨a,items,n,rfl,e,hv⟩:=zS K (T:="tuple") (P:=fun l=>Nat.ble vs.length 2000&&wC K tk vs l) hv
  obtain ⟨h1,h2⟩:=ah hv;exact ⟨a,items,rfl,⟨n,hs _ _ (X _ _ e)⟩,ih _ h2,tQ h1⟩
 | jr vs ih=>
  intro v hv;obtain ⟨a,items,n,rfl,e,hv⟩:=zS K (T:="list") (P:=fun l=>Nat.ble vs.length 2000&&wC K tk vs l) hv
  obtain ⟨h1,h2⟩:=ah hv;exact ⟨a,items,rfl,⟨n,X _ _ e⟩,ih _ h2,tQ h1⟩
 | obj r=>exact fun v hv=>(Bool.false_ne_true hv).elim
 | j6 a b c=>exact fun v hv=>(Bool.false_ne_true hv).elim
 | cp c=>exact fun v hv=>(Bool.false_ne_true hv).elim
 | nil=>
  rename_i vs hv
  cases vs with
  | nil=>exact (rfl:_=[])
  | cons _ _=>cases hv
 | cons x xs CU CV=>
  rename_i vs hv
  cases vs with
  | nil=>cases hv
  | cons v vs=>
   obtain ⟨h1,h2⟩:=ah hv;exact ⟨v,vs,rfl,CU _ h1,CV _ h2⟩
noncomputable def allB (f:Nat->Bool):Nat->Bool
 | 0=>true
 | n+1=>f n&&allB f n
theorem iU {f:Nat->Bool}:∀ {n k:Nat},allB f n=true->k<n->f k=true
 | n+1,k,h,hk=>by
  obtain ⟨h1,h2⟩:=ah h;rcases Nat.lt_or_eq_of_le (Nat.le_of_lt_succ hk) with q | rfl
  ·exact iU h2 q
  ·exact h1
theorem fR {α:Type}{l:List α}{i:Nat}{x:α}(h:l[i]?=some x):i<l.length:=(Ai h).1
noncomputable def yN (o:Option (Option Value)):Bool:=eH o fun v=>v.isNone
theorem jI {o:Option (Option Value)}(h:yN o=true):o=some none:=by
 obtain ⟨v,e,h⟩:=aR h;rw [e,Option.isNone_iff_eq_none.mp h]
noncomputable def isRef (o:Option (Option Value))(a:Addr):Bool:=eH o fun o=>eH o fun v=>eH (Ph v) fun b=>Nat.beq b a
theorem jd {o:Option (Option Value)}{a:Addr}(h:isRef o a=true):o=some (some (.ref a)):=by
 obtain ⟨o',e1,h⟩:=aR h;obtain ⟨v,e2,h⟩:=aR h;obtain ⟨b,e,h⟩:=aR h;cases As h;rw [e1,e2,zE e]
noncomputable def Dl (o:Option Value)(T:String):Bool:=eH o fun v=>eH (Ou v) fun s=>decide (s=T)
theorem AG {o:Option Value}{T:String}(h:Dl o T=true):o=some (.type T):=by
 obtain ⟨v,e1,h⟩:=aR h;obtain ⟨b,e,h⟩:=aR h;cases Ax h;rw [e1,y9 e]
noncomputable def Ml (o:Option (Option Value))(T:String):Bool:=eH o fun o=>eH o fun v=>eH (UQ v) fun s=>decide (s=T)
theorem Jv {o:Option (Option Value)}{T:String}(h:Ml o T=true):o=some (some (.builtin T)):=by
 obtain ⟨o',e1,h⟩:=aR h;obtain ⟨v,e2,h⟩:=aR h;obtain ⟨b,e,h⟩:=aR h;cases Ax h;rw [e1,e2,Oa e]
noncomputable def Pb {α:Type}(o:Option α)(N:Bool)(P:α->Bool):Bool:=match o with
 | none=>N
 | some x=>P x
section
variable (K:Frag)(s:Sp)(tk:List (Nat×Tx))
noncomputable def Tn (a:AV)(N:Bool)(P:Value->Bool):Bool:=match a with
 | .cp v=>P v
 | _=>N
noncomputable def gB (i:Nat):Bool:=eH s.t.gn[i]? fun x=>Pb s.zx[i]? true fun a=>Tn a (eH (nsIn K mainGlobals (aE x)) fun o=>eH o (PG K tk a)) fun v=>eH (Ou v) fun T=>((decide (T="int")&&seq (aE x) "int")||(decide (T="tuple")&&seq (aE x) "tuple"))&&yN (nsIn K mainGlobals (aE x))
noncomputable def fB (k:Nat):Bool:=eH s.t.fn[k]? fun x=>eH s.t.fa[k]? fun a=>Pb (s.cp.bX k)
 (isRef (nsIn K mainGlobals (aE x)) a&&eH (K.lookup a) fun o=>eH (LK o.data) fun _=>true)
 fun i=>eH s.yX[i]? fun C=>isRef (findIn K (.ref C) (aE x)) a&&(Dl (typeIn K (.ref a)) "function"&&(keepIn K (.ref a)&&(!(seq (atName .ts) (aE x))&&(!(seq (atName .pos) (aE x))&&!(seq (atName .code) (aE x))))))
noncomputable def Hr (C:Addr)(x:At):Bool:=yN (findIn K (.ref C) (atName x))
noncomputable def MC (C:Addr):Bool:=hasDictIn K C&&(plainGet K C ""&&(Ml (findIn K (.ref C) "__setattr__") "object.__setattr__"&&(plainOver K C&&(Hr K C .ts&&(Hr K C .pos&&Hr K C .code)))))
noncomputable def cB (i:Nat):Bool:=eH s.t.cn[i]? fun x=>eH s.yX[i]? fun C=>isRef (nsIn K mainGlobals (aE x)) C&&(makesIn K C&&(keepIn K (.ref C)&&Pb (s.cp.init i) true fun k=>eH s.t.fa[k]? fun a=>isRef (findIn K (.ref C) "__init__") a&&Dl (typeIn K (.ref a)) "function"))
noncomputable def pB (k:Nat):Bool:=!(s.t.nm.pl k)||(s.cp.bX k).isNone
noncomputable def bB:Bool:=([Bi.len,.str,.int,.abs,.range,.max,.sum,.tuple,.type,.list].all fun b=>yN (nsIn K mainGlobals (iS b)))&&(yN (nsIn K mainGlobals "ValueError")&&(K.lookup sysModules).isSome)
noncomputable def Oz:Bool:=allB (gB K s tk) s.t.gn.length&&(allB (fB K s) s.t.fn.length&&(allB (cB K s) s.t.cn.length&&(allB (pB s) s.t.pl.length&&(bB K&&s.yX.all (MC K)))))
end
noncomputable def zc (prog:Program)(w:World)(base:Heap)(K:Frag)(s:Sp)(tk:List (Nat×Tx)):Cx:=
 { prog:=prog,w:=w,base:=base,cls:=fun i=>s.yX[i]?,K:=K,tk0:=KZ tk,f:=⟨default,default,0,0,.none,[]⟩,vars:=[],outer:=[] }
section
variable {K:Frag}{s:Sp}{tk:List (Nat×Tx)}{base:Heap}{mg mb:Str->Option Value}
theorem Ku {C:Addr}(h:MC K C=true):GN K C:=by
 obtain ⟨h1,h⟩:=ah h;obtain ⟨h2,h⟩:=ah h;obtain ⟨h3,h⟩:=ah h;obtain ⟨h4,h⟩:=ah h;obtain ⟨h5,h⟩:=ah h;obtain ⟨h6,h7⟩:=ah h;refine ⟨h1,h2,Jv h3,h4,fun x=>?_⟩;cases x with
 | ts=>exact jI h5
 | pos=>exact jI h6
 | code=>exact jI h7
theorem Nd {a:AV}{N:Bool}{P:Value->Bool}(h:Tn a N P=true):N=true∨∃ v,a=.cp v∧P v=true:=by
 cases a with
 | cp v=>exact .inr ⟨v,rfl,h⟩
 | _=>exact .inl h
theorem Sy (X:K.In base) (hg:base.Ns mainGlobals mg) (G2:∀ x:Str,x≠"__name__"->mb x=bootBuiltins x) {i:Nat} {x:Str} {a:AV} (h:allB (gB K s tk) s.t.gn.length=true) (hx:s.t.nm.gn i=some x) (ha:s.zx[i]?=some a) :
  ∃ v,(mg x=some v∨(mg x=none∧mb x=some v))∧∀ h Y,(∀ t y,KZ tk t=some y->Y.tk t=some y)->base.StaysIn h->RV base h Y a v:=by
 obtain ⟨y,hy,rfl⟩:=Option.map_eq_some_iff.mp hx;obtain ⟨y',e1,h⟩:=aR (iU h (fR hy));cases Ag (hy.symm.trans e1);rw [ha] at h;rcases Nd h with h | ⟨v,rfl,h⟩
 ·obtain ⟨o,e2,h⟩:=aR h;obtain ⟨v,e3,h⟩:=aR h;exact ⟨v,.inl (mg_of X hg (e3▸e2)),fun h' Y hY hs=>II X hs hY _ _ h⟩
 ·obtain ⟨T,e2,h⟩:=aR h;obtain ⟨h1,h3⟩:=ah h;rcases Bool.or_eq_true_iff.mp h1 with h1 | h1
  all_goals
   obtain ⟨h1,h2⟩:=ah h1;cases Ax h1;cases y9 e2;rw [ka h2] at h3 ⊢;refine ⟨_,.inr ⟨mg_none_of X hg (jI h3),?_⟩,fun h Y _ _=>rfl⟩;rw [G2 _ (by decide +kernel)];decide +kernel
theorem Ng {prog:Program} {w:World} (X:K.In base) (hg:base.Ns mainGlobals mg) (hb:base.Ns builtinsNs mb) (lim:base.NoLimit) (G2:∀ x:Str,x≠"__name__"->mb x=bootBuiltins x) (h:Oz K s tk=true) (FD:∀ (k:Nat) d vs,s.defs[k]?=some (d,vs)->∃ p,LW K s.t k d vs p) :
  fk (zc prog w base K s tk)∧iL (zc prog w base K s tk) s.cp s.t.nm mg mb∧∀ k d,s.D k=some d->∃ F,th base s.t k d F:=by
 obtain ⟨h1,h⟩:=ah h;obtain ⟨h2,h⟩:=ah h;obtain ⟨h3,h⟩:=ah h;obtain ⟨h4,h⟩:=ah h;obtain ⟨h5,h6⟩:=ah h;obtain ⟨b1,h5⟩:=ah h5;obtain ⟨b2,b4⟩:=ah h5;have fn:∀ {k:Nat} {x:Str},s.t.nm.fn k=some x->∃ a,s.t.fa[k]?=some a∧Pb (s.cp.bX k) (isRef (nsIn K mainGlobals x) a&&eH (K.lookup a) fun o=>eH (LK o.data) fun _=>true)
   (fun i=>eH s.yX[i]? fun C=>isRef (findIn K (.ref C) x) a&&(Dl (typeIn K (.ref a)) "function"&&(keepIn K (.ref a)&&(!(seq (atName .ts) x)&&(!(seq (atName .pos) x)&&!(seq (atName .code) x))))))=true:=fun hx=>by
  obtain ⟨y,hy,rfl⟩:=Option.map_eq_some_iff.mp hx;obtain ⟨y',e1,h⟩:=aR (iU h2 (fR hy));cases Ag (hy.symm.trans e1);exact aR h
 refine ⟨⟨X,fun i C hC=>Ku (List.all_eq_true.mp h6 C (List.mem_of_getElem? hC)),?_,lim⟩,⟨hg,hb,fun i x a hx ha=>Sy X hg G2 h1 hx ha,fun k x hx hc=>?_,fun k x i C hx hc hC=>?_,fun i x hx=>?_,fun b=>⟨mg_none_of X hg (jI (List.all_eq_true.mp b1 b (List.mem_of_getElem? (i:=b.ctorIdx) (by cases b<;>rfl)))),?_⟩,fun k hk=>?_,⟨mg_none_of X hg (jI b2),?_⟩⟩,fun k d hd=>?_⟩
 ·obtain ⟨o,ho⟩:=Option.isSome_iff_exists.mp b4;show (base.get? sysModules).isSome=true;rw [X _ _ ho]; rfl
 ·obtain ⟨a,e1,h⟩:=fn hx;rw [hc] at h;obtain ⟨g1,g2⟩:=ah h;obtain ⟨o,e2,g2⟩:=aR g2;obtain ⟨fd,e3,_⟩:=aR g2;exact ⟨a,o,fd,e1,mg_of X hg (jd g1),X _ _ e2,Gy e3⟩
 ·obtain ⟨a,e1,h⟩:=fn hx;rw [hc] at h;obtain ⟨C',e2,h⟩:=aR h;cases Ag (e2.symm.trans hC);obtain ⟨g1,h⟩:=ah h;obtain ⟨g2,h⟩:=ah h;obtain ⟨g3,h⟩:=ah h;obtain ⟨g4,h⟩:=ah h;obtain ⟨g5,g6⟩:=ah h;refine ⟨a,e1,jd g1,AG g2,g3,fun y=>?_⟩;cases y with
  | ts=>exact qS g4
  | pos=>exact qS g5
  | code=>exact qS g6
 ·obtain ⟨y,hy,rfl⟩:=Option.map_eq_some_iff.mp hx;obtain ⟨y',e1,h⟩:=aR (iU h3 (fR hy));cases Ag (hy.symm.trans e1);obtain ⟨C,e2,h⟩:=aR h;obtain ⟨g1,h⟩:=ah h;obtain ⟨g2,h⟩:=ah h;obtain ⟨g3,h⟩:=ah h;refine ⟨C,e2,mg_of X hg (jd g1),g2,g3,fun k hk=>?_⟩;rw [hk] at h;obtain ⟨a,e3,h⟩:=aR h;obtain ⟨g4,g5⟩:=ah h;exact ⟨a,e3,jd g4,AG g5⟩
 ·cases b<;>(rw [G2 _ (by decide +kernel)]; decide +kernel)
 ·have gq:k<s.t.pl.length:=by
   cases q:s.t.pl[k]? with
   | some b=>exact fR q
   | none=>
    have hk:(s.t.pl[k]?).getD false=true:=hk;rw [q] at hk; cases hk
  rcases Bool.or_eq_true_iff.mp (iU h4 gq) with q | q
  ·rw [hk] at q; cases q
  ·exact Option.isNone_iff_eq_none.mp q
 ·rw [G2 _ (by decide +kernel)]; decide +kernel
 ·obtain ⟨⟨d',vs⟩,hq,rfl⟩:=Option.map_eq_some_iff.mp hd;obtain ⟨p,h⟩:=FD k d' vs hq;exact h.ok X
end
open PySem PySem.Calls PyProof.Rows PySem.SeqAt PySem.W PySem.W.X
theorem EG {base h:Heap}{Y:aM}{vs:List Value}{ns:List Int}(q:IntsAre vs ns):bl base h Y (ns.map .int) vs:=by
 induction q with
 | nil=>exact (rfl:_=[])
 | cons n t i ih=>exact ⟨_,_,rfl,bp,ih⟩
noncomputable def Pu (l:List (Nat×Tx))(m:Nat):Bool:=match l with
 | []=>true
 | (t,_)::r=>Nat.blt t m&&Pu r m
theorem M8 {l:List (Nat×Tx)}{m t:Nat}(h:Pu l m=true)(ht:m<=t):KZ l t=none:=by
 induction l with
 | nil=>rfl
 | cons p r ih=>
  have h:=ah h;show cond (Nat.beq p.1 t) _ _=_;cases e:Nat.beq p.1 t with
  | false=>exact ih h.2
  | true=>exact absurd (As e) (Nat.ne_of_lt (An (Ad h.1) ht))
theorem Er {K:Frag}{s:Sp}{tk:List (Nat×Tx)}{mg mb:Str->Option Value}{prog:Program}{w:World}{s0 s₁:Shared}{n k m:Nat}{a l:Addr}{vals:List Value}{bE:List Int}{RR:WRecords}{as:List Addr}{c:ClaimW}{cl:Str->Option Addr}{Me:ExcName->Option Value}{args:List WData}
  (X:K.In s₁.heap) (hg:s₁.heap.Ns mainGlobals mg) (hb:s₁.heap.Ns builtinsNs mb) (lim:s₁.heap.NoLimit) (G2:∀ x:Str,x≠"__name__"->mb x=bootBuiltins x)
  (h1:Oz K s tk=true) (h5:∀ (k:Nat) d vs,s.defs[k]?=some (d,vs)->∃ p,LW K s.t k d vs p) (h7:Pu tk m=true)
  (hm:0<m) (L:Laid RR w s0 s₁ [ofPy (PyData.list (bE.map PyData.int))] [.ref l] as) (hL:s₁.heap.IsList l vals.toArray) (hI:IntsAre vals bE) (hlen:bE.length<=63) (ZT:s0.toks=m) (NN:s₁.gens=#[])
  (hn:n<=200) (ha:s.t.fa[k]?=some a) (JY:∀ cls,c.raises args cls=false) (NJ:c.post args (.bool true) args=true)
  (h:aj s.cp s.D (n+1) k [.jr (bE.map .int)] [] (fun a _=>a=.bool true) (fun _=>False)) :
  wpAny (model prog w) callerA (call (.ref a) [.ref l]) (fun v s'=>GoodWG c cl Me args s₁ (.ok (.ret v)) s') (fun e s'=>GoodWG c cl Me args s₁ (.error e) s') s₁:=by
 have ht:m<=s₁.toks:=script_toks L ZT;have ho:=script_obj L hL;obtain ⟨O,NO,FD⟩:=Ng (prog:=prog) (w:=w) X hg hb lim G2 h1 h5;refine enter_call ?_;refine Il (G:=zc prog w s₁.heap K s tk) O NO FD (n:=n) (k:=k) rfl rfl rfl (by show (1+claimMargin)+3*n+10<=recursionLimit; simp only [claimMargin,recursionLimit]; lia) (by show 4+13*n+200<cLine; simp only [cLine]; lia) (An hm ht)
  (fun t hq=>M8 h7 (Aa ht hq)) ha h (.one ⟨l,vals.toArray,rfl,⟨0,ho⟩,EG hI,?_⟩) ?_
 ·rw [Ah]; exact Aa hlen (Ar 63 999937)
 intro v s' b J' Y' hs st rv q;cases q;cases (rv:v=.bool true);refine GoodW.toG ⟨.inl ⟨_,.bool true,[],rfl,JY,.bool true,NJ,fun _=>⟨List.nodup_nil,fun a ha=>by simp at ha⟩⟩,st,hs.2.2.1,?_⟩;rw [hs.1,NN]
open PySem
noncomputable def W6:List AV:=[.jr [.str [112,114,111,103,114,97,109],.str [118,97,114],.str [105,110,116,101,103,101,114],.str [97,114,114,97,121],.str [111,102],.str [112,114,111,99,101,100,117,114,101],.str [98,101,103,105,110],.str [101,110,100],.str [105,102],.str [116,104,101,110],.str [101,108,115,101],.str [119,104,105,108,101],.str [100,111],.str [114,101,112,101,97,116],.str [117,110,116,105,108],.str [102,111,114],.str [116,111],.str [100,111,119,110,116,111],.str [119,114,105,116,101],.str [100,105,118],.str [109,111,100],.str [111,100,100]],.tup [.str [61],.str [60,62],.str [60],.str [60,61],.str [62],.str [62,61]],.cp (.type "int"),.tup [.str [43],.str [45],.str [42],.str [100,105,118],.str [109,111,100],.str [45],.str [42]],.tup [.str [61],.str [60,62],.str [60],.str [60,61],.str [62],.str [62,61]],.str [93,111,102,32,105,110,116,101,103,101,114,59,122,58,105,110,116,101,103,101,114,59,112,114,111,99,101,100,117,114,101,32,113,40,110,44,118,97,114,32,118,41,59,118,97,114,32,120,58,105,110,116,101,103,101,114,59,112,114,111,99,101,100,117,114,101,32,103,59,98,101,103,105,110,32,118,58,61,118,42,50,43,110,43,122,59,110,58,61,110,45,49,59,105,102,32,110,62,61,48,32,116,104,101,110,32,113,40,110,44,120,41,101,110,100,59,98,101,103,105,110,32,102,111,114,32,120,58,61,110,32,100,111,119,110,116,111,32,49,32,100,111,32,118,58,61,118,43,120,59,103,59,119,114,105,116,101,40,120,43,110,41,101,110,100,59,98,101,103,105,110,32,120,58,61],.tup [.tup [.str [112,114,111,103,114,97,109,32,112],.str [80,82,79,71,82,65,77,32,80,49,120]],.tup [.str [112,59],.str [112,59,123,32,97,32,123,32,59,32,125]],.tup [.str [44,121,58],.str [32,44,32,89,32,58]],.tup [.str [120,44,121,58],.str [120,58,105,110,116,101,103,101,114,59,121,58]],.tup [.str [101,110,100,46],.str [101,110,100,123,125,46,123,120,125,10]],.tup [.str [50,43,110],.str [40,50,41,43,45,45,110]],.tup [.str [118,58,61,118,43,120,59],.str [98,101,103,105,110,32,118,58,61,118,43,120,59,101,110,100,59]],.tup [.str [113,40,110,44,120,41,101,110,100],.str [113,40,40,110,41,44,40,120,41,41,101,110,100]],.tup [.str [110,58,61,110,45,49],.str [123,125,110,58,61,123,97,125,110,45,48,48,49]],.tup [.str [112,114,111,99,101,100,117,114,101,32,103],.str [112,114,111,99,101,100,117,114,101,32,104,40,120,44,118,97,114,32,121,41,59,98,101,103,105,110,32,121,58,61,120,32,101,110,100,59,112,114,111,99,101,100,117,114,101,32,103]],.tup [.str [97,58,97,114,114,97,121,91],.str [98,58,97,114,114,97,121,91,49,93,111,102,32,105,110,116,101,103,101,114,59,97,58,97,114,114,97,121,91]],.tup [.str [98,101,103,105,110,32,120,58,61],.str [98,101,103,105,110,59,59,120,58,61]]],.tup [.tup [.str [112,59],.str [112,59,123]],.tup [.str [49,32,100,111],.str [49,100,111]],.tup [.str [112,59],.str [112,59,9]],.tup [.str [112,114,111,103,114,97,109,32,112],.str [112,114,111,103,114,97,109,32,112,233]],.tup [.str [100,111,119,110,116,111,32,49],.str [100,111,119,110,116,111,32,1635]],.tup [.str [101,110,100,46],.str [101,110,100,46,120]],.tup [.str [101,110,100,46],.str [101,110,100,46,49]],.tup [.str [101,110,100,46],.str [101,110,100]],.tup [.str [112,114,111,103,114,97,109,32,112],.str [112,114,111,103,114,97,109,32,53]],.tup [.str [112,114,111,103,114,97,109,32,112],.str [112,114,111,103,114,97,109,32,79,100,100]],.tup [.str [105,102,32,110,62,61,48],.str [105,102,32,110,58,61,48]],.tup [.str [113,40,110,44,120,41,101,110,100],.str [113,40,110,44,120,32,101,110,100]],.tup [.str [49,32,100,111],.str [49]],.tup [.str [122,59,110,58,61],.str [122,32,110,58,61]],.tup [.str [93,111,102],.str [93]],.tup [.str [120,44,121,58],.str [120,44,121,44,120,58]],.tup [.str [122,58,105,110,116,101,103,101,114],.str [122,44,113,58,105,110,116,101,103,101,114]],.tup [.str [118,41,59,118,97,114,32,120,58],.str [118,41,59,118,97,114,32,118,44,120,58]],.tup [.str [97,58,97,114,114,97,121,91],.str [98,58,97,114,114,97,121,91,48,93,111,102,32,105,110,116,101,103,101,114,59,97,58,97,114,114,97,121,91]],.tup [.str [118,58,61,118,42,50],.str [118,91,48,93,58,61,118,42,50]],.tup [.str [43,110,43,122],.str [43,110,43,97]],.tup [.str [43,110,43,122],.str [43,110,43,119]],.tup [.str [43,110,43,122],.str [43,110,43,122,91,48,93]],.tup [.str [110,58,61,110,45,49],.str [103,58,61,110,45,49]],.tup [.str [43,120,59,103,59],.str [43,120,59,110,59]],.tup [.str [113,40,110,44,120,41,101,110,100],.str [113,40,110,41,101,110,100]],.tup [.str [113,40,110,44,120,41,101,110,100],.str [113,40,110,44,120,44,120,41,101,110,100]],.tup [.str [103,59,119,114,105,116,101],.str [103,40,49,41,59,119,114,105,116,101]],.tup [.str [113,40,110,44,120,41,101,110,100],.str [113,40,110,44,45,120,41,101,110,100]],.tup [.str [113,40,110,44,120,41,101,110,100],.str [113,40,110,44,97,41,101,110,100]],.tup [.str [102,111,114,32,120,58,61,110],.str [102,111,114,32,97,58,61,110]],.tup [.str [102,111,114,32,120,58,61,110],.str [102,111,114,32,103,58,61,110]],.tup [.str [112,114,111,99,101,100,117,114,101,32,113],.str [112,114,111,99,101,100,117,114,101,32,104,59,98,101,103,105,110,32,113,40,49,44,120,41,101,110,100,59,112,114,111,99,101,100,117,114,101,32,113]],.tup [.str [98,101,103,105,110,32,120,58,61],.str [98,101,103,105,110,32,110,58,61,49,59,120,58,61]],.tup [.str [98,101,103,105,110,32,120,58,61],.str [98,101,103,105,110,32,103,59,120,58,61]],.tup [.str [113,40,110,44,120,41,101,110,100],.str [113,40,41,101,110,100]]],.cp (.type "tuple")]
noncomputable def Pw:List (Nat×Tx):=[(191,[112,114,111,103,114,97,109]),(192,[118,97,114]),(193,[105,110,116,101,103,101,114]),(194,[97,114,114,97,121]),(195,[111,102]),(196,[112,114,111,99,101,100,117,114,101]),(197,[98,101,103,105,110]),(198,[101,110,100]),(199,[105,102]),(200,[116,104,101,110]),(201,[101,108,115,101]),(202,[119,104,105,108,101]),(203,[100,111]),(204,[114,101,112,101,97,116]),(205,[117,110,116,105,108]),(206,[102,111,114]),(207,[116,111]),(208,[100,111,119,110,116,111]),(209,[119,114,105,116,101]),(210,[100,105,118]),(211,[109,111,100]),(212,[111,100,100]),(214,[61]),(215,[60,62]),(216,[60]),(217,[60,61]),(218,[62]),(219,[62,61]),(539,[43]),(540,[45]),(541,[42]),(542,[100,105,118]),(543,[109,111,100]),(544,[45]),(545,[42]),(547,[61]),(548,[60,62]),(549,[60]),(550,[60,61]),(551,[62]),(552,[62,61]),(554,[93,111,102,32,105,110,116,101,103,101,114,59,122,58,105,110,116,101,103,101,114,59,112,114,111,99,101,100,117,114,101,32,113,40,110,44,118,97,114,32,118,41,59,118,97,114,32,120,58,105,110,116,101,103,101,114,59,112,114,111,99,101,100,117,114,101,32,103,59,98,101,103,105,110,32,118,58,61,118,42,50,43,110,43,122,59,110,58,61,110,45,49,59,105,102,32,110,62,61,48,32,116,104,101,110,32,113,40,110,44,120,41,101,110,100,59,98,101,103,105,110,32,102,111,114,32,120,58,61,110,32,100,111,119,110,116,111,32,49,32,100,111,32,118,58,61,118,43,120,59,103,59,119,114,105,116,101,40,120,43,110,41,101,110,100,59,98,101,103,105,110,32,120,58,61]),(556,[112,114,111,103,114,97,109,32,112]),(557,[80,82,79,71,82,65,77,32,80,49,120]),(558,[112,59]),(559,[112,59,123,32,97,32,123,32,59,32,125]),(560,[44,121,58]),(561,[32,44,32,89,32,58]),(562,[120,44,121,58]),(563,[120,58,105,110,116,101,103,101,114,59,121,58]),(564,[101,110,100,46]),(565,[101,110,100,123,125,46,123,120,125,10]),(566,[50,43,110]),(567,[40,50,41,43,45,45,110]),(568,[118,58,61,118,43,120,59]),(569,[98,101,103,105,110,32,118,58,61,118,43,120,59,101,110,100,59]),(570,[113,40,110,44,120,41,101,110,100]),(571,[113,40,40,110,41,44,40,120,41,41,101,110,100]),(572,[110,58,61,110,45,49]),(573,[123,125,110,58,61,123,97,125,110,45,48,48,49]),(574,[112,114,111,99,101,100,117,114,101,32,103]),(575,[112,114,111,99,101,100,117,114,101,32,104,40,120,44,118,97,114,32,121,41,59,98,101,103,105,110,32,121,58,61,120,32,101,110,100,59,112,114,111,99,101,100,117,114,101,32,103]),(576,[97,58,97,114,114,97,121,91]),(577,[98,58,97,114,114,97,121,91,49,93,111,102,32,105,110,116,101,103,101,114,59,97,58,97,114,114,97,121,91]),(578,[98,101,103,105,110,32,120,58,61]),(579,[98,101,103,105,110,59,59,120,58,61]),(581,[112,59]),(582,[112,59,123]),(583,[49,32,100,111]),(584,[49,100,111]),(585,[112,59]),(586,[112,59,9]),(587,[112,114,111,103,114,97,109,32,112]),(588,[112,114,111,103,114,97,109,32,112,233]),(589,[100,111,119,110,116,111,32,49]),(590,[100,111,119,110,116,111,32,1635]),(591,[101,110,100,46]),(592,[101,110,100,46,120]),(593,[101,110,100,46]),(594,[101,110,100,46,49]),(595,[101,110,100,46]),(596,[101,110,100]),(597,[112,114,111,103,114,97,109,32,112]),(598,[112,114,111,103,114,97,109,32,53]),(599,[112,114,111,103,114,97,109,32,112]),(600,[112,114,111,103,114,97,109,32,79,100,100]),(601,[105,102,32,110,62,61,48]),(602,[105,102,32,110,58,61,48]),(603,[113,40,110,44,120,41,101,110,100]),(604,[113,40,110,44,120,32,101,110,100]),(605,[49,32,100,111]),(606,[49]),(607,[122,59,110,58,61]),(608,[122,32,110,58,61]),(609,[93,111,102]),(610,[93]),(611,[120,44,121,58]),(612,[120,44,121,44,120,58]),(613,[122,58,105,110,116,101,103,101,114]),(614,[122,44,113,58,105,110,116,101,103,101,114]),(615,[118,41,59,118,97,114,32,120,58]),(616,[118,41,59,118,97,114,32,118,44,120,58]),(617,[97,58,97,114,114,97,121,91]),(618,[98,58,97,114,114,97,121,91,48,93,111,102,32,105,110,116,101,103,101,114,59,97,58,97,114,114,97,121,91]),(619,[118,58,61,118,42,50]),(620,[118,91,48,93,58,61,118,42,50]),(621,[43,110,43,122]),(622,[43,110,43,97]),(623,[43,110,43,122]),(624,[43,110,43,119]),(625,[43,110,43,122]),(626,[43,110,43,122,91,48,93]),(627,[110,58,61,110,45,49]),(628,[103,58,61,110,45,49]),(629,[43,120,59,103,59]),(630,[43,120,59,110,59]),(631,[113,40,110,44,120,41,101,110,100]),(632,[113,40,110,41,101,110,100]),(633,[113,40,110,44,120,41,101,110,100]),(634,[113,40,110,44,120,44,120,41,101,110,100]),(635,[103,59,119,114,105,116,101]),(636,[103,40,49,41,59,119,114,105,116,101]),(637,[113,40,110,44,120,41,101,110,100]),(638,[113,40,110,44,45,120,41,101,110,100]),(639,[113,40,110,44,120,41,101,110,100]),(640,[113,40,110,44,97,41,101,110,100]),(641,[102,111,114,32,120,58,61,110]),(642,[102,111,114,32,97,58,61,110]),(643,[102,111,114,32,120,58,61,110]),(644,[102,111,114,32,103,58,61,110]),(645,[112,114,111,99,101,100,117,114,101,32,113]),(646,[112,114,111,99,101,100,117,114,101,32,104,59,98,101,103,105,110,32,113,40,49,44,120,41,101,110,100,59,112,114,111,99,101,100,117,114,101,32,113]),(647,[98,101,103,105,110,32,120,58,61]),(648,[98,101,103,105,110,32,110,58,61,49,59,120,58,61]),(649,[98,101,103,105,110,32,120,58,61]),(650,[98,101,103,105,110,32,103,59,120,58,61]),(651,[113,40,110,44,120,41,101,110,100]),(652,[113,40,41,101,110,100])]
noncomputable def Vv:List Tx:=[[116,101,120,116],[111,117,116],[105],[99],[106],[119],[115,105,103,110]]
noncomputable def Vu:List Tx:=[[115,101,108,102],[116,101,120,116]]
noncomputable def Vt:List Tx:=[[115,101,108,102],[119]]
noncomputable def Vs:List Tx:=[[115,101,108,102],[119]]
noncomputable def Vr:List Tx:=[[115,101,108,102],[119]]
noncomputable def Vq:List Tx:=[[115,101,108,102],[107,105,110,100],[107],[118]]
noncomputable def Vp:List Tx:=[[115,101,108,102],[101],[115]]
noncomputable def Vo:List Tx:=[[115,101,108,102],[101],[115]]
noncomputable def Vn:List Tx:=[[115,101,108,102],[101],[110]]
noncomputable def Vm:List Tx:=[[115,101,108,102],[101],[97],[115]]
noncomputable def Rw:List Tx:=[[115,101,108,102],[111,117,116]]
noncomputable def Rv:List Tx:=[[115,101,108,102],[99],[97],[115],[110],[117,112],[98],[101],[105],[97,114,103,115]]
noncomputable def Ru:List Tx:=[[115,101,108,102],[118,115],[112,115],[110,97,109,101,115],[115,105,122,101],[110],[112,97,114,97,109,115],[118],[98],[115]]
noncomputable def Rt:List Tx:=[[116,101,120,116],[112],[110],[98]]
noncomputable def Rr:List Tx:=[[111,107],[119]]
noncomputable def Rq:List Tx:=[[115,101,108,102]]
noncomputable def Rp:List Tx:=[[115,101,108,102],[105]]
noncomputable def Ro:List Tx:=[[115,101,108,102],[98],[115,99,111,112,101,115],[112,97,114,97,109,115],[118,115],[112,115],[115,115],[110,97,109,101,115],[106],[115,99,111,112,101],[97],[110],[118],[102,105,114,115,116],[122],[115,107,105,112],[112],[113],[115,116,97,114,116],[102,114,101,101],[115]]
noncomputable def Rn:List Tx:=[[115,101,108,102],[110],[115,99,111,112,101,115],[107,105,110,100,115],[108],[115]]
noncomputable def Rl:List Tx:=[[115,101,108,102],[101],[115,99,111,112,101,115],[108],[119]]
noncomputable def Rk:List Tx:=[[115,101,108,102],[101],[115,99,111,112,101,115],[107],[108],[119],[115]]
noncomputable def Rj:List Tx:=[[115,101,108,102],[115],[115,99,111,112,101,115],[102,114,101,101],[107],[108],[119],[106],[101],[116,111,112],[120],[99],[107,49]]
noncomputable def Ri:List Tx:=[[116,114,101,101],[99]]
noncomputable def Rh:List Tx:=[[115,116],[98,97,115,101],[108]]
noncomputable def Rg:List Tx:=[[115],[97],[98],[113]]
noncomputable def Rf:List Tx:=[[99,111,100,101],[102,117,101,108],[115,116],[98,97,115,101],[112,99],[111,117,116],[105],[107],[118],[115],[98],[97],[110],[97,116],[108,105,110,107],[112]]
noncomputable def Rc:List Tx:=[[116,101,120,116],[102,117,101,108]]
noncomputable def Rb:List Tx:=[[97],[98],[114]]
noncomputable def Ra:List Tx:=[[115,105,103,110],[97],[98],[98,97,100]]
noncomputable def Q9:List Tx:=[[99],[100],[111],[120],[121],[122],[108,97,115,116],[110],[98,97,100],[119,111,114,100,115],[118,97,108,117,101,115],[105],[106],[107],[115],[116],[116,101,120,116]]
noncomputable def Q8:List Tx:=[[109],[118],[122],[111,117,116],[108,101,118,101,108,115],[109,97,114,107,115],[116,105,99,107,115],[110]]
noncomputable def Q7:List Tx:=[[107],[114],[120],[121],[122],[97,114,114],[111,117,116],[98,97,100],[110],[112,108,97,99,101],[115,112,111,116],[108,111,119],[104,105,103,104],[116,105,99,107,115],[118],[116,101,120,116]]
noncomputable def Q6:List Tx:=[[115,99,114,105,112,116],[110],[120],[121],[122],[97,114,114],[116,101,120,116],[111,117,116],[98,97,100],[116,105,99,107,115],[102,105,114,115,116],[115,101,99,111,110,100],[107],[114],[99],[100],[111],[112,97,114,116],[119,111,114,107],[109,111,114,101],[98,114,111,107,101,110],[111,108,100],[110,101,119],[102,117,101,108],[100,117,101],[103,111,116],[114,101,102,117,115,101,100],[118,97,108,117,101]]
noncomputable def Lf:Tb:=⟨[[95,87,79,82,68,83],[95,67,77,80],[105,110,116],[95,108,97,119,95,83,73,71,78,83],[95,108,97,119,95,82,69,76,83],[95,108,97,119,95,80,82,79,67,83],[95,108,97,119,95,76,79,79,83,69],[95,108,97,119,95,66,82,79,75,69,78],[116,117,112,108,101]],[[95,108,101,120],[95,95,105,110,105,116,95,95],[97,116],[119,97,110,116],[103,111,116],[105,116,101,109],[101,120,112,114],[116,101,114,109],[102,97,99,116,111,114],[99,111,110,100],[115,116,109,116,115],[115,116,109,116],[98,108,111,99,107],[112,97,114,115,101],[95,110,101,101,100],[95,95,105,110,105,116,95,95],[101,109,105,116],[98,108,111,99,107],[102,105,110,100],[97,100,100,114],[118,97,108],[115,116,109,116],[99,111,109,112,105,108,101,95,116,114,101,101],[95,102,114,97,109,101],[95,114,101,99,107,111,110,101,100],[114,117,110],[101,118,97,108,117,97,116,101],[95,108,97,119,95,114,101,115,116],[95,108,97,119,95,100,111],[95,108,97,119,95,101,120,112,114],[95,108,97,119,95,99,97,108,108],[95,108,97,119,95,115,116,101,112],[108,97,119]],[[95,80,97,114,115,101,114],[95,67,111,109,112,105,108,101,114]],[23,37,44,51,58,65,72,79,86,93,100,107,112,126,133,147,154,159,166,173,180,187,201,208,215,222,229,288,295,302,309,316,323],[true,false,false,false,false,false,false,false,false,false,false,false,false,true,true,false,false,false,false,false,false,false,true,true,true,true,true,true,true,true,true,true,true]⟩
noncomputable def oR:Sp:=⟨Lf,W6,[115,190],[some 1,some 15],[none,some 0,some 0,some 0,some 0,some 0,some 0,some 0,some 0,some 0,some 0,some 0,some 0,none,none,some 1,some 1,some 1,some 1,some 1,some 1,some 1,none,none,none,none,none,none,none,none,none,none,none],[(P7,Vv),(PZ,Vu),(PY,Vt),(PX,Vs),(PW,Vr),(PV,Vq),(TQ,Vp),(TP,Vo),(PU,Vn),(PR,Vm),(HL,Rw),(HK,Rv),(HJ,Ru),(HI,Rt),(HH,Rr),(HG,Rq),(HF,Rp),(HE,Ro),(HD,Rn),(wN,Rl),(qO,Rk),(jC,Rj),(HB,Ri),(HA,Rh),(Hz,Rg),(Hy,Rf),(Hx,Rc),(Hw,Rb),(Dm,Ra),(yQ,Q9),(yP,Q8),(yO,Q7),(Hv,Q6)]⟩
open PySem PySem.W PySem.W.X PySem.W.Fast
noncomputable def q2:Program:=view PySem.Challenge.pw_sx_r130_2 [1,2,3,4,5,6,7,8,9,10,11,12,14,15,16,17,18,19,20,21,22,23,24]
noncomputable def pE:List Str:=["_WORDS"]
noncomputable def zA (p:Program)(w:World)(N:Nat)(s0:Shared):Option Shared:=
 match s0.heap.isNs mainGlobals&&s0.gens.size==0 with
 | true=>(tw14082659384304107361 tw14364793385576792824 p w s0.heap.objs.size (s0.heap.nsMap mainGlobals "__annotations__") N s0 (topStub p)).bind fun s₁=>match staticsOk (importedModules p.main.body) s0.heap s₁.heap&&namesBound p s₁.heap&&gensDone s₁&&laidKept s0.heap s₁.heap with
   | true=>some s₁
   | false=>none
 | false=>none
theorem EK (p:Program)(w:World)(N:Nat)(s0:Shared):topFrom treeTable p w N s0=zA p w N s0:=by
 unfold topFrom zA;rw [te14082659384304107361,te14364793385576792824];rfl
noncomputable def zz (p:Program)(w:World)(N:Nat):Option Shared:=
 (tw10274390034422433532 tw14364793385576792824 (opening p) w N (tw1435165496053646825 (opening p)).1 (tw1435165496053646825 (opening p)).2).bind (tw14289696077712309145 p)
theorem Ef (p:Program)(w:World)(N:Nat):fencedOpening treeTable p w N=zz p w N:=by
 unfold fencedOpening zz;rw [te10274390034422433532,te14364793385576792824,te1435165496053646825,te14289696077712309145]
noncomputable def zB (p:Program)(w:World)(N:Nat):Option Shared:=(zz p w N).bind (zA p w N)
theorem EZ (p:Program)(w:World)(N:Nat):openEnds treeTable p w N=zB p w N:=by
 unfold openEnds zB;rw [Ef];congr 1;funext s; exact EK p w N s
open PySem PySem.W
noncomputable def W9 (x:Stmt):Option yn:=match x with
 | .FunctionDef _ a b _ _ _ s _ _ _=>some (s,a,b)
 | _=>none
noncomputable def Xo (x:Stmt):List Stmt:=match x with
 | .ClassDef _ _ _ b _ _ _ _ _ _ _=>b
 | _=>[x]
noncomputable def Sz (l:List Stmt):List yn:=(l.flatMap Xo).filterMap W9
noncomputable def x8:List yn:=Sz PySem.Challenge.pw_sx_r130_2.main.body
abbrev DV:=aD×List Tx
noncomputable def Vw (p:yn)(d:DV):List Stmt:=jw p.1 d.1.body p.2.2
noncomputable def Xy (q:Str)(p:yn)(d:DV):(n:Nat)×Pq (Sem (List (Str×Value))) n:=⟨d.1.np,cur d.1.np fun vs=>bindArgs (PC q p.2.1 .none .none) ⟨vs,[]⟩⟩
noncomputable def Xx (p:yn)(d:DV):(n:Nat)×Pq (Sem (List (Str×Value))) n:=⟨d.1.np,cur d.1.np fun vs=>pure ((p.2.1.args.map (·.arg)).zip vs)⟩
theorem Rz:List.zipWith Vw x8 oR.defs=x8.map (·.2.2):=by kernel_rfl
theorem RJ:List.zipWith (fun p d=>jy p.1 Lf d.2 d.1.body p.2.2) x8 oR.defs=x8.map fun _=>true:=by kernel_rfl
theorem SV (q:Str):List.zipWith (Xy q) x8 oR.defs=List.zipWith Xx x8 oR.defs:=by kernel_rfl
theorem RN:x8.length=oR.defs.length:=by kernel_rfl
noncomputable def CF (h:Heap):Frag:=(List.range h.objs.size).filterMap fun a=>(h.get? a).map fun o=>(a,o)
theorem qg {h:Heap}{a:Addr}{o:Obj}:∀ {l:List Nat},(l.filterMap fun a=>(h.get? a).map fun o=>(a,o)).lookup a=some o->h.get? a=some o
 | [],e=>by cases e
 | b::l,e=>by
  rw [List.filterMap_cons] at e;cases q:h.get? b with
  | none=>rw [q] at e; exact qg e
  | some ob=>
   rw [q] at e;have e:List.lookup a ((b,ob)::_)=some o:=e;rw [List.lookup_cons] at e;cases z:a==b with
   | true=>rw [z] at e; cases Ag e; cases eq_of_beq z; exact q
   | false=>rw [z] at e; exact qg e
theorem Ka (h:Heap):(CF h).In h:=fun a o e=>qg e
noncomputable def T6 (h:Heap):Bool:=Oz (CF h) oR Pw&&allB (fun k=>eH oR.defs[k]? fun d=>Qw (CF h) Lf k d.1 d.2) 33
noncomputable def Ho (h:Heap):List (yn×Value×Value):=(List.range 33).map fun k=>Tv (Dw (CF h) Lf k)
theorem SD {h:Heap}(h1:allB (fun k=>eH oR.defs[k]? fun d=>Qw (CF h) Lf k d.1 d.2) 33=true)(h2:Ho h=x8.map fun p=>(p,Value.none,Value.none))(k:Nat)(d:aD)(vs:List Tx)(e:oR.defs[k]?=some (d,vs)):∃ p,LW (CF h) oR.t k d vs p:=by
 have hk:k<33:=fR e;have hp:x8[k]?=some x8[k]:=List.getElem?_eq_getElem (RN▸hk);obtain ⟨d',e',hb⟩:=aR (iU h1 hk);cases Ag (e.symm.trans e');have t:=congrArg (fun l=>l[k]?) Rz;have g:=congrArg (fun l=>l[k]?) RJ;have p:=congrArg (fun l=>l[k]?) h2;have b:=fun q=>congrArg (fun l=>l[k]?) (SV q);simp only [List.getElem?_zipWith,List.getElem?_map,hp,e] at t g b;rw [List.getElem?_map,hp] at p;have p:((List.range 33)[k]?).map _=_:=(List.getElem?_map ..).symm.trans p;rw [List.getElem?_range hk] at p;exact ⟨x8[k],hb,Ag p,fun q=>eq_of_heq (Sigma.mk.inj (Ag (b q))).2,Ag t,Ag g⟩
open PySem PySem.W PySem.W.X PySem.W.Fast
noncomputable def Pr (s:Shared):Nat×Bool×List (yn×Value×Value):=(s.toks,T6 s.heap,Ho s.heap)
noncomputable def Pt:Nat×Bool×List (yn×Value×Value):=(766,true,x8.map fun p=>(p,Value.none,Value.none))
theorem k1:∀ w:World,(zB PySem.Challenge.pw_sx_r130_2 w 3734).map (fun s=>(tw4187177175401517315 q2 pE (importedModules PySem.Challenge.pw_sx_r130_2.main.body) (fun s=>recOk [] s) true s,Pr s))=some (openGood q2 pE,Pt):=fun w=>by kernel_rfl
theorem hl:LeftO PySem.Challenge.pw_sx_r130_2 q2 pE (fun s=>recOk [] s) Pr (fun _=>Pt) 3734:=fun w=>by
 rw [EZ,te4187177175401517315]; exact k1 w
theorem upTo {α:Type}{n:Nat}{f g:Nat->α}(h:(List.range n).map f=(List.range n).map g)(k:Nat)(hk:k<n):f k=g k:=by
 have:=congrArg (fun l=>l[k]?) h;simp only [List.getElem?_map,List.getElem?_range hk] at this;exact Ag this
namespace P
theorem N0:Core oR.cp oR.D where
 d:=upTo rfl
 c:=upTo rfl
 g0:=rfl
 g1:=rfl
 i0:=rfl
 i1:=rfl
theorem Nw:fW oR.cp oR.D where
 toCore:=N0
 UJ:=rfl
 UI:=rfl
 UH:=rfl
 UG:=rfl
 UE:=rfl
 UD:=rfl
 yk:=fun k h1 h2=>by
  have:=upTo (n:=33) (f:=fun k=>cond (Nat.ble 27 k) (oR.cp.bX k) none) (g:=fun _=>none) rfl k (Nat.lt_succ_of_le (Ad h2));rw [h1] at this; exact this
 g2:=rfl
 g3:=rfl
 g4:=rfl
 g5:=rfl
 g6:=rfl
 g7:=rfl
 g8:=rfl
end P
theorem Np (bE:List Int):aj oR.cp oR.D (199+1) 32 [.jr (bE.map .int)] [] (fun a _=>a=.bool true) (fun _=>False):=P.I3 (m:=196) P.Nw (by decide)
open PySem PySem.W PySem.W.X PySem.W.Fast
theorem U8:PySem.Challenge.rw_sx_r130_2.wellSaid=true:=by
 rw [te9446332074065402090]; kernel_rfl
end Mine.Internal
open PySem PySem.W PySem.W.X PySem.W.Fast PySem.W.ZRun
namespace Mine.Internal
theorem df:(defOf q2 "law").isSome=true:=by kernel_rfl
noncomputable def d2:DefRec×List (Str×Expr):=(defOf q2 "law").get df
theorem Xj:defOf q2 "law"=some (d2.1,d2.2):=(Option.some_get df).symm
theorem Qe:PySem.Challenge.pw_sx_r130_2.theDef "law"=some (d2.1.params,d2.1.body,d2.1.scope):=by rw [te10235530238920679567]; kernel_rfl
theorem iG:kwWritten? d2.1.params.kwonlyargs d2.1.params.kw_defaults=some d2.2:=by kernel_rfl
theorem SX {h h':Heap} {mg:Str->Option Value} {fa:Addr} (hs:Oz (CF h) oR Pw=true) (X:(CF h).In h') (hg:h'.Ns mainGlobals mg) (hm:mg "law"=some (.ref fa)):fa=323:=by
 have f:(isRef (nsIn (CF h) mainGlobals (aE [108,97,119])) 323&&_)=true:=iU (k:=32) (ah (ah hs).2).1 (by decide);have e:aE [108,97,119]=("law" : Str):=by kernel_rfl
 have:=mg_of X hg (jd (ah f).1);rw [e,hm] at this;cases this; rfl
end Mine.Internal
theorem PySem.Challenge.cw_sx_r130_2_holds : PySem.Challenge.rw_sx_r130_2.Holds := by
 refine holds_law Mine.Internal.U8 fun RB=>?_;refine holds_openX (q:=Mine.Internal.q2) (loose:=Mine.Internal.pE) (Xt:=fun s=>recOk [] s) (XP:=fun _ _=>True) (Yf:=Mine.Internal.Pr) (Ya:=fun _=>Mine.Internal.Pt) (N:=3734) Mine.Internal.hl (fun _ _=>trivial) (fun _ _ _ _ _=>trivial) Mine.Internal.Xj Mine.Internal.Qe Mine.Internal.iG (fun s e=>recFacts_of e) rfl RB (by decide +kernel) ⟨rfl,rfl,rfl,rfl,rfl,by decide +kernel⟩ ⟨[.list []],by decide +kernel,by decide +kernel⟩ ?_;intro w Df s₁ mg mb G y fa o pm cd doc dV kV ho hd XY hD Ws hg args vals as L HO Sj Wb VY Lz;refine Ground.open G ?_;intro T B D TE TW;have y1:Df.toks=766:=congrArg (·.1) y;have y2:=Mine.Internal.ah (congrArg (·.2.1) y:Mine.Internal.T6 Df.heap=true);have y3:Mine.Internal.Ho Df.heap=_:=congrArg (·.2.2) y;have KX:(Mine.Internal.CF Df.heap).In s₁.heap:=(Mine.Internal.Ka _).keeps L.keeps;cases Mine.Internal.SX y2.1 KX T.g Ws
 wrow_args HO Sj Wb VY Lz
 refine Mine.Internal.Er (s:=Mine.Internal.oR) (tk:=Mine.Internal.Pw) (n:=199) (k:=32) (m:=766) KX T.g T.b T.nolimit T.builtins y2.1 (Mine.Internal.SD y2.2 y3) (by kernel_rfl) (by decide) L (by assumption) (by assumption) (by omega) y1 hg (by decide) rfl (by intro cls; rfl) ?_ (Mine.Internal.Np _)
 first | rfl | wrow_post
