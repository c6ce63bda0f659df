import PyProof.Rows.All
import PyProof.TableCode
import PyProof.Rows.Tup
import PyProof.Rows.Many
import PyProof.RangeFor
import PyProof.Rows.CellsKey
import PyProof.PassesOwn
import PyProof.DictKinds
import PyProof.DictList
import PyProof.EqKinds
import PyProof.NeKinds
import PyProof.Rows.StrRules
import PyProof.Rows.IntRules
import PyProof.Rows.RuleB_and
import PyProof.Rows.RuleB_mul
import PyProof.Rows.RuleB_mod
import PyProof.Rows.RuleB_floordiv
import PyProof.Rows.RuleC_int
import PyProof.Rows.RuleU_int
import OpenK.KWalk
import PyProof.ListOps
import PyProof.TupleOps
import PyProof.ListMulRoad
import PyProof.ListMulAny
import PyProof.Rows.IntMath
import PyProof.PureInt
import PyProof.Rows.ListMulArg
import PyProof.IsRules
import PyProof.Rows.RuleIs2
import PyProof.DictStraight
import PyProof.DictRoads
import PyProof.StrLaws
import PyProof.StrLawsIn
import PyProof.StrBlock
import PyProof.ListIndexNeg
import PyProof.SliceMore
import PyProof.DelItemList
import PyProof.SliceStr2
import PyProof.Rows.TupMore
import PyProof.Rows.Lst
import PyProof.SeqRoads
import PyProof.AutoSeq1
import PyProof.Rows.RuleB_sub
import PyProof.CallStr
import PyProof.Conv_int_bool
import PyProof.FitsInt
import KE.IntTextLaws
import KE.KIntText
import PyProof.Rows.RuleN_abs
import PyProof.Rows.Range3
import PyProof.WalkInts
import PyProof.TupleOfSeq
import PyProof.TypeOfCall
import PyProof.SumAny
import PyProof.WalksMore
import PyProof.ListRange
import PyProof.ToksMono
import PyProof.StrCalls2
import PyProof.StrCalls5
import PyProof.StrCalls6
import PyProof.StrLawsTight
import PyProof.StrLawsChain
import PyProof.StrLawsFrom
import PyProof.StrLawsJoin
import PyProof.Rows.StrCase
import PyProof.Rows.StrNews2
import PyProof.Methods
import OpenK.KMake
import OpenK.KCls
import PyProof.LetGo
import PyProof.Rows.Chain
import PyProof.Rows.TupSub
import PyProof.Rows.Exc
import PyProof.Rules3
import PyProof.MakeMany
import PyProof.Dict
import KE.KTurns
import KE.KPairComp
import PyProof.CompFree
import PyProof.TupleIter
import PyProof.Rows.TupIter
import PyProof.RulesAssignMore
import PyProof.RulesDel
import PyProof.Rows.Catch
import PyProof.ExcFactsAll.ValueError
import PyProof.AssignAttr
import PyProof.ForAny
import PyProof.ExcAttrAll.ValueError
import Wide.All
import OpenK.AllK
import OpenK.XOpen
import OpenK.ZHead
import Wide.FinOn
import Lean
import PySem.Challenge.RW_sx_r130_3
set_option autoImplicit false
set_option linter.all false
set_option genSizeOf false
set_option genSizeOfSpec false
set_option genInjectivity false
set_option genCtorIdx false
set_option backward.match.sparseCases false
set_option maxRecDepth 1000000
set_option maxHeartbeats 0
set_option Elab.async false
namespace Mine
theorem Aa {n m k:Nat}(h:n<=m)(g:m<=k):n<=k:=Nat.le_trans h g
theorem Ab {a b:Bool}(h:(a&&b)=true):a=true∧b=true:=Bool.and_eq_true_iff.mp h
theorem Ac {α:Type}{as bs:List α}:(as++bs).length=as.length+bs.length:=List.length_append
theorem Ad {n m:Nat}(h:Nat.ble n m=true):n<=m:=Nat.le_of_ble_eq_true h
theorem Ae {α:Type}(as bs cs:List α):as++bs++cs=as++(bs++cs):=List.append_assoc as bs cs
theorem Af (n k:Nat):n<=n+k:=Nat.le_add_right n k
theorem Ag {α:Type}{a b:α}(h:some a=some b):a=b:=Option.some.inj h
theorem Ah {α β:Type}{as:List α}(f:α->β):(as.map f).length=as.length:=List.length_map f
theorem Ai {α:Type}{l:List α}{i:Nat}{a:α}(h:l[i]? =some a):∃k:i<l.length,l[i]=a:=List.getElem?_eq_some_iff.mp h
theorem Aj (a:Nat):a<=a:=Nat.le_refl a
theorem Ak {a b:Nat}(h:a<=b)(k:Nat):k+a<=k+b:=Nat.add_le_add_left h k
theorem Al {a b:Nat}(h:a<=b)(k:Nat):a+k<=b+k:=Nat.add_le_add_right h k
theorem Am {a b:Nat}(h:a+1<=b+1):a<=b:=Nat.le_of_succ_le_succ h
theorem An {a b c:Nat}(h:a<b)(k:b<=c):a<c:=Nat.lt_of_lt_of_le h k
theorem Ao {a b c:Nat}(h:a<=b)(k:b<c):a<c:=Nat.lt_of_le_of_lt h k
theorem Ap {a b:Nat}(h:a+1<=b):a<=b:=Nat.le_of_succ_le h
theorem Aq {a b c d:Nat}(h:a<=b)(k:c<=d):a+c<=b+d:=Nat.add_le_add h k
theorem Ar (a b:Nat):a<=b+a:=Nat.le_add_left a b
theorem As {a b:Nat}(h:Nat.beq a b=true):a=b:=Nat.eq_of_beq_eq_true h
theorem Au {a b:Nat}(h:a<=b):a+1<=b+1:=Nat.succ_le_succ h
theorem Av (a:Nat):0<=(a:Int):=Int.natCast_nonneg a
theorem Aw (a b c:Nat):a+b+c=a+c+b:=Nat.add_right_comm a b c
theorem Ax {p:Prop}[i:Decidable p](h:decide p=true):p:=of_decide_eq_true h
open PySem (Value Addr)
abbrev Tx:=List Nat
set_option genCtorIdx true in
inductive AV where
 | none
 | bool (b:Bool)
 | int (i:Int)
 | str (s:Tx)
 | tup (vs:List AV)
 | obj (r:Nat)
 | rng (lo hi st:Int)
 | frz (vs:List AV)
 | stat (v:Value)
set_option genCtorIdx true in
inductive At where
 | ts | pos | code
deriving DecidableEq
set_option genCtorIdx true in
inductive MO where
 | list (vs:List AV)
 | dict (es:List (Tx×AV))
 | inst (c:Nat) (fs:List (At×AV))
abbrev Store:=List MO
noncomputable def lid:Nat:=1000000
set_option genCtorIdx true in
inductive BOp where
 | add | sub | mul | fdiv | mod | band
set_option genCtorIdx true in
inductive COp where
 | eq | ne | lt | le | gt | ge | isin | notin | is | isnot
set_option genCtorIdx true in
inductive Bi where
 | len | str | int | abs | range | min | max | sum | tuple | type
set_option genCtorIdx true in
inductive Bm where
 | append | pop | isascii | isalpha | isalnum | isdigit | lower | find | replace | join
mutual
inductive E where
 | none | bool (b:Bool) | int (i:Int) | str (s:Tx)
 | v (i:Nat)
 | g (i:Nat)
 | bin (op:BOp) (a b:E)
 | neg (a:E)
 | not (a:E)
 | cmp (op:COp) (a b:E)
 | cmp2 (o1 o2:COp) (a b c:E)
 | all (es:Es)
 | any (es:Es)
 | ite (c a b:E)
 | call (f:Nat) (as:Es)
 | new (c:Nat) (as:Es)
 | meth (o:E) (f:Nat) (as:Es)
 | bi (b:Bi) (as:Es)
 | bm (o:E) (m:Bm) (as:Es)
 | attr (o:E) (x:At)
 | idx (o i:E)
 | slice (o:E) (lo hi:Eo)
 | tuple (as:Es)
 | list (as:Es)
 | dict0
  | compVar (m j:Nat) (src:E)
  | compPair (cap:Nat) (src:E)
  | compSel (v spot:Nat) (src:E)
inductive Es where
 | nil
 | cons (e:E) (es:Es)
inductive Eo where
 | no
 | yes (e:E)
end
mutual
inductive S where
 | expr (e:E)
 | set (i:Nat) (e:E)
 | setT (is:List Nat) (e:E)
 | setAttr (o:E) (x:At) (e:E)
 | setIdx (o i e:E)
 | setSlice (o lo hi e:E)
 | aug (i:Nat) (op:BOp) (e:E)
 | augAttr (o:E) (x:At) (op:BOp) (e:E)
 | augIdx (o i:E) (op:BOp) (e:E)
 | delFrom (o lo:E)
 | ifs (c:E) (a b:Ss)
 | whl (c:E) (b:Ss)
 | for1 (i:Nat) (src:E) (b:Ss)
 | forT (is:List Nat) (src:E) (b:Ss)
 | ret (e:E)
 | raise (e:E)
 | brk
 | cont
 | tryVE (b:Ss) (i:Nat) (c:E)
inductive Ss where
 | nil
 | cons (s:S) (ss:Ss)
end
inductive Fl where
 | next | brk | cont | ret (v:AV)
abbrev Ev:=Nat->Option AV
noncomputable def upd (e:Ev)(i:Nat)(v:AV):Ev:=fun j=>cond (Nat.beq j i) (some v) (e j)
noncomputable def upds (e:Ev):List Nat->List AV->Ev
 | i::is,v::vs=>upds (upd e i v) is vs
 | _,_=>e
noncomputable def txEq:Tx->Tx->Bool
 | [],[]=>true
 | a::l,b::r=>Nat.beq a b&&txEq l r
 | _,_=>false
noncomputable def memN (c:Nat):List Nat->Bool
 | []=>false
 | d::r=>Nat.beq c d||memN c r
mutual
noncomputable def pyEq:AV->AV->Option Bool
 | .none,.none=>some true
 | .none,.bool _=>some false
 | .none,.int _=>some false
 | .none,.str _=>some false
 | .none,.tup _=>some false
 | .bool _,.none=>some false
 | .bool a,.bool b=>some (a==b)
 | .bool _,.str _=>some false
 | .bool _,.tup _=>some false
 | .int _,.none=>some false
 | .int a,.int b=>some (decide (a=b))
 | .int _,.str _=>some false
 | .int _,.tup _=>some false
 | .str _,.none=>some false
 | .str _,.bool _=>some false
 | .str a,.str b=>some (txEq a b)
 | .str _,.int _=>some false
 | .str _,.tup _=>some false
 | .tup _,.none=>some false
 | .tup _,.bool _=>some false
 | .tup _,.str _=>some false
 | .tup _,.int _=>some false
 | .tup a,.tup b=>pyEqs a b
 | _,_=>Option.none
noncomputable def pyEqs:List AV->List AV->Option Bool
 | [],[]=>some true
 | [],_::_=>some false
 | _::_,[]=>some false
 | a::as,b::bs=>match pyEq a b,pyEqs as bs with
  | some x,some y=>some (x&&y)
  | _,_=>Option.none
end
noncomputable def AV.depth:AV->Nat
 | .tup vs=>depths vs+1
 | _=>0
where depths:List AV->Nat
 | []=>0
 | x::r=>max x.depth (depths r)
noncomputable def memTx (x:Tx):List AV->Bool
 | .str y::r=>txEq x y||memTx x r
 | _=>false
noncomputable def allTx:List AV->Bool
 | []=>true
 | .str _::r=>allTx r
 | _=>false
noncomputable def memNone:List AV->Option Bool
 | []=>some false
 | .none::r=>(memNone r).map fun _=>true
 | .int _::r=>memNone r
 | .str _::r=>memNone r
 | _::_=>Option.none
abbrev QV:=AV->Store->Prop
abbrev QX:=Store->Prop
noncomputable abbrev varW (e:Ev)(i:Nat)(P:AV->Prop):Prop:=match e i with
 | some a=>P a
 | Option.none=>False
noncomputable abbrev ifW (v:AV)(A B:Prop):Prop:=match v with
 | .bool true=>A
 | .bool false=>B
 | _=>False
noncomputable abbrev boolW (v:AV)(P:Bool->Prop):Prop:=match v with
 | .bool b=>P b
 | _=>False
noncomputable abbrev intW (v:AV)(P:Int->Prop):Prop:=match v with
 | .int b=>P b
 | _=>False
noncomputable abbrev tupW (v:AV)(P:List AV->Prop):Prop:=match v with
 | .tup b=>P b
 | _=>False
noncomputable abbrev strW (v:AV)(P:Tx->Prop):Prop:=match v with
 | .str b=>P b
 | _=>False
noncomputable abbrev oneW (v:Tx)(P:Nat->Prop):Prop:=match v with
 | [b]=>P b
 | _=>False
noncomputable abbrev objW (v:AV)(P:Nat->Prop):Prop:=match v with
 | .obj b=>P b
 | _=>False
noncomputable abbrev grdW (b:Bool)(P:Prop):Prop:=match b with
 | true=>P
 | false=>False
noncomputable abbrev optW {α:Type}(o:Option α)(P:α->Prop):Prop:=match o with
 | some x=>P x
 | Option.none=>False
@[irreducible] noncomputable def lstO (r:Nat) (J:Store) (P:List AV->Prop):Prop:=∃ l,J[r]?=some (.list l)∧P l
@[irreducible] noncomputable def dctO (r:Nat) (J:Store) (P:List (Tx×AV)->Prop):Prop:=∃ l,J[r]?=some (.dict l)∧P l
@[irreducible] noncomputable def memO (x:Tx) (r:Nat) (J:Store) (P:Bool->Prop):Prop:=(∃ l,J[r]?=some (.list l)∧allTx l=true∧P (memTx x l))∨(∃ es,J[r]?=some (.dict es)∧P (es.lookup x).isSome)
noncomputable def eqW (a b:AV)(Q:Bool->Prop):Prop:=optW (pyEq a b) fun r=>grdW (Nat.ble a.depth 100) (Q r)
noncomputable def addW (a b:AV)(J:Store)(Q:QV):Prop:=match a with
 | .int a=>intW b fun b=>Q (.int (a+b)) J
 | .str a=>strW b fun b=>a.length+b.length<=lid∧Q (.str (a++b)) J
 | .obj r=>objW b fun r'=>lstO r J fun l=>lstO r' J fun l'=>l.length+l'.length<=lid∧Q (.obj J.length) (J++[.list (l++l')])
 | _=>False
noncomputable def mulW (a b:AV)(J:Store)(Q:QV):Prop:=match a with
 | .int a=>intW b fun b=>a.natAbs<2 ^ 200∧b.natAbs<2 ^ 200∧Q (.int (a*b)) J
 | .obj r=>intW b fun n=>lstO r J fun l=>∃ i,l=[.int i]∧0<=n∧n<=(lid:Int)∧Q (.obj J.length) (J++[.list (List.replicate n.toNat (.int i))])
 | _=>False
noncomputable def binW (op:BOp)(a b:AV)(J:Store)(Q:QV):Prop:=match op with
 | .add=>addW a b J Q
 | .sub=>intW a fun a=>intW b fun b=>Q (.int (a-b)) J
 | .mul=>mulW a b J Q
 | .fdiv=>intW a fun a=>intW b fun b=>b≠0∧b.natAbs<2 ^ 200∧Q (.int (a.fdiv b)) J
 | .mod=>intW a fun a=>intW b fun b=>b≠0∧b.natAbs<2 ^ 200∧Q (.int (a.fmod b)) J
 | .band=>intW a fun a=>intW b fun b=>b=1∧Q (.int (a.fmod 2)) J
noncomputable def iaddW (op:BOp)(a b:AV)(J:Store)(Q:QV):Prop:=match op with
 | .add=>(match a with
  | .obj r=>objW b fun r'=>lstO r J fun l=>lstO r' J fun l'=>r≠r'∧l.length+l'.length<=lid∧Q (.obj r) (J.set r (.list (l++l')))
  | .int a=>intW b fun b=>Q (.int (a+b)) J
  | _=>False)
 | .sub=>intW a fun a=>intW b fun b=>Q (.int (a-b)) J
 | _=>False
noncomputable def inW (a b:AV)(J:Store)(Q:Bool->Prop):Prop:=match b with
 | .tup l=>strW a fun x=>grdW (allTx l) (Q (memTx x l))
 | .frz l=>strW a fun x=>grdW (allTx l) (Q (memTx x l))
 | .str l=>strW a fun x=>oneW x fun c=>Q (memN c l)
 | .obj o=>(match a with
  | .str x=>memO x o J Q
  | .none=>lstO o J fun l=>optW (memNone l) Q
  | _=>False)
 | _=>False
@[irreducible] noncomputable def noneW (a:AV) (Q:Bool->Prop):Prop:=match a with
 | .none=>Q true
 | .int _=>Q false
 | .str _=>Q false
 | .tup _=>Q false
 | _=>False
noncomputable def typW (a:AV)(b:Value)(Q:Bool->Prop):Prop:=match a,b with
 | .stat (.type a),.type b=>Q (a==b)
 | _,_=>False
noncomputable def isW (a b:AV)(Q:Bool->Prop):Prop:=match b with
 | .none=>noneW a Q
 | .stat v=>typW a v Q
 | _=>False
noncomputable def ordW (a b:AV)(Q:Int->Int->Prop):Prop:=intW a fun a=>intW b fun b=>Q a b
noncomputable def cmpW (op:COp)(a b:AV)(J:Store)(Q:Bool->Prop):Prop:=match op with
 | .eq=>eqW a b Q
 | .ne=>eqW a b fun r=>Q (!r)
 | .lt=>ordW a b fun a b=>Q (decide (a<b))
 | .le=>ordW a b fun a b=>Q (decide (a<=b))
 | .gt=>ordW a b fun a b=>Q (decide (a>b))
 | .ge=>ordW a b fun a b=>Q (decide (a ≥ b))
 | .isin=>inW a b J Q
 | .notin=>inW a b J fun r=>Q (!r)
 | .is=>isW a b Q
 | .isnot=>(match b with
  | .none=>noneW a fun r=>Q (!r)
  | _=>False)
noncomputable def ixOf (i:Int)(n:Nat):Option Nat:=
 if 0<=i then (if i<n then some i.toNat else Option.none) else (if 0<=i+n then some (i+n).toNat else Option.none)
noncomputable def atW (l:List AV)(i:AV)(Q:AV->Prop):Prop:=intW i fun i=>optW (ixOf i l.length) fun k=>optW l[k]? Q
noncomputable def idxW (o i:AV)(J:Store)(Q:AV->Prop):Prop:=match o with
 | .obj r=>(match i with
  | .int i=>lstO r J fun l=>optW (ixOf i l.length) fun k=>optW l[k]? Q
  | .str x=>dctO r J fun es=>optW (es.lookup x) Q
  | _=>False)
 | .tup l=>atW l i Q
 | .frz l=>atW l i Q
 | .str l=>intW i fun i=>optW (ixOf i l.length) fun k=>optW l[k]? fun x=>Q (.str [x])
 | _=>False
noncomputable def loOf:Option AV->Option Nat
 | Option.none=>some 0
 | some (.int i)=>if 0<=i then some i.toNat else Option.none
 | _=>Option.none
noncomputable def hiOf (n:Nat):Option AV->Option Nat
 | Option.none=>some n
 | some (.int i)=>if 0<=i then some i.toNat else Option.none
 | _=>Option.none
noncomputable def cut {α:Type}(l:List α)(lo hi:Nat):List α:=(l.take hi).drop lo
noncomputable def sliceW (o:AV)(lo hi:Option AV)(J:Store)(Q:QV):Prop:=match o with
 | .str l=>optW lo fun a=>optW hi fun b=>intW a fun a=>intW b fun b=>0<=a∧a<=b∧Q (.str (cut l a.toNat b.toNat)) J
 | .tup l=>(match hi with
  | Option.none=>optW lo fun a=>intW a fun a=>1<=a∧a<=l.length∧Q (.tup (l.drop a.toNat)) J
  | some _=>False)
 | .obj r=>lstO r J fun l=>optW (loOf lo) fun a=>optW (hiOf l.length hi) fun b=>Q (.obj J.length) (J++[.list (cut l a b)])
 | _=>False
noncomputable def rngList (lo hi st:Int):List Int:=
 if st=1 then (List.range (hi-lo).toNat).map fun (k:Nat)=>lo+(k:Int)
 else if st=-1 then (List.range (lo-hi).toNat).map fun (k:Nat)=>lo-(k:Int) else []
noncomputable def intTx (i:Int):Tx:=(toString i).toList.map Char.toNat
noncomputable def isDig (c:Nat):Bool:=48<=c&&c<=57
noncomputable def isUp (c:Nat):Bool:=65<=c&&c<=90
noncomputable def isLow (c:Nat):Bool:=97<=c&&c<=122
noncomputable def isAlp (c:Nat):Bool:=isUp c||isLow c
noncomputable def lowC (c:Nat):Nat:=if isUp c then c+32 else c
noncomputable def digVal (l:Tx):Nat:=l.foldl (fun n c=>10*n+(c-48)) 0
noncomputable def findC (c:Nat)(l:Tx)(i:Nat):Int:=
 match (l.drop i).findIdx? (·==c) with
 | some k=>(i+k:Nat)
 | Option.none=>-1
noncomputable def pre:Tx->Tx->Bool
 | [],_=>true
 | _::_,[]=>false
 | a::as,b::bs=>Nat.beq a b&&pre as bs
noncomputable def replS (a b:Tx):Nat->Tx->Tx
 | _,[]=>[]
 | 0,c::l=>(match pre a (c::l) with
  | true=>b++replS a b (a.length-1) l
  | false=>c::replS a b 0 l)
 | k+1,_::l=>replS a b k l
noncomputable def replTx (a b l:Tx):Tx:=replS a b 0 l
noncomputable def joinTx (sep:Tx):List Tx->Tx
 | []=>[]
 | [x]=>x
 | x::r=>x++sep++joinTx sep r
noncomputable def txsOf:List AV->Option (List Tx)
 | []=>some []
 | .str s::r=>(txsOf r).map (s::·)
 | _::_=>Option.none
noncomputable def lenW (v:AV)(J:Store)(Q:QV):Prop:=match v with
 | .obj r=>lstO r J fun l=>Q (.int l.length) J
 | .str s=>Q (.int s.length) J
 | .tup l=>Q (.int l.length) J
 | .frz l=>Q (.int l.length) J
 | .rng a b c=>(c=1∨c=-1)∧(rngList a b c).length<=lid∧Q (.int (rngList a b c).length) J
 | _=>False
noncomputable def toIntW (v:AV)(J:Store)(Q:QV):Prop:=match v with
 | .bool b=>Q (.int (if b then 1 else 0)) J
 | .str s=>s≠[]∧s.length<=600∧s.all isDig=true∧Q (.int (digVal s)) J
 | _=>False
noncomputable def bi1W (b:Bi)(v:AV)(J:Store)(Q:QV):Prop:=match b with
 | .len=>lenW v J Q
 | .str=>intW v fun i=>i.natAbs<2 ^ 100∧Q (.str (intTx i)) J
 | .int=>toIntW v J Q
 | .abs=>intW v fun i=>Q (.int i.natAbs) J
 | .range=>intW v fun a=>a.natAbs<=lid∧Q (.rng 0 a 1) J
 | .sum=>(match v with
  | .rng a b c=>(c=1∨c=-1)∧(rngList a b c).length<=lid∧Q (.int (rngList a b c).sum) J
  | _=>False)
 | .tuple=>objW v fun r=>lstO r J fun l=>Q (.tup l) J
 | .type=>intW v fun _=>Q (.stat (.type "int")) J
 | _=>False
noncomputable def bi2W (b:Bi)(v w:AV)(J:Store)(Q:QV):Prop:=intW v fun x=>intW w fun y=>match b with
 | .range=>x.natAbs<=lid∧y.natAbs<=lid∧Q (.rng x y 1) J
 | .min=>Q (.int (min x y)) J
 | .max=>Q (.int (max x y)) J
 | _=>False
noncomputable def bi3W (b:Bi)(u v w:AV)(J:Store)(Q:QV):Prop:=match b with
 | .range=>intW u fun a=>intW v fun b=>intW w fun c=>a.natAbs<=lid∧b.natAbs<=lid∧c=-1∧Q (.rng a b c) J
 | _=>False
noncomputable def biW (b:Bi)(vs:List AV)(J:Store)(Q:QV):Prop:=match vs with
 | [u]=>bi1W b u J Q
 | [u,v]=>bi2W b u v J Q
 | [u,v,w]=>bi3W b u v w J Q
 | _=>False
noncomputable def bm0W (m:Bm)(v:AV)(J:Store)(Q:QV):Prop:=match m with
 | .pop=>objW v fun r=>lstO r J fun l'=>∃ l x,l'=l++[x]∧Q x (J.set r (.list l))
 | .isascii=>strW v fun s=>oneW s fun c=>Q (.bool (Nat.blt c 128)) J
 | .isalpha=>strW v fun s=>oneW s fun c=>grdW (Nat.blt c 128) (Q (.bool (isAlp c)) J)
 | .isalnum=>strW v fun s=>oneW s fun c=>grdW (Nat.blt c 128) (Q (.bool (isAlp c||isDig c)) J)
 | .isdigit=>strW v fun s=>oneW s fun c=>grdW (Nat.blt c 128) (Q (.bool (isDig c)) J)
 | .lower=>strW v fun s=>(∀ c∈s,c<128)∧Q (.str (s.map lowC)) J
 | _=>False
noncomputable def bm1W (m:Bm)(v x:AV)(J:Store)(Q:QV):Prop:=match m with
 | .append=>objW v fun r=>lstO r J fun l=>l.length<lid∧Q .none (J.set r (.list (l++[x])))
 | .join=>strW v fun s=>objW x fun r=>lstO r J fun l=>∃ ts,txsOf l=some ts∧(ts.map List.length).sum+ts.length*s.length<=lid∧Q (.str (joinTx s ts)) J
 | _=>False
noncomputable def bm2W (m:Bm)(v x y:AV)(J:Store)(Q:QV):Prop:=match m with
 | .find=>strW v fun s=>strW x fun t=>oneW t fun c=>intW y fun i=>0<=i∧i<=s.length∧Q (.int (findC c s i.toNat)) J
 | .replace=>strW v fun s=>strW x fun a=>strW y fun b=>a≠[]∧a≠b∧s.length+(s.length+1)*b.length<=lid∧Q (.str (replTx a b s)) J
 | _=>False
noncomputable def bmW (m:Bm)(v:AV)(vs:List AV)(J:Store)(Q:QV):Prop:=match vs with
 | []=>bm0W m v J Q
 | [x]=>bm1W m v x J Q
 | [x,y]=>bm2W m v x y J Q
 | _=>False
noncomputable def bmTy (m:Bm)(v:AV)(J:Store)(P:Prop):Prop:=match v with
 | .obj r=>(match m with
  | .append | .pop=>lstO r J fun _=>P
  | _=>False)
 | .str _=>(match m with
  | .append | .pop=>False
  | _=>P)
 | _=>False
noncomputable def noStat:AV->Bool
 | .stat _=>false
 | _=>true
@[irreducible] noncomputable def attrW (v:AV) (x:At) (J:Store) (Q:AV->Prop):Prop:=∃ r c fs a,v=.obj r∧J[r]?=some (.inst c fs)∧fs.lookup x=some a∧noStat a=true∧Q a
noncomputable def putF (x:At)(v:AV):List (At×AV)->List (At×AV)
 | []=>[(x,v)]
 | (y,w)::r=>if y=x then (y,v)::r else (y,w)::putF x v r
@[irreducible] noncomputable def setAttrW (v:AV) (x:At) (a:AV) (J:Store) (Q:QX):Prop:=∃ r c fs,v=.obj r∧J[r]?=some (.inst c fs)∧Q (J.set r (.inst c (putF x a fs)))
noncomputable def putD (x:Tx)(v:AV):List (Tx×AV)->List (Tx×AV)
 | []=>[(x,v)]
 | (y,w)::r=>cond (txEq y x) ((y,v)::r) ((y,w)::putD x v r)
noncomputable def setIdxW (o i v:AV)(J:Store)(Q:QX):Prop:=objW o fun r=>match i with
 | .int i=>lstO r J fun l=>optW (ixOf i l.length) fun k=>Q (J.set r (.list (l.set k v)))
 | .str x=>dctO r J fun es=>es.length<lid∧Q (J.set r (.dict (putD x v es)))
 | _=>False
noncomputable def setSliceW (o lo hi v:AV)(J:Store)(Q:QX):Prop:=objW o fun r=>intW lo fun a=>intW hi fun b=>objW v fun r'=>lstO r J fun l=>lstO r' J fun l'=>r≠r'∧a=b∧0<=a∧a<=l.length∧l.length+l'.length<=lid∧Q (J.set r (.list (l.take a.toNat++l'++l.drop a.toNat)))
noncomputable def delFromW (o lo:AV)(J:Store)(Q:QX):Prop:=objW o fun r=>intW lo fun a=>lstO r J fun l=>0<=a∧a<=l.length∧Q (J.set r (.list (l.take a.toNat)))
noncomputable def picks (m j:Nat):List AV->Option (List AV)
 | []=>some []
 | .tup vs::r=>(match Nat.beq vs.length m,vs[j]? with
  | true,some y=>(picks m j r).map (y::·)
  | _,_=>Option.none)
 | _::_=>Option.none
noncomputable def sel (a:AV)(k:Int):Nat->List AV->List AV
 | _,[]=>[]
 | n,x::r=>(if (n:Int)=k then a else x)::sel a k (n+1) r
abbrev Calls:=Nat->List AV->Store->QV->QX->Prop
structure Stat where
 glob:Nat->Option AV
 init:Nat->Option Nat
 clsOf:Nat->Option Nat
section
variable (T:Stat)(C:Calls)
@[irreducible] noncomputable def methW (f:Nat) (v:AV) (J:Store) (P:Nat->Prop):Prop:=∃ r c fs,v=.obj r∧J[r]?=some (.inst c fs)∧T.clsOf f=some c∧P r
mutual
noncomputable def evW:E->Ev->Store->QV->QX->Prop
 | .none,_,J,Q,_=>Q .none J
 | .bool b,_,J,Q,_=>Q (.bool b) J
 | .int i,_,J,Q,_=>Q (.int i) J
 | .str s,_,J,Q,_=>Q (.str s) J
 | .v i,e,J,Q,_=>varW e i fun a=>Q a J
 | .g i,_,J,Q,_=>optW (T.glob i) fun a=>Q a J
 | .bin op a b,e,J,Q,X=>evW a e J (fun va J1=>evW b e J1 (fun vb J2=>binW op va vb J2 Q) X) X
 | .neg a,e,J,Q,X=>evW a e J (fun va J1=>intW va fun i=>Q (.int (-i)) J1) X
 | .not a,e,J,Q,X=>evW a e J (fun va J1=>boolW va fun b=>Q (.bool (!b)) J1) X
 | .cmp op a b,e,J,Q,X=>evW a e J (fun va J1=>evW b e J1 (fun vb J2=>cmpW op va vb J2 fun r=>Q (.bool r) J2) X) X
 | .cmp2 o1 o2 a b c,e,J,Q,X=>evW a e J (fun va J1=>evW b e J1 (fun vb J2=>cmpW o1 va vb J2 fun r=>ifW (.bool r) (evW c e J2 (fun vc J3=>cmpW o2 vb vc J3 fun r=>Q (.bool r) J3) X) (Q (.bool false) J2)) X) X
 | .all es,e,J,Q,X=>allW es e J Q X
 | .any es,e,J,Q,X=>anyW es e J Q X
 | .ite c a b,e,J,Q,X=>evW c e J (fun vc J1=>ifW vc (evW a e J1 Q X) (evW b e J1 Q X)) X
 | .call f as,e,J,Q,X=>evsW as e J (fun vs J1=>T.clsOf f=Option.none∧C f vs J1 Q X) X
 | .new c as,e,J,Q,X=>evsW as e J (fun vs J1=>∃ f,T.init c=some f∧T.clsOf f=some c∧C f (.obj J1.length::vs) (J1++[.inst c []]) (fun r J2=>r=.none∧Q (.obj J1.length) J2) X) X
 | .meth o f as,e,J,Q,X=>evW o e J (fun vo J1=>methW T f vo J1 fun r=>evsW as e J1 (fun vs J2=>C f (.obj r::vs) J2 Q X) X) X
 | .bi b as,e,J,Q,X=>evsW as e J (fun vs J1=>biW b vs J1 Q) X
 | .bm o m as,e,J,Q,X=>evW o e J (fun vo J1=>bmTy m vo J1 (evsW as e J1 (fun vs J2=>bmW m vo vs J2 Q) X)) X
 | .attr o x,e,J,Q,X=>evW o e J (fun vo J1=>attrW vo x J1 fun v=>Q v J1) X
 | .idx o i,e,J,Q,X=>evW o e J (fun vo J1=>evW i e J1 (fun vi J2=>idxW vo vi J2 fun v=>Q v J2) X) X
 | .slice o lo hi,e,J,Q,X=>evW o e J (fun vo J1=>evoW lo e J1 (fun vl J2=>evoW hi e J2 (fun vh J3=>sliceW vo vl vh J3 Q) X) X) X
 | .tuple as,e,J,Q,X=>evsW as e J (fun vs J1=>grdW (Nat.ble vs.length lid) (Q (.tup vs) J1)) X
 | .list as,e,J,Q,X=>evsW as e J (fun vs J1=>grdW (Nat.ble vs.length lid) (Q (.obj J1.length) (J1++[.list vs]))) X
 | .dict0,_,J,Q,_=>Q (.obj J.length) (J++[.dict []])
 | .compVar m j src,e,J,Q,X=>evW src e J (fun vs J1=>tupW vs fun l=>optW (picks m j l) fun ys=>Q (.obj J1.length) (J1++[.list ys])) X
 | .compPair cap src,e,J,Q,X=>evW src e J (fun vs J1=>objW vs fun r=>lstO r J1 fun l=>varW e cap fun a=>Q (.obj J1.length) (J1++[.list (l.map fun x=>.tup [x,a])])) X
 | .compSel v spot src,e,J,Q,X=>evW src e J (fun vs J1=>objW vs fun r=>lstO r J1 fun l=>varW e v fun a=>varW e spot fun k=>intW k fun k=>Q (.obj J1.length) (J1++[.list (sel a k 0 l)])) X
noncomputable def evsW:Es->Ev->Store->(List AV->Store->Prop)->QX->Prop
 | .nil,_,J,Q,_=>Q [] J
 | .cons a as,e,J,Q,X=>evW a e J (fun va J1=>evsW as e J1 (fun vs J2=>Q (va::vs) J2) X) X
noncomputable def evoW:Eo->Ev->Store->(Option AV->Store->Prop)->QX->Prop
 | .no,_,J,Q,_=>Q Option.none J
 | .yes a,e,J,Q,X=>evW a e J (fun va J1=>Q (some va) J1) X
noncomputable def allW:Es->Ev->Store->QV->QX->Prop
 | .nil,_,_,_,_=>False
 | .cons a .nil,e,J,Q,X=>evW a e J (fun va J1=>boolW va fun b=>Q (.bool b) J1) X
 | .cons a as,e,J,Q,X=>evW a e J (fun va J1=>ifW va (allW as e J1 Q X) (Q (.bool false) J1)) X
noncomputable def anyW:Es->Ev->Store->QV->QX->Prop
 | .nil,_,_,_,_=>False
 | .cons a .nil,e,J,Q,X=>evW a e J (fun va J1=>boolW va fun b=>Q (.bool b) J1) X
 | .cons a as,e,J,Q,X=>evW a e J (fun va J1=>ifW va (Q (.bool true) J1) (anyW as e J1 Q X)) X
end
abbrev QF:=Fl->Ev->Store->Prop
abbrev XS:=Ev->Store->Prop
noncomputable def whlW (c:Ev->Store->QV->QX->Prop)(b:Ev->Store->QF->XS->Prop):Nat->Ev->Store->QF->XS->Prop
 | 0,_,_,_,_=>False
 | k+1,e,J,Q,X=>c e J (fun r J1=>ifW r (b e J1 (fun f e' J2=>match f with
   | .next | .cont=>whlW c b k e' J2 Q X
   | .brk=>Q .next e' J2
   | .ret v=>Q (.ret v) e' J2) X) (Q .next e J1)) (X e)
noncomputable def forW (tg:Ev->AV->(Ev->Prop)->Prop)(b:Ev->Store->QF->XS->Prop):List AV->Ev->Store->QF->XS->Prop
 | [],e,J,Q,_=>Q .next e J
 | x::r,e,J,Q,X=>tg e x fun e1=>b e1 J (fun f e' J2=>match f with
   | .next | .cont=>forW tg b r e' J2 Q X
   | .brk=>Q .next e' J2
   | .ret v=>Q (.ret v) e' J2) X
noncomputable def itemsOf:AV->Option (List AV)
 | .tup l=>some l
 | .rng a b c=>if c=1∨c=-1 then some ((rngList a b c).map .int) else Option.none
 | _=>Option.none
noncomputable def constOf:E->Option AV
 | .bool b=>some (.bool b)
 | .str s=>some (.str s)
 | _=>Option.none
noncomputable def tg1 (i:Nat):Ev->AV->(Ev->Prop)->Prop:=fun e x Q=>Q (upd e i x)
noncomputable def tgT (is:List Nat):Ev->AV->(Ev->Prop)->Prop:=fun e x Q=>match x with
 | .tup vs=>grdW (Nat.beq vs.length is.length) (Q (upds e is vs))
 | _=>False
mutual
noncomputable def stW:S->Ev->Store->QF->XS->Prop
 | .expr a,e,J,Q,X=>evW T C a e J (fun _ J1=>Q .next e J1) (X e)
 | .set i a,e,J,Q,X=>evW T C a e J (fun v J1=>Q .next (upd e i v) J1) (X e)
 | .setT is a,e,J,Q,X=>evW T C a e J (fun v J1=>tgT is e v fun e1=>Q .next e1 J1) (X e)
 | .setAttr o x a,e,J,Q,X=>evW T C a e J (fun v J1=>evW T C o e J1 (fun vo J2=>setAttrW vo x v J2 fun J3=>Q .next e J3) (X e)) (X e)
 | .setIdx o i a,e,J,Q,X=>evW T C a e J (fun v J1=>evW T C o e J1 (fun vo J2=>evW T C i e J2 (fun vi J3=>setIdxW vo vi v J3 fun J4=>Q .next e J4) (X e)) (X e)) (X e)
 | .setSlice o lo hi a,e,J,Q,X=>evW T C a e J (fun v J1=>evW T C o e J1 (fun vo J2=>evW T C lo e J2 (fun vl J3=>evW T C hi e J3 (fun vh J4=>setSliceW vo vl vh v J4 fun J5=>Q .next e J5) (X e)) (X e)) (X e)) (X e)
 | .aug i op a,e,J,Q,X=>varW e i fun old=>evW T C a e J (fun v J1=>iaddW op old v J1 fun w J2=>Q .next (upd e i w) J2) (X e)
 | .augAttr o x op a,e,J,Q,X=>evW T C o e J (fun vo J1=>attrW vo x J1 fun old=>evW T C a e J1 (fun v J2=>iaddW op old v J2 fun w J3=>setAttrW vo x w J3 fun J4=>Q .next e J4) (X e)) (X e)
 | .augIdx o i op a,e,J,Q,X=>evW T C o e J (fun vo J1=>evW T C i e J1 (fun vi J2=>idxW vo vi J2 fun old=>evW T C a e J2 (fun v J3=>iaddW op old v J3 fun w J4=>setIdxW vo vi w J4 fun J5=>Q .next e J5) (X e)) (X e)) (X e)
 | .delFrom o lo,e,J,Q,X=>evW T C o e J (fun vo J1=>evW T C lo e J1 (fun vl J2=>delFromW vo vl J2 fun J3=>Q .next e J3) (X e)) (X e)
 | .ifs c a b,e,J,Q,X=>evW T C c e J (fun vc J1=>ifW vc (ssW a e J1 Q X) (ssW b e J1 Q X)) (X e)
 | .whl c b,e,J,Q,X=>∃ k,whlW (evW T C c) (ssW b) k e J Q X
 | .for1 i src b,e,J,Q,X=>evW T C src e J (fun v J1=>optW (itemsOf v) fun l=>forW (tg1 i) (ssW b) l e J1 Q X) (X e)
 | .forT is src b,e,J,Q,X=>evW T C src e J (fun v J1=>optW (itemsOf v) fun l=>forW (tgT is) (ssW b) l e J1 Q X) (X e)
 | .ret a,e,J,Q,X=>evW T C a e J (fun v J1=>Q (.ret v) e J1) (X e)
 | .raise a,e,J,_,X=>evW T C a e J (fun _ J1=>X e J1) (X e)
 | .brk,e,J,Q,_=>Q .brk e J
 | .cont,e,J,Q,_=>Q .cont e J
 | .tryVE b i c,e,J,Q,X=>optW (constOf c) fun v=>ssW b e J Q (fun e1 J1=>Q .next (upd e1 i v) J1)
noncomputable def ssW:Ss->Ev->Store->QF->XS->Prop
 | .nil,e,J,Q,_=>Q .next e J
 | .cons s .nil,e,J,Q,X=>stW s e J Q X
 | .cons s ss,e,J,Q,X=>stW s e J (fun f e1 J1=>match f with
   | .next=>ssW ss e1 J1 Q X
   | f=>Q f e1 J1) X
end
end
structure FDef where
 np:Nat
 body:Ss
noncomputable def callW (T:Stat)(D:Nat->Option FDef):Nat->Calls
 | 0=>fun _ _ _ _ _=>False
 | n+1=>fun f vs J Q X=>∃ d,D f=some d∧vs.length=d.np∧
   ssW T (callW T D n) d.body (fun i=>vs[i]?) J (fun fl _ J'=>match fl with
    | .ret v=>Q v J'
    | .next=>Q .none J'
    | _=>False) (fun _ J'=>X J')
noncomputable def ir0c0:E:=(.all (.cons (.cmp .lt (.v 4) (.bi .len (.cons (.v 0) .nil))) (.cons (.bm (.idx (.v 0) (.v 4)) .isascii .nil) (.cons (.bm (.idx (.v 0) (.v 4)) .isdigit .nil) .nil))))
noncomputable def ir0b0:Ss:=(.cons (.aug 4 .add (.int 1)) .nil)
noncomputable def ir0c1:E:=(.all (.cons (.cmp .lt (.v 4) (.bi .len (.cons (.v 0) .nil))) (.cons (.bm (.idx (.v 0) (.v 4)) .isascii .nil) (.cons (.bm (.idx (.v 0) (.v 4)) .isalnum .nil) .nil))))
noncomputable def ir0b1:Ss:=(.cons (.aug 4 .add (.int 1)) .nil)
noncomputable def ir0c2:E:=(.cmp .lt (.v 2) (.bi .len (.cons (.v 0) .nil)))
noncomputable def ir0b2:Ss:=(.cons (.set 3 (.idx (.v 0) (.v 2))) (.cons (.ifs (.cmp .isin (.v 3) (.str [32,10])) (.cons (.aug 2 .add (.int 1)) (.cons .cont .nil)) .nil) (.cons (.ifs (.cmp .eq (.v 3) (.str [123])) (.cons (.set 4 (.bm (.v 0) .find (.cons (.str [125]) (.cons (.v 2) .nil)))) (.cons (.ifs (.cmp .lt (.v 4) (.int 0)) (.cons (.raise (.str [110,111,116,101])) .nil) .nil) (.cons (.set 2 (.bin .add (.v 4) (.int 1))) (.cons .cont .nil)))) .nil) (.cons (.ifs (.all (.cons (.bm (.v 3) .isascii .nil) (.cons (.bm (.v 3) .isalpha .nil) .nil))) (.cons (.set 4 (.v 2)) (.cons (.whl ir0c1 ir0b1) (.cons (.set 5 (.bm (.slice (.v 0) (.yes (.v 2)) (.yes (.v 4))) .lower .nil)) (.cons (.expr (.bm (.v 1) .append (.cons (.tuple (.cons (.ite (.cmp .isin (.v 5) (.g 0)) (.str [119,111,114,100]) (.str [110,97,109,101])) (.cons (.v 5) .nil))) .nil))) (.cons (.set 2 (.v 4)) (.cons .cont .nil)))))) .nil) (.cons (.ifs (.all (.cons (.bm (.v 3) .isascii .nil) (.cons (.bm (.v 3) .isdigit .nil) .nil))) (.cons (.set 4 (.v 2)) (.cons (.whl ir0c0 ir0b0) (.cons (.ifs (.all (.cons (.cmp .lt (.v 4) (.bi .len (.cons (.v 0) .nil))) (.cons (.bm (.idx (.v 0) (.v 4)) .isascii .nil) (.cons (.bm (.idx (.v 0) (.v 4)) .isalpha .nil) .nil)))) (.cons (.raise (.str [105,110,116])) .nil) .nil) (.cons (.expr (.bm (.v 1) .append (.cons (.tuple (.cons (.str [105,110,116]) (.cons (.bi .int (.cons (.slice (.v 0) (.yes (.v 2)) (.yes (.v 4))) .nil)) .nil))) .nil))) (.cons (.set 2 (.v 4)) (.cons .cont .nil)))))) .nil) (.cons (.set 6 (.slice (.v 0) (.yes (.v 2)) (.yes (.bin .add (.v 2) (.int 2))))) (.cons (.ifs (.cmp .notin (.v 6) (.tuple (.cons (.str [58,61]) (.cons (.str [60,62]) (.cons (.str [60,61]) (.cons (.str [62,61]) .nil)))))) (.cons (.set 6 (.v 3)) .nil) .nil) (.cons (.ifs (.all (.cons (.cmp .eq (.v 6) (.v 3)) (.cons (.cmp .notin (.v 3) (.str [43,45,42,61,60,62,40,41,91,93,44,59,58,46])) .nil))) (.cons (.raise (.v 3)) .nil) .nil) (.cons (.expr (.bm (.v 1) .append (.cons (.tuple (.cons (.str [119,111,114,100]) (.cons (.v 6) .nil))) .nil))) (.cons (.aug 2 .add (.bi .len (.cons (.v 6) .nil))) .nil))))))))))
noncomputable def ir0:FDef:=⟨1,(.cons (.set 1 (.list .nil)) (.cons (.set 2 (.int 0)) (.cons (.whl ir0c2 ir0b2) (.cons (.ret (.bin .add (.v 1) (.list (.cons (.tuple (.cons (.str [101,110,100]) (.cons (.str []) .nil))) .nil)))) .nil))))⟩
noncomputable def ir1:FDef:=⟨2,(.cons (.setAttr (.v 0) .ts (.call 0 (.cons (.v 1) .nil))) (.cons (.setAttr (.v 0) .pos (.int 0)) .nil))⟩
noncomputable def ir2:FDef:=⟨2,(.cons (.ret (.cmp .eq (.idx (.attr (.v 0) .ts) (.attr (.v 0) .pos)) (.tuple (.cons (.str [119,111,114,100]) (.cons (.v 1) .nil))))) .nil)⟩
noncomputable def ir3:FDef:=⟨2,(.cons (.ifs (.not (.meth (.v 0) 2 (.cons (.v 1) .nil))) (.cons (.raise (.tuple (.cons (.v 1) (.cons (.idx (.attr (.v 0) .ts) (.attr (.v 0) .pos)) .nil)))) .nil) .nil) (.cons (.augAttr (.v 0) .pos .add (.int 1)) .nil))⟩
noncomputable def ir4:FDef:=⟨2,(.cons (.ifs (.meth (.v 0) 2 (.cons (.v 1) .nil)) (.cons (.augAttr (.v 0) .pos .add (.int 1)) (.cons (.ret (.bool true)) .nil)) .nil) (.cons (.ret (.bool false)) .nil))⟩
noncomputable def ir5:FDef:=⟨2,(.cons (.setT [2,3] (.idx (.attr (.v 0) .ts) (.attr (.v 0) .pos))) (.cons (.ifs (.cmp .ne (.v 2) (.v 1)) (.cons (.raise (.tuple (.cons (.v 1) (.cons (.idx (.attr (.v 0) .ts) (.attr (.v 0) .pos)) .nil)))) .nil) .nil) (.cons (.augAttr (.v 0) .pos .add (.int 1)) (.cons (.ret (.v 3)) .nil))))⟩
noncomputable def ir6c0:E:=(.any (.cons (.meth (.v 0) 2 (.cons (.str [43]) .nil)) (.cons (.meth (.v 0) 2 (.cons (.str [45]) .nil)) .nil)))
noncomputable def ir6b0:Ss:=(.cons (.set 2 (.meth (.v 0) 5 (.cons (.str [119,111,114,100]) .nil))) (.cons (.set 1 (.tuple (.cons (.v 2) (.cons (.v 1) (.cons (.meth (.v 0) 7 .nil) .nil))))) .nil))
noncomputable def ir6:FDef:=⟨1,(.cons (.set 1 (.meth (.v 0) 7 .nil)) (.cons (.whl ir6c0 ir6b0) (.cons (.ret (.v 1)) .nil)))⟩
noncomputable def ir7c0:E:=(.any (.cons (.meth (.v 0) 2 (.cons (.str [42]) .nil)) (.cons (.meth (.v 0) 2 (.cons (.str [100,105,118]) .nil)) (.cons (.meth (.v 0) 2 (.cons (.str [109,111,100]) .nil)) .nil))))
noncomputable def ir7b0:Ss:=(.cons (.set 2 (.meth (.v 0) 5 (.cons (.str [119,111,114,100]) .nil))) (.cons (.set 1 (.tuple (.cons (.v 2) (.cons (.v 1) (.cons (.meth (.v 0) 8 .nil) .nil))))) .nil))
noncomputable def ir7:FDef:=⟨1,(.cons (.set 1 (.meth (.v 0) 8 .nil)) (.cons (.whl ir7c0 ir7b0) (.cons (.ret (.v 1)) .nil)))⟩
noncomputable def ir8:FDef:=⟨1,(.cons (.ifs (.meth (.v 0) 4 (.cons (.str [45]) .nil)) (.cons (.ret (.tuple (.cons (.str [110,101,103]) (.cons (.meth (.v 0) 8 .nil) .nil)))) .nil) .nil) (.cons (.ifs (.meth (.v 0) 4 (.cons (.str [40]) .nil)) (.cons (.set 1 (.meth (.v 0) 6 .nil)) (.cons (.expr (.meth (.v 0) 3 (.cons (.str [41]) .nil))) (.cons (.ret (.v 1)) .nil))) .nil) (.cons (.ifs (.cmp .eq (.idx (.idx (.attr (.v 0) .ts) (.attr (.v 0) .pos)) (.int 0)) (.str [105,110,116])) (.cons (.ret (.tuple (.cons (.str [105,110,116]) (.cons (.meth (.v 0) 5 (.cons (.str [105,110,116]) .nil)) .nil)))) .nil) .nil) (.cons (.set 2 (.meth (.v 0) 5 (.cons (.str [110,97,109,101]) .nil))) (.cons (.ifs (.meth (.v 0) 4 (.cons (.str [91]) .nil)) (.cons (.set 1 (.meth (.v 0) 6 .nil)) (.cons (.expr (.meth (.v 0) 3 (.cons (.str [93]) .nil))) (.cons (.ret (.tuple (.cons (.str [97,116]) (.cons (.v 2) (.cons (.v 1) .nil))))) .nil))) .nil) (.cons (.ret (.tuple (.cons (.str [110,97,109,101]) (.cons (.v 2) .nil)))) .nil))))))⟩
noncomputable def ir9:FDef:=⟨1,(.cons (.ifs (.meth (.v 0) 4 (.cons (.str [111,100,100]) .nil)) (.cons (.expr (.meth (.v 0) 3 (.cons (.str [40]) .nil))) (.cons (.set 1 (.meth (.v 0) 6 .nil)) (.cons (.expr (.meth (.v 0) 3 (.cons (.str [41]) .nil))) (.cons (.ret (.tuple (.cons (.str [111,100,100]) (.cons (.v 1) .nil)))) .nil)))) .nil) (.cons (.set 2 (.meth (.v 0) 6 .nil)) (.cons (.set 3 (.meth (.v 0) 5 (.cons (.str [119,111,114,100]) .nil))) (.cons (.ifs (.cmp .notin (.v 3) (.g 1)) (.cons (.raise (.v 3)) .nil) .nil) (.cons (.ret (.tuple (.cons (.v 3) (.cons (.v 2) (.cons (.meth (.v 0) 6 .nil) .nil))))) .nil)))))⟩
noncomputable def ir10c0:E:=(.meth (.v 0) 4 (.cons (.str [59]) .nil))
noncomputable def ir10b0:Ss:=(.cons (.expr (.bm (.v 1) .append (.cons (.meth (.v 0) 11 .nil) .nil))) .nil)
noncomputable def ir10:FDef:=⟨1,(.cons (.set 1 (.list (.cons (.meth (.v 0) 11 .nil) .nil))) (.cons (.whl ir10c0 ir10b0) (.cons (.ret (.bi .tuple (.cons (.v 1) .nil))) .nil)))⟩
noncomputable def ir11c0:E:=(.meth (.v 0) 4 (.cons (.str [44]) .nil))
noncomputable def ir11b0:Ss:=(.cons (.expr (.bm (.v 9) .append (.cons (.meth (.v 0) 6 .nil) .nil))) .nil)
noncomputable def ir11:FDef:=⟨1,(.cons (.ifs (.meth (.v 0) 4 (.cons (.str [105,102]) .nil)) (.cons (.set 1 (.meth (.v 0) 9 .nil)) (.cons (.expr (.meth (.v 0) 3 (.cons (.str [116,104,101,110]) .nil))) (.cons (.set 2 (.meth (.v 0) 11 .nil)) (.cons (.ret (.tuple (.cons (.str [105,102]) (.cons (.v 1) (.cons (.v 2) (.cons (.ite (.meth (.v 0) 4 (.cons (.str [101,108,115,101]) .nil)) (.meth (.v 0) 11 .nil) .none) .nil)))))) .nil)))) .nil) (.cons (.ifs (.meth (.v 0) 4 (.cons (.str [119,104,105,108,101]) .nil)) (.cons (.set 1 (.meth (.v 0) 9 .nil)) (.cons (.expr (.meth (.v 0) 3 (.cons (.str [100,111]) .nil))) (.cons (.ret (.tuple (.cons (.str [119,104,105,108,101]) (.cons (.v 1) (.cons (.meth (.v 0) 11 .nil) .nil))))) .nil))) .nil) (.cons (.ifs (.meth (.v 0) 4 (.cons (.str [114,101,112,101,97,116]) .nil)) (.cons (.set 3 (.meth (.v 0) 10 .nil)) (.cons (.expr (.meth (.v 0) 3 (.cons (.str [117,110,116,105,108]) .nil))) (.cons (.ret (.tuple (.cons (.str [114,101,112,101,97,116]) (.cons (.v 3) (.cons (.meth (.v 0) 9 .nil) .nil))))) .nil))) .nil) (.cons (.ifs (.meth (.v 0) 4 (.cons (.str [102,111,114]) .nil)) (.cons (.set 4 (.meth (.v 0) 5 (.cons (.str [110,97,109,101]) .nil))) (.cons (.expr (.meth (.v 0) 3 (.cons (.str [58,61]) .nil))) (.cons (.set 2 (.meth (.v 0) 6 .nil)) (.cons (.set 5 (.meth (.v 0) 4 (.cons (.str [116,111]) .nil))) (.cons (.ifs (.not (.v 5)) (.cons (.expr (.meth (.v 0) 3 (.cons (.str [100,111,119,110,116,111]) .nil))) .nil) .nil) (.cons (.set 6 (.meth (.v 0) 6 .nil)) (.cons (.expr (.meth (.v 0) 3 (.cons (.str [100,111]) .nil))) (.cons (.ret (.tuple (.cons (.str [102,111,114]) (.cons (.v 4) (.cons (.v 2) (.cons (.v 6) (.cons (.v 5) (.cons (.meth (.v 0) 11 .nil) .nil)))))))) .nil)))))))) .nil) (.cons (.ifs (.meth (.v 0) 4 (.cons (.str [98,101,103,105,110]) .nil)) (.cons (.set 3 (.meth (.v 0) 10 .nil)) (.cons (.expr (.meth (.v 0) 3 (.cons (.str [101,110,100]) .nil))) (.cons (.ret (.tuple (.cons (.str [98,101,103,105,110]) (.cons (.v 3) .nil)))) .nil))) .nil) (.cons (.ifs (.meth (.v 0) 4 (.cons (.str [119,114,105,116,101]) .nil)) (.cons (.expr (.meth (.v 0) 3 (.cons (.str [40]) .nil))) (.cons (.set 7 (.meth (.v 0) 6 .nil)) (.cons (.expr (.meth (.v 0) 3 (.cons (.str [41]) .nil))) (.cons (.ret (.tuple (.cons (.str [119,114,105,116,101]) (.cons (.v 7) .nil)))) .nil)))) .nil) (.cons (.ifs (.cmp .eq (.idx (.idx (.attr (.v 0) .ts) (.attr (.v 0) .pos)) (.int 0)) (.str [110,97,109,101])) (.cons (.set 4 (.meth (.v 0) 5 (.cons (.str [110,97,109,101]) .nil))) (.cons (.ifs (.meth (.v 0) 4 (.cons (.str [58,61]) .nil)) (.cons (.ret (.tuple (.cons (.str [115,101,116]) (.cons (.v 4) (.cons .none (.cons (.meth (.v 0) 6 .nil) .nil)))))) .nil) .nil) (.cons (.ifs (.meth (.v 0) 4 (.cons (.str [91]) .nil)) (.cons (.set 8 (.meth (.v 0) 6 .nil)) (.cons (.expr (.meth (.v 0) 3 (.cons (.str [93]) .nil))) (.cons (.expr (.meth (.v 0) 3 (.cons (.str [58,61]) .nil))) (.cons (.ret (.tuple (.cons (.str [115,101,116]) (.cons (.v 4) (.cons (.v 8) (.cons (.meth (.v 0) 6 .nil) .nil)))))) .nil)))) .nil) (.cons (.set 9 (.list .nil)) (.cons (.ifs (.meth (.v 0) 4 (.cons (.str [40]) .nil)) (.cons (.expr (.bm (.v 9) .append (.cons (.meth (.v 0) 6 .nil) .nil))) (.cons (.whl ir11c0 ir11b0) (.cons (.expr (.meth (.v 0) 3 (.cons (.str [41]) .nil))) .nil))) .nil) (.cons (.ret (.tuple (.cons (.str [99,97,108,108]) (.cons (.v 4) (.cons (.bi .tuple (.cons (.v 9) .nil)) .nil))))) .nil)))))) .nil) (.cons (.ret (.tuple (.cons (.str [101,109,112,116,121]) .nil))) .nil))))))))⟩
noncomputable def ir12c0:E:=(.bool true)
noncomputable def ir12b0:Ss:=(.cons (.set 7 (.meth (.v 0) 4 (.cons (.str [118,97,114]) .nil))) (.cons (.expr (.bm (.v 6) .append (.cons (.tuple (.cons (.meth (.v 0) 5 (.cons (.str [110,97,109,101]) .nil)) (.cons (.v 7) .nil))) .nil))) (.cons (.ifs (.not (.meth (.v 0) 4 (.cons (.str [44]) .nil))) (.cons .brk .nil) .nil) .nil)))
noncomputable def ir12c1:E:=(.meth (.v 0) 4 (.cons (.str [112,114,111,99,101,100,117,114,101]) .nil))
noncomputable def ir12b1:Ss:=(.cons (.set 5 (.meth (.v 0) 5 (.cons (.str [110,97,109,101]) .nil))) (.cons (.set 6 (.list .nil)) (.cons (.ifs (.meth (.v 0) 4 (.cons (.str [40]) .nil)) (.cons (.whl ir12c0 ir12b0) (.cons (.expr (.meth (.v 0) 3 (.cons (.str [41]) .nil))) .nil)) .nil) (.cons (.expr (.meth (.v 0) 3 (.cons (.str [59]) .nil))) (.cons (.set 8 (.meth (.v 0) 12 .nil)) (.cons (.expr (.meth (.v 0) 3 (.cons (.str [59]) .nil))) (.cons (.expr (.bm (.v 2) .append (.cons (.tuple (.cons (.v 5) (.cons (.bi .tuple (.cons (.v 6) .nil)) (.cons (.v 8) .nil)))) .nil))) .nil)))))))
noncomputable def ir12c2:E:=(.meth (.v 0) 4 (.cons (.str [44]) .nil))
noncomputable def ir12b2:Ss:=(.cons (.expr (.bm (.v 3) .append (.cons (.meth (.v 0) 5 (.cons (.str [110,97,109,101]) .nil)) .nil))) .nil)
noncomputable def ir12c3:E:=(.bool true)
noncomputable def ir12b3:Ss:=(.cons (.set 3 (.list (.cons (.meth (.v 0) 5 (.cons (.str [110,97,109,101]) .nil)) .nil))) (.cons (.whl ir12c2 ir12b2) (.cons (.expr (.meth (.v 0) 3 (.cons (.str [58]) .nil))) (.cons (.set 4 .none) (.cons (.ifs (.meth (.v 0) 4 (.cons (.str [97,114,114,97,121]) .nil)) (.cons (.expr (.meth (.v 0) 3 (.cons (.str [91]) .nil))) (.cons (.set 4 (.meth (.v 0) 5 (.cons (.str [105,110,116]) .nil))) (.cons (.expr (.meth (.v 0) 3 (.cons (.str [93]) .nil))) (.cons (.expr (.meth (.v 0) 3 (.cons (.str [111,102]) .nil))) .nil)))) .nil) (.cons (.expr (.meth (.v 0) 3 (.cons (.str [105,110,116,101,103,101,114]) .nil))) (.cons (.expr (.meth (.v 0) 3 (.cons (.str [59]) .nil))) (.cons (.aug 1 .add (.compPair 4 (.v 3))) (.cons (.ifs (.cmp .ne (.idx (.idx (.attr (.v 0) .ts) (.attr (.v 0) .pos)) (.int 0)) (.str [110,97,109,101])) (.cons .brk .nil) .nil) .nil)))))))))
noncomputable def ir12:FDef:=⟨1,(.cons (.set 1 (.list .nil)) (.cons (.set 2 (.list .nil)) (.cons (.ifs (.meth (.v 0) 4 (.cons (.str [118,97,114]) .nil)) (.cons (.whl ir12c3 ir12b3) .nil) .nil) (.cons (.whl ir12c1 ir12b1) (.cons (.expr (.meth (.v 0) 3 (.cons (.str [98,101,103,105,110]) .nil))) (.cons (.set 9 (.meth (.v 0) 10 .nil)) (.cons (.expr (.meth (.v 0) 3 (.cons (.str [101,110,100]) .nil))) (.cons (.ret (.tuple (.cons (.str [98,108,111,99,107]) (.cons (.bi .tuple (.cons (.v 1) .nil)) (.cons (.bi .tuple (.cons (.v 2) .nil)) (.cons (.v 9) .nil)))))) .nil))))))))⟩
noncomputable def ir13:FDef:=⟨1,(.cons (.set 1 (.new 0 (.cons (.v 0) .nil))) (.cons (.expr (.meth (.v 1) 3 (.cons (.str [112,114,111,103,114,97,109]) .nil))) (.cons (.set 2 (.meth (.v 1) 5 (.cons (.str [110,97,109,101]) .nil))) (.cons (.expr (.meth (.v 1) 3 (.cons (.str [59]) .nil))) (.cons (.set 3 (.meth (.v 1) 12 .nil)) (.cons (.expr (.meth (.v 1) 3 (.cons (.str [46]) .nil))) (.cons (.ifs (.cmp .ne (.idx (.idx (.attr (.v 1) .ts) (.attr (.v 1) .pos)) (.int 0)) (.str [101,110,100])) (.cons (.raise (.str [114,101,115,116])) .nil) .nil) (.cons (.ret (.tuple (.cons (.str [112,114,111,103,114,97,109]) (.cons (.v 2) (.cons (.v 3) .nil))))) .nil))))))))⟩
noncomputable def ir14:FDef:=⟨2,(.cons (.ifs (.not (.v 0)) (.cons (.raise (.v 1)) .nil) .nil) .nil)⟩
noncomputable def ir15:FDef:=⟨1,(.cons (.setAttr (.v 0) .code (.list .nil)) .nil)⟩
noncomputable def ir16:FDef:=⟨2,(.cons (.expr (.bm (.attr (.v 0) .code) .append (.cons (.v 1) .nil))) (.cons (.ret (.bin .sub (.bi .len (.cons (.attr (.v 0) .code) .nil)) (.int 1))) .nil))⟩
noncomputable def ir17f0:Ss:=(.cons (.expr (.meth (.v 0) 21 (.cons (.v 20) (.cons (.v 2) (.cons (.v 19) .nil))))) .nil)
noncomputable def ir17z0:Ss:=(.cons (.set 18 (.bi .len (.cons (.attr (.v 0) .code) .nil))) (.cons (.setIdx (.attr (.v 0) .code) (.v 15) (.tuple (.cons (.str [106,109,112]) (.cons (.v 18) .nil)))) (.cons (.ifs (.cmp .gt (.v 10) (.v 13)) (.cons (.expr (.meth (.v 0) 16 (.cons (.tuple (.cons (.str [105,110,116]) (.cons (.bin .sub (.v 10) (.v 13)) .nil))) .nil))) .nil) .nil) (.cons (.set 19 (.list (.cons (.v 10) .nil))) (.cons (.for1 20 (.v 6) ir17f0) (.cons (.expr (.meth (.v 0) 16 (.cons (.tuple (.cons (.str [114,101,116]) .nil)) .nil))) (.cons (.ret (.v 18)) .nil)))))))
noncomputable def ir17f1:Ss:=(.cons (.setIdx (.v 9) (.v 11) (.tuple (.cons (.str [112,114,111,99]) (.cons (.bi .len (.cons (.attr (.v 0) .code) .nil)) (.cons (.v 16) .nil))))) (.cons (.expr (.meth (.v 0) 17 (.cons (.v 17) (.cons (.v 2) (.cons (.v 16) .nil))))) .nil))
noncomputable def ir17z1:Ss:=(.cons (.set 15 (.meth (.v 0) 16 (.cons (.tuple (.cons (.str [106,109,112]) (.cons .none .nil))) .nil))) (.cons (.forT [11,16,17] (.v 5) ir17f1) ir17z0))
noncomputable def ir17f2:Ss:=(.cons (.expr (.call 14 (.cons (.any (.cons (.cmp .is (.v 14) .none) (.cons (.cmp .ge (.v 14) (.int 1)) .nil))) (.cons (.str [115,105,122,101]) .nil)))) (.cons (.setIdx (.v 9) (.v 11) (.ite (.cmp .is (.v 14) .none) (.tuple (.cons (.str [105,110,116]) (.cons (.v 10) .nil))) (.tuple (.cons (.str [97,114,114,97,121]) (.cons (.v 10) (.cons (.v 14) .nil)))))) (.cons (.aug 10 .add (.ite (.cmp .is (.v 14) .none) (.int 1) (.v 14))) .nil)))
noncomputable def ir17z2:Ss:=(.cons (.set 13 (.v 10)) (.cons (.forT [11,14] (.v 4) ir17f2) ir17z1))
noncomputable def ir17f3:Ss:=(.cons (.setIdx (.v 9) (.v 11) (.tuple (.cons (.ite (.v 12) (.str [114,101,102]) (.str [105,110,116])) (.cons (.v 10) .nil)))) (.cons (.aug 10 .add (.int 1)) .nil))
noncomputable def ir17z3:Ss:=(.cons (.set 9 .dict0) (.cons (.set 10 (.int 3)) (.cons (.set 2 (.bin .add (.v 2) (.list (.cons (.v 9) .nil)))) (.cons (.forT [11,12] (.v 3) ir17f3) ir17z2))))
noncomputable def ir17f4:Ss:=(.cons (.expr (.call 14 (.cons (.cmp .notin (.idx (.v 7) (.v 8)) (.slice (.v 7) .no (.yes (.v 8)))) (.cons (.str [116,119,105,99,101]) .nil)))) .nil)
noncomputable def ir17:FDef:=⟨4,(.cons (.set 4 (.idx (.v 1) (.int 1))) (.cons (.set 5 (.idx (.v 1) (.int 2))) (.cons (.set 6 (.idx (.v 1) (.int 3))) (.cons (.set 7 (.bin .add (.bin .add (.compVar 2 0 (.v 3)) (.compVar 2 0 (.v 4))) (.compVar 3 0 (.v 5)))) (.cons (.for1 8 (.bi .range (.cons (.bi .len (.cons (.v 7) .nil)) .nil)) ir17f4) ir17z3)))))⟩
noncomputable def ir18f0:Ss:=(.cons (.set 5 (.idx (.v 2) (.bin .sub (.bin .sub (.bi .len (.cons (.v 2) .nil)) (.int 1)) (.v 4)))) (.cons (.ifs (.cmp .isin (.v 1) (.v 5)) (.cons (.expr (.call 14 (.cons (.cmp .isin (.idx (.idx (.v 5) (.v 1)) (.int 0)) (.v 3)) (.cons (.v 1) .nil)))) (.cons (.ret (.tuple (.cons (.v 4) (.cons (.idx (.v 5) (.v 1)) .nil)))) .nil)) .nil) .nil))
noncomputable def ir18:FDef:=⟨4,(.cons (.for1 4 (.bi .range (.cons (.bi .len (.cons (.v 2) .nil)) .nil)) ir18f0) (.cons (.raise (.v 1)) .nil))⟩
noncomputable def ir19:FDef:=⟨3,(.cons (.ifs (.cmp .eq (.idx (.v 1) (.int 0)) (.str [110,97,109,101])) (.cons (.setT [3,4] (.meth (.v 0) 18 (.cons (.idx (.v 1) (.int 1)) (.cons (.v 2) (.cons (.tuple (.cons (.str [105,110,116]) (.cons (.str [114,101,102]) .nil))) .nil))))) (.cons (.expr (.meth (.v 0) 16 (.cons (.tuple (.cons (.ite (.cmp .eq (.idx (.v 4) (.int 0)) (.str [114,101,102])) (.str [108,111,100]) (.str [108,100,97])) (.cons (.v 3) (.cons (.idx (.v 4) (.int 1)) .nil)))) .nil))) .nil)) (.cons (.expr (.call 14 (.cons (.cmp .eq (.idx (.v 1) (.int 0)) (.str [97,116])) (.cons (.str [118,97,114,105,97,98,108,101]) .nil)))) (.cons (.setT [3,4] (.meth (.v 0) 18 (.cons (.idx (.v 1) (.int 1)) (.cons (.v 2) (.cons (.tuple (.cons (.str [97,114,114,97,121]) .nil)) .nil))))) (.cons (.expr (.meth (.v 0) 20 (.cons (.idx (.v 1) (.int 2)) (.cons (.v 2) .nil)))) (.cons (.expr (.meth (.v 0) 16 (.cons (.tuple (.cons (.str [99,104,107]) (.cons (.idx (.v 4) (.int 2)) .nil))) .nil))) (.cons (.expr (.meth (.v 0) 16 (.cons (.tuple (.cons (.str [108,100,97]) (.cons (.v 3) (.cons (.idx (.v 4) (.int 1)) .nil)))) .nil))) (.cons (.expr (.meth (.v 0) 16 (.cons (.tuple (.cons (.str [111,112,114]) (.cons (.str [43]) .nil))) .nil))) .nil))))))) .nil)⟩
noncomputable def ir20f0:Ss:=(.cons (.expr (.meth (.v 0) 20 (.cons (.v 6) (.cons (.v 2) .nil)))) .nil)
noncomputable def ir20:FDef:=⟨3,(.cons (.set 3 (.idx (.v 1) (.int 0))) (.cons (.ifs (.cmp .eq (.v 3) (.str [105,110,116])) (.cons (.expr (.meth (.v 0) 16 (.cons (.tuple (.cons (.str [108,105,116]) (.cons (.idx (.v 1) (.int 1)) .nil))) .nil))) .nil) (.cons (.ifs (.cmp .eq (.v 3) (.str [110,97,109,101])) (.cons (.setT [4,5] (.meth (.v 0) 18 (.cons (.idx (.v 1) (.int 1)) (.cons (.v 2) (.cons (.tuple (.cons (.str [105,110,116]) (.cons (.str [114,101,102]) .nil))) .nil))))) (.cons (.expr (.meth (.v 0) 16 (.cons (.tuple (.cons (.str [108,111,100]) (.cons (.v 4) (.cons (.idx (.v 5) (.int 1)) .nil)))) .nil))) (.cons (.ifs (.cmp .eq (.idx (.v 5) (.int 0)) (.str [114,101,102])) (.cons (.expr (.meth (.v 0) 16 (.cons (.tuple (.cons (.str [108,100,105]) .nil)) .nil))) .nil) .nil) .nil))) (.cons (.ifs (.cmp .eq (.v 3) (.str [97,116])) (.cons (.expr (.meth (.v 0) 19 (.cons (.v 1) (.cons (.v 2) .nil)))) (.cons (.expr (.meth (.v 0) 16 (.cons (.tuple (.cons (.str [108,100,105]) .nil)) .nil))) .nil)) (.cons (.for1 6 (.slice (.v 1) (.yes (.int 1)) .no) ir20f0) (.cons (.expr (.meth (.v 0) 16 (.cons (.tuple (.cons (.str [111,112,114]) (.cons (.v 3) .nil))) .nil))) .nil))) .nil)) .nil)) .nil))⟩
noncomputable def ir21t0:Ss:=(.cons (.expr (.meth (.v 0) 19 (.cons (.ite (.cmp .is (.idx (.v 1) (.int 2)) .none) (.tuple (.cons (.str [110,97,109,101]) (.cons (.idx (.v 1) (.int 1)) .nil))) (.tuple (.cons (.str [97,116]) (.cons (.idx (.v 1) (.int 1)) (.cons (.idx (.v 1) (.int 2)) .nil))))) (.cons (.v 2) .nil)))) (.cons (.expr (.meth (.v 0) 20 (.cons (.idx (.v 1) (.int 3)) (.cons (.v 2) .nil)))) (.cons (.expr (.meth (.v 0) 16 (.cons (.tuple (.cons (.str [115,116,105]) .nil)) .nil))) .nil)))
noncomputable def ir21f0:Ss:=(.cons (.ifs (.idx (.idx (.idx (.v 6) (.int 2)) (.v 7)) (.int 1)) (.cons (.expr (.meth (.v 0) 19 (.cons (.idx (.idx (.v 1) (.int 2)) (.v 7)) (.cons (.v 2) .nil)))) .nil) (.cons (.expr (.meth (.v 0) 20 (.cons (.idx (.idx (.v 1) (.int 2)) (.v 7)) (.cons (.v 2) .nil)))) .nil)) .nil)
noncomputable def ir21t1:Ss:=(.cons (.setT [5,6] (.meth (.v 0) 18 (.cons (.idx (.v 1) (.int 1)) (.cons (.v 2) (.cons (.tuple (.cons (.str [112,114,111,99]) .nil)) .nil))))) (.cons (.expr (.call 14 (.cons (.cmp .eq (.bi .len (.cons (.idx (.v 6) (.int 2)) .nil)) (.bi .len (.cons (.idx (.v 1) (.int 2)) .nil))) (.cons (.str [97,114,103,117,109,101,110,116,115]) .nil)))) (.cons (.for1 7 (.bi .range (.cons (.bi .len (.cons (.idx (.v 1) (.int 2)) .nil)) .nil)) ir21f0) (.cons (.expr (.meth (.v 0) 16 (.cons (.tuple (.cons (.str [116,105,99,107]) .nil)) .nil))) (.cons (.expr (.meth (.v 0) 16 (.cons (.tuple (.cons (.str [99,97,108]) (.cons (.v 5) (.cons (.idx (.v 6) (.int 1)) (.cons (.bi .len (.cons (.idx (.v 1) (.int 2)) .nil)) .nil))))) .nil))) .nil)))))
noncomputable def ir21t2:Ss:=(.cons (.set 8 (.meth (.v 0) 16 (.cons (.tuple (.cons (.str [106,109,112]) (.cons .none .nil))) .nil))) (.cons (.setIdx (.attr (.v 0) .code) (.v 7) (.tuple (.cons (.str [106,112,99]) (.cons (.bi .len (.cons (.attr (.v 0) .code) .nil)) .nil)))) (.cons (.expr (.meth (.v 0) 21 (.cons (.idx (.v 1) (.int 3)) (.cons (.v 2) (.cons (.v 3) .nil))))) (.cons (.setIdx (.attr (.v 0) .code) (.v 8) (.tuple (.cons (.str [106,109,112]) (.cons (.bi .len (.cons (.attr (.v 0) .code) .nil)) .nil)))) .nil))))
noncomputable def ir21t3:Ss:=(.cons (.expr (.meth (.v 0) 20 (.cons (.idx (.v 1) (.int 1)) (.cons (.v 2) .nil)))) (.cons (.set 7 (.meth (.v 0) 16 (.cons (.tuple (.cons (.str [106,112,99]) (.cons .none .nil))) .nil))) (.cons (.expr (.meth (.v 0) 21 (.cons (.idx (.v 1) (.int 2)) (.cons (.v 2) (.cons (.v 3) .nil))))) (.cons (.ifs (.cmp .isnot (.idx (.v 1) (.int 3)) .none) ir21t2 (.cons (.setIdx (.attr (.v 0) .code) (.v 7) (.tuple (.cons (.str [106,112,99]) (.cons (.bi .len (.cons (.attr (.v 0) .code) .nil)) .nil)))) .nil)) .nil))))
noncomputable def ir21t4:Ss:=(.cons (.set 9 (.bi .len (.cons (.attr (.v 0) .code) .nil))) (.cons (.expr (.meth (.v 0) 20 (.cons (.idx (.v 1) (.int 1)) (.cons (.v 2) .nil)))) (.cons (.expr (.meth (.v 0) 16 (.cons (.tuple (.cons (.str [116,105,99,107]) .nil)) .nil))) (.cons (.set 7 (.meth (.v 0) 16 (.cons (.tuple (.cons (.str [106,112,99]) (.cons .none .nil))) .nil))) (.cons (.expr (.meth (.v 0) 21 (.cons (.idx (.v 1) (.int 2)) (.cons (.v 2) (.cons (.v 3) .nil))))) (.cons (.expr (.meth (.v 0) 16 (.cons (.tuple (.cons (.str [106,109,112]) (.cons (.v 9) .nil))) .nil))) (.cons (.setIdx (.attr (.v 0) .code) (.v 7) (.tuple (.cons (.str [106,112,99]) (.cons (.bi .len (.cons (.attr (.v 0) .code) .nil)) .nil)))) .nil)))))))
noncomputable def ir21f1:Ss:=(.cons (.expr (.meth (.v 0) 21 (.cons (.v 10) (.cons (.v 2) (.cons (.v 3) .nil))))) .nil)
noncomputable def ir21t5:Ss:=(.cons (.set 9 (.bi .len (.cons (.attr (.v 0) .code) .nil))) (.cons (.for1 10 (.idx (.v 1) (.int 1)) ir21f1) (.cons (.expr (.meth (.v 0) 20 (.cons (.idx (.v 1) (.int 2)) (.cons (.v 2) .nil)))) (.cons (.expr (.meth (.v 0) 16 (.cons (.tuple (.cons (.str [116,105,99,107]) .nil)) .nil))) (.cons (.expr (.meth (.v 0) 16 (.cons (.tuple (.cons (.str [106,112,99]) (.cons (.v 9) .nil))) .nil))) .nil)))))
noncomputable def ir21t6:Ss:=(.cons (.expr (.meth (.v 0) 18 (.cons (.idx (.v 1) (.int 1)) (.cons (.v 2) (.cons (.tuple (.cons (.str [105,110,116]) (.cons (.str [114,101,102]) .nil))) .nil))))) (.cons (.expr (.meth (.v 0) 20 (.cons (.idx (.v 1) (.int 2)) (.cons (.v 2) .nil)))) (.cons (.expr (.meth (.v 0) 20 (.cons (.idx (.v 1) (.int 3)) (.cons (.v 2) .nil)))) (.cons (.set 11 (.idx (.v 3) (.int 0))) (.cons (.augIdx (.v 3) (.int 0) .add (.int 2)) (.cons (.set 9 (.bi .len (.cons (.attr (.v 0) .code) .nil))) (.cons (.expr (.meth (.v 0) 16 (.cons (.tuple (.cons (.str [116,105,99,107]) .nil)) .nil))) (.cons (.expr (.meth (.v 0) 16 (.cons (.tuple (.cons (.str [108,111,100]) (.cons (.int 0) (.cons (.v 11) .nil)))) .nil))) (.cons (.expr (.meth (.v 0) 16 (.cons (.tuple (.cons (.str [108,111,100]) (.cons (.int 0) (.cons (.bin .add (.v 11) (.int 1)) .nil)))) .nil))) (.cons (.expr (.meth (.v 0) 16 (.cons (.tuple (.cons (.str [111,112,114]) (.cons (.ite (.idx (.v 1) (.int 4)) (.str [60,61]) (.str [62,61])) .nil))) .nil))) (.cons (.set 7 (.meth (.v 0) 16 (.cons (.tuple (.cons (.str [106,112,99]) (.cons .none .nil))) .nil))) (.cons (.expr (.meth (.v 0) 19 (.cons (.tuple (.cons (.str [110,97,109,101]) (.cons (.idx (.v 1) (.int 1)) .nil))) (.cons (.v 2) .nil)))) (.cons (.expr (.meth (.v 0) 16 (.cons (.tuple (.cons (.str [108,111,100]) (.cons (.int 0) (.cons (.v 11) .nil)))) .nil))) (.cons (.expr (.meth (.v 0) 16 (.cons (.tuple (.cons (.str [115,116,105]) .nil)) .nil))) (.cons (.expr (.meth (.v 0) 21 (.cons (.idx (.v 1) (.int 5)) (.cons (.v 2) (.cons (.v 3) .nil))))) (.cons (.expr (.meth (.v 0) 16 (.cons (.tuple (.cons (.str [108,111,100]) (.cons (.int 0) (.cons (.v 11) .nil)))) .nil))) (.cons (.expr (.meth (.v 0) 16 (.cons (.tuple (.cons (.str [108,105,116]) (.cons (.int 1) .nil))) .nil))) (.cons (.expr (.meth (.v 0) 16 (.cons (.tuple (.cons (.str [111,112,114]) (.cons (.ite (.idx (.v 1) (.int 4)) (.str [43]) (.str [45])) .nil))) .nil))) (.cons (.expr (.meth (.v 0) 16 (.cons (.tuple (.cons (.str [115,116,111]) (.cons (.int 0) (.cons (.v 11) .nil)))) .nil))) (.cons (.expr (.meth (.v 0) 16 (.cons (.tuple (.cons (.str [106,109,112]) (.cons (.v 9) .nil))) .nil))) (.cons (.setIdx (.attr (.v 0) .code) (.v 7) (.tuple (.cons (.str [106,112,99]) (.cons (.bi .len (.cons (.attr (.v 0) .code) .nil)) .nil)))) (.cons (.augIdx (.v 3) (.int 0) .sub (.int 2)) (.cons (.set 12 (.bi .len (.cons (.attr (.v 0) .code) .nil))) (.cons (.expr (.meth (.v 0) 16 (.cons (.tuple (.cons (.str [106,112,99]) (.cons (.bin .add (.v 12) (.int 1)) .nil))) .nil))) (.cons (.expr (.meth (.v 0) 16 (.cons (.tuple (.cons (.str [106,112,99]) (.cons (.bin .add (.v 12) (.int 2)) .nil))) .nil))) .nil)))))))))))))))))))))))))
noncomputable def ir21f2:Ss:=(.cons (.expr (.meth (.v 0) 21 (.cons (.v 10) (.cons (.v 2) (.cons (.v 3) .nil))))) .nil)
noncomputable def ir21t7:Ss:=(.cons (.expr (.meth (.v 0) 20 (.cons (.idx (.v 1) (.int 1)) (.cons (.v 2) .nil)))) (.cons (.expr (.meth (.v 0) 16 (.cons (.tuple (.cons (.str [119,114,116]) .nil)) .nil))) .nil))
noncomputable def ir21:FDef:=⟨4,(.cons (.set 4 (.idx (.v 1) (.int 0))) (.cons (.ifs (.cmp .eq (.v 4) (.str [115,101,116])) ir21t0 (.cons (.ifs (.cmp .eq (.v 4) (.str [99,97,108,108])) ir21t1 (.cons (.ifs (.cmp .eq (.v 4) (.str [105,102])) ir21t3 (.cons (.ifs (.cmp .eq (.v 4) (.str [119,104,105,108,101])) ir21t4 (.cons (.ifs (.cmp .eq (.v 4) (.str [114,101,112,101,97,116])) ir21t5 (.cons (.ifs (.cmp .eq (.v 4) (.str [102,111,114])) ir21t6 (.cons (.ifs (.cmp .eq (.v 4) (.str [98,101,103,105,110])) (.cons (.for1 10 (.idx (.v 1) (.int 1)) ir21f2) .nil) (.cons (.ifs (.cmp .eq (.v 4) (.str [119,114,105,116,101])) ir21t7 .nil) .nil)) .nil)) .nil)) .nil)) .nil)) .nil)) .nil)) .nil))⟩
noncomputable def ir22:FDef:=⟨1,(.cons (.set 1 (.new 1 .nil)) (.cons (.expr (.meth (.v 1) 17 (.cons (.idx (.v 0) (.int 2)) (.cons (.list .nil) (.cons (.tuple .nil) .nil))))) (.cons (.ret (.bi .tuple (.cons (.attr (.v 1) .code) .nil))) .nil)))⟩
noncomputable def ir23c0:E:=(.cmp .gt (.v 2) (.int 0))
noncomputable def ir23b0:Ss:=(.cons (.set 1 (.idx (.v 0) (.v 1))) (.cons (.set 2 (.bin .sub (.v 2) (.int 1))) .nil))
noncomputable def ir23:FDef:=⟨3,(.cons (.whl ir23c0 ir23b0) (.cons (.ret (.v 1)) .nil))⟩
noncomputable def ir24:FDef:=⟨3,(.cons (.ifs (.cmp .eq (.v 0) (.str [43])) (.cons (.ret (.bin .add (.v 1) (.v 2))) .nil) .nil) (.cons (.ifs (.cmp .eq (.v 0) (.str [45])) (.cons (.ret (.bin .sub (.v 1) (.v 2))) .nil) .nil) (.cons (.ifs (.cmp .eq (.v 0) (.str [42])) (.cons (.ret (.bin .mul (.v 1) (.v 2))) .nil) .nil) (.cons (.ifs (.any (.cons (.cmp .eq (.v 0) (.str [100,105,118])) (.cons (.cmp .eq (.v 0) (.str [109,111,100])) .nil))) (.cons (.ifs (.cmp .eq (.v 2) (.int 0)) (.cons (.raise (.str [122,101,114,111])) .nil) .nil) (.cons (.set 3 (.bin .fdiv (.bi .abs (.cons (.v 1) .nil)) (.bi .abs (.cons (.v 2) .nil)))) (.cons (.ifs (.cmp .lt (.bin .mul (.v 1) (.v 2)) (.int 0)) (.cons (.set 3 (.neg (.v 3))) .nil) .nil) (.cons (.ifs (.cmp .eq (.v 0) (.str [100,105,118])) (.cons (.ret (.v 3)) .nil) .nil) (.cons (.ret (.bin .sub (.v 1) (.bin .mul (.v 3) (.v 2)))) .nil))))) .nil) (.cons (.ifs (.cmp .eq (.v 0) (.str [61])) (.cons (.ret (.bi .int (.cons (.cmp .eq (.v 1) (.v 2)) .nil))) .nil) .nil) (.cons (.ifs (.cmp .eq (.v 0) (.str [60,62])) (.cons (.ret (.bi .int (.cons (.cmp .ne (.v 1) (.v 2)) .nil))) .nil) .nil) (.cons (.ifs (.cmp .eq (.v 0) (.str [60])) (.cons (.ret (.bi .int (.cons (.cmp .lt (.v 1) (.v 2)) .nil))) .nil) .nil) (.cons (.ifs (.cmp .eq (.v 0) (.str [60,61])) (.cons (.ret (.bi .int (.cons (.cmp .le (.v 1) (.v 2)) .nil))) .nil) .nil) (.cons (.ifs (.cmp .eq (.v 0) (.str [62])) (.cons (.ret (.bi .int (.cons (.cmp .gt (.v 1) (.v 2)) .nil))) .nil) .nil) (.cons (.ret (.bi .int (.cons (.cmp .ge (.v 1) (.v 2)) .nil))) .nil))))))))))⟩
noncomputable def ir25t0:Ss:=(.cons (.set 8 (.bm (.v 2) .pop .nil)) (.cons (.setIdx (.v 2) (.bin .add (.call 23 (.cons (.v 2) (.cons (.v 3) (.cons (.idx (.v 6) (.int 1)) .nil)))) (.idx (.v 6) (.int 2))) (.v 8)) .nil))
noncomputable def ir25t1:Ss:=(.cons (.set 8 (.bm (.v 2) .pop .nil)) (.cons (.setIdx (.v 2) (.bm (.v 2) .pop .nil) (.v 8)) .nil))
noncomputable def ir25t2:Ss:=(.cons (.set 9 (.idx (.v 6) (.int 1))) (.cons (.ifs (.cmp .eq (.v 9) (.str [110,101,103])) (.cons (.setIdx (.v 2) (.neg (.int 1)) (.neg (.idx (.v 2) (.neg (.int 1))))) .nil) (.cons (.ifs (.cmp .eq (.v 9) (.str [111,100,100])) (.cons (.setIdx (.v 2) (.neg (.int 1)) (.bin .band (.idx (.v 2) (.neg (.int 1))) (.int 1))) .nil) (.cons (.set 10 (.bm (.v 2) .pop .nil)) (.cons (.set 11 (.bm (.v 2) .pop .nil)) (.cons (.expr (.bm (.v 2) .append (.cons (.call 24 (.cons (.v 9) (.cons (.v 11) (.cons (.v 10) .nil)))) .nil))) .nil)))) .nil)) .nil))
noncomputable def ir25t3:Ss:=(.cons (.set 12 (.idx (.v 6) (.int 3))) (.cons (.set 13 (.bin .sub (.bi .len (.cons (.v 2) .nil)) (.v 12))) (.cons (.set 14 (.call 23 (.cons (.v 2) (.cons (.v 3) (.cons (.idx (.v 6) (.int 1)) .nil))))) (.cons (.setSlice (.v 2) (.v 13) (.v 13) (.list (.cons (.v 14) (.cons (.v 3) (.cons (.v 4) .nil))))) (.cons (.set 3 (.v 13)) (.cons (.set 4 (.idx (.v 6) (.int 2))) .nil))))))
noncomputable def ir25t4:Ss:=(.cons (.ifs (.cmp .eq (.v 3) (.int 0)) (.cons (.ret (.bi .tuple (.cons (.v 5) .nil))) .nil) .nil) (.cons (.setT [10,15] (.tuple (.cons (.idx (.v 2) (.bin .add (.v 3) (.int 1))) (.cons (.idx (.v 2) (.bin .add (.v 3) (.int 2))) .nil)))) (.cons (.delFrom (.v 2) (.v 3)) (.cons (.setT [3,4] (.tuple (.cons (.v 10) (.cons (.v 15) .nil)))) .nil))))
noncomputable def ir25t5:Ss:=(.cons (.aug 1 .sub (.int 1)) (.cons (.ifs (.cmp .lt (.v 1) (.int 0)) (.cons (.raise (.str [102,117,101,108])) .nil) .nil) .nil))
noncomputable def ir25c0:E:=(.bool true)
noncomputable def ir25b0:Ss:=(.cons (.set 6 (.idx (.v 0) (.v 4))) (.cons (.aug 4 .add (.int 1)) (.cons (.set 7 (.idx (.v 6) (.int 0))) (.cons (.ifs (.cmp .eq (.v 7) (.str [108,105,116])) (.cons (.expr (.bm (.v 2) .append (.cons (.idx (.v 6) (.int 1)) .nil))) .nil) (.cons (.ifs (.cmp .eq (.v 7) (.str [108,111,100])) (.cons (.expr (.bm (.v 2) .append (.cons (.idx (.v 2) (.bin .add (.call 23 (.cons (.v 2) (.cons (.v 3) (.cons (.idx (.v 6) (.int 1)) .nil)))) (.idx (.v 6) (.int 2)))) .nil))) .nil) (.cons (.ifs (.cmp .eq (.v 7) (.str [108,100,97])) (.cons (.expr (.bm (.v 2) .append (.cons (.bin .add (.call 23 (.cons (.v 2) (.cons (.v 3) (.cons (.idx (.v 6) (.int 1)) .nil)))) (.idx (.v 6) (.int 2))) .nil))) .nil) (.cons (.ifs (.cmp .eq (.v 7) (.str [115,116,111])) ir25t0 (.cons (.ifs (.cmp .eq (.v 7) (.str [108,100,105])) (.cons (.expr (.bm (.v 2) .append (.cons (.idx (.v 2) (.bm (.v 2) .pop .nil)) .nil))) .nil) (.cons (.ifs (.cmp .eq (.v 7) (.str [115,116,105])) ir25t1 (.cons (.ifs (.cmp .eq (.v 7) (.str [99,104,107])) (.cons (.ifs (.not (.cmp2 .le .lt (.int 0) (.idx (.v 2) (.neg (.int 1))) (.idx (.v 6) (.int 1)))) (.cons (.raise (.str [112,108,97,99,101])) .nil) .nil) .nil) (.cons (.ifs (.cmp .eq (.v 7) (.str [111,112,114])) ir25t2 (.cons (.ifs (.cmp .eq (.v 7) (.str [106,109,112])) (.cons (.set 4 (.idx (.v 6) (.int 1))) .nil) (.cons (.ifs (.cmp .eq (.v 7) (.str [106,112,99])) (.cons (.ifs (.cmp .eq (.bm (.v 2) .pop .nil) (.int 0)) (.cons (.set 4 (.idx (.v 6) (.int 1))) .nil) .nil) .nil) (.cons (.ifs (.cmp .eq (.v 7) (.str [105,110,116])) (.cons (.aug 2 .add (.bin .mul (.list (.cons (.int 0) .nil)) (.idx (.v 6) (.int 1)))) .nil) (.cons (.ifs (.cmp .eq (.v 7) (.str [99,97,108])) ir25t3 (.cons (.ifs (.cmp .eq (.v 7) (.str [114,101,116])) ir25t4 (.cons (.ifs (.cmp .eq (.v 7) (.str [119,114,116])) (.cons (.expr (.bm (.v 5) .append (.cons (.bm (.v 2) .pop .nil) .nil))) .nil) (.cons (.ifs (.cmp .eq (.v 7) (.str [116,105,99,107])) ir25t5 .nil) .nil)) .nil)) .nil)) .nil)) .nil)) .nil)) .nil)) .nil)) .nil)) .nil)) .nil)) .nil)) .nil)) .nil)) .nil))))
noncomputable def ir25:FDef:=⟨2,(.cons (.set 2 (.list (.cons (.int 0) (.cons (.int 0) (.cons (.int 0) .nil))))) (.cons (.set 3 (.int 0)) (.cons (.set 4 (.int 0)) (.cons (.set 5 (.list .nil)) (.cons (.whl ir25c0 ir25b0) .nil)))))⟩
noncomputable def ir26:FDef:=⟨2,(.cons (.ret (.call 25 (.cons (.call 22 (.cons (.call 13 (.cons (.v 0) .nil)) .nil)) (.cons (.v 1) .nil)))) .nil)⟩
noncomputable def coreD:Nat->Option FDef
 | 0=>some ir0
 | 1=>some ir1
 | 2=>some ir2
 | 3=>some ir3
 | 4=>some ir4
 | 5=>some ir5
 | 6=>some ir6
 | 7=>some ir7
 | 8=>some ir8
 | 9=>some ir9
 | 10=>some ir10
 | 11=>some ir11
 | 12=>some ir12
 | 13=>some ir13
 | 14=>some ir14
 | 15=>some ir15
 | 16=>some ir16
 | 17=>some ir17
 | 18=>some ir18
 | 19=>some ir19
 | 20=>some ir20
 | 21=>some ir21
 | 22=>some ir22
 | 23=>some ir23
 | 24=>some ir24
 | 25=>some ir25
 | 26=>some ir26
 | _=>Option.none
end Mine
namespace Mine.P
noncomputable def words:List Tx:=[[112,114,111,103,114,97,109],[118,97,114],[105,110,116,101,103,101,114],[97,114,114,97,121],[111,102],[112,114,111,99,101,100,117,114,101],[98,101,103,105,110],[101,110,100],[105,102],[116,104,101,110],[101,108,115,101],[119,104,105,108,101],[100,111],[114,101,112,101,97,116],[117,110,116,105,108],[102,111,114],[116,111],[100,111,119,110,116,111],[119,114,105,116,101],[100,105,118],[109,111,100],[111,100,100]]
noncomputable def cmps:List Tx:=[[61],[60,62],[60],[60,61],[62],[62,61]]
noncomputable def coreCls:Nat->Option Nat
 | 0=>none
 | 1 | 2 | 3 | 4 | 5 | 6 | 7 | 8 | 9 | 10 | 11 | 12=>some 0
 | 15 | 16 | 17 | 18 | 19 | 20 | 21=>some 1
 | _=>none
structure Core (T:Stat)(D:Nat->Option FDef):Prop where
 d:∀ k,k<27->D k=coreD k
 c:∀ k,k<27->T.clsOf k=coreCls k
 g0:T.glob 0=some (.frz (words.map .str))
 g1:T.glob 1=some (.tup (cmps.map .str))
 i0:T.init 0=some 1
 i1:T.init 1=some 15
set_option genCtorIdx true in
inductive Tok where
 | word (w:Tx) | name (w:Tx) | int (n:Nat) | fin
noncomputable def kWord:Tx:=[119,111,114,100]
noncomputable def kName:Tx:=[110,97,109,101]
noncomputable def kInt:Tx:=[105,110,116]
noncomputable def kEnd:Tx:=[101,110,100]
noncomputable def Tok.av:Tok->AV
 | .word w=>.tup [.str kWord,.str w]
 | .name w=>.tup [.str kName,.str w]
 | .int n=>.tup [.str kInt,.int n]
 | .fin=>.tup [.str kEnd,.str []]
def PS (J:Store)(r t:Nat)(rest:List Tok):Prop:=
 ∃ ts p,J[r]?=some (.inst 0 [(.ts,.obj t),(.pos,.int (p:Nat))])∧J[t]?=some (.list ts)∧ts.drop p=rest.map Tok.av
def Keep (r:Nat)(J J':Store):Prop:=J.length<=J'.length∧∀ i,i≠r->i<J.length->J'[i]?=J[i]?
theorem Keep.refl (r:Nat)(J:Store):Keep r J J:=⟨Aj _,fun _ _ _=>rfl⟩
theorem Keep.trans {r:Nat}{a b c:Store}(h:Keep r a b)(h':Keep r b c):Keep r a c:=
 ⟨Aa h.1 h'.1,fun i hi hl=>by rw [h'.2 i hi (An hl h.1),h.2 i hi hl]⟩
section
variable {T:Stat}{D:Nat->Option FDef}
theorem PS.head {J:Store}{r t:Nat}{k:Tok}{rest:List Tok}(h:PS J r t (k::rest)):∃ ts p,J[r]?=some (.inst 0 [(.ts,.obj t),(.pos,.int (p:Nat))])∧J[t]?=some (.list ts)∧ts[p]?=some k.av∧p<ts.length∧ts.drop (p+1)=rest.map Tok.av:=by
 obtain ⟨ts,p,h1,h2,h3⟩:=h;have h4:(ts.drop p)[0]?=some k.av:=by rw [h3]; rfl
 rw [List.getElem?_drop] at h4;simp only [Nat.add_zero] at h4;have h5:p<ts.length:=(Ai h4).1;refine ⟨ts,p,h1,h2,h4,h5,?_⟩;have:ts.drop (p+1)=(ts.drop p).drop 1:=by rw [List.drop_drop]
 rw [this,h3]; rfl
theorem ix_nat {p n:Nat}(h:p<n):ixOf (p:Int) n=some p:=by
 unfold ixOf;rw [if_pos (by lia),if_pos (by lia)]; rfl
theorem var_ok {e:Ev}{i:Nat}{a:AV}{P:AV->Prop}(h:e i=some a)(p:P a):varW e i P:=by
 unfold varW; rw [h]; exact p
theorem if_ok {b:Bool}{A B:Prop}(h1:b=true->A)(h2:b=false->B):ifW (.bool b) A B:=by
 cases b
 ·exact h2 rfl
 ·exact h1 rfl
theorem ifn_ok {b:Bool}{A B:Prop}(h1:b=true->B)(h2:b=false->A):ifW (.bool (!b)) A B:=by
 cases b
 ·exact h2 rfl
 ·exact h1 rfl
theorem grd_ok {b:Bool}{A:Prop}(h:b=true)(a:A):grdW b A:=by rw [h]; exact a
theorem attr_ok {J:Store}{r c:Nat}{fs:List (At×AV)}{x:At}{v:AV}{Q:AV->Prop}(h1:J[r]?=some (.inst c fs))(h2:fs.lookup x=some v)(h3:noStat v=true)(q:Q v):attrW (.obj r) x J Q:=by
 unfold attrW; exact ⟨_,_,_,_,rfl,h1,h2,h3,q⟩
theorem put_ok {J:Store}{r c:Nat}{fs:List (At×AV)}{x:At}{v:AV}{Q:QX}(h1:J[r]?=some (.inst c fs))(q:Q (J.set r (.inst c (putF x v fs)))):setAttrW (.obj r) x v J Q:=by
 unfold setAttrW; exact ⟨_,_,_,rfl,h1,q⟩
theorem lst_ok {J:Store}{r:Nat}{l:List AV}{Q:List AV->Prop}(h1:J[r]?=some (.list l))(q:Q l):lstO r J Q:=by
 unfold lstO; exact ⟨_,h1,q⟩
theorem opt_ok {α:Type}{o:Option α}{a:α}{P:α->Prop}(h:o=some a)(p:P a):optW o P:=by
 unfold optW; rw [h]; exact p
theorem idx_ok {J:Store}{r k:Nat}{l:List AV}{i:Int}{v:AV}{Q:AV->Prop}(h1:J[r]?=some (.list l))(h2:ixOf i l.length=some k)(h3:l[k]?=some v)(q:Q v):idxW (.obj r) (.int i) J Q:=lst_ok h1 (opt_ok h2 (opt_ok h3 q))
theorem eq_ok {a b:AV}{c:Bool}{Q:Bool->Prop}(h1:pyEq a b=some c)(h2:Nat.ble a.depth 100=true)(q:Q c):eqW a b Q:=by
 unfold eqW; rw [h1,h2]; exact q
theorem none_t {Q:Bool->Prop}(q:Q true):noneW .none Q:=by unfold noneW; exact q
theorem none_i {i:Int}{Q:Bool->Prop}(q:Q false):noneW (.int i) Q:=by unfold noneW; exact q
theorem none_s {i:Tx}{Q:Bool->Prop}(q:Q false):noneW (.str i) Q:=by unfold noneW; exact q
theorem txEq_self:∀ l:Tx,txEq l l=true
 | []=>rfl
 | a::l=>by show (Nat.beq a a&&txEq l l)=true; rw [Nat.beq_refl,txEq_self l]; rfl
theorem txEq_of:∀ {l r:Tx},txEq l r=true->l=r
 | [],[],_=>rfl
 | a::l,b::r,h=>by
  have h:=Ab (show (Nat.beq a b&&txEq l r)=true from h);rw [As h.1,txEq_of h.2]
noncomputable def Tok.is (w:Tx):Tok->Bool
 | .word v=>txEq v w
 | _=>false
theorem pyEq_tok {k:Tok}{w:Tx}:pyEq k.av (.tup [.str kWord,.str w])=some (k.is w):=by
 cases k with
 | word u=>exact congrArg some (Bool.and_true _)
 | _=>rfl
theorem dep_tok {k:Tok}:Nat.ble k.av.depth 100=true:=by cases k<;>rfl
theorem blt27 {k:Nat}(h:Nat.blt k 27=true):k<27:=Ad h
theorem Core.dk (K:Core T D)(k:Nat){d:FDef}(h:Nat.blt k 27=true)(h':coreD k=some d):D k=some d:=(K.d k (blt27 h)).trans h'
theorem Core.ck (K:Core T D)(k:Nat){o:Option Nat}(h:Nat.blt k 27=true)(h':coreCls k=o):T.clsOf k=o:=(K.c k (blt27 h)).trans h'
theorem peek_ok {J:Store}{r t:Nat}{k:Tok}{rest:List Tok}{P:AV->Prop}(h:PS J r t (k::rest))(q:P k.av):attrW (.obj r) .ts J (fun v=>attrW (.obj r) .pos J fun p=>idxW v p J P):=by
 obtain ⟨ts,p,h1,h2,h3,h4,h5⟩:=h.head;exact attr_ok h1 rfl rfl (attr_ok h1 rfl rfl (idx_ok h2 (ix_nat h4) h3 q))
theorem peekE_ok {J:Store}{r t:Nat}{k:Tok}{rest:List Tok}{P:AV->Prop}{e:Ev}(h0:e 0=some (.obj r))(h:PS J r t (k::rest))(q:P k.av):attrW (.obj r) .ts J (fun v=>varW e 0 fun o=>attrW o .pos J fun p=>idxW v p J P):=by
 obtain ⟨ts,p,h1,h2,h3,h4,h5⟩:=h.head;exact attr_ok h1 rfl rfl (var_ok h0 (attr_ok h1 rfl rfl (idx_ok h2 (ix_nat h4) h3 q)))
theorem at_ok (K:Core T D){n r t:Nat}{w:Tx}{J:Store}{Q:QV}{X:QX}{k:Tok}{rest:List Tok}(h:PS J r t (k::rest))(q:Q (.bool (k.is w)) J) :
  callW T D (n+1) 2 [.obj r,.str w] J Q X:=by
 refine ⟨ir2,K.dk 2 rfl rfl,rfl,?_⟩;refine peek_ok h ?_;exact eq_ok pyEq_tok dep_tok q
theorem PS.step {J:Store}{r t p:Nat}{ts:List AV}{rest:List Tok}(h1:J[r]?=some (.inst 0 [(.ts,.obj t),(.pos,.int (p:Nat))]))(h2:J[t]?=some (.list ts))(h5:ts.drop (p+1)=rest.map Tok.av) :
  PS (J.set r (.inst 0 [(.ts,.obj t),(.pos,.int ((p:Int)+1))])) r t rest∧Keep r J (J.set r (.inst 0 [(.ts,.obj t),(.pos,.int ((p:Int)+1))])):=by
 have hl:r<J.length:=(Ai h1).1;have hne:r≠t:=by rintro rfl; rw [h1] at h2; cases h2
 refine ⟨⟨ts,p+1,?_,?_,h5⟩,by simp,fun i hi _=>?_⟩
 ·rw [List.getElem?_set_self hl]; rfl
 ·rw [List.getElem?_set_ne hne,h2]
 ·rw [List.getElem?_set_ne (Ne.symm hi)]
theorem inc_ok {J:Store}{r t:Nat}{k:Tok}{rest:List Tok}{P:Store->Prop}(h:PS J r t (k::rest))(q:∀ J',PS J' r t rest->Keep r J J'->P J'):attrW (.obj r) .pos J (fun v=>iaddW .add v (.int 1) J fun w J=>setAttrW (.obj r) .pos w J P):=by
 obtain ⟨ts,p,h1,h2,h3,h4,h5⟩:=h.head;obtain ⟨a,b⟩:=PS.step h1 h2 h5;exact attr_ok h1 rfl rfl (put_ok h1 (q _ a b))
theorem pm {J:Store}{r t f:Nat}{ts:List Tok}{P:Nat->Prop}(h:PS J r t ts)(hc:T.clsOf f=some 0)(hp:P r):methW T f (.obj r) J P:=by
 obtain ⟨l,p,h1,_⟩:=h;unfold methW;exact ⟨_,_,_,rfl,h1,hc,hp⟩
theorem got_ok (K:Core T D){n r t:Nat}{w:Tx}{J:Store}{Q:QV}{X:QX}{k:Tok}{rest:List Tok}(h:PS J r t (k::rest))
  (q1:k.is w=true->∀ J',PS J' r t rest->Keep r J J'->Q (.bool true) J') (q2:k.is w=false->Q (.bool false) J) :
  callW T D (n+2) 4 [.obj r,.str w] J Q X:=by
 refine ⟨ir4,K.dk 4 rfl rfl,rfl,?_⟩;refine pm h (K.ck 2 rfl rfl) ?_;refine at_ok K h ?_;refine if_ok (fun hk=>?_) fun hk=>?_
 ·refine inc_ok h ?_;exact q1 hk
 ·exact q2 hk
theorem want_ok (K:Core T D){n r t:Nat}{w:Tx}{J:Store}{Q:QV}{X:QX}{k:Tok}{rest:List Tok}(h:PS J r t (k::rest))
  (q1:k.is w=true->∀ J',PS J' r t rest->Keep r J J'->Q .none J') (q2:k.is w=false->∀ J',X J') :
  callW T D (n+2) 3 [.obj r,.str w] J Q X:=by
 refine ⟨ir3,K.dk 3 rfl rfl,rfl,?_⟩;refine pm h (K.ck 2 rfl rfl) ?_;refine at_ok K h ?_;refine ifn_ok (fun hk=>?_) fun hk=>?_
 ·refine inc_ok h ?_;exact q1 hk
 ·refine peek_ok h ?_;exact q2 hk _
noncomputable def Tok.kind:Tok->Tx
 | .word _=>kWord | .name _=>kName | .int _=>kInt | .fin=>kEnd
noncomputable def Tok.val:Tok->AV
 | .word w=>.str w | .name w=>.str w | .int n=>.int n | .fin=>.str []
theorem Tok.av_eq (k:Tok):k.av=.tup [.str k.kind,k.val]:=by cases k<;>rfl
theorem item_ok (K:Core T D){n r t:Nat}{w:Tx}{J:Store}{Q:QV}{X:QX}{k:Tok}{rest:List Tok}(h:PS J r t (k::rest))
  (q1:txEq k.kind w=true->∀ J',PS J' r t rest->Keep r J J'->Q k.val J') (q2:txEq k.kind w=false->∀ J',X J') :
  callW T D (n+1) 5 [.obj r,.str w] J Q X:=by
 refine ⟨ir5,K.dk 5 rfl rfl,rfl,?_⟩;refine peek_ok h ?_;rw [k.av_eq];refine ifn_ok (fun hk=>?_) fun hk=>?_
 ·refine inc_ok h ?_;exact q1 hk
 ·refine peek_ok h ?_;exact q2 hk _
end
set_option genCtorIdx true in
set_option genInjectivity true in
inductive R (α:Type) where
 | ok (a:α) | err | bot
noncomputable def R.bind {α β:Type}(m:R α)(f:α->R β):R β:=match m with
 | .ok a=>f a
 | .err=>.err
 | .bot=>.bot
inductive Ex where
 | int (n:Nat) | name (x:Tx) | at (x:Tx) (e:Ex) | neg (e:Ex) | odd (e:Ex) | bin (op:Tx) (a b:Ex)
noncomputable def kAt:Tx:=[97,116]
noncomputable def kNeg:Tx:=[110,101,103]
noncomputable def kOdd:Tx:=[111,100,100]
noncomputable def Ex.av:Ex->AV
 | .int n=>.tup [.str kInt,.int n]
 | .name x=>.tup [.str kName,.str x]
 | .at x e=>.tup [.str kAt,.str x,e.av]
 | .neg e=>.tup [.str kNeg,e.av]
 | .odd e=>.tup [.str kOdd,e.av]
 | .bin o a b=>.tup [.str o,a.av,b.av]
inductive St where
 | empty
 | set (x:Tx) (e:Ex)
 | setAt (x:Tx) (i e:Ex)
 | call (x:Tx) (as:List Ex)
 | if1 (c:Ex) (a:St)
 | if2 (c:Ex) (a b:St)
 | whl (c:Ex) (a:St)
 | rep (s:St) (c:Ex)
 | for (x:Tx) (a b:Ex) (up:Bool) (s:St)
 | beg (s:St)
 | write (e:Ex)
  | one (s:St)
 | seq (s:St) (r:St)
noncomputable def sEmpty:Tx:=[101,109,112,116,121]
noncomputable def sSet:Tx:=[115,101,116]
noncomputable def sCall:Tx:=[99,97,108,108]
noncomputable def sIf:Tx:=[105,102]
noncomputable def sWhile:Tx:=[119,104,105,108,101]
noncomputable def sRepeat:Tx:=[114,101,112,101,97,116]
noncomputable def sFor:Tx:=[102,111,114]
noncomputable def sBegin:Tx:=[98,101,103,105,110]
noncomputable def sWrite:Tx:=[119,114,105,116,101]
mutual
noncomputable def St.av:St->AV
 | .empty=>.tup [.str sEmpty]
 | .set x e=>.tup [.str sSet,.str x,.none,e.av]
 | .setAt x i e=>.tup [.str sSet,.str x,i.av,e.av]
 | .call x as=>.tup [.str sCall,.str x,.tup (as.map Ex.av)]
 | .if1 c a=>.tup [.str sIf,c.av,a.av,.none]
 | .if2 c a b=>.tup [.str sIf,c.av,a.av,b.av]
 | .whl c a=>.tup [.str sWhile,c.av,a.av]
 | .rep s c=>.tup [.str sRepeat,.tup s.row,c.av]
 | .for x a b up s=>.tup [.str sFor,.str x,a.av,b.av,.bool up,s.av]
 | .beg s=>.tup [.str sBegin,.tup s.row]
 | .write e=>.tup [.str sWrite,e.av]
 | .one s=>.none
 | .seq s r=>.none
noncomputable def St.row:St->List AV
 | .one s=>[s.av]
 | .seq s r=>s.av::r.row
 | _=>[]
end
noncomputable def mkRow:St->List St->St
 | s,[]=>.one s
 | s,x::q=>.seq s (mkRow x q)
theorem mkRow_row:∀ (q:List St) (s:St),(mkRow s q).row=s.av::q.map St.av
 | [],_=>rfl
 | x::q,s=>congrArg (s.av::·) (mkRow_row q x)
inductive Bl where
 | mk (vs:List (Tx×Option Nat)) (ps:Bl) (ss:St)
 | nil
 | proc (x:Tx) (params:List (Tx×Bool)) (b:Bl) (rest:Bl)
noncomputable def oNat:Option Nat->AV
 | Option.none=>.none
 | some n=>.int n
noncomputable def vAv (v:Tx×Option Nat):AV:=.tup [.str v.1,oNat v.2]
noncomputable def qAv (p:Tx×Bool):AV:=.tup [.str p.1,.bool p.2]
noncomputable def sBlock:Tx:=[98,108,111,99,107]
mutual
noncomputable def Bl.av:Bl->AV
 | .mk vs ps ss=>.tup [.str sBlock,.tup (vs.map vAv),.tup ps.procs,.tup ss.row]
 | .nil=>.none
 | .proc ..=>.none
noncomputable def Bl.procs:Bl->List AV
 | .proc x q b r=>.tup [.str x,.tup (q.map qAv),b.av]::r.procs
 | _=>[]
end
noncomputable def gasL:Nat:=400
section
variable {α:Type}
noncomputable def pGot (w:Tx)(ts:List Tok)(yes:List Tok->R α)(no:R α):R α:=match ts with
 | []=>.bot
 | k::rest=>match k.is w with
  | true=>yes rest
  | false=>no
noncomputable def pWant (w:Tx)(ts:List Tok)(next:List Tok->R α):R α:=match ts with
 | []=>.bot
 | k::rest=>match k.is w with
  | true=>next rest
  | false=>.err
noncomputable def pName (ts:List Tok)(next:Tx->List Tok->R α):R α:=match ts with
 | []=>.bot
 | .name x::rest=>next x rest
 | _::_=>.err
noncomputable def pInt (ts:List Tok)(next:Nat->List Tok->R α):R α:=match ts with
 | []=>.bot
 | .int x::rest=>next x rest
 | _::_=>.err
noncomputable def pWord (ts:List Tok)(next:Tx->List Tok->R α):R α:=match ts with
 | []=>.bot
 | .word x::rest=>next x rest
 | _::_=>.err
end
abbrev PE:=R (Ex×List Tok)
noncomputable def wPlus:Tx:=[43]
noncomputable def wMinus:Tx:=[45]
noncomputable def wMul:Tx:=[42]
noncomputable def wDiv:Tx:=[100,105,118]
noncomputable def wMod:Tx:=[109,111,100]
noncomputable def wOpen:Tx:=[40]
noncomputable def wClose:Tx:=[41]
noncomputable def wBra:Tx:=[91]
noncomputable def wKet:Tx:=[93]
noncomputable def isAdd (w:Tx):Bool:=txEq w wPlus||txEq w wMinus
noncomputable def isMul (w:Tx):Bool:=txEq w wMul||txEq w wDiv||txEq w wMod
noncomputable def isCmp (w:Tx):Bool:=memTx w (cmps.map .str)
noncomputable def pLoop (p:Tx->Bool)(sub:List Tok->PE):Nat->Ex->List Tok->PE
 | 0,_,_=>.bot
 | g+1,e,ts=>match ts with
  | []=>.bot
  | .word w::rest=>(match p w with
   | true=>(sub rest).bind fun q=>pLoop p sub g (.bin w e q.1) q.2
   | false=>.ok (e,ts))
  | _::_=>.ok (e,ts)
noncomputable def pTerm (fac:List Tok->PE)(ts:List Tok):PE:=(fac ts).bind fun q=>pLoop isMul fac gasL q.1 q.2
noncomputable def pExprO (fac:List Tok->PE)(ts:List Tok):PE:=(pTerm fac ts).bind fun q=>pLoop isAdd (pTerm fac) gasL q.1 q.2
noncomputable def pFactor:Nat->List Tok->PE
 | 0,_=>.bot
 | d+1,ts=>pGot wMinus ts (fun r=>(pFactor d r).bind fun q=>.ok (.neg q.1,q.2)) <|
  pGot wOpen ts (fun r=>(pExprO (pFactor d) r).bind fun q=>pWant wClose q.2 fun r=>.ok (q.1,r)) <|
  match ts with
  | []=>.bot
  | .int n::r=>.ok (.int n,r)
  | .name x::r=>pGot wBra r (fun r=>(pExprO (pFactor d) r).bind fun q=>pWant wKet q.2 fun r=>.ok (.at x q.1,r)) (.ok (.name x,r))
  | _::_=>.err
noncomputable def dE:Nat:=12
noncomputable def pExpr (ts:List Tok):PE:=pExprO (pFactor dE) ts
noncomputable def pCond (ts:List Tok):PE:=
 pGot kOdd ts (fun r=>pWant wOpen r fun r=>(pExpr r).bind fun q=>pWant wClose q.2 fun r=>.ok (.odd q.1,r)) <|
 (pExpr ts).bind fun a=>pWord a.2 fun s r=>match isCmp s with
  | true=>(pExpr r).bind fun b=>.ok (.bin s a.1 b.1,b.2)
  | false=>.err
abbrev PT:=R (St×List Tok)
noncomputable def wThen:Tx:=[116,104,101,110]
noncomputable def wElse:Tx:=[101,108,115,101]
noncomputable def wDo:Tx:=[100,111]
noncomputable def wUntil:Tx:=[117,110,116,105,108]
noncomputable def wSet:Tx:=[58,61]
noncomputable def wTo:Tx:=[116,111]
noncomputable def wDownto:Tx:=[100,111,119,110,116,111]
noncomputable def wEnd:Tx:=[101,110,100]
noncomputable def wComma:Tx:=[44]
noncomputable def wSemi:Tx:=[59]
noncomputable def wColon:Tx:=[58]
noncomputable def pRowL (st:List Tok->PT):Nat->List Tok->R (List St×List Tok)
 | 0,_=>.bot
 | g+1,ts=>pGot wSemi ts (fun r=>(st r).bind fun s=>(pRowL st g s.2).bind fun q=>.ok (s.1::q.1,q.2)) (.ok ([],ts))
noncomputable def pRow (st:List Tok->PT)(ts:List Tok):PT:=(st ts).bind fun s=>(pRowL st gasL s.2).bind fun q=>.ok (mkRow s.1 q.1,q.2)
noncomputable def pArgsL:Nat->List Tok->R (List Ex×List Tok)
 | 0,_=>.bot
 | g+1,ts=>pGot wComma ts (fun r=>(pExpr r).bind fun e=>(pArgsL g e.2).bind fun q=>.ok (e.1::q.1,q.2)) (.ok ([],ts))
noncomputable def pArgs (ts:List Tok):R (List Ex×List Tok):=
 pGot wOpen ts (fun r=>(pExpr r).bind fun e=>(pArgsL gasL e.2).bind fun q=>pWant wClose q.2 fun r=>.ok (e.1::q.1,r)) (.ok ([],ts))
noncomputable def pForEnd (st:List Tok->PT)(x:Tx)(a:Ex)(up:Bool)(ts:List Tok):PT:=
 (pExpr ts).bind fun b=>pWant wDo b.2 fun r=>(st r).bind fun s=>.ok (.for x a b.1 up s.1,s.2)
noncomputable def pStmt:Nat->List Tok->PT
 | 0,_=>.bot
 | d+1,ts=>
  pGot sIf ts (fun r=>(pCond r).bind fun c=>pWant wThen c.2 fun r=>(pStmt d r).bind fun a=>
   pGot wElse a.2 (fun r=>(pStmt d r).bind fun b=>.ok (.if2 c.1 a.1 b.1,b.2)) (.ok (.if1 c.1 a.1,a.2))) <|
  pGot sWhile ts (fun r=>(pCond r).bind fun c=>pWant wDo c.2 fun r=>(pStmt d r).bind fun a=>.ok (.whl c.1 a.1,a.2)) <|
  pGot sRepeat ts (fun r=>(pRow (pStmt d) r).bind fun s=>pWant wUntil s.2 fun r=>(pCond r).bind fun c=>.ok (.rep s.1 c.1,c.2)) <|
  pGot sFor ts (fun r=>pName r fun x r=>pWant wSet r fun r=>(pExpr r).bind fun a=>
   pGot wTo a.2 (fun r=>pForEnd (pStmt d) x a.1 true r) (pWant wDownto a.2 fun r=>pForEnd (pStmt d) x a.1 false r)) <|
  pGot sBegin ts (fun r=>(pRow (pStmt d) r).bind fun s=>pWant wEnd s.2 fun r=>.ok (.beg s.1,r)) <|
  pGot sWrite ts (fun r=>pWant wOpen r fun r=>(pExpr r).bind fun e=>pWant wClose e.2 fun r=>.ok (.write e.1,r)) <|
  match ts with
  | []=>.bot
  | .name x::r=>
   pGot wSet r (fun r=>(pExpr r).bind fun e=>.ok (.set x e.1,e.2)) <|
   pGot wBra r (fun r=>(pExpr r).bind fun i=>pWant wKet i.2 fun r=>pWant wSet r fun r=>(pExpr r).bind fun e=>.ok (.setAt x i.1 e.1,e.2)) <|
   (pArgs r).bind fun q=>.ok (.call x q.1,q.2)
  | _::_=>.ok (.empty,ts)
noncomputable def dS:Nat:=14
noncomputable def pStmts (ts:List Tok):PT:=pRow (pStmt dS) ts
noncomputable def wVar:Tx:=[118,97,114]
noncomputable def wArray:Tx:=[97,114,114,97,121]
noncomputable def wOf:Tx:=[111,102]
noncomputable def wInteger:Tx:=[105,110,116,101,103,101,114]
noncomputable def wProc:Tx:=[112,114,111,99,101,100,117,114,101]
noncomputable def wProgram:Tx:=[112,114,111,103,114,97,109]
noncomputable def wDot:Tx:=[46]
noncomputable def pNamesL:Nat->List Tok->R (List Tx×List Tok)
 | 0,_=>.bot
 | g+1,ts=>pGot wComma ts (fun r=>pName r fun x r=>(pNamesL g r).bind fun q=>.ok (x::q.1,q.2)) (.ok ([],ts))
noncomputable def pDeclE (xs:List Tx)(z:Option Nat)(ts:List Tok):R (List (Tx×Option Nat)×List Tok):=
 pWant wInteger ts fun r=>pWant wSemi r fun r=>.ok (xs.map fun x=>(x,z),r)
noncomputable def pDecl (ts:List Tok):R (List (Tx×Option Nat)×List Tok):=
 pName ts fun x r=>(pNamesL gasL r).bind fun q=>pWant wColon q.2 fun r=>
  pGot wArray r (fun r=>pWant wBra r fun r=>pInt r fun n r=>pWant wKet r fun r=>pWant wOf r fun r=>pDeclE (x::q.1) (some n) r) (pDeclE (x::q.1) Option.none r)
noncomputable def pVars:Nat->List Tok->R (List (Tx×Option Nat)×List Tok)
 | 0,_=>.bot
 | g+1,ts=>(pDecl ts).bind fun v=>match v.2 with
  | []=>.bot
  | .name _::_=>(pVars g v.2).bind fun q=>.ok (v.1++q.1,q.2)
  | _::_=>.ok (v.1,v.2)
noncomputable def pParams:Nat->List Tok->R (List (Tx×Bool)×List Tok)
 | 0,_=>.bot
 | g+1,ts=>
  let more:=fun (p:Tx×Bool) r=>pGot wComma r (fun r=>(pParams g r).bind fun q=>.ok (p::q.1,q.2)) (.ok ([p],r))
  pGot wVar ts (fun r=>pName r fun x r=>more (x,true) r) (pName ts fun x r=>more (x,false) r)
abbrev PB:=R (Bl×List Tok)
noncomputable def pProcE (blk:List Tok->PB)(x:Tx)(ps:List (Tx×Bool))(ts:List Tok):R ((Tx×List (Tx×Bool)×Bl)×List Tok):=
 pWant wSemi ts fun r=>(blk r).bind fun b=>pWant wSemi b.2 fun r=>.ok ((x,ps,b.1),r)
noncomputable def pProcs (blk:List Tok->PB):Nat->List Tok->PB
 | 0,_=>.bot
 | g+1,ts=>pGot wProc ts (fun r=>pName r fun x r=>
   (pGot wOpen r (fun r=>(pParams gasL r).bind fun q=>pWant wClose q.2 fun r=>pProcE blk x q.1 r) (pProcE blk x [] r)).bind fun p=>
   (pProcs blk g p.2).bind fun q=>.ok (.proc p.1.1 p.1.2.1 p.1.2.2 q.1,q.2)) (.ok (.nil,ts))
noncomputable def pBlockE (blk:List Tok->PB)(vs:List (Tx×Option Nat))(ts:List Tok):PB:=
 (pProcs blk gasL ts).bind fun p=>pWant sBegin p.2 fun r=>(pStmts r).bind fun s=>pWant wEnd s.2 fun r=>.ok (.mk vs p.1 s.1,r)
noncomputable def pBlock:Nat->List Tok->PB
 | 0,_=>.bot
 | d+1,ts=>pGot wVar ts (fun r=>(pVars gasL r).bind fun v=>pBlockE (pBlock d) v.1 v.2) (pBlockE (pBlock d) [] ts)
noncomputable def dB:Nat:=6
noncomputable def pProgram (ts:List Tok):R (Tx×Bl):=
 pWant wProgram ts fun r=>pName r fun x r=>pWant wSemi r fun r=>(pBlock dB r).bind fun b=>pWant wDot b.2 fun r=>match r with
  | []=>.bot
  | .fin::_=>.ok (x,b.1)
  | _::_=>.err
def PSp {α:Type}(enc:α->AV)(res:R (α×List Tok))(r t:Nat)(J₀:Store)(Q:QV)(X:QX):Prop:=match res with
 | .ok q=>∀ J',PS J' r t q.2->Keep r J₀ J'->Q (enc q.1) J'
 | .err=>∀ J',X J'
 | .bot=>False
structure Ends {β:Type}(G:R β->Prop)(X:QX):Prop where
 err:G .err->∀ J',X J'
 bot:¬ G .bot
theorem PSp.ends {α:Type}{enc:α->AV}{r t:Nat}{J₀:Store}{Q:QV}{X:QX}:Ends (fun res=>PSp enc res r t J₀ Q X) X:=⟨fun h=>h,fun h=>h⟩
theorem PSp.of {α β:Type}{enc:α->AV}{m:R (α×List Tok)}{f:α×List Tok->R β}{G:R β->Prop}{r t:Nat}{J:Store}{Q:QV}{X:QX}(E:Ends G X)(h:G (m.bind f))
  (c:∀ q J',PS J' r t q.2->Keep r J J'->G (f q)->Q (enc q.1) J'):PSp enc m r t J Q X:=by
 cases m with
 | ok q=>exact fun J' h1 h2=>c q J' h1 h2 h
 | err=>exact E.err h
 | bot=>exact (E.bot h).elim
section
variable {T:Stat}{D:Nat->Option FDef}
theorem ge1 {n:Nat}(h:1<=n):∃ m,n=m+1:=⟨n-1,(Nat.sub_add_cancel h).symm⟩
theorem ge2 {n:Nat}(h:2<=n):∃ m,n=m+2:=⟨n-2,(Nat.sub_add_cancel h).symm⟩
section
variable {β:Type}{G:R β->Prop}{n r t:Nat}{w:Tx}{J:Store}{Q:QV}{X:QX}{ts:List Tok}
theorem pGot_eq {α:Type}{w:Tx}{k:Tok}{rest:List Tok}{yes:List Tok->R α}{no:R α}{b:Bool}(e:k.is w=b):pGot w (k::rest) yes no=match (generalizing:=false) b with
  | true=>yes rest
  | false=>no:=by subst e; rfl
theorem pWant_eq {α:Type}{w:Tx}{k:Tok}{rest:List Tok}{yes:List Tok->R α}{b:Bool}(e:k.is w=b):pWant w (k::rest) yes=match (generalizing:=false) b with
  | true=>yes rest
  | false=>.err:=by subst e; rfl
theorem pLoop_eq {p:Tx->Bool}{sub:List Tok->PE}{g:Nat}{x:Ex}{w:Tx}{rest:List Tok}{b:Bool}(e:p w=b):pLoop p sub (g+1) x (.word w::rest)=match (generalizing:=false) b with
  | true=>(sub rest).bind fun q=>pLoop p sub g (.bin w x q.1) q.2
  | false=>.ok (x,.word w::rest):=by subst e; rfl
theorem got_sp (K:Core T D)(E:Ends G X)(hn:2<=n)(ps:PS J r t ts){yes:List Tok->R β}{no:R β}(h:G (pGot w ts yes no))
  (q1:∀ rest J',PS J' r t rest->Keep r J J'->G (yes rest)->Q (.bool true) J') (q2:G no->Q (.bool false) J):methW T 4 (.obj r) J fun r=>callW T D n 4 [.obj r,.str w] J Q X:=by
 obtain ⟨n,rfl⟩:=ge2 hn;refine pm ps (K.ck 4 rfl rfl) ?_;cases ts with
 | nil=>exact (E.bot h).elim
 | cons k rest=>
  refine got_ok K ps (fun hk J' h1 h2=>?_) (fun hk=>?_)
  ·rw [pGot_eq hk] at h; exact q1 _ _ h1 h2 h
  ·rw [pGot_eq hk] at h; exact q2 h
theorem want_sp (K:Core T D)(E:Ends G X)(hn:2<=n)(ps:PS J r t ts){next:List Tok->R β}(h:G (pWant w ts next))
  (q1:∀ rest J',PS J' r t rest->Keep r J J'->G (next rest)->Q .none J'):methW T 3 (.obj r) J fun r=>callW T D n 3 [.obj r,.str w] J Q X:=by
 obtain ⟨n,rfl⟩:=ge2 hn;refine pm ps (K.ck 3 rfl rfl) ?_;cases ts with
 | nil=>exact (E.bot h).elim
 | cons k rest=>
  refine want_ok K ps (fun hk J' h1 h2=>?_) (fun hk=>?_)
  ·rw [pWant_eq hk] at h; exact q1 _ _ h1 h2 h
  ·rw [pWant_eq hk] at h; exact E.err h
theorem name_sp (K:Core T D)(E:Ends G X)(hn:1<=n)(ps:PS J r t ts){next:Tx->List Tok->R β}(h:G (pName ts next))
  (q1:∀ x rest J',PS J' r t rest->Keep r J J'->G (next x rest)->Q (.str x) J'):methW T 5 (.obj r) J fun r=>callW T D n 5 [.obj r,.str kName] J Q X:=by
 obtain ⟨n,rfl⟩:=ge1 hn;refine pm ps (K.ck 5 rfl rfl) ?_;cases ts with
 | nil=>exact (E.bot h).elim
 | cons k rest=>
  refine item_ok K ps (fun hk J' h1 h2=>?_) (fun hk=>?_)
  ·cases k<;>first | exact q1 _ _ _ h1 h2 h | (cases hk)
  ·cases k<;>first | exact E.err h | (cases hk)
theorem tok_sp (K:Core T D){k:Tok}{kd:Tx}(hn:1<=n)(ps:PS J r t (k::ts))(hk:txEq k.kind kd=true)(q:∀ J',PS J' r t ts->Keep r J J'->Q k.val J'):methW T 5 (.obj r) J fun r=>callW T D n 5 [.obj r,.str kd] J Q X:=by
 obtain ⟨n,rfl⟩:=ge1 hn;exact pm ps (K.ck 5 rfl rfl) (item_ok K ps (fun _=>q) fun h=>Bool.noConfusion (hk.symm.trans h))
theorem int_sp (K:Core T D)(E:Ends G X)(hn:1<=n)(ps:PS J r t ts){next:Nat->List Tok->R β}(h:G (pInt ts next))
  (q1:∀ (x:Nat) rest J',PS J' r t rest->Keep r J J'->G (next x rest)->Q (.int x) J'):methW T 5 (.obj r) J fun r=>callW T D n 5 [.obj r,.str kInt] J Q X:=by
 obtain ⟨n,rfl⟩:=ge1 hn;refine pm ps (K.ck 5 rfl rfl) ?_;cases ts with
 | nil=>exact (E.bot h).elim
 | cons k rest=>
  refine item_ok K ps (fun hk J' h1 h2=>?_) (fun hk=>?_)
  ·cases k<;>first | exact q1 _ _ _ h1 h2 h | (cases hk)
  ·cases k<;>first | exact E.err h | (cases hk)
theorem word_sp (K:Core T D)(E:Ends G X)(hn:1<=n)(ps:PS J r t ts){next:Tx->List Tok->R β}(h:G (pWord ts next))
  (q1:∀ x rest J',PS J' r t rest->Keep r J J'->G (next x rest)->Q (.str x) J'):methW T 5 (.obj r) J fun r=>callW T D n 5 [.obj r,.str kWord] J Q X:=by
 obtain ⟨n,rfl⟩:=ge1 hn;refine pm ps (K.ck 5 rfl rfl) ?_;cases ts with
 | nil=>exact (E.bot h).elim
 | cons k rest=>
  refine item_ok K ps (fun hk J' h1 h2=>?_) (fun hk=>?_)
  ·cases k<;>first | exact q1 _ _ _ h1 h2 h | (cases hk)
  ·cases k<;>first | exact E.err h | (cases hk)
theorem at_sp (K:Core T D){k:Tok}(hn:1<=n)(ps:PS J r t (k::ts))(q:Q (.bool (k.is w)) J):methW T 2 (.obj r) J fun r=>callW T D n 2 [.obj r,.str w] J Q X:=by
 obtain ⟨n,rfl⟩:=ge1 hn;exact pm ps (K.ck 2 rfl rfl) (at_ok K ps q)
end
def LSp {α:Type}(res:R (α×List Tok))(r t:Nat)(J₀:Store)(F:α->Ev->Store->Prop)(QQ:QF)(XX:XS):Prop:=match res with
 | .ok q=>∀ e' J',F q.1 e' J'->PS J' r t q.2->Keep r J₀ J'->QQ .next e' J'
 | .err=>∀ e' J',XX e' J'
 | .bot=>False
theorem LSp.ends {α:Type}{r t:Nat}{J₀:Store}{F:α->Ev->Store->Prop}{QQ:QF}{XX:XS}{e:Ev}:Ends (fun res=>LSp res r t J₀ F QQ XX) (XX e):=⟨fun h J'=>h e J',fun h=>h⟩
def PFn (T:Stat)(D:Nat->Option FDef){α:Type}(f N:Nat)(enc:α->AV)(p:List Tok->R (α×List Tok)):Prop:=
 ∀ n,N<=n->∀ r t ts J Q X,PS J r t ts->PSp enc (p ts) r t J Q X->callW T D n f [.obj r] J Q X
theorem sub_sp {α β:Type}{f N:Nat}{enc:α->AV}{p:List Tok->R (α×List Tok)}(F:PFn T D f N enc p)(hc:T.clsOf f=some 0){n r t:Nat}(hn:N<=n){ts:List Tok}{J:Store}{Q:QV}{X:QX}{G:R β->Prop}{k:α×List Tok->R β}
  (E:Ends G X) (ps:PS J r t ts) (h:G ((p ts).bind k)) (c:∀ q J',PS J' r t q.2->Keep r J J'->G (k q)->Q (enc q.1) J'):methW T f (.obj r) J fun r=>callW T D n f [.obj r] J Q X:=
 pm ps hc (F n hn _ _ _ _ _ _ ps (PSp.of E h c))
noncomputable def opTok (p:Tx->Bool):Tok->Bool
 | .word w=>p w
 | _=>false
noncomputable def opBody (f:Nat):Ss:=.cons (.set 2 (.meth (.v 0) 5 (.cons (.str [119,111,114,100]) .nil))) (.cons (.set 1 (.tuple (.cons (.v 2) (.cons (.v 1) (.cons (.meth (.v 0) f .nil) .nil))))) .nil)
theorem loopE (K:Core T D){n r t f N:Nat}{sub:List Tok->PE}{p:Tx->Bool}{cnd:Ev->Store->QV->QX->Prop}(hn:1<=n)(hN:N<=n)(hc:T.clsOf f=some 0)(hs:PFn T D f N Ex.av sub)
  (hcnd:∀ e J k rest Q X,e 0=some (.obj r)->PS J r t (k::rest)->Q (.bool (opTok p k)) J->cnd e J Q X) (J₀:Store) (QQ:QF) (XX:XS) :
  ∀ (g:Nat) (x:Ex) (ts:List Tok) (e:Ev) (J:Store),e 0=some (.obj r)->e 1=some x.av->PS J r t ts->Keep r J₀ J->
   LSp (pLoop p sub g x ts) r t J₀ (fun y e' _=>e' 1=some y.av) QQ XX->
   whlW cnd (ssW T (callW T D n) (opBody f)) g e J QQ XX:=by
 intro g
 induction g with
 | zero=>intro x ts e J _ _ _ _ h; exact h.elim
 | succ g ih=>
  intro x ts e J h0 h1 ps kp h;cases ts with
  | nil=>exact h.elim
  | cons k rest=>
   refine hcnd _ _ _ _ _ _ h0 ps ?_;refine if_ok (fun hk=>?_) fun hk=>?_
   ·cases k with
    | word w=>
     rw [pLoop_eq hk] at h;refine var_ok h0 ?_;obtain ⟨m,rfl⟩:=ge1 hn;refine pm ps (K.ck 5 rfl rfl) ?_;refine item_ok K ps (fun _ J1 p1 k1=>?_) (fun q=>Bool.noConfusion q);refine var_ok (e:=upd e 2 _) (i:=1) h1 ?_;refine var_ok (e:=upd e 2 _) (i:=0) h0 ?_;refine sub_sp hs hc hN LSp.ends p1 h fun q J2 p2 k2 h2=>?_;exact ih _ _ _ _ h0 rfl p2 ((kp.trans k1).trans k2) h2
    | _=>cases hk
   ·cases k with
    | word w=>rw [pLoop_eq hk] at h; exact h _ _ h1 ps kp
    | _=>exact h _ _ h1 ps kp
theorem cndMul (K:Core T D){n r t:Nat}(hn:1<=n):∀ e J k rest Q X,e 0=some (.obj r)->PS J r t (k::rest)->Q (.bool (opTok isMul k)) J->evW T (callW T D n) ir7c0 e J Q X:=by
 intro e J k rest Q X h0 ps h;have e1:opTok isMul k=(k.is [42]||k.is [100,105,118]||k.is [109,111,100]):=by cases k<;>rfl
 rw [e1] at h;refine var_ok h0 ?_;refine at_sp K hn ps ?_;refine if_ok (fun h1=>?_) fun h1=>?_
 ·rw [h1] at h; exact h
 rw [h1] at h;refine var_ok h0 ?_;refine at_sp K hn ps ?_;refine if_ok (fun h1=>?_) fun h1=>?_
 ·rw [h1] at h; exact h
 rw [h1] at h;refine var_ok h0 ?_;exact at_sp K hn ps h
theorem cndAdd (K:Core T D){n r t:Nat}(hn:1<=n):∀ e J k rest Q X,e 0=some (.obj r)->PS J r t (k::rest)->Q (.bool (opTok isAdd k)) J->evW T (callW T D n) ir6c0 e J Q X:=by
 intro e J k rest Q X h0 ps h;have e1:opTok isAdd k=(k.is [43]||k.is [45]):=by cases k<;>rfl
 rw [e1] at h;refine var_ok h0 ?_;refine at_sp K hn ps ?_;refine if_ok (fun h1=>?_) fun h1=>?_
 ·rw [h1] at h; exact h
 rw [h1] at h;refine var_ok h0 ?_;exact at_sp K hn ps h
theorem opFn {N f f':Nat}{sub:List Tok->PE}{p:Tx->Bool}{c:E}(K:Core T D)(hN:2<=N)(hs:PFn T D f' N Ex.av sub)(hc:T.clsOf f'=some 0)
  (hd:D f=some ⟨1,(.cons (.set 1 (.meth (.v 0) f' .nil)) (.cons (.whl c (opBody f')) (.cons (.ret (.v 1)) .nil)))⟩)
  (hcnd:∀ {n r t:Nat},1<=n->∀ e J k rest Q X,e 0=some (.obj r)->PS J r t (k::rest)->Q (.bool (opTok p k)) J->evW T (callW T D n) c e J Q X) :
  PFn T D f (N+1) Ex.av (fun ts=>(sub ts).bind fun q=>pLoop p sub gasL q.1 q.2):=by
 intro n hn r t ts J Q X ps h;obtain ⟨n,rfl⟩:=ge1 (Aa (Ar 1 N) hn);have hn:=Am hn;have h1:=Aa (Ap hN) hn;refine ⟨_,hd,rfl,?_⟩;refine sub_sp hs hc hn PSp.ends ps h fun q J1 p1 k1 h₁=>?_;refine ⟨gasL,loopE K h1 hn hc hs (hcnd h1) J _ _ gasL q.1 q.2 _ _ rfl rfl p1 k1 ?_⟩;revert h₁;unfold LSp PSp;cases pLoop p sub gasL q.1 q.2 with
 | ok q'=>intro h₁ e' J' hF ps' kp'; exact var_ok hF (h₁ _ ps' kp')
 | err=>intro h₁ e' J'; exact h₁ _
 | bot=>exact id
theorem term_sp (K:Core T D){N:Nat}{fac:List Tok->PE}(hN:2<=N)(hf:PFn T D 8 N Ex.av fac):PFn T D 7 (N+1) Ex.av (pTerm fac):=opFn K hN hf (K.ck 8 rfl rfl) (K.dk 7 rfl rfl) (cndMul K)
theorem expr_sp (K:Core T D){N:Nat}{fac:List Tok->PE}(hN:2<=N)(hf:PFn T D 8 N Ex.av fac):PFn T D 6 (N+2) Ex.av (pExprO fac):=opFn K (Nat.le_succ_of_le hN) (term_sp K hN hf) (K.ck 7 rfl rfl) (K.dk 6 rfl rfl) (cndAdd K)
theorem factor_sp (K:Core T D):∀ d,PFn T D 8 (3*d+3) Ex.av (pFactor d):=by
 intro d
 induction d with
 | zero=>intro n hn r t ts J Q X ps h; exact h.elim
 | succ d ih=>
  have ie:=expr_sp K (by lia) ih;intro n hn r t ts J Q X ps h;obtain ⟨n,rfl⟩:=ge1 (Aa (Ar 1 _) hn);have h5:3*d+3+2<=n:=Am (show 3*d+3+2+1<=n+1 from hn);have h3:3*d+3<=n:=Aa (Af _ 2) h5;have h2:2<=n:=Aa (Ar 2 _) h5;have h1:1<=n:=Ap h2;have c6:=K.ck 6 rfl rfl;refine ⟨ir8,K.dk 8 rfl rfl,rfl,?_⟩;refine got_sp K PSp.ends h2 ps h (fun rest J1 p1 k1 h=>?_) fun h=>?_
  ·refine sub_sp ih (K.ck 8 rfl rfl) h3 PSp.ends p1 h fun q J2 p2 k2 h₂=>?_;exact h₂ _ p2 (k1.trans k2)
  refine got_sp K PSp.ends h2 ps h (fun rest J1 p1 k1 h=>?_) fun h=>?_
  ·refine sub_sp ie c6 h5 PSp.ends p1 h fun q J2 p2 k2 h₂=>?_;refine want_sp K PSp.ends h2 p2 h₂ fun rest J3 p3 k3 h₃=>?_;exact h₃ _ p3 ((k1.trans k2).trans k3)
  cases ts with
  | nil=>exact h.elim
  | cons k rest=>
   refine peek_ok ps ?_;cases k with
   | int m=>exact tok_sp K h1 ps rfl fun J1 p1 k1=>h _ p1 k1
   | name x=>
    refine tok_sp K h1 ps rfl fun J1 p1 k1=>?_;refine got_sp K PSp.ends h2 p1 h (fun rest J2 p2 k2 h=>?_) fun h=>?_
    ·refine sub_sp ie c6 h5 PSp.ends p2 h fun q J3 p3 k3 h₃=>?_;refine want_sp K PSp.ends h2 p3 h₃ fun rest J4 p4 k4 h4=>?_;exact h4 _ p4 (((k1.trans k2).trans k3).trans k4)
    ·exact h _ p1 k1
   | word w=>exact name_sp K (next:=fun x r=>R.bot) PSp.ends h1 ps h fun x rest J1 p1 k1 h₁=>h₁.elim
   | fin=>exact name_sp K (next:=fun x r=>R.bot) PSp.ends h1 ps h fun x rest J1 p1 k1 h₁=>h₁.elim
theorem pexpr_sp (K:Core T D):PFn T D 6 41 Ex.av pExpr:=expr_sp K (by decide) (factor_sp K dE)
end
theorem Keep.get {r o:Nat}{J J':Store}{m:MO}(k:Keep r J J')(ho:o≠r)(h:J[o]?=some m):J'[o]?=some m:=by
 rw [k.2 o ho (Ai h).1,h]
theorem PS.lt {J:Store}{r t:Nat}{ts:List Tok}(h:PS J r t ts):r<J.length∧t<J.length:=by
 obtain ⟨l,p,h1,h2,_⟩:=h;exact ⟨(Ai h1).1,(Ai h2).1⟩
theorem PS.setO {J:Store}{r t o:Nat}{ts:List Tok}{m:MO}(h:PS J r t ts)(h1:o≠r)(h2:o≠t):PS (J.set o m) r t ts:=by
 obtain ⟨l,p,e1,e2,e3⟩:=h;exact ⟨l,p,by rw [List.getElem?_set_ne h1,e1],by rw [List.getElem?_set_ne h2,e2],e3⟩
theorem get_push {J:Store}{o:Nat}{x m:MO}(h:J[o]?=some x):(J++[m])[o]?=some x:=by
 rw [List.getElem?_append_left (Ai h).1,h]
theorem PS.push {J:Store}{r t:Nat}{ts:List Tok}{m:MO}(h:PS J r t ts):PS (J++[m]) r t ts:=by
 obtain ⟨l,p,e1,e2,e3⟩:=h;exact ⟨l,p,get_push e1,get_push e2,e3⟩
theorem Keep.push {r:Nat}{J₀ J:Store}{m:MO}(h:Keep r J₀ J):Keep r J₀ (J++[m]):=by
 refine ⟨Aa h.1 (by rw [Ac]; exact Af _ _),fun i hi hl=>?_⟩;rw [List.getElem?_append_left (An hl h.1),h.2 i hi hl]
theorem Keep.setO {r o:Nat}{J₀ J:Store}{m:MO}(h:Keep r J₀ J)(ho:J₀.length<=o):Keep r J₀ (J.set o m):=by
 refine ⟨by rw [List.length_set]; exact h.1,fun i hi hl=>?_⟩;rw [List.getElem?_set_ne (Nat.ne_of_gt (An hl ho)),h.2 i hi hl]
theorem get_set {J:Store}{o:Nat}{x m:MO}(h:J[o]?=some x):(J.set o m)[o]?=some m:=List.getElem?_set_self (Ai h).1
theorem get_top {J:Store}{m:MO}:(J++[m])[J.length]?=some m:=by simp
structure Own (r t o:Nat)(J₀ J:Store)(l:List AV):Prop where
 r:o≠r
 t:o≠t
 new:J₀.length<=o
 at_:J[o]?=some (.list l)
theorem Own.keep {r t o:Nat}{J₀ J J':Store}{l:List AV}(h:Own r t o J₀ J l)(k:Keep r J J'):Own r t o J₀ J' l:=⟨h.r,h.t,h.new,k.get h.r h.at_⟩
theorem Own.mk' {r t:Nat}{J₀ J:Store}{l:List AV}{ts:List Tok}(p:PS J r t ts)(k:Keep r J₀ J):Own r t J.length J₀ (J++[.list l]) l:=
 ⟨Nat.ne_of_gt p.lt.1,Nat.ne_of_gt p.lt.2,k.1,get_top⟩
theorem Own.put {r t o:Nat}{J₀ J:Store}{l l':List AV}(h:Own r t o J₀ J l):Own r t o J₀ (J.set o (.list l')) l':=⟨h.r,h.t,h.new,get_set h.at_⟩
theorem Own.push {r t o:Nat}{J₀ J:Store}{l:List AV}{m:MO}(h:Own r t o J₀ J l):Own r t o J₀ (J++[m]) l:=⟨h.r,h.t,h.new,get_push h.at_⟩
theorem Own.other {r t o o':Nat}{J₀ J:Store}{l:List AV}{m:MO}(h:Own r t o J₀ J l)(hne:o'≠o):Own r t o J₀ (J.set o' m) l:=⟨h.r,h.t,h.new,by rw [List.getElem?_set_ne hne,h.at_]⟩
theorem if_t {b:Bool}{A B:Prop}(h:b=true)(a:A):ifW (.bool b) A B:=by rw [h]; exact a
theorem if_f {b:Bool}{A B:Prop}(h:b=false)(a:B):ifW (.bool b) A B:=by rw [h]; exact a
section
variable {T:Stat}{D:Nat->Option FDef}
theorem cond_sp (K:Core T D):PFn T D 9 42 Ex.av pCond:=by
 have ie:=pexpr_sp K;intro n hn r t ts J Q X ps h;obtain ⟨n,rfl⟩:=ge1 (Aa (by decide) hn);have h41:=Am hn;have h2:2<=n:=Aa (by decide) h41;have h1:1<=n:=Ap h2;have c6:=K.ck 6 rfl rfl;refine ⟨ir9,K.dk 9 rfl rfl,rfl,?_⟩;refine got_sp K PSp.ends h2 ps h (fun rest J1 p1 k1 h=>?_) fun h=>?_
 ·refine want_sp K PSp.ends h2 p1 h fun rest J2 p2 k2 h=>?_;refine sub_sp ie c6 h41 PSp.ends p2 h fun q J3 p3 k3 h=>?_;refine want_sp K PSp.ends h2 p3 h fun rest J4 p4 k4 h=>?_;exact h _ p4 (((k1.trans k2).trans k3).trans k4)
 refine sub_sp ie c6 h41 PSp.ends ps h fun q J1 p1 k1 h=>?_;refine word_sp K PSp.ends h1 p1 h fun s rest J2 p2 k2 h=>?_;refine opt_ok K.g1 ?_;have h:PSp Ex.av (match (generalizing:=false) isCmp s with
  | true=>(pExpr rest).bind fun b=>.ok (.bin s q.1 b.1,b.2)
  | false=>.err) r t J Q fun J'=>X J':=h
 refine ifn_ok (fun hs=>?_) fun hs=>?_
 ·rw [show isCmp s=true from hs] at h;refine sub_sp ie c6 h41 PSp.ends p2 h fun q' J3 p3 k3 h=>?_;exact h _ p3 ((k1.trans k2).trans k3)
 ·rw [show isCmp s=false from hs] at h;exact h _
theorem lidlt {n:Nat}(h:n<900000):n<lid:=Nat.lt_trans h (by decide)
theorem rowL_sp (K:Core T D){n N r t o:Nat}{st:List Tok->PT}(hn:2<=n)(hN:N<=n)(hs:PFn T D 11 N St.av st)(J₀:Store)(QQ:QF)(XX:XS) :
  ∀ (g:Nat) (acc:List AV) (ts:List Tok) (e:Ev) (J:Store),e 0=some (.obj r)->e 1=some (.obj o)->Own r t o J₀ J acc->acc.length+g<=800000->PS J r t ts->Keep r J₀ J->
   LSp (pRowL st g ts) r t J₀ (fun q e' J'=>e' 1=some (.obj o)∧J'[o]?=some (.list (acc++q.map St.av))) QQ XX->
   whlW (evW T (callW T D n) ir10c0) (ssW T (callW T D n) ir10b0) g e J QQ XX:=by
 intro g
 induction g with
 | zero=>intro acc ts e J _ _ _ _ _ _ h; exact h.elim
 | succ g ih=>
  intro acc ts e J h0 h1 ho hl ps kp h;refine var_ok h0 ?_;refine got_sp K LSp.ends hn ps h (fun rest J1 p1 k1 h=>?_) fun h=>?_
  ·refine var_ok h1 ?_;have ho1:=ho.keep k1;refine lst_ok ho1.at_ ?_;refine var_ok h0 ?_;refine sub_sp hs (K.ck 11 rfl rfl) hN LSp.ends p1 h fun q J2 p2 k2 h=>?_;have ho2:=ho1.keep k2;refine lst_ok ho2.at_ ⟨lidlt (by lia),?_⟩;refine ih (acc++[q.1.av]) q.2 _ _ h0 h1 ho2.put (by rw [Ac]; exact Aa (Nat.le_of_eq (Aw _ 1 _)) hl) (p2.setO ho2.r ho2.t) (((kp.trans k1).trans k2).setO ho2.new) ?_;revert h;unfold LSp;cases pRowL st g q.2 with
   | ok q'=>intro h e' J' hF; exact h e' J' (by rw [Ae] at hF; exact hF)
   | err=>exact id
   | bot=>exact id
  ·exact h _ _ ⟨h1,by rw [List.map_nil,List.append_nil]; exact ho.at_⟩ ps kp
theorem row_sp (K:Core T D){N:Nat}{st:List Tok->PT}(hN:2<=N)(hs:PFn T D 11 N St.av st):PFn T D 10 (N+1) (fun s:St=>AV.tup s.row) (pRow st):=by
 intro n hn r t ts J Q X ps h;obtain ⟨n,rfl⟩:=ge1 (Aa (Ar 1 N) hn);have hn:=Am hn;refine ⟨ir10,K.dk 10 rfl rfl,rfl,?_⟩;refine sub_sp hs (K.ck 11 rfl rfl) hn PSp.ends ps h fun q J1 p1 k1 h₁=>?_;refine ⟨gasL,rowL_sp K (Aa hN hn) hn hs J _ _ gasL [q.1.av] q.2 _ _ rfl rfl (Own.mk' p1 k1) (show 401<=800000 by decide) p1.push k1.push ?_⟩;revert h₁;unfold LSp PSp R.bind;cases pRowL st gasL q.2 with
 | ok q'=>
  intro h₁ e' J' hF ps' kp';refine var_ok hF.1 ?_;refine lst_ok hF.2 ?_;have h2:Q (.tup (mkRow q.1 q'.1).row) J':=h₁ _ ps' kp';rw [mkRow_row] at h2; exact h2
 | err=>intro h₁ e' J'; exact h₁ _
 | bot=>exact id
end
section
variable {T:Stat}{D:Nat->Option FDef}
theorem Ends.bind {α β:Type}{G:R β->Prop}{X:QX}{f:α->R β}(E:Ends G X):Ends (fun res:R α=>G (res.bind f)) X:=⟨fun h=>E.err h,fun h=>E.bot h⟩
theorem argsL_sp (K:Core T D){n r t o:Nat}(hn:41<=n)(J₀:Store)(QQ:QF)(XX:XS)(F:Ev->Prop)(hF0:∀ e,F e->e 0=some (.obj r))(hF9:∀ e,F e->e 9=some (.obj o)) :
  ∀ (g:Nat) (acc:List AV) (ts:List Tok) (e:Ev) (J:Store),F e->Own r t o J₀ J acc->acc.length+g<=800000->PS J r t ts->Keep r J₀ J->
   LSp (pArgsL g ts) r t J₀ (fun q e' J'=>F e'∧Own r t o J₀ J' (acc++q.map Ex.av)) QQ XX->
   whlW (evW T (callW T D n) ir11c0) (ssW T (callW T D n) ir11b0) g e J QQ XX:=by
 have ie:=pexpr_sp K;intro g
 induction g with
 | zero=>intro acc ts e J _ _ _ _ _ h; exact h.elim
 | succ g ih=>
  intro acc ts e J hF ho hl ps kp h;have h0:=hF0 e hF;refine var_ok h0 ?_;refine got_sp K LSp.ends (Aa (by decide) hn) ps h (fun rest J1 p1 k1 h=>?_) fun h=>?_
  ·refine var_ok (hF9 e hF) ?_;have ho1:=ho.keep k1;refine lst_ok ho1.at_ ?_;refine var_ok h0 ?_;refine sub_sp ie (K.ck 6 rfl rfl) hn LSp.ends p1 h fun q J2 p2 k2 h=>?_;have ho2:=ho1.keep k2;refine lst_ok ho2.at_ ⟨lidlt (by lia),?_⟩;refine ih (acc++[q.1.av]) q.2 _ _ hF ho2.put (by rw [Ac]; exact Aa (Nat.le_of_eq (Aw _ 1 _)) hl) (p2.setO ho2.r ho2.t) (((kp.trans k1).trans k2).setO ho2.new) ?_;revert h;unfold LSp;cases pArgsL g q.2 with
   | ok q'=>intro h e' J' hF; exact h e' J' (by rw [Ae] at hF; exact hF)
   | err=>exact id
   | bot=>exact id
  ·exact h _ _ ⟨hF,by rw [List.map_nil,List.append_nil]; exact ho⟩ ps kp
theorem stmt_sp (K:Core T D):∀ d,PFn T D 11 (2*d+43) St.av (pStmt d):=by
 have ie:=pexpr_sp K;have ic:=cond_sp K;intro d
 induction d with
 | zero=>intro n hn r t ts J Q X ps h; exact h.elim
 | succ d ih=>
  have ir:=row_sp K (Aa (by decide) (Ar 43 (2*d))) ih;intro n hn r t ts J Q X ps h;obtain ⟨n,rfl⟩:=ge1 (Aa (Ar 1 _) hn);have n44:2*d+43+1<=n:=Am (show 2*d+43+1+1<=n+1 from hn);have n43:=Ap n44;have n42:42<=n:=Aa (Aa (by decide:42<=44) (Ar 44 (2*d))) n44;have n41:=Ap n42;have n2:2<=n:=Aa (by decide) n42;have c6:=K.ck 6 rfl rfl;have c9:=K.ck 9 rfl rfl;have c10:=K.ck 10 rfl rfl;have c11:=K.ck 11 rfl rfl;refine ⟨ir11,K.dk 11 rfl rfl,rfl,?_⟩;refine got_sp K PSp.ends n2 ps h (fun rest J1 p1 k1 h=>?_) fun h=>?_
  ·refine sub_sp ic c9 n42 PSp.ends p1 h fun c J2 p2 k2 h=>?_;refine want_sp K PSp.ends n2 p2 h fun rest J3 p3 k3 h=>?_;refine sub_sp ih c11 n43 PSp.ends p3 h fun a J4 p4 k4 h=>?_;have k':=((k1.trans k2).trans k3).trans k4;refine got_sp K PSp.ends n2 p4 h (fun rest J5 p5 k5 h=>?_) fun h=>?_
   ·refine sub_sp ih c11 n43 PSp.ends p5 h fun b J6 p6 k6 h=>?_;exact h _ p6 ((k'.trans k5).trans k6)
   ·exact h _ p4 k'
  refine got_sp K PSp.ends n2 ps h (fun rest J1 p1 k1 h=>?_) fun h=>?_
  ·refine sub_sp ic c9 n42 PSp.ends p1 h fun c J2 p2 k2 h=>?_;refine want_sp K PSp.ends n2 p2 h fun rest J3 p3 k3 h=>?_;refine sub_sp ih c11 n43 PSp.ends p3 h fun a J4 p4 k4 h=>?_;exact h _ p4 (((k1.trans k2).trans k3).trans k4)
  refine got_sp K PSp.ends n2 ps h (fun rest J1 p1 k1 h=>?_) fun h=>?_
  ·refine sub_sp ir c10 n44 PSp.ends p1 h fun c J2 p2 k2 h=>?_;refine want_sp K PSp.ends n2 p2 h fun rest J3 p3 k3 h=>?_;refine sub_sp ic c9 n42 PSp.ends p3 h fun a J4 p4 k4 h=>?_;exact h _ p4 (((k1.trans k2).trans k3).trans k4)
  refine got_sp K PSp.ends n2 ps h (fun rest J1 p1 k1 h=>?_) fun h=>?_
  ·refine name_sp K PSp.ends (Ap n2) p1 h fun x rest J2 p2 k2 h=>?_;refine want_sp K PSp.ends n2 p2 h fun rest J3 p3 k3 h=>?_;refine sub_sp ie c6 n41 PSp.ends p3 h fun a J4 p4 k4 h=>?_;have k':=((k1.trans k2).trans k3).trans k4;refine got_sp K PSp.ends n2 p4 h (fun rest J5 p5 k5 h=>?_) fun h=>?_
   ·refine sub_sp ie c6 n41 PSp.ends p5 h fun b J6 p6 k6 h=>?_;refine want_sp K PSp.ends n2 p6 h fun rest J7 p7 k7 h=>?_;refine sub_sp ih c11 n43 PSp.ends p7 h fun s J8 p8 k8 h=>?_;exact h _ p8 ((((k'.trans k5).trans k6).trans k7).trans k8)
   ·refine want_sp K PSp.ends n2 p4 h fun rest J5 p5 k5 h=>?_;refine sub_sp ie c6 n41 PSp.ends p5 h fun b J6 p6 k6 h=>?_;refine want_sp K PSp.ends n2 p6 h fun rest J7 p7 k7 h=>?_;refine sub_sp ih c11 n43 PSp.ends p7 h fun s J8 p8 k8 h=>?_;exact h _ p8 ((((k'.trans k5).trans k6).trans k7).trans k8)
  refine got_sp K PSp.ends n2 ps h (fun rest J1 p1 k1 h=>?_) fun h=>?_
  ·refine sub_sp ir c10 n44 PSp.ends p1 h fun c J2 p2 k2 h=>?_;refine want_sp K PSp.ends n2 p2 h fun rest J3 p3 k3 h=>?_;exact h _ p3 ((k1.trans k2).trans k3)
  refine got_sp K PSp.ends n2 ps h (fun rest J1 p1 k1 h=>?_) fun h=>?_
  ·refine want_sp K PSp.ends n2 p1 h fun rest J2 p2 k2 h=>?_;refine sub_sp ie c6 n41 PSp.ends p2 h fun a J3 p3 k3 h=>?_;refine want_sp K PSp.ends n2 p3 h fun rest J4 p4 k4 h=>?_;exact h _ p4 (((k1.trans k2).trans k3).trans k4)
  cases ts with
  | nil=>exact h.elim
  | cons k rest=>
   refine peek_ok ps ?_;cases k with
   | name x=>
    refine tok_sp K (Ap n2) ps rfl fun J1 p1 k1=>?_;refine got_sp K PSp.ends n2 p1 h (fun rest J2 p2 k2 h=>?_) fun h=>?_
    ·refine sub_sp ie c6 n41 PSp.ends p2 h fun b J3 p3 k3 h=>?_;exact h _ p3 ((k1.trans k2).trans k3)
    refine got_sp K PSp.ends n2 p1 h (fun rest J2 p2 k2 h=>?_) fun h=>?_
    ·refine sub_sp ie c6 n41 PSp.ends p2 h fun i J3 p3 k3 h=>?_;refine want_sp K PSp.ends n2 p3 h fun rest J4 p4 k4 h=>?_;refine want_sp K PSp.ends n2 p4 h fun rest J5 p5 k5 h=>?_;refine sub_sp ie c6 n41 PSp.ends p5 h fun b J6 p6 k6 h=>?_;exact h _ p6 (((((k1.trans k2).trans k3).trans k4).trans k5).trans k6)
    have ho:=Own.mk' (l:=[]) p1 k1;have p2:=p1.push (m:=.list []);have k2:=k1.push (m:=.list []);unfold pArgs at h;have E':=Ends.bind (f:=fun q:List Ex×List Tok=>R.ok (St.call x q.1,q.2)) (PSp.ends (enc:=St.av) (r:=r) (t:=t) (J₀:=J) (Q:=Q) (X:=X));refine got_sp K E' n2 p2 h (fun rest J3 p3 k3 h=>?_) fun h=>?_
    ·have ho3:=ho.keep k3;refine lst_ok ho3.at_ ?_;refine sub_sp ie c6 n41 E' p3 h fun b J4 p4 k4 h=>?_;have ho4:=ho3.keep k4;refine lst_ok ho4.at_ ⟨by decide,?_⟩;refine ⟨gasL,argsL_sp K n41 J _ _ (fun e=>e 0=some (.obj r)∧e 4=some (.str x)∧e 9=some (.obj J1.length)) (fun e h=>h.1) (fun e h=>h.2.2) gasL [b.1.av] b.2 _ _ ⟨rfl,rfl,rfl⟩ ho4.put (show 401<=800000 by decide) (p4.setO ho4.r ho4.t) (((k2.trans k3).trans k4).setO ho4.new) ?_⟩;revert h;unfold LSp;cases pArgsL gasL b.2 with
     | ok q'=>
      intro h e' J' hF ps' kp';obtain ⟨⟨f0,f4,f9⟩,oo⟩:=hF;refine var_ok f0 ?_;refine want_sp K E' n2 ps' h fun rest J6 p6 k6 h=>?_;refine var_ok f4 ?_;refine var_ok f9 ?_;refine lst_ok (oo.keep k6).at_ ?_;exact h _ p6 (kp'.trans k6)
     | err=>intro h e' J'; exact h _
     | bot=>exact id
    ·refine lst_ok ho.at_ ?_;exact h _ p2 k2
   | int m=>exact h _ ps (Keep.refl _ _)
   | word m=>exact h _ ps (Keep.refl _ _)
   | fin=>exact h _ ps (Keep.refl _ _)
theorem stmts_sp (K:Core T D):PFn T D 10 72 (fun s:St=>AV.tup s.row) pStmts:=row_sp K (by decide) (stmt_sp K dS)
end
section
variable {T:Stat}{D:Nat->Option FDef}
theorem LSp.map {α β:Type}{m:R (α×List Tok)}{f:α->β}{r t:Nat}{J₀:Store}{F:β->Ev->Store->Prop}{F':α->Ev->Store->Prop}{QQ:QF}{XX:XS}
  (h:LSp (m.bind fun q=>.ok (f q.1,q.2)) r t J₀ F QQ XX) (c:∀ a e J,F' a e J->F (f a) e J):LSp m r t J₀ F' QQ XX:=by
 cases m with
 | ok q=>exact fun e' J' hF=>h e' J' (c _ _ _ hF)
 | err=>exact h
 | bot=>exact h
theorem LSp.of {α β:Type}{m:R (α×List Tok)}{f:α×List Tok->R β}{G:R β->Prop}{r t:Nat}{J₀:Store}{F:α->Ev->Store->Prop}{QQ:QF}{XX:XS}(E:∀ e,Ends G (XX e))(h:G (m.bind f))
  (c:∀ q e' J',F q.1 e' J'->PS J' r t q.2->Keep r J₀ J'->G (f q)->QQ .next e' J'):LSp m r t J₀ F QQ XX:=by
 cases m with
 | ok q=>exact fun e' J' h1 h2 h3=>c q e' J' h1 h2 h3 h
 | err=>exact fun e' J'=>(E e').err h J'
 | bot=>exact ((E fun _=>.none).bot h).elim
theorem Own.app {r t o:Nat}{J₀ J:Store}{l a b:List AV}(h:Own r t o J₀ J (l++a++b)):Own r t o J₀ J (l++(a++b)):=Ae l a b▸h
theorem Own.nil {r t o:Nat}{J₀ J:Store}{l:List AV}(h:Own r t o J₀ J l):Own r t o J₀ J (l++[]):=(List.append_nil l).symm▸h
theorem len1 {α:Type}{l:List α}{x:α}{g m:Nat}(h:l.length+(g+1)<=m):(l++[x]).length+g<=m:=by
 rw [Ac]; exact Aa (Nat.le_of_eq (Aw _ 1 _)) h
theorem lt9 {α:Type}{l:List α}{g:Nat}(h:l.length+(g+1)<=800000):l.length<lid:=An (An (Nat.lt_add_of_pos_right (Nat.succ_pos g)) h) (by decide)
theorem namesL_sp (K:Core T D){n r t o:Nat}(hn:2<=n)(J₀:Store)(QQ:QF)(XX:XS)(e:Ev)(h0:e 0=some (.obj r))(h3:e 3=some (.obj o)) :
  ∀ (g:Nat) (acc:List AV) (ts:List Tok) (J:Store),Own r t o J₀ J acc->acc.length+g<=800000->PS J r t ts->Keep r J₀ J->
   LSp (pNamesL g ts) r t J₀ (fun q e' J'=>e'=e∧q.length<=g∧Own r t o J₀ J' (acc++q.map AV.str)) QQ XX->
   whlW (evW T (callW T D n) ir12c2) (ssW T (callW T D n) ir12b2) g e J QQ XX:=by
 intro g
 induction g with
 | zero=>intro acc ts J _ _ _ _ h; exact h.elim
 | succ g ih=>
  intro acc ts J ho hl ps kp h;refine var_ok h0 ?_;refine got_sp K LSp.ends hn ps h (fun rest J1 p1 k1 h=>?_) fun h=>?_
  ·refine var_ok h3 ?_;refine lst_ok (ho.keep k1).at_ ?_;refine var_ok h0 ?_;refine name_sp K LSp.ends (Ap hn) p1 h fun x rest J2 p2 k2 h=>?_;have ho2:=(ho.keep k1).keep k2;refine lst_ok ho2.at_ ⟨lt9 hl,?_⟩;exact ih (acc++[.str x]) rest _ ho2.put (len1 hl) (p2.setO ho2.r ho2.t) (((kp.trans k1).trans k2).setO ho2.new) (LSp.map (f:=fun a=>x::a) h fun a e J hF=>⟨hF.1,Au hF.2.1,hF.2.2.app (a:=[.str x])⟩)
  ·exact h _ _ ⟨rfl,Nat.zero_le _,ho.nil⟩ ps kp
noncomputable def declTail:Ss:=(.cons (.expr (.meth (.v 0) 3 (.cons (.str [105,110,116,101,103,101,114]) .nil))) (.cons (.expr (.meth (.v 0) 3 (.cons (.str [59]) .nil))) (.cons (.aug 1 .add (.compPair 4 (.v 3))) (.cons (.ifs (.cmp .ne (.idx (.idx (.attr (.v 0) .ts) (.attr (.v 0) .pos)) (.int 0)) (.str [110,97,109,101])) (.cons .brk .nil) .nil) .nil))))
theorem map_vAv (z:Option Nat):∀ xs:List Tx,((xs.map AV.str).map fun x=>AV.tup [x,oNat z])=(xs.map fun x=>(x,z)).map vAv
 | []=>rfl
 | x::xs=>congrArg (_::·) (map_vAv z xs)
theorem declTail_sp (K:Core T D){n r t o ov:Nat}{J₀ J:Store}{QQ:QF}{XX:XS}{e:Ev}{xs:List Tx}{z:Option Nat}{acc:List AV}{ts:List Tok}{β:Type}{G:R β->Prop}{k:List (Tx×Option Nat)×List Tok->R β}(hn:2<=n)
  (E:∀ e,Ends G (XX e)) (h0:e 0=some (.obj r)) (h1:e 1=some (.obj ov)) (h3:e 3=some (.obj o)) (h4:e 4=some (oNat z)) (hv:Own r t ov J₀ J acc) (hx:Own r t o J₀ J (xs.map AV.str)) (hne:ov≠o) (ps:PS J r t ts) (kp:Keep r J₀ J) (hlen:acc.length+xs.length<=900000)
  (h:G ((pDeclE xs z ts).bind k))
  (c:∀ q J',PS J' r t q.2->Keep r J₀ J'->Own r t ov J₀ J' (acc++q.1.map vAv)->q.1.length=xs.length->(∀ i m,i≠ov->i≠r->J[i]?=some m->J'[i]?=some m)->G (k q)->∀ e',(∀ i,i≠1->e' i=e i)->e' 1=some (.obj ov)->
   (match q.2 with
    | []=>False
    | .name _::_=>QQ .next e' J'
    | _::_=>QQ .brk e' J')) :
  ssW T (callW T D n) declTail e J QQ XX:=by
 have E':=fun e=>Ends.bind (f:=k) (E e);refine var_ok h0 ?_;refine want_sp K (E' _) hn ps h fun rest J1 p1 k1 h=>?_;refine var_ok h0 ?_;refine want_sp K (E' _) hn p1 h fun rest J2 p2 k2 h=>?_;have hv2:=(hv.keep k1).keep k2;refine var_ok h1 ?_;refine var_ok h3 ?_;refine lst_ok ((hx.keep k1).keep k2).at_ ?_;refine var_ok h4 ?_;rw [map_vAv];refine lst_ok (get_push hv2.at_) ?_;refine lst_ok get_top ⟨Nat.ne_of_lt (Ai hv2.at_).1,?_,?_⟩
 ·rw [Ah,Ah]; exact Aa hlen (by decide)
 have pz:=(p2.push (m:=.list ((xs.map fun x=>(x,z)).map vAv))).setO (m:=.list (acc++(xs.map fun x=>(x,z)).map vAv)) hv2.r hv2.t;have rest':=c (xs.map (fun x=>(x,z)),rest) _ pz ((((kp.trans k1).trans k2).push).setO hv2.new) hv2.push.put (Ah _) (fun i m hi hr hm=>by
  rw [List.getElem?_set_ne (Ne.symm hi)];exact get_push ((k1.trans k2).get hr hm)) h (upd e 1 (.obj ov)) (fun i hi=>by
   show cond (Nat.beq i 1) _ _=_;cases q:Nat.beq i 1
   ·rfl
   ·exact absurd (As q) hi) rfl
 refine var_ok (e:=upd e 1 _) (i:=0) h0 ?_;cases rest with
 | nil=>exact rest'.elim
 | cons k' rs=>
  refine peekE_ok (e:=upd e 1 _) h0 pz ?_;cases k'<;>exact rest'
theorem varsL_sp (K:Core T D){n r t ov op:Nat}(hn:2<=n)(J₀:Store)(QQ:QF)(XX:XS)(hne:op≠ov)(hop:op≠r) :
  ∀ (g:Nat) (acc:List AV) (ts:List Tok) (e:Ev) (J:Store),e 0=some (.obj r)->e 1=some (.obj ov)->Own r t ov J₀ J acc->J[op]?=some (.list [])->acc.length+500*g<=500000->PS J r t ts->Keep r J₀ J->
   LSp (pVars g ts) r t J₀ (fun q e' J'=>e' 0=some (.obj r)∧e' 1=some (.obj ov)∧e' 2=e 2∧Own r t ov J₀ J' (acc++q.map vAv)∧J'[op]?=some (.list [])) QQ XX->
   whlW (evW T (callW T D n) ir12c3) (ssW T (callW T D n) ir12b3) g e J QQ XX:=by
 intro g
 induction g with
 | zero=>intro acc ts e J _ _ _ _ _ _ _ h; exact h.elim
 | succ g ih=>
  intro acc ts e J h0 h1 hv hp hl ps kp h;have h1':1<=n:=Ap hn;have E':=fun e':Ev=>Ends.bind (α:=List (Tx×Option Nat)×List Tok) (f:=fun v=>match v.2 with
   | []=>R.bot
   | .name _::_=>(pVars g v.2).bind fun q=>.ok (v.1++q.1,q.2)
   | _::_=>.ok (v.1,v.2)) (LSp.ends (r:=r) (t:=t) (J₀:=J₀) (F:=fun q e' J'=>e' 0=some (.obj r)∧e' 1=some (.obj ov)∧e' 2=e 2∧Own r t ov J₀ J' (acc++q.map vAv)∧J'[op]?=some (.list [])) (QQ:=QQ) (XX:=XX) (e:=e'))
  refine var_ok h0 ?_;refine name_sp K (E' _) h1' ps h fun x rest J1 p1 k1 h=>?_;have kp1:=kp.trans k1;have oN:=Own.mk' (l:=[AV.str x]) p1 (Keep.refl r J1);have hv1:=hv.keep k1;refine ⟨gasL,namesL_sp K hn J1 _ _ (upd e 3 (.obj J1.length)) h0 rfl gasL [AV.str x] rest _ oN (show 401<=800000 by decide) p1.push (Keep.refl r J1).push ?_⟩;refine LSp.of E' h fun q e2 J2 hF p2 k2 h=>?_;obtain ⟨rfl,hq,oN2⟩:=hF;refine var_ok (e:=upd e 3 _) (i:=0) h0 ?_;refine want_sp K (E' _) hn p2 h fun rest J3 p3 k3 h=>?_;have kk:Keep r J1 J3:=k2.trans k3;have fin:∀ (e':Ev) J' (z:Option Nat) rest,PS J' r t rest->Keep r J3 J'->e' 0=some (.obj r)->e' 1=some (.obj ov)->e' 2=e 2->e' 3=some (.obj J1.length)->e' 4=some (oNat z)->
    LSp ((pDeclE (x::q.1) z rest).bind fun v=>match v.2 with
     | []=>R.bot
     | .name _::_=>(pVars g v.2).bind fun q=>.ok (v.1++q.1,q.2)
     | _::_=>.ok (v.1,v.2)) r t J₀ (fun q e' J'=>e' 0=some (.obj r)∧e' 1=some (.obj ov)∧e' 2=e 2∧Own r t ov J₀ J' (acc++q.map vAv)∧J'[op]?=some (.list [])) QQ XX->
    ssW T (callW T D n) declTail e' J' (fun f e' J2=>match f with
     | .next | .cont=>whlW (evW T (callW T D n) ir12c3) (ssW T (callW T D n) ir12b3) g e' J2 QQ XX
     | .brk=>QQ .next e' J2
     | .ret v=>QQ (.ret v) e' J2) XX:=by
   intro e' J' z rest p' k' g0 g1 g2 g3 g4 h;have kz:=kk.trans k';have hlq:(x::q.1).length<=401:=Au hq;refine declTail_sp K hn (fun e=>LSp.ends) g0 g1 g3 g4 (hv1.keep kz) (xs:=x::q.1) ⟨oN2.r,oN2.t,kp1.1,(k3.trans k').get oN2.r oN2.at_⟩ (Nat.ne_of_lt (Ai hv1.at_).1) p' (kp1.trans kz) (by lia) h ?_;intro v J'' p'' k'' o'' hlen keep hG e'' he he1;have hp'':J''[op]?=some (.list []):=keep op _ hne hop ((k1.trans kz).get hop hp);have f0:=(he 0 (by decide)).trans g0;have f2:=(he 2 (by decide)).trans g2;rcases v with ⟨v1,_ | ⟨k,rs⟩⟩
   ·exact hG.elim
   ·cases k with
    | name y=>
     refine ih (acc++v1.map vAv) _ e'' J'' f0 he1 o'' hp'' (by
      rw [Ac,Ah,show v1.length=_ from hlen]; lia) p'' k'' ?_
     exact LSp.map (f:=fun a=>v1++a) hG fun a e J hF=>⟨hF.1,hF.2.1,hF.2.2.1.trans f2,by rw [List.map_append]; exact hF.2.2.2.1.app,hF.2.2.2.2⟩
    | word y=>exact hG _ _ ⟨f0,he1,f2,o'',hp''⟩ p'' k''
    | int y=>exact hG _ _ ⟨f0,he1,f2,o'',hp''⟩ p'' k''
    | fin=>exact hG _ _ ⟨f0,he1,f2,o'',hp''⟩ p'' k''
  refine var_ok (e:=upd (upd e 3 _) 4 _) (i:=0) h0 ?_;refine got_sp K (E' _) hn p3 h (fun rest J4 p4 k4 h=>?_) fun h=>?_
  ·refine var_ok (e:=upd (upd e 3 _) 4 _) (i:=0) h0 ?_;refine want_sp K (E' _) hn p4 h fun rest J5 p5 k5 h=>?_;refine var_ok (e:=upd (upd e 3 _) 4 _) (i:=0) h0 ?_;refine int_sp K (E' _) h1' p5 h fun m rest J6 p6 k6 h=>?_;refine var_ok (e:=upd (upd (upd e 3 _) 4 _) 4 _) (i:=0) h0 ?_;refine want_sp K (E' _) hn p6 h fun rest J7 p7 k7 h=>?_;refine var_ok (e:=upd (upd (upd e 3 _) 4 _) 4 _) (i:=0) h0 ?_;refine want_sp K (E' _) hn p7 h fun rest J8 p8 k8 h=>?_;exact fin _ _ (some m) rest p8 ((((k4.trans k5).trans k6).trans k7).trans k8) h0 h1 rfl rfl rfl h
  ·exact fin _ _ Option.none rest p3 (Keep.refl _ _) h0 h1 rfl rfl rfl h
end
section
variable {T:Stat}{D:Nat->Option FDef}
theorem upd_ne {e:Ev}{j:Nat}{v:AV}(i:Nat)(h:i≠j):upd e j v i=e i:=by
 show cond (Nat.beq i j) _ _=_;cases q:Nat.beq i j
 ·rfl
 ·exact absurd (As q) h
theorem paramsL_sp (K:Core T D){n r t o:Nat}(hn:2<=n)(J₀:Store)(QQ:QF)(XX:XS) :
  ∀ (g:Nat) (acc:List AV) (ts:List Tok) (e:Ev) (J:Store),e 0=some (.obj r)->e 6=some (.obj o)->Own r t o J₀ J acc->acc.length+g<=800000->PS J r t ts->Keep r J₀ J->
   LSp (pParams g ts) r t J₀ (fun q e' J'=>(∀ i,i≠7->e' i=e i)∧Own r t o J₀ J' (acc++q.map qAv)) QQ XX->
   whlW (evW T (callW T D n) ir12c0) (ssW T (callW T D n) ir12b0) g e J QQ XX:=by
 intro g
 induction g with
 | zero=>intro acc ts e J _ _ _ _ _ _ h; exact h.elim
 | succ g ih=>
  intro acc ts e J h0 h6 ho hl ps kp h;have h1':=Ap hn;have fin:∀ (x:Tx) (b:Bool) rest J1,PS J1 r t rest->Keep r J J1->
    LSp (pGot wComma rest (fun r=>(pParams g r).bind fun q=>.ok ((x,b)::q.1,q.2)) (.ok ([(x,b)],rest))) r t J₀ (fun q e' J'=>(∀ i,i≠7->e' i=e i)∧Own r t o J₀ J' (acc++q.map qAv)) QQ XX->
    lstO o J1 fun l=>l.length<lid∧ssW T (callW T D n) (.cons (.ifs (.not (.meth (.v 0) 4 (.cons (.str [44]) .nil))) (.cons .brk .nil) .nil) .nil) (upd e 7 (.bool b)) (J1.set o (.list (l++[.tup [.str x,.bool b]]))) (fun f e' J2=>match f with
     | .next | .cont=>whlW (evW T (callW T D n) ir12c0) (ssW T (callW T D n) ir12b0) g e' J2 QQ XX
     | .brk=>QQ .next e' J2
     | .ret v=>QQ (.ret v) e' J2) XX:=by
   intro x b rest J1 p1 k1 h;have ho1:=ho.keep k1;refine lst_ok ho1.at_ ⟨lt9 hl,?_⟩;have p2:=p1.setO (m:=.list (acc++[.tup [.str x,.bool b]])) ho1.r ho1.t;have k2:=(kp.trans k1).setO (m:=.list (acc++[.tup [.str x,.bool b]])) ho1.new;have o2:=ho1.put (l':=acc++[.tup [.str x,.bool b]]);refine var_ok (e:=upd e 7 _) (i:=0) h0 ?_;refine got_sp K LSp.ends hn p2 h (fun rest J3 p3 k3 h=>?_) fun h=>?_
   ·exact ih _ rest _ _ h0 h6 (o2.keep k3) (len1 hl) p3 (k2.trans k3) (LSp.map (f:=fun a=>(x,b)::a) h fun a e J hF=>⟨fun i hi=>(hF.1 i hi).trans (upd_ne i hi),hF.2.app (a:=[.tup [.str x,.bool b]])⟩)
   ·exact h _ _ ⟨upd_ne,o2⟩ p2 k2
  refine var_ok h0 ?_;refine got_sp K LSp.ends hn ps h (fun rest J1 p1 k1 h=>?_) fun h=>?_
  ·refine var_ok (e:=upd e 7 _) (i:=6) h6 ?_;refine lst_ok (ho.keep k1).at_ ?_;refine var_ok (e:=upd e 7 _) (i:=0) h0 ?_;refine name_sp K LSp.ends h1' p1 h fun x rest J2 p2 k2 h=>?_;exact fin x true rest J2 p2 (k1.trans k2) h
  ·refine var_ok (e:=upd e 7 _) (i:=6) h6 ?_;refine lst_ok ho.at_ ?_;refine var_ok (e:=upd e 7 _) (i:=0) h0 ?_;refine name_sp K LSp.ends h1' ps h fun x rest J2 p2 k2 h=>?_;exact fin x false rest J2 p2 k2 h
noncomputable def procTail:Ss:=(.cons (.expr (.meth (.v 0) 3 (.cons (.str [59]) .nil))) (.cons (.set 8 (.meth (.v 0) 12 .nil)) (.cons (.expr (.meth (.v 0) 3 (.cons (.str [59]) .nil))) (.cons (.expr (.bm (.v 2) .append (.cons (.tuple (.cons (.v 5) (.cons (.bi .tuple (.cons (.v 6) .nil)) (.cons (.v 8) .nil)))) .nil))) .nil))))
theorem procTail_sp (K:Core T D){n N r t oq op:Nat}{blk:List Tok->PB}{J₀ J:Store}{QQ:QF}{XX:XS}{e:Ev}{x:Tx}{qs:List (Tx×Bool)}{acc:List AV}{ts:List Tok}{β:Type}{G:R β->Prop}{k:(Tx×List (Tx×Bool)×Bl)×List Tok->R β}(hn:2<=n)(hN:N<=n)(hb:PFn T D 12 N Bl.av blk)
  (E:∀ e,Ends G (XX e)) (h0:e 0=some (.obj r)) (h2:e 2=some (.obj op)) (h5:e 5=some (.str x)) (h6:e 6=some (.obj oq)) (hp:Own r t op J₀ J acc) (hq:Own r t oq J₀ J (qs.map qAv)) (ps:PS J r t ts) (kp:Keep r J₀ J) (hlen:acc.length<lid)
  (h:G ((pProcE blk x qs ts).bind k))
  (c:∀ q J',PS J' r t q.2->Keep r J₀ J'->Own r t op J₀ J' (acc++[.tup [.str q.1.1,.tup (q.1.2.1.map qAv),q.1.2.2.av]])->(∀ i m,i≠op->i≠r->J[i]?=some m->J'[i]?=some m)->G (k q)->∀ e',(∀ i,i≠8->e' i=e i)->QQ .next e' J') :
  ssW T (callW T D n) procTail e J QQ XX:=by
 have E':=fun e=>Ends.bind (f:=k) (E e);refine var_ok h0 ?_;refine want_sp K (E' _) hn ps h fun rest J1 p1 k1 h=>?_;refine var_ok h0 ?_;refine sub_sp hb (K.ck 12 rfl rfl) hN (E' _) p1 h fun b J2 p2 k2 h=>?_;refine var_ok (e:=upd e 8 _) (i:=0) h0 ?_;refine want_sp K (E' _) hn p2 h fun rest J3 p3 k3 h=>?_;have kk:=(k1.trans k2).trans k3;have hp3:=hp.keep kk;refine var_ok (e:=upd e 8 _) (i:=2) h2 ?_;refine lst_ok hp3.at_ ?_;refine var_ok (e:=upd e 8 _) (i:=5) h5 ?_;refine var_ok (e:=upd e 8 _) (i:=6) h6 ?_;refine lst_ok (hq.keep kk).at_ ?_;refine lst_ok hp3.at_ ⟨hlen,?_⟩;exact c ((x,qs,b.1),rest) _ (p3.setO hp3.r hp3.t) ((kp.trans kk).setO hp3.new) hp3.put (fun i m hi hr hm=>(List.getElem?_set_ne (Ne.symm hi)).trans (kk.get hr hm)) h _ upd_ne
theorem procsL_sp (K:Core T D){n N r t ov op:Nat}{blk:List Tok->PB}(hn:2<=n)(hN:N<=n)(hb:PFn T D 12 N Bl.av blk)(J₀:Store)(QQ:QF)(XX:XS)(hne:op≠ov)(hov:ov≠r)(mv:MO) :
  ∀ (g:Nat) (acc:List AV) (ts:List Tok) (e:Ev) (J:Store),e 0=some (.obj r)->e 2=some (.obj op)->Own r t op J₀ J acc->J[ov]?=some mv->acc.length+g<=800000->PS J r t ts->Keep r J₀ J->
   LSp (pProcs blk g ts) r t J₀ (fun q e' J'=>e' 0=some (.obj r)∧e' 1=e 1∧e' 2=some (.obj op)∧Own r t op J₀ J' (acc++q.procs)∧J'[ov]?=some mv) QQ XX->
   whlW (evW T (callW T D n) ir12c1) (ssW T (callW T D n) ir12b1) g e J QQ XX:=by
 intro g
 induction g with
 | zero=>intro acc ts e J _ _ _ _ _ _ _ h; exact h.elim
 | succ g ih=>
  intro acc ts e J h0 h2 hp hv hl ps kp h;refine var_ok h0 ?_;refine got_sp K LSp.ends hn ps h (fun rest J1 p1 k1 h=>?_) fun h=>?_
  ·refine var_ok h0 ?_;refine name_sp K LSp.ends (Ap hn) p1 h fun x rest J2 p2 k2 h=>?_;have k12:=k1.trans k2;have hp2:=hp.keep k12;have hv2:=k12.get hov hv;have oq:=Own.mk' (l:=[]) p2 (Keep.refl r J2);have E':=fun e':Ev=>Ends.bind (α:=(Tx×List (Tx×Bool)×Bl)×List Tok) (f:=fun p=>(pProcs blk g p.2).bind fun q=>.ok (Bl.proc p.1.1 p.1.2.1 p.1.2.2 q.1,q.2)) (LSp.ends (r:=r) (t:=t) (J₀:=J₀) (F:=fun q e' J'=>e' 0=some (.obj r)∧e' 1=e 1∧e' 2=some (.obj op)∧Own r t op J₀ J' (acc++q.procs)∧J'[ov]?=some mv) (QQ:=QQ) (XX:=XX) (e:=e'));have fin:∀ (e':Ev) J' (qs:List (Tx×Bool)) rest,PS J' r t rest->Keep r J2 J'->Own r t J2.length J2 J' (qs.map qAv)->e' 0=some (.obj r)->e' 1=e 1->e' 2=some (.obj op)->e' 5=some (.str x)->e' 6=some (.obj J2.length)->
     LSp ((pProcE blk x qs rest).bind fun p=>(pProcs blk g p.2).bind fun q=>.ok (Bl.proc p.1.1 p.1.2.1 p.1.2.2 q.1,q.2)) r t J₀ (fun q e' J'=>e' 0=some (.obj r)∧e' 1=e 1∧e' 2=some (.obj op)∧Own r t op J₀ J' (acc++q.procs)∧J'[ov]?=some mv) QQ XX->
     ssW T (callW T D n) procTail e' J' (fun f e' J2=>match f with
      | .next | .cont=>whlW (evW T (callW T D n) ir12c1) (ssW T (callW T D n) ir12b1) g e' J2 QQ XX
      | .brk=>QQ .next e' J2
      | .ret v=>QQ (.ret v) e' J2) XX:=by
    intro e' J' qs rest p' k' o' g0 g1 g2 g5 g6 h;refine procTail_sp K hn hN hb (fun e=>LSp.ends) g0 g2 g5 g6 (hp2.keep k') ⟨o'.r,o'.t,(kp.trans k12).1,o'.at_⟩ p' ((kp.trans k12).trans k') (lt9 hl) h ?_;intro q J'' p'' k'' o'' keep hG e'' he;exact ih _ q.2 e'' J'' ((he 0 (by decide)).trans g0) ((he 2 (by decide)).trans g2) o'' (keep ov mv (Ne.symm hne) hov (k'.get hov hv2)) (len1 hl) p'' k'' (LSp.map (f:=fun a=>Bl.proc q.1.1 q.1.2.1 q.1.2.2 a) hG fun a e J hF=>⟨hF.1,hF.2.1.trans ((he 1 (by decide)).trans g1),hF.2.2.1,hF.2.2.2.1.app,hF.2.2.2.2⟩)
   have p3:=p2.push (m:=.list []);have k3:Keep r J2 (J2++[MO.list []]):=(Keep.refl r J2).push;refine var_ok (e:=upd (upd e 5 _) 6 _) (i:=0) h0 ?_;refine got_sp K (E' _) hn p3 h (fun rest J4 p4 k4 h=>?_) fun h=>?_
   ·refine ⟨gasL,paramsL_sp K hn J2 _ _ gasL [] rest (upd (upd e 5 (.str x)) 6 (.obj J2.length)) _ h0 rfl (oq.keep k4) (show 400<=800000 by decide) p4 (k3.trans k4) ?_⟩;refine LSp.of E' h fun q e' J' hF p' k' h=>?_;obtain ⟨he,oo⟩:=hF;have g0:=(he 0 (by decide)).trans h0;refine var_ok g0 ?_;refine want_sp K (E' _) hn p' h fun rest J5 p5 k5 h=>?_;exact fin e' _ q.1 rest p5 (k'.trans k5) (oo.keep k5) g0 (he 1 (by decide)) ((he 2 (by decide)).trans h2) (he 5 (by decide)) (he 6 (by decide)) h
   ·exact fin _ _ [] rest p3 k3 oq h0 rfl h2 rfl rfl h
  ·exact h _ _ ⟨h0,rfl,h2,hp.nil,hv⟩ ps kp
noncomputable def blockTail:Ss:=(.cons (.whl ir12c1 ir12b1) (.cons (.expr (.meth (.v 0) 3 (.cons (.str [98,101,103,105,110]) .nil))) (.cons (.set 9 (.meth (.v 0) 10 .nil)) (.cons (.expr (.meth (.v 0) 3 (.cons (.str [101,110,100]) .nil))) (.cons (.ret (.tuple (.cons (.str [98,108,111,99,107]) (.cons (.bi .tuple (.cons (.v 1) .nil)) (.cons (.bi .tuple (.cons (.v 2) .nil)) (.cons (.v 9) .nil)))))) .nil)))))
theorem blockTail_sp (K:Core T D){n N r t ov op:Nat}{blk:List Tok->PB}{J₀ J:Store}{QQ:QF}{XX:XS}{e:Ev}{vs:List (Tx×Option Nat)}{ts:List Tok}(hn:72<=n)(hN:N<=n)(hb:PFn T D 12 N Bl.av blk)
  {Q:QV} {X:QX} (h0:e 0=some (.obj r)) (h1:e 1=some (.obj ov)) (h2:e 2=some (.obj op)) (hv:Own r t ov J₀ J (vs.map vAv)) (hp:Own r t op J₀ J []) (hne:op≠ov) (ps:PS J r t ts) (kp:Keep r J₀ J)
  (h:PSp Bl.av (pBlockE blk vs ts) r t J₀ Q X) (hQ:∀ v e J,Q v J->QQ (.ret v) e J) (hX:∀ e J,X J->XX e J):ssW T (callW T D n) blockTail e J QQ XX:=by
 have E0:∀ e,Ends (fun res:R (Bl×List Tok)=>PSp Bl.av res r t J₀ Q X) (XX e):=fun e=>⟨fun h J=>hX e J (h J),fun h=>h⟩;have n2:2<=n:=Aa (by decide) hn;refine ⟨gasL,procsL_sp K n2 hN hb J₀ _ _ hne hv.r _ gasL [] ts e J h0 h2 hp hv.at_ (show 400<=800000 by decide) ps kp ?_⟩;refine LSp.of E0 h fun q e' J' hF p' k' h=>?_;obtain ⟨g0,g1,g2,op',hv'⟩:=hF;refine var_ok g0 ?_;refine want_sp K (E0 _) n2 p' h fun rest J1 p1 k1 h=>?_;refine var_ok g0 ?_;refine sub_sp (stmts_sp K) (K.ck 10 rfl rfl) hn (E0 _) p1 h fun s J2 p2 k2 h=>?_;refine var_ok (e:=upd e' 9 _) (i:=0) g0 ?_;refine want_sp K (E0 _) n2 p2 h fun rest J3 p3 k3 h=>?_;have kk:=(k1.trans k2).trans k3;refine var_ok (e:=upd e' 9 _) (i:=1) (g1.trans h1) ?_;refine lst_ok (kk.get hv.r hv') ?_;refine var_ok (e:=upd e' 9 _) (i:=2) g2 ?_;refine lst_ok (op'.keep kk).at_ ?_;exact hQ _ _ _ (h _ p3 (k'.trans kk))
theorem block_sp (K:Core T D):∀ d,PFn T D 12 (d+73) Bl.av (pBlock d):=by
 intro d
 induction d with
 | zero=>intro n hn r t ts J Q X ps h; exact h.elim
 | succ d ih=>
  intro n hn r t ts J Q X ps h;obtain ⟨n,rfl⟩:=ge1 (Aa (Ar 1 _) hn);have hn:d+73<=n:=Am (Aa (Nat.le_of_eq (Aw d 73 1)) hn);have n72:72<=n:=Aa (Aa (by decide) (Ar 73 d)) hn;refine ⟨ir12,K.dk 12 rfl rfl,rfl,?_⟩;have ov:=Own.mk' (l:=[]) ps (Keep.refl r J);have p1:=ps.push (m:=.list []);have k1:Keep r J (J++[MO.list []]):=(Keep.refl r J).push;have op:=Own.mk' (l:=[]) p1 k1;have ov2:=ov.push (m:=.list []);have p2:=p1.push (m:=.list []);have k2:=k1.push (m:=.list []);have hne:(J++[MO.list []]).length≠J.length:=by rw [Ac]; exact Nat.ne_of_gt (Nat.lt_succ_self _)
  refine got_sp K PSp.ends (Aa (by decide) n72) p2 h (fun rest J3 p3 k3 h=>?_) fun h=>?_
  ·refine ⟨gasL,varsL_sp K (Aa (by decide) n72) J _ _ hne op.r gasL [] rest _ _ rfl rfl (ov2.keep k3) (k3.get op.r op.at_) (show 200000<=500000 by decide) p3 (k2.trans k3) ?_⟩;refine LSp.of (fun e=>PSp.ends) h fun v e' J' hF p' k' h=>?_;obtain ⟨g0,g1,g2,gv,gp⟩:=hF;exact blockTail_sp K n72 hn ih g0 g1 g2 gv ⟨op.r,op.t,op.new,gp⟩ hne p' k' h (fun v e J q=>q) (fun e J q=>q)
  ·exact blockTail_sp K n72 hn ih rfl rfl rfl ov2 op hne p2 k2 h (fun v e J q=>q) (fun e J q=>q)
end
noncomputable def isAln (c:Nat):Bool:=isAlp c||isDig c
noncomputable def signs:List Nat:=[43,45,42,61,60,62,40,41,91,93,44,59,58,46]
noncomputable def pairs:List AV:=[.str [58,61],.str [60,62],.str [60,61],.str [62,61]]
noncomputable def wordsA:List AV:=words.map .str
noncomputable def startsAlp:Tx->Bool
 | []=>false
 | c::_=>isAlp c
noncomputable def behind (c:Nat):Tx->Option Tx
 | []=>Option.none
 | d::l=>match Nat.beq d c with
  | true=>some l
  | false=>behind c l
noncomputable def lexD (c:Nat)(l:Tx):R (Option Tok×Tx):=match startsAlp ((c::l).dropWhile isDig) with
 | true=>.err
 | false=>match Nat.ble ((c::l).takeWhile isDig).length 600 with
  | true=>.ok (some (.int (digVal ((c::l).takeWhile isDig))),(c::l).dropWhile isDig)
  | false=>.bot
noncomputable def lexG (c:Nat)(l:Tx):R (Option Tok×Tx):=match memTx ((c::l).take 2) pairs with
 | true=>.ok (some (.word ((c::l).take 2)),l.drop 1)
 | false=>match memN c signs with
  | true=>.ok (some (.word [c]),l)
  | false=>.err
noncomputable def lexW (w r:Tx):R (Option Tok×Tx):=.ok (some (match memTx w wordsA with
 | true=>Tok.word w
 | false=>Tok.name w),r)
noncomputable def lexC (c:Nat)(l:Tx):R (Option Tok×Tx):=match memN c [32,10] with
 | true=>.ok (Option.none,l)
 | false=>match Nat.beq c 123 with
 | true=>(match behind 125 l with
  | Option.none=>.err
  | some l'=>.ok (Option.none,l'))
 | false=>match isAlp c with
 | true=>lexW (((c::l).takeWhile isAln).map lowC) ((c::l).dropWhile isAln)
 | false=>match isDig c with
 | true=>lexD c l
 | false=>lexG c l
noncomputable def lexS:Tx->R (Option Tok×Tx)
 | []=>.bot
 | c::l=>lexC c l
noncomputable def lexF:Nat->Tx->R (List Tok)
 | 0,_=>.bot
 | _+1,[]=>.ok []
 | g+1,c::l=>(lexS (c::l)).bind fun q=>(lexF g q.2).bind fun ts=>.ok (match q.1 with
  | Option.none=>ts
  | some k=>k::ts)
theorem takeWhile_take {p:Nat->Bool}:∀ l:Tx,l.take (l.takeWhile p).length=l.takeWhile p
 | []=>rfl
 | a::l=>by
  rw [List.takeWhile_cons];cases h:p a
  ·rfl
  ·exact congrArg (a::·) (takeWhile_take l)
theorem takeWhile_drop {p:Nat->Bool}:∀ l:Tx,l.drop (l.takeWhile p).length=l.dropWhile p
 | []=>rfl
 | a::l=>by
  rw [List.takeWhile_cons,List.dropWhile_cons];cases h:p a
  ·rfl
  ·exact takeWhile_drop l
theorem blt_of {c n m:Nat}(h:Nat.ble c n=true)(h':Nat.blt n m=true):Nat.blt c m=true:=Nat.ble_eq_true_of_le (Aa (Au (Ad h)) (Ad h'))
theorem dec_ble {a b:Nat}(h:decide (a<=b)=true):Nat.ble a b=true:=Nat.ble_eq_true_of_le (Ax h)
theorem alp_lt {c:Nat}(h:isAlp c=true):Nat.blt c 128=true:=by
 rcases Bool.or_eq_true_iff.mp h with h | h
 ·exact blt_of (dec_ble (Ab h).2) rfl
 ·exact blt_of (dec_ble (Ab h).2) rfl
theorem dig_lt {c:Nat}(h:isDig c=true):Nat.blt c 128=true:=blt_of (dec_ble (Ab h).2) rfl
theorem aln_lt {c:Nat}(h:isAln c=true):Nat.blt c 128=true:=by
 rcases Bool.or_eq_true_iff.mp h with h | h
 ·exact alp_lt h
 ·exact dig_lt h
theorem ch_at {text:Tx}{i c:Nat}{l:Tx}(hd:text.drop i=c::l):i<text.length∧text[i]?=some c∧text.drop (i+1)=l:=by
 have h1:i<text.length:=by
  apply Nat.lt_of_not_le; intro q; rw [List.drop_eq_nil_of_le q] at hd; cases hd
 have h2:(text.drop i)[0]?=some c:=by rw [hd]; rfl
 rw [List.getElem?_drop] at h2;have h3:text.drop (i+1)=(text.drop i).drop 1:=by rw [List.drop_drop]
 exact ⟨h1,h2,by rw [h3,hd]; rfl⟩
theorem idxs_ok {J:Store}{k c:Nat}{l:Tx}{Q:AV->Prop}(h:k<l.length)(h3:l[k]?=some c)(q:Q (.str [c])):idxW (.str l) (.int k) J Q:=opt_ok (ix_nat h) (opt_ok h3 q)
theorem ifd_ok {p:Prop}[Decidable p]{A B:Prop}(h1:p->A)(h2:¬p->B):ifW (.bool (decide p)) A B:=if_ok (fun h=>h1 (Ax h)) fun h=>h2 (of_decide_eq_false h)
section
variable {T:Stat}{C:Calls}
noncomputable def scanC (m:Bm):E:=.all (.cons (.cmp .lt (.v 4) (.bi .len (.cons (.v 0) .nil))) (.cons (.bm (.idx (.v 0) (.v 4)) .isascii .nil) (.cons (.bm (.idx (.v 0) (.v 4)) m .nil) .nil)))
theorem scanC_sp {p:Nat->Bool}{m:Bm}(hp:∀ c,p c=true->Nat.blt c 128=true)(hm:∀ c J e Q X,Nat.blt c 128=true->Q (.bool (p c)) J->bmTy m (.str [c]) J (evsW T C .nil e J (fun vs J=>bmW m (.str [c]) vs J Q) X))
  {text:Tx} {J:Store} {j:Nat} {e:Ev} {Q:QV} {X:QX} (h0:e 0=some (.str text)) (h4:e 4=some (.int j)) (q:Q (.bool (match text.drop j with
   | []=>false
   | c::_=>p c)) J):evW T C (scanC m) e J Q X:=by
 refine var_ok h4 ?_;refine var_ok h0 ?_;refine ifd_ok (fun h=>?_) fun h=>?_
 ·cases hd:text.drop j with
  | nil=>exact absurd (Int.ofNat_lt.mp h) (Nat.not_lt_of_le (List.drop_eq_nil_iff.mp hd))
  | cons c l=>
   obtain ⟨h1,h2,h3⟩:=ch_at hd;rw [hd] at q;refine var_ok h0 ?_;refine var_ok h4 ?_;refine idxs_ok h1 h2 ?_;refine if_ok (fun ha=>?_) fun ha=>?_
   ·refine var_ok h0 ?_;refine var_ok h4 ?_;refine idxs_ok h1 h2 ?_;exact hm _ _ _ _ _ ha q
   ·cases hc:p c
    ·exact hc▸(show Q (.bool (p c)) J from q)
    ·rw [hp c hc] at ha; cases ha
 ·rw [List.drop_eq_nil_of_le (Nat.le_of_not_lt fun q=>h (Int.ofNat_lt.mpr q))] at q; exact q
theorem scan_sp {p:Nat->Bool}{m:Bm}(hp:∀ c,p c=true->Nat.blt c 128=true)(hm:∀ c J e Q X,Nat.blt c 128=true->Q (.bool (p c)) J->bmTy m (.str [c]) J (evsW T C .nil e J (fun vs J=>bmW m (.str [c]) vs J Q) X))
  {text:Tx} {J:Store} {QQ:QF} {XX:XS}:∀ (g j:Nat) (e:Ev),e 0=some (.str text)->e 4=some (.int j)->((text.drop j).takeWhile p).length<g->
   (∀ e',(∀ i,i≠4->e' i=e i)->e' 4=some (.int (j+((text.drop j).takeWhile p).length:Nat))->QQ .next e' J)->
   whlW (evW T C (scanC m)) (ssW T C (.cons (.aug 4 .add (.int 1)) .nil)) g e J QQ XX:=by
 intro g
 induction g with
 | zero=>intro j e _ _ h; exact absurd h (Nat.not_lt_zero _)
 | succ g ih=>
  intro j e h0 h4 hg q;refine scanC_sp hp hm h0 h4 ?_;cases hd:text.drop j with
  | nil=>rw [hd] at q; exact q e (fun _ _=>rfl) h4
  | cons c l=>
   rw [hd,List.takeWhile_cons] at q hg;cases hc:p c
   ·rw [hc] at q;exact if_f hc (q e (fun _ _=>rfl) h4)
   ·rw [hc] at q hg;refine if_t hc ?_;refine var_ok h4 ?_;have h3:=(ch_at hd).2.2;rw [← h3] at hg q;refine ih (j+1) (upd e 4 (.int (j+1:Nat))) h0 rfl (Nat.lt_of_succ_lt_succ hg) fun e' he he4=>q e' (fun i hi=>(he i hi).trans (upd_ne i hi)) (he4.trans ?_);rw [Aw]; rfl
end
section
variable {T:Stat}{C:Calls}
def LxE (res:R (Option Tok×Tx))(text:Tx)(J₀:Store)(acc:List AV)(QQ:QF)(XX:XS):Prop:=match res with
 | .ok q=>∀ e' i',e' 0=some (.str text)->e' 1=some (.obj J₀.length)->e' 2=some (.int (i':Nat))->i'<=text.length->text.drop i'=q.2->∀ f,(f=.next∨f=.cont)->
   QQ f e' (J₀++[.list (acc++(match q.1 with
    | Option.none=>[]
    | some k=>[k.av]))])
 | .err=>∀ e J,XX e J
 | .bot=>False
theorem set_top {J:Store}{m m':MO}:(J++[m]).set J.length m'=J++[m']:=by
 rw [List.set_append_right _ _ (Aj _),Nat.sub_self]; rfl
theorem top_app {J:Store}{l:List AV}{P:List AV->Prop}(h:P l):lstO J.length (J++[.list l]) P:=lst_ok get_top h
theorem nat_int {a b:Nat}{v:Int}(h:v=(b:Int))(h':a=b):some (AV.int v)=some (.int (a:Nat)):=by rw [h,h']
theorem cut_drop {text:Tx}{i k:Nat}:cut text i (i+k)=(text.drop i).take k:=by
 unfold cut; rw [List.drop_take,Nat.add_sub_cancel_left]
theorem cut_tw {text:Tx}{i:Nat}{p:Nat->Bool}:cut text (Int.toNat i) (Int.toNat (i+((text.drop i).takeWhile p).length:Nat))=(text.drop i).takeWhile p:=by
 show cut text i (i+_)=_;rw [cut_drop,takeWhile_take]
theorem takeWhile_all {p:Nat->Bool}:∀ (l:Tx),∀ c∈l.takeWhile p,p c=true
 | [],c,hc=>by cases hc
 | a::l,c,hc=>by
  rw [List.takeWhile_cons] at hc;cases h:p a
  ·rw [h] at hc; cases hc
  ·rw [h] at hc;rcases List.mem_cons.mp hc with rfl | hc
   ·exact h
   ·exact takeWhile_all l c hc
theorem drop_tw {text:Tx}{i:Nat}{p:Nat->Bool}:text.drop (i+((text.drop i).takeWhile p).length)=(text.drop i).dropWhile p:=by
 rw [← List.drop_drop,takeWhile_drop]
theorem tw_le {p:Nat->Bool}(l:Tx):(l.takeWhile p).length<=l.length:=by
 have:=congrArg List.length (takeWhile_take (p:=p) l);rw [List.length_take] at this;exact this▸Nat.min_le_right _ _
theorem tw_end {text:Tx}{i:Nat}{p:Nat->Bool}(hi:i<=text.length):i+((text.drop i).takeWhile p).length<=text.length:=by
 have:=tw_le (p:=p) (text.drop i);rw [List.length_drop] at this;exact Aa (Ak this i) (Nat.le_of_eq (Nat.add_sub_of_le hi))
theorem pair1 (c:Nat):memTx [c] pairs=false:=by
 show ((Nat.beq c 58&&false)||((Nat.beq c 60&&false)||((Nat.beq c 60&&false)||((Nat.beq c 62&&false)||false))))=false;rw [Bool.and_false,Bool.and_false,Bool.and_false]; rfl
theorem sign_sp {text:Tx}{J₀:Store}{acc:List AV}{i c:Nat}{l:Tx}{e:Ev}{QQ:QF}{XX:XS}(h0:e 0=some (.str text))(h1:e 1=some (.obj J₀.length))(h2:e 2=some (.int i))(h3:e 3=some (.str [c]))(hd:text.drop i=c::l)(hlen:acc.length<lid)
  (h:LxE (lexG c l) text J₀ acc QQ XX):ssW T C (.cons (.set 6 (.slice (.v 0) (.yes (.v 2)) (.yes (.bin .add (.v 2) (.int 2))))) (.cons (.ifs (.cmp .notin (.v 6) (.tuple (.cons (.str [58,61]) (.cons (.str [60,62]) (.cons (.str [60,61]) (.cons (.str [62,61]) .nil)))))) (.cons (.set 6 (.v 3)) .nil) .nil) (.cons (.ifs (.all (.cons (.cmp .eq (.v 6) (.v 3)) (.cons (.cmp .notin (.v 3) (.str [43,45,42,61,60,62,40,41,91,93,44,59,58,46])) .nil))) (.cons (.raise (.v 3)) .nil) .nil) (.cons (.expr (.bm (.v 1) .append (.cons (.tuple (.cons (.str [119,111,114,100]) (.cons (.v 6) .nil))) .nil))) (.cons (.aug 2 .add (.bi .len (.cons (.v 6) .nil))) .nil))))) e (J₀++[.list acc]) QQ XX:=by
 obtain ⟨a1,_,a3⟩:=ch_at hd;refine var_ok h0 ?_;refine var_ok h2 ?_;refine var_ok h2 ?_;refine ⟨Av _,Int.le_add_of_nonneg_right (by decide),?_⟩;rw [show cut text (Int.toNat i) (Int.toNat ((i:Int)+2))=(c::l).take 2 from hd▸cut_drop];refine ifn_ok (fun hm=>?_) fun hm=>?_
 ·unfold lexG at h;rw [show memTx _ pairs=true from hm] at h;refine var_ok (e:=upd e 6 _) (i:=3) h3 ?_;cases l with
  | nil=>exact Bool.noConfusion ((pair1 c).symm.trans hm)
  | cons c' l=>
   refine if_f (Bool.and_false _) ?_;refine var_ok (e:=upd e 6 _) (i:=1) h1 ?_;refine lst_ok get_top ?_;refine lst_ok get_top ⟨hlen,?_⟩;rw [set_top];refine var_ok (e:=upd e 6 _) (i:=2) h2 ?_;exact h (upd (upd e 6 _) 2 (.int (i+2:Nat))) (i+2) h0 h1 rfl (ch_at a3).1 (ch_at a3).2.2 _ (.inl rfl)
 ·unfold lexG at h;rw [show memTx _ pairs=false from hm] at h;refine var_ok (e:=upd e 6 _) (i:=3) h3 ?_;refine var_ok (e:=upd (upd e 6 _) 6 _) (i:=3) h3 ?_;refine if_t (b:=txEq [c] [c]) (txEq_self _) ?_;refine var_ok (e:=upd (upd e 6 _) 6 _) (i:=3) h3 ?_;refine ifn_ok (fun hs=>?_) fun hs=>?_
  ·rw [show memN c signs=true from hs] at h;refine var_ok (e:=upd (upd e 6 _) 6 _) (i:=1) h1 ?_;refine lst_ok get_top ?_;refine lst_ok get_top ⟨hlen,?_⟩;rw [set_top];refine var_ok (e:=upd (upd e 6 _) 6 _) (i:=2) h2 ?_;exact h (upd (upd (upd e 6 _) 6 _) 2 (.int (i+1:Nat))) (i+1) h0 h1 rfl a1 a3 _ (.inl rfl)
  ·rw [show memN c signs=false from hs] at h;refine var_ok (e:=upd (upd e 6 _) 6 _) (i:=3) h3 ?_;exact h _ _
theorem beq_b (d c:Nat):(d==c)=Nat.beq d c:=by
 cases h:Nat.beq d c
 ·exact beq_eq_false_iff_ne.mpr fun q=>by rw [q,Nat.beq_refl] at h; cases h
 ·exact beq_iff_eq.mpr (As h)
theorem behind_find (c:Nat):∀ l:Tx,behind c l=(l.findIdx? (·==c)).map fun k=>l.drop (k+1)
 | []=>rfl
 | d::l=>by
  rw [List.findIdx?_cons,beq_b];unfold behind;cases Nat.beq d c
  ·rw [behind_find c l];show _=Option.map _ (Option.map _ _);cases l.findIdx? (·==c)<;>rfl
  ·rfl
theorem lexBody_sp (hg:T.glob 0=some (.frz wordsA)){text:Tx}{J₀:Store}{acc:List AV}{i c:Nat}{l:Tx}{e:Ev}{QQ:QF}{XX:XS}(h0:e 0=some (.str text))(h1:e 1=some (.obj J₀.length))(h2:e 2=some (.int i))(hd:text.drop i=c::l)(hlen:acc.length<lid)
  (h:LxE (lexC c l) text J₀ acc QQ XX):ssW T C ir0b2 e (J₀++[.list acc]) QQ XX:=by
 obtain ⟨a1,a2,a3⟩:=ch_at hd;unfold lexC at h;refine var_ok h0 ?_;refine var_ok h2 ?_;refine idxs_ok a1 a2 ?_;refine if_ok (fun hb=>?_) fun hb=>?_
 ·rw [hb] at h;refine var_ok (e:=upd e 3 _) (i:=2) h2 ?_;exact (List.append_nil acc)▸h (upd (upd e 3 _) 2 (.int (i+1:Nat))) (i+1) h0 h1 rfl a1 a3 _ (.inr rfl)
 rw [hb] at h;refine if_ok (fun hb=>?_) fun hb=>?_
 ·have hn:=(Ab hb).1;have hc:=As hn;rw [hn] at h;refine var_ok (e:=upd e 3 _) (i:=0) h0 ?_;refine var_ok (e:=upd e 3 _) (i:=2) h2 ?_;refine ⟨Av _,Int.ofNat_le.mpr (Nat.le_of_lt a1),?_⟩;rw [behind_find] at h;rw [show findC 125 text (Int.toNat i)=(match l.findIdx? (·==125) with
    | some k=>((i+(k+1):Nat):Int)
    | Option.none=>-1) by
   unfold findC;rw [Int.toNat_natCast,hd,hc,List.findIdx?_cons];cases l.findIdx? (·==125)<;>rfl]
  cases hk:l.findIdx? (·==125) with
  | none=>rw [hk] at h; exact h _ _
  | some k=>
   rw [hk] at h;have hkl:i+(k+1)<text.length:=by
    have q:=(List.findIdx?_eq_some_iff_getElem.mp hk).1;rw [← a3,List.length_drop] at q; omega
   refine (List.append_nil acc)▸h (upd (upd (upd e 3 _) 4 (.int (i+(k+1):Nat))) 2 (.int (i+(k+1)+1:Nat))) (i+(k+1)+1) h0 h1 rfl hkl ?_ _ (.inr rfl);show _=l.drop (k+1);rw [← a3,List.drop_drop,Aw]
 rw [show Nat.beq c 123=false from (Bool.and_true (Nat.beq c 123)).symm.trans hb] at h;have sg:isAlp c=false->isDig c=false->LxE (lexG c l) text J₀ acc QQ XX:=fun x y=>by rw [x,y] at h; exact h
 have sgn:isAlp c=false->isDig c=false->_:=fun x y=>sign_sp (T:=T) (C:=C) (e:=upd e 3 (.str [c])) h0 h1 h2 rfl hd hlen (sg x y);have na:Nat.blt c 128=false->isAlp c=false∧isDig c=false:=fun ha=>⟨Bool.eq_false_iff.mpr fun q=>Bool.noConfusion ((alp_lt q).symm.trans ha),Bool.eq_false_iff.mpr fun q=>Bool.noConfusion ((dig_lt q).symm.trans ha)⟩;have wrd:isAlp c=true->∀ Z:Ev->Store->Prop,ssW T C (.cons (.set 4 (.v 2)) (.cons (.whl ir0c1 ir0b1) (.cons (.set 5 (.bm (.slice (.v 0) (.yes (.v 2)) (.yes (.v 4))) .lower .nil)) (.cons (.expr (.bm (.v 1) .append (.cons (.tuple (.cons (.ite (.cmp .isin (.v 5) (.g 0)) (.str [119,111,114,100]) (.str [110,97,109,101])) (.cons (.v 5) .nil))) .nil))) (.cons (.set 2 (.v 4)) (.cons .cont .nil)))))) (upd e 3 (.str [c])) (J₀++[.list acc]) (fun f e J=>match f with
   | .next=>Z e J
   | f=>QQ f e J) XX:=fun hal Z=>by
  rw [hal] at h;refine var_ok (e:=upd e 3 _) (i:=2) h2 ?_;refine ⟨text.length+1,scan_sp (text:=text) (p:=isAln) (m:=.isalnum) (fun c h=>aln_lt h) (fun c J e Q X h q=>grd_ok h q) _ i (upd (upd e 3 _) 4 (.int i)) h0 rfl (Nat.lt_succ_of_le (Aa (tw_le _) (by rw [List.length_drop]; exact Nat.sub_le _ _))) fun e' he he4=>?_⟩;have g0:=(he 0 (by decide)).trans h0;have g1:=(he 1 (by decide)).trans h1;have g2:=(he 2 (by decide)).trans h2;refine var_ok g0 ?_;refine var_ok g2 ?_;refine var_ok he4 ?_;refine ⟨Av _,Int.ofNat_le.mpr (Af _ _),?_⟩;rw [cut_tw];refine ⟨fun d hd=>Ad (aln_lt (takeWhile_all _ d hd)),?_⟩;refine var_ok (e:=upd e' 5 _) (i:=1) g1 ?_;refine lst_ok get_top ?_;refine opt_ok hg ?_;have hr:=drop_tw (text:=text) (i:=i) (p:=isAln);have hle:=tw_end (p:=isAln) (Nat.le_of_lt a1);rw [hd] at hr hle he4 ⊢;refine if_ok (fun hm=>?_) fun hm=>?_
  all_goals
   unfold lexW at h;rw [hm] at h;refine lst_ok get_top ⟨hlen,?_⟩;rw [set_top];refine var_ok (e:=upd e' 5 _) (i:=4) he4 ?_;exact h (upd (upd e' 5 _) 2 _) _ g0 g1 rfl hle hr _ (.inr rfl)
 have num:isAlp c=false->isDig c=true->∀ Z:Ev->Store->Prop,ssW T C (.cons (.set 4 (.v 2)) (.cons (.whl ir0c0 ir0b0) (.cons (.ifs (.all (.cons (.cmp .lt (.v 4) (.bi .len (.cons (.v 0) .nil))) (.cons (.bm (.idx (.v 0) (.v 4)) .isascii .nil) (.cons (.bm (.idx (.v 0) (.v 4)) .isalpha .nil) .nil)))) (.cons (.raise (.str [105,110,116])) .nil) .nil) (.cons (.expr (.bm (.v 1) .append (.cons (.tuple (.cons (.str [105,110,116]) (.cons (.bi .int (.cons (.slice (.v 0) (.yes (.v 2)) (.yes (.v 4))) .nil)) .nil))) .nil))) (.cons (.set 2 (.v 4)) (.cons .cont .nil)))))) (upd e 3 (.str [c])) (J₀++[.list acc]) (fun f e J=>match f with
   | .next=>Z e J
   | f=>QQ f e J) XX:=fun hal hdg Z=>by
  rw [hal,hdg] at h;refine var_ok (e:=upd e 3 _) (i:=2) h2 ?_;refine ⟨text.length+1,scan_sp (text:=text) (p:=isDig) (m:=.isdigit) (fun c h=>dig_lt h) (fun c J e Q X h q=>grd_ok h q) _ i (upd (upd e 3 _) 4 (.int i)) h0 rfl (Nat.lt_succ_of_le (Aa (tw_le _) (by rw [List.length_drop]; exact Nat.sub_le _ _))) fun e' he he4=>?_⟩;have g0:=(he 0 (by decide)).trans h0;have g1:=(he 1 (by decide)).trans h1;have g2:=(he 2 (by decide)).trans h2;have hr:=drop_tw (text:=text) (i:=i) (p:=isDig);have hle:=tw_end (p:=isDig) (Nat.le_of_lt a1);refine scanC_sp (p:=isAlp) (m:=.isalpha) (fun c h=>alp_lt h) (fun c J e Q X h q=>grd_ok h q) g0 he4 ?_;rw [hr];refine if_ok (b:=startsAlp ((text.drop i).dropWhile isDig)) (fun hs=>?_) fun hs=>?_
  ·rw [hd] at hs;unfold lexD at h;rw [hs] at h;exact h _ _
  refine var_ok g1 ?_;refine lst_ok get_top ?_;refine var_ok g0 ?_;refine var_ok g2 ?_;refine var_ok he4 ?_;refine ⟨Av _,Int.ofNat_le.mpr (Af _ _),?_⟩;rw [cut_tw];have hall:=List.all_eq_true.mpr (takeWhile_all (p:=isDig) (text.drop i));rw [hd] at hs hr hle he4 hall ⊢;unfold lexD at h;rw [hs] at h;cases hb6:Nat.ble (List.takeWhile isDig (c::l)).length 600 with
  | false=>rw [hb6] at h; exact h.elim
  | true=>
   rw [hb6] at h;refine ⟨(by rw [List.takeWhile_cons,hdg]; exact List.cons_ne_nil _ _),Ad hb6,hall,?_⟩;refine lst_ok get_top ⟨hlen,?_⟩;rw [set_top];refine var_ok he4 ?_;exact h (upd e' 2 _) _ g0 g1 rfl hle hr _ (.inr rfl)
 refine if_ok (fun ha=>?_) fun ha=>?_
 ·refine grd_ok ha ?_;refine if_ok (fun hal=>?_) fun hal=>?_
  ·exact wrd hal _
  ·refine if_t ha ?_;refine grd_ok ha ?_;refine if_ok (fun hdg=>?_) fun hdg=>?_
   ·exact num hal hdg _
   ·exact sgn hal hdg
 ·refine if_f (b:=Nat.blt c 128) ha ?_;exact sgn (na ha).1 (na ha).2
def LxL (res:R (List Tok))(J₀:Store)(acc:List AV)(QQ:QF)(XX:XS):Prop:=match res with
 | .ok ts=>∀ e',e' 1=some (.obj J₀.length)->QQ .next e' (J₀++[.list (acc++ts.map Tok.av)])
 | .err=>∀ e J,XX e J
 | .bot=>False
theorem lexL_sp (hg:T.glob 0=some (.frz wordsA)){text:Tx}{J₀:Store}{QQ:QF}{XX:XS}:∀ (g:Nat) (acc:List AV) (i:Nat) (e:Ev),e 0=some (.str text)->e 1=some (.obj J₀.length)->e 2=some (.int i)->acc.length+g<=800000->
  LxL (lexF g (text.drop i)) J₀ acc QQ XX->whlW (evW T C ir0c2) (ssW T C ir0b2) g e (J₀++[.list acc]) QQ XX:=by
 intro g
 induction g with
 | zero=>intro acc i e _ _ _ _ h; exact h.elim
 | succ g ih=>
  intro acc i e h0 h1 h2 hl h;refine var_ok h2 ?_;refine var_ok h0 ?_;cases hd:text.drop i with
  | nil=>
   rw [hd] at h;refine if_f (b:=decide ((i:Int)<(text.length:Int))) (decide_eq_false fun q=>Nat.not_lt_of_le (List.drop_eq_nil_iff.mp hd) (Int.ofNat_lt.mp q)) ?_;exact (List.append_nil acc)▸h e h1
  | cons c l=>
   rw [hd] at h;refine if_t (b:=decide ((i:Int)<(text.length:Int))) (decide_eq_true (Int.ofNat_lt.mpr (ch_at hd).1)) ?_;refine lexBody_sp hg h0 h1 h2 hd (lt9 hl) ?_;have h:LxL ((lexC c l).bind fun q=>(lexF g q.2).bind fun ts=>.ok (match q.1 with
    | Option.none=>ts
    | some k=>k::ts)) J₀ acc QQ XX:=h
   cases hs:lexC c l with
   | bot=>rw [hs] at h; exact h.elim
   | err=>rw [hs] at h; exact h
   | ok q=>
    rw [hs] at h;intro e' i' g0 g1 g2 gi gd f hf;have key:whlW (evW T C ir0c2) (ssW T C ir0b2) g e' (J₀++[MO.list (acc++match q.1 with
      | Option.none=>[]
      | some k=>[k.av])]) QQ XX:=by
     have hl':∀ m,acc.length+m<=acc.length+1->acc.length+m+g<=800000:=fun m hm=>Aa (Al hm g) (Aa (Nat.le_of_eq (Aw _ 1 g)) hl);refine ih _ i' e' g0 g1 g2 ?_ ?_
     ·rw [Ac];rcases q with ⟨_ | k,q2⟩
      ·exact hl' 0 (Nat.le_succ _)
      ·exact hl' 1 (Aj _)
     ·rw [gd];have h:LxL ((lexF g q.2).bind fun ts=>.ok (match q.1 with
       | Option.none=>ts
       | some k=>k::ts)) J₀ acc QQ XX:=h
      cases hf:lexF g q.2 with
      | bot=>rw [hf] at h; exact h.elim
      | err=>rw [hf] at h; exact h
      | ok ts=>
       rw [hf] at h;intro e'' h1'';have:=h e'' h1'';rcases q with ⟨_ | k,q2⟩
       ·rw [Ae]; exact this
       ·rw [Ae]; exact this
    rcases hf with rfl | rfl<;>exact key
end
theorem lexF_len:∀ (g:Nat) (l:Tx) (ts:List Tok),lexF g l=.ok ts->ts.length<=g
 | 0,_,_,h=>by cases h
 | g+1,[],_,h=>by cases h; exact Nat.zero_le _
 | g+1,c::l,ts,h=>by
  have h:((lexC c l).bind fun q=>(lexF g q.2).bind fun ts=>.ok (match q.1 with
    | Option.none=>ts
    | some k=>k::ts))=.ok ts:=h
  cases hs:lexC c l with
  | bot=>rw [hs] at h; cases h
  | err=>rw [hs] at h; cases h
  | ok q=>
   rw [hs] at h;have h:((lexF g q.2).bind fun ts=>R.ok (match q.1 with
    | Option.none=>ts
    | some k=>k::ts))=.ok ts:=h
   cases hf:lexF g q.2 with
   | bot=>rw [hf] at h; cases h
   | err=>rw [hf] at h; cases h
   | ok us=>
    rw [hf] at h;have:=lexF_len g _ _ hf;rcases q with ⟨_ | k,q2⟩<;>cases h
    ·exact Nat.le_succ_of_le this
    ·exact Au this
section
variable {T:Stat}{D:Nat->Option FDef}
noncomputable def gasX:Nat:=4000
noncomputable def lexT (text:Tx):R (List Tok):=(lexF gasX text).bind fun ts=>.ok (ts++[.fin])
theorem lex_sp (K:Core T D){n:Nat}{text:Tx}{J:Store}{Q:QV}{X:QX}(hn:1<=n)
  (h:match lexT text with
   | .ok ts=>∀ J',J.length<=J'.length->(∀ i,i<J.length->J'[i]?=J[i]?)->∀ o,J.length<=o->J'[o]?=some (.list (ts.map Tok.av))->Q (.obj o) J'
   | .err=>∀ J',X J'
   | .bot=>False):callW T D n 0 [.str text] J Q X:=by
 obtain ⟨n,rfl⟩:=ge1 hn;refine ⟨ir0,K.dk 0 rfl rfl,rfl,gasX,lexL_sp K.g0 gasX [] 0 _ rfl rfl rfl (show 4000<=800000 by decide) ?_⟩;revert h;unfold lexT LxL R.bind;rw [List.drop_zero];cases hx:lexF gasX text with
 | bot=>exact id
 | err=>intro h e J; exact h _
 | ok ts=>
  intro h e' h1;refine var_ok h1 ?_;refine lst_ok (get_push get_top) ?_;refine lst_ok get_top ⟨?_,?_⟩
  ·have:=lexF_len _ _ _ hx;rw [List.nil_append,Ah];exact Aa (Al this 1) (show 4001<=lid by decide)
  refine h _ ?_ (fun i hi=>?_) _ ?_ ?_
  ·rw [Ac,Ac,Ac,Nat.add_assoc,Nat.add_assoc]; exact Af _ _
  ·have h2:i<(J++[MO.list ([]++ts.map Tok.av)]).length:=by rw [Ac]; exact Nat.lt_add_right _ hi
   rw [List.getElem?_append_left (by rw [Ac]; exact Nat.lt_add_right _ h2),List.getElem?_append_left h2,List.getElem?_append_left hi]
  ·rw [Ac,Ac,Nat.add_assoc]; exact Af _ _
  ·rw [get_top,List.map_append]; rfl
end
def Ext (J J':Store):Prop:=J.length<=J'.length∧∀ i,i<J.length->J'[i]?=J[i]?
theorem Ext.refl (J:Store):Ext J J:=⟨Aj _,fun _ _=>rfl⟩
theorem Ext.trans {a b c:Store}(h:Ext a b)(h':Ext b c):Ext a c:=⟨Aa h.1 h'.1,fun i hi=>by rw [h'.2 i (An hi h.1),h.2 i hi]⟩
theorem Ext.get {J J':Store}{o:Nat}{m:MO}(k:Ext J J')(h:J[o]?=some m):J'[o]?=some m:=by
 rw [k.2 o (Ai h).1,h]
theorem Ext.push {J₀ J:Store}{m:MO}(h:Ext J₀ J):Ext J₀ (J++[m]):=
 ⟨Aa h.1 (by rw [Ac]; exact Af _ _),fun i hi=>by rw [List.getElem?_append_left (An hi h.1),h.2 i hi]⟩
theorem Ext.setO {o:Nat}{J₀ J:Store}{m:MO}(h:Ext J₀ J)(ho:J₀.length<=o):Ext J₀ (J.set o m):=
 ⟨by rw [List.length_set]; exact h.1,fun i hi=>by rw [List.getElem?_set_ne (Nat.ne_of_gt (An hi ho)),h.2 i hi]⟩
theorem Keep.ext {r:Nat}{J₀ J J':Store}(h:Ext J₀ J)(hr:J₀.length<=r)(k:Keep r J J'):Ext J₀ J':=
 ⟨Aa h.1 k.1,fun i hi=>by rw [k.2 i (Nat.ne_of_lt (An hi hr)) (An hi h.1),h.2 i hi]⟩
def ASp {α:Type}(enc:α->AV)(res:R α)(J₀:Store)(Q:QV)(X:QX):Prop:=match res with
 | .ok a=>∀ J',Ext J₀ J'->Q (enc a) J'
 | .err=>∀ J',X J'
 | .bot=>False
theorem ASp.ends {α:Type}{enc:α->AV}{J₀:Store}{Q:QV}{X:QX}:Ends (fun res=>ASp enc res J₀ Q X) X:=⟨fun h=>h,fun h=>h⟩
noncomputable def parseT (text:Tx):R (Tx×Bl):=(lexT text).bind pProgram
noncomputable def progAv (q:Tx×Bl):AV:=.tup [.str wProgram,.str q.1,q.2.av]
section
variable {T:Stat}{D:Nat->Option FDef}
theorem parse_sp (K:Core T D){n:Nat}{text:Tx}{J:Store}{Q:QV}{X:QX}(hn:90<=n)(h:ASp progAv (parseT text) J Q X):callW T D n 13 [.str text] J Q X:=by
 obtain ⟨n,rfl⟩:=ge2 (Aa (by decide) hn);have hn:88<=n:=Am (Am hn);refine ⟨ir13,K.dk 13 rfl rfl,rfl,?_⟩;refine ⟨1,K.i0,K.ck 1 rfl rfl,?_⟩;refine ⟨ir1,K.dk 1 rfl rfl,rfl,?_⟩;refine ⟨K.ck 0 rfl rfl,?_⟩;refine lex_sp K (Aa (by decide) hn) ?_;unfold parseT at h;cases hx:lexT text with
 | bot=>rw [hx] at h; exact h.elim
 | err=>rw [hx] at h; exact h
 | ok ts=>
  rw [hx] at h;intro J1 l1 k1 o ho hl;have e0:Ext (J++[MO.inst 0 []]) J1:=⟨l1,k1⟩;have hr:J1[J.length]?=some (.inst 0 []):=e0.get get_top;have hr2:=get_set (m:=.inst 0 [(.ts,.obj o)]) hr;refine put_ok hr ?_;refine put_ok hr2 ?_;refine ⟨rfl,?_⟩;have hone:J.length≠o:=Nat.ne_of_lt (An (by rw [Ac]; exact Nat.lt_succ_self _) ho);have ps:PS ((J1.set J.length (.inst 0 [(.ts,.obj o)])).set J.length (.inst 0 [(.ts,.obj o),(.pos,.int 0)])) J.length o ts:=
   ⟨ts.map Tok.av,0,get_set hr2,by rw [List.getElem?_set_ne hone,List.getElem?_set_ne hone,hl],rfl⟩
  have e2:=(((Ext.refl J).push.trans e0).setO (m:=.inst 0 [(.ts,.obj o)]) (Aj _)).setO (m:=.inst 0 [(.ts,.obj o),(.pos,.int 0)]) (Aj _);have n2:2<=n+1:=Nat.le_succ_of_le (Aa (by decide) hn);refine want_sp K ASp.ends n2 ps h fun rest J3 p3 k3 h=>?_;refine name_sp K ASp.ends (Ap n2) p3 h fun x rest J4 p4 k4 h=>?_;refine want_sp K ASp.ends n2 p4 h fun rest J5 p5 k5 h=>?_;refine sub_sp (block_sp K dB) (K.ck 12 rfl rfl) (Nat.le_succ_of_le (Aa (show dB+73<=88 by decide) hn)) ASp.ends p5 h fun b J6 p6 k6 h=>?_;refine want_sp K ASp.ends n2 p6 h fun rest J7 p7 k7 h=>?_;cases rest with
  | nil=>exact h.elim
  | cons k rest=>
   refine peek_ok p7 ?_;cases k with
   | fin=>exact h _ (Keep.ext e2 (Aj _) ((((k3.trans k4).trans k5).trans k6).trans k7))
   | word w=>exact h _
   | name w=>exact h _
   | int w=>exact h _
end
inductive In where
 | lit (n:Nat) | lod (l a:Nat) | lda (l a:Nat) | sto (l a:Nat) | ldi | sti | chk (n:Nat) | opr (s:Tx)
 | jmp (p:Nat) | jpc (p:Nat) | int (n:Nat) | cal (l a n:Nat) | ret | wrt | tick | jmx | jpx
noncomputable def iLit:Tx:=[108,105,116]
noncomputable def iLod:Tx:=[108,111,100]
noncomputable def iLda:Tx:=[108,100,97]
noncomputable def iSto:Tx:=[115,116,111]
noncomputable def iLdi:Tx:=[108,100,105]
noncomputable def iSti:Tx:=[115,116,105]
noncomputable def iChk:Tx:=[99,104,107]
noncomputable def iOpr:Tx:=[111,112,114]
noncomputable def iJmp:Tx:=[106,109,112]
noncomputable def iJpc:Tx:=[106,112,99]
noncomputable def iCal:Tx:=[99,97,108]
noncomputable def iRet:Tx:=[114,101,116]
noncomputable def iWrt:Tx:=[119,114,116]
noncomputable def iTick:Tx:=[116,105,99,107]
noncomputable def In.av:In->AV
 | .lit n=>.tup [.str iLit,.int n]
 | .lod l a=>.tup [.str iLod,.int l,.int a]
 | .lda l a=>.tup [.str iLda,.int l,.int a]
 | .sto l a=>.tup [.str iSto,.int l,.int a]
 | .ldi=>.tup [.str iLdi]
 | .sti=>.tup [.str iSti]
 | .chk n=>.tup [.str iChk,.int n]
 | .opr s=>.tup [.str iOpr,.str s]
 | .jmp p=>.tup [.str iJmp,.int p]
 | .jpc p=>.tup [.str iJpc,.int p]
 | .int n=>.tup [.str kInt,.int n]
 | .cal l a n=>.tup [.str iCal,.int l,.int a,.int n]
 | .ret=>.tup [.str iRet]
 | .wrt=>.tup [.str iWrt]
 | .tick=>.tup [.str iTick]
 | .jmx=>.tup [.str iJmp,.none]
 | .jpx=>.tup [.str iJpc,.none]
inductive Sc where
 | var (a:Nat) | ref (a:Nat) | arr (a z:Nat) | proc (p:Nat) (q:List (Tx×Bool))
noncomputable def kRef:Tx:=[114,101,102]
noncomputable def kProc:Tx:=[112,114,111,99]
noncomputable def Sc.kind:Sc->Tx
 | .var _=>kInt | .ref _=>kRef | .arr ..=>wArray | .proc ..=>kProc
noncomputable def Sc.av:Sc->AV
 | .var a=>.tup [.str kInt,.int a]
 | .ref a=>.tup [.str kRef,.int a]
 | .arr a z=>.tup [.str wArray,.int a,.int z]
 | .proc p q=>.tup [.str kProc,.int p,.tup (q.map qAv)]
abbrev Scope:=List (Tx×Sc)
noncomputable def encS (s:Scope):List (Tx×AV):=s.map fun q=>(q.1,q.2.av)
noncomputable def lookS (x:Tx):Scope->Option Sc
 | []=>Option.none
 | (y,e)::r=>match txEq x y with
  | true=>some e
  | false=>lookS x r
noncomputable def putS (x:Tx)(v:Sc):Scope->Scope
 | []=>[(x,v)]
 | (y,w)::r=>match txEq y x with
  | true=>(y,v)::r
  | false=>(y,w)::putS x v r
theorem tx_beq (x y:Tx):(x==y)=txEq x y:=by
 cases h:txEq x y
 ·exact beq_eq_false_iff_ne.mpr fun q=>by rw [q,txEq_self] at h; cases h
 ·exact beq_iff_eq.mpr (txEq_of h)
theorem lookS_enc (x:Tx):∀ s:Scope,(encS s).lookup x=(lookS x s).map Sc.av
 | []=>rfl
 | (y,e)::r=>by
  show List.lookup x ((y,e.av)::encS r)=_;rw [List.lookup_cons,tx_beq,lookS_enc x r];show _=Option.map Sc.av (match txEq x y with
   | true=>some e
   | false=>lookS x r)
  cases txEq x y<;>rfl
theorem putS_enc (x:Tx)(v:Sc):∀ s:Scope,putD x v.av (encS s)=encS (putS x v s)
 | []=>rfl
 | (y,e)::r=>by
  show putD x v.av ((y,e.av)::encS r)=_;show cond (txEq y x) _ ((y,e.av)::putD x v.av (encS r))=encS (match txEq y x with
   | true=>(y,v)::r
   | false=>(y,e)::putS x v r)
  rw [putS_enc x v r];cases txEq y x<;>rfl
theorem putS_len (x:Tx)(v:Sc):∀ s:Scope,(putS x v s).length<=s.length+1
 | []=>Aj _
 | (y,e)::r=>by
  show (match txEq y x with
   | true=>(y,v)::r
   | false=>(y,e)::putS x v r).length<=_
  cases txEq y x
  ·exact Au (putS_len x v r)
  ·exact Nat.le_succ _
noncomputable def findS (x:Tx):List Scope->Nat->Option (Nat×Sc)
 | [],_=>Option.none
 | s::r,l=>match lookS x s with
  | some e=>some (l,e)
  | Option.none=>findS x r (l+1)
noncomputable def cName (sc:List Scope)(x:Tx):R (List In):=match findS x sc 0 with
 | some (l,.var a)=>.ok [.lod l a]
 | some (l,.ref a)=>.ok [.lod l a,.ldi]
 | _=>.err
noncomputable def cAddrN (sc:List Scope)(x:Tx):R (List In):=match findS x sc 0 with
 | some (l,.var a)=>.ok [.lda l a]
 | some (l,.ref a)=>.ok [.lod l a]
 | _=>.err
noncomputable def cAt (sc:List Scope)(x:Tx)(i:R (List In)):R (List In):=match findS x sc 0 with
 | some (l,.arr a z)=>i.bind fun c=>.ok (c++[.chk z,.lda l a,.opr wPlus])
 | _=>.err
noncomputable def cVal (sc:List Scope):Ex->R (List In)
 | .int n=>.ok [.lit n]
 | .name x=>cName sc x
 | .at x e=>(cAt sc x (cVal sc e)).bind fun c=>.ok (c++[.ldi])
 | .neg e=>(cVal sc e).bind fun c=>.ok (c++[.opr kNeg])
 | .odd e=>(cVal sc e).bind fun c=>.ok (c++[.opr kOdd])
 | .bin o a b=>(cVal sc a).bind fun c=>(cVal sc b).bind fun d=>.ok (c++d++[.opr o])
noncomputable def cAddr (sc:List Scope):Ex->R (List In)
 | .name x=>cAddrN sc x
 | .at x e=>cAt sc x (cVal sc e)
 | _=>.err
noncomputable def cArgs (sc:List Scope):List Bool->List Ex->R (List In)
 | v::vs,e::es=>(match v with
  | true=>cAddr sc e
  | false=>cVal sc e).bind fun c=>(cArgs sc vs es).bind fun d=>.ok (c++d)
 | [],[]=>.ok []
 | _,_=>.err
noncomputable def cStmt (sc:List Scope):Nat->Nat->St->R (List In)
 | _,_,.empty=>.ok []
 | _,_,.set x e=>(cAddrN sc x).bind fun c=>(cVal sc e).bind fun d=>.ok (c++d++[.sti])
 | _,_,.setAt x i e=>(cAt sc x (cVal sc i)).bind fun c=>(cVal sc e).bind fun d=>.ok (c++d++[.sti])
 | _,_,.call x as=>(match findS x sc 0 with
  | some (l,.proc a q)=>(match Nat.beq q.length as.length with
   | true=>(cArgs sc (q.map (·.2)) as).bind fun c=>.ok (c++[.tick,.cal l a as.length])
   | false=>.err)
  | _=>.err)
 | f,p,.if1 c a=>(cVal sc c).bind fun v=>(cStmt sc f (p+v.length+1) a).bind fun s=>.ok (v++[.jpc (p+v.length+1+s.length)]++s)
 | f,p,.if2 c a b=>(cVal sc c).bind fun v=>(cStmt sc f (p+v.length+1) a).bind fun s=>(cStmt sc f (p+v.length+1+s.length+1) b).bind fun t=>
   .ok (v++[.jpc (p+v.length+1+s.length+1)]++s++[.jmp (p+v.length+1+s.length+1+t.length)]++t)
 | f,p,.whl c a=>(cVal sc c).bind fun v=>(cStmt sc f (p+v.length+2) a).bind fun s=>.ok (v++[.tick,.jpc (p+v.length+2+s.length+1)]++s++[.jmp p])
 | f,p,.rep r c=>(cStmt sc f p r).bind fun s=>(cVal sc c).bind fun v=>.ok (s++v++[.tick,.jpc p])
 | f,p,.for x a b up s=>(cAddrN sc x).bind fun w=>(cVal sc a).bind fun u=>(cVal sc b).bind fun v=>
   let top:=p+u.length+v.length
   (cStmt sc (f+2) (top+5+w.length+2) s).bind fun t=>
   let k:=top+5+w.length+2+t.length+5
   .ok (u++v++[.tick,.lod 0 f,.lod 0 (f+1),.opr (cond up [60,61] [62,61]),.jpc k]++w++[.lod 0 f,.sti]++t++[.lod 0 f,.lit 1,.opr (cond up [43] [45]),.sto 0 f,.jmp top,.jpc (k+1),.jpc (k+2)])
 | f,p,.beg s=>cStmt sc f p s
 | _,_,.write e=>(cVal sc e).bind fun c=>.ok (c++[.wrt])
 | f,p,.one s=>cStmt sc f p s
 | f,p,.seq s r=>(cStmt sc f p s).bind fun c=>(cStmt sc f (p+c.length) r).bind fun d=>.ok (c++d)
noncomputable def Ex.sz:Ex->Nat
 | .int _=>1 | .name _=>2 | .at _ e=>e.sz+4 | .neg e=>e.sz+1 | .odd e=>e.sz+1 | .bin _ a b=>a.sz+(b.sz+1)
noncomputable def szs:List Ex->Nat
 | []=>0
 | e::r=>e.sz+szs r
noncomputable def St.sz:St->Nat
 | .empty=>0 | .set _ e=>1+(e.sz+1) | .setAt _ i e=>i.sz+3+(e.sz+1) | .call _ as=>szs as+2 | .if1 c a=>c.sz+(1+a.sz) | .if2 c a b=>c.sz+(1+(a.sz+(1+b.sz)))
 | .whl c a=>c.sz+(2+(a.sz+1)) | .rep s c=>s.sz+(c.sz+2) | .for _ a b _ s=>a.sz+(b.sz+(6+(2+(s.sz+7)))) | .beg s=>s.sz | .write e=>e.sz+1 | .one s=>s.sz | .seq s r=>s.sz+r.sz
noncomputable def Ex.fu:Ex->Nat
 | .int _=>2 | .name _=>3 | .at _ e=>max 3 (e.fu+1)+1 | .neg e=>e.fu+1 | .odd e=>e.fu+1 | .bin _ a b=>max a.fu b.fu+1
noncomputable def fus:List Ex->Nat
 | []=>3
 | e::r=>max e.fu (fus r)
noncomputable def St.fu:St->Nat
 | .empty=>1 | .set _ e=>max 4 e.fu+1 | .setAt _ i e=>max (max 3 (i.fu+1)) e.fu+1 | .call _ as=>fus as+1 | .if1 c a=>max c.fu a.fu+1 | .if2 c a b=>max c.fu (max a.fu b.fu)+1
 | .whl c a=>max c.fu a.fu+1 | .rep s c=>max s.fu c.fu+1 | .for _ a b _ s=>max (max 4 s.fu) (max a.fu b.fu)+1 | .beg s=>s.fu+1 | .write e=>e.fu+1 | .one s=>s.fu | .seq s r=>max s.fu r.fu
theorem R.bind_ok {α β:Type}{m:R α}{f:α->R β}{b:β}(h:m.bind f=.ok b):∃ a,m=.ok a∧f a=.ok b:=by
 cases m with
 | ok a=>exact ⟨a,rfl,h⟩
 | err=>cases h
 | bot=>cases h
noncomputable def Dicts (J:Store):List Nat->List Scope->Prop
 | [],[]=>True
 | d::ds,s::sc=>J[d]?=some (.dict (encS s))∧Dicts J ds sc
 | _,_=>False
theorem Dicts.keep {J J':Store}{t:Nat}(k:Keep t J J'){L:List AV}(ht:J[t]?=some (.list L)):∀ {ds:List Nat} {sc:List Scope},Dicts J ds sc->Dicts J' ds sc
 | [],[],_=>trivial
 | d::ds,s::sc,h=>⟨k.get (by rintro rfl; have:=ht.symm.trans h.1; cases this) h.1,Dicts.keep k ht h.2⟩
 | [],_::_,h=>h.elim
 | _::_,[],h=>h.elim
theorem Dicts.len {J:Store}:∀ {ds:List Nat} {sc:List Scope},Dicts J ds sc->ds.length=sc.length
 | [],[],_=>rfl
 | d::ds,s::sc,h=>congrArg Nat.succ (Dicts.len h.2)
 | [],_::_,h=>h.elim
 | _::_,[],h=>h.elim
theorem Dicts.get {J:Store}:∀ {ds:List Nat} {sc:List Scope} {l:Nat} {s:Scope} {r:List Scope},Dicts J ds sc->sc.drop l=s::r->∃ d,ds[l]?=some d∧J[d]?=some (.dict (encS s))∧l<ds.length
 | d::ds,s::sc,0,_,_,h,e=>by cases e; exact ⟨d,rfl,h.1,Nat.succ_pos _⟩
 | d::ds,s::sc,l+1,_,_,h,e=>by obtain ⟨d,a,b,c⟩:=Dicts.get h.2 e; exact ⟨d,a,b,Nat.succ_lt_succ c⟩
 | [],[],l,_,_,h,e=>by rw [List.drop_nil] at e; cases e
 | [],_::_,_,_,_,h,_=>h.elim
 | _::_,[],_,_,_,h,_=>h.elim
theorem Keep.self {J:Store}{t:Nat}{m:MO}:Keep t J (J.set t m):=⟨by rw [List.length_set]; exact Aj _,fun i hi _=>List.getElem?_set_ne (Ne.symm hi)⟩
structure Fr where
 r:Nat
 t:Nat
 so:Nat
 ds:List Nat
 sc:List Scope
 b:Store
structure FrOk (F:Fr):Prop where
 b0:∃ l,F.b[F.t]?=some (.list l)
 b1:F.b[F.r]?=some (.inst 1 [(.code,.obj F.t)])
 b2:F.b[F.so]?=some (.list (F.ds.reverse.map AV.obj))
 b3:Dicts F.b F.ds F.sc
 n2:F.so≠F.t
 ln:F.ds.length<=1000
structure Cx (F:Fr)(J:Store)(L:List In)(b:List Nat):Prop where
 ok:FrOk F
 c2:J[F.t]?=some (.list (L.map In.av))
 kp:Keep F.t F.b J
 rm:L.length+b.sum<=900000
theorem FrOk.n1 {F:Fr}(h:FrOk F):F.r≠F.t:=fun e=>by
 obtain ⟨l,hl⟩:=h.b0;have:=(e▸h.b1).symm.trans hl; cases this
theorem Cx.c1 {F:Fr}{J:Store}{L:List In}{b:List Nat}(h:Cx F J L b):J[F.r]?=some (.inst 1 [(.code,.obj F.t)]):=h.kp.get h.ok.n1 h.ok.b1
theorem Cx.s1 {F:Fr}{J:Store}{L:List In}{b:List Nat}(h:Cx F J L b):J[F.so]?=some (.list (F.ds.reverse.map AV.obj)):=h.kp.get h.ok.n2 h.ok.b2
theorem Cx.s2 {F:Fr}{J:Store}{L:List In}{b:List Nat}(h:Cx F J L b):Dicts J F.ds F.sc:=by
 obtain ⟨l,hl⟩:=h.ok.b0;exact h.ok.b3.keep h.kp hl
theorem Cx.sp {F:Fr}{J:Store}{L:List In}{x y:Nat}{b:List Nat}(h:Cx F J L ((x+y)::b)):Cx F J L (x::y::b):=⟨h.ok,h.c2,h.kp,Aa (Nat.le_of_eq (by rw [List.sum_cons,List.sum_cons,List.sum_cons,Nat.add_assoc])) h.rm⟩
theorem Cx.pad {F:Fr}{J:Store}{L:List In}{x y:Nat}{b:List Nat}(h:Cx F J L (x::b))(l:y<=x):Cx F J L (y::b):=⟨h.ok,h.c2,h.kp,Aa (Ak (by rw [List.sum_cons,List.sum_cons]; exact Al l _) _) h.rm⟩
theorem Cx.j {F:Fr}{J:Store}{L c d:List In}{b:List Nat}(h:Cx F J (L++c++d) b):Cx F J (L++(c++d)) b:=Ae L c d▸h
theorem dct_ok {J:Store}{r:Nat}{l:List (Tx×AV)}{Q:List (Tx×AV)->Prop}(h1:J[r]?=some (.dict l))(q:Q l):dctO r J Q:=by
 unfold dctO; exact ⟨_,h1,q⟩
theorem cs_code {F:Fr}{J:Store}{L:List In}{b:List Nat}{Q:AV->Prop}(h:Cx F J L b)(q:Q (.obj F.t)):attrW (.obj F.r) .code J Q:=attr_ok h.c1 rfl rfl q
theorem cs_len {F:Fr}{J:Store}{L:List In}{b:List Nat}{Q:List AV->Prop}(h:Cx F J L b)(q:Q (L.map In.av)):attrW (.obj F.r) .code J fun v=>objW v fun t=>lstO t J Q:=attr_ok h.c1 rfl rfl (lst_ok h.c2 q)
theorem idx_dict {J:Store}{d:Nat}{s:Scope}{x:Tx}{e:Sc}{Q:AV->Prop}(h:J[d]?=some (.dict (encS s)))(h2:lookS x s=some e)(q:Q e.av):idxW (.obj d) (.str x) J Q:=
 dct_ok h (opt_ok (by rw [lookS_enc,h2]; rfl) q)
theorem in_dict {J:Store}{d:Nat}{s:Scope}{x:Tx}{Q:Bool->Prop}(h:J[d]?=some (.dict (encS s)))(q:Q (lookS x s).isSome):memO x d J Q:=by
 unfold memO;refine .inr ⟨_,h,?_⟩;rw [lookS_enc,Option.isSome_map]; exact q
section
variable {T:Stat}{D:Nat->Option FDef}
theorem cm {F:Fr}{J:Store}{f:Nat}{L:List In}{b:List Nat}{P:Nat->Prop}(h:Cx F J L b)(hc:T.clsOf f=some 1)(hp:P F.r):methW T f (.obj F.r) J P:=by
 unfold methW; exact ⟨F.r,1,_,rfl,h.c1,hc,hp⟩
theorem need_sp (K:Core T D){n:Nat}{b:Bool}{w:Tx}{J:Store}{Q:QV}{X:QX}(hn:1<=n)(h1:b=true->Q .none J)(h2:b=false->X J):callW T D n 14 [.bool b,.str w] J Q X:=by
 obtain ⟨n,rfl⟩:=ge1 hn;refine ⟨ir14,K.dk 14 rfl rfl,rfl,?_⟩;exact ifn_ok (fun h=>h1 h) fun h=>h2 h
theorem emit_sp (K:Core T D){n:Nat}{F:Fr}(i:In){L:List In}{b:List Nat}{J:Store}{Q:QV}{X:QX}(hn:1<=n)(cx:Cx F J L (1::b))
  (h:∀ J',Cx F J' (L++[i]) b->Q (.int L.length) J'):methW T 16 (.obj F.r) J fun r=>callW T D n 16 [.obj r,i.av] J Q X:=by
 obtain ⟨n,rfl⟩:=ge1 hn;have hr:=cx.rm;rw [List.sum_cons,← Nat.add_assoc] at hr;refine cm cx (K.ck 16 rfl rfl) ?_;refine ⟨ir16,K.dk 16 rfl rfl,rfl,?_⟩;refine cs_code cx ?_;refine lst_ok cx.c2 ?_;refine lst_ok cx.c2 ⟨?_,?_⟩
 ·rw [Ah]; exact lidlt (An (Nat.lt_succ_self _) (Aa (Af _ _) hr))
 have c2:Cx F (J.set F.t (.list (L.map In.av++[i.av]))) (L++[i]) b:=⟨cx.ok,by rw [List.map_append]; exact get_set cx.c2,cx.kp.trans Keep.self,by rw [Ac]; exact hr⟩;refine cs_code c2 ?_;refine lst_ok c2.c2 ?_;have:=h _ c2;rw [show (L.length:Int)=(((L++[i]).map In.av).length:Int)-1 by rw [Ah,Ac]; exact (Int.add_sub_cancel _ 1).symm] at this;exact this
theorem rev_at {ds:List Nat}{l d:Nat}(h:ds[l]?=some d)(hl:l<ds.length){Q:AV->Prop}(q:Q (.obj d)):optW (ixOf (((ds.reverse.map AV.obj).length:Int)-1-(0+(l:Int))) (ds.reverse.map AV.obj).length) fun k=>optW (ds.reverse.map AV.obj)[k]? Q:=by
 have h1:1<=ds.length:=Ao (Nat.zero_le _) hl;have h2:l<=ds.length-1:=Nat.le_pred_of_lt hl;have h3:ds.length-1-l<ds.length:=Ao (Nat.sub_le _ _) (Nat.sub_lt h1 (by decide));rw [Ah,List.length_reverse,show (ds.length:Int)-1-(0+(l:Int))=((ds.length-1-l:Nat):Int) by rw [Int.ofNat_sub h2,Int.ofNat_sub h1,Int.zero_add]; rfl];refine opt_ok (ix_nat h3) (opt_ok ?_ q);rw [List.getElem?_map,List.getElem?_reverse h3,Nat.sub_sub_self h2,h]; rfl
theorem findL_sp (K:Core T D){n so:Nat}{x:Tx}{kinds:List AV}{J:Store}{ds:List Nat}{sc:List Scope}(hn:1<=n)(hk:allTx kinds=true)(ss1:J[so]?=some (.list (ds.reverse.map AV.obj)))(ss2:Dicts J ds sc){QQ:QF}{XX:XS} :
  ∀ (m l:Nat) (e:Ev),l+m=ds.length->e 1=some (.str x)->e 2=some (.obj so)->e 3=some (.tup kinds)->
   (match findS x (sc.drop l) l with
    | some (l',w)=>(match memTx w.kind kinds with
     | true=>∀ e,QQ (.ret (.tup [.int l',w.av])) e J
     | false=>∀ e,XX e J)
    | Option.none=>∀ e,e 1=some (.str x)->QQ .next e J)->
   forW (tg1 4) (ssW T (callW T D n) ir18f0) ((List.range' l m).map fun (k:Nat)=>AV.int (0+(k:Int))) e J QQ XX:=by
 intro m
 induction m with
 | zero=>
  intro l e hl h1 h2 h3 h;rw [show sc.drop l=[] from List.drop_eq_nil_of_le (Nat.le_of_eq (ss2.len.symm.trans hl.symm))] at h;exact h e h1
 | succ m ih=>
  intro l e hl h1 h2 h3 h;cases hs:sc.drop l with
  | nil=>
   have:=List.drop_eq_nil_iff.mp hs;rw [← ss2.len,← hl] at this;exact absurd this (Nat.not_le_of_lt (Nat.lt_add_of_pos_right (Nat.succ_pos m)))
  | cons s rs=>
   obtain ⟨d,d1,d2,d3⟩:=ss2.get hs;rw [hs] at h;refine var_ok (e:=upd e 4 _) (i:=2) h2 ?_;refine var_ok (e:=upd e 4 _) (i:=2) h2 ?_;refine lst_ok ss1 ?_;refine lst_ok ss1 ?_;refine rev_at d1 d3 ?_;refine var_ok (e:=upd (upd e 4 _) 5 _) (i:=1) h1 ?_;refine in_dict d2 ?_;have h:(match (match lookS x s with
     | some e=>some (l,e)
     | Option.none=>findS x rs (l+1)) with
    | some (l',w)=>(match memTx w.kind kinds with
     | true=>∀ e,QQ (.ret (.tup [.int l',w.av])) e J
     | false=>∀ e,XX e J)
    | Option.none=>∀ e,e 1=some (.str x)->QQ .next e J):=h
   cases hx:lookS x s with
   | none=>
    rw [hx] at h;have e1:rs=sc.drop (l+1):=by rw [← List.tail_drop,hs]; rfl
    exact ih (l+1) _ ((Nat.succ_add_eq_add_succ l m).trans hl) h1 h2 h3 (e1▸h)
   | some w=>
    rw [hx] at h;have hw0:∀ {Q:AV->Prop},Q (.str w.kind)->idxW w.av (.int 0) J Q:=fun q=>by cases w<;>exact q
    refine var_ok (e:=upd (upd e 4 _) 5 _) (i:=1) h1 ?_;refine idx_dict d2 hx ?_;refine hw0 ?_;refine var_ok (e:=upd (upd e 4 _) 5 _) (i:=3) h3 ?_;refine grd_ok hk ?_;refine var_ok (e:=upd (upd e 4 _) 5 _) (i:=1) h1 ?_;refine ⟨K.ck 14 rfl rfl,?_⟩;refine need_sp K hn (fun hb=>?_) fun hb=>?_
    ·have h:(match memTx w.kind kinds with
      | true=>∀ e,QQ (.ret (.tup [.int l,w.av])) e J
      | false=>∀ e,XX e J):=h
     rw [hb] at h;refine var_ok (e:=upd (upd e 4 _) 5 _) (i:=1) h1 ?_;refine idx_dict d2 hx ?_;have q:∀ e,QQ (.ret (.tup [.int (0+(l:Int)),w.av])) e J:=(Int.zero_add (l:Int)).symm▸h;exact q _
    ·have h:(match memTx w.kind kinds with
      | true=>∀ e,QQ (.ret (.tup [.int l,w.av])) e J
      | false=>∀ e,XX e J):=h
     rw [hb] at h;exact h _
theorem range_items (n:Nat):itemsOf (.rng 0 (n:Int) 1)=some ((List.range' 0 n).map fun (k:Nat)=>AV.int (0+(k:Int))):=by
 show some (List.map AV.int ((List.range ((n:Int)-0).toNat).map fun (k:Nat)=>0+(k:Int)))=_;rw [List.map_map,List.range_eq_range',Int.sub_zero]; rfl
theorem find_sp (K:Core T D){n:Nat}{F:Fr}{x:Tx}{kinds:List AV}{J:Store}{L:List In}{b:List Nat}{Q:QV}{X:QX}(hn:2<=n)(hk:allTx kinds=true)(cx:Cx F J L b)
  (h:match findS x F.sc 0 with
    | some (l',w)=>(match memTx w.kind kinds with
     | true=>Q (.tup [.int l',w.av]) J
     | false=>X J)
    | Option.none=>X J):methW T 18 (.obj F.r) J fun r=>callW T D n 18 [.obj r,.str x,.obj F.so,.tup kinds] J Q X:=by
 obtain ⟨n,rfl⟩:=ge1 (Ap hn);refine cm cx (K.ck 18 rfl rfl) ?_;refine ⟨ir18,K.dk 18 rfl rfl,rfl,?_⟩;refine lst_ok cx.s1 ?_;rw [Ah,List.length_reverse];refine ⟨Aa cx.ok.ln (by decide),?_⟩;refine opt_ok (range_items _) ?_;refine findL_sp K (Am hn) hk cx.s1 cx.s2 F.ds.length 0 _ (Nat.zero_add _) rfl rfl rfl ?_;revert h;rw [List.drop_zero];cases findS x F.sc 0 with
 | none=>intro h e he; exact var_ok he h
 | some q=>
  show (match memTx q.2.kind kinds with
     | true=>Q (.tup [.int q.1,q.2.av]) J
     | false=>X J)->(match memTx q.2.kind kinds with
     | true=>∀ e:Ev,Q (.tup [.int q.1,q.2.av]) J
     | false=>∀ e:Ev,X J)
  cases memTx q.2.kind kinds
  ·exact fun h e=>h
  ·exact fun h e=>h
end
def CSp (F:Fr)(res:R (List In))(L:List In)(b:List Nat)(Q:QV)(X:QX):Prop:=match res with
 | .ok c=>∀ J',Cx F J' (L++c) b->Q .none J'
 | .err=>∀ J',X J'
 | .bot=>False
theorem CSp.ends {F:Fr}{L:List In}{b:List Nat}{Q:QV}{X:QX}:Ends (fun res=>CSp F res L b Q X) X:=⟨fun h=>h,fun h=>h⟩
theorem CSp.of {β:Type}{m:R (List In)}{f:List In->R β}{G:R β->Prop}{F:Fr}{L:List In}{b:List Nat}{Q:QV}{X:QX}(E:Ends G X)(h:G (m.bind f))
  (c:∀ q J',Cx F J' (L++q) b->G (f q)->Q .none J'):CSp F m L b Q X:=by
 cases m with
 | ok q=>exact fun J' h1=>c q J' h1 h
 | err=>exact E.err h
 | bot=>exact (E.bot h).elim
section
variable {T:Stat}{D:Nat->Option FDef}
noncomputable def kIR:List AV:=[.str kInt,.str kRef]
theorem addrN_sp (K:Core T D){n:Nat}{F:Fr}{x:Tx}{L:List In}{b:List Nat}{J:Store}{Q:QV}{X:QX}(hn:3<=n)(cx:Cx F J L (1::b))(h:CSp F (cAddrN F.sc x) L b Q X) :
  methW T 19 (.obj F.r) J fun r=>callW T D n 19 [.obj r,.tup [.str kName,.str x],.obj F.so] J Q X:=by
 obtain ⟨n,rfl⟩:=ge1 (Aa (by decide) hn);have hn:=Am hn;refine cm cx (K.ck 19 rfl rfl) ?_;refine ⟨ir19,K.dk 19 rfl rfl,rfl,?_⟩;refine find_sp K (kinds:=kIR) hn rfl cx ?_;unfold cAddrN at h;revert h;cases findS x F.sc 0 with
 | none=>exact fun h=>h _
 | some q=>
  cases q with | mk l w=>
  cases w with
  | var a=>intro h; refine emit_sp K (.lda l a) (Ap hn) cx ?_; exact h
  | ref a=>intro h; refine emit_sp K (.lod l a) (Ap hn) cx ?_; exact h
  | arr a z=>exact fun h=>h _
  | proc a z=>exact fun h=>h _
noncomputable def ops:List AV:=[.str wPlus,.str wMinus,.str wMul,.str wDiv,.str wMod,.str [61],.str [60,62],.str [60],.str [60,61],.str [62],.str [62,61]]
noncomputable def Ex.wf:Ex->Bool
 | .int _=>true | .name _=>true | .at _ e=>e.wf | .neg e=>e.wf | .odd e=>e.wf | .bin o a b=>memTx o ops&&a.wf&&b.wf
theorem mem_cases {x y:Tx}{r:List AV}(h:memTx x (.str y::r)=true):x=y∨memTx x r=true:=by
 rcases Bool.or_eq_true_iff.mp (show (txEq x y||memTx x r)=true from h) with h | h
 ·exact .inl (txEq_of h)
 ·exact .inr h
theorem ops_ne {o:Tx}(h:memTx o ops=true):txEq o kInt=false∧txEq o kName=false∧txEq o kAt=false:=by
 unfold ops at h
 iterate 11 (rcases mem_cases h with rfl | h; · exact ⟨rfl,rfl,rfl⟩)
 cases h
def VFn (T:Stat)(D:Nat->Option FDef)(e:Ex):Prop:=
 e.wf=true->∀ n,e.fu<=n->∀ F L b J Q X,Cx F J L (e.sz::b)->CSp F (cVal F.sc e) L b Q X->methW T 20 (.obj F.r) J fun r=>callW T D n 20 [.obj r,e.av,.obj F.so] J Q X
theorem fu2:∀ e:Ex,2<=e.fu
 | .int _=>Aj 2
 | .name _=>Nat.le_succ 2
 | .at _ e=>Aa (show 2<=3 by decide) (Aa (Nat.le_max_left _ _) (Nat.le_succ _))
 | .neg e=>Nat.le_succ_of_le (fu2 e)
 | .odd e=>Nat.le_succ_of_le (fu2 e)
 | .bin _ a b=>Nat.le_succ_of_le (Aa (fu2 a) (Nat.le_max_left _ _))
theorem addrAt_sp (K:Core T D){i:Ex}(hi:VFn T D i)(hw:i.wf=true){n:Nat}{F:Fr}{x:Tx}{L:List In}{b:List Nat}{J:Store}{Q:QV}{X:QX}(hn:max 3 (i.fu+1)<=n)(cx:Cx F J L ((i.sz+3)::b))(h:CSp F (cAt F.sc x (cVal F.sc i)) L b Q X) :
  methW T 19 (.obj F.r) J fun r=>callW T D n 19 [.obj r,.tup [.str kAt,.str x,i.av],.obj F.so] J Q X:=by
 obtain ⟨n,rfl⟩:=ge1 (Aa (by decide) (Nat.max_le.mp hn).1);have h2:=Am (Nat.max_le.mp hn).1;have h1:=Ap h2;refine cm cx (K.ck 19 rfl rfl) ?_;refine ⟨ir19,K.dk 19 rfl rfl,rfl,?_⟩;refine ⟨K.ck 14 rfl rfl,?_⟩;refine need_sp K h1 (fun _=>?_) fun q=>by cases q
 refine find_sp K (kinds:=[.str wArray]) h2 rfl cx ?_;unfold cAt at h;revert h;cases findS x F.sc 0 with
 | none=>exact fun h=>h _
 | some q=>
  cases q with | mk l w=>
  cases w with
  | arr a z=>
   intro h;refine hi hw n (Am (Nat.max_le.mp hn).2) F L (3::b) _ _ _ cx.sp (CSp.of CSp.ends h fun q J1 c1 h=>?_);refine emit_sp K (.chk z) h1 (c1.sp (x:=1) (y:=2)) fun J2 c2=>?_;refine emit_sp K (.lda l a) h1 (c2.sp (x:=1) (y:=1)) fun J3 c3=>?_;refine emit_sp K (.opr wPlus) h1 c3.j fun J4 c4=>?_;exact h _ c4.j.j
  | ref a=>exact fun h=>h _
  | var a=>exact fun h=>h _
  | proc a z=>exact fun h=>h _
theorem val_sp (K:Core T D):∀ e:Ex,VFn T D e:=by
 intro e
 induction e with
 | int m=>
  intro hw n hn F L b J Q X cx h;obtain ⟨n,rfl⟩:=ge1 (Ap hn);refine cm cx (K.ck 20 rfl rfl) ?_;refine ⟨ir20,K.dk 20 rfl rfl,rfl,?_⟩;refine emit_sp K (.lit m) (Am hn) cx ?_;exact h
 | name x=>
  intro hw n hn F L b J Q X cx h;obtain ⟨n,rfl⟩:=ge1 (Aa (show 1<=3 by decide) hn);have hn:=Am hn;have h1:=Ap hn;refine cm cx (K.ck 20 rfl rfl) ?_;refine ⟨ir20,K.dk 20 rfl rfl,rfl,?_⟩;refine find_sp K (kinds:=kIR) hn rfl cx ?_;have h:CSp F (cName F.sc x) L b Q X:=h;unfold cName at h;revert h;cases findS x F.sc 0 with
  | none=>exact fun h=>h _
  | some q=>
   cases q with | mk l w=>
   cases w with
   | var a=>intro h; refine emit_sp K (.lod l a) h1 (cx.pad (y:=1) (show 1<=2 by decide)) ?_; exact h
   | ref a=>
    intro h;refine emit_sp K (.lod l a) h1 (cx.sp (x:=1) (y:=1)) fun J1 c1=>?_;refine emit_sp K .ldi h1 c1 fun J2 c2=>?_;exact h _ c2.j
   | arr a z=>exact fun h=>h _
   | proc a z=>exact fun h=>h _
 | «at» x e ih=>
  intro hw n hn F L b J Q X cx h;obtain ⟨n,rfl⟩:=ge1 (Aa (Ar 1 _) hn);have hn:=Am hn;refine cm cx (K.ck 20 rfl rfl) ?_;refine ⟨ir20,K.dk 20 rfl rfl,rfl,?_⟩;refine addrAt_sp K ih hw hn (cx.sp (x:=e.sz+3) (y:=1)) (CSp.of CSp.ends h fun q J1 c1 h=>?_);refine emit_sp K .ldi (Aa (by decide) (Nat.max_le.mp hn).1) c1 fun J2 c2=>?_;exact h _ c2.j
 | neg e ih=>
  intro hw n hn F L b J Q X cx h;obtain ⟨n,rfl⟩:=ge1 (Aa (Ar 1 _) hn);have hn:=Am hn;refine cm cx (K.ck 20 rfl rfl) ?_;refine ⟨ir20,K.dk 20 rfl rfl,rfl,?_⟩;refine ⟨by decide,Int.ofNat_le.mpr (show 1<=2 by decide),?_⟩;refine ih hw n hn F _ _ _ _ _ (cx.sp (y:=1)) (CSp.of CSp.ends h fun q J1 c1 h=>?_);refine emit_sp K (.opr kNeg) (Aa (Ap (fu2 e)) hn) c1 fun J2 c2=>?_;exact h _ c2.j
 | odd e ih=>
  intro hw n hn F L b J Q X cx h;obtain ⟨n,rfl⟩:=ge1 (Aa (Ar 1 _) hn);have hn:=Am hn;refine cm cx (K.ck 20 rfl rfl) ?_;refine ⟨ir20,K.dk 20 rfl rfl,rfl,?_⟩;refine ⟨by decide,Int.ofNat_le.mpr (show 1<=2 by decide),?_⟩;refine ih hw n hn F _ _ _ _ _ (cx.sp (y:=1)) (CSp.of CSp.ends h fun q J1 c1 h=>?_);refine emit_sp K (.opr kOdd) (Aa (Ap (fu2 e)) hn) c1 fun J2 c2=>?_;exact h _ c2.j
 | bin o a b iha ihb=>
  intro hw n hn F L b' J Q X cx h;obtain ⟨n,rfl⟩:=ge1 (Aa (Ar 1 _) hn);have hn:=Nat.max_le.mp (Am hn);have hw:=Ab hw;have hw1:=Ab hw.1;obtain ⟨o1,o2,o3⟩:=ops_ne hw1.1;refine cm cx (K.ck 20 rfl rfl) ?_;refine ⟨ir20,K.dk 20 rfl rfl,rfl,?_⟩;refine if_f (b:=txEq o kInt) o1 ?_;refine if_f (b:=txEq o kName) o2 ?_;refine if_f (b:=txEq o kAt) o3 ?_;refine ⟨by decide,Int.ofNat_le.mpr (show 1<=3 by decide),?_⟩;refine iha hw1.2 n hn.1 F _ _ _ _ _ cx.sp (CSp.of CSp.ends h fun q J1 c1 h=>?_);refine ihb hw.2 n hn.2 F _ _ _ _ _ c1.sp (CSp.of CSp.ends h fun q' J2 c2 h=>?_);refine emit_sp K (.opr o) (Aa (Ap (fu2 a)) hn.1) c2.j fun J3 c3=>?_;exact h _ c3.j
end
noncomputable def St.wf:Bool->St->Bool
 | false,.empty=>true
 | false,.set _ e=>e.wf
 | false,.setAt _ i e=>i.wf&&e.wf
 | false,.call _ as=>as.all Ex.wf
 | false,.if1 c a=>c.wf&&a.wf false
 | false,.if2 c a b=>c.wf&&a.wf false&&b.wf false
 | false,.whl c a=>c.wf&&a.wf false
 | false,.rep s c=>s.wf true&&c.wf
 | false,.for _ a b _ s=>a.wf&&b.wf&&s.wf false
 | false,.beg s=>s.wf true
 | false,.write e=>e.wf
 | true,.one s=>s.wf false
 | true,.seq s r=>s.wf false&&r.wf true
 | _,_=>false
def LCSp (F:Fr)(res:R (List In))(L:List In)(b:List Nat)(xi:Nat)(e0:Ev)(QQ:QF)(XX:XS):Prop:=match res with
 | .ok c=>∀ e' J',(∀ i,i≠xi->e' i=e0 i)->Cx F J' (L++c) b->QQ .next e' J'
 | .err=>∀ e J',XX e J'
 | .bot=>False
theorem LCSp.ends {F:Fr}{L:List In}{b:List Nat}{xi:Nat}{e0 e:Ev}{QQ:QF}{XX:XS}:Ends (fun res=>LCSp F res L b xi e0 QQ XX) (XX e):=⟨fun h J'=>h e J',fun h=>h⟩
theorem LCSp.of {β:Type}{m:R (List In)}{f:List In->R β}{G:R β->Prop}{F:Fr}{L:List In}{b:List Nat}{xi:Nat}{e0:Ev}{QQ:QF}{XX:XS}(E:∀ e,Ends G (XX e))(h:G (m.bind f))
  (c:∀ q e' J',(∀ i,i≠xi->e' i=e0 i)->Cx F J' (L++q) b->G (f q)->QQ .next e' J'):LCSp F m L b xi e0 QQ XX:=by
 cases m with
 | ok q=>exact fun e' J' h0 h1=>c q e' J' h0 h1 h
 | err=>exact fun e=>(E e).err h
 | bot=>exact ((E (fun _=>Option.none)).bot h).elim
section
variable {T:Stat}{D:Nat->Option FDef}
theorem addr_sp (K:Core T D){e:Ex}(hw:e.wf=true){n:Nat}{F:Fr}{L:List In}{b:List Nat}{J:Store}{Q:QV}{X:QX}(hn:e.fu<=n)(h3:3<=n)(cx:Cx F J L (e.sz::b))(h:CSp F (cAddr F.sc e) L b Q X) :
  methW T 19 (.obj F.r) J fun r=>callW T D n 19 [.obj r,e.av,.obj F.so] J Q X:=by
 obtain ⟨m,rfl⟩:=ge1 (Aa (by decide) h3);have hm:1<=m:=Ap (Am h3);cases e with
 | name x=>exact addrN_sp K h3 (cx.pad (y:=1) (show 1<=2 by decide)) h
 | «at» x e=>exact addrAt_sp K (val_sp K e) hw (Ap hn) (cx.pad (Nat.le_succ _)) h
 | bin o x y=>
  obtain ⟨o1,o2,o3⟩:=ops_ne (Ab (Ab hw).1).1;refine cm cx (K.ck 19 rfl rfl) ?_;refine ⟨ir19,K.dk 19 rfl rfl,rfl,?_⟩;refine if_f (b:=txEq o kName) o2 ?_;refine ⟨K.ck 14 rfl rfl,?_⟩;exact need_sp K hm (fun q=>Bool.noConfusion (o3.symm.trans q)) fun _=>h _
 | _=>
  refine cm cx (K.ck 19 rfl rfl) ?_;refine ⟨ir19,K.dk 19 rfl rfl,rfl,?_⟩;refine ⟨K.ck 14 rfl rfl,?_⟩;exact need_sp K hm (fun q=>Bool.noConfusion q) fun _=>h _
theorem set_mid {α:Type}{v x:α}{M:List α}:∀ A:List α,(A++x::M).set A.length v=A++v::M
 | []=>rfl
 | a::A=>congrArg (a::·) (set_mid A)
theorem patch_sp {F:Fr}{A M:List In}{x v:In}{b:List Nat}{J:Store}{P:QX}{k:Nat}(cx:Cx F J (A++x::M) b)(hk:k=A.length)(h:∀ J',Cx F J' (A++v::M) b->P J'):setIdxW (.obj F.t) (.int k) v.av J P:=by
 subst hk;refine lst_ok cx.c2 ?_;refine opt_ok (ix_nat (by rw [Ah,Ac]; exact Nat.lt_add_of_pos_right (Nat.succ_pos _))) ?_;refine h _ ⟨cx.ok,?_,cx.kp.trans Keep.self,by have:=cx.rm; rw [Ac] at this ⊢; exact this⟩;rw [get_set cx.c2,List.map_append,List.map_append,← Ah (as:=A) In.av];exact congrArg (fun l=>some (MO.list l)) (set_mid _)
theorem drop_at {α:Type}{l:List α}{j:Nat}{x:α}{r:List α}(h:l.drop j=x::r):j<l.length∧l[j]?=some x∧l.drop (j+1)=r:=by
 have h1:j<l.length:=by
  apply Nat.lt_of_not_le; intro q; rw [List.drop_eq_nil_of_le q] at h; cases h
 have h2:(l.drop j)[0]?=some x:=by rw [h]; rfl
 rw [List.getElem?_drop] at h2;have h3:l.drop (j+1)=(l.drop j).drop 1:=by rw [List.drop_drop]
 exact ⟨h1,h2,by rw [h3,h]; rfl⟩
theorem tup_at {α:Type}{f:α->AV}{l:List α}{j:Nat}{x:α}{r:List α}{J:Store}{P:AV->Prop}(h:l.drop j=x::r)(p:P (f x)):idxW (.tup (l.map f)) (.int (0+(j:Int))) J P:=by
 obtain ⟨h1,h2,_⟩:=drop_at h;rw [Int.zero_add];exact opt_ok (ix_nat (by rw [Ah]; exact h1)) (opt_ok (by rw [List.getElem?_map,h2]; rfl) p)
theorem unm {f r:Nat}{J:Store}{P:Nat->Prop}(h:methW T f (.obj r) J P):P r:=by
 unfold methW at h;obtain ⟨r',c,fs,h1,_,_,h4⟩:=h;cases h1; exact h4
theorem args_sp (K:Core T D){n:Nat}{F:Fr}{as:List Ex}{q:List (Tx×Bool)}{e0:Tx}{L0:AV}{p:AV}{QQ:QF}{XX:XS}(h3:3<=n){b:List Nat} :
  ∀ (as':List Ex) (q':List (Tx×Bool)) (j:Nat) (L:List In) (e:Ev) (J:Store),as.drop j=as'->q.drop j=q'->q'.length=as'.length->as'.all Ex.wf=true->fus as'<=n->Cx F J L (szs as'::b)->
   e 0=some (.obj F.r)->e 1=some (.tup [.str sCall,.str e0,.tup (as.map Ex.av)])->e 2=some (.obj F.so)->e 6=some (.tup [L0,p,.tup (q.map qAv)])->
   LCSp F (cArgs F.sc (q'.map (·.2)) as') L b 7 e QQ XX->∀ m,m=as'.length->
   forW (tg1 7) (ssW T (callW T D n) ir21f0) ((List.range' j m).map fun (k:Nat)=>AV.int (0+(k:Int))) e J QQ XX:=by
 intro as'
 induction as' with
 | nil=>
  intro q' j L e J ea eq hl hw hn cx h0 h1 h2 h6 h m hm;subst hm;cases q' with
  | nil=>exact h e J (fun _ _=>rfl) (by rw [List.append_nil]; exact ⟨cx.ok,cx.c2,cx.kp,by have:=cx.rm; rw [List.sum_cons] at this; exact (Nat.zero_add b.sum)▸this⟩)
  | cons=>cases hl
 | cons a as' ih=>
  intro q' j L e J ea eq hl hw hn cx h0 h1 h2 h6 h m hm;subst hm;cases q' with
  | nil=>cases hl
  | cons qa q'=>
   have hw:=Ab hw;have hn:=Nat.max_le.mp hn;have next:∀ c J1,Cx F J1 (L++c) (szs as'::b)->LCSp F ((cArgs F.sc (q'.map (·.2)) as').bind fun d=>.ok (c++d)) L b 7 e QQ XX->forW (tg1 7) (ssW T (callW T D n) ir21f0) ((List.range' (j+1) as'.length).map fun (k:Nat)=>AV.int (0+(k:Int))) (upd e 7 (.int (0+(j:Int)))) J1 QQ XX:=fun c J1 c1 h=>
    ih q' (j+1) (L++c) (upd e 7 (.int (0+(j:Int)))) J1 (drop_at ea).2.2 (drop_at eq).2.2 (Nat.succ.inj hl) hw.2 hn.2 c1 h0 h1 h2 h6 (LCSp.of (fun e=>LCSp.ends) h fun d e' J' he c₂ h=>h e' J' (fun i hi=>(he i hi).trans (upd_ne i hi)) c₂.j) _ rfl
   refine var_ok (e:=upd e 7 _) (i:=6) h6 ?_;refine tup_at (f:=qAv) (J:=J) eq ?_;obtain ⟨y,v⟩:=qa;cases v with
   | true=>
    refine var_ok (e:=upd e 7 _) (i:=0) h0 ?_;refine cm cx (K.ck 19 rfl rfl) ?_;refine var_ok (e:=upd e 7 _) (i:=1) h1 ?_;refine tup_at (f:=Ex.av) (J:=J) ea ?_;refine var_ok (e:=upd e 7 _) (i:=2) h2 ?_;refine unm (addr_sp K hw.1 hn.1 h3 cx.sp (CSp.of LCSp.ends h fun c J1 c1 h=>?_));exact next c J1 c1 h
   | false=>
    refine var_ok (e:=upd e 7 _) (i:=0) h0 ?_;refine cm cx (K.ck 20 rfl rfl) ?_;refine var_ok (e:=upd e 7 _) (i:=1) h1 ?_;refine tup_at (f:=Ex.av) (J:=J) ea ?_;refine var_ok (e:=upd e 7 _) (i:=2) h2 ?_;refine unm (val_sp K a hw.1 n hn.1 F _ _ _ _ _ cx.sp (CSp.of LCSp.ends h fun c J1 c1 h=>?_));exact next c J1 c1 h
end
section
variable {T:Stat}{D:Nat->Option FDef}
structure FoOk (F:Fr)(fo f:Nat):Prop where
 ne:fo≠F.t
 at_:F.b[fo]?=some (.list [.int f])
def SFn (T:Stat)(D:Nat->Option FDef)(s:St):Prop:=s.wf false=true->∀ n,s.fu<=n->∀ F fo f L p b J Q X,FoOk F fo f->L.length=p->Cx F J L (s.sz::b)->
 CSp F (cStmt F.sc f p s) L b Q X->methW T 21 (.obj F.r) J fun r=>callW T D n 21 [.obj r,s.av,.obj F.so,.obj fo] J Q X
noncomputable def rowBody (xi fi:Nat):Ss:=(.cons (.expr (.meth (.v 0) 21 (.cons (.v xi) (.cons (.v 2) (.cons (.v fi) .nil))))) .nil)
def RwFn (T:Stat)(D:Nat->Option FDef)(s:St):Prop:=s.wf true=true->∀ n,s.fu<=n->∀ F fo f L p b J e xi fi QQ XX,FoOk F fo f->L.length=p->Cx F J L (s.sz::b)->
 e 0=some (.obj F.r)->e 2=some (.obj F.so)->e fi=some (.obj fo)->xi≠0->xi≠2->xi≠fi->LCSp F (cStmt F.sc f p s) L b xi e QQ XX->forW (tg1 xi) (ssW T (callW T D n) (rowBody xi fi)) s.row e J QQ XX
theorem ln {α:Type}{L v:List α}{p:Nat}(h:L.length=p):(L++v).length=p+v.length:=by rw [Ac,h]
theorem ln3 {α:Type}{L v s:List α}{x:α}{p:Nat}(h:L.length=p):(L++(v++[x]++s)).length=p+v.length+1+s.length:=by
 rw [← Ae,← Ae]; exact ln (ln (ln h))
theorem Cx.zero {F:Fr}{J:Store}{L:List In}{b:List Nat}(h:Cx F J L (0::b)):Cx F J L b:=⟨h.ok,h.c2,h.kp,by have:=h.rm; rw [List.sum_cons,Nat.zero_add] at this; exact this⟩
theorem Cx.i {F:Fr}{J:Store}{L a c:List In}{x:In}{b:List Nat}(h:Cx F J (L++(a++[x]++c)) b):Cx F J (L++a++x::c) b:=by
 rw [Ae a,← Ae] at h; exact h
theorem Cx.o {F:Fr}{J:Store}{L a c:List In}{x:In}{b:List Nat}(h:Cx F J (L++a++x::c) b):Cx F J (L++(a++[x]++c)) b:=by
 rw [Ae a,← Ae]; exact h
theorem Cx.eq {F:Fr}{J:Store}{L L':List In}{b:List Nat}(h:Cx F J L b)(e:L=L'):Cx F J L' b:=e▸h
theorem Cx.to {F:Fr}{J:Store}{L:List In}{x y:Nat}{b:List Nat}{f:Nat->List In}(h:Cx F J (f x) b)(e:x=y):Cx F J (f y) b:=e▸h
theorem st_set (K:Core T D)(x:Tx)(e:Ex):SFn T D (.set x e):=by
 intro hw n hn F fo f L p b J Q X hf hp cx h;obtain ⟨n,rfl⟩:=ge1 (Aa (Ar 1 _) hn);have hn:=Nat.max_le.mp (Am hn);have h3:=Ap hn.1;refine cm cx (K.ck 21 rfl rfl) ?_;refine ⟨ir21,K.dk 21 rfl rfl,rfl,?_⟩;refine cm cx (K.ck 19 rfl rfl) ?_;refine none_t ?_;refine unm (addrN_sp K h3 cx.sp (CSp.of CSp.ends h fun u J1 c1 h=>?_));refine val_sp K e hw n hn.2 F _ _ _ _ _ c1.sp (CSp.of CSp.ends h fun v J2 c2 h=>?_);refine emit_sp K .sti (Aa (by decide) h3) c2.j fun J3 c3=>?_;exact h _ c3.j
theorem isN {i:Ex}{Q:Bool->Prop}(q:Q false):noneW i.av Q:=by unfold noneW; cases i<;>exact q
theorem isnN {s:St}(h:s.wf false=true){Q:Bool->Prop}(q:Q false):noneW s.av Q:=by unfold noneW; cases s<;>first | exact q | (cases h)
theorem st_setAt (K:Core T D)(x:Tx)(i e:Ex):SFn T D (.setAt x i e):=by
 intro hw n hn F fo f L p b J Q X hf hp cx h;obtain ⟨n,rfl⟩:=ge1 (Aa (Ar 1 _) hn);have hn:=Nat.max_le.mp (Am hn);have hw:=Ab hw;refine cm cx (K.ck 21 rfl rfl) ?_;refine ⟨ir21,K.dk 21 rfl rfl,rfl,?_⟩;refine cm cx (K.ck 19 rfl rfl) ?_;refine isN ?_;refine unm (addrAt_sp K (val_sp K i) hw.1 hn.1 cx.sp (CSp.of CSp.ends h fun u J1 c1 h=>?_));refine val_sp K e hw.2 n hn.2 F _ _ _ _ _ c1.sp (CSp.of CSp.ends h fun v J2 c2 h=>?_);refine emit_sp K .sti (Aa (by decide) (Nat.max_le.mp hn.1).1) c2.j fun J3 c3=>?_;exact h _ c3.j
theorem st_write (K:Core T D)(e:Ex):SFn T D (.write e):=by
 intro hw n hn F fo f L p b J Q X hf hp cx h;obtain ⟨n,rfl⟩:=ge1 (Aa (Ar 1 _) hn);have hn:=Am hn;refine cm cx (K.ck 21 rfl rfl) ?_;refine ⟨ir21,K.dk 21 rfl rfl,rfl,?_⟩;refine val_sp K e hw n hn F _ _ _ _ _ (cx.sp (y:=1)) (CSp.of CSp.ends h fun v J1 c1 h=>?_);refine emit_sp K .wrt (Aa (Ap (fu2 e)) hn) c1 fun J2 c2=>?_;exact h _ c2.j
theorem st_empty (K:Core T D):SFn T D .empty:=by
 intro hw n hn F fo f L p b J Q X hf hp cx h;obtain ⟨n,rfl⟩:=ge1 hn;refine cm cx (K.ck 21 rfl rfl) ?_;refine ⟨ir21,K.dk 21 rfl rfl,rfl,?_⟩;exact h _ ((List.append_nil L).symm▸cx.zero)
theorem fus3:∀ as:List Ex,3<=fus as
 | []=>Aj 3
 | e::r=>Aa (fus3 r) (Nat.le_max_right _ _)
theorem szs_len:∀ as:List Ex,as.length<=szs as
 | []=>Aj 0
 | e::r=>Aa (Aq (szs_len r) (show 1<=e.sz by cases e<;>exact Ar 1 _)) (Nat.le_of_eq (Nat.add_comm _ _))
theorem st_call (K:Core T D)(x:Tx)(as:List Ex):SFn T D (.call x as):=by
 intro hw n hn F fo f L p b J Q X hf hp cx h;obtain ⟨n,rfl⟩:=ge1 (Aa (Ar 1 _) hn);have hn:=Am hn;have h3:=Aa (fus3 as) hn;have h1:1<=n:=Aa (by decide) h3;refine cm cx (K.ck 21 rfl rfl) ?_;refine ⟨ir21,K.dk 21 rfl rfl,rfl,?_⟩;refine find_sp K (kinds:=[.str kProc]) (Ap h3) rfl cx ?_;have h:CSp F (match findS x F.sc 0 with
  | some (l,.proc a q)=>(match Nat.beq q.length as.length with
   | true=>(cArgs F.sc (q.map Prod.snd) as).bind fun c=>R.ok (c++[In.tick,In.cal l a as.length])
   | false=>R.err)
  | _=>R.err) L b Q X:=h
 revert h;cases findS x F.sc 0 with
 | none=>exact fun h=>h _
 | some q=>
  cases q with | mk l w=>
  cases w with
  | proc a q=>
   intro h;have h:CSp F (match Nat.beq q.length as.length with
    | true=>(cArgs F.sc (q.map Prod.snd) as).bind fun c=>R.ok (c++[In.tick,In.cal l a as.length])
    | false=>R.err) L b Q X:=h
   refine ⟨K.ck 14 rfl rfl,?_⟩;refine need_sp K h1 (fun hb=>?_) fun hb=>?_
   ·have hq:q.length=as.length:=by
     have:=Int.ofNat.inj (Ax hb); rw [Ah,Ah] at this; exact this
    rw [hq,Nat.beq_refl] at h;have hl:as.length<=lid:=Aa (szs_len as) (Aa (Aa (by rw [List.sum_cons]; exact Aa (Af _ _) (Ar _ _)) cx.sp.rm) (by decide));refine ⟨(Ah (as:=as) Ex.av).symm▸hl,?_⟩;refine opt_ok (range_items _) ?_;refine args_sp K (e0:=x) (L0:=.str kProc) (p:=.int a) h3 as q 0 L _ J rfl rfl hq hw hn cx.sp rfl rfl rfl rfl ?_ _ (Ah _);refine LCSp.of (fun e=>CSp.ends) h fun d e' J1 he c1 h=>?_;have g0:=he 0 (by decide);have g1:=he 1 (by decide);have g5:=he 5 (by decide);have g6:=he 6 (by decide);refine var_ok g0 ?_;refine emit_sp K .tick h1 (c1.sp (x:=1) (y:=1)) fun J2 c2=>?_;refine var_ok g0 ?_;refine cm c2 (K.ck 16 rfl rfl) ?_;refine var_ok g5 ?_;refine var_ok g6 ?_;refine var_ok g1 ?_;refine unm (emit_sp K (.cal l a (as.map Ex.av).length) h1 c2 fun J3 c3=>?_);rw [Ah] at c3;exact h _ c3.j.j
   ·have hq:Nat.beq q.length as.length=false:=Bool.eq_false_iff.mpr fun e=>by
     have e:=As e;rw [Ah,Ah,e] at hb;exact absurd hb (by rw [decide_eq_true rfl]; decide)
    rw [hq] at h;exact h _
  | _=>exact fun h=>h _
theorem st_if1 (K:Core T D)(c:Ex)(a:St)(ha:SFn T D a):SFn T D (.if1 c a):=by
 intro hw n hn F fo f L p b J Q X hf hp cx h;obtain ⟨n,rfl⟩:=ge1 (Aa (Ar 1 _) hn);have hn:=Nat.max_le.mp (Am hn);have hw:=Ab hw;have h1:=Aa (Ap (fu2 c)) hn.1;refine cm cx (K.ck 21 rfl rfl) ?_;refine ⟨ir21,K.dk 21 rfl rfl,rfl,?_⟩;refine val_sp K c hw.1 n hn.1 F _ _ _ _ _ cx.sp (CSp.of CSp.ends h fun v J1 c1 h=>?_);refine emit_sp K .jpx h1 c1.sp fun J2 c₂=>?_;refine ha hw.2 n hn.2 F fo f _ _ _ _ _ _ hf (ln (ln hp)) c₂ (CSp.of CSp.ends h fun s J3 c3 h=>?_);refine none_t ?_;refine cs_code c3 ?_;refine lst_ok c3.c2 ?_;refine cs_code c3 ?_;refine patch_sp (A:=L++v) (v:=.jpc ((L++v++[In.jpx]++s).map In.av).length) c3.j rfl fun J4 c4=>?_;rw [Ah,ln (ln (ln hp))] at c4;exact h _ c4.o
theorem st_if2 (K:Core T D)(c:Ex)(a b:St)(ha:SFn T D a)(hb:SFn T D b):SFn T D (.if2 c a b):=by
 intro hw n hn F fo f L p b' J Q X hf hp cx h;obtain ⟨n,rfl⟩:=ge1 (Aa (Ar 1 _) hn);have hn:=Nat.max_le.mp (Am hn);have hn2:=Nat.max_le.mp hn.2;have hw:=Ab hw;have hw1:=Ab hw.1;have h1:=Aa (Ap (fu2 c)) hn.1;refine cm cx (K.ck 21 rfl rfl) ?_;refine ⟨ir21,K.dk 21 rfl rfl,rfl,?_⟩;refine val_sp K c hw1.1 n hn.1 F _ _ _ _ _ cx.sp (CSp.of CSp.ends h fun v J1 c1 h=>?_);refine emit_sp K .jpx h1 c1.sp fun J2 c₂=>?_;refine ha hw1.2 n hn2.1 F fo f _ _ _ _ _ _ hf (ln (ln hp)) c₂.sp (CSp.of CSp.ends h fun s J3 c3 h=>?_);refine isnN hw.2 ?_;refine emit_sp K .jmx h1 c3.sp fun J4 c4=>?_;refine cs_code c4 ?_;refine lst_ok c4.c2 ?_;refine cs_code c4 ?_;refine patch_sp (A:=L++v) (x:=.jpx) (M:=s++[.jmx]) (v:=.jpc ((L++v++[In.jpx]++s++[In.jmx]).map In.av).length) (by rw [Ae,Ae] at c4; exact c4) rfl fun J5 c5=>?_;rw [Ah,ln (ln (ln (ln hp)))] at c5;have c5:Cx F J5 (L++(v++[In.jpc (p+v.length+1+s.length+1)]++s)++[In.jmx]) (b.sz::b'):=by
  rw [← Ae,← Ae,Ae (L++v),Ae (L++v)]; exact c5
 refine hb hw.2 n hn2.2 F fo f _ _ _ _ _ _ hf (ln (v:=[In.jmx]) (ln3 hp)) c5 (CSp.of CSp.ends h fun u J6 c6 h=>?_);refine cs_code c6 ?_;refine lst_ok c6.c2 ?_;refine cs_code c6 ?_;refine patch_sp (A:=L++(v++[In.jpc (p+v.length+1+s.length+1)]++s)) (x:=.jmx) (M:=u) (v:=.jmp ((L++(v++[In.jpc (p+v.length+1+s.length+1)]++s)++[In.jmx]++u).map In.av).length) c6.j ((ln (ln (ln hp))).trans (ln3 hp).symm) fun J7 c7=>?_;rw [Ah,ln (ln (v:=[In.jmx]) (ln3 hp))] at c7;exact h _ c7.o
end
section
variable {T:Stat}{D:Nat->Option FDef}
theorem st_whl (K:Core T D)(c:Ex)(a:St)(ha:SFn T D a):SFn T D (.whl c a):=by
 intro hw n hn F fo f L p b J Q X hf hp cx h;obtain ⟨n,rfl⟩:=ge1 (Aa (Ar 1 _) hn);have hn:=Nat.max_le.mp (Am hn);have hw:=Ab hw;have h1:=Aa (Ap (fu2 c)) hn.1;refine cm cx (K.ck 21 rfl rfl) ?_;refine ⟨ir21,K.dk 21 rfl rfl,rfl,?_⟩;refine cs_code cx ?_;refine lst_ok cx.c2 ?_;refine val_sp K c hw.1 n hn.1 F _ _ _ _ _ cx.sp (CSp.of CSp.ends h fun v J1 c1 h=>?_);refine emit_sp K .tick h1 (c1.sp.sp (x:=1) (y:=1)) fun J2 c₂=>?_;refine emit_sp K .jpx h1 c₂ fun J3 c3=>?_;refine ha hw.2 n hn.2 F fo f _ _ _ _ _ _ hf (ln (v:=[In.jpx]) (ln (v:=[In.tick]) (ln hp))) c3.sp (CSp.of CSp.ends h fun s J4 c4 h=>?_);refine emit_sp K (.jmp (L.map In.av).length) h1 c4 fun J5 c5=>?_;refine cs_code c5 ?_;refine lst_ok c5.c2 ?_;refine cs_code c5 ?_;refine patch_sp (A:=L++v++[In.tick]) (x:=.jpx) (M:=s++[In.jmp (L.map In.av).length]) (v:=.jpc ((L++v++[In.tick]++[In.jpx]++s++[In.jmp (L.map In.av).length]).map In.av).length) (c5.eq (by simp only [Ae,List.cons_append,List.nil_append])) rfl fun J6 c6=>?_;rw [Ah,Ah,hp,ln (ln (ln (ln (ln hp))))] at c6;exact h _ (c6.eq (by simp only [Ae,List.cons_append,List.nil_append]; rfl))
theorem st_rep (K:Core T D)(s:St)(c:Ex)(hs:RwFn T D s):SFn T D (.rep s c):=by
 intro hw n hn F fo f L p b J Q X hf hp cx h;obtain ⟨n,rfl⟩:=ge1 (Aa (Ar 1 _) hn);have hn:=Nat.max_le.mp (Am hn);have hw:=Ab hw;have h1:=Aa (Ap (fu2 c)) hn.2;refine cm cx (K.ck 21 rfl rfl) ?_;refine ⟨ir21,K.dk 21 rfl rfl,rfl,?_⟩;refine cs_code cx ?_;refine lst_ok cx.c2 ?_;refine hs hw.1 n hn.1 F fo f L p _ J _ 10 3 _ _ hf hp cx.sp rfl rfl rfl (by decide) (by decide) (by decide) ?_;refine LCSp.of (fun e=>CSp.ends) h fun d e' J1 he c1 h=>?_;have g0:=he 0 (by decide);have g1:=he 1 (by decide);have g2:=he 2 (by decide);have g9:=he 9 (by decide);refine var_ok g0 ?_;refine cm c1 (K.ck 20 rfl rfl) ?_;refine var_ok g1 ?_;refine var_ok g2 ?_;refine unm (val_sp K c hw.2 n hn.2 F _ _ _ _ _ c1.sp (CSp.of CSp.ends h fun v J2 c₂ h=>?_));refine var_ok g0 ?_;refine emit_sp K .tick h1 (c₂.sp (x:=1) (y:=1)) fun J3 c3=>?_;refine var_ok g0 ?_;refine cm c3 (K.ck 16 rfl rfl) ?_;refine var_ok g9 ?_;refine unm (emit_sp K (.jpc (L.map In.av).length) h1 c3 fun J4 c4=>?_);rw [Ah,hp] at c4;exact h _ (c4.eq (by simp only [Ae,List.cons_append,List.nil_append]))
theorem st_beg (K:Core T D)(s:St)(hs:RwFn T D s):SFn T D (.beg s):=by
 intro hw n hn F fo f L p b J Q X hf hp cx h;obtain ⟨n,rfl⟩:=ge1 (Aa (Ar 1 _) hn);refine cm cx (K.ck 21 rfl rfl) ?_;refine ⟨ir21,K.dk 21 rfl rfl,rfl,?_⟩;refine hs hw n (Am hn) F fo f L p _ J _ 10 3 _ _ hf hp cx rfl rfl rfl (by decide) (by decide) (by decide) ?_;have h:CSp F (cStmt F.sc f p s) L b Q X:=h;revert h;unfold LCSp CSp;cases cStmt F.sc f p s with
 | ok c=>intro h e' J' he c1; exact h _ c1
 | err=>intro h e J'; exact h _
 | bot=>exact id
theorem upd_self {e:Ev}{i:Nat}{v:AV}:upd e i v i=some v:=by
 show cond (Nat.beq i i) _ _=_;rw [Nat.beq_refl]; rfl
theorem rowBody_sp (K:Core T D){s:St}(hs:SFn T D s)(hw:s.wf false=true){n:Nat}{F:Fr}{fo f p:Nat}{L:List In}{b:List Nat}{J:Store}{e:Ev}{xi fi:Nat}{QQ:QF}{XX:XS}{r:List AV}{β:Type}{G:R β->Prop}{k:List In->R β}(hn:s.fu<=n)(hf:FoOk F fo f)(hp:L.length=p)(cx:Cx F J L (s.sz::b))
  (h0:e 0=some (.obj F.r)) (h2:e 2=some (.obj F.so)) (hfi:e fi=some (.obj fo)) (hx0:xi≠0) (hx2:xi≠2) (hxf:xi≠fi) (E:∀ e,Ends G (XX e)) (h:G ((cStmt F.sc f p s).bind k))
  (c:∀ q J',Cx F J' (L++q) b->G (k q)->forW (tg1 xi) (ssW T (callW T D n) (rowBody xi fi)) r (upd e xi s.av) J' QQ XX):forW (tg1 xi) (ssW T (callW T D n) (rowBody xi fi)) (s.av::r) e J QQ XX:=by
 refine var_ok ((upd_ne 0 (Ne.symm hx0)).trans h0) ?_;refine cm cx (K.ck 21 rfl rfl) ?_;refine var_ok upd_self ?_;refine var_ok ((upd_ne 2 (Ne.symm hx2)).trans h2) ?_;refine var_ok ((upd_ne fi (Ne.symm hxf)).trans hfi) ?_;refine unm (hs hw n hn F fo f L p b _ _ _ hf hp cx (CSp.of (E _) h fun q J1 c1 h=>?_));exact c q J1 c1 h
theorem row_one (K:Core T D)(s:St)(hs:SFn T D s):RwFn T D (.one s):=by
 intro hw n hn F fo f L p b J e xi fi QQ XX hf hp cx h0 h2 hfi hx0 hx2 hxf h;have h':LCSp F ((cStmt F.sc f p s).bind .ok) L b xi e QQ XX:=by
  have h:LCSp F (cStmt F.sc f p s) L b xi e QQ XX:=h;revert h;cases cStmt F.sc f p s<;>exact id
 exact rowBody_sp K hs hw hn hf hp cx h0 h2 hfi hx0 hx2 hxf (fun e=>LCSp.ends) h' fun q J1 c1 h=>h _ _ upd_ne c1
theorem row_seq (K:Core T D)(s q:St)(hs:SFn T D s)(hr:RwFn T D q):RwFn T D (.seq s q):=by
 intro hw n hn F fo f L p b J e xi fi QQ XX hf hp cx h0 h2 hfi hx0 hx2 hxf h;have hw:=Ab hw;have hn:=Nat.max_le.mp hn;refine rowBody_sp K hs hw.1 hn.1 hf hp cx.sp h0 h2 hfi hx0 hx2 hxf (fun e=>LCSp.ends) h fun c J1 c1 h=>?_;refine hr hw.2 n hn.2 F fo f _ _ _ _ _ xi fi _ _ hf (ln hp) c1 ((upd_ne 0 (Ne.symm hx0)).trans h0) ((upd_ne 2 (Ne.symm hx2)).trans h2) ((upd_ne fi (Ne.symm hxf)).trans hfi) hx0 hx2 hxf ?_;exact LCSp.of (fun e=>LCSp.ends) h fun d e' J2 he c2 h=>h _ _ (fun i hi=>(he i hi).trans (upd_ne i hi)) c2.j
theorem Dicts.setF {J:Store}{fo:Nat}{M:List AV}{m:MO}(hfo:J[fo]?=some (.list M)):∀ {ds:List Nat} {sc:List Scope},Dicts J ds sc->Dicts (J.set fo m) ds sc
 | [],[],_=>trivial
 | d::ds,s::sc,h=>⟨(List.getElem?_set_ne (by rintro rfl; have:=hfo.symm.trans h.1; cases this)).trans h.1,Dicts.setF hfo h.2⟩
 | [],_::_,h=>h.elim
 | _::_,[],h=>h.elim
theorem so_ne {F:Fr}{J:Store}{L:List In}{b:List Nat}{fo:Nat}{f:Int}(h:Cx F J L b)(h2:J[fo]?=some (.list [.int f])):fo≠F.so:=by
 rintro rfl;have:=h.s1.symm.trans h2;cases hd:F.ds.reverse with
 | nil=>rw [hd] at this; cases this
 | cons d r=>rw [hd] at this; cases this
theorem Cx.turn {F:Fr}{J:Store}{L:List In}{b:List Nat}{fo:Nat}{f g:Int}(h:Cx F J L b)(hf:fo≠F.t)(hfo:J[fo]?=some (.list [.int f])):Cx { F with b:=J.set fo (.list [.int g]) } (J.set fo (.list [.int g])) L b:=by
 have ht:(J.set fo (.list [.int g]))[F.t]?=some (.list (L.map In.av)):=(List.getElem?_set_ne hf).trans h.c2;have hr:fo≠F.r:=fun e=>by have:=(e▸h.c1).symm.trans hfo; cases this
 exact ⟨⟨⟨_,ht⟩,(List.getElem?_set_ne hr).trans h.c1,(List.getElem?_set_ne (so_ne h hfo)).trans h.s1,h.s2.setF hfo,h.ok.n2,h.ok.ln⟩,ht,Keep.refl _ _,h.rm⟩
theorem Cx.back {F:Fr}{J J':Store}{L L':List In}{b b':List Nat}{fo:Nat}{f g:Int}(h:Cx F J L b)(hf:fo≠F.t)(hfo:F.b[fo]?=some (.list [.int f]))(h':Cx { F with b:=J.set fo (.list [.int g]) } J' L' b'):Cx F (J'.set fo (.list [.int f])) L' b':=by
 have hl:=(Ai hfo).1;have l1:=h'.kp.1;rw [List.length_set] at l1;refine ⟨h.ok,(List.getElem?_set_ne hf).trans h'.c2,⟨by rw [List.length_set]; exact Aa h.kp.1 l1,fun i hi hlt=>?_⟩,h'.rm⟩;have hs:i<J.length:=An hlt h.kp.1;by_cases e:i=fo
 ·subst e;rw [List.getElem?_set_self (An hs l1),hfo]
 ·rw [List.getElem?_set_ne (Ne.symm e),h'.kp.2 i hi (by rw [List.length_set]; exact hs),List.getElem?_set_ne (Ne.symm e),h.kp.2 i hi hlt]
theorem idx0 {J:Store}{fo:Nat}{f:Int}{P:AV->Prop}(h:J[fo]?=some (.list [.int f]))(p:P (.int f)):idxW (.obj fo) (.int 0) J P:=lst_ok h p
theorem set0 {J:Store}{fo:Nat}{f g g':Int}{P:QX}(h:J[fo]?=some (.list [.int f]))(e:g=g')(p:P (J.set fo (.list [.int g']))):setIdxW (.obj fo) (.int 0) (.int g) J P:=lst_ok h (e▸p)
theorem emitO_sp (K:Core T D){n:Nat}{F:Fr}(up:Bool)(a c:Tx){L:List In}{b:List Nat}{J:Store}{Q:QV}{X:QX}(hn:1<=n)(cx:Cx F J L (1::b))
  (h:∀ J',Cx F J' (L++[.opr (cond up a c)]) b->Q (.int L.length) J'):methW T 16 (.obj F.r) J fun r=>ifW (.bool up) (callW T D n 16 [.obj r,.tup [.str iOpr,.str a]] J Q X) (callW T D n 16 [.obj r,.tup [.str iOpr,.str c]] J Q X):=by
 cases up
 ·exact emit_sp K (.opr c) hn cx h
 ·exact emit_sp K (.opr a) hn cx h
theorem patchJ_sp {F:Fr}{A M:List In}{x:In}{b:List Nat}{J:Store}{P:QX}{k N N':Nat}(g:Nat->In)(hN:N=N')(cx:Cx F J (A++x::M) b)(hk:k=A.length)(h:∀ J',Cx F J' (A++g N'::M) b->P J'):setIdxW (.obj F.t) (.int k) (g N).av J P:=by
 subst hN; exact patch_sp cx hk h
theorem CSp.got {F:Fr}{res:R (List In)}{L w:List In}{b:List Nat}{Q:QV}{X:QX}(hx:res=.ok w)(h:∀ J',Cx F J' (L++w) b->Q .none J'):CSp F res L b Q X:=by rw [hx]; exact h
noncomputable def forCode (p f:Nat)(up:Bool)(u v w t:List In):List In:=
 let top:=p+u.length+v.length;let k:=top+5+w.length+2+t.length+5
 u++v++[.tick,.lod 0 f,.lod 0 (f+1),.opr (cond up [60,61] [62,61]),.jpc k]++w++[.lod 0 f,.sti]++t++[.lod 0 f,.lit 1,.opr (cond up [43] [45]),.sto 0 f,.jmp top,.jpc (k+1),.jpc (k+2)]
theorem st_for (K:Core T D)(x:Tx)(a b:Ex)(up:Bool)(s:St)(hs:SFn T D s):SFn T D (.for x a b up s):=by
 intro hw n hn F fo f L p b' J Q X hf hp cx h;obtain ⟨n,rfl⟩:=ge1 (Aa (Ar 1 _) hn);have hn:=Nat.max_le.mp (Am hn);have hn1:=Nat.max_le.mp hn.1;have hn2:=Nat.max_le.mp hn.2;have h3:=Ap hn1.1;have h1:1<=n:=Aa (by decide) h3;have hw:=Ab hw;have hw1:=Ab hw.1;refine cm cx (K.ck 21 rfl rfl) ?_;refine ⟨ir21,K.dk 21 rfl rfl,rfl,?_⟩;refine find_sp K (kinds:=kIR) (Ap h3) rfl cx ?_;have h:CSp F ((cAddrN F.sc x).bind fun w=>(cVal F.sc a).bind fun u=>(cVal F.sc b).bind fun v=>(cStmt F.sc (f+2) (p+u.length+v.length+5+w.length+2) s).bind fun t=>.ok (forCode p f up u v w t)) L b' Q X:=h;cases hx:cAddrN F.sc x with
 | bot=>rw [hx] at h; exact h.elim
 | err=>
  rw [hx] at h;unfold cAddrN at hx;revert hx;rcases findS x F.sc 0 with _ | ⟨l,_ | _ | _ | _⟩<;>intro hx<;>first | exact h _ | (cases hx)
 | ok w=>
 rw [hx] at h;obtain ⟨l,w',hfx,hmx,hw1'⟩:∃ l w',findS x F.sc 0=some (l,w')∧memTx w'.kind kIR=true∧w.length=1:=by
  unfold cAddrN at hx;revert hx;rcases findS x F.sc 0 with _ | ⟨l,_ | _ | _ | _⟩<;>intro hx<;>cases hx<;>exact ⟨_,_,rfl,rfl,rfl⟩
 rw [hfx];show (match memTx w'.kind kIR with
  | true=>_
  | false=>_)
 rw [hmx];refine val_sp K a hw1.1 n hn2.1 F _ _ _ _ _ cx.sp (CSp.of CSp.ends h fun u J1 c1 h=>?_);refine val_sp K b hw1.2 n hn2.2 F _ _ _ _ _ c1.sp (CSp.of CSp.ends h fun v J2 c₂ h=>?_);have f2:=c₂.kp.get hf.ne hf.at_;refine idx0 f2 ?_;refine idx0 f2 ?_;refine set0 (g':=((f+2:Nat):Int)) f2 rfl ?_;have c3:=c₂.turn (g:=((f+2:Nat):Int)) hf.ne f2;have hf3:FoOk { F with b:=J2.set fo (.list [.int ((f+2:Nat):Int)]) } fo (f+2):=⟨hf.ne,get_set f2⟩;refine (cs_code c3 ?_ :);refine lst_ok c3.c2 ?_;refine (emit_sp K .tick h1 (c3.sp.sp (x:=1) (y:=5)) fun J4 c4=>?_ :);refine (emit_sp K (.lod 0 f) h1 (c4.sp (x:=1) (y:=4)) fun J5 c5=>?_ :);refine (emit_sp K (.lod 0 (f+1)) h1 (c5.j.sp (x:=1) (y:=3)) fun J6 c6=>?_ :);refine (emitO_sp K up [60,61] [62,61] h1 (c6.j.sp (x:=1) (y:=2)) fun J7 c7=>?_ :);refine (emit_sp K .jpx h1 (c7.j.sp (x:=1) (y:=1)) fun J8 c8=>?_ :);refine (addrN_sp K h3 c8.j (CSp.got hx fun J9 c9=>?_) :);refine (emit_sp K (.lod 0 f) h1 (c9.sp.sp (x:=1) (y:=1)) fun Ja ca=>?_ :);refine (emit_sp K .sti h1 ca fun Jb cb=>?_ :);refine (hs hw.2 n hn1.2 _ fo (f+2) _ (p+u.length+v.length+5+w.length+2) _ _ _ _ hf3 (ln (v:=[In.sti]) (ln (v:=[In.lod 0 f]) (ln (ln (ln (ln hp)))))) cb.sp (CSp.of CSp.ends h fun t Jc cc h=>?_) :);refine (emit_sp K (.lod 0 f) h1 (cc.sp (x:=1) (y:=6)) fun Jd cd=>?_ :);refine (emit_sp K (.lit 1) h1 (cd.sp (x:=1) (y:=5)) fun Je ce=>?_ :);refine (emitO_sp K up [43] [45] h1 (ce.j.sp (x:=1) (y:=4)) fun Jf cf=>?_ :);refine (emit_sp K (.sto 0 f) h1 (cf.j.sp (x:=1) (y:=3)) fun Jg cg=>?_ :);refine (emit_sp K (.jmp ((L++u++v).map In.av).length) h1 (cg.j.sp (x:=1) (y:=2)) fun Jh ch=>?_ :);refine (cs_code ch ?_ :);refine lst_ok ch.c2 ?_;refine (cs_code ch ?_ :);have e1:_=p+u.length+v.length+5+w.length+2+t.length+5:=(Ah In.av).trans (ln (v:=[In.jmp ((L++u++v).map In.av).length]) (ln (v:=[In.lod 0 f,.lit 1,.opr (cond up [43] [45]),.sto 0 f]) (ln (v:=t) (ln (v:=[In.sti]) (ln (v:=[In.lod 0 f]) (ln (v:=w) (ln (v:=[In.tick,.lod 0 f,.lod 0 (f+1),.opr (cond up [60,61] [62,61]),.jpx]) (ln (v:=v) (ln (v:=u) hp)))))))));refine (patchJ_sp .jpc e1 (A:=L++u++v++[.tick,.lod 0 f,.lod 0 (f+1),.opr (cond up [60,61] [62,61])]) (x:=.jpx) (M:=w++([.lod 0 f,.sti]++(t++[.lod 0 f,.lit 1,.opr (cond up [43] [45]),.sto 0 f,.jmp ((L++u++v).map In.av).length]))) (ch.eq (by simp only [Ae,List.cons_append,List.nil_append])) rfl fun Ji ci=>?_ :);have f9:=ci.kp.get hf.ne hf3.at_;refine idx0 f9 ?_;refine set0 (g':=(f:Int)) f9 (show ((f:Int)+2)-2=(f:Int) from Int.add_sub_cancel _ 2) ?_;have cj:=c₂.back hf.ne hf.at_ ci;refine cs_code cj ?_;refine lst_ok cj.c2 ?_;refine emit_sp K (.jpc (_+1)) h1 (cj.sp (x:=1) (y:=1)) fun Jk ck=>?_;refine emit_sp K (.jpc (_+2)) h1 ck fun Jl cl=>?_;have e2:∀ N,((L++u++v++[In.tick,.lod 0 f,.lod 0 (f+1),.opr (cond up [60,61] [62,61])]++In.jpc N::(w++([.lod 0 f,.sti]++(t++[.lod 0 f,.lit 1,.opr (cond up [43] [45]),.sto 0 f,.jmp ((L++u++v).map In.av).length])))).map In.av).length=p+u.length+v.length+5+w.length+2+t.length+5:=fun N=>by
  simp only [Ah,Ac,List.length_cons,List.length_nil,hp];lia
 rw [e2,Ah,ln (ln hp)] at cl;exact h _ (cl.eq (by unfold forCode; simp only [Ae,List.cons_append,List.nil_append]))
theorem stmt_all (K:Core T D)(s:St):SFn T D s∧RwFn T D s:=by
 have no:∀ s:St,s.wf true=false->RwFn T D s:=fun s h hw=>by rw [h] at hw; cases hw
 induction s with
 | empty=>exact ⟨st_empty K,no _ rfl⟩
 | set x e=>exact ⟨st_set K x e,no _ rfl⟩
 | setAt x i e=>exact ⟨st_setAt K x i e,no _ rfl⟩
 | call x as=>exact ⟨st_call K x as,no _ rfl⟩
 | if1 c a ih=>exact ⟨st_if1 K c a ih.1,no _ rfl⟩
 | if2 c a b iha ihb=>exact ⟨st_if2 K c a b iha.1 ihb.1,no _ rfl⟩
 | whl c a ih=>exact ⟨st_whl K c a ih.1,no _ rfl⟩
 | rep s c ih=>exact ⟨st_rep K s c ih.2,no _ rfl⟩
 | «for» x a b up s ih=>exact ⟨st_for K x a b up s ih.1,no _ rfl⟩
 | beg s ih=>exact ⟨st_beg K s ih.2,no _ rfl⟩
 | write e=>exact ⟨st_write K e,no _ rfl⟩
 | one s ih=>exact ⟨(fun hw=>by cases hw),row_one K s ih.1⟩
 | seq s r ihs ihr=>exact ⟨(fun hw=>by cases hw),row_seq K s r ihs.1 ihr.2⟩
end
noncomputable def noDup (seen:List AV):List AV->Bool
 | .str x::r=>!memTx x seen&&noDup (seen++[.str x]) r
 | _=>true
noncomputable def pEnt (s:Scope)(a:Nat):List (Tx×Bool)->Scope×Nat
 | []=>(s,a)
 | (x,v)::r=>pEnt (putS x (match v with
  | true=>.ref a
  | false=>.var a) s) (a+1) r
noncomputable def vEnt (s:Scope)(a:Nat):List (Tx×Option Nat)->R (Scope×Nat)
 | []=>.ok (s,a)
 | (x,Option.none)::r=>vEnt (putS x (.var a) s) (a+1) r
 | (x,some z)::r=>match Nat.ble 1 z with
  | true=>vEnt (putS x (.arr a z) s) (a+z) r
  | false=>.err
noncomputable def fst1 {α:Type}:List (Tx×α)->List AV
 | []=>[]
 | x::r=>.str x.1::fst1 r
noncomputable def Bl.names:Bl->List AV
 | .proc x _ _ r=>.str x::r.names
 | _=>[]
noncomputable def intIf (n:Nat):List In:=match n with
 | 0=>[]
 | n+1=>[.int (n+1)]
mutual
noncomputable def cBlock (sc:List Scope)(p:Nat)(params:List (Tx×Bool)):Bl->R (List In)
 | .mk vs ps ss=>match noDup [] (fst1 params++fst1 vs++ps.names) with
  | false=>.err
  | true=>(vEnt (pEnt [] 3 params).1 (pEnt [] 3 params).2 vs).bind fun w=>
   (cProcs sc w.1 (p+1) ps).bind fun c=>
   (cStmt (c.2::sc) w.2 (p+1+c.1.length+(intIf (w.2-(pEnt [] 3 params).2)).length) ss).bind fun d=>.ok ([.jmp (p+1+c.1.length)]++c.1++intIf (w.2-(pEnt [] 3 params).2)++d++[.ret])
 | _=>.bot
noncomputable def cProcs (sc:List Scope)(s:Scope)(p:Nat):Bl->R (List In×Scope)
 | .proc x q b r=>(cBlock (putS x (.proc p q) s::sc) p q b).bind fun c=>
   (cProcs sc (putS x (.proc p q) s) (p+c.length) r).bind fun d=>.ok (c++d.1,d.2)
 | .nil=>.ok ([],s)
 | .mk ..=>.bot
end
noncomputable def Bl.sz:Bl->Nat
 | .mk vs ps ss=>vs.length+(1+(ps.sz+(1+(ss.sz+1))))
 | .proc _ q b r=>(q.length+b.sz)+(1+r.sz)
 | .nil=>0
noncomputable def Bl.fu:Bl->Nat
 | .mk vs ps ss=>max (max 1 ps.fu) ss.fu+1
 | .proc _ q b r=>max b.fu r.fu
 | .nil=>0
noncomputable def Bl.wf:Bool->Bl->Bool
 | false,.mk vs ps ss=>ps.wf true&&ss.wf true
 | true,.proc _ q b r=>b.wf false&&r.wf true
 | true,.nil=>true
 | _,_=>false
theorem picks_q:∀ q:List (Tx×Bool),picks 2 0 (q.map qAv)=some (fst1 q)
 | []=>rfl
 | x::r=>by
  show (picks 2 0 (r.map qAv)).map _=_;rw [picks_q r]; rfl
theorem picks_v:∀ q:List (Tx×Option Nat),picks 2 0 (q.map vAv)=some (fst1 q)
 | []=>rfl
 | x::r=>by
  show (picks 2 0 (r.map vAv)).map _=_;rw [picks_v r]; rfl
theorem picks_p:∀ b:Bl,b.wf true=true->picks 3 0 b.procs=some b.names
 | .mk ..,h=>by cases h
 | .nil,_=>rfl
 | .proc x q b r,h=>by
  show (picks 3 0 r.procs).map _=_;rw [picks_p r (Ab h).2]; rfl
theorem names_len:∀ b:Bl,b.names.length<=b.sz
 | .mk ..=>Nat.zero_le _
 | .nil=>Nat.zero_le _
 | .proc x q b r=>Aa (Au (names_len r)) (Aa (Nat.le_of_eq (Nat.add_comm _ 1)) (Ar _ _))
theorem fst1_len {α:Type}:∀ q:List (Tx×α),(fst1 q).length=q.length
 | []=>rfl
 | x::r=>congrArg Nat.succ (fst1_len r)
theorem allTx_cons {x:AV}{l:List AV}(h:allTx (x::l)=true):(∃ y,x=.str y)∧allTx l=true:=by
 cases x<;>first | exact ⟨⟨_,rfl⟩,h⟩ | (cases h)
theorem allTx_app:∀ {a b:List AV},allTx a=true->allTx b=true->allTx (a++b)=true
 | [],_,_,h=>h
 | x::a,b,h,h'=>by obtain ⟨⟨y,rfl⟩,h2⟩:=allTx_cons h; exact allTx_app (a:=a) h2 h'
theorem all_fst {α:Type}:∀ q:List (Tx×α),allTx (fst1 q)=true
 | []=>rfl
 | x::r=>all_fst r
theorem all_names:∀ b:Bl,allTx b.names=true
 | .mk ..=>rfl
 | .nil=>rfl
 | .proc x q b r=>all_names r
theorem allTx_take:∀ {l:List AV} (j:Nat),allTx l=true->allTx (l.take j)=true
 | [],_,_=>by rw [List.take_nil]; rfl
 | x::l,0,h=>rfl
 | x::l,j+1,h=>by obtain ⟨⟨y,rfl⟩,h2⟩:=allTx_cons h; exact allTx_take (l:=l) j h2
theorem allTx_drop:∀ {l:List AV} {j:Nat} {x:AV} {r:List AV},allTx l=true->l.drop j=x::r->∃ y,x=.str y
 | x::l,0,_,_,h,e=>by cases e; exact (allTx_cons h).1
 | x::l,j+1,_,_,h,e=>allTx_drop (l:=l) (j:=j) (allTx_cons h).2 e
 | [],j,_,_,_,e=>by rw [List.drop_nil] at e; cases e
theorem pEnt_len:∀ (q:List (Tx×Bool)) (s:Scope) (a:Nat),(pEnt s a q).1.length<=s.length+q.length
 | [],s,a=>Aj _
 | (x,v)::r,s,a=>Aa (pEnt_len r _ _) (Aa (Al (putS_len x _ s) _) (Nat.le_of_eq (Aw _ 1 _)))
theorem vEnt_len:∀ (q:List (Tx×Option Nat)) (s:Scope) (a:Nat) (w:Scope×Nat),vEnt s a q=.ok w->a<=w.2∧w.1.length<=s.length+q.length
 | [],s,a,w,h=>by cases h; exact ⟨Aj _,Aj _⟩
 | (x,Option.none)::r,s,a,w,h=>by
  obtain ⟨h1,h2⟩:=vEnt_len r _ _ w h;exact ⟨Ap h1,Aa h2 (Aa (Al (putS_len x _ s) _) (Nat.le_of_eq (Aw _ 1 _)))⟩
 | (x,some z)::r,s,a,w,h=>by
  have h:(match Nat.ble 1 z with
   | true=>vEnt (putS x (.arr a z) s) (a+z) r
   | false=>.err)=R.ok w:=h
  revert h;cases Nat.ble 1 z<;>intro h
  ·cases h
  ·obtain ⟨h1,h2⟩:=vEnt_len r _ _ w h;exact ⟨Aa (Af _ _) h1,Aa h2 (Aa (Al (putS_len x _ s) _) (Nat.le_of_eq (Aw _ 1 _)))⟩
section
variable {T:Stat}{D:Nat->Option FDef}
theorem memL_ok {J:Store}{r:Nat}{l:List AV}{x:Tx}{P:Bool->Prop}(h:J[r]?=some (.list l))(ht:allTx l=true)(q:P (memTx x l)):memO x r J P:=by
 unfold memO; exact .inl ⟨_,h,ht,q⟩
theorem dupL_sp (K:Core T D){n o:Nat}{l:List AV}(hn:1<=n)(hl:allTx l=true){J₀:Store}{QQ:QF}{XX:XS} :
  ∀ (r:List AV) (j:Nat) (e:Ev) (J:Store),l.drop j=r->e 7=some (.obj o)->J[o]?=some (.list l)->Ext J₀ J->
   (match noDup (l.take j) r with
    | true=>∀ e' J',(∀ i,i≠8->e' i=e i)->Ext J₀ J'->QQ .next e' J'
    | false=>∀ e J,XX e J)->
   forW (tg1 8) (ssW T (callW T D n) ir17f4) ((List.range' j r.length).map fun (k:Nat)=>AV.int (0+(k:Int))) e J QQ XX:=by
 intro r
 induction r with
 | nil=>intro j e J hj h7 ho hx h; exact h e J (fun _ _=>rfl) hx
 | cons x r ih=>
  intro j e J hj h7 ho hx h;obtain ⟨y,rfl⟩:=allTx_drop hl hj;obtain ⟨d1,d2,d3⟩:=drop_at hj;refine var_ok (e:=upd e 8 _) (i:=7) h7 ?_;refine lst_ok ho ?_;refine opt_ok (by rw [Int.zero_add]; exact ix_nat d1) ?_;refine opt_ok d2 ?_;refine var_ok (e:=upd e 8 _) (i:=7) h7 ?_;refine lst_ok ho ?_;refine opt_ok (o:=loOf Option.none) (a:=0) rfl ?_;refine opt_ok (o:=hiOf l.length (some (.int (0+(j:Int))))) (a:=j) (by rw [Int.zero_add]; rfl) ?_;refine memL_ok get_top (allTx_take j hl) ?_;refine ⟨K.ck 14 rfl rfl,?_⟩;have h:(match (!memTx y (l.take j)&&noDup (l.take j++[.str y]) r) with
    | true=>∀ e' J',(∀ i,i≠8->e' i=e i)->Ext J₀ J'->QQ .next e' J'
    | false=>∀ e J,XX e J):=h
  refine need_sp K hn (fun hb=>?_) fun hb=>?_
  ·rw [show (!memTx y (l.take j))=true from hb] at h;have et:l.take (j+1)=l.take j++[.str y]:=by rw [List.take_succ,d2]; rfl
   rw [← et] at h;refine ih (j+1) _ _ d3 h7 (get_push ho) hx.push ?_;revert h;show (match noDup (l.take (j+1)) r with
    | true=>∀ e' J',(∀ i,i≠8->e' i=e i)->Ext J₀ J'->QQ .next e' J'
    | false=>∀ e J,XX e J)->_
   cases noDup (l.take (j+1)) r with
   | true=>intro h e' J' he hx'; exact h e' J' (fun i hi=>(he i hi).trans (upd_ne i hi)) hx'
   | false=>exact id
  ·rw [show (!memTx y (l.take j))=false from hb] at h;exact h _ _
theorem dict_set {J:Store}{d:Nat}{s:Scope}{x:Tx}{w:Sc}{P:QX}(hd:J[d]?=some (.dict (encS s)))(hl:s.length<lid)(h:P (J.set d (.dict (encS (putS x w s))))):setIdxW (.obj d) (.str x) w.av J P:=by
 refine dct_ok hd ⟨?_,?_⟩
 ·unfold encS; rw [Ah]; exact hl
 ·rw [putS_enc]; exact h
theorem parL_sp {C:Calls}{d:Nat}{QQ:QF}{XX:XS}:∀ (q:List (Tx×Bool)) (s:Scope) (a:Nat) (e:Ev) (J:Store),e 9=some (.obj d)->e 10=some (.int a)->J[d]?=some (.dict (encS s))->s.length+q.length<lid->
  (∀ e' J',(∀ i,i≠10->i≠11->i≠12->e' i=e i)->e' 10=some (.int (pEnt s a q).2)->J'[d]?=some (.dict (encS (pEnt s a q).1))->Keep d J J'->QQ .next e' J')->
  forW (tgT [11,12]) (ssW T C ir17f3) (q.map qAv) e J QQ XX:=by
 intro q
 induction q with
 | nil=>intro s a e J h9 h10 hd hl h; exact h e J (fun _ _ _ _=>rfl) h10 hd (Keep.refl _ _)
 | cons x q ih=>
  intro s a e J h9 h10 hd hl h;obtain ⟨x,v⟩:=x;have hl':∀ w,(putS x w s).length+q.length<lid:=fun w=>Ao (Aa (Al (putS_len x w s) _) (Nat.le_of_eq (Aw _ 1 _))) hl;have hs:s.length<lid:=Ao (Af _ _) hl;have he3:∀ (a b c:AV) i,i≠10->i≠11->i≠12->upd (upd (upd e 11 a) 12 b) 10 c i=e i:=fun a b c i h0 h1 h2=>(upd_ne i h0).trans ((upd_ne i h2).trans (upd_ne i h1));cases v with
  | true=>
   refine var_ok (e:=upd (upd e 11 (.str x)) 12 (.bool true)) (i:=10) h10 ?_;refine var_ok (e:=upd (upd e 11 (.str x)) 12 (.bool true)) (i:=9) h9 ?_;refine dict_set (w:=.ref a) hd hs ?_;refine var_ok (e:=upd (upd e 11 (.str x)) 12 (.bool true)) (i:=10) h10 ?_;exact ih (putS x (.ref a) s) (a+1) (upd (upd (upd e 11 (.str x)) 12 (.bool true)) 10 (.int (a+1:Nat))) _ h9 rfl (get_set hd) (hl' _) fun e' J' he h10' hd' k'=>h e' J' (fun i h0 h1 h2=>(he i h0 h1 h2).trans (he3 _ _ _ i h0 h1 h2)) h10' hd' (Keep.self.trans k')
  | false=>
   refine var_ok (e:=upd (upd e 11 (.str x)) 12 (.bool false)) (i:=10) h10 ?_;refine var_ok (e:=upd (upd e 11 (.str x)) 12 (.bool false)) (i:=9) h9 ?_;refine dict_set (w:=.var a) hd hs ?_;refine var_ok (e:=upd (upd e 11 (.str x)) 12 (.bool false)) (i:=10) h10 ?_;exact ih (putS x (.var a) s) (a+1) (upd (upd (upd e 11 (.str x)) 12 (.bool false)) 10 (.int (a+1:Nat))) _ h9 rfl (get_set hd) (hl' _) fun e' J' he h10' hd' k'=>h e' J' (fun i h0 h1 h2=>(he i h0 h1 h2).trans (he3 _ _ _ i h0 h1 h2)) h10' hd' (Keep.self.trans k')
theorem varL_sp (K:Core T D){n d:Nat}(hn:1<=n){QQ:QF}{XX:XS}:∀ (q:List (Tx×Option Nat)) (s:Scope) (a:Nat) (e:Ev) (J:Store),e 9=some (.obj d)->e 10=some (.int a)->J[d]?=some (.dict (encS s))->s.length+q.length<lid->
  (match vEnt s a q with
   | .ok w=>∀ e' J',(∀ i,i≠10->i≠11->i≠14->e' i=e i)->e' 10=some (.int w.2)->J'[d]?=some (.dict (encS w.1))->Keep d J J'->QQ .next e' J'
   | .err=>∀ e J,XX e J
   | .bot=>False)->
  forW (tgT [11,14]) (ssW T (callW T D n) ir17f2) (q.map vAv) e J QQ XX:=by
 intro q
 induction q with
 | nil=>intro s a e J h9 h10 hd hl h; exact h e J (fun _ _ _ _=>rfl) h10 hd (Keep.refl _ _)
 | cons x q ih=>
  intro s a e J h9 h10 hd hl h;obtain ⟨x,v⟩:=x;have hs:s.length<lid:=Ao (Af _ _) hl;have go:∀ (w:Sc) (v c:AV) (a':Nat),c=.int a'->(match vEnt (putS x w s) a' q with
   | .ok w=>∀ e' J',(∀ i,i≠10->i≠11->i≠14->e' i=e i)->e' 10=some (.int w.2)->J'[d]?=some (.dict (encS w.1))->Keep d J J'->QQ .next e' J'
   | .err=>∀ e J,XX e J
   | .bot=>False)->forW (tgT [11,14]) (ssW T (callW T D n) ir17f2) (q.map vAv) (upd (upd (upd e 11 (.str x)) 14 v) 10 c) (J.set d (.dict (encS (putS x w s)))) QQ XX:=by
   intro w v c a' hc h;subst hc;refine ih (putS x w s) a' (upd (upd (upd e 11 (.str x)) 14 v) 10 (.int a')) _ h9 rfl (get_set hd) (Ao (Aa (Al (putS_len x w s) _) (Nat.le_of_eq (Aw _ 1 _))) hl) ?_;revert h;cases vEnt (putS x w s) a' q with
   | ok w'=>exact fun h e' J' he' h10' hd' k'=>h e' J' (fun i h0 h1 h2=>(he' i h0 h1 h2).trans ((upd_ne i h0).trans ((upd_ne i h2).trans (upd_ne i h1)))) h10' hd' (Keep.self.trans k')
   | err=>exact id
   | bot=>exact id
  cases v with
  | none=>
   refine none_t ?_;refine ⟨K.ck 14 rfl rfl,?_⟩;refine need_sp K hn (fun _=>?_) fun q=>Bool.noConfusion q;refine none_t ?_;refine var_ok (e:=upd (upd e 11 (.str x)) 14 .none) (i:=10) h10 ?_;refine var_ok (e:=upd (upd e 11 (.str x)) 14 .none) (i:=9) h9 ?_;refine dict_set (w:=.var a) hd hs ?_;refine var_ok (e:=upd (upd e 11 (.str x)) 14 .none) (i:=10) h10 ?_;refine none_t ?_;exact go (.var a) _ _ (a+1) rfl h
  | some z=>
   have h:(match (match Nat.ble 1 z with
     | true=>vEnt (putS x (.arr a z) s) (a+z) q
     | false=>.err) with
    | .ok w=>∀ e' J',(∀ i,i≠10->i≠11->i≠14->e' i=e i)->e' 10=some (.int w.2)->J'[d]?=some (.dict (encS w.1))->Keep d J J'->QQ .next e' J'
    | .err=>∀ e J,XX e J
    | .bot=>False):=h
   refine none_i ?_;refine ⟨K.ck 14 rfl rfl,?_⟩;refine need_sp K hn (fun hb=>?_) fun hb=>?_
   ·rw [Nat.ble_eq_true_of_le (Int.ofNat_le.mp (Ax hb))] at h;refine none_i ?_;refine var_ok (e:=upd (upd e 11 (.str x)) 14 (.int z)) (i:=10) h10 ?_;refine var_ok (e:=upd (upd e 11 (.str x)) 14 (.int z)) (i:=9) h9 ?_;refine dict_set (w:=.arr a z) hd hs ?_;refine var_ok (e:=upd (upd e 11 (.str x)) 14 (.int z)) (i:=10) h10 ?_;refine none_i ?_;exact go (.arr a z) _ _ (a+z) rfl h
   ·rw [show Nat.ble 1 z=false from Bool.eq_false_iff.mpr fun q=>of_decide_eq_false hb (Int.ofNat_le.mpr (Ad q))] at h;exact h _ _
end
def Keep2 (t d:Nat)(J J':Store):Prop:=J.length<=J'.length∧∀ i,i≠t->i≠d->i<J.length->J'[i]?=J[i]?
theorem Keep2.refl (t d:Nat)(J:Store):Keep2 t d J J:=⟨Aj _,fun _ _ _ _=>rfl⟩
theorem Keep2.trans {t d:Nat}{a b c:Store}(h:Keep2 t d a b)(h':Keep2 t d b c):Keep2 t d a c:=
 ⟨Aa h.1 h'.1,fun i hi hj hl=>by rw [h'.2 i hi hj (An hl h.1),h.2 i hi hj hl]⟩
theorem Keep.to2 {t d:Nat}{a b:Store}(h:Keep t a b):Keep2 t d a b:=⟨h.1,fun i hi _ hl=>h.2 i hi hl⟩
theorem Keep.to2' {t d:Nat}{a b:Store}(h:Keep d a b):Keep2 t d a b:=⟨h.1,fun i _ hi hl=>h.2 i hi hl⟩
theorem Keep2.back {t d:Nat}{J J1 J2:Store}(h:Keep t J J1)(hd:J.length<=d)(k:Keep2 t d J1 J2):Keep t J J2:=
 ⟨Aa h.1 k.1,fun i hi hl=>by rw [k.2 i hi (Nat.ne_of_lt (An hl hd)) (An hl h.1),h.2 i hi hl]⟩
theorem Dicts.mono {J J':Store}:∀ {ds:List Nat} {sc:List Scope},(∀ d∈ds,∀ s,J[d]?=some (.dict s)->J'[d]?=some (.dict s))->Dicts J ds sc->Dicts J' ds sc
 | [],[],_,_=>trivial
 | d::ds,s::sc,k,h=>⟨k d List.mem_cons_self _ h.1,Dicts.mono (fun d hd=>k d (List.mem_cons_of_mem _ hd)) h.2⟩
 | [],_::_,_,h=>h.elim
 | _::_,[],_,h=>h.elim
theorem Cx.turnD {r t so d:Nat}{ds:List Nat}{s s':Scope}{sc:List Scope}{β J J':Store}{L:List In}{b:List Nat}(h:Cx ⟨r,t,so,d::ds,s::sc,β⟩ J L b)(hd:d∉ds)(k:Keep d J J')(h':J'[d]?=some (.dict (encS s'))):Cx ⟨r,t,so,d::ds,s'::sc,J'⟩ J' L b:=by
 have hdd:J[d]?=some (.dict (encS s)):=h.s2.1;have h1:r≠d:=by rintro rfl; have:=hdd.symm.trans h.c1; cases this
 have h2:t≠d:=by rintro rfl; have:=hdd.symm.trans h.c2; cases this
 have h3:so≠d:=by rintro rfl; have:=hdd.symm.trans h.s1; cases this
 have c2:=k.get h2 h.c2;exact ⟨⟨⟨_,c2⟩,k.get h1 h.c1,k.get h3 h.s1,⟨h',Dicts.mono (fun d' hd' s hs=>k.get (by rintro rfl; exact hd hd') hs) h.s2.2⟩,h.ok.n2,h.ok.ln⟩,c2,Keep.refl _ _,h.rm⟩
theorem Cx.now {F:Fr}{J:Store}{L:List In}{b:List Nat}(h:Cx F J L b):Cx { F with b:=J } J L b:=⟨⟨⟨_,h.c2⟩,h.c1,h.s1,h.s2,h.ok.n2,h.ok.ln⟩,h.c2,Keep.refl _ _,h.rm⟩
def BSp (F:Fr)(res:R (List In))(L:List In)(b:List Nat)(Q:QV)(X:QX):Prop:=match res with
 | .ok c=>∀ J' (k:Int),Cx F J' (L++c) b->Q (.int k) J'
 | .err=>∀ J',X J'
 | .bot=>False
theorem BSp.ends {F:Fr}{L:List In}{b:List Nat}{Q:QV}{X:QX}:Ends (fun res=>BSp F res L b Q X) X:=⟨fun h=>h,fun h=>h⟩
theorem BSp.of {β:Type}{m:R (List In)}{f:List In->R β}{G:R β->Prop}{F:Fr}{L:List In}{b:List Nat}{Q:QV}{X:QX}(E:Ends G X)(h:G (m.bind f))
  (c:∀ q J' (k:Int),Cx F J' (L++q) b->G (f q)->Q (.int k) J'):BSp F m L b Q X:=by
 cases m with
 | ok q=>exact fun J' k h1=>c q J' k h1 h
 | err=>exact E.err h
 | bot=>exact (E.bot h).elim
def BlFn (T:Stat)(D:Nat->Option FDef)(b:Bl):Prop:=b.wf false=true->∀ n,b.fu<=n->∀ F L p (q:List (Tx×Bool)) bud J Q X,Cx F J L ((q.length+b.sz)::bud)->F.ds.length+b.fu<=900->L.length=p->
 BSp F (cBlock F.sc p q b) L bud Q X->methW T 17 (.obj F.r) J fun r=>callW T D n 17 [.obj r,b.av,.obj F.so,.tup (q.map qAv)] J Q X
def PrSp (r t so d:Nat)(ds:List Nat)(sc:List Scope)(res:R (List In×Scope))(L:List In)(b:List Nat)(J:Store)(e:Ev)(QQ:QF)(XX:XS):Prop:=match res with
 | .ok w=>∀ e' J',(∀ i,i≠11->i≠16->i≠17->e' i=e i)->Cx ⟨r,t,so,d::ds,w.2::sc,J'⟩ J' (L++w.1) b->Keep2 t d J J'->QQ .next e' J'
 | .err=>∀ e J,XX e J
 | .bot=>False
def PrFn (T:Stat)(D:Nat->Option FDef)(b:Bl):Prop:=b.wf true=true->∀ n,b.fu<=n->∀ r t so d ds s sc β L p bud J e QQ XX,Cx ⟨r,t,so,d::ds,s::sc,β⟩ J L (b.sz::bud)->d∉ds->ds.length+1+b.fu<=900->s.length+b.names.length<lid->L.length=p->
 e 0=some (.obj r)->e 2=some (.obj so)->e 9=some (.obj d)->PrSp r t so d ds sc (cProcs sc s p b) L bud J e QQ XX->forW (tgT [11,16,17]) (ssW T (callW T D n) ir17f1) b.procs e J QQ XX
section
variable {T:Stat}{D:Nat->Option FDef}
theorem pr_nil:PrFn T D .nil:=by
 intro hw n hn r t so d ds s sc β L p bud J e QQ XX cx hd hds hs hp h0 h2 h9 h;exact h e J (fun _ _ _ _=>rfl) ((List.append_nil L).symm▸cx.zero.now) (Keep2.refl _ _ _)
theorem pr_proc (K:Core T D)(x:Tx)(q:List (Tx×Bool))(b u:Bl)(hb:BlFn T D b)(hu:PrFn T D u):PrFn T D (.proc x q b u):=by
 intro hw n hn r t so d ds s sc β L p bud J e QQ XX cx hd hds hs hp h0 h2 h9 h;have hw:=Ab hw;have hn:=Nat.max_le.mp hn;have hs':s.length<lid:=Ao (Af _ _) hs;have k1:Keep2 t d J (J.set d (.dict (encS (putS x (.proc p q) s)))):=Keep.to2' Keep.self;have cx1:=cx.turnD (s':=putS x (.proc p q) s) hd Keep.self (get_set cx.s2.1);refine var_ok (e:=upd (upd (upd e 11 (.str x)) 16 (.tup (q.map qAv))) 17 b.av) (i:=0) h0 ?_;refine (cs_code cx ?_ :);refine lst_ok cx.c2 ?_;rw [Ah,hp];refine var_ok (e:=upd (upd (upd e 11 (.str x)) 16 (.tup (q.map qAv))) 17 b.av) (i:=9) h9 ?_;refine dict_set (w:=.proc p q) cx.s2.1 hs' ?_;refine var_ok (e:=upd (upd (upd e 11 (.str x)) 16 (.tup (q.map qAv))) 17 b.av) (i:=0) h0 ?_;refine (cm cx1 (K.ck 17 rfl rfl) ?_ :);refine var_ok (e:=upd (upd (upd e 11 (.str x)) 16 (.tup (q.map qAv))) 17 b.av) (i:=2) h2 ?_;have E:Ends (fun res=>PrSp r t so d ds sc res L bud J e QQ XX) (XX (upd (upd (upd e 11 (.str x)) 16 (.tup (q.map qAv))) 17 b.av)):=⟨fun h J'=>h _ J',fun h=>h⟩;refine (unm (hb hw.1 n hn.1 _ L p q _ _ _ _ cx1.sp (Aa (Ak (Nat.le_max_left _ _) _) hds) hp (BSp.of E h fun c J1 k c1 h=>?_)) :);refine hu hw.2 n hn.2 r t so d ds _ sc _ (L++c) (p+c.length) _ J1 (upd (upd (upd e 11 (.str x)) 16 (.tup (q.map qAv))) 17 b.av) QQ XX (c1.pad (Ar _ _)) hd (Aa (Ak (Nat.le_max_right _ _) _) hds) (Ao (Aa (Al (putS_len x _ s) _) (Nat.le_of_eq (Aw _ 1 _))) hs) (ln hp) h0 h2 h9 ?_;revert h;unfold PrSp R.bind;cases cProcs sc (putS x (.proc p q) s) (p+c.length) u with
 | ok w=>
  intro h e' J' he cx' k';exact h e' J' (fun i a1 a2 a3=>(he i a1 a2 a3).trans ((upd_ne i a3).trans ((upd_ne i a2).trans (upd_ne i a1)))) cx'.j ((k1.trans c1.kp.to2).trans k')
 | err=>exact id
 | bot=>exact id
end
theorem Dicts.lt {J:Store}:∀ {ds:List Nat} {sc:List Scope},Dicts J ds sc->∀ d∈ds,d<J.length
 | [],[],_,d,h=>by cases h
 | d::ds,s::sc,h,x,hx=>by
  rcases List.mem_cons.mp hx with rfl | hx
  ·exact (Ai h.1).1
  ·exact Dicts.lt h.2 x hx
 | [],_::_,h,_,_=>h.elim
 | _::_,[],h,_,_=>h.elim
theorem Ext.keep {t:Nat}{J J':Store}(x:Ext J J'):Keep t J J':=⟨x.1,fun i _ h=>x.2 i h⟩
theorem Cx.drop {F:Fr}{J:Store}{L:List In}{x:Nat}{b:List Nat}(h:Cx F J L (x::b)):Cx F J L b:=(h.pad (Nat.zero_le x)).zero
section
variable {T:Stat}{D:Nat->Option FDef}
theorem emitV_sp (K:Core T D){n:Nat}{F:Fr}(i:In){v:AV}(hv:v=i.av){L:List In}{b:List Nat}{J:Store}{Q:QV}{X:QX}(hn:1<=n)(cx:Cx F J L (1::b))
  (h:∀ J',Cx F J' (L++[i]) b->Q (.int L.length) J'):callW T D n 16 [.obj F.r,v] J Q X:=by
 subst hv; exact unm (emit_sp K i hn cx h)
theorem blkZ0 (K:Core T D){n:Nat}{F F₀:Fr}{L c:List In}{p a fi:Nat}{ss:St}{J:Store}{e:Ev}{Q:QV}{X:QX}{bud:List Nat}
  (hw:ss.wf true=true) (hn:ss.fu<=n) (h1:1<=n) (cx:Cx F J (L++[.jmx]++c) ((1+(ss.sz+1))::bud)) (hp:L.length=p)
  (h0:e 0=some (.obj F.r)) (h2:e 2=some (.obj F.so)) (h6:e 6=some (.tup ss.row)) (h10:e 10=some (.int a)) (h13:e 13=some (.int fi)) (h15:e 15=some (.int p))
  (kb:∀ J' L',Cx F J' L' bud->Cx F₀ J' L' bud)
  (h:BSp F₀ ((cStmt F.sc a (p+1+c.length+(intIf (a-fi)).length) ss).bind fun z=>.ok ([.jmp (p+1+c.length)]++c++intIf (a-fi)++z++[.ret])) L bud Q X) :
  ssW T (callW T D n) ir17z0 e J (fun fl e J'=>match fl with
    | .ret v=>Q v J'
    | .next=>Q .none J'
    | _=>False) (fun _ J'=>X J'):=by
 have hN:((L++[In.jmx]++c).map In.av).length=p+1+c.length:=(Ah _).trans (ln (ln (v:=[In.jmx]) hp));refine var_ok h0 ?_;refine cs_code cx ?_;refine lst_ok cx.c2 ?_;refine var_ok (e:=upd e 18 _) (i:=0) h0 ?_;refine cs_code cx ?_;refine var_ok (e:=upd e 18 _) (i:=15) h15 ?_;refine patchJ_sp .jmp hN (A:=L) (x:=.jmx) (M:=c) cx.j hp.symm fun J1 c1=>?_;have body:∀ (i:List In) (J2:Store) (b:List Nat),intIf (a-fi)=i->Cx F J2 (L++([In.jmp (p+1+c.length)]++c++i)) ((ss.sz+1)::bud)->
   ssW T (callW T D n) (.cons (.set 19 (.list (.cons (.v 10) .nil))) (.cons (.for1 20 (.v 6) ir17f0) (.cons (.expr (.meth (.v 0) 16 (.cons (.tuple (.cons (.str [114,101,116]) .nil)) .nil))) (.cons (.ret (.v 18)) .nil)))) (upd e 18 (.int ((L++[In.jmx]++c).map In.av).length)) J2 (fun fl e J'=>match fl with
    | .ret v=>Q v J'
    | .next=>Q .none J'
    | _=>False) (fun _ J'=>X J'):=by
  intro i J2 b hi c₂;rw [hi] at h;refine var_ok (e:=upd e 18 _) (i:=10) h10 ?_;refine var_ok (e:=upd (upd e 18 _) 19 _) (i:=6) h6 ?_;have c3:Cx F (J2++[.list [.int a]]) (L++([In.jmp (p+1+c.length)]++c++i)) ((ss.sz+1)::bud):=⟨c₂.ok,get_push c₂.c2,c₂.kp.push,c₂.rm⟩;have fok:FoOk { F with b:=J2++[.list [.int a]] } J2.length a:=⟨Nat.ne_of_gt (Ai c₂.c2).1,get_top⟩;refine (stmt_all K ss).2 hw n hn { F with b:=J2++[.list [.int a]] } J2.length a _ _ _ _ _ 20 19 _ _ fok (show _=p+1+c.length+i.length by rw [← Ae,← Ae]; exact ln (ln (ln (v:=[In.jmp (p+1+c.length)]) hp))) c3.now.sp h0 h2 rfl (by decide) (by decide) (by decide) ?_;refine LCSp.of (fun e=>BSp.ends) h fun z e3 J3 he c4 h=>?_;refine var_ok ((he 0 (by decide)).trans h0) ?_;refine (emit_sp K .ret h1 c4 fun J5 c5=>?_ :);refine var_ok (he 18 (by decide)) ?_;exact h _ _ ((kb _ _ ⟨c₂.ok,c5.c2,c3.kp.trans c5.kp,c5.rm⟩).eq (by simp only [Ae,List.cons_append,List.nil_append]))
 refine var_ok (e:=upd e 18 _) (i:=10) h10 ?_;refine var_ok (e:=upd e 18 _) (i:=13) h13 ?_;refine ifd_ok (fun hgt=>?_) fun hgt=>?_
 ·have hgt:fi<a:=Int.ofNat_lt.mp hgt;refine var_ok (e:=upd e 18 _) (i:=0) h0 ?_;refine cm c1 (K.ck 16 rfl rfl) ?_;refine var_ok (e:=upd e 18 _) (i:=10) h10 ?_;refine var_ok (e:=upd e 18 _) (i:=13) h13 ?_;refine emitV_sp K (.int (a-fi)) (v:=.tup [.str kInt,.int ((a:Int)-(fi:Int))]) (by rw [← Int.ofNat_sub (Nat.le_of_lt hgt)]; rfl) h1 c1.sp fun J2 c₂=>?_;refine body [.int (a-fi)] J2 [] ?_ (c₂.eq (by simp only [Ae,List.cons_append,List.nil_append]));cases hq:a-fi with
  | zero=>exact absurd (Nat.sub_eq_zero_iff_le.mp hq) (Nat.not_le_of_lt hgt)
  | succ m=>rfl
 ·refine body [] J1 [] ?_ ((c1.pad (y:=ss.sz+1) (Ar _ _)).eq (by rw [List.append_nil]; rfl));rw [Nat.sub_eq_zero_of_le (Nat.le_of_not_lt fun q=>hgt (Int.ofNat_lt.mpr q))]; rfl
theorem add_ok {J:Store}{a b:Nat}{l l':List AV}{Q:QV}(h1:J[a]?=some (.list l))(h2:J[b]?=some (.list l'))(hl:l.length+l'.length<=lid)(q:Q (.obj J.length) (J++[.list (l++l')])):binW .add (.obj a) (.obj b) J Q:=lst_ok h1 (lst_ok h2 ⟨hl,q⟩)
theorem bl_mk (K:Core T D)(vs:List (Tx×Option Nat))(ps:Bl)(ss:St)(hps:PrFn T D ps):BlFn T D (.mk vs ps ss):=by
 intro hw n hn F L p q bud J Q X cx hds hp h;obtain ⟨n,rfl⟩:=ge1 (Aa (Ar 1 _) hn);have hn:=Nat.max_le.mp (Am hn);have hn1:=Nat.max_le.mp hn.1;have hw:=Ab hw;have hlen:q.length+(vs.length+ps.sz)<=900000:=by
  have:=cx.rm;rw [List.sum_cons] at this;unfold Bl.sz at this;lia
 have hnl:=names_len ps;have l1:(fst1 q).length+(fst1 vs).length<=lid:=by rw [fst1_len,fst1_len]; exact Aa (by lia) (show 900000<=lid by decide)
 have l2:(fst1 q++fst1 vs).length+ps.names.length<=900000:=by rw [Ac,fst1_len,fst1_len]; lia
 refine cm cx (K.ck 17 rfl rfl) ?_;refine ⟨ir17,K.dk 17 rfl rfl,rfl,?_⟩;refine opt_ok (picks_q q) ?_;refine opt_ok (picks_v vs) ?_;refine add_ok (get_push get_top) get_top l1 ?_;refine opt_ok (picks_p ps hw.1) ?_;refine add_ok (get_push get_top) get_top (Aa l2 (by decide)) ?_;refine lst_ok get_top ⟨?_,?_⟩
 ·rw [Ac]; exact Aa l2 (by decide)
 refine opt_ok (range_items _) ?_;refine dupL_sp K hn1.1 (l:=fst1 q++fst1 vs++ps.names) (allTx_app (allTx_app (all_fst q) (all_fst vs)) (all_names ps)) (J₀:=J) _ 0 _ _ rfl rfl get_top (((((Ext.refl J).push.push).push).push).push) ?_;have h:BSp F (match noDup [] (fst1 q++fst1 vs++ps.names) with
  | false=>.err
  | true=>(vEnt (pEnt [] 3 q).1 (pEnt [] 3 q).2 vs).bind fun w=>
   (cProcs F.sc w.1 (p+1) ps).bind fun c=>
   (cStmt (c.2::F.sc) w.2 (p+1+c.1.length+(intIf (w.2-(pEnt [] 3 q).2)).length) ss).bind fun d=>.ok ([.jmp (p+1+c.1.length)]++c.1++intIf (w.2-(pEnt [] 3 q).2)++d++[.ret])) L bud Q X:=h
 revert h;rw [List.take_zero];cases noDup [] (fst1 q++fst1 vs++ps.names) with
 | false=>exact fun h e J=>h _
 | true=>
  intro h e' J2 he x3;have g0:=he 0 (by decide);have g2:=he 2 (by decide);have g3:=he 3 (by decide);have g4:=he 4 (by decide);have g5:=he 5 (by decide);have g6:=he 6 (by decide);have k3:Keep F.t F.b J2:=cx.kp.trans x3.keep;refine var_ok (e:=upd (upd e' 9 _) 10 _) (i:=2) g2 ?_;refine lst_ok (get_push (get_push (x3.get cx.s1))) ?_;refine lst_ok get_top ⟨by rw [Ah,List.length_reverse]; exact Aa (Au cx.ok.ln) (by decide),?_⟩;have hlt:=(Ai (x3.get cx.c2)).1;have x4:Ext J (J2++[MO.dict []]++[MO.list [.obj J2.length]]++[MO.list (F.ds.reverse.map AV.obj++[.obj J2.length])]):=x3.push.push.push;have cx1:Cx ⟨F.r,F.t,(J2++[MO.dict []]++[MO.list [.obj J2.length]]).length,J2.length::F.ds,[]::F.sc,J2++[MO.dict []]++[MO.list [.obj J2.length]]++[MO.list (F.ds.reverse.map AV.obj++[.obj J2.length])]⟩ (J2++[MO.dict []]++[MO.list [.obj J2.length]]++[MO.list (F.ds.reverse.map AV.obj++[.obj J2.length])]) L ((q.length+(Bl.mk vs ps ss).sz)::bud):=
   ⟨⟨⟨_,x4.get cx.c2⟩,x4.get cx.c1,by rw [get_top,List.reverse_cons,List.map_append]; rfl,⟨get_push (get_push get_top),Dicts.mono (fun d _ s hs=>x4.get hs) cx.s2⟩,by rw [Ac,Ac]; exact Nat.ne_of_gt (Nat.lt_add_right _ (Nat.lt_add_right _ hlt)),Aa (Nat.succ_le_of_lt (An (Nat.lt_add_of_pos_right (Nat.succ_pos _)) hds)) (by decide)⟩,x4.get cx.c2,Keep.refl _ _,cx.rm⟩
  have hd0:J.length<=J2.length:=x3.1;have hdn:J2.length∉F.ds:=fun hm=>absurd (cx.s2.lt _ hm) (Nat.not_lt_of_le hd0);refine var_ok (e:=upd (upd (upd e' 9 _) 10 _) 2 _) (i:=3) g3 ?_;refine parL_sp q [] 3 _ _ rfl rfl cx1.s2.1 (Ao (show [].length+q.length<=900000 by rw [List.length_nil,Nat.zero_add]; exact Aa (Af _ _) hlen) (by decide)) fun e2 J4 he2 h10 hgd2 k4=>?_;have cx2:=cx1.turnD hdn k4 hgd2;have pl:=pEnt_len q [] 3;have f0:=(he2 0 (by decide) (by decide) (by decide)).trans g0;have f2:=he2 2 (by decide) (by decide) (by decide);have f4:=(he2 4 (by decide) (by decide) (by decide)).trans g4;have f5:=(he2 5 (by decide) (by decide) (by decide)).trans g5;have f6:=(he2 6 (by decide) (by decide) (by decide)).trans g6;have f9:=he2 9 (by decide) (by decide) (by decide);refine var_ok h10 ?_;refine var_ok (e:=upd e2 13 _) (i:=4) f4 ?_;have l3:(pEnt [] 3 q).1.length+(vs.length+ps.names.length)<=900000:=by
   rw [List.length_nil] at pl; lia
  refine varL_sp K hn1.1 vs (pEnt [] 3 q).1 (pEnt [] 3 q).2 (upd e2 13 _) _ f9 h10 hgd2 (Ao (by lia) (show 900000<lid by decide)) ?_;revert h;cases hve:vEnt (pEnt [] 3 q).1 (pEnt [] 3 q).2 vs with
  | bot=>exact fun h=>h.elim
  | err=>exact fun h e J=>h _
  | ok w=>
   intro h e3 J5 he3 h10' hgd3 k5;obtain ⟨_,hw1⟩:=vEnt_len _ _ _ _ hve;have cx3:=cx2.turnD hdn k5 hgd3;have i0:=(he3 0 (by decide) (by decide) (by decide)).trans f0;have i2:=(he3 2 (by decide) (by decide) (by decide)).trans f2;have i5:=(he3 5 (by decide) (by decide) (by decide)).trans f5;have i6:=(he3 6 (by decide) (by decide) (by decide)).trans f6;have i9:=(he3 9 (by decide) (by decide) (by decide)).trans f9;have i13:=he3 13 (by decide) (by decide) (by decide);refine var_ok i0 ?_;refine (emit_sp K .jmx hn1.1 cx3.sp.drop.sp.drop.sp fun J6 c6=>?_ :);refine var_ok (e:=upd e3 15 _) (i:=5) i5 ?_;have kk:=((Keep.to2' (t:=F.t) k4).trans (Keep.to2' k5)).trans c6.kp.to2;refine hps hw.1 n hn1.2 F.r F.t _ _ F.ds w.1 F.sc _ _ (p+1) _ _ (upd e3 15 _) _ _ c6.sp hdn ?_ (Ao (show w.1.length+ps.names.length<=900000 by lia) (by decide)) (ln hp) i0 i2 i9 ?_
   ·exact Aa (Nat.le_of_eq (Aw _ 1 _)) (Aa (Au (Ak (Aa (Nat.le_max_right 1 _) (Nat.le_max_left _ ss.fu)) _)) hds)
   have h:BSp F ((cProcs F.sc w.1 (p+1) ps).bind fun c=>
    (cStmt (c.2::F.sc) w.2 (p+1+c.1.length+(intIf (w.2-(pEnt [] 3 q).2)).length) ss).bind fun d=>.ok ([.jmp (p+1+c.1.length)]++c.1++intIf (w.2-(pEnt [] 3 q).2)++d++[.ret])) L bud Q X:=h
   revert h;cases cProcs F.sc w.1 (p+1) ps with
   | bot=>exact fun h=>h.elim
   | err=>exact fun h e J=>h _
   | ok c=>
    intro h e4 J7 he4 cx5 k7;refine blkZ0 K (F₀:=F) hw.2 hn.2 hn1.1 cx5 hp ((he4 0 (by decide) (by decide) (by decide)).trans i0) ((he4 2 (by decide) (by decide) (by decide)).trans i2) ((he4 6 (by decide) (by decide) (by decide)).trans i6) ((he4 10 (by decide) (by decide) (by decide)).trans h10') ((he4 13 (by decide) (by decide) (by decide)).trans i13) ?_ (fun J' L' c=>?_) h
    ·exact (he4 15 (by decide) (by decide) (by decide)).trans (by rw [← hp]; rfl)
    ·exact ⟨cx.ok,c.c2,Keep2.back (k3.trans (Ext.refl _).push.push.push.keep) (Aa cx.kp.1 hd0) ((kk.trans k7).trans c.kp.to2),c.rm⟩
theorem bl_all (K:Core T D)(b:Bl):BlFn T D b∧PrFn T D b:=by
 induction b with
 | mk vs ps ss ih=>exact ⟨bl_mk K vs ps ss ih.2,fun hw=>by cases hw⟩
 | nil=>exact ⟨(fun hw=>by cases hw),pr_nil⟩
 | proc x q b r ihb ihr=>exact ⟨(fun hw=>by cases hw),pr_proc K x q b r ihb.1 ihr.2⟩
end
noncomputable def quo (a b:Int):Int:=match decide (a*b<0) with
 | true=>-((a.natAbs:Int).fdiv (b.natAbs:Int))
 | false=>(a.natAbs:Int).fdiv (b.natAbs:Int)
noncomputable def small (a:Int):Bool:=decide (a.natAbs<2 ^ 200)
noncomputable def b2i (b:Bool):Int:=if b then 1 else 0
noncomputable def reckD (dv:Bool)(a b:Int):R Int:=match decide (b=0) with
 | true=>.err
 | false=>match small a&&small b with
  | true=>(match dv with
   | true=>.ok (quo a b)
   | false=>.ok (a-quo a b*b))
  | false=>.bot
noncomputable def reck (s:Tx)(a b:Int):R Int:=
 match txEq s [43] with
 | true=>.ok (a+b)
 | false=>
 match txEq s [45] with
 | true=>.ok (a-b)
 | false=>
 match txEq s [42] with
 | true=>(match small a&&small b with
  | true=>.ok (a*b)
  | false=>.bot)
 | false=>
 match txEq s [100,105,118] with
 | true=>reckD true a b
 | false=>
 match txEq s [109,111,100] with
 | true=>reckD false a b
 | false=>
 match txEq s [61] with
 | true=>.ok (b2i (decide (a=b)))
 | false=>
 match txEq s [60,62] with
 | true=>.ok (b2i (!decide (a=b)))
 | false=>
 match txEq s [60] with
 | true=>.ok (b2i (decide (a<b)))
 | false=>
 match txEq s [60,61] with
 | true=>.ok (b2i (decide (a<=b)))
 | false=>
 match txEq s [62] with
 | true=>.ok (b2i (decide (a>b)))
 | false=>.ok (b2i (decide (a ≥ b)))
theorem quo_le (a b:Int):(quo a b).natAbs<=a.natAbs:=by
 have:((a.natAbs:Int).fdiv (b.natAbs:Int)).natAbs<=a.natAbs:=by
  rw [Int.fdiv_eq_ediv_of_nonneg _ (Av _),← Int.natCast_ediv,Int.natAbs_natCast];exact Nat.div_le_self _ _
 unfold quo;cases decide (a*b<0)
 ·exact this
 ·rw [Int.natAbs_neg]; exact this
noncomputable def frameOf (st:List Int):Nat->Nat->Option Nat
 | 0,b=>some b
 | l+1,b=>match st[b]? with
  | some (.ofNat v)=>frameOf st l v
  | _=>Option.none
section
variable {T:Stat}{D:Nat->Option FDef}
theorem small_of {a b:Int}(h:(small a&&small b)=true):a.natAbs<2 ^ 200∧b.natAbs<2 ^ 200:=⟨Ax (Ab h).1,Ax (Ab h).2⟩
def RkSp (res:R Int)(J:Store)(Q:QV)(X:QX):Prop:=match res with
 | .ok v=>Q (.int v) J
 | .err=>X J
 | .bot=>False
theorem dv_sp {C:Calls}{s:Tx}{dv:Bool}(hdv:txEq s [100,105,118]=dv){a b:Int}{J:Store}{Q:QV}{X:QX}{QQ:QF}{XX:XS}(hQ:∀ v e J,Q v J->QQ (.ret v) e J)(hX:∀ e J,X J->XX e J){e:Ev}(e0:e 0=some (.str s))(e1:e 1=some (.int a))(e2:e 2=some (.int b))(h:RkSp (reckD dv a b) J Q X) :
  ssW T C (.cons (.ifs (.cmp .eq (.v 2) (.int 0)) (.cons (.raise (.str [122,101,114,111])) .nil) .nil) (.cons (.set 3 (.bin .fdiv (.bi .abs (.cons (.v 1) .nil)) (.bi .abs (.cons (.v 2) .nil)))) (.cons (.ifs (.cmp .lt (.bin .mul (.v 1) (.v 2)) (.int 0)) (.cons (.set 3 (.neg (.v 3))) .nil) .nil) (.cons (.ifs (.cmp .eq (.v 0) (.str [100,105,118])) (.cons (.ret (.v 3)) .nil) .nil) (.cons (.ret (.bin .sub (.v 1) (.bin .mul (.v 3) (.v 2)))) .nil))))) e J QQ XX:=by
 unfold reckD at h;refine var_ok e2 ?_;refine if_ok (fun hb=>?_) fun hb=>?_
 ·rw [hb] at h; exact hX _ _ h
 rw [hb] at h;refine var_ok e1 ?_;refine var_ok e2 ?_;have hb0:b≠0:=of_decide_eq_false hb;revert h;cases hs:small a&&small b with
 | false=>exact fun h=>h.elim
 | true=>
  obtain ⟨sa,sb⟩:=small_of hs;have hq:=Ao (quo_le a b) sa;intro h;refine ⟨fun q=>hb0 (Int.natAbs_eq_zero.mp (Int.ofNat.inj q)),sb,?_⟩;refine var_ok (e:=upd e 3 _) (i:=1) e1 ?_;refine var_ok (e:=upd e 3 _) (i:=2) e2 ?_;refine ⟨sa,sb,?_⟩;unfold quo at h hq;refine if_ok (fun hl=>?_) fun hl=>?_
  all_goals
   rw [show decide (a*b<0)=_ from hl] at h hq
  ·refine var_ok (e:=upd (upd e 3 _) 3 _) (i:=0) e0 ?_;cases dv
   ·refine if_f (b:=txEq s [100,105,118]) hdv ?_;refine var_ok (e:=upd (upd e 3 _) 3 _) (i:=1) e1 ?_;refine var_ok (e:=upd (upd e 3 _) 3 _) (i:=2) e2 ?_;exact ⟨hq,sb,hQ _ _ _ h⟩
   ·refine if_t (b:=txEq s [100,105,118]) hdv ?_;exact hQ _ _ _ h
  ·refine var_ok (e:=upd e 3 _) (i:=0) e0 ?_;cases dv
   ·refine if_f (b:=txEq s [100,105,118]) hdv ?_;refine var_ok (e:=upd e 3 _) (i:=1) e1 ?_;refine var_ok (e:=upd e 3 _) (i:=2) e2 ?_;exact ⟨hq,sb,hQ _ _ _ h⟩
   ·refine if_t (b:=txEq s [100,105,118]) hdv ?_;exact hQ _ _ _ h
theorem reck_sp (K:Core T D){n:Nat}{s:Tx}{a b:Int}{J:Store}{Q:QV}{X:QX}(hn:1<=n)(h:RkSp (reck s a b) J Q X):callW T D n 24 [.str s,.int a,.int b] J Q X:=by
 obtain ⟨n,rfl⟩:=ge1 hn;refine ⟨ir24,K.dk 24 rfl rfl,rfl,?_⟩;unfold reck at h;refine if_ok (fun h1=>?_) fun h1=>?_
 ·rw [h1] at h; exact h
 rw [h1] at h;refine if_ok (fun h2=>?_) fun h2=>?_
 ·rw [h2] at h; exact h
 rw [h2] at h;refine if_ok (fun h3=>?_) fun h3=>?_
 ·rw [h3] at h;revert h;cases hs:small a&&small b with
  | false=>exact fun h=>h.elim
  | true=>exact fun h=>⟨(small_of hs).1,(small_of hs).2,h⟩
 rw [h3] at h;refine if_ok (fun h4=>?_) fun h4=>?_
 ·rw [h4] at h;exact dv_sp h4 (fun v e J q=>q) (fun e J q=>q) rfl rfl rfl h
 rw [h4] at h;refine if_ok (fun h5=>?_) fun h5=>?_
 ·rw [h5] at h;exact dv_sp h4 (fun v e J q=>q) (fun e J q=>q) rfl rfl rfl h
 rw [h5] at h;refine if_ok (fun h6=>?_) fun h6=>?_
 ·rw [h6] at h; exact h
 rw [h6] at h;refine if_ok (fun h7=>?_) fun h7=>?_
 ·rw [h7] at h; exact h
 rw [h7] at h;refine if_ok (fun h8=>?_) fun h8=>?_
 ·rw [h8] at h; exact h
 rw [h8] at h;refine if_ok (fun h9=>?_) fun h9=>?_
 ·rw [h9] at h; exact h
 rw [h9] at h;refine if_ok (fun h10=>?_) fun h10=>?_
 ·rw [h10] at h; exact h
 rw [h10] at h;exact h
theorem idx_ints {J:Store}{r k:Nat}{l:List Int}{v:Int}{Q:AV->Prop}(h1:J[r]?=some (.list (l.map .int)))(h3:l[k]?=some v)(q:Q (.int v)):idxW (.obj r) (.int (k:Int)) J Q:=
 idx_ok h1 (ix_nat (by rw [Ah]; exact (Ai h3).1)) (by rw [List.getElem?_map,h3]; rfl) q
theorem frame_sp (K:Core T D){n so:Nat}{st:List Int}{J:Store}(hn:1<=n)(hs:J[so]?=some (.list (st.map .int))){l b b':Nat}{Q:QV}{X:QX}(hf:frameOf st l b=some b')(h:Q (.int b') J):callW T D n 23 [.obj so,.int b,.int l] J Q X:=by
 obtain ⟨n,rfl⟩:=ge1 hn;refine ⟨ir23,K.dk 23 rfl rfl,rfl,l+1,?_⟩;have main:∀ (l b:Nat) (e:Ev) (QQ:QF) (XX:XS),(∀ e',e' 1=some (.int b')->QQ .next e' J)->frameOf st l b=some b'->e 0=some (.obj so)->e 1=some (.int b)->e 2=some (.int l)->
   whlW (evW T (callW T D n) ir23c0) (ssW T (callW T D n) ir23b0) (l+1) e J QQ XX:=by
  intro l
  induction l with
  | zero=>intro b e QQ XX hq hf h0 h1 h2; cases hf; exact var_ok h2 (hq e h1)
  | succ l ih=>
   intro b e QQ XX hq hf h0 h1 h2;have hf:(match st[b]? with
    | some (.ofNat v)=>frameOf st l v
    | _=>Option.none)=some b':=hf
   revert hf;cases hv:st[b]? with
   | none=>intro hf; cases hf
   | some v=>
    cases v with
    | negSucc v=>intro hf; cases hf
    | ofNat v=>
     intro hf;refine var_ok h2 ?_;refine if_t (b:=decide (((l+1:Nat):Int)>0)) (decide_eq_true (Int.ofNat_lt.mpr (Nat.succ_pos l))) ?_;refine var_ok h0 ?_;refine var_ok h1 ?_;refine idx_ints hs hv ?_;refine var_ok (e:=upd e 1 _) (i:=2) h2 ?_;exact ih v (upd (upd e 1 (.int (Int.ofNat v))) 2 _) QQ XX hq hf h0 rfl (congrArg (fun i=>some (AV.int i)) (Int.add_sub_cancel (l:Int) 1))
 exact main l b _ _ _ (fun e' he=>var_ok he h) hf rfl rfl rfl
end
structure MS where
 st:List Int
 b:Nat
 pc:Nat
 o:List Int
 f:Int
inductive Mst (code:List In):MS->MS->Prop
 | lit {st b pc o f} {n:Nat}:code[pc]?=some (.lit n)->st.length<900000->Mst code ⟨st,b,pc,o,f⟩ ⟨st++[(n:Int)],b,pc+1,o,f⟩
 | lod {st b pc o f l a b' v}:code[pc]?=some (.lod l a)->st.length<900000->frameOf st l b=some b'->st[b'+a]?=some v->Mst code ⟨st,b,pc,o,f⟩ ⟨st++[v],b,pc+1,o,f⟩
 | lda {st b pc o f l a b'}:code[pc]?=some (.lda l a)->st.length<900000->frameOf st l b=some b'->Mst code ⟨st,b,pc,o,f⟩ ⟨st++[((b'+a:Nat):Int)],b,pc+1,o,f⟩
 | sto {st b pc o f l a b' v}:code[pc]?=some (.sto l a)->frameOf st l b=some b'->b'+a<st.length->Mst code ⟨st++[v],b,pc,o,f⟩ ⟨st.set (b'+a) v,b,pc+1,o,f⟩
 | ldi {st b pc o f} {a:Nat} {v}:code[pc]?=some .ldi->st.length<900000->st[a]?=some v->Mst code ⟨st++[(a:Int)],b,pc,o,f⟩ ⟨st++[v],b,pc+1,o,f⟩
 | sti {st b pc o f} {a:Nat} {v}:code[pc]?=some .sti->a<st.length->Mst code ⟨st++[(a:Int)]++[v],b,pc,o,f⟩ ⟨st.set a v,b,pc+1,o,f⟩
 | chk {st b pc o f} {n:Nat} {v:Int}:code[pc]?=some (.chk n)->0<=v->v<(n:Int)->Mst code ⟨st++[v],b,pc,o,f⟩ ⟨st++[v],b,pc+1,o,f⟩
 | neg {st b pc o f} {v:Int}:code[pc]?=some (.opr kNeg)->Mst code ⟨st++[v],b,pc,o,f⟩ ⟨st++[-v],b,pc+1,o,f⟩
 | odd {st b pc o f} {v:Int}:code[pc]?=some (.opr kOdd)->Mst code ⟨st++[v],b,pc,o,f⟩ ⟨st++[v.fmod 2],b,pc+1,o,f⟩
 | opr {st b pc o f s} {x y v:Int}:code[pc]?=some (.opr s)->memTx s ops=true->st.length<900000->reck s x y=.ok v->Mst code ⟨st++[x]++[y],b,pc,o,f⟩ ⟨st++[v],b,pc+1,o,f⟩
 | jmp {st b pc o f p}:code[pc]?=some (.jmp p)->Mst code ⟨st,b,pc,o,f⟩ ⟨st,b,p,o,f⟩
 | jpc0 {st b pc o f p} {v:Int}:code[pc]?=some (.jpc p)->v=0->Mst code ⟨st++[v],b,pc,o,f⟩ ⟨st,b,p,o,f⟩
 | jpc1 {st b pc o f p} {v:Int}:code[pc]?=some (.jpc p)->v≠0->Mst code ⟨st++[v],b,pc,o,f⟩ ⟨st,b,pc+1,o,f⟩
 | int {st b pc o f n}:code[pc]?=some (.int n)->st.length+n<=900000->Mst code ⟨st,b,pc,o,f⟩ ⟨st++List.replicate n 0,b,pc+1,o,f⟩
 | cal {st as b pc o f l a n b'}:code[pc]?=some (.cal l a n)->as.length=n->(st++as).length<=900000->frameOf (st++as) l b=some b'->Mst code ⟨st++as,b,pc,o,f⟩ ⟨st++[(b':Int),(b:Int),((pc+1:Nat):Int)]++as,st.length,a,o,f⟩
 | ret {st st' l b pc o f} {b' p':Nat}:code[pc]?=some .ret->b=st.length->b≠0->Mst code ⟨st++[l,(b':Int),(p':Int)]++st',b,pc,o,f⟩ ⟨st,b',p',o,f⟩
 | wrt {st b pc o f} {v:Int}:code[pc]?=some .wrt->o.length<900000->Mst code ⟨st++[v],b,pc,o,f⟩ ⟨st,b,pc+1,o++[v],f⟩
 | tick {st b pc o f}:code[pc]?=some .tick->1<=f->Mst code ⟨st,b,pc,o,f⟩ ⟨st,b,pc+1,o,f-1⟩
inductive Mnd (code:List In):MS->Option (List Int)->Prop
 | chk {st b pc o f} {n:Nat} {v:Int}:code[pc]?=some (.chk n)->¬ (0<=v∧v<(n:Int))->Mnd code ⟨st++[v],b,pc,o,f⟩ Option.none
 | opr {st b pc o f s} {x y:Int}:code[pc]?=some (.opr s)->memTx s ops=true->reck s x y=.err->Mnd code ⟨st++[x]++[y],b,pc,o,f⟩ Option.none
 | done {st pc o f}:code[pc]?=some .ret->Mnd code ⟨st,0,pc,o,f⟩ (some o)
 | tick {st b pc o f}:code[pc]?=some .tick->f<1->Mnd code ⟨st,b,pc,o,f⟩ Option.none
inductive Fin (code:List In):MS->Option (List Int)->Prop
 | step {m m' res}:Mst code m m'->Fin code m' res->Fin code m res
 | last {m res}:Mnd code m res->Fin code m res
structure RI (code:List In)(J₀:Store)(so oo:Nat)(m:MS)(e:Ev)(J:Store):Prop where
 e0:e 0=some (.tup (code.map In.av))
 e1:e 1=some (.int m.f)
 e2:e 2=some (.obj so)
 e3:e 3=some (.int m.b)
 e4:e 4=some (.int m.pc)
 e5:e 5=some (.obj oo)
 hs:J[so]?=some (.list (m.st.map .int))
 ho:J[oo]?=some (.list (m.o.map .int))
 ne:so≠oo
 x:Ext J₀ J
 ns:J₀.length<=so
 no:J₀.length<=oo
theorem mapS (l:List Int)(x:Int):l.map AV.int++[AV.int x]=(l++[x]).map AV.int:=by rw [List.map_append]; rfl
section
variable {T:Stat}{D:Nat->Option FDef}{code:List In}{J₀:Store}{so oo:Nat}{m:MS}{e:Ev}{J:Store}
theorem RI.set (h:RI code J₀ so oo m e J)(m':MS){e':Ev}{J':Store}(hJ:J'=J.set so (.list (m'.st.map .int)))(ho:m'.o=m.o)(e0:e' 0=e 0)(e1:e' 1=some (.int m'.f))(e2:e' 2=e 2)(e3:e' 3=some (.int m'.b))(e4:e' 4=some (.int m'.pc))(e5:e' 5=e 5):RI code J₀ so oo m' e' J':=by
 subst hJ;exact ⟨e0.trans h.e0,e1,e2.trans h.e2,e3,e4,e5.trans h.e5,get_set h.hs,(List.getElem?_set_ne h.ne).trans (ho.symm▸h.ho),h.ne,h.x.setO h.ns,h.ns,h.no⟩
theorem RI.stay (h:RI code J₀ so oo m e J)(m':MS){e':Ev}(hs:m'.st=m.st)(ho:m'.o=m.o)(e0:e' 0=e 0)(e1:e' 1=some (.int m'.f))(e2:e' 2=e 2)(e3:e' 3=some (.int m'.b))(e4:e' 4=some (.int m'.pc))(e5:e' 5=e 5):RI code J₀ so oo m' e' J:=
 ⟨e0.trans h.e0,e1,e2.trans h.e2,e3,e4,e5.trans h.e5,hs.symm▸h.hs,ho.symm▸h.ho,h.ne,h.x,h.ns,h.no⟩
theorem lenm {st:List Int}(hl:st.length<900000):(st.map AV.int).length<lid:=by rw [Ah]; exact lidlt hl
theorem stS {J:Store}{st:List Int}{v:Int}:J.set so (.list (st.map AV.int++[.int v]))=J.set so (.list ((st++[v]).map .int)):=by rw [mapS]
theorem stS2 {J:Store}{st:List Int}{v:Int}{m:MO}:(J.set so m).set so (.list (st.map AV.int++[.int v]))=J.set so (.list ((st++[v]).map .int)):=by rw [List.set_set,mapS]
theorem map_set:∀ (st:List Int) (k:Nat) (v:Int),(st.map AV.int).set k (.int v)=(st.set k v).map .int
 | [],_,_=>rfl
 | _::_,0,_=>rfl
 | x::st,k+1,v=>congrArg (_::·) (map_set st k v)
theorem ix_last {n:Nat}:ixOf (-1) (n+1)=some n:=by
 unfold ixOf;rw [if_neg (by decide),if_pos (by lia)];exact congrArg some (by lia)
theorem last_st {J:Store}{st:List Int}{v:Int}{Q:AV->Prop}(hs:J[so]?=some (.list ((st++[v]).map .int)))(q:Q (.int v)):idxW (.obj so) (.int (-1)) J Q:=by
 refine idx_ok (k:=st.length) hs (by rw [Ah,Ac]; exact ix_last) ?_ q;rw [List.getElem?_map,List.getElem?_concat_length]; rfl
theorem setlast_st {J:Store}{st:List Int}{v w:Int}{P:QX}(hs:J[so]?=some (.list ((st++[v]).map .int)))(q:P (J.set so (.list ((st++[w]).map .int)))):setIdxW (.obj so) (.int (-1)) (.int w) J P:=by
 rw [← mapS] at hs q;refine lst_ok hs (opt_ok (a:=(st.map AV.int).length) (by rw [Ac]; exact ix_last) ?_);rw [List.set_append_right _ _ (Aj _),Nat.sub_self]; exact q
noncomputable def chain25:Ss:=match ir25b0 with
 | .cons _ (.cons _ (.cons _ r))=>r
 | _=>.nil
theorem RI.enter {C:Calls}(r:RI code J₀ so oo m e J){i:In}(hi:code[m.pc]?=some i){QQ:QF}{XX:XS}
  (h:idxW i.av (.int 0) J fun k=>ssW T C chain25 (upd (upd (upd e 6 i.av) 4 (.int (m.pc+1:Nat))) 7 k) J QQ XX):ssW T C ir25b0 e J QQ XX:=by
 refine var_ok r.e0 ?_;refine var_ok r.e4 ?_;refine opt_ok (ix_nat (by rw [Ah]; exact (Ai hi).1)) ?_;refine opt_ok (a:=i.av) (by rw [List.getElem?_map,hi]; rfl) ?_;refine var_ok (e:=upd e 6 _) (i:=4) r.e4 ?_;exact h
end
section
variable {T:Stat}{D:Nat->Option FDef}{code:List In}{J₀:Store}{so oo:Nat}{st:List Int}{b pc:Nat}{o:List Int}{f:Int}{e:Ev}{J:Store}{n:Nat}{QQ:QF}{XX:XS}
theorem it_lit {k:Nat}(hl:st.length<900000)(r:RI code J₀ so oo ⟨st,b,pc,o,f⟩ e J)(hi:code[pc]?=some (.lit k))(q:∀ e' J',RI code J₀ so oo ⟨st++[(k:Int)],b,pc+1,o,f⟩ e' J'->QQ .next e' J'):ssW T (callW T D n) ir25b0 e J QQ XX:=by
 refine r.enter hi ?_;refine var_ok (e:=upd (upd (upd e 6 _) 4 _) 7 _) (i:=2) r.e2 ?_;refine lst_ok r.hs ?_;refine lst_ok r.hs ⟨lenm hl,?_⟩;exact q _ _ (r.set ⟨st++[(k:Int)],b,pc+1,o,f⟩ stS rfl rfl r.e1 rfl r.e3 rfl rfl)
theorem it_lod {l a b':Nat}{v:Int}(K:Core T D)(hn:1<=n)(hl:st.length<900000)(hf:frameOf st l b=some b')(hv:st[b'+a]?=some v)(r:RI code J₀ so oo ⟨st,b,pc,o,f⟩ e J)(hi:code[pc]?=some (.lod l a))(q:∀ e' J',RI code J₀ so oo ⟨st++[v],b,pc+1,o,f⟩ e' J'->QQ .next e' J'):ssW T (callW T D n) ir25b0 e J QQ XX:=by
 refine r.enter hi ?_;refine var_ok (e:=upd (upd (upd e 6 _) 4 _) 7 _) (i:=2) r.e2 ?_;refine lst_ok r.hs ?_;refine var_ok (e:=upd (upd (upd e 6 _) 4 _) 7 _) (i:=2) r.e2 ?_;refine var_ok (e:=upd (upd (upd e 6 _) 4 _) 7 _) (i:=2) r.e2 ?_;refine var_ok (e:=upd (upd (upd e 6 _) 4 _) 7 _) (i:=3) r.e3 ?_;refine ⟨K.ck 23 rfl rfl,?_⟩;refine frame_sp K hn r.hs hf ?_;refine idx_ints (k:=b'+a) r.hs hv ?_;refine lst_ok r.hs ⟨lenm hl,?_⟩;exact q _ _ (r.set ⟨st++[v],b,pc+1,o,f⟩ stS rfl rfl r.e1 rfl r.e3 rfl rfl)
theorem it_lda {l a b':Nat}(K:Core T D)(hn:1<=n)(hl:st.length<900000)(hf:frameOf st l b=some b')(r:RI code J₀ so oo ⟨st,b,pc,o,f⟩ e J)(hi:code[pc]?=some (.lda l a))(q:∀ e' J',RI code J₀ so oo ⟨st++[((b'+a:Nat):Int)],b,pc+1,o,f⟩ e' J'->QQ .next e' J'):ssW T (callW T D n) ir25b0 e J QQ XX:=by
 refine r.enter hi ?_;refine var_ok (e:=upd (upd (upd e 6 _) 4 _) 7 _) (i:=2) r.e2 ?_;refine lst_ok r.hs ?_;refine var_ok (e:=upd (upd (upd e 6 _) 4 _) 7 _) (i:=2) r.e2 ?_;refine var_ok (e:=upd (upd (upd e 6 _) 4 _) 7 _) (i:=3) r.e3 ?_;refine ⟨K.ck 23 rfl rfl,?_⟩;refine frame_sp K hn r.hs hf ?_;refine lst_ok r.hs ⟨lenm hl,?_⟩;exact q _ _ (r.set ⟨st++[((b'+a:Nat):Int)],b,pc+1,o,f⟩ stS rfl rfl r.e1 rfl r.e3 rfl rfl)
theorem it_sto {l a b':Nat}{v:Int}(K:Core T D)(hn:1<=n)(hf:frameOf st l b=some b')(hv:b'+a<st.length)(r:RI code J₀ so oo ⟨st++[v],b,pc,o,f⟩ e J)(hi:code[pc]?=some (.sto l a))(q:∀ e' J',RI code J₀ so oo ⟨st.set (b'+a) v,b,pc+1,o,f⟩ e' J'->QQ .next e' J'):ssW T (callW T D n) ir25b0 e J QQ XX:=by
 refine r.enter hi ?_;refine var_ok (e:=upd (upd (upd e 6 _) 4 _) 7 _) (i:=2) r.e2 ?_;refine lst_ok r.hs ?_;refine lst_ok r.hs ⟨_,_,(mapS st v).symm,?_⟩;have hs1:=get_set (m:=.list (st.map AV.int)) r.hs;refine var_ok (e:=upd (upd (upd (upd e 6 _) 4 _) 7 _) 8 _) (i:=2) r.e2 ?_;refine var_ok (e:=upd (upd (upd (upd e 6 _) 4 _) 7 _) 8 _) (i:=2) r.e2 ?_;refine var_ok (e:=upd (upd (upd (upd e 6 _) 4 _) 7 _) 8 _) (i:=3) r.e3 ?_;refine ⟨K.ck 23 rfl rfl,?_⟩;refine frame_sp K hn hs1 hf ?_;refine lst_ok hs1 ?_;refine opt_ok (o:=ixOf ((b'+a:Nat):Int) _) (ix_nat (by rw [Ah]; exact hv)) ?_;exact q _ _ (r.set ⟨st.set (b'+a) v,b,pc+1,o,f⟩ (by rw [List.set_set,map_set]) rfl rfl r.e1 rfl r.e3 rfl rfl)
theorem it_ldi {a:Nat}{v:Int}(hl:st.length<900000)(hv:st[a]?=some v)(r:RI code J₀ so oo ⟨st++[(a:Int)],b,pc,o,f⟩ e J)(hi:code[pc]?=some (.ldi))(q:∀ e' J',RI code J₀ so oo ⟨st++[v],b,pc+1,o,f⟩ e' J'->QQ .next e' J'):ssW T (callW T D n) ir25b0 e J QQ XX:=by
 refine r.enter hi ?_;refine var_ok (e:=upd (upd (upd e 6 _) 4 _) 7 _) (i:=2) r.e2 ?_;refine lst_ok r.hs ?_;refine var_ok (e:=upd (upd (upd e 6 _) 4 _) 7 _) (i:=2) r.e2 ?_;refine var_ok (e:=upd (upd (upd e 6 _) 4 _) 7 _) (i:=2) r.e2 ?_;refine lst_ok r.hs ?_;refine lst_ok r.hs ⟨_,_,(mapS st a).symm,?_⟩;have hs1:=get_set (m:=.list (st.map AV.int)) r.hs;refine idx_ints hs1 hv ?_;refine lst_ok hs1 ⟨lenm hl,?_⟩;exact q _ _ (r.set ⟨st++[v],b,pc+1,o,f⟩ stS2 rfl rfl r.e1 rfl r.e3 rfl rfl)
theorem it_sti {a:Nat}{v:Int}(hv:a<st.length)(r:RI code J₀ so oo ⟨st++[(a:Int)]++[v],b,pc,o,f⟩ e J)(hi:code[pc]?=some (.sti))(q:∀ e' J',RI code J₀ so oo ⟨st.set a v,b,pc+1,o,f⟩ e' J'->QQ .next e' J'):ssW T (callW T D n) ir25b0 e J QQ XX:=by
 refine r.enter hi ?_;refine var_ok (e:=upd (upd (upd e 6 _) 4 _) 7 _) (i:=2) r.e2 ?_;refine lst_ok r.hs ?_;refine lst_ok r.hs ⟨_,_,(mapS _ v).symm,?_⟩;have hs1:=get_set (m:=.list ((st++[(a:Int)]).map AV.int)) r.hs;refine var_ok (e:=upd (upd (upd (upd e 6 _) 4 _) 7 _) 8 _) (i:=2) r.e2 ?_;refine var_ok (e:=upd (upd (upd (upd e 6 _) 4 _) 7 _) 8 _) (i:=2) r.e2 ?_;refine lst_ok hs1 ?_;refine lst_ok hs1 ⟨_,_,(mapS st a).symm,?_⟩;have hs2:=get_set (m:=.list (st.map AV.int)) hs1;refine lst_ok hs2 ?_;refine opt_ok (ix_nat (by rw [Ah]; exact hv)) ?_;exact q _ _ (r.set ⟨st.set a v,b,pc+1,o,f⟩ (by rw [List.set_set,List.set_set,map_set]) rfl rfl r.e1 rfl r.e3 rfl rfl)
theorem it_chk {k:Nat}{v:Int}(h0:0<=v)(h1:v<(k:Int))(r:RI code J₀ so oo ⟨st++[v],b,pc,o,f⟩ e J)(hi:code[pc]?=some (.chk k))(q:∀ e' J',RI code J₀ so oo ⟨st++[v],b,pc+1,o,f⟩ e' J'->QQ .next e' J'):ssW T (callW T D n) ir25b0 e J QQ XX:=by
 refine r.enter hi ?_;refine var_ok (e:=upd (upd (upd e 6 _) 4 _) 7 _) (i:=2) r.e2 ?_;refine last_st r.hs ?_;refine if_t (b:=decide (0<=v)) (decide_eq_true h0) ?_;refine if_f (b:=!decide (v<(k:Int))) (by rw [decide_eq_true h1]; rfl) ?_;exact q _ _ (r.stay ⟨st++[v],b,pc+1,o,f⟩ rfl rfl rfl r.e1 rfl r.e3 rfl rfl)
theorem it_chkE {k:Nat}{v:Int}(h0:¬ (0<=v∧v<(k:Int)))(r:RI code J₀ so oo ⟨st++[v],b,pc,o,f⟩ e J)(hi:code[pc]?=some (.chk k))(q:∀ e J,XX e J):ssW T (callW T D n) ir25b0 e J QQ XX:=by
 refine r.enter hi ?_;refine var_ok (e:=upd (upd (upd e 6 _) 4 _) 7 _) (i:=2) r.e2 ?_;refine last_st r.hs ?_;refine ifd_ok (fun h=>?_) fun h=>?_
 ·refine if_t (b:=!decide (v<(k:Int))) (by rw [decide_eq_false fun h'=>h0 ⟨h,h'⟩]; rfl) ?_;exact q _ _
 ·exact q _ _
theorem it_neg {v:Int}(r:RI code J₀ so oo ⟨st++[v],b,pc,o,f⟩ e J)(hi:code[pc]?=some (.opr kNeg))(q:∀ e' J',RI code J₀ so oo ⟨st++[-v],b,pc+1,o,f⟩ e' J'->QQ .next e' J'):ssW T (callW T D n) ir25b0 e J QQ XX:=by
 refine r.enter hi ?_;refine var_ok (e:=upd (upd (upd (upd e 6 _) 4 _) 7 _) 9 _) (i:=2) r.e2 ?_;refine last_st r.hs ?_;refine var_ok (e:=upd (upd (upd (upd e 6 _) 4 _) 7 _) 9 _) (i:=2) r.e2 ?_;refine setlast_st r.hs ?_;exact q _ _ (r.set ⟨st++[-v],b,pc+1,o,f⟩ rfl rfl rfl r.e1 rfl r.e3 rfl rfl)
theorem it_odd {v:Int}(r:RI code J₀ so oo ⟨st++[v],b,pc,o,f⟩ e J)(hi:code[pc]?=some (.opr kOdd))(q:∀ e' J',RI code J₀ so oo ⟨st++[v.fmod 2],b,pc+1,o,f⟩ e' J'->QQ .next e' J'):ssW T (callW T D n) ir25b0 e J QQ XX:=by
 refine r.enter hi ?_;refine var_ok (e:=upd (upd (upd (upd e 6 _) 4 _) 7 _) 9 _) (i:=2) r.e2 ?_;refine last_st r.hs ?_;refine ⟨rfl,?_⟩;refine var_ok (e:=upd (upd (upd (upd e 6 _) 4 _) 7 _) 9 _) (i:=2) r.e2 ?_;refine setlast_st r.hs ?_;exact q _ _ (r.set ⟨st++[v.fmod 2],b,pc+1,o,f⟩ rfl rfl rfl r.e1 rfl r.e3 rfl rfl)
theorem ops_ne2 {o:Tx}(h:memTx o ops=true):txEq o kNeg=false∧txEq o kOdd=false:=by
 unfold ops at h
 iterate 11 (rcases mem_cases h with rfl | h; · exact ⟨rfl,rfl⟩)
 cases h
theorem it_op2 {s:Tx}{x y:Int}(hm:memTx s ops=true)(r:RI code J₀ so oo ⟨st++[x]++[y],b,pc,o,f⟩ e J)(hi:code[pc]?=some (.opr s))(K:Core T D)
  (h:∀ e',(∀ i,i≠4->i≠6->i≠7->i≠9->i≠10->i≠11->e' i=e i)->e' 4=some (.int (pc+1:Nat))->callW T D n 24 [.str s,.int x,.int y] ((J.set so (.list ((st++[x]).map AV.int))).set so (.list (st.map AV.int))) (fun v J=>bmW .append (.obj so) [v] J fun _ J=>QQ .next e' J) (XX e')):ssW T (callW T D n) ir25b0 e J QQ XX:=by
 obtain ⟨m1,m2⟩:=ops_ne2 hm;refine r.enter hi ?_;refine if_f (b:=txEq s kNeg) m1 ?_;refine if_f (b:=txEq s kOdd) m2 ?_;refine var_ok (e:=upd (upd (upd (upd e 6 _) 4 _) 7 _) 9 _) (i:=2) r.e2 ?_;refine lst_ok r.hs ?_;refine lst_ok r.hs ⟨_,_,(mapS _ y).symm,?_⟩;have hs1:=get_set (m:=.list ((st++[x]).map AV.int)) r.hs;refine var_ok (e:=upd (upd (upd (upd (upd e 6 _) 4 _) 7 _) 9 _) 10 _) (i:=2) r.e2 ?_;refine lst_ok hs1 ?_;refine lst_ok hs1 ⟨_,_,(mapS st x).symm,?_⟩;have hs2:=get_set (m:=.list (st.map AV.int)) hs1;refine var_ok (e:=upd (upd (upd (upd (upd (upd e 6 _) 4 _) 7 _) 9 _) 10 _) 11 _) (i:=2) r.e2 ?_;refine lst_ok hs2 ?_;refine ⟨K.ck 24 rfl rfl,?_⟩;exact h (upd (upd (upd (upd (upd (upd e 6 (.tup [.str iOpr,.str s])) 4 _) 7 _) 9 _) 10 _) 11 _) (fun i h4 h6 h7 h9 h10 h11=>(upd_ne i h11).trans ((upd_ne i h10).trans ((upd_ne i h9).trans ((upd_ne i h7).trans ((upd_ne i h4).trans (upd_ne i h6)))))) rfl
theorem it_opr {s:Tx}{x y v:Int}(K:Core T D)(hn:1<=n)(hm:memTx s ops=true)(hl:st.length<900000)(hr:reck s x y=.ok v)(r:RI code J₀ so oo ⟨st++[x]++[y],b,pc,o,f⟩ e J)(hi:code[pc]?=some (.opr s))(q:∀ e' J',RI code J₀ so oo ⟨st++[v],b,pc+1,o,f⟩ e' J'->QQ .next e' J'):ssW T (callW T D n) ir25b0 e J QQ XX:=by
 refine it_op2 hm r hi K fun e' he h4=>reck_sp K hn ?_;rw [hr];have hs2:=get_set (m:=.list (st.map AV.int)) (get_set (m:=.list ((st++[x]).map AV.int)) r.hs);refine lst_ok hs2 ⟨lenm hl,?_⟩;have g:∀ i,i<4∨i=5->e' i=e i:=fun i h=>he i (by lia) (by lia) (by lia) (by lia) (by lia) (by lia);exact q _ _ (r.set ⟨st++[v],b,pc+1,o,f⟩ (by rw [List.set_set]; exact stS2) rfl (g 0 (by decide)) ((g 1 (by decide)).trans r.e1) (g 2 (by decide)) ((g 3 (by decide)).trans r.e3) h4 (g 5 (by decide)))
theorem it_oprE {s:Tx}{x y:Int}(K:Core T D)(hn:1<=n)(hm:memTx s ops=true)(hr:reck s x y=.err)(r:RI code J₀ so oo ⟨st++[x]++[y],b,pc,o,f⟩ e J)(hi:code[pc]?=some (.opr s))(q:∀ e J,XX e J):ssW T (callW T D n) ir25b0 e J QQ XX:=by
 refine it_op2 hm r hi K fun e' he h4=>reck_sp K hn ?_;rw [hr]; exact q _ _
theorem it_jmp {p:Nat}(r:RI code J₀ so oo ⟨st,b,pc,o,f⟩ e J)(hi:code[pc]?=some (.jmp p))(q:∀ e' J',RI code J₀ so oo ⟨st,b,p,o,f⟩ e' J'->QQ .next e' J'):ssW T (callW T D n) ir25b0 e J QQ XX:=by
 refine r.enter hi ?_;exact q _ _ (r.stay ⟨st,b,p,o,f⟩ rfl rfl rfl r.e1 rfl r.e3 rfl rfl)
theorem it_jpc0 {p:Nat}{v:Int}(hv:v=0)(r:RI code J₀ so oo ⟨st++[v],b,pc,o,f⟩ e J)(hi:code[pc]?=some (.jpc p))(q:∀ e' J',RI code J₀ so oo ⟨st,b,p,o,f⟩ e' J'->QQ .next e' J'):ssW T (callW T D n) ir25b0 e J QQ XX:=by
 refine r.enter hi ?_;refine var_ok (e:=upd (upd (upd e 6 _) 4 _) 7 _) (i:=2) r.e2 ?_;refine lst_ok r.hs ?_;refine lst_ok r.hs ⟨_,_,(mapS st v).symm,?_⟩;refine if_t (b:=decide (v=0)) (decide_eq_true hv) ?_;exact q _ _ (r.set ⟨st,b,p,o,f⟩ rfl rfl rfl r.e1 rfl r.e3 rfl rfl)
theorem it_jpc1 {p:Nat}{v:Int}(hv:v≠0)(r:RI code J₀ so oo ⟨st++[v],b,pc,o,f⟩ e J)(hi:code[pc]?=some (.jpc p))(q:∀ e' J',RI code J₀ so oo ⟨st,b,pc+1,o,f⟩ e' J'->QQ .next e' J'):ssW T (callW T D n) ir25b0 e J QQ XX:=by
 refine r.enter hi ?_;refine var_ok (e:=upd (upd (upd e 6 _) 4 _) 7 _) (i:=2) r.e2 ?_;refine lst_ok r.hs ?_;refine lst_ok r.hs ⟨_,_,(mapS st v).symm,?_⟩;refine if_f (b:=decide (v=0)) (decide_eq_false hv) ?_;exact q _ _ (r.set ⟨st,b,pc+1,o,f⟩ rfl rfl rfl r.e1 rfl r.e3 rfl rfl)
theorem it_int {k:Nat}(hl:st.length+k<=900000)(r:RI code J₀ so oo ⟨st,b,pc,o,f⟩ e J)(hi:code[pc]?=some (.int k))(q:∀ e' J',RI code J₀ so oo ⟨st++List.replicate k 0,b,pc+1,o,f⟩ e' J'->QQ .next e' J'):ssW T (callW T D n) ir25b0 e J QQ XX:=by
 refine r.enter hi ?_;have hk:k<=lid:=Aa (Ar _ _) (Aa hl (by decide));refine var_ok (e:=upd (upd (upd e 6 _) 4 _) 7 _) (i:=2) r.e2 ?_;refine lst_ok get_top ⟨0,rfl,Av _,Int.ofNat_le.mpr hk,?_⟩;have hs1:=get_push (m:=.list (List.replicate (k:Int).toNat (.int 0))) (get_push (m:=.list [.int 0]) r.hs);refine lst_ok hs1 ?_;refine lst_ok get_top ⟨Nat.ne_of_lt (An (Ai r.hs).1 (by rw [Ac]; exact Af _ _)),?_,?_⟩
 ·rw [Ah,List.length_replicate]; exact Aa hl (by decide)
 have r1:RI code J₀ so oo ⟨st,b,pc,o,f⟩ e (J++[.list [.int 0]]++[.list (List.replicate (k:Int).toNat (.int 0))]):=⟨r.e0,r.e1,r.e2,r.e3,r.e4,r.e5,hs1,get_push (get_push r.ho),r.ne,r.x.push.push,r.ns,r.no⟩;exact q _ _ (r1.set ⟨st++List.replicate k 0,b,pc+1,o,f⟩ (by rw [List.map_append,List.map_replicate]; rfl) rfl rfl r.e1 r.e2.symm r.e3 rfl rfl)
theorem it_cal {as:List Int}{l a k b':Nat}(K:Core T D)(hn:1<=n)(hk:as.length=k)(hl:(st++as).length<=900000)(hf:frameOf (st++as) l b=some b')(r:RI code J₀ so oo ⟨st++as,b,pc,o,f⟩ e J)(hi:code[pc]?=some (.cal l a k))(q:∀ e' J',RI code J₀ so oo ⟨st++[(b':Int),(b:Int),((pc+1:Nat):Int)]++as,st.length,a,o,f⟩ e' J'->QQ .next e' J'):ssW T (callW T D n) ir25b0 e J QQ XX:=by
 refine r.enter hi ?_;refine var_ok (e:=upd (upd (upd (upd e 6 _) 4 _) 7 _) 12 _) (i:=2) r.e2 ?_;refine lst_ok r.hs ?_;have hat:(((st++as).map AV.int).length:Int)-(k:Int)=(st.length:Int):=by rw [Ah,Ac,hk]; exact (show ((st.length:Int)+(k:Int))-k=_ from Int.add_sub_cancel _ _)
 refine var_ok (e:=upd (upd (upd (upd (upd e 6 _) 4 _) 7 _) 12 _) 13 _) (i:=2) r.e2 ?_;refine var_ok (e:=upd (upd (upd (upd (upd e 6 _) 4 _) 7 _) 12 _) 13 _) (i:=3) r.e3 ?_;refine ⟨K.ck 23 rfl rfl,?_⟩;refine frame_sp K hn r.hs hf ?_;refine var_ok (e:=upd (upd (upd (upd (upd (upd e 6 _) 4 _) 7 _) 12 _) 13 _) 14 _) (i:=3) r.e3 ?_;refine var_ok (e:=upd (upd (upd (upd (upd (upd e 6 _) 4 _) 7 _) 12 _) 13 _) 14 _) (i:=2) r.e2 ?_;have hs1:=get_push (m:=.list [.int (b':Int),.int (b:Int),.int ((pc+1:Nat):Int)]) r.hs;refine lst_ok hs1 ?_;refine lst_ok get_top ⟨Nat.ne_of_lt (Ai r.hs).1,rfl,?_,?_,?_,?_⟩
 ·rw [hat]; exact Av _
 ·rw [hat,Ah,Ac]; exact Int.ofNat_le.mpr (Af _ _)
 ·rw [Ah]; exact Aa (Al hl 3) (by decide)
 have r1:RI code J₀ so oo ⟨st++as,b,pc,o,f⟩ e (J++[.list [.int (b':Int),.int (b:Int),.int ((pc+1:Nat):Int)]]):=⟨r.e0,r.e1,r.e2,r.e3,r.e4,r.e5,hs1,get_push r.ho,r.ne,r.x.push,r.ns,r.no⟩;refine q _ _ (r1.set ⟨st++[(b':Int),(b:Int),((pc+1:Nat):Int)]++as,st.length,a,o,f⟩ ?_ rfl rfl r.e1 rfl (congrArg (fun i=>some (AV.int i)) hat) rfl rfl);rw [hat,Int.toNat_natCast,List.map_append,← Ah (as:=st) AV.int,List.take_left,List.drop_left,List.map_append,List.map_append]; rfl
theorem it_ret {st':List Int}{l:Int}{b' p':Nat}(hb:b=st.length)(h0:b≠0)(r:RI code J₀ so oo ⟨st++[l,(b':Int),(p':Int)]++st',b,pc,o,f⟩ e J)(hi:code[pc]?=some .ret)(q:∀ e' J',RI code J₀ so oo ⟨st,b',p',o,f⟩ e' J'->QQ .next e' J'):ssW T (callW T D n) ir25b0 e J QQ XX:=by
 subst hb;have i1:(st++[l,(b':Int),(p':Int)]++st')[st.length+1]?=some (b':Int):=by rw [Ae,List.getElem?_append_right (Af _ _),Nat.add_sub_cancel_left]; rfl
 have i2:(st++[l,(b':Int),(p':Int)]++st')[st.length+2]?=some (p':Int):=by rw [Ae,List.getElem?_append_right (Af _ _),Nat.add_sub_cancel_left]; rfl
 refine r.enter hi ?_;refine var_ok (e:=upd (upd (upd e 6 _) 4 _) 7 _) (i:=3) r.e3 ?_;refine if_f (b:=decide ((st.length:Int)=0)) (decide_eq_false fun q=>h0 (Int.ofNat.inj q)) ?_;refine var_ok (e:=upd (upd (upd e 6 _) 4 _) 7 _) (i:=2) r.e2 ?_;refine var_ok (e:=upd (upd (upd e 6 _) 4 _) 7 _) (i:=3) r.e3 ?_;refine idx_ints (k:=st.length+1) r.hs i1 ?_;refine var_ok (e:=upd (upd (upd e 6 _) 4 _) 7 _) (i:=2) r.e2 ?_;refine var_ok (e:=upd (upd (upd e 6 _) 4 _) 7 _) (i:=3) r.e3 ?_;refine idx_ints (k:=st.length+2) r.hs i2 ?_;refine var_ok (e:=upd (upd (upd (upd (upd e 6 _) 4 _) 7 _) 10 (.int b')) 15 (.int p')) (i:=2) r.e2 ?_;refine var_ok (e:=upd (upd (upd (upd (upd e 6 _) 4 _) 7 _) 10 (.int b')) 15 (.int p')) (i:=3) r.e3 ?_;refine lst_ok r.hs ⟨Av _,?_,?_⟩
 ·rw [Ah,Ae,Ac]; exact Int.ofNat_le.mpr (Af _ _)
 refine q _ _ (r.set ⟨st,b',p',o,f⟩ ?_ rfl rfl r.e1 rfl rfl rfl rfl);rw [Int.toNat_natCast,Ae,List.map_append,← Ah (as:=st) AV.int,List.take_left]
theorem it_done (r:RI code J₀ so oo ⟨st,0,pc,o,f⟩ e J)(hi:code[pc]?=some .ret)(q:∀ e' J',Ext J₀ J'->QQ (.ret (.tup (o.map .int))) e' J'):ssW T (callW T D n) ir25b0 e J QQ XX:=by
 refine r.enter hi ?_;refine var_ok (e:=upd (upd (upd e 6 _) 4 _) 7 _) (i:=3) r.e3 ?_;refine var_ok (e:=upd (upd (upd e 6 _) 4 _) 7 _) (i:=5) r.e5 ?_;refine lst_ok r.ho ?_;exact q _ _ r.x
theorem it_wrt {v:Int}(hl:o.length<900000)(r:RI code J₀ so oo ⟨st++[v],b,pc,o,f⟩ e J)(hi:code[pc]?=some .wrt)(q:∀ e' J',RI code J₀ so oo ⟨st,b,pc+1,o++[v],f⟩ e' J'->QQ .next e' J'):ssW T (callW T D n) ir25b0 e J QQ XX:=by
 refine r.enter hi ?_;refine var_ok (e:=upd (upd (upd e 6 _) 4 _) 7 _) (i:=5) r.e5 ?_;refine lst_ok r.ho ?_;refine var_ok (e:=upd (upd (upd e 6 _) 4 _) 7 _) (i:=2) r.e2 ?_;refine lst_ok r.hs ?_;refine lst_ok r.hs ⟨_,_,(mapS st v).symm,?_⟩;have hs1:=get_set (m:=.list (st.map AV.int)) r.hs;have ho1:=(List.getElem?_set_ne (a:=.list (st.map AV.int)) r.ne).trans r.ho;refine lst_ok ho1 ⟨lenm hl,?_⟩;exact q _ _ ⟨r.e0,r.e1,r.e2,r.e3,rfl,r.e5,(List.getElem?_set_ne r.ne.symm).trans hs1,by rw [get_set ho1,mapS],r.ne,(r.x.setO r.ns).setO r.no,r.ns,r.no⟩
theorem it_tick (hf:1<=f)(r:RI code J₀ so oo ⟨st,b,pc,o,f⟩ e J)(hi:code[pc]?=some .tick)(q:∀ e' J',RI code J₀ so oo ⟨st,b,pc+1,o,f-1⟩ e' J'->QQ .next e' J'):ssW T (callW T D n) ir25b0 e J QQ XX:=by
 refine r.enter hi ?_;refine var_ok (e:=upd (upd (upd e 6 _) 4 _) 7 _) (i:=1) r.e1 ?_;refine if_f (b:=decide (f-1<0)) (decide_eq_false (by lia)) ?_;exact q _ _ (r.stay ⟨st,b,pc+1,o,f-1⟩ rfl rfl rfl rfl rfl r.e3 rfl rfl)
theorem it_tickE (hf:f<1)(r:RI code J₀ so oo ⟨st,b,pc,o,f⟩ e J)(hi:code[pc]?=some .tick)(q:∀ e J,XX e J):ssW T (callW T D n) ir25b0 e J QQ XX:=by
 refine r.enter hi ?_;refine var_ok (e:=upd (upd (upd e 6 _) 4 _) 7 _) (i:=1) r.e1 ?_;refine if_t (b:=decide (f-1<0)) (decide_eq_true (by lia)) ?_;exact q _ _
end
section
variable {T:Stat}{D:Nat->Option FDef}
theorem mth_ok {J:Store}{r c f:Nat}{fs:List (At×AV)}{P:Nat->Prop}(h:J[r]?=some (.inst c fs))(hc:T.clsOf f=some c)(p:P r):methW T f (.obj r) J P:=by
 unfold methW; exact ⟨_,_,_,rfl,h,hc,p⟩
def RQ (res:Option (List Int))(J₀:Store)(QQ:QF)(XX:XS):Prop:=match res with
 | some o=>∀ e' J',Ext J₀ J'->QQ (.ret (.tup (o.map .int))) e' J'
 | Option.none=>∀ e J,XX e J
theorem runL_sp (K:Core T D){n:Nat}(hn:1<=n){code:List In}{J₀:Store}{so oo:Nat}{QQ:QF}{XX:XS}{m:MS}{res:Option (List Int)}(h:Fin code m res)
  (hq:RQ res J₀ QQ XX):∃ k,∀ e J,RI code J₀ so oo m e J->whlW (evW T (callW T D n) ir25c0) (ssW T (callW T D n) ir25b0) k e J QQ XX:=by
 induction h with
 | step s _ ih=>
  obtain ⟨k,hk⟩:=ih hq;refine ⟨k+1,fun e J r=>?_⟩;cases s with
  | lit hi hl=>exact it_lit hl r hi hk
  | lod hi hl hf hv=>exact it_lod K hn hl hf hv r hi hk
  | lda hi hl hf=>exact it_lda K hn hl hf r hi hk
  | sto hi hf hv=>exact it_sto K hn hf hv r hi hk
  | ldi hi hl hv=>exact it_ldi hl hv r hi hk
  | sti hi hv=>exact it_sti hv r hi hk
  | chk hi h0 h1=>exact it_chk h0 h1 r hi hk
  | neg hi=>exact it_neg r hi hk
  | odd hi=>exact it_odd r hi hk
  | opr hi hm hl hr=>exact it_opr K hn hm hl hr r hi hk
  | jmp hi=>exact it_jmp r hi hk
  | jpc0 hi hv=>exact it_jpc0 hv r hi hk
  | jpc1 hi hv=>exact it_jpc1 hv r hi hk
  | int hi hl=>exact it_int hl r hi hk
  | cal hi hk' hl hf=>exact it_cal K hn hk' hl hf r hi hk
  | ret hi hb h0=>exact it_ret hb h0 r hi hk
  | wrt hi hl=>exact it_wrt hl r hi hk
  | tick hi hf=>exact it_tick hf r hi hk
 | last s=>
  refine ⟨1,fun e J r=>?_⟩;cases s with
  | chk hi h0=>exact it_chkE h0 r hi hq
  | opr hi hm hr=>exact it_oprE K hn hm hr r hi hq
  | done hi=>exact it_done r hi hq
  | tick hi hf=>exact it_tickE hf r hi hq
def RSp (res:Option (List Int))(J:Store)(Q:QV)(X:QX):Prop:=match res with
 | some o=>∀ J',Ext J J'->Q (.tup (o.map .int)) J'
 | Option.none=>∀ J',X J'
theorem run_sp (K:Core T D){n:Nat}(hn:2<=n){code:List In}{f:Int}{res:Option (List Int)}{J:Store}{Q:QV}{X:QX}(h:Fin code ⟨[0,0,0],0,0,[],f⟩ res)(hq:RSp res J Q X):callW T D n 25 [.tup (code.map In.av),.int f] J Q X:=by
 obtain ⟨n,rfl⟩:=ge1 (Ap hn);refine ⟨ir25,K.dk 25 rfl rfl,rfl,?_⟩;have hoo:(J++[MO.list [.int 0,.int 0,.int 0]]).length=J.length+1:=Ac;obtain ⟨k,hk⟩:=runL_sp (J₀:=J) (so:=J.length) (oo:=(J++[MO.list [.int 0,.int 0,.int 0]]).length) (n:=n) (QQ:=fun fl _ J1=>match fl with
  | .ret v=>Q v J1
  | .next=>Q .none J1
  | _=>False) (XX:=fun _ J'=>X J') K (Am hn) h (by
  cases res with
  | some o=>exact fun e' J' x=>hq _ x
  | none=>exact fun e J'=>hq _)
 exact ⟨k,hk _ _ ⟨rfl,rfl,rfl,rfl,rfl,rfl,get_push get_top,get_top,by rw [hoo]; exact Nat.ne_of_lt (Nat.lt_succ_self _),(Ext.refl J).push.push,Aj _,by rw [hoo]; exact Nat.le_succ _⟩⟩
noncomputable def compT (b:Bl):R (List In):=match b.wf false&&Nat.ble b.fu 120&&Nat.ble b.sz 100000 with
 | true=>cBlock [] 0 [] b
 | false=>.bot
theorem comp_sp (K:Core T D){n:Nat}(hn:125<=n){x:Tx}{b:Bl}{J:Store}{Q:QV}{X:QX}(h:ASp (fun c:List In=>.tup (c.map In.av)) (compT b) J Q X):callW T D n 22 [progAv (x,b)] J Q X:=by
 obtain ⟨n,rfl⟩:=ge2 (Aa (by decide) hn);have hn:123<=n:=Am (Am hn);refine ⟨ir22,K.dk 22 rfl rfl,rfl,?_⟩;refine ⟨15,K.i1,K.ck 15 rfl rfl,?_⟩;refine ⟨ir15,K.dk 15 rfl rfl,rfl,?_⟩;have p1:(J++[MO.inst 1 []]++[MO.list []])[J.length]?=some (.inst 1 []):=get_push get_top;refine put_ok p1 ?_;refine ⟨rfl,?_⟩;unfold compT at h;cases hc:b.wf false&&Nat.ble b.fu 120&&Nat.ble b.sz 100000 with
 | false=>rw [hc] at h; exact h.elim
 | true=>
  rw [hc] at h;have hc:=Ab hc;have hc1:=Ab hc.1;have h1:=Ad hc1.2;have h2:=Ad hc.2;have x1:Ext J ((J++[MO.inst 1 []]++[MO.list []]).set J.length (.inst 1 [(.code,.obj (J++[MO.inst 1 []]).length)])):=(Ext.refl J).push.push.setO (Aj _);have ht:(J++[MO.inst 1 []]).length=J.length+1:=Ac;have cx:Cx ⟨J.length,(J++[MO.inst 1 []]).length,((J++[MO.inst 1 []]++[MO.list []]).set J.length (.inst 1 [(.code,.obj (J++[MO.inst 1 []]).length)])).length,[],[],(J++[MO.inst 1 []]++[MO.list []]).set J.length (.inst 1 [(.code,.obj (J++[MO.inst 1 []]).length)])++[MO.list []]⟩ ((J++[MO.inst 1 []]++[MO.list []]).set J.length (.inst 1 [(.code,.obj (J++[MO.inst 1 []]).length)])++[MO.list []]) [] ((0+b.sz)::[]):=by
   have c2:((J++[MO.inst 1 []]++[MO.list []]).set J.length (.inst 1 [(.code,.obj (J++[MO.inst 1 []]).length)])++[MO.list []])[(J++[MO.inst 1 []]).length]?=some (.list []):=get_push ((List.getElem?_set_ne (by rw [ht]; exact Nat.ne_of_lt (Nat.lt_succ_self _))).trans get_top);refine ⟨⟨⟨_,c2⟩,get_push (get_set p1),get_top,trivial,?_,Nat.zero_le _⟩,c2,Keep.refl _ _,?_⟩
   ·show List.length (List.set _ _ _)≠_;rw [List.length_set,Ac]; exact Nat.ne_of_gt (Nat.lt_succ_self _)
   ·rw [List.sum_cons,Nat.zero_add]; exact Aa (Nat.le_of_eq (Nat.zero_add _)) (Aa h2 (by decide))
  refine mth_ok (get_set p1) (K.ck 17 rfl rfl) ?_;refine unm ((bl_all K b).1 hc1.1 (n+1) (Nat.le_succ_of_le (Aa h1 (Aa (by decide) hn))) _ [] 0 [] [] _ _ _ cx (Aa (Nat.le_of_eq (Nat.zero_add _)) (Aa h1 (by decide))) rfl ?_);have h:ASp (fun c:List In=>.tup (c.map In.av)) (cBlock [] 0 [] b) J Q X:=h;revert h;unfold ASp BSp;cases cBlock [] 0 [] b with
  | bot=>exact id
  | err=>exact id
  | ok c=>
   intro h J' k c';refine (cs_code c' ?_ :);refine lst_ok c'.c2 ?_;exact h J' (Keep.ext x1.push (by rw [ht]; exact Nat.le_succ _) c'.kp)
inductive Ev3 (text:Tx)(f:Int):Option (List Int)->Prop
 | run {q:Tx×Bl} {c res}:parseT text=.ok q->compT q.2=.ok c->Fin c ⟨[0,0,0],0,0,[],f⟩ res->Ev3 text f res
 | noParse:parseT text=.err->Ev3 text f Option.none
 | noComp {q:Tx×Bl}:parseT text=.ok q->compT q.2=.err->Ev3 text f Option.none
theorem eval_sp (K:Core T D){n:Nat}(hn:130<=n){text:Tx}{f:Int}{res:Option (List Int)}{J:Store}{Q:QV}{X:QX}(h:Ev3 text f res)(hq:RSp res J Q X):callW T D n 26 [.str text,.int f] J Q X:=by
 obtain ⟨n,rfl⟩:=ge1 (Aa (by decide) hn);have hn:=Am hn;have h125:125<=n:=Aa (by decide) hn;refine ⟨ir26,K.dk 26 rfl rfl,rfl,?_⟩;refine ⟨K.ck 13 rfl rfl,?_⟩;refine parse_sp K (Aa (by decide) hn) ?_;cases h with
 | run hp hc hf=>
  rename_i q c
  rw [hp];intro J1 x1;refine ⟨K.ck 22 rfl rfl,?_⟩;refine comp_sp K h125 ?_;rw [hc];intro J2 x2;refine ⟨K.ck 25 rfl rfl,?_⟩;refine run_sp K (Aa (by decide) hn) hf ?_;revert hq;unfold RSp;cases res with
  | some o=>exact fun hq J3 x3=>hq _ ((x1.trans x2).trans x3)
  | none=>exact id
 | noParse hp=>rw [hp]; exact hq
 | noComp hp hc=>
  rw [hp];intro J1 x1;refine ⟨K.ck 22 rfl rfl,?_⟩;refine comp_sp K h125 ?_;rw [hc];exact hq
end
noncomputable def Frag (code:List In):Nat->List In->Prop
 | _,[]=>True
 | p,i::r=>code[p]?=some i∧Frag code (p+1) r
theorem frag_app {code:List In}:∀ {c d:List In} {p:Nat},Frag code p (c++d)->Frag code p c∧Frag code (p+c.length) d
 | [],d,p,h=>⟨trivial,h⟩
 | i::c,d,p,h=>⟨⟨h.1,(frag_app h.2).1⟩,(show p+(c.length+1)=p+1+c.length from Aw p c.length 1)▸(frag_app h.2).2⟩
theorem frag_self:∀ (c pre post:List In),Frag (pre++c++post) pre.length c
 | [],_,_=>trivial
 | i::c,pre,post=>⟨by rw [Ae,List.getElem?_append_right (Aj _),Nat.sub_self]; rfl,by
  have:=frag_self c (pre++[i]) post;rw [Ac,Ae pre] at this; exact this⟩
noncomputable def plc (st:List Int)(b l a:Nat):R Nat:=match frameOf st l b with
 | some b'=>.ok (b'+a)
 | Option.none=>.bot
noncomputable def rd (st:List Int)(i:Nat):R Int:=match st[i]? with
 | some v=>.ok v
 | Option.none=>.bot
noncomputable def nat?:Int->R Nat
 | .ofNat n=>.ok n
 | .negSucc _=>.bot
noncomputable def evN (sc:List Scope)(st:List Int)(b:Nat)(x:Tx):R Nat:=match findS x sc 0 with
 | some (l,.var a)=>plc st b l a
 | some (l,.ref a)=>(plc st b l a).bind fun i=>(rd st i).bind nat?
 | _=>.bot
noncomputable def evI (sc:List Scope)(st:List Int)(b:Nat)(x:Tx)(i:R Int):R Nat:=match findS x sc 0 with
 | some (l,.arr a z)=>i.bind fun v=>match decide (0<=v∧v<(z:Int)) with
  | true=>(plc st b l a).bind fun k=>.ok (v.toNat+k)
  | false=>.err
 | _=>.bot
noncomputable def evE (sc:List Scope)(st:List Int)(b:Nat):Ex->R Int
 | .int n=>.ok n
 | .name x=>(evN sc st b x).bind fun i=>rd st i
 | .at x e=>(evI sc st b x (evE sc st b e)).bind fun i=>rd st i
 | .neg e=>(evE sc st b e).bind fun v=>.ok (-v)
 | .odd e=>(evE sc st b e).bind fun v=>.ok (v.fmod 2)
 | .bin o a c=>(evE sc st b a).bind fun v=>(evE sc st b c).bind fun w=>reck o v w
def Go {α:Type}(m:R α)(k:α->Prop)(res:Option (List Int)):Prop:=match m with
 | .ok a=>k a
 | .err=>res=Option.none
 | .bot=>False
theorem Go.bind {α β:Type}{m:R α}{f:α->R β}{k:β->Prop}{res:Option (List Int)}(h:Go (m.bind f) k res):Go m (fun a=>Go (f a) k res) res:=by
 cases m<;>exact h
theorem Go.mono {α:Type}{m:R α}{k k':α->Prop}{res:Option (List Int)}(h:Go m k res)(hk:∀ a,k a->k' a):Go m k' res:=by
 cases m with
 | ok a=>exact hk a h
 | err=>exact h
 | bot=>exact h
theorem get_app {st tmp:List Int}{i:Nat}{v:Int}(h:st[i]?=some v):(st++tmp)[i]?=some v:=by
 rw [List.getElem?_append_left (Ai h).1,h]
theorem frameOf_app {st tmp:List Int}:∀ {l b b':Nat},frameOf st l b=some b'->frameOf (st++tmp) l b=some b'
 | 0,b,b',h=>h
 | l+1,b,b',h=>by
  have h:(match st[b]? with
   | some (.ofNat v)=>frameOf st l v
   | _=>Option.none)=some b':=h
  show (match (st++tmp)[b]? with
   | some (.ofNat v)=>frameOf (st++tmp) l v
   | _=>Option.none)=some b'
  revert h;cases hv:st[b]? with
  | none=>intro h; cases h
  | some v=>
   rw [get_app hv];cases v with
   | ofNat n=>exact frameOf_app
   | negSucc n=>intro h; cases h
def Rm (n k:Nat):Prop:=n+k<=800000
theorem Rm.lt {n k:Nat}(h:Rm n k):n<900000:=Ao (Aa (Af _ _) h) (by decide)
theorem Rm.l {n a b:Nat}(h:Rm n (a+b)):Rm n a:=Aa (Ak (Af _ _) _) h
theorem Rm.r {n a b:Nat}(h:Rm n (a+b)):Rm n b:=Aa (Ak (Ar _ _) _) h
theorem Rm.s {n a:Nat}(h:Rm n (a+1)):Rm (n+1) a:=Aa (Nat.le_of_eq (Aw n 1 a)) h
theorem Rm.push {st:List Int}{v:Int}{a:Nat}(h:Rm st.length (a+1)):Rm (st++[v]).length a:=by rw [Ac]; exact h.s
section
variable {code:List In}{b:Nat}{o:List Int}{f:Int}{res:Option (List Int)}{sc:List Scope}
theorem plc_inv {st:List Int}{l a:Nat}{k:Nat->Prop}(h:Go (plc st b l a) k res):∃ b',frameOf st l b=some b'∧k (b'+a):=by
 unfold plc at h;revert h;cases frameOf st l b with
 | none=>exact fun h=>h.elim
 | some b'=>exact fun h=>⟨b',rfl,h⟩
theorem rd_inv {st:List Int}{i:Nat}{k:Int->Prop}(h:Go (rd st i) k res):∃ v,st[i]?=some v∧k v:=by
 unfold rd at h;revert h;cases st[i]? with
 | none=>exact fun h=>h.elim
 | some v=>exact fun h=>⟨v,rfl,h⟩
theorem nat_inv {v:Int}{k:Nat->Prop}(h:Go (nat? v) k res):∃ n:Nat,v=n∧k n:=by
 cases v with
 | ofNat n=>exact ⟨n,rfl,h⟩
 | negSucc n=>exact h.elim
theorem Fin.mv {st:List Int}{p q:Nat}(h:Fin code ⟨st,b,p,o,f⟩ res)(e:p=q):Fin code ⟨st,b,q,o,f⟩ res:=e▸h
theorem nameRun {st tmp:List Int}{x:Tx}{c:List In}{pc:Nat}(hc:cName sc x=.ok c)(hf:Frag code pc c)(hl:Rm (st++tmp).length 2)
  (h:Go ((evN sc st b x).bind fun i=>rd st i) (fun v=>Fin code ⟨st++tmp++[v],b,pc+c.length,o,f⟩ res) res):Fin code ⟨st++tmp,b,pc,o,f⟩ res:=by
 unfold cName at hc;unfold evN at h;revert hc h;rcases findS x sc 0 with _ | ⟨l,a | a | ⟨a,z⟩ | ⟨a,z⟩⟩<;>intro hc h<;>cases hc
 ·obtain ⟨b',h1,h⟩:=plc_inv h.bind;obtain ⟨v,h2,h⟩:=rd_inv h;exact .step (.lod hf.1 hl.lt (frameOf_app h1) (get_app h2)) h
 ·obtain ⟨b',h1,h⟩:=plc_inv h.bind.bind;obtain ⟨v,h2,h⟩:=rd_inv h.bind;obtain ⟨k,rfl,h⟩:=nat_inv h;obtain ⟨w,h3,h⟩:=rd_inv h;exact .step (.lod hf.1 hl.lt (frameOf_app h1) (get_app h2)) (.step (.ldi hf.2.1 hl.lt (get_app h3)) h)
theorem addrNRun {st tmp:List Int}{x:Tx}{c:List In}{pc:Nat}(hc:cAddrN sc x=.ok c)(hf:Frag code pc c)(hl:(st++tmp).length<900000)
  (h:Go (evN sc st b x) (fun i=>Fin code ⟨st++tmp++[(i:Int)],b,pc+c.length,o,f⟩ res) res):Fin code ⟨st++tmp,b,pc,o,f⟩ res:=by
 unfold cAddrN at hc;unfold evN at h;revert hc h;rcases findS x sc 0 with _ | ⟨l,a | a | ⟨a,z⟩ | ⟨a,z⟩⟩<;>intro hc h<;>cases hc
 ·obtain ⟨b',h1,h⟩:=plc_inv h;exact .step (.lda hf.1 hl (frameOf_app h1)) h
 ·obtain ⟨b',h1,h⟩:=plc_inv h.bind;obtain ⟨v,h2,h⟩:=rd_inv h.bind;obtain ⟨k,rfl,h⟩:=nat_inv h;exact .step (.lod hf.1 hl (frameOf_app h1) (get_app h2)) h
def VRun (code:List In)(sc:List Scope)(e:Ex):Prop:=∀ {b:Nat} {o:List Int} {f:Int} {res:Option (List Int)} {st tmp:List Int} {c:List In} {pc:Nat},cVal sc e=.ok c->Frag code pc c->Rm (st++tmp).length e.sz->
 Go (evE sc st b e) (fun v=>Fin code ⟨st++tmp++[v],b,pc+c.length,o,f⟩ res) res->Fin code ⟨st++tmp,b,pc,o,f⟩ res
theorem ln1 {p:Nat}{c d:List In}{k:Nat}(h:d.length=k):p+(c++d).length=p+c.length+k:=by rw [Ac,h,Nat.add_assoc]
theorem atRun {st tmp:List Int}{x:Tx}{e:Ex}(he:VRun code sc e){c:List In}{pc:Nat}(hc:cAt sc x (cVal sc e)=.ok c)(hf:Frag code pc c)(hl:Rm (st++tmp).length (e.sz+3))
  (h:Go (evI sc st b x (evE sc st b e)) (fun i=>Fin code ⟨st++tmp++[(i:Int)],b,pc+c.length,o,f⟩ res) res):Fin code ⟨st++tmp,b,pc,o,f⟩ res:=by
 unfold cAt at hc;unfold evI at h;revert hc h;rcases findS x sc 0 with _ | ⟨l,a | a | ⟨a,z⟩ | ⟨a,z⟩⟩<;>intro hc h
 case some.arr=>
  obtain ⟨d,h1,h2⟩:=R.bind_ok hc;cases h2;obtain ⟨f1,f2⟩:=frag_app hf;refine he h1 f1 hl.l (h.bind.mono fun v h=>?_);revert h;cases hv:decide (0<=v∧v<(z:Int)) with
  | true=>
   intro h;have hv:=Ax hv;obtain ⟨b',h3,h⟩:=plc_inv (Go.bind h);have h:Fin code ⟨st++tmp++[((v.toNat+(b'+a):Nat):Int)],b,pc+(d++[In.chk z,In.lda l a,In.opr wPlus]).length,o,f⟩ res:=h;have e1:((v.toNat+(b'+a):Nat):Int)=v+((b'+a:Nat):Int):=by rw [Int.natCast_add,Int.toNat_of_nonneg hv.1]
   rw [e1] at h;have l2:(st++tmp++[v]).length<900000:=(Rm.push (a:=0) (hl.r (b:=3).l (a:=1) (b:=2))).lt;refine .step (.chk f2.1 hv.1 hv.2) ?_;refine .step (.lda (b':=b') f2.2.1 l2 ?_) ?_
   ·rw [Ae]; exact frameOf_app h3
   exact .step (.opr f2.2.2.1 rfl hl.lt rfl) (h.mv (ln1 rfl))
  | false=>
   intro h;have h:res=Option.none:=h;subst h;exact .last (.chk f2.1 (of_decide_eq_false hv))
 all_goals cases hc
theorem valRun (sc:List Scope):∀ e:Ex,e.wf=true->VRun code sc e:=by
 intro e
 induction e with
 | int n=>intro hw b o f res st tmp c pc hc hf hl h; cases hc; exact .step (.lit hf.1 hl.lt) h
 | name x=>intro hw b o f res st tmp c pc hc hf hl h; exact nameRun hc hf hl h
 | «at» x e ih=>
  intro hw b o f res st tmp c pc hc hf hl h;obtain ⟨d,h1,h2⟩:=R.bind_ok hc;cases h2;obtain ⟨f1,f2⟩:=frag_app hf;refine atRun (ih hw) h1 f1 (Rm.l (b:=1) hl) (h.bind.mono fun i h=>?_);obtain ⟨v,h2,h⟩:=rd_inv h;exact .step (.ldi f2.1 hl.lt (get_app h2)) (h.mv (ln1 rfl))
 | neg e ih=>
  intro hw b o f res st tmp c pc hc hf hl h;obtain ⟨d,h1,h2⟩:=R.bind_ok hc;cases h2;obtain ⟨f1,f2⟩:=frag_app hf;exact ih hw h1 f1 (Rm.l (b:=1) hl) (h.bind.mono fun v h=>.step (.neg f2.1) (Fin.mv h (ln1 rfl)))
 | odd e ih=>
  intro hw b o f res st tmp c pc hc hf hl h;obtain ⟨d,h1,h2⟩:=R.bind_ok hc;cases h2;obtain ⟨f1,f2⟩:=frag_app hf;exact ih hw h1 f1 (Rm.l (b:=1) hl) (h.bind.mono fun v h=>.step (.odd f2.1) (Fin.mv h (ln1 rfl)))
 | bin op x y ihx ihy=>
  intro hw b o f res st tmp c pc hc hf hl h;obtain ⟨d,h1,h2⟩:=R.bind_ok hc; obtain ⟨d',h3,h4⟩:=R.bind_ok h2;cases h4;have hw:=Ab hw;have hw1:=Ab hw.1;obtain ⟨f1,f3⟩:=frag_app hf;obtain ⟨f1,f2⟩:=frag_app f1;refine ihx hw1.2 h1 f1 (Rm.l hl) (h.bind.mono fun v h=>?_);rw [Ae];refine ihy hw.2 h3 f2 (by rw [← Ae]; exact Rm.push (Rm.r hl)) (h.bind.mono fun w h=>?_);rw [← Ae];have e3:pc+d.length+d'.length=pc+(d++d').length:=(ln1 rfl).symm;refine Fin.mv ?_ e3.symm;revert h;cases hr:reck op v w with
  | ok u=>exact fun h=>.step (.opr f3.1 hw1.1 hl.lt hr) (Fin.mv h (ln1 rfl))
  | err=>intro h; have h:res=Option.none:=h; subst h; exact .last (.opr f3.1 hw1.1 hr)
  | bot=>exact fun h=>h.elim
end
noncomputable def Fg (code:List In):Nat->List In->Nat->Prop
 | p,[],q=>p=q
 | p,i::r,q=>code[p]?=some i∧Fg code (p+1) r q
theorem Fg.app {code:List In}:∀ {c d:List In} {p q:Nat},Fg code p (c++d) q->∃ m,Fg code p c m∧Fg code m d q
 | [],d,p,q,h=>⟨p,rfl,h⟩
 | i::c,d,p,q,h=>(Fg.app h.2).elim fun m g=>⟨m,⟨h.1,g.1⟩,g.2⟩
theorem Fg.fr {code:List In}:∀ {c:List In} {p q:Nat},Fg code p c q->Frag code p c∧q=p+c.length
 | [],p,q,h=>⟨trivial,Eq.symm h⟩
 | i::c,p,q,h=>⟨⟨h.1,h.2.fr.1⟩,h.2.fr.2.trans (show p+1+c.length=p+(c.length+1) from (Aw p c.length 1).symm)⟩
theorem Frag.fg {code:List In}:∀ {c:List In} {p:Nat},Frag code p c->Fg code p c (p+c.length)
 | [],p,h=>rfl
 | i::c,p,h=>⟨h.1,(show p+1+c.length=p+(c.length+1) from (Aw p c.length 1).symm)▸Frag.fg h.2⟩
theorem Fg.ap {code:List In}{c d:List In}{p q:Nat}(h:Fg code p (c++d) q):Fg code p c (p+c.length)∧Fg code (p+c.length) d q:=by
 obtain ⟨m,f1,f2⟩:=h.app;obtain ⟨_,rfl⟩:=f1.fr;exact ⟨f1,f2⟩
theorem Fg.o {code:List In}{i:In}{c:List In}{p q:Nat}(h:Fg code p ([i]++c) q):code[p]?=some i∧Fg code (p+1) c q:=h
theorem Fg.o2 {code:List In}{i j:In}{c:List In}{p q:Nat}(h:Fg code p ([i,j]++c) q):code[p]?=some i∧code[p+1]?=some j∧Fg code (p+1+1) c q:=h
theorem Fg.r2 {code:List In}{a b c:List In}{p q:Nat}(h:Fg code p (a++b++c) q):Fg code p (a++(b++c)) q:=Ae a b c▸h
theorem Fg.r3 {code:List In}{a b c d:List In}{p q:Nat}(h:Fg code p (a++b++c++d) q):Fg code p (a++(b++(c++d))) q:=h.r2.r2
theorem Fg.r4 {code:List In}{a b c d e:List In}{p q:Nat}(h:Fg code p (a++b++c++d++e) q):Fg code p (a++(b++(c++(d++e)))) q:=h.r2.r3
theorem Fg.r6 {code:List In}{a b c d e f g:List In}{p q:Nat}(h:Fg code p (a++b++c++d++e++f++g) q):Fg code p (a++(b++(c++(d++(e++(f++g)))))) q:=h.r2.r2.r4
noncomputable def cut (t f:Nat)(res:Option (List Int)):Option (List Int):=match Nat.ble t f with
 | true=>res
 | false=>Option.none
theorem cut_none (t f:Nat):cut t f Option.none=Option.none:=by unfold cut; cases Nat.ble t f<;>rfl
def U (code:List In)(st:List Int)(b pc:Nat)(o:List Int)(t:Nat)(res:Option (List Int)):Prop:=∀ f:Nat,Fin code ⟨st,b,pc,o,f⟩ (cut t f res)
def At (code:List In)(sc:List Scope)(f p:Nat)(s:St)(p':Nat):Prop:=∃ c,cStmt sc f p s=.ok c∧Fg code p c p'
theorem Go.u {α:Type}{m:R α}{k k':α->Prop}{res:Option (List Int)}{t f:Nat}(h:Go m k res)(hk:∀ a,k a->k' a):Go m k' (cut t f res):=by
 cases m with
 | ok a=>exact hk a h
 | err=>have h:res=Option.none:=h; subst h; exact cut_none t f
 | bot=>exact h
def Rs (n k:Nat):Prop:=Nat.ble (n+(k+10)) 800000=true
theorem Rs.of {n k m:Nat}(h:Rs n k)(hm:m<=k+10):Rm n m:=Aa (Ak hm _) (Ad h)
section
variable {code:List In}{b:Nat}{o:List Int}{t:Nat}{res:Option (List Int)}{sc:List Scope}{st:List Int}{f p p' pc:Nat}
theorem U.go {st':List Int}{pc':Nat}(m:∀ f:Int,Mst code ⟨st,b,pc,o,f⟩ ⟨st',b,pc',o,f⟩)(h:U code st' b pc' o t res):U code st b pc o t res:=fun f=>.step (m f) (h f)
theorem U.val {e:Ex}{tmp:List Int}{c:List In}{m:Nat}(hw:e.wf=true)(hc:cVal sc e=.ok c)(hf:Fg code pc c m)(hl:Rm (st++tmp).length e.sz)
  (h:Go (evE sc st b e) (fun v=>U code (st++tmp++[v]) b m o t res) res):U code (st++tmp) b pc o t res:=
 fun f=>valRun sc e hw hc hf.fr.1 hl (h.u fun v h=>hf.fr.2▸h f)
theorem U.addrN {x:Tx}{tmp:List Int}{c:List In}{m:Nat}(hc:cAddrN sc x=.ok c)(hf:Fg code pc c m)(hl:Rm (st++tmp).length 0)
  (h:Go (evN sc st b x) (fun i=>U code (st++tmp++[(i:Int)]) b m o t res) res):U code (st++tmp) b pc o t res:=
 fun f=>addrNRun hc hf.fr.1 hl.lt (h.u fun v h=>hf.fr.2▸h f)
theorem U.addrI {x:Tx}{e:Ex}{tmp:List Int}{c:List In}{m:Nat}(hw:e.wf=true)(hc:cAt sc x (cVal sc e)=.ok c)(hf:Fg code pc c m)(hl:Rm (st++tmp).length (e.sz+3))
  (h:Go (evI sc st b x (evE sc st b e)) (fun i=>U code (st++tmp++[(i:Int)]) b m o t res) res):U code (st++tmp) b pc o t res:=
 fun f=>atRun (valRun sc e hw) hc hf.fr.1 hl (h.u fun v h=>hf.fr.2▸h f)
theorem nil_app (st:List Int):st++[]=st:=List.append_nil st
theorem U.val0 {e:Ex}{c:List In}{m:Nat}(hw:e.wf=true)(hc:cVal sc e=.ok c)(hf:Fg code pc c m)(hl:Rm st.length e.sz)
  (h:Go (evE sc st b e) (fun v=>U code (st++[v]) b m o t res) res):U code st b pc o t res:=by
 have:=U.val (tmp:=[]) (st:=st) (o:=o) (t:=t) (res:=res) (b:=b) hw hc hf;rw [nil_app] at this;exact this hl h
theorem U.addrN0 {x:Tx}{c:List In}{m:Nat}(hc:cAddrN sc x=.ok c)(hf:Fg code pc c m)(hl:Rm st.length 0)
  (h:Go (evN sc st b x) (fun i=>U code (st++[(i:Int)]) b m o t res) res):U code st b pc o t res:=by
 have:=U.addrN (tmp:=[]) (st:=st) (o:=o) (t:=t) (res:=res) (b:=b) hc hf;rw [nil_app] at this;exact this hl h
theorem U.addrI0 {x:Tx}{e:Ex}{c:List In}{m:Nat}(hw:e.wf=true)(hc:cAt sc x (cVal sc e)=.ok c)(hf:Fg code pc c m)(hl:Rm st.length (e.sz+3))
  (h:Go (evI sc st b x (evE sc st b e)) (fun i=>U code (st++[(i:Int)]) b m o t res) res):U code st b pc o t res:=by
 have:=U.addrI (tmp:=[]) (st:=st) (o:=o) (t:=t) (res:=res) (b:=b) hw hc hf;rw [nil_app] at this;exact this hl h
theorem U.tick (hi:code[pc]?=some .tick)(h:U code st b (pc+1) o t res):U code st b pc o (t+1) res:=fun f=>match f with
 | 0=>.last (.tick hi (by decide))
 | k+1=>.step (.tick hi (Int.le_add_of_nonneg_left (Av k))) ((Int.add_sub_cancel (k:Int) 1).symm▸h k)
theorem U.jpc {q:Nat}{v:Int}(hi:code[pc]?=some (.jpc q))(h1:v=0->U code st b q o t res)(h2:v≠0->U code st b (pc+1) o t res):U code (st++[v]) b pc o t res:=
 fun f=>(Decidable.em (v=0)).elim (fun hv=>.step (.jpc0 hi hv) (h1 hv f)) fun hv=>.step (.jpc1 hi hv) (h2 hv f)
theorem U.none (h:U code st b pc o t Option.none)(t':Nat):U code st b pc o t' Option.none:=fun f=>by
 have:=h f;rw [cut_none] at this ⊢;exact this
theorem setRun {i:Nat}{e:Ex}{d c:List In}{m:Nat}(hw:e.wf=true)(hc:cVal sc e=.ok d)(hf:Fg code pc (d++[In.sti]) m)(hl:Rs st.length e.sz)
  (g:Go (evE sc st b e) (fun v=>i<st.length∧U code (st.set i v) b m o t res) res):U code (st++[(i:Int)]) b pc o t res:=by
 obtain ⟨m,f1,f2,rfl⟩:=hf.app;exact U.val hw hc f1 (Rm.push (hl.of (Ak (by decide) _))) (g.mono fun v g=>.go (fun f=>.sti f2 g.1) g.2)
theorem At.set {x:Tx}{e:Ex}(h:At code sc f p (.set x e) p')(hw:e.wf=true)(hl:Rs st.length e.sz)
  (g:Go (evN sc st b x) (fun i=>Go (evE sc st b e) (fun v=>i<st.length∧U code (st.set i v) b p' o t res) res) res):U code st b p o t res:=by
 obtain ⟨c,hc,hf⟩:=h;obtain ⟨c1,h1,h2⟩:=R.bind_ok hc; obtain ⟨c2,h3,h4⟩:=R.bind_ok h2;cases h4;obtain ⟨f1,f2⟩:=hf.r2.ap;exact U.addrN0 h1 f1 (hl.of (Nat.zero_le _)) (g.mono fun i g=>setRun (c:=c2) hw h3 f2 hl g)
theorem At.setAt {x:Tx}{i e:Ex}(h:At code sc f p (.setAt x i e) p')(hwi:i.wf=true)(hw:e.wf=true)(hli:Rs st.length i.sz)(hl:Rs st.length e.sz)
  (g:Go (evI sc st b x (evE sc st b i)) (fun i=>Go (evE sc st b e) (fun v=>i<st.length∧U code (st.set i v) b p' o t res) res) res):U code st b p o t res:=by
 obtain ⟨c,hc,hf⟩:=h;obtain ⟨c1,h1,h2⟩:=R.bind_ok hc; obtain ⟨c2,h3,h4⟩:=R.bind_ok h2;cases h4;obtain ⟨f1,f2⟩:=hf.r2.ap;exact U.addrI0 hwi h1 f1 (hli.of (Ak (by decide) _)) (g.mono fun i g=>setRun (c:=c2) hw h3 f2 hl g)
theorem At.write {e:Ex}(h:At code sc f p (.write e) p')(hw:e.wf=true)(hl:Rs st.length e.sz)(ho:o.length<900000)
  (g:Go (evE sc st b e) (fun v=>U code st b p' (o++[v]) t res) res):U code st b p o t res:=by
 obtain ⟨c,hc,hf⟩:=h;obtain ⟨c1,h1,h2⟩:=R.bind_ok hc;cases h2;obtain ⟨m,f1,f2,rfl⟩:=hf.app;exact U.val0 hw h1 f1 (hl.of (Af _ _)) (g.mono fun v g f=>.step (.wrt f2 ho) (g f))
theorem At.empty (h:At code sc f p .empty p'):p'=p:=by
 obtain ⟨c,hc,hf⟩:=h;cases hc; exact Eq.symm hf
theorem At.beg {s:St}(h:At code sc f p (.beg s) p'):At code sc f p s p':=h
theorem At.one {s:St}(h:At code sc f p (.one s) p'):At code sc f p s p':=h
theorem At.seq {s r:St}(h:At code sc f p (.seq s r) p'):∃ q,At code sc f p s q∧At code sc f q r p':=by
 obtain ⟨c,hc,hf⟩:=h;obtain ⟨c1,h1,h2⟩:=R.bind_ok hc; obtain ⟨c2,h3,h4⟩:=R.bind_ok h2;cases h4;exact ⟨_,⟨c1,h1,hf.ap.1⟩,⟨c2,h3,hf.ap.2⟩⟩
def Fork (code:List In)(sc:List Scope)(c:Ex)(p q0 q1 k:Nat):Prop:=∀ {st:List Int} {b:Nat} {o:List Int} {t:Nat} {res:Option (List Int)},Rs st.length c.sz->Go (evE sc st b c) (fun v=>(v=0->U code st b q0 o t res)∧(v≠0->U code st b q1 o t res)) res->U code st b p o (t+k) res
def Way (code:List In)(p q:Nat):Prop:=∀ {st:List Int} {b:Nat} {o:List Int} {t:Nat} {res:Option (List Int)},U code st b q o t res->U code st b p o t res
theorem way {q:Nat}(h:code[p]?=some (.jmp q)):Way code p q:=fun g=>.go (fun f=>.jmp h) g
theorem fork {c:Ex}{v:List In}{m q:Nat}(hw:c.wf=true)(hc:cVal sc c=.ok v)(hf:Fg code p v m)(hj:code[m]?=some (.jpc q)):Fork code sc c p q (m+1) 0:=fun hl g=>
 U.val0 hw hc hf (hl.of (Af _ _)) (g.mono fun v g=>U.jpc hj g.1 g.2)
theorem forkT {c:Ex}{v:List In}{m q:Nat}(hw:c.wf=true)(hc:cVal sc c=.ok v)(hf:Fg code p v m)(ht:code[m]?=some .tick)(hj:code[m+1]?=some (.jpc q)):Fork code sc c p q (m+1+1) 1:=fun hl g=>
 U.val0 hw hc hf (hl.of (Af _ _)) (g.mono fun v g=>U.tick ht (U.jpc hj g.1 g.2))
theorem At.if1 {c:Ex}{a:St}(h:At code sc f p (.if1 c a) p')(hw:c.wf=true):∃ q,At code sc f q a p'∧Fork code sc c p p' q 0:=by
 obtain ⟨c,hc,hf⟩:=h;obtain ⟨c1,h1,h2⟩:=R.bind_ok hc; obtain ⟨c2,h3,h4⟩:=R.bind_ok h2;cases h4;obtain ⟨f1,f4⟩:=hf.r2.ap;obtain ⟨fj,f2⟩:=f4.o;exact ⟨_,⟨c2,h3,f2⟩,fork hw h1 f1 (f2.fr.2▸fj)⟩
theorem At.if2 {c:Ex}{a d:St}(h:At code sc f p (.if2 c a d) p')(hw:c.wf=true):∃ q q' r,At code sc f q a q'∧At code sc f r d p'∧Way code q' p'∧Fork code sc c p r q 0:=by
 obtain ⟨c,hc,hf⟩:=h;obtain ⟨c1,h1,h2⟩:=R.bind_ok hc; obtain ⟨c2,h3,h4⟩:=R.bind_ok h2; obtain ⟨c3,h5,h6⟩:=R.bind_ok h4;cases h6;obtain ⟨f1,f4⟩:=hf.r4.ap;obtain ⟨fj,f4⟩:=f4.o;obtain ⟨f2,f4⟩:=f4.ap;obtain ⟨fm,f3⟩:=f4.o;exact ⟨_,_,_,⟨c2,h3,f2⟩,⟨c3,h5,f3⟩,way (f3.fr.2▸fm),fork hw h1 f1 fj⟩
theorem At.whl {c:Ex}{a:St}(h:At code sc f p (.whl c a) p')(hw:c.wf=true):∃ q q',At code sc f q a q'∧Way code q' p∧Fork code sc c p p' q 1:=by
 obtain ⟨c,hc,hf⟩:=h;obtain ⟨c1,h1,h2⟩:=R.bind_ok hc; obtain ⟨c2,h3,h4⟩:=R.bind_ok h2;cases h4;obtain ⟨f1,f4⟩:=hf.r3.ap;obtain ⟨ft,fj,f4⟩:=f4.o2;obtain ⟨f2,fm,fe⟩:=f4.ap;exact ⟨_,_,⟨c2,h3,f2⟩,way fm,forkT hw h1 f1 ft ((fe:_=p')▸fj)⟩
theorem At.rep {c:Ex}{a:St}(h:At code sc f p (.rep a c) p')(hw:c.wf=true):∃ q,At code sc f p a q∧Fork code sc c q p p' 1:=by
 obtain ⟨c,hc,hf⟩:=h;obtain ⟨c1,h1,h2⟩:=R.bind_ok hc; obtain ⟨c2,h3,h4⟩:=R.bind_ok h2;cases h4;obtain ⟨f1,f4⟩:=hf.r2.ap;obtain ⟨f2,ft,fj,fe⟩:=f4.ap;exact ⟨_,⟨c1,h1,f1⟩,(fe:_=p')▸forkT hw h3 f2 ft fj⟩
end
noncomputable def forC:Bool->Int->Int->Bool
 | true,v,w=>decide (v<=w)
 | false,v,w=>decide (v ≥ w)
noncomputable def forS:Bool->Int->Int
 | true,v=>v+1
 | false,v=>v-1
noncomputable def evAd (sc:List Scope)(st:List Int)(b:Nat):Ex->R Nat
 | .name x=>evN sc st b x
 | .at x e=>evI sc st b x (evE sc st b e)
 | _=>.bot
noncomputable def evArgs (sc:List Scope)(st:List Int)(b:Nat):List Bool->List Ex->R (List Int)
 | v::vs,e::es=>(match v with
  | true=>(evAd sc st b e).bind fun i=>.ok (i:Int)
  | false=>evE sc st b e).bind fun x=>(evArgs sc st b vs es).bind fun r=>.ok (x::r)
 | [],[]=>.ok []
 | _,_=>.bot
theorem Ex.sz_pos (e:Ex):1<=e.sz:=by cases e<;>exact Ar 1 _
section
variable {code:List In}{b:Nat}{o:List Int}{t:Nat}{res:Option (List Int)}{sc:List Scope}{st:List Int}{f p p' pc:Nat}
theorem U.done (hi:code[pc]?=some .ret):U code st 0 pc o 0 (some o):=fun f=>.last (.done hi)
theorem two_app (st:List Int)(v w:Int):st++[v]++[w]=st++[v,w]:=Ae st [v] [w]
theorem at0 (st:List Int)(v w:Int):(st++[v,w])[st.length]?=some v:=by rw [List.getElem?_append_right (Aj _),Nat.sub_self]; rfl
theorem at1 (st:List Int)(v w:Int):(st++[v,w])[st.length+1]?=some w:=by rw [List.getElem?_append_right (Af _ 1),Nat.add_sub_cancel_left]; rfl
theorem setF (st:List Int)(v w x:Int):(st++[v,w]).set st.length x=st++[x,w]:=by rw [List.set_append_right _ _ (Aj _),Nat.sub_self]; rfl
theorem len2 (st:List Int)(v w:Int):(st++[v,w]).length=st.length+2:=Ac
theorem Rs.q {n k:Nat}(h:Rs (n+2) k){m:Nat}(hm:m<=12):n+m<900000:=Ao (Aa (Ak hm _) (Aa (Aa (Nat.le_of_eq (Nat.add_assoc n 2 10).symm) (Ak (Ar _ _) _)) (Ad h))) (by decide)
theorem At.for {x:Tx}{a c:Ex}{up:Bool}{s:St}(h:At code sc f p (.for x a c up s) p')(hwa:a.wf=true)(hwc:c.wf=true):∃ top q q',At code sc (f+2) q s q'∧
  (∀ {st:List Int} {b:Nat} {o:List Int} {t:Nat} {res:Option (List Int)},Rs st.length a.sz->Rs st.length c.sz->Go (evE sc st b a) (fun v=>Go (evE sc st b c) (fun w=>U code (st++[v,w]) b top o t res) res) res->U code st b p o t res)∧
  (∀ {st:List Int} {b:Nat} {o:List Int} {t:Nat} {res:Option (List Int)} {v w:Int},st.length=b+f->Rs (st.length+2) 0->
   (forC up v w=true->Go (evN sc (st++[v,w]) b x) (fun i=>i<st.length+2∧U code ((st++[v,w]).set i v) b q o t res) res)->(forC up v w=false->U code st b p' o t res)->U code (st++[v,w]) b top o (t+1) res)∧
  (∀ {st:List Int} {b:Nat} {o:List Int} {t:Nat} {res:Option (List Int)} {v w:Int},st.length=b+f->Rs (st.length+2) 0->U code (st++[forS up v,w]) b top o t res->U code (st++[v,w]) b q' o t res):=by
 obtain ⟨cc,hc,hf⟩:=h;obtain ⟨w,h1,h2⟩:=R.bind_ok hc; obtain ⟨u,h3,h4⟩:=R.bind_ok h2; obtain ⟨v,h5,h6⟩:=R.bind_ok h4; obtain ⟨z,h7,h8⟩:=R.bind_ok h6;cases h8;obtain ⟨fu,fa⟩:=hf.r6.ap;obtain ⟨fv,t1,t2,t3,t4,t5,fb⟩:=fa.ap;have fb:Fg code (p+u.length+v.length+5) (w++_) p':=fb;obtain ⟨fw,fb⟩:=fb.ap;obtain ⟨s1,s2,fc⟩:=fb.o2;obtain ⟨fz,e1,e2,e3,e4,e5,e6,e7,fe⟩:=fc.ap;clear hf hc h2 h4 h6 fa fb fc;subst fe;refine ⟨p+u.length+v.length,_,_,⟨z,h7,fz⟩,fun hla hlc g=>?_,fun {st b o t res vv ww} hb hl g1 g2=>?_,fun {st b o t res vv ww} hb hl g=>?_⟩
 ·refine U.val0 hwa h3 fu (hla.of (Af _ _)) (g.mono fun v g=>?_);refine U.val hwc h5 fv (Rm.push (hlc.of (Ak (by decide) _))) (g.mono fun w g=>?_);rw [two_app]; exact g
 ·have l2:=len2 st vv ww;have hv0:(st++[vv,ww])[b+f]?=some vv:=hb▸at0 st vv ww;have hw0:(st++[vv,ww])[b+(f+1)]?=some ww:=show (st++[vv,ww])[b+f+1]?=some ww from hb▸at1 st vv ww;refine U.tick t1 (.go (fun f=>.lod t2 (l2▸hl.q (by decide)) rfl hv0) (.go (fun f=>.lod t3 ?_ rfl (get_app hw0)) (.go (st':=st++[vv,ww]++[b2i (forC up vv ww)]) (fun f=>.opr t4 ?_ (l2▸hl.q (by decide)) ?_) (U.jpc t5 (fun hv=>?_) fun hv=>?_))))
  ·rw [Ac,l2]; exact hl.q (m:=3) (by decide)
  ·cases up<;>rfl
  ·cases up<;>rfl
  ·have hc0:forC up vv ww=false:=by
    revert hv;cases forC up vv ww with
    | false=>exact fun _=>rfl
    | true=>intro h; cases h
   have g:=g2 hc0;rw [← two_app];have last:=U.jpc (v:=vv) e7 (fun _=>g) fun _=>g;exact U.jpc e6 (fun _=>last) fun _=>last
  ·have hc0:forC up vv ww=true:=by
    revert hv;cases forC up vv ww with
    | true=>exact fun _=>rfl
    | false=>exact fun h=>absurd rfl h
   refine U.addrN0 h1 fw (Nat.le_of_lt_succ (Ao (l2▸Aa (Af _ _) (Ad hl)) (by decide))) ((g1 hc0).mono fun i g=>?_);refine .go (fun f=>.lod s1 ?_ rfl (get_app hv0)) (.go (fun f=>.sti s2 (l2▸g.1)) g.2);rw [Ac,l2]; exact hl.q (m:=3) (by decide)
 ·have l2:=len2 st vv ww;have hv0:(st++[vv,ww])[b+f]?=some vv:=hb▸at0 st vv ww;refine .go (fun f=>.lod e1 (l2▸hl.q (by decide)) rfl hv0) (.go (fun f=>.lit e2 ?_) (.go (fun f=>.opr (v:=forS up vv) e3 ?_ (l2▸hl.q (by decide)) ?_) (.go (fun _=>.sto e4 (a:=f) rfl ?_) (.go (fun f=>.jmp e5) ?_))))
  ·rw [Ac,l2]; exact hl.q (m:=3) (by decide)
  ·cases up<;>rfl
  ·cases up<;>rfl
  ·rw [l2,← hb]; exact Nat.lt_add_of_pos_right (by decide)
  ·rw [← hb,setF]; exact g
theorem evArgs_len:∀ (vs:List Bool) (es:List Ex) (as:List Int),evArgs sc st b vs es=.ok as->as.length=es.length
 | v::vs,e::es,as,h=>by
  obtain ⟨x,h1,h2⟩:=R.bind_ok h; obtain ⟨r,h3,h4⟩:=R.bind_ok h2;cases h4;exact congrArg Nat.succ (evArgs_len vs es r h3)
 | [],[],as,h=>by cases h; rfl
 | [],_::_,as,h=>by cases h
 | _::_,[],as,h=>by cases h
theorem U.args:∀ (vs:List Bool) (es:List Ex) (tmp:List Int) (c:List In) (pc m:Nat),(∀ e∈es,e.wf=true)->cArgs sc vs es=.ok c->Fg code pc c m->Rm (st++tmp).length (szs es)->
  Go (evArgs sc st b vs es) (fun as=>U code (st++tmp++as) b m o t res) res->U code (st++tmp) b pc o t res
 | v::vs,e::es,tmp,c,pc,m,hw,hc,hf,hl,g=>by
  obtain ⟨c1,h1,h2⟩:=R.bind_ok hc; obtain ⟨c2,h3,h4⟩:=R.bind_ok h2;cases h4;obtain ⟨m',f1,f2⟩:=hf.app;have rest:∀ x:Int,Go ((evArgs sc st b vs es).bind fun r=>.ok (x::r)) (fun as=>U code (st++tmp++as) b m o t res) res->U code (st++tmp++[x]) b m' o t res:=by
   intro x g;rw [Ae];refine U.args vs es (tmp++[x]) c2 _ m (fun e he=>hw e (List.mem_cons_of_mem _ he)) h3 f2 ?_ (g.bind.mono fun r g=>?_)
   ·rw [← Ae];exact Rm.push (Aa (Ak (Aa (Ak e.sz_pos _) (Nat.le_of_eq (Nat.add_comm _ _))) _) hl)
   ·have g:U code (st++tmp++([x]++r)) b m o t res:=g;rw [← Ae,Ae st] at g; exact g
  have hwe:=hw e (List.Mem.head _);cases v with
  | false=>exact U.val hwe h1 f1 hl.l (g.bind.mono rest)
  | true=>
   cases e with
   | name x=>exact U.addrN h1 f1 (Aa (Af _ _) hl) (g.bind.bind.mono fun i=>rest _)
   | «at» x e=>exact U.addrI (e:=e) hwe h1 f1 (Rm.l (a:=e.sz+3) (b:=1) hl.l) (g.bind.bind.mono fun i=>rest _)
   | int n=>cases h1
   | neg e=>cases h1
   | odd e=>cases h1
   | bin o a b=>cases h1
 | [],[],tmp,c,pc,m,hw,hc,hf,hl,g=>by
  cases hc;cases hf;have g:U code (st++tmp++[]) b pc o t res:=g;rw [nil_app] at g; exact g
 | [],_::_,tmp,c,pc,m,hw,hc,hf,hl,g=>by cases hc
 | _::_,[],tmp,c,pc,m,hw,hc,hf,hl,g=>by cases hc
theorem At.call {x:Tx}{es:List Ex}{l a:Nat}{q:List (Tx×Bool)}(h:At code sc f p (.call x es) p')(hx:findS x sc 0=some (l,.proc a q))(hw:∀ e∈es,e.wf=true)(hl:Rs st.length (szs es))
  (g:Go (evArgs sc st b (q.map (·.2)) es) (fun as=>∃ link,frameOf st l b=some link∧U code (st++[(link:Int),(b:Int),(p':Int)]++as) st.length a o t res) res):U code st b p o (t+1) res:=by
 obtain ⟨c,hc,hf⟩:=h;have hc:(match findS x sc 0 with
  | some (l,.proc a q)=>(match Nat.beq q.length es.length with
   | true=>(cArgs sc (q.map (·.2)) es).bind fun c=>.ok (c++[.tick,.cal l a es.length])
   | false=>.err)
  | _=>.err:R (List In))=.ok c:=hc
 rw [hx] at hc;revert hc;show (match Nat.beq q.length es.length with
   | true=>(cArgs sc (q.map (·.2)) es).bind fun c=>.ok (c++[.tick,.cal l a es.length])
   | false=>.err:R (List In))=.ok c->_
 cases Nat.beq q.length es.length with
 | false=>intro hc; cases hc
 | true=>
  intro hc;obtain ⟨c1,h1,h2⟩:=R.bind_ok hc;cases h2;obtain ⟨m,f1,f2,f3,rfl⟩:=hf.app;have:=U.args (code:=code) (st:=st) (b:=b) (o:=o) (t:=t+1) (res:=res) (q.map (·.2)) es [] c1 p m hw h1 f1;rw [nil_app] at this;refine this (hl.of (Af _ _)) ?_;revert g;cases he:evArgs sc st b (q.map (·.2)) es with
  | bot=>exact id
  | err=>exact id
  | ok as=>
   rintro ⟨link,g1,g2⟩;have la:=evArgs_len _ _ _ he;refine U.tick f2 fun f=>.step (.cal f3 la ?_ (frameOf_app g1)) (g2 f);rw [Ac,la];exact Aa (Ak (Aa (szs_len es) (Af _ _)) _) (Aa (Ad hl) (by decide))
theorem body_run {q:List (Tx×Bool)}{vs:List (Tx×Option Nat)}{ps:Bl}{ss:St}{c:List In}(h:cBlock sc p q (.mk vs ps ss)=.ok c)(hf:Frag code p c) :
  ∃ w cs pb pe,vEnt (pEnt [] 3 q).1 (pEnt [] 3 q).2 vs=.ok w∧cProcs sc w.1 (p+1) ps=.ok cs∧Frag code (p+1) cs.1∧At code (cs.2::sc) w.2 pb ss pe∧code[pe]?=some .ret∧
   ∀ {st:List Int} {b:Nat} {o:List Int} {t:Nat} {res:Option (List Int)},st.length+(w.2-(pEnt [] 3 q).2)<=900000->U code (st++List.replicate (w.2-(pEnt [] 3 q).2) 0) b pb o t res->U code st b p o t res:=by
 have h:(match noDup [] (fst1 q++fst1 vs++ps.names) with
  | false=>.err
  | true=>(vEnt (pEnt [] 3 q).1 (pEnt [] 3 q).2 vs).bind fun w=>
   (cProcs sc w.1 (p+1) ps).bind fun c=>
   (cStmt (c.2::sc) w.2 (p+1+c.1.length+(intIf (w.2-(pEnt [] 3 q).2)).length) ss).bind fun d=>R.ok ([In.jmp (p+1+c.1.length)]++c.1++intIf (w.2-(pEnt [] 3 q).2)++d++[.ret]):R (List In))=.ok c:=h
 revert h;cases noDup [] (fst1 q++fst1 vs++ps.names) with
 | false=>intro h; cases h
 | true=>
  intro h;obtain ⟨w,h1,h2⟩:=R.bind_ok h; obtain ⟨d,h3,h4⟩:=R.bind_ok h2; obtain ⟨e,h5,h6⟩:=R.bind_ok h4;cases h6;obtain ⟨fj,fa⟩:=hf.fg.r4.o;obtain ⟨fd,fb⟩:=fa.ap;obtain ⟨fi,fc⟩:=fb.ap;obtain ⟨fe,fr,_⟩:=fc.ap;clear hf h h2 h4 fa fb fc;refine ⟨w,d,_,_,h1,h3,fd.fr.1,⟨e,h5,fe⟩,fr,fun {st b o t res} hl g=>.go (fun f=>.jmp fj) ?_⟩;revert g fi hl;generalize w.2-(pEnt [] 3 q).2=n;cases n with
  | zero=>intro fi hl g; rw [show List.replicate 0 (0:Int)=[] from rfl,nil_app] at g; exact g
  | succ n=>exact fun fi hl g=>.go (fun f=>.int fi.1 hl) g
end
noncomputable def okN (sc:List Scope)(x:Tx):Bool:=match findS x sc 0 with
 | some (_,.var _)=>true
 | some (_,.ref _)=>true
 | _=>false
noncomputable def okI (sc:List Scope)(x:Tx):Bool:=match findS x sc 0 with
 | some (_,.arr _ _)=>true
 | _=>false
noncomputable def okV (sc:List Scope):Ex->Bool
 | .int _=>true
 | .name x=>okN sc x
 | .at x e=>okI sc x&&okV sc e
 | .neg e=>okV sc e
 | .odd e=>okV sc e
 | .bin _ a b=>okV sc a&&okV sc b
noncomputable def okA (sc:List Scope):Ex->Bool
 | .name x=>okN sc x
 | .at x e=>okI sc x&&okV sc e
 | _=>false
noncomputable def okArgs (sc:List Scope):List Bool->List Ex->Bool
 | v::vs,e::es=>(match v with
  | true=>okA sc e
  | false=>okV sc e)&&okArgs sc vs es
 | [],[]=>true
 | _,_=>false
noncomputable def okS (sc:List Scope):St->Bool
 | .empty=>true
 | .set x e=>okN sc x&&okV sc e
 | .setAt x i e=>okI sc x&&okV sc i&&okV sc e
 | .call x as=>(match findS x sc 0 with
  | some (_,.proc _ q)=>Nat.beq q.length as.length&&okArgs sc (q.map (·.2)) as
  | _=>false)
 | .if1 c a=>okV sc c&&okS sc a
 | .if2 c a b=>okV sc c&&(okS sc a&&okS sc b)
 | .whl c a=>okV sc c&&okS sc a
 | .rep s c=>okS sc s&&okV sc c
 | .for x a b _ s=>okN sc x&&(okV sc a&&(okV sc b&&okS sc s))
 | .beg s=>okS sc s
 | .write e=>okV sc e
 | .one s=>okS sc s
 | .seq s r=>okS sc s&&okS sc r
def Says {α:Type}(b:Bool)(m:R α):Prop:=match b with
 | true=>∃ a,m=.ok a
 | false=>m=.err
theorem Says.bind {α β:Type}{a b:Bool}{m:R α}{f:α->R β}(h:Says a m)(hf:∀ x,Says b (f x)):Says (a&&b) (m.bind f):=by
 cases a with
 | false=>have h:m=.err:=h; subst h; exact (rfl:R.err=R.err)
 | true=>obtain ⟨x,rfl⟩:=h; exact hf x
theorem Says.map {α β:Type}{a:Bool}{m:R α}{f:α->β}(h:Says a m):Says a (m.bind fun x=>.ok (f x)):=by
 cases a with
 | false=>have h:m=.err:=h; subst h; exact (rfl:R.err=R.err)
 | true=>obtain ⟨x,rfl⟩:=h; exact ⟨f x,rfl⟩
theorem says_N (sc:List Scope)(x:Tx):Says (okN sc x) (cName sc x)∧Says (okN sc x) (cAddrN sc x):=by
 unfold okN cName cAddrN;rcases findS x sc 0 with _ | ⟨l,a | a | ⟨a,z⟩ | ⟨a,q⟩⟩<;>first | exact ⟨rfl,rfl⟩ | exact ⟨⟨_,rfl⟩,⟨_,rfl⟩⟩
theorem says_At {sc:List Scope}{x:Tx}{i:R (List In)}{b:Bool}(h:Says b i):Says (okI sc x&&b) (cAt sc x i):=by
 unfold okI cAt;rcases findS x sc 0 with _ | ⟨l,a | a | ⟨a,z⟩ | ⟨a,q⟩⟩<;>first | exact (rfl:R.err=R.err) | exact h.map
theorem says_V (sc:List Scope):∀ e:Ex,Says (okV sc e) (cVal sc e):=by
 intro e
 induction e with
 | int n=>exact ⟨_,rfl⟩
 | name x=>exact (says_N sc x).1
 | «at» x e ih=>exact (says_At ih).map
 | neg e ih=>exact ih.map
 | odd e ih=>exact ih.map
 | bin o a b iha ihb=>exact iha.bind fun c=>ihb.map
theorem says_A (sc:List Scope):∀ e:Ex,Says (okA sc e) (cAddr sc e):=by
 intro e;cases e with
 | name x=>exact (says_N sc x).2
 | «at» x e=>exact says_At (says_V sc e)
 | _=>exact (rfl:R.err=R.err)
theorem says_Args (sc:List Scope):∀ (vs:List Bool) (es:List Ex),Says (okArgs sc vs es) (cArgs sc vs es)
 | true::vs,e::es=>(says_A sc e).bind fun c=>(says_Args sc vs es).map
 | false::vs,e::es=>(says_V sc e).bind fun c=>(says_Args sc vs es).map
 | [],[]=>⟨_,rfl⟩
 | [],_::_=>(rfl:R.err=R.err)
 | _::_,[]=>(rfl:R.err=R.err)
theorem says_call (sc:List Scope)(x:Tx)(as:List Ex)(f p:Nat):Says (okS sc (.call x as)) (cStmt sc f p (.call x as)):=by
 show Says (match findS x sc 0 with
  | some (_,.proc _ q)=>Nat.beq q.length as.length&&okArgs sc (q.map (·.2)) as
  | _=>false) (match findS x sc 0 with
  | some (l,.proc a q)=>(match Nat.beq q.length as.length with
   | true=>(cArgs sc (q.map (·.2)) as).bind fun c=>.ok (c++[.tick,.cal l a as.length])
   | false=>.err)
  | _=>.err:R (List In))
 rcases findS x sc 0 with _ | ⟨l,a | a | ⟨a,z⟩ | ⟨a,q⟩⟩<;>first | exact (rfl:R.err=R.err) | skip
 show Says (Nat.beq q.length as.length&&okArgs sc (q.map (·.2)) as) (match Nat.beq q.length as.length with
   | true=>(cArgs sc (q.map (·.2)) as).bind fun c=>.ok (c++[.tick,.cal l a as.length])
   | false=>.err:R (List In))
 cases Nat.beq q.length as.length with
 | true=>exact (says_Args sc _ _).map
 | false=>exact (rfl:R.err=R.err)
theorem says_S (sc:List Scope):∀ (s:St) (f p:Nat),Says (okS sc s) (cStmt sc f p s)
 | .empty,f,p=>⟨_,rfl⟩
 | .set x e,f,p=>(says_N sc x).2.bind fun c=>(says_V sc e).map
 | .setAt x i e,f,p=>(says_At (says_V sc i)).bind fun c=>(says_V sc e).map
 | .call x as,f,p=>says_call sc x as f p
 | .if1 c a,f,p=>(says_V sc c).bind fun v=>(says_S sc a _ _).map
 | .if2 c a b,f,p=>(says_V sc c).bind fun v=>(says_S sc a _ _).bind fun s=>(says_S sc b _ _).map
 | .whl c a,f,p=>(says_V sc c).bind fun v=>(says_S sc a _ _).map
 | .rep s c,f,p=>(says_S sc s _ _).bind fun v=>(says_V sc c).map
 | .for x a b up s,f,p=>(says_N sc x).2.bind fun w=>(says_V sc a).bind fun u=>(says_V sc b).bind fun v=>(says_S sc s _ _).map
 | .beg s,f,p=>says_S sc s f p
 | .write e,f,p=>(says_V sc e).map
 | .one s,f,p=>says_S sc s f p
 | .seq s r,f,p=>(says_S sc s _ _).bind fun c=>(says_S sc r _ _).map
noncomputable def Lr {α:Type}(z:List Tok):R (α×List Tok)->R (α×List Tok)->Prop
 | .ok q,m=>m=.ok (q.1,q.2++z)
 | .err,m=>m=.err
 | .bot,_=>True
def Loc {α:Type}(p:List Tok->R (α×List Tok)):Prop:=∀ ts z,Lr z (p ts) (p (ts++z))
section
variable {α β:Type}{z:List Tok}{w:Tx}{ts:List Tok}
theorem Lr.ok {a:α}{r:List Tok}:Lr z (.ok (a,r)) (.ok (a,r++z)):=rfl
theorem Lr.bind {m m':R (α×List Tok)}{F:α×List Tok->R (β×List Tok)}(h:Lr z m m')(hf:∀ a r,Lr z (F (a,r)) (F (a,r++z))):Lr z (m.bind F) (m'.bind F):=by
 cases m with
 | ok q=>have h:m'=.ok (q.1,q.2++z):=h; subst h; exact hf q.1 q.2
 | err=>have h:m'=.err:=h; subst h; exact (rfl:R.err=R.err)
 | bot=>trivial
theorem Lr.got {yes:List Tok->R (α×List Tok)}{no no':R (α×List Tok)}(hy:∀ r,Lr z (yes r) (yes (r++z)))(hn:Lr z no no'):Lr z (pGot w ts yes no) (pGot w (ts++z) yes no'):=by
 cases ts with
 | nil=>trivial
 | cons k ts=>
  show Lr z (match k.is w with
   | true=>yes ts
   | false=>no) (match k.is w with
   | true=>yes (ts++z)
   | false=>no')
  cases k.is w with
  | true=>exact hy ts
  | false=>exact hn
theorem Lr.want {next:List Tok->R (α×List Tok)}(hy:∀ r,Lr z (next r) (next (r++z))):Lr z (pWant w ts next) (pWant w (ts++z) next):=by
 cases ts with
 | nil=>trivial
 | cons k ts=>
  show Lr z (match k.is w with
   | true=>next ts
   | false=>.err) (match k.is w with
   | true=>next (ts++z)
   | false=>.err)
  cases k.is w with
  | true=>exact hy ts
  | false=>exact (rfl:R.err=R.err)
theorem Lr.name {next:Tx->List Tok->R (α×List Tok)}(hn:∀ x r,Lr z (next x r) (next x (r++z))):Lr z (pName ts next) (pName (ts++z) next):=by
 rcases ts with _ | ⟨_ | _ | _ | _,ts⟩<;>first | exact hn _ ts | exact (rfl:R.err=R.err) | trivial
theorem Lr.int {next:Nat->List Tok->R (α×List Tok)}(hn:∀ x r,Lr z (next x r) (next x (r++z))):Lr z (pInt ts next) (pInt (ts++z) next):=by
 rcases ts with _ | ⟨_ | _ | _ | _,ts⟩<;>first | exact hn _ ts | exact (rfl:R.err=R.err) | trivial
theorem Lr.word {next:Tx->List Tok->R (α×List Tok)}(hn:∀ x r,Lr z (next x r) (next x (r++z))):Lr z (pWord ts next) (pWord (ts++z) next):=by
 rcases ts with _ | ⟨_ | _ | _ | _,ts⟩<;>first | exact hn _ ts | exact (rfl:R.err=R.err) | trivial
end
theorem loc_loop {p:Tx->Bool}{sub:List Tok->PE}(hs:Loc sub):∀ (g:Nat) (e:Ex),Loc (pLoop p sub g e)
 | 0,e,ts,z=>trivial
 | g+1,e,[],z=>trivial
 | g+1,e,.word w::ts,z=>by
  show Lr z (match p w with
   | true=>(sub ts).bind fun q=>pLoop p sub g (.bin w e q.1) q.2
   | false=>.ok (e,.word w::ts)) (match p w with
   | true=>(sub (ts++z)).bind fun q=>pLoop p sub g (.bin w e q.1) q.2
   | false=>.ok (e,.word w::ts++z))
  cases p w with
  | true=>exact .bind (hs ts z) fun a r=>loc_loop hs g (.bin w e a) r z
  | false=>exact rfl
 | g+1,e,.name w::ts,z=>rfl
 | g+1,e,.int w::ts,z=>rfl
 | g+1,e,.fin::ts,z=>rfl
theorem loc_term {fac:List Tok->PE}(hf:Loc fac):Loc (pTerm fac):=fun ts z=>.bind (hf ts z) fun a r=>loc_loop hf gasL a r z
theorem loc_exprO {fac:List Tok->PE}(hf:Loc fac):Loc (pExprO fac):=fun ts z=>.bind (loc_term hf ts z) fun a r=>loc_loop (loc_term hf) gasL a r z
theorem loc_factor:∀ d,Loc (pFactor d)
 | 0,ts,z=>trivial
 | d+1,ts,z=>.got (fun r=>.bind (loc_factor d r z) fun a r=>.ok) (.got (fun r=>.bind (loc_exprO (loc_factor d) r z) fun a r=>.want fun r=>.ok) (by
   rcases ts with _ | ⟨_ | x | _ | _,ts⟩<;>first | exact (rfl:R.err=R.err) | exact rfl | trivial | exact .got (fun r=>.bind (loc_exprO (loc_factor d) r z) fun a r=>.want fun r=>.ok) .ok))
theorem loc_expr:Loc pExpr:=loc_exprO (loc_factor dE)
theorem loc_cond:Loc pCond:=fun ts z=>.got (fun r=>.want fun r=>.bind (loc_expr r z) fun a r=>.want fun r=>.ok) (.bind (loc_expr ts z) fun a r=>.word fun s r=>by
 show Lr z (match isCmp s with
  | true=>(pExpr r).bind fun b=>.ok (Ex.bin s a b.1,b.2)
  | false=>.err) (match isCmp s with
  | true=>(pExpr (r++z)).bind fun b=>.ok (Ex.bin s a b.1,b.2)
  | false=>.err)
 cases isCmp s with
 | true=>exact .bind (loc_expr r z) fun b r=>.ok
 | false=>exact (rfl:R.err=R.err))
theorem loc_rowL {st:List Tok->PT}(hs:Loc st):∀ g,Loc (pRowL st g)
 | 0,ts,z=>trivial
 | g+1,ts,z=>.got (fun r=>.bind (hs r z) fun s r=>.bind (loc_rowL hs g r z) fun q r=>.ok) .ok
theorem loc_row {st:List Tok->PT}(hs:Loc st):Loc (pRow st):=fun ts z=>.bind (hs ts z) fun s r=>.bind (loc_rowL hs gasL r z) fun q r=>.ok
theorem loc_argsL:∀ g,Loc (pArgsL g)
 | 0,ts,z=>trivial
 | g+1,ts,z=>.got (fun r=>.bind (loc_expr r z) fun s r=>.bind (loc_argsL g r z) fun q r=>.ok) .ok
theorem loc_args:Loc pArgs:=fun ts z=>.got (fun r=>.bind (loc_expr r z) fun e r=>.bind (loc_argsL gasL r z) fun q r=>.want fun r=>.ok) .ok
theorem loc_forEnd {st:List Tok->PT}(hs:Loc st)(x:Tx)(a:Ex)(up:Bool):Loc (pForEnd st x a up):=fun ts z=>.bind (loc_expr ts z) fun b r=>.want fun r=>.bind (hs r z) fun s r=>.ok
theorem loc_stmt:∀ d,Loc (pStmt d)
 | 0,ts,z=>trivial
 | d+1,ts,z=>by
  have ih:=loc_stmt d;refine .got (fun r=>.bind (loc_cond r z) fun c r=>.want fun r=>.bind (ih r z) fun a r=>.got (fun r=>.bind (ih r z) fun b r=>.ok) .ok) ?_;refine .got (fun r=>.bind (loc_cond r z) fun c r=>.want fun r=>.bind (ih r z) fun a r=>.ok) ?_;refine .got (fun r=>.bind (loc_row ih r z) fun s r=>.want fun r=>.bind (loc_cond r z) fun c r=>.ok) ?_;refine .got (fun r=>.name fun x r=>.want fun r=>.bind (loc_expr r z) fun a r=>.got (fun r=>loc_forEnd ih x a true r z) (.want fun r=>loc_forEnd ih x a false r z)) ?_;refine .got (fun r=>.bind (loc_row ih r z) fun s r=>.want fun r=>.ok) ?_;refine .got (fun r=>.want fun r=>.bind (loc_expr r z) fun e r=>.want fun r=>.ok) ?_;rcases ts with _ | ⟨_ | x | _ | _,ts⟩<;>first | exact rfl | trivial | exact .got (fun r=>.bind (loc_expr r z) fun e r=>.ok) (.got (fun r=>.bind (loc_expr r z) fun i r=>.want fun r=>.want fun r=>.bind (loc_expr r z) fun e r=>.ok) (.bind (loc_args ts z) fun q r=>.ok))
theorem loc_stmts:Loc pStmts:=loc_row (loc_stmt dS)
theorem loc_namesL:∀ g,Loc (pNamesL g)
 | 0,ts,z=>trivial
 | g+1,ts,z=>.got (fun r=>.name fun x r=>.bind (loc_namesL g r z) fun q r=>.ok) .ok
theorem loc_declE (xs:List Tx)(n:Option Nat):Loc (pDeclE xs n):=fun ts z=>.want fun r=>.want fun r=>.ok
theorem loc_decl:Loc pDecl:=fun ts z=>.name fun x r=>.bind (loc_namesL gasL r z) fun q r=>.want fun r=>.got (fun r=>.want fun r=>.int fun n r=>.want fun r=>.want fun r=>loc_declE (x::q) (some n) r z) (loc_declE (x::q) Option.none r z)
theorem loc_vars:∀ g,Loc (pVars g)
 | 0,ts,z=>trivial
 | g+1,ts,z=>.bind (loc_decl ts z) fun v r=>by
  rcases r with _ | ⟨_ | x | _ | _,r⟩<;>first | exact rfl | trivial | exact .bind (loc_vars g (.name x::r) z) fun q r=>.ok
theorem loc_params:∀ g,Loc (pParams g)
 | 0,ts,z=>trivial
 | g+1,ts,z=>.got (fun r=>.name fun x r=>.got (fun r=>.bind (loc_params g r z) fun q r=>.ok) .ok) (.name fun x r=>.got (fun r=>.bind (loc_params g r z) fun q r=>.ok) .ok)
theorem loc_procE {blk:List Tok->PB}(hb:Loc blk)(x:Tx)(ps:List (Tx×Bool)):Loc (pProcE blk x ps):=fun ts z=>.want fun r=>.bind (hb r z) fun b r=>.want fun r=>.ok
theorem loc_procs {blk:List Tok->PB}(hb:Loc blk):∀ g,Loc (pProcs blk g)
 | 0,ts,z=>trivial
 | g+1,ts,z=>.got (fun r=>.name fun x r=>.bind (.got (fun r=>.bind (loc_params gasL r z) fun q r=>.want fun r=>loc_procE hb x q r z) (loc_procE hb x [] r z)) fun p r=>.bind (loc_procs hb g r z) fun q r=>.ok) .ok
theorem loc_blockE {blk:List Tok->PB}(hb:Loc blk)(vs:List (Tx×Option Nat)):Loc (pBlockE blk vs):=fun ts z=>.bind (loc_procs hb gasL ts z) fun p r=>.want fun r=>.bind (loc_stmts r z) fun s r=>.want fun r=>.ok
theorem loc_block:∀ d,Loc (pBlock d)
 | 0,ts,z=>trivial
 | d+1,ts,z=>.got (fun r=>.bind (loc_vars gasL r z) fun v r=>loc_blockE (loc_block d) v r z) (loc_blockE (loc_block d) [] ts z)
def LexOk (l:Tx)(ts:List Tok):Prop:=∀ g,l.length<g->lexF g l=.ok ts
def LexErr (l:Tx):Prop:=∀ g,l.length<g->lexF g l=.err
noncomputable def oc:Option Tok->List Tok->List Tok
 | Option.none,ts=>ts
 | some k,ts=>k::ts
theorem dropWhile_len {p:Nat->Bool}:∀ l:Tx,(l.dropWhile p).length<=l.length
 | []=>Aj _
 | a::l=>by
  rw [List.dropWhile_cons];cases p a with
  | true=>exact Nat.le_succ_of_le (dropWhile_len l)
  | false=>exact Aj _
theorem dropWhile_len1 {p:Nat->Bool}{c:Nat}(l:Tx)(h:p c=true):((c::l).dropWhile p).length<=l.length:=by
 rw [List.dropWhile_cons,h]; exact dropWhile_len l
theorem behind_len (c:Nat):∀ (l l':Tx),behind c l=some l'->l'.length<=l.length
 | [],l',h=>by cases h
 | d::l,l',h=>by
  have h:(match Nat.beq d c with
   | true=>some l
   | false=>behind c l)=some l':=h
  revert h;cases Nat.beq d c with
  | true=>intro h; cases h; exact Nat.le_succ _
  | false=>intro h; exact Nat.le_succ_of_le (behind_len c l l' h)
def Nxt (l:Tx)(m:R (Option Tok×Tx))(m':Tx->R (Option Tok×Tx)):Prop:=match m with
 | .ok q=>q.2.length<=l.length∧∀ v,q.2≠[]->m' v=.ok (q.1,q.2++v)
 | _=>True
theorem tw_ext {p:Nat->Bool}(v:Tx):∀ l:Tx,l.dropWhile p≠[]->(l++v).takeWhile p=l.takeWhile p∧(l++v).dropWhile p=l.dropWhile p++v
 | [],h=>absurd rfl h
 | a::l,h=>by
  rw [List.cons_append,List.takeWhile_cons,List.dropWhile_cons,List.takeWhile_cons,List.dropWhile_cons];rw [List.dropWhile_cons] at h;revert h;cases p a with
  | true=>intro h; exact ⟨congrArg (a::·) (tw_ext v l h).1,(tw_ext v l h).2⟩
  | false=>exact fun _=>⟨rfl,rfl⟩
theorem behind_ext {c:Nat}(v:Tx):∀ (l l':Tx),behind c l=some l'->behind c (l++v)=some (l'++v)
 | [],l',h=>by cases h
 | d::l,l',h=>by
  have h:(match Nat.beq d c with
   | true=>some l
   | false=>behind c l)=some l':=h
  show (match Nat.beq d c with
   | true=>some (l++v)
   | false=>behind c (l++v))=some (l'++v)
  revert h;cases Nat.beq d c with
  | true=>intro h; cases h; rfl
  | false=>exact behind_ext v l l'
theorem lexD_nxt {c:Nat}(l:Tx)(hc:isDig c=true):Nxt l (lexD c l) fun v=>lexD c (l++v):=by
 have hl:=dropWhile_len1 l hc;have hx:=fun v=>tw_ext (p:=isDig) v (c::l);have e:lexD c l=(match startsAlp ((c::l).dropWhile isDig) with
  | true=>.err
  | false=>match Nat.ble ((c::l).takeWhile isDig).length 600 with
   | true=>.ok (some (.int (digVal ((c::l).takeWhile isDig))),(c::l).dropWhile isDig)
   | false=>.bot):=rfl
 have e':∀ v,lexD c (l++v)=(match startsAlp ((c::l++v).dropWhile isDig) with
  | true=>.err
  | false=>match Nat.ble ((c::l++v).takeWhile isDig).length 600 with
   | true=>.ok (some (.int (digVal ((c::l++v).takeWhile isDig))),(c::l++v).dropWhile isDig)
   | false=>.bot):=fun v=>rfl
 rw [e];cases h1:startsAlp ((c::l).dropWhile isDig) with
 | true=>trivial
 | false=>
  cases h2:Nat.ble ((c::l).takeWhile isDig).length 600 with
  | false=>trivial
  | true=>
   refine ⟨hl,fun v hv=>?_⟩;have hv:(c::l).dropWhile isDig≠[]:=hv;show lexD c (l++v)=_;rw [e',(hx v hv).1,(hx v hv).2,h2];revert h1 hv;cases (c::l).dropWhile isDig with
   | nil=>exact fun _ h=>absurd rfl h
   | cons a r=>intro h _; rw [show startsAlp (a::r++v)=false from h]
theorem lexG_nxt (c:Nat):∀ l:Tx,Nxt l (lexG c l) fun v=>lexG c (l++v)
 | []=>by
  show Nxt [] (match memTx [c] pairs with
   | true=>.ok (some (.word [c]),[])
   | false=>match memN c signs with
    | true=>.ok (some (.word [c]),[])
    | false=>.err) _
  cases memTx [c] pairs with
  | true=>exact ⟨Aj _,fun v h=>absurd rfl h⟩
  | false=>cases memN c signs with
   | true=>exact ⟨Aj _,fun v h=>absurd rfl h⟩
   | false=>trivial
 | d::l=>by
  have e:∀ l,lexG c (d::l)=(match memTx [c,d] pairs with
   | true=>.ok (some (.word [c,d]),l)
   | false=>match memN c signs with
    | true=>.ok (some (.word [c]),d::l)
    | false=>.err):=fun l=>rfl
  show Nxt (d::l) (lexG c (d::l)) fun v=>lexG c (d::(l++v));simp only [e];cases memTx [c,d] pairs with
  | true=>exact ⟨Nat.le_succ _,fun v h=>rfl⟩
  | false=>cases memN c signs with
   | true=>exact ⟨Aj _,fun v h=>rfl⟩
   | false=>trivial
theorem lexW_nxt {c:Nat}(l:Tx)(hc:isAln c=true):Nxt l (lexW (((c::l).takeWhile isAln).map lowC) ((c::l).dropWhile isAln)) fun v=>lexW (((c::l++v).takeWhile isAln).map lowC) ((c::l++v).dropWhile isAln):=
 ⟨dropWhile_len1 l hc,fun v hv=>by
  show lexW (((c::l++v).takeWhile isAln).map lowC) ((c::l++v).dropWhile isAln)=_;rw [(tw_ext v (c::l) hv).1,(tw_ext v (c::l) hv).2]; rfl⟩
theorem lexC_nxt (c:Nat)(l:Tx):Nxt l (lexC c l) fun v=>lexC c (l++v):=by
 have e:∀ l,lexC c l=(match memN c [32,10] with
  | true=>.ok (Option.none,l)
  | false=>match Nat.beq c 123 with
  | true=>(match behind 125 l with
   | Option.none=>.err
   | some l'=>.ok (Option.none,l'))
  | false=>match isAlp c with
  | true=>lexW (((c::l).takeWhile isAln).map lowC) ((c::l).dropWhile isAln)
  | false=>match isDig c with
  | true=>lexD c l
  | false=>lexG c l):=fun l=>rfl
 simp only [e];cases memN c [32,10] with
 | true=>exact ⟨Aj _,fun v h=>rfl⟩
 | false=>
 cases Nat.beq c 123 with
 | true=>
  cases hb:behind 125 l with
  | none=>trivial
  | some r=>exact ⟨behind_len _ _ _ hb,fun v h=>by
   show (match behind 125 (l++v) with
    | Option.none=>.err
    | some l'=>.ok (Option.none,l'):R (Option Tok×Tx))=_
   rw [behind_ext v l r hb]⟩
 | false=>
 cases h3:isAlp c with
 | true=>exact lexW_nxt l (by unfold isAln; rw [h3]; rfl)
 | false=>
 cases h4:isDig c with
 | true=>exact lexD_nxt l h4
 | false=>exact lexG_nxt c l
theorem nxt_ok {c:Nat}{l:Tx}{q:Option Tok×Tx}(h:lexC c l=.ok q):q.2.length<=l.length∧∀ v,q.2≠[]->lexC c (l++v)=.ok (q.1,q.2++v):=by
 have:=lexC_nxt c l;rw [h] at this; exact this
theorem LexOk.step {c:Nat}{l:Tx}{k:Option Tok}{l':Tx}{ts:List Tok}(h:lexC c l=.ok (k,l'))(h':LexOk l' ts):LexOk (c::l) (oc k ts)
 | 0,hg=>absurd hg (Nat.not_lt_zero _)
 | g+1,hg=>by
  show (lexC c l).bind _=_;rw [h];show (lexF g l').bind _=_;rw [h' g (Ao (nxt_ok h).1 (Nat.lt_of_succ_lt_succ hg))];cases k<;>rfl
theorem LexErr.step {c:Nat}{l:Tx}{k:Option Tok}{l':Tx}(h:lexC c l=.ok (k,l'))(h':LexErr l'):LexErr (c::l)
 | 0,hg=>absurd hg (Nat.not_lt_zero _)
 | g+1,hg=>by
  show (lexC c l).bind _=_;rw [h];show (lexF g l').bind _=_;rw [h' g (Ao (nxt_ok h).1 (Nat.lt_of_succ_lt_succ hg))];rfl
theorem LexErr.err {c:Nat}{l:Tx}(h:lexC c l=.err):LexErr (c::l)
 | 0,hg=>absurd hg (Nat.not_lt_zero _)
 | g+1,hg=>by
  show (lexC c l).bind _=_;rw [h]; rfl
noncomputable def lexP (s:Nat):Nat->Tx->R (List Tok)
 | g+1,c::l=>match l with
  | []=>(match Nat.beq c s with
   | true=>.ok []
   | false=>.bot)
  | _::_=>(lexC c l).bind fun q=>(lexP s g q.2).bind fun ts=>.ok (oc q.1 ts)
 | _,_=>.bot
theorem beq_eq' {a b:Nat}(h:Nat.beq a b=true):a=b:=As h
theorem oc_app (k:Option Tok)(a b:List Tok):oc k a++b=oc k (a++b):=by cases k<;>rfl
theorem lexP_ok {s:Nat}{v:Tx}:∀ (g:Nat) (t:Tx) (ts:List Tok),lexP s g t=.ok ts->(∀ us,LexOk (s::v) us->LexOk (t++v) (ts++us))∧(LexErr (s::v)->LexErr (t++v))
 | 0,t,ts,h=>by cases t<;>cases h
 | g+1,[],ts,h=>by cases h
 | g+1,[c],ts,h=>by
  have h:(match Nat.beq c s with
   | true=>.ok []
   | false=>.bot)=R.ok ts:=h
  revert h;cases hb:Nat.beq c s with
  | false=>intro h; cases h
  | true=>intro h; cases h; rw [beq_eq' hb]; exact ⟨fun us h=>h,fun h=>h⟩
 | g+1,c::d::l,ts,h=>by
  obtain ⟨q,h1,h2⟩:=R.bind_ok (show (lexC c (d::l)).bind _=.ok ts from h); obtain ⟨t2,h3,h4⟩:=R.bind_ok h2;cases h4;have hn:q.2≠[]:=fun e=>by rw [e] at h3; cases g<;>cases h3
  have h5:=(nxt_ok h1).2 v hn;obtain ⟨i1,i2⟩:=lexP_ok (v:=v) g q.2 t2 h3;refine ⟨fun us hu=>?_,fun hu=>LexErr.step h5 (i2 hu)⟩;rw [oc_app];exact LexOk.step h5 (i1 us hu)
theorem lex_semi (v:Tx):lexC 59 v=.ok (some (.word [59]),v):=by cases v<;>rfl
theorem LexOk.semi {v:Tx}{ts:List Tok}(h:LexOk v ts):LexOk (59::v) (.word [59]::ts):=LexOk.step (lex_semi v) h
theorem LexErr.semi {v:Tx}(h:LexErr v):LexErr (59::v):=LexErr.step (lex_semi v) h
theorem LexOk.space {v:Tx}{ts:List Tok}(h:LexOk v ts):LexOk (32::v) ts:=LexOk.step (k:=Option.none) rfl h
theorem LexErr.space {v:Tx}(h:LexErr v):LexErr (32::v):=LexErr.step (k:=Option.none) rfl h
theorem LexOk.nil:LexOk [] []
 | 0,hg=>absurd hg (Nat.not_lt_zero _)
 | g+1,hg=>rfl
theorem lexF_ok:∀ (g:Nat) (u:Tx) (ts:List Tok),lexF g u=.ok ts->LexOk u ts
 | 0,u,ts,h=>by cases h
 | g+1,[],ts,h=>by cases h; exact LexOk.nil
 | g+1,c::l,ts,h=>by
  obtain ⟨⟨k,l'⟩,h1,h2⟩:=R.bind_ok (show (lexC c l).bind _=.ok ts from h); obtain ⟨t2,h3,h4⟩:=R.bind_ok h2;have:=LexOk.step h1 (lexF_ok g _ _ h3);cases k<;>(cases h4; exact this)
theorem lexT_ok {u:Tx}{ts:List Tok}(h:LexOk u ts)(hl:u.length<gasX):lexT u=.ok (ts++[.fin]):=by unfold lexT; rw [h gasX hl]; rfl
theorem lexT_err {u:Tx}(h:LexErr u)(hl:u.length<gasX):lexT u=.err:=by unfold lexT; rw [h gasX hl]; rfl
noncomputable def RW (h:Nat)(ts:List Tok):R (List St×List Tok):=(pStmt dS ts).bind fun s=>(pRowL (pStmt dS) h s.2).bind fun q=>.ok (s.1::q.1,q.2)
noncomputable def rowOf (q:List St×List Tok):PT:=match q.1 with
 | []=>.bot
 | s::r=>.ok (mkRow s r,q.2)
theorem pStmts_RW (ts:List Tok):pStmts ts=(RW gasL ts).bind rowOf:=by
 show (pStmt dS ts).bind _=((pStmt dS ts).bind _).bind _;cases pStmt dS ts with
 | ok s=>
  show (pRowL (pStmt dS) gasL s.2).bind _=((pRowL (pStmt dS) gasL s.2).bind _).bind _;cases pRowL (pStmt dS) gasL s.2<;>rfl
 | err=>rfl
 | bot=>rfl
noncomputable def rowP:Nat->List Tok->R (List St)
 | 0,_=>.bot
 | g+1,ts=>(pStmt dS ts).bind fun q=>match q.2 with
  | []=>.bot
  | k::r=>match k.is wSemi with
   | true=>(match r with
    | []=>.ok [q.1]
    | _::_=>(rowP g r).bind fun ss=>.ok (q.1::ss))
   | false=>.bot
theorem RW_loc {ts:List Tok}{s:St}{r:List Tok}(h:pStmt dS ts=.ok (s,r))(z:List Tok)(n:Nat):RW n (ts++z)=(pRowL (pStmt dS) n (r++z)).bind fun q=>.ok (s::q.1,q.2):=by
 have e:=loc_stmt dS ts z;rw [h] at e;show (pStmt dS (ts++z)).bind _=_;rw [show pStmt dS (ts++z)=_ from e]; rfl
theorem rowL_is {k:Tok}(hk:k.is wSemi=true)(h:Nat)(r:List Tok):pRowL (pStmt dS) (h+1) (k::r)=RW h r:=by
 show (match k.is wSemi with
  | true=>RW h r
  | false=>.ok ([],k::r))=_
 rw [hk]
theorem rowP_ok:∀ (g:Nat) (ts:List Tok) (ss:List St),rowP g ts=.ok ss->∀ n z,RW (n+ss.length) (ts++z)=(RW n z).bind fun q=>.ok (ss++q.1,q.2)
 | 0,ts,ss,h=>by cases h
 | g+1,ts,ss,h=>by
  intro n z;obtain ⟨⟨s,r⟩,h1,h2⟩:=R.bind_ok (show (pStmt dS ts).bind _=.ok ss from h);rw [RW_loc h1];cases r with
  | nil=>cases h2
  | cons k r=>
   have h2:(match k.is wSemi with
    | true=>(match (generalizing:=false) r with
     | []=>.ok [s]
     | _::_=>(rowP g r).bind fun ss=>.ok (s::ss))
    | false=>.bot)=R.ok ss:=h2
   cases hw:k.is wSemi with
   | false=>rw [hw] at h2; cases h2
   | true=>
    rw [hw] at h2;cases r with
    | nil=>
     cases h2;show (pRowL (pStmt dS) (n+1) (k::z)).bind _=_;rw [rowL_is hw];cases RW n z<;>rfl
    | cons k' r=>
     obtain ⟨s2,h3,h4⟩:=R.bind_ok (show (rowP g (k'::r)).bind _=R.ok ss from h2);cases h4;have ih:=rowP_ok g _ _ h3 n z;show (pRowL (pStmt dS) (n+s2.length+1) (k::(k'::r++z))).bind _=_;rw [rowL_is hw,ih];cases RW n z<;>rfl
theorem rowL_mono {st:List Tok->PT}:∀ (g:Nat) (ts:List Tok) (q:List St×List Tok),pRowL st g ts=.ok q->∀ n,pRowL st (g+n) ts=.ok q
 | 0,ts,q,h=>by cases h
 | g+1,[],q,h=>by cases h
 | g+1,k::ts,q,h=>by
  intro n;rw [Aw];have h:(match k.is wSemi with
   | true=>(st ts).bind fun s=>(pRowL st g s.2).bind fun q=>.ok (s.1::q.1,q.2)
   | false=>.ok ([],k::ts))=R.ok q:=h
  show (match k.is wSemi with
   | true=>(st ts).bind fun s=>(pRowL st (g+n) s.2).bind fun q=>.ok (s.1::q.1,q.2)
   | false=>.ok ([],k::ts))=R.ok q
  revert h;cases k.is wSemi with
  | false=>exact id
  | true=>
   intro h;obtain ⟨s,h1,h2⟩:=R.bind_ok (show (st ts).bind _=R.ok q from h); obtain ⟨u,h3,h4⟩:=R.bind_ok h2;show (st ts).bind _=_;rw [h1];show (pRowL st (g+n) s.2).bind _=_;rw [rowL_mono g _ _ h3 n];exact h4
theorem RW_mono {g:Nat}{ts:List Tok}{q:List St×List Tok}(h:RW g ts=.ok q)(n:Nat):RW (g+n) ts=.ok q:=by
 obtain ⟨s,h1,h2⟩:=R.bind_ok (show (pStmt dS ts).bind _=.ok q from h); obtain ⟨u,h3,h4⟩:=R.bind_ok h2;show (pStmt dS ts).bind _=_;rw [h1];show (pRowL (pStmt dS) (g+n) s.2).bind _=_;rw [rowL_mono g _ _ h3 n];exact h4
noncomputable def fin? {α:Type}(a:α):List Tok->R α
 | []=>.bot
 | .fin::_=>.ok a
 | _::_=>.err
theorem parse_head {x:Tx}{B B':List Tok}{vs:List (Tx×Option Nat)}{ps:Bl}(h1:pVars gasL B=.ok (vs,B'))(h2:pProcs (pBlock 5) gasL B'=.ok (ps,[.word sBegin]))(z:List Tok) :
  pProgram (.word wProgram::.name x::.word wSemi::.word wVar::(B++z))=(pStmts z).bind fun s=>pWant wEnd s.2 fun r=>pWant wDot r (fin? (x,.mk vs ps s.1)):=by
 have l1:=loc_vars gasL B z;have l2:=loc_procs (loc_block 5) gasL B' z;rw [h1] at l1;rw [h2] at l2;show ((pVars gasL (B++z)).bind _).bind _=_;rw [show pVars gasL (B++z)=_ from l1];show ((pProcs (pBlock 5) gasL (B'++z)).bind _).bind _=_;rw [show pProcs (pBlock 5) gasL (B'++z)=_ from l2];show ((pStmts z).bind _).bind _=_;cases pStmts z with
 | ok s=>
  show (pWant wEnd s.2 _).bind _=pWant wEnd s.2 _;cases s.2 with
  | nil=>rfl
  | cons k r=>
   show (match k.is wEnd with
    | true=>.ok (Bl.mk vs ps s.1,r)
    | false=>.err:PB).bind _=(match k.is wEnd with
    | true=>pWant wDot r (fin? (x,Bl.mk vs ps s.1))
    | false=>R.err)
   cases k.is wEnd<;>rfl
 | err=>rfl
 | bot=>rfl
noncomputable def lHead:Tx:=[80,114,111,103,114,97,109,32,112,49,59,123,32,63,32,101,110,100,32,125,118,97,114,32,88,44,32,121,32,58,32,105,110,116,101,103,101,114,59,10,98,32,58,32,97,114,114,97,121,32,91,49,93,32,111,102,32,105,110,116,101,103,101,114,59,32,97,32,58,32,97,114,114,97,121,32,91,51,93,32,111,102,32,105,110,116,101,103,101,114,59,32,123,125,112,114,111,99,101,100,117,114,101,32,102,40,110,44,32,118,97,114,32,114,41,59,32,118,97,114,32,122,32,58,32,105,110,116,101,103,101,114,59,32,112,114,111,99,101,100,117,114,101,32,103,59,32,98,101,103,105,110,32,122,32,58,61,32,122,32,43,32,110,59,32,114,32,58,61,32,114,32,42,32,50,32,43,32,122,32,45,32,89,59,32,105,102,32,110,32,62,32,48,32,116,104,101,110,32,102,40,110,32,45,32,49,44,32,114,41,32,101,110,100,59,32,98,101,103,105,110,32,103,59,32,114,32,58,61,32,114,32,43,32,122,32,101,110,100,59,32,112,114,111,99,101,100,117,114,101,32,115,40,118,97,114,32,117,44,32,120,41,59,32,98,101,103,105,110,32,102,111,114,32,117,32,58,61,32,117,32,45,32,120,32,116,111,32,117,32,45,32,120,32,100,111,32,120,32,58,61,32,57,32,101,110,100,59,32,98,101,103,105,110,32,120,32,58,61,32]
noncomputable def lTail:Tx:=[59,32,119,114,105,116,101,40,120,41,59,32,119,114,105,116,101,40,89,41,59,32,102,111,114,32,121,32,58,61,32,48,32,116,111,32,50,32,100,111,32,119,114,105,116,101,40,97,91,121,93,41,59,32,119,114,105,116,101,40,121,41,32,101,110,100,46]
noncomputable def lSteps:List Tx:=[[84,32,58,61,32,69],
 [98,101,103,105,110,32,59,32,119,114,105,116,101,40,69,41,32,101,110,100],
 [105,102,32,67,32,116,104,101,110,32,105,102,32,111,100,100,40,89,41,32,116,104,101,110,32,119,114,105,116,101,40,49,41,32,101,108,115,101,32,119,114,105,116,101,40,50,41],
 [105,102,32,67,32,116,104,101,110,32,120,32,58,61,32,69,32,101,108,115,101,32,121,32,58,61,32,35],
 [121,32,58,61,32,35,59,32,119,104,105,108,101,32,121,32,62,61,32,120,32,109,111,100,32,51,32,100,111,32,121,32,58,61,32,121,32,45,32,49],
 [121,32,58,61,32,35,59,32,114,101,112,101,97,116,32,121,32,58,61,32,121,32,45,32,49,59,32,120,32,58,61,32,120,32,43,32,121,32,117,110,116,105,108,32,121,32,60,61,32,49],
 [102,111,114,32,121,32,58,61,32,35,32,45,32,49,32,116,111,32,120,32,109,111,100,32,51,32,100,111,32,98,101,103,105,110,32,120,32,58,61,32,120,32,43,32,121,59,32,121,32,58,61,32,121,32,42,32,50,32,101,110,100],
 [102,111,114,32,120,32,58,61,32,49,32,116,111,32,50,32,100,111,32,102,111,114,32,121,32,58,61,32,35,32,100,111,119,110,116,111,32,120,32,100,111,32,119,114,105,116,101,40,120,32,42,32,57,32,43,32,121,41],
 [102,40,35,32,45,32,50,44,32,84,41],
 [115,40,84,44,32,69,41]]
noncomputable def lBad:List Tx:=[[119,32,58,61,32,49],
 [97,32,58,61,32,49],
 [121,91,48,93,32,58,61,32,49],
 [102,40,49,41],
 [102,40,49,44,32,45,120,41],
 [120,32,58,61,32,102],
 [119,114,105,116,101,40,97,41],
 [120],
 [120,32,58,61,32,55,100,105,118,32,50],
 [105,102,32,120,32,58,61,32,49,32,116,104,101,110,32,121,32,58,61,32,50],
 [103],
 [123,32,120,32,58,61,32,49]]
noncomputable def lTurned:List (Tx×Tx):=[([112,49,59],[55,59]),([112,49,59],[112,49,44]),([121,32,58,32,105,110,116,101,103,101,114],[121,44,32,120,32,58,32,105,110,116,101,103,101,114]),([91,49,93],[91,48,93]),([118,97,114,32,122],[118,97,114,32,122,44,32,114]),([40,118,97,114,32,117,44,32,120,41],[40,118,97,114,32,117,44,32,117,41]),([98,101,103,105,110,32,103,59],[98,101,103,105,110,32,115,40,120,44,32,49,41,59,32,103,59]),([101,110,100,46],[101,110,100,46,32,120]),([101,110,100,46],[101,110,100,46,32,55]),([101,110,100,46],[101,110,100]),([10],[9]),([57],[1635])]
noncomputable def lE:List Tx:=[[49,35],
 [120,32,45,32,121,32,45,32,35],
 [120,32,45,32,40,35,32,45,32,121,41],
 [35,32,43,32,120,32,42,32,45,121],
 [45,88,32,45,32,45,45,35],
 [120,32,100,105,118,32,40,121,32,45,32,35,41],
 [121,32,109,111,100,32,40,35,32,45,32,50,41],
 [97,91,35,32,45,32,49,93],
 [40,120,32,43,32,55,41,32,42,32,121,32,100,105,118,32,51,32,42,32,50],
 [120,32,109,111,100,32,51,32,45,32,97,91,49,93,32,43,32,121],
 [120,32,109,111,100,32,51,32,45,32,97,91,48,93,32,43,32,121]]
noncomputable def lC:List Tx:=[[120,32,61,32,121],
 [120,32,60,62,32,35],
 [120,32,60,32,121],
 [89,32,60,61,32,35],
 [120,32,62,32,121],
 [120,32,62,61,32,35],
 [111,100,100,40,120,32,45,32,35,41]]
noncomputable def lT:List Tx:=[[120],
 [89],
 [97,91,35,32,45,32,49,93]]
noncomputable def lTest:Tx:=[112,114,111,103,114,97,109,32,113,59,32,118,97,114,32,120,32,58,32,105,110,116,101,103,101,114,59,32,98,101,103,105,110,32,119,114,105,116,101,40,120,32,45,32,51,41,32,101,110,100,46]
noncomputable def lIf:Tx:=[105,102,32,48,32,62,32,49,32,116,104,101,110,32]
theorem beq_sym {a b:Nat}(h:Nat.beq a b=false):Nat.beq b a=false:=by
 cases hb:Nat.beq b a with
 | false=>rfl
 | true=>rw [As hb,Nat.beq_refl] at h; cases h
noncomputable def replC (c:Nat)(b:Tx):Tx->Tx
 | []=>[]
 | d::l=>match Nat.beq d c with
  | true=>b++replC c b l
  | false=>d::replC c b l
theorem replC_no (c:Nat)(b:Tx):∀ l:Tx,memN c l=false->replC c b l=l
 | [],_=>rfl
 | d::l,h=>by
  have h:=Bool.or_eq_false_iff.mp h;show (match Nat.beq d c with
   | true=>b++replC c b l
   | false=>d::replC c b l)=_
  rw [show Nat.beq d c=false from beq_sym h.1,replC_no c b l h.2]
noncomputable def digT (n:Nat):Tx:=[48+n]
noncomputable def at? (l:List Tx)(i:Nat):Tx:=l.getD i []
noncomputable def stepText (k e c t n:Nat):Tx:=
 replC 35 (digT n) (replC 84 (at? lT t) (replC 67 (at? lC c) (replC 69 (at? lE e) (at? lSteps k))))
noncomputable def vX:Ex:=.name [120]
noncomputable def vY:Ex:=.name [121]
noncomputable def tPlus (a b:Ex):Ex:=.bin [43] a b
noncomputable def tMinus (a b:Ex):Ex:=.bin [45] a b
noncomputable def tMul (a b:Ex):Ex:=.bin [42] a b
noncomputable def tDiv (a b:Ex):Ex:=.bin [100,105,118] a b
noncomputable def tMod (a b:Ex):Ex:=.bin [109,111,100] a b
noncomputable def tA (i:Ex):Ex:=.at [97] i
noncomputable def eT:Nat->Nat->Ex
 | 0,n=>.int (10+n)
 | 1,n=>tMinus (tMinus vX vY) (.int n)
 | 2,n=>tMinus vX (tMinus (.int n) vY)
 | 3,n=>tPlus (.int n) (tMul vX (.neg vY))
 | 4,n=>tMinus (.neg vX) (.neg (.neg (.int n)))
 | 5,n=>tDiv vX (tMinus vY (.int n))
 | 6,n=>tMod vY (tMinus (.int n) (.int 2))
 | 7,n=>tA (tMinus (.int n) (.int 1))
 | 8,n=>tMul (tDiv (tMul (tPlus vX (.int 7)) vY) (.int 3)) (.int 2)
 | 9,n=>tPlus (tMinus (tMod vX (.int 3)) (tA (.int 1))) vY
 | _,n=>tPlus (tMinus (tMod vX (.int 3)) (tA (.int 0))) vY
noncomputable def cT:Nat->Nat->Ex
 | 0,n=>.bin [61] vX vY
 | 1,n=>.bin [60,62] vX (.int n)
 | 2,n=>.bin [60] vX vY
 | 3,n=>.bin [60,61] vY (.int n)
 | 4,n=>.bin [62] vX vY
 | 5,n=>.bin [62,61] vX (.int n)
 | _,n=>.odd (tMinus vX (.int n))
noncomputable def tT:Nat->Nat->Ex
 | 0,_=>vX
 | 1,_=>vY
 | _,n=>tA (tMinus (.int n) (.int 1))
noncomputable def setT (t n:Nat)(e:Ex):St:=match t with
 | 0=>.set [120] e
 | 1=>.set [121] e
 | _=>.setAt [97] (tMinus (.int n) (.int 1)) e
noncomputable def sX (e:Ex):St:=.set [120] e
noncomputable def sY (e:Ex):St:=.set [121] e
noncomputable def stepT (k e c t n:Nat):List St:=match k with
 | 0=>[setT t n (eT e n)]
 | 1=>[.beg (.seq .empty (.one (.write (eT e n))))]
 | 2=>[.if1 (cT c n) (.if2 (.odd vY) (.write (.int 1)) (.write (.int 2)))]
 | 3=>[.if2 (cT c n) (sX (eT e n)) (sY (.int n))]
 | 4=>[sY (.int n),.whl (.bin [62,61] vY (tMod vX (.int 3))) (sY (tMinus vY (.int 1)))]
 | 5=>[sY (.int n),.rep (.seq (sY (tMinus vY (.int 1))) (.one (sX (tPlus vX vY)))) (.bin [60,61] vY (.int 1))]
 | 6=>[.for [121] (tMinus (.int n) (.int 1)) (tMod vX (.int 3)) true (.beg (.seq (sX (tPlus vX vY)) (.one (sY (tMul vY (.int 2))))))]
 | 7=>[.for [120] (.int 1) (.int 2) true (.for [121] (.int n) vX false (.write (tPlus (tMul vX (.int 9)) vY)))]
 | 8=>[.call [102] [tMinus (.int n) (.int 2),tT t n]]
 | _=>[.call [115] [tT t n,eT e n]]
noncomputable def allN (p:Nat->Bool):Nat->Bool
 | 0=>true
 | n+1=>p n&&allN p n
theorem allN_at {p:Nat->Bool}:∀ {n:Nat},allN p n=true->∀ {i:Nat},i<n->p i=true
 | 0,_,i,hi=>absurd hi (Nat.not_lt_zero i)
 | n+1,h,i,hi=>(Nat.lt_succ_iff_lt_or_eq.mp hi).elim (allN_at (Ab h).2) fun e=>e▸(Ab h).1
noncomputable def parP (u:Tx):R (List St):=(lexP 59 300 (u++[59])).bind fun ts=>rowP 9 (ts++[.word wSemi])
noncomputable def rel (m n k:Nat):Nat:=match memN m (at? lSteps k) with
 | true=>n
 | false=>1
structure Ch where
 k:Nat
 e:Nat
 c:Nat
 u:Nat
 n:Nat
noncomputable def Ch.tree (h:Ch):List St:=stepT h.k h.e h.c h.u h.n
noncomputable def Ch.text (h:Ch):Tx:=32::stepText h.k h.e h.c h.u h.n
noncomputable def cans:List Ch:=(List.range 10).flatMap fun k=>(List.range (rel 69 11 k)).flatMap fun e=>(List.range (rel 67 7 k)).flatMap fun c=>(List.range (rel 84 3 k)).flatMap fun t=>(List.range 5).map fun n=>⟨k,e,c,t,n⟩
set_option maxHeartbeats 0 in
theorem can_par:cans.map (fun h=>(parP h.text,Nat.ble h.text.length 200))=cans.map (fun h=>(.ok h.tree,true)):=by kernel_rfl
theorem map_at {α β:Type}{f g:α->β}:∀ {l:List α},l.map f=l.map g->∀ {a:α},a∈l->f a=g a
 | [],h,a,m=>absurd m List.not_mem_nil
 | b::l,h,a,m=>(List.mem_cons.mp m).elim (fun e=>e▸(List.cons.inj h).1) (map_at (List.cons.inj h).2)
noncomputable def relv (m k i:Nat):Nat:=match memN m (at? lSteps k) with
 | true=>i
 | false=>0
noncomputable def Ch.can (h:Ch):Ch:=⟨h.k,relv 69 h.k h.e,relv 67 h.k h.c,relv 84 h.k h.u,h.n⟩
def Ch.ok' (h:Ch):Prop:=h.k<10∧h.e<11∧h.c<7∧h.u<3∧h.n<5
theorem relv_lt {m k i n:Nat}(h:i<n):relv m k i<rel m n k:=by
 unfold relv rel;cases memN m (at? lSteps k) with
 | true=>exact h
 | false=>exact Nat.one_pos
theorem can_mem {h:Ch}(ok:h.ok'):h.can∈cans:=by
 obtain ⟨k1,k2,k3,k4,k5⟩:=ok;refine List.mem_flatMap.mpr ⟨h.k,List.mem_range.mpr k1,List.mem_flatMap.mpr ⟨_,List.mem_range.mpr (relv_lt k2),List.mem_flatMap.mpr ⟨_,List.mem_range.mpr (relv_lt k3),List.mem_flatMap.mpr ⟨_,List.mem_range.mpr (relv_lt k4),List.mem_map.mpr ⟨h.n,List.mem_range.mpr k5,rfl⟩⟩⟩⟩⟩
theorem lt10 {P:Nat->Prop}(h0:P 0)(h1:P 1)(h2:P 2)(h3:P 3)(h4:P 4)(h5:P 5)(h6:P 6)(h7:P 7)(h8:P 8)(h9:P 9):∀ {k:Nat},k<10->P k
 | 0,_=>h0 | 1,_=>h1 | 2,_=>h2 | 3,_=>h3 | 4,_=>h4 | 5,_=>h5 | 6,_=>h6 | 7,_=>h7 | 8,_=>h8 | 9,_=>h9
 | k+10,h=>absurd h (Nat.not_lt.mpr (Ar 10 k))
theorem can_tree {h:Ch}(hk:h.k<10):h.can.tree=h.tree:=by
 obtain ⟨k,e,c,u,n⟩:=h;exact lt10 (P:=fun k=>(Ch.can ⟨k,e,c,u,n⟩).tree=Ch.tree ⟨k,e,c,u,n⟩) rfl rfl rfl rfl rfl rfl rfl rfl rfl rfl hk
theorem irr {m:Nat}{a b u:Tx}(h:memN m u=false):replC m a u=replC m b u:=(replC_no m a u h).trans (replC_no m b u h).symm
theorem noC:allN (fun k=>allN (fun e=>memN 67 (at? lSteps k)||!memN 67 (replC 69 (at? lE e) (at? lSteps k))) 11) 10=true:=by decide +kernel
theorem noT:allN (fun k=>allN (fun e=>allN (fun c=>memN 84 (at? lSteps k)||!memN 84 (replC 67 (at? lC c) (replC 69 (at? lE e) (at? lSteps k)))) 7) 11) 10=true:=by decide +kernel
theorem or_not {a b:Bool}(h:(a||!b)=true)(ha:a=false):b=false:=by subst ha; cases b<;>first | rfl | cases h
theorem relv_eq {m k i:Nat}{a:Nat->Tx}{u:Tx}(h:memN m (at? lSteps k)=false->memN m u=false):replC m (a (relv m k i)) u=replC m (a i) u:=by
 unfold relv;revert h;cases memN m (at? lSteps k) with
 | true=>exact fun _=>rfl
 | false=>exact fun h=>irr (h rfl)
theorem can_text {h:Ch}(ok:h.ok'):h.can.text=h.text:=by
 obtain ⟨k,e,c,u,n⟩:=h;obtain ⟨k1,k2,k3,k4,k5⟩:=ok;show 32::replC 35 (digT n) (replC 84 (at? lT (relv 84 k u)) (replC 67 (at? lC (relv 67 k c)) (replC 69 (at? lE (relv 69 k e)) (at? lSteps k))))=32::replC 35 (digT n) (replC 84 (at? lT u) (replC 67 (at? lC c) (replC 69 (at? lE e) (at? lSteps k))));rw [relv_eq id,relv_eq (or_not (allN_at (allN_at noC k1) k2)),relv_eq (or_not (allN_at (allN_at (allN_at noT k1) k2) k3))]
theorem ch_par {h:Ch}(ok:h.ok'):parP h.text=.ok h.tree∧Nat.ble h.text.length 200=true:=by
 have:=map_at can_par (can_mem ok);rw [can_text ok,can_tree ok.1] at this;exact Prod.mk.inj this
def FE (n b:Nat)(w:Tx)(m:R (List St×List Tok)):Prop:=w.length<=b∧((∃ T,LexOk w T∧RW n (T++[.fin])=m)∨(LexErr w∧m=.err))
noncomputable def pref (ss:List St)(m:R (List St×List Tok)):R (List St×List Tok):=m.bind fun q=>.ok (ss++q.1,q.2)
def Pc (u:Tx)(ss:List St):Prop:=∀ {n b:Nat} {v:Tx} {m:R (List St×List Tok)},FE n b v m->FE (n+ss.length) (b+201) (u++59::v) (pref ss m)
theorem app1 {α:Type}(a:List α)(x:α)(b:List α):a++[x]++b=a++x::b:=Ae a [x] b
theorem Pc.of {u:Tx}{ss:List St}(h:parP u=.ok ss)(hl:Nat.ble u.length 200=true):Pc u ss:=by
 intro n b v m h';obtain ⟨ts,h1,h2⟩:=R.bind_ok h;obtain ⟨i1,i2⟩:=lexP_ok (v:=v) 300 (u++[59]) ts h1;rw [app1] at i1 i2;obtain ⟨lb,h'⟩:=h';refine ⟨?_,?_⟩
 ·rw [Ac,List.length_cons,Nat.add_comm];show v.length+1+u.length<=b+1+200;exact Aq (Au lb) (Ad hl)
 ·rcases h' with ⟨T,t1,rfl⟩ | ⟨t1,rfl⟩
  ·refine .inl ⟨_,i1 _ t1.semi,?_⟩;have:=rowP_ok 9 _ _ h2 n (T++[.fin]);rw [app1] at this;rw [Ae];exact this
  ·exact .inr ⟨i2 t1.semi,rfl⟩
theorem FE.ge {n k b:Nat}{w:Tx}{q:List St×List Tok}(h:FE k b w (.ok q))(hn:k<=n):FE n b w (.ok q):=by
 obtain ⟨lb,⟨T,t1,t2⟩ | ⟨_,t2⟩⟩:=h
 ·have:=RW_mono t2 (n-k);rw [Nat.add_sub_of_le hn] at this;exact ⟨lb,.inl ⟨T,t1,this⟩⟩
 ·cases t2
noncomputable def segT:List Tx->Tx->Tx
 | [],tl=>tl
 | u::us,tl=>u++59::segT us tl
def Pcs (us:List Tx)(ss:List St):Prop:=∀ {n b:Nat} {v:Tx} {m:R (List St×List Tok)},FE n b v m->FE (n+ss.length) (b+201*us.length) (segT us v) (pref ss m)
theorem Pcs.nil:Pcs [] []:=fun {n b v m} h=>by
 have:pref [] m=m:=by cases m<;>rfl
 rw [this]; exact h
theorem Pcs.cons {u:Tx}{ss:List St}{us:List Tx}{rs:List St}(h:Pc u ss)(h':Pcs us rs):Pcs (u::us) (ss++rs):=fun {n b v m} g=>by
 have:=h (h' g);have e:pref ss (pref rs m)=pref (ss++rs) m:=by
  cases m with
  | ok q=>exact congrArg R.ok (Prod.ext (Ae ss rs q.1).symm rfl)
  | err=>rfl
  | bot=>rfl
 rw [e,Nat.add_assoc,Nat.add_comm rs.length,← Ac] at this;exact this
theorem Pcs.app {us:List Tx}{ss:List St}{vs:List Tx}{rs:List St}(h:Pcs us ss)(h':Pcs vs rs):∀ {n b:Nat} {v:Tx} {m:R (List St×List Tok)},FE n b v m->FE (n+rs.length+ss.length) (b+201*vs.length+201*us.length) (segT us (segT vs v)) (pref ss (pref rs m)):=fun g=>h (h' g)
theorem ch_pcs:∀ (hs:List Ch),(∀ h∈hs,h.ok')->Pcs (hs.map Ch.text) (hs.flatMap Ch.tree)
 | [],_=>Pcs.nil
 | h::hs,ok=>Pcs.cons (Pc.of (ch_par (ok h (.head _))).1 (ch_par (ok h (.head _))).2) (ch_pcs hs fun g hg=>ok g (.tail _ hg))
noncomputable def numX (i:Nat):Tx:=match Nat.blt i 4 with
 | true=>[45,48+(4-i)]
 | false=>[48+(i-4)]
noncomputable def numT (i:Nat):Ex:=match Nat.blt i 4 with
 | true=>.neg (.int (4-i))
 | false=>.int (i-4)
noncomputable def xX (i:Nat):Tx:=[32,120,32,58,61,32]++numX i
noncomputable def yX (i:Nat):Tx:=[32,121,32,58,61,32]++numX i
theorem num_all:(List.range 9).map (fun i=>(parP (xX i),Nat.ble (xX i).length 200,parP (yX i),Nat.ble (yX i).length 200))=(List.range 9).map (fun i=>(.ok [sX (numT i)],true,.ok [sY (numT i)],true)):=by kernel_rfl
theorem num_at {i:Nat}(hi:i<9):Pc (xX i) [sX (numT i)]∧Pc (yX i) [sY (numT i)]:=by
 have h:=Prod.mk.inj (map_at num_all (List.mem_range.mpr hi));have h2:=Prod.mk.inj h.2;have h3:=Prod.mk.inj h2.2;exact ⟨Pc.of h.1 h2.1,Pc.of h3.1 h3.2⟩
noncomputable def isOk {α:Type}:R α->Bool
 | .ok _=>true
 | _=>false
noncomputable def get {α:Type}(d:α):R α->α
 | .ok a=>a
 | _=>d
theorem get_ok {α:Type}{d:α}{m:R α}(h:isOk m=true):m=.ok (get d m):=by cases m<;>first | rfl | cases h
noncomputable def tokC:Tok->Nat×Tx
 | .word w=>(0,w)
 | .name w=>(1,w)
 | .int n=>(2,[n])
 | .fin=>(3,[])
noncomputable def tokD (p:Nat×Tx):Tok:=match p.1 with
 | 0=>.word p.2
 | 1=>.name p.2
 | 2=>.int (p.2.headD 0)
 | _=>.fin
theorem tok_inj {l r:List Tok}(h:l.map tokC=r.map tokC):l=r:=by
 have e:∀ l:List Tok,(l.map tokC).map tokD=l:=fun l=>by
  induction l with
  | nil=>rfl
  | cons t l ih=>cases t<;>exact congrArg (_::·) ih
 exact (e l).symm.trans ((congrArg (List.map tokD) h).trans (e r))
noncomputable def toks (hd:Tx):List Tok:=get [] (lexP 32 600 (hd++[32]))
noncomputable def hB (hd:Tx):List Tok:=(toks hd).drop 4
noncomputable def hV (hd:Tx):List (Tx×Option Nat)×List Tok:=get ([],[]) (pVars gasL (hB hd))
noncomputable def hK:List Tok:=[.word wProgram,.name [112,49],.word wSemi,.word wVar]
noncomputable def hdOk (hd:Tx):Bool:=isOk (lexP 32 600 (hd++[32]))&&decide (((toks hd).take 4).map tokC=hK.map tokC)&&isOk (pVars gasL (hB hd))&&Nat.ble hd.length 700
structure Hd (hd:Tx)(ps:Bl):Prop where
 ok:hdOk hd=true
 procs:pProcs (pBlock 5) gasL (hV hd).2=.ok (ps,[.word sBegin])
section
variable {hd:Tx}{ps:Bl}
theorem Hd.len (H:Hd hd ps):Nat.ble hd.length 700=true:=(Ab H.ok).2
theorem Hd.vars (H:Hd hd ps):pVars gasL (hB hd)=.ok (hV hd):=get_ok (Ab (Ab H.ok).1).2
theorem Hd.lex (H:Hd hd ps):lexP 32 600 (hd++[32])=.ok (.word wProgram::.name [112,49]::.word wSemi::.word wVar::hB hd):=by
 have h:=Ab (Ab (Ab H.ok).1).1;exact (get_ok (d:=[]) h.1).trans (congrArg R.ok ((List.take_append_drop 4 (toks hd)).symm.trans (congrArg (·++hB hd) (tok_inj (Ax h.2)))))
end
noncomputable def finT (hd:Tx)(ps:Bl)(m:R (List St×List Tok)):R (Tx×Bl):=(m.bind rowOf).bind fun s=>pWant wEnd s.2 fun r=>pWant wDot r (fin? ([112,49],.mk (hV hd).1 ps s.1))
theorem gas_lt {hd w:Tx}{b:Nat}(h:Nat.ble hd.length 700=true)(hw:w.length<=b)(hb:Nat.ble b 3200=true):(hd++w).length<gasX:=by
 rw [Ac];exact Ao (Aq (Ad h) (Aa hw (Ad hb))) (by decide)
theorem Hd.par {hd:Tx}{ps:Bl}(H:Hd hd ps){b:Nat}{w:Tx}{m:R (List St×List Tok)}(h:FE gasL b (32::w) m)(hb:Nat.ble b 3200=true):parseT (hd++32::w)=finT hd ps m:=by
 obtain ⟨i1,i2⟩:=lexP_ok (v:=w) 600 (hd++[32]) _ H.lex;rw [app1] at i1 i2;obtain ⟨lb,⟨T,t1,rfl⟩ | ⟨t1,rfl⟩⟩:=h
 ·unfold parseT;rw [lexT_ok (i1 T t1) (gas_lt H.len lb hb)];show pProgram (.word wProgram::.name [112,49]::.word wSemi::.word wVar::(hB hd++T++[.fin]))=_;rw [Ae,parse_head H.vars H.procs,pStmts_RW]; rfl
 ·unfold parseT;rw [lexT_err (i2 t1) (gas_lt H.len lb hb)]; rfl
noncomputable def hd0:Tx:=lHead.take 314
theorem head_eq:lHead=hd0++[32,120,32,58,61,32]:=by decide +kernel
noncomputable def psC:Bl:=Bl.proc [102] [([110],false),([114],true)] (Bl.mk [([122],Option.none)] (Bl.proc [103] [] (Bl.mk [] (Bl.nil) (St.seq (St.set [122] (Ex.bin [43] (Ex.name [122]) (Ex.name [110]))) (St.seq (St.set [114] (Ex.bin [45] (Ex.bin [43] (Ex.bin [42] (Ex.name [114]) (Ex.int 2)) (Ex.name [122])) (Ex.name [121]))) (St.one (St.if1 (Ex.bin [62] (Ex.name [110]) (Ex.int 0)) (St.call [102] [Ex.bin [45] (Ex.name [110]) (Ex.int 1),Ex.name [114]])))))) (Bl.nil)) (St.seq (St.call [103] []) (St.one (St.set [114] (Ex.bin [43] (Ex.name [114]) (Ex.name [122])))))) (Bl.proc [115] [([117],true),([120],false)] (Bl.mk [] (Bl.nil) (St.one (St.for [117] (Ex.bin [45] (Ex.name [117]) (Ex.name [120])) (Ex.bin [45] (Ex.name [117]) (Ex.name [120])) true (St.set [120] (Ex.int 9))))) (Bl.nil))
theorem hd0_ok:Hd hd0 psC:=⟨by decide +kernel,by kernel_rfl⟩
noncomputable def tl0:Tx:=lTail.drop 1
noncomputable def tE:Ex:=.at [97] (.name [121])
noncomputable def tS3:List St:=[.write vX,.write vY,.for [121] (.int 0) (.int 2) true (.write tE),.write vY]
noncomputable def tlK:List Tok:=get [] (lexF 200 tl0)
theorem tl_lex:lexF 200 tl0=.ok tlK:=get_ok (by decide +kernel)
theorem tl_row:RW 9 (tlK++[.fin])=.ok (tS3,[.word wEnd,.word wDot,.fin]):=by kernel_rfl
theorem tl_FE:FE 9 100 tl0 (.ok (tS3,[.word wEnd,.word wDot,.fin])):=⟨Ad (by decide +kernel),.inl ⟨_,lexF_ok 200 _ _ tl_lex,tl_row⟩⟩
noncomputable def progT (i:Nat)(us:List Tx):Tx:=hd0++segT (xX i::us) tl0
noncomputable def bodyT (i:Nat)(ss:List St):St:=mkRow (sX (numT i)) (ss++tS3)
noncomputable def progB (hd:Tx)(ps:Bl)(i:Nat)(ss:List St):Bl:=.mk (hV hd).1 ps (bodyT i ss)
theorem parse_prog {hd:Tx}{ps:Bl}(H:Hd hd ps){i:Nat}(hi:i<9){us:List Tx}{ss:List St}(h:Pcs us ss)(hu:us.length<=9)(hs:ss.length<=90):parseT (hd++segT (xX i::us) tl0)=.ok ([112,49],progB hd ps i ss):=by
 have g:Pcs (xX i::us) ([sX (numT i)]++ss):=Pcs.cons (num_at hi).1 h;have h9:9<=399-ss.length:=Nat.le_sub_of_add_le (Aa (Ak hs 9) (by decide));have f:=g (tl_FE.ge h9);have e:399-ss.length+([sX (numT i)]++ss).length=gasL:=by
  show 399-ss.length+(([]++ss).length+1)=400;rw [← Nat.add_assoc];exact congrArg Nat.succ (Nat.sub_add_cancel (Aa hs (by decide)))
 rw [e] at f;have hb:Nat.ble (100+201*(xX i::us).length) 3200=true:=Nat.ble_eq_true_of_le (Aa (Ak (Nat.mul_le_mul_left 201 (Au hu)) 100) (by decide));exact H.par (w:=120::32::58::61::32::(numX i++59::segT us tl0)) f hb
noncomputable def stOk (s:St):Bool:=s.wf false&&Nat.ble s.fu 100&&Nat.ble s.sz 300
theorem row_all:∀ (q:List St) (s:St),stOk s=true->q.all stOk=true->(mkRow s q).wf true=true∧(mkRow s q).fu<=100∧(mkRow s q).sz<=300*(q.length+1)
 | [],s,h,_=>by
  have h:=Ab h;have h1:=Ab h.1;exact ⟨h1.1,Ad h1.2,Ad h.2⟩
 | x::q,s,h,hq=>by
  have h:=Ab h;have h1:=Ab h.1;have hq:=Ab hq;obtain ⟨a1,a2,a3⟩:=row_all q x hq.1 hq.2;exact ⟨Bool.and_eq_true_iff.mpr ⟨h1.1,a1⟩,Nat.max_le.mpr ⟨Ad h1.2,a2⟩,Aa (Aq (Ad h.2) a3) (Nat.le_of_eq (Nat.add_comm 300 _))⟩
theorem row_ok (sc:List Scope):∀ (q:List St) (s:St),okS sc (mkRow s q)=(okS sc s&&q.all (okS sc))
 | [],s=>(Bool.and_true _).symm
 | x::q,s=>congrArg (okS sc s&&·) (row_ok sc q x)
inductive AtL (code:List In)(sc:List Scope)(f:Nat):Nat->List St->Nat->Prop
 | nil {p}:AtL code sc f p [] p
 | cons {p q p' s ss}:At code sc f p s q->AtL code sc f q ss p'->AtL code sc f p (s::ss) p'
theorem At.row {code:List In}{sc:List Scope}{f:Nat}:∀ {q:List St} {s:St} {p p':Nat},At code sc f p (mkRow s q) p'->AtL code sc f p (s::q) p'
 | [],s,p,p',h=>.cons h.one .nil
 | x::q,s,p,p',h=>h.seq.elim fun m g=>.cons g.1 (At.row g.2)
theorem AtL.split {code:List In}{sc:List Scope}{f:Nat}{a b:List St}{p p':Nat}(h:AtL code sc f p (a++b) p'):∃ m,AtL code sc f p a m∧AtL code sc f m b p':=by
 induction a generalizing p with
 | nil=>exact ⟨p,.nil,h⟩
 | cons s a ih=>cases h with | cons h1 h2=>exact (ih h2).elim fun m g=>⟨m,.cons h1 g.1,g.2⟩
theorem num_st (i:Nat):stOk (sX (numT i))=true∧stOk (sY (numT i))=true:=by unfold numT; cases Nat.blt i 4<;>exact ⟨rfl,rfl⟩
theorem tS_st:tS3.all stOk=true:=by decide +kernel
theorem all_app {p:St->Bool}{a b:List St}(ha:a.all p=true)(hb:b.all p=true):(a++b).all p=true:=by rw [List.all_append,ha,hb]; rfl
noncomputable def hdC (hd:Tx)(ps:Bl):Bool:=ps.wf true&&Nat.ble ps.fu 100&&Nat.ble ((hV hd).1.length+ps.sz) 9000
theorem comp_eq {hd:Tx}{ps:Bl}(hc:hdC hd ps=true){i:Nat}{ss:List St}(h:ss.all stOk=true)(hs:ss.length<=90):compT (progB hd ps i ss)=cBlock [] 0 [] (progB hd ps i ss):=by
 obtain ⟨a1,a2,a3⟩:=row_all (ss++tS3) (sX (numT i)) (num_st i).1 (all_app h tS_st);have hc:=Ab hc;have hc1:=Ab hc.1;have e1:(progB hd ps i ss).wf false=true:=Bool.and_eq_true_iff.mpr ⟨hc1.1,a1⟩;have e2:Nat.ble (progB hd ps i ss).fu 120=true:=Nat.ble_eq_true_of_le (Aa (Au (Nat.max_le.mpr ⟨Nat.max_le.mpr ⟨(by decide:1<=100),Ad hc1.2⟩,a2⟩)) (by decide));have e3:Nat.ble (progB hd ps i ss).sz 100000=true:=by
  refine Nat.ble_eq_true_of_le ?_;show (hV hd).1.length+(1+(ps.sz+(1+((bodyT i ss).sz+1))))<=_;rw [Nat.add_left_comm 1,← Nat.add_assoc];refine Aa (Aq (Ad hc.2) (Ak (Ak (Au (Aa a3 (Nat.mul_le_mul_left 300 (Au ?_)))) 1) 1)) (by decide:9000+(1+(1+(300*(94+1)+1)))<=_);rw [Ac]; exact Al hs 4
 unfold compT;rw [e1,e2,e3]; rfl
noncomputable def S0:Scope:=[([120],.var 3),([121],.var 4),([98],.arr 5 1),([97],.arr 6 3),([102],.proc 1 [([110],false),([114],true)]),([115],.proc 39 [([117],true),([120],false)])]
noncomputable def S4:Scope:=[([120],.var 3),([121],.var 4),([98],.arr 5 1),([97],.arr 6 3)]
noncomputable def pQ:List In×Scope:=get ([],[]) (cProcs [] S4 1 psC)
noncomputable def pCode:List In:=pQ.1
theorem pQ2:pQ.2=S0:=by kernel_rfl
theorem hdC0:hdC hd0 psC=true:=by decide +kernel
theorem dup0:noDup [] (fst1 ([]:List (Tx×Bool))++fst1 (hV hd0).1++psC.names)=true:=by decide +kernel
theorem vars0:vEnt [] 3 (hV hd0).1=.ok (S4,9):=by kernel_rfl
theorem procs0:cProcs [] S4 1 psC=.ok (pCode,S0):=(get_ok (by decide +kernel)).trans (congrArg R.ok (Prod.ext rfl pQ2))
theorem block_eq (i:Nat)(ss:List St):cBlock [] 0 [] (progB hd0 psC i ss)=(cStmt [S0] 9 (1+pCode.length+1) (bodyT i ss)).bind fun d=>.ok ([In.jmp (1+pCode.length)]++pCode++[.int 6]++d++[.ret]):=by
 show (match noDup [] (fst1 ([]:List (Tx×Bool))++fst1 (hV hd0).1++psC.names) with
  | false=>.err
  | true=>(vEnt [] 3 (hV hd0).1).bind fun w=>
   (cProcs [] w.1 (0+1) psC).bind fun c=>
   (cStmt (c.2::[]) w.2 (0+1+c.1.length+(intIf (w.2-3)).length) (bodyT i ss)).bind fun d=>.ok ([In.jmp (0+1+c.1.length)]++c.1++intIf (w.2-3)++d++[.ret]):R (List In))=_
 rw [dup0];show (vEnt [] 3 (hV hd0).1).bind _=_;rw [vars0];exact congrArg (fun m:R (List In×Scope)=>m.bind fun c=>(cStmt (c.2::[]) 9 (1+c.1.length+1) (bodyT i ss)).bind fun d=>.ok ([In.jmp (1+c.1.length)]++c.1++[.int 6]++d++[.ret])) procs0
theorem okS_row {i:Nat}{ss:List St}{b:Bool}(hb:ss.all (okS [S0])=b):okS [S0] (bodyT i ss)=b:=by
 have t3:tS3.all (okS [S0])=true:=by decide +kernel
 have n1:okS [S0] (sX (numT i))=true:=by unfold numT; cases Nat.blt i 4<;>rfl
 unfold bodyT;rw [row_ok,List.all_append,hb,t3,n1,Bool.and_true]; rfl
theorem comp_bad {i:Nat}{ss:List St}(h:ss.all stOk=true)(hs:ss.length<=90)(hb:ss.all (okS [S0])=false):compT (progB hd0 psC i ss)=.err:=by
 have:=says_S [S0] (bodyT i ss) 9 (1+pCode.length+1);rw [okS_row hb] at this;rw [comp_eq hdC0 h hs,block_eq,show cStmt [S0] 9 (1+pCode.length+1) (bodyT i ss)=.err from this]; rfl
theorem frag_all:∀ (c pre:List In),Frag (pre++c) pre.length c
 | [],_=>trivial
 | i::c,pre=>⟨by rw [List.getElem?_append_right (Aj _),Nat.sub_self]; rfl,by
  have:=frag_all c (pre++[i]);rw [Ac,app1] at this; exact this⟩
theorem comp_good {i:Nat}{ss:List St}(h:ss.all stOk=true)(hs:ss.length<=90)(hb:ss.all (okS [S0])=true):∃ code pb pe,compT (progB hd0 psC i ss)=.ok code∧Frag code 1 pCode∧AtL code [S0] 9 pb (sX (numT i)::(ss++tS3)) pe∧code[pe]?=some .ret∧
  ∀ {t res},U code [0,0,0,0,0,0,0,0,0] 0 pb [] t res->U code [0,0,0] 0 0 [] t res:=by
 have:=says_S [S0] (bodyT i ss) 9 (1+pCode.length+1);rw [okS_row hb] at this;obtain ⟨d,hd⟩:=this;have hc:cBlock [] 0 [] (progB hd0 psC i ss)=.ok ([In.jmp (1+pCode.length)]++pCode++[.int 6]++d++[.ret]):=by rw [block_eq,hd]; rfl
 obtain ⟨w,cs,pb,pe,h1,h2,h3,h4,h5,h6⟩:=body_run hc (frag_all _ []);have hw:=R.ok.inj (vars0.symm.trans h1);subst hw;have hcs:=R.ok.inj (procs0.symm.trans h2);subst hcs;exact ⟨_,pb,pe,(comp_eq hdC0 h hs).trans hc,h3,At.row h4,h5,fun g=>h6 (by decide) g⟩
section
variable {sc:List Scope}{st:List Int}{b b':Nat}{x:Tx}{l a i k:Nat}{e e':Ex}{u v:Int}
theorem Go.of {α:Type}{m:R α}{a:α}{k:α->Prop}{res:Option (List Int)}(h:m=.ok a)(hk:k a):Go m k res:=by rw [h]; exact hk
theorem evN_var (h:findS x sc 0=some (l,.var a))(hf:frameOf st l b=some b'):evN sc st b x=.ok (b'+a):=by unfold evN plc; rw [h]; dsimp only; rw [hf]
theorem evN_ref (h:findS x sc 0=some (l,.ref a))(hf:frameOf st l b=some b')(hr:st[b'+a]?=some (k:Int)):evN sc st b x=.ok k:=by
 unfold evN plc; rw [h]; dsimp only; rw [hf];show (rd st (b'+a)).bind nat?=_;unfold rd; rw [hr]; rfl
theorem ev_name (h:evN sc st b x=.ok i)(hv:st[i]?=some v):evE sc st b (.name x)=.ok v:=by
 show (evN sc st b x).bind (fun i=>rd st i)=_;rw [h];show rd st i=_;unfold rd; rw [hv]
theorem ev_bin {o:Tx}{w:R Int}(h1:evE sc st b e=.ok u)(h2:evE sc st b e'=.ok v)(hr:reck o u v=w):evE sc st b (.bin o e e')=w:=by
 show (evE sc st b e).bind _=_;rw [h1];show (evE sc st b e').bind _=_;rw [h2]; exact hr
theorem mul_eq (h1:small u=true)(h2:small v=true):reck [42] u v=.ok (u*v):=by
 show (match small u&&small v with
  | true=>.ok (u*v)
  | false=>.bot)=R.ok (u*v)
 rw [h1,h2]; rfl
theorem frame1 (h:st[b]?=some (b':Int)):frameOf st 1 b=some b':=by
 show (match st[b]? with
  | some (.ofNat v)=>some v
  | _=>Option.none)=_
 rw [h]
theorem frame2 {c:Nat}(h:st[b]?=some (b':Int))(h':st[b']?=some (c:Int)):frameOf st 2 b=some c:=by
 show (match st[b]? with
  | some (.ofNat v)=>frameOf st 1 v
  | _=>Option.none)=_
 rw [h]; exact frame1 h'
end
theorem app3 (st l:List Int)(k:Nat):(st++l)[st.length+k]?=l[k]?:=by rw [List.getElem?_append_right (Af _ _),Nat.add_sub_cancel_left]
theorem setL {st:List Int}{l:List Int}{i:Nat}{v:Int}(h:i<st.length):(st++l).set i v=st.set i v++l:=List.set_append_left _ _ h
theorem setR (st l:List Int)(k:Nat)(v:Int):(st++l).set (st.length+k) v=st++l.set k v:=by rw [List.set_append_right _ _ (Af _ _),Nat.add_sub_cancel_left]
theorem Rs.st {st l:List Int}{k:Nat}(h:st.length<=10000)(hk:Nat.ble (l.length+(k+10)) 700000=true):Rs (st++l).length k:=by
 refine Nat.ble_eq_true_of_le ?_;rw [Ac,Nat.add_assoc];exact Aa (Aq h (Ad hk)) (by decide)
theorem Rs.two {n:Nat}(h:Rs n 2):Rs (n+2) 0:=by unfold Rs; rw [Nat.add_assoc]; exact h
noncomputable def bS:Bl:=.mk [] .nil (.one (.for [117] (tMinus (.name [117]) (.name [120])) (tMinus (.name [117]) (.name [120])) true (.set [120] (.int 9))))
noncomputable def scS:Scope:=[([117],.ref 3),([120],.var 4)]
theorem codeS:cBlock [S0] 39 [([117],true),([120],false)] bS=.ok (pCode.drop 38):=by kernel_rfl
noncomputable def bG:Bl:=.mk [] .nil (.seq (.set [122] (tPlus (.name [122]) (.name [110]))) (.seq (.set [114] (tMinus (tPlus (tMul (.name [114]) (.int 2)) (.name [122])) vY)) (.one (.if1 (.bin [62] (.name [110]) (.int 0)) (.call [102] [tMinus (.name [110]) (.int 1),.name [114]])))))
noncomputable def bF:Bl:=.mk [([122],Option.none)] (.proc [103] [] bG .nil) (.seq (.call [103] []) (.one (.set [114] (tPlus (.name [114]) (.name [122])))))
noncomputable def qF:List (Tx×Bool):=[([110],false),([114],true)]
noncomputable def scM:Scope:=[([120],.var 3),([121],.var 4),([98],.arr 5 1),([97],.arr 6 3),([102],.proc 1 qF)]
noncomputable def scV:Scope:=[([110],.var 3),([114],.ref 4),([122],.var 5)]
noncomputable def scF:Scope:=[([110],.var 3),([114],.ref 4),([122],.var 5),([103],.proc 2 [])]
theorem codeF:cBlock [scM] 1 qF bF=.ok (pCode.take 38):=by kernel_rfl
noncomputable def gCode:List In:=(pCode.drop 1).take 27
theorem codeG:cBlock [scF,scM] 2 [] bG=.ok gCode:=by kernel_rfl
theorem procsF:cProcs [scM] scV 2 (.proc [103] [] bG .nil)=.ok (gCode,scF):=by kernel_rfl
theorem len38:1+(pCode.take 38).length=39:=by decide +kernel
section
variable {code:List In}{o:List Int}{t:Nat}{res:Option (List Int)}
theorem fragFS (hf:Frag code 1 pCode):Frag code 1 (pCode.take 38)∧Frag code 39 (pCode.drop 38):=by
 have h:=frag_app ((List.take_append_drop 38 pCode).symm▸hf);rw [len38] at h; exact h
theorem runS (hf:Frag code 1 pCode){st:List Int}{b' ret ua:Nat}{c v L:Int}(hua:ua<st.length)(hc:st[ua]?=some c)(hl:st.length<=10000)(g:U code (st.set ua (c-v)) b' ret o t res) :
  U code (st++[L,(b':Int),(ret:Int)]++[(ua:Int),v]) st.length 39 o (t+2) res:=by
 obtain ⟨w,cs,pb,pe,h1,h2,_,h4,h5,h6⟩:=body_run codeS (fragFS hf).2;have hw:(scS,5)=w:=R.ok.inj h1;subst hw;have hcs:([],scS)=cs:=R.ok.inj h2;subst hcs;obtain ⟨top,q,q',hA,hE,hT,hB⟩:=At.for h4.one rfl rfl;rw [Ae];have r3:(st++[L,(b':Int),(ret:Int),(ua:Int),v])[st.length+3]?=some (ua:Int):=app3 st _ 3;have r4:(st++[L,(b':Int),(ret:Int),(ua:Int),v])[st.length+4]?=some v:=app3 st _ 4;have eu:evN [scS,S0] (st++[L,(b':Int),(ret:Int),(ua:Int),v]) st.length [117]=.ok ua:=evN_ref (l:=0) rfl rfl r3;have ev:evE [scS,S0] (st++[L,(b':Int),(ret:Int),(ua:Int),v]) st.length (tMinus (.name [117]) (.name [120]))=.ok (c-v):=ev_bin (ev_name eu (get_app hc)) (ev_name (evN_var (l:=0) rfl rfl) r4) rfl;refine h6 (Aa (Aa (Af _ 10) (Ad (Rs.st (l:=[L,(b':Int),(ret:Int),(ua:Int),v]) (k:=0) hl rfl))) (by decide)) ?_;show U code (st++[L,(b':Int),(ret:Int),(ua:Int),v]++[]) st.length pb o (t+1+1) res;rw [nil_app];refine hE (Rs.st hl rfl) (Rs.st hl rfl) (Go.of ev (Go.of ev ?_));refine hT Ac (Rs.two (Rs.st hl rfl)) (fun _=>?_) fun hn=>absurd (Int.le_refl _) (of_decide_eq_false hn);refine Go.of (a:=ua) (evN_ref (l:=0) rfl rfl (get_app r3)) ⟨An hua (by rw [Ac,Nat.add_assoc]; exact Af _ _),?_⟩;rw [setL (by rw [Ac]; exact An hua (Af _ _)),setL hua];have hs:(st.set ua (c-v)).length=st.length:=List.length_set;rw [← hs] at hl hua ⊢;generalize st.set ua (c-v)=st1 at *;have ex:evN [scS,S0] (st1++[L,(b':Int),(ret:Int),(ua:Int),v]++[c-v,c-v]) st1.length [120]=.ok (st1.length+4):=evN_var (l:=0) rfl rfl;refine At.set hA rfl ?_ (Go.of ex ⟨?_,?_⟩)
 ·rw [Ae]; exact Rs.st hl rfl
 ·rw [Ae,Ac]; exact Nat.add_lt_add_left (by decide:4<7) _
 rw [Ae,setR];show U code (st1++([L,(b':Int),(ret:Int),(ua:Int),9]++[c-v,c-v])) st1.length q' o (t+1) res;rw [← Ae];refine hB Ac (Rs.two (Rs.st hl rfl)) ?_;refine hT Ac (Rs.two (Rs.st hl rfl)) (fun hn=>absurd (Ax hn) (Int.not_le.mpr (Int.lt_succ _))) fun _=>?_;rw [show st1++[L,(b':Int),(ret:Int),(ua:Int),9]=st1++[L,(b':Int),(ret:Int)]++[(ua:Int),9] from (Ae st1 [L,(b':Int),(ret:Int)] [(ua:Int),9]).symm];exact fun f=>.step (.ret h5 rfl (Nat.ne_of_gt (Ao (Nat.zero_le _) hua))) (g f)
end
noncomputable def nv (ra:Nat)(d:Int)(st:List Int):Int:=st.getD ra 0*2+d-st.getD 4 0
noncomputable def pl (ra:Nat)(d:Int)(st:List Int):List Int:=st.set ra (st.getD ra 0+d)
noncomputable def fS (ra:Nat):Nat->Int->List Int->List Int
 | 0,d,st=>pl ra d (st.set ra (nv ra d st))
 | k+1,d,st=>pl ra d (fS ra k (d-1) (st.set ra (nv ra d st)))
noncomputable def fOk (ra:Nat):Nat->Int->List Int->Prop
 | 0,_,st=>small (st.getD ra 0)=true
 | k+1,d,st=>small (st.getD ra 0)=true∧fOk ra k (d-1) (st.set ra (nv ra d st))
noncomputable def fT:Nat->Nat
 | 0=>0
 | k+1=>fT k+1+1
theorem get_D {st:List Int}{i:Nat}(h:i<st.length):st[i]?=some (st.getD i 0):=by rw [List.getD_eq_getElem?_getD,List.getElem?_eq_getElem h]; rfl
theorem getD_app {st l:List Int}{i:Nat}(h:i<st.length):(st++l).getD i 0=st.getD i 0:=by rw [List.getD_eq_getElem?_getD,List.getD_eq_getElem?_getD,List.getElem?_append_left h]
theorem nv_app {ra:Nat}{d:Int}{st l:List Int}(h:ra<st.length)(h4:4<st.length):(st++l).set ra (nv ra d (st++l))=st.set ra (nv ra d st)++l:=by unfold nv; rw [getD_app h,getD_app h4,setL h]
theorem pl_app {ra:Nat}{d:Int}{st l:List Int}(h:ra<st.length):pl ra d (st++l)=pl ra d st++l:=by unfold pl; rw [getD_app h,setL h]
theorem pl_len (ra:Nat)(d:Int)(st:List Int):(pl ra d st).length=st.length:=List.length_set
theorem fS_len (ra:Nat):∀ (k:Nat) (d:Int) (st:List Int),(fS ra k d st).length=st.length
 | 0,d,st=>(pl_len ra d _).trans List.length_set
 | k+1,d,st=>(pl_len ra d _).trans ((fS_len ra k _ _).trans List.length_set)
theorem fS_app {ra:Nat}{l:List Int}:∀ (k:Nat) (d:Int) (st:List Int),ra<st.length->4<st.length->fS ra k d (st++l)=fS ra k d st++l
 | 0,d,st,h,h4=>by
  show pl ra d ((st++l).set ra (nv ra d (st++l)))=_;rw [nv_app h h4];exact pl_app (by rw [List.length_set]; exact h)
 | k+1,d,st,h,h4=>by
  show pl ra d (fS ra k (d-1) ((st++l).set ra (nv ra d (st++l))))=_;rw [nv_app h h4,fS_app k _ _ (by rw [List.length_set]; exact h) (by rw [List.length_set]; exact h4)];exact pl_app (by rw [fS_len,List.length_set]; exact h)
theorem fOk_app {ra:Nat}{l:List Int}:∀ (k:Nat) (d:Int) (st:List Int),ra<st.length->4<st.length->fOk ra k d st->fOk ra k d (st++l)
 | 0,d,st,h,h4,ok=>(congrArg small (getD_app h)).trans ok
 | k+1,d,st,h,h4,ok=>⟨(congrArg small (getD_app h)).trans ok.1,(nv_app (d:=d) (l:=l) h h4).symm▸fOk_app k _ _ (by rw [List.length_set]; exact h) (by rw [List.length_set]; exact h4) ok.2⟩
noncomputable def callF:St:=.call [102] [tMinus (.name [110]) (.int 1),.name [114]]
noncomputable def ifG:St:=.if1 (.bin [62] (.name [110]) (.int 0)) callF
noncomputable def scG:List Scope:=[[],scF,scM]
theorem fragG {code:List In}(hf:Frag code 1 pCode):Frag code 2 gCode:=by
 have h:=(frag_app ((List.take_append_drop 1 pCode).symm▸hf)).2;rw [show 1+(pCode.take 1).length=2 by decide +kernel] at h;exact (frag_app ((List.take_append_drop 27 (pCode.drop 1)).symm▸h)).1
section
variable {code:List In}{o:List Int}{t:Nat}{res:Option (List Int)}
noncomputable def fr9 (n b' ret:Nat)(d:Int)(ra:Nat)(z:Int)(m:Nat):List Int:=[0,(b':Int),(ret:Int),d,(ra:Int),z,(n:Int),(n:Int),(m:Int)]
theorem fBody (hf:Frag code 1 pCode){d:Int}{st st2:List Int}{b' ret ra t T:Nat}(hra:ra<st.length)(h4:4<st.length)(hl:st.length<=10000)(hsm:small (st.getD ra 0)=true)(h2l:st2.length=st.length)
  (inner:∀ p q p1 t',At code scG 3 p ifG q->U code (st2++fr9 st.length b' ret d ra d p1) (st.length+6) q o t' res->U code (st.set ra (nv ra d st)++fr9 st.length b' ret d ra d p1) (st.length+6) p o (t'+T) res)
  (g:U code (pl ra d st2) b' ret o t res):U code (st++[0,(b':Int),(ret:Int)]++[d,(ra:Int)]) st.length 1 o (t+T+1) res:=by
 obtain ⟨w,cs,pb,pe,h1,h2,_,hs,h5,h6⟩:=body_run codeF (fragFS hf).1;have hw:(scV,6)=w:=R.ok.inj h1;subst hw;have hcs:=R.ok.inj (procsF.symm.trans h2);subst hcs;obtain ⟨w,cs,pb',pe',k1,k2,_,ks,k5,k6⟩:=body_run codeG (fragG hf);have hw:([],3)=w:=R.ok.inj k1;subst hw;have hcs:([],[])=cs:=R.ok.inj k2;subst hcs;obtain ⟨m,hA1,hA2⟩:=hs.seq;obtain ⟨m1,hB1,hB2⟩:=ks.seq;obtain ⟨m2,hB3,hB4⟩:=hB2.seq;clear h1 h2 k1 k2 hs ks hB2;refine h6 (Aa (Aa (Ak (by decide:1<=10) _) (Ad ((Ae st _ _).symm▸Rs.st (l:=[0,(b':Int),(ret:Int)]++[d,(ra:Int)]) (k:=0) hl rfl:Rs (st++[0,(b':Int),(ret:Int)]++[d,(ra:Int)]).length 0))) (by decide)) ?_;rw [Ae,Ae];show U code (st++[0,(b':Int),(ret:Int),d,(ra:Int),0]) st.length pb o (t+T+1) res;refine At.call (l:=0) (a:=2) (q:=[]) hA1 rfl (fun e he=>absurd he List.not_mem_nil) (Rs.st hl rfl) ⟨st.length,rfl,?_⟩;rw [Ae,Ae,Ac];refine k6 (Aa (Aa (Af _ 10) (Ad (Rs.st (k:=0) hl rfl))) (by decide)) ?_;show U code (st++fr9 st.length b' ret d ra 0 m++[]) (st.length+6) pb' o (t+T) res;rw [nil_app];have q6:(st++fr9 st.length b' ret d ra 0 m)[st.length+6]?=some (st.length:Int):=app3 st _ 6;refine At.set hB1 rfl (Rs.st hl rfl) (Go.of (evN_var (l:=1) rfl (frame1 q6)) (Go.of (a:=d) (ev_bin (ev_name (evN_var (l:=1) rfl (frame1 q6)) (app3 st _ 5)) (ev_name (evN_var (l:=1) rfl (frame1 q6)) (app3 st _ 3)) (congrArg R.ok (Int.zero_add d))) ⟨?_,?_⟩))
 ·rw [Ac]; exact Nat.add_lt_add_left (by decide:5<9) _
 rw [setR];show U code (st++fr9 st.length b' ret d ra d m) (st.length+6) m1 o (t+T) res;have p6:(st++fr9 st.length b' ret d ra d m)[st.length+6]?=some (st.length:Int):=app3 st _ 6;have er:evN scG (st++fr9 st.length b' ret d ra d m) (st.length+6) [114]=.ok ra:=evN_ref (l:=1) rfl (frame1 p6) (app3 st _ 4);have ez:evE scG (st++fr9 st.length b' ret d ra d m) (st.length+6) (.name [122])=.ok d:=ev_name (evN_var (l:=1) rfl (frame1 p6)) (app3 st _ 5);have ey:evE scG (st++fr9 st.length b' ret d ra d m) (st.length+6) vY=.ok (st.getD 4 0):=ev_name (evN_var (l:=2) (b':=0) rfl (frame2 p6 (app3 st _ 0))) (get_app (Nat.zero_add 4▸get_D h4));refine At.set hB3 rfl (Rs.st hl rfl) (Go.of er (Go.of (a:=nv ra d st) (ev_bin (ev_bin (ev_bin (ev_name er (get_app (get_D hra))) rfl (mul_eq hsm (by decide +kernel:small 2=true))) ez rfl) ey rfl) ⟨?_,?_⟩))
 ·rw [Ac]; exact An hra (Af _ _)
 rw [setL hra];refine inner m2 _ m t hB4.one ?_;rw [← h2l] at hl hra ⊢;have e1:st2++fr9 st2.length b' ret d ra d m=(st2++[0,(b':Int),(ret:Int),d,(ra:Int),d])++[(st2.length:Int),(st2.length:Int),(m:Int)]++[]:=by rw [Ae,Ae]; rfl
 have e2:(st2++[0,(b':Int),(ret:Int),d,(ra:Int),d]).length=st2.length+6:=Ac;rw [e1];refine fun f=>.step (.ret k5 e2.symm (Nat.succ_ne_zero _)) ?_;refine At.set hA2.one rfl (Rs.st hl rfl) (Go.of (a:=ra) (evN_ref (l:=0) rfl rfl (app3 st2 _ 4)) (Go.of (ev_bin (ev_name (evN_ref (l:=0) rfl rfl (app3 st2 _ 4)) (get_app (get_D hra))) (ev_name (evN_var (l:=0) rfl rfl) (app3 st2 _ 5)) rfl) ⟨?_,?_⟩)) f
 ·rw [Ac]; exact An hra (Af _ _)
 rw [setL hra];have hp:=pl_len ra d st2;show U code (pl ra d st2++([0,(b':Int),(ret:Int)]++[d,(ra:Int),d])) st2.length pe o t res;rw [← Ae,← hp];exact fun f=>.step (.ret h5 rfl (Nat.ne_of_gt (Ao (Nat.zero_le _) (hp.symm▸hra)))) (g f)
theorem runF (hf:Frag code 1 pCode):∀ (k:Nat) (d:Int) (st:List Int) (b' ret ra t:Nat),d.toNat=k->ra<st.length->4<st.length->st.length+9*k<=10000->fOk ra k d st->
  U code (fS ra k d st) b' ret o t res->U code (st++[0,(b':Int),(ret:Int)]++[d,(ra:Int)]) st.length 1 o (t+fT k+1) res:=by
 intro k
 induction k with
 | zero=>
  intro d st b' ret ra t hk hra h4 hl ok g;refine fBody (T:=0) hf hra h4 hl ok (st2:=st.set ra (nv ra d st)) List.length_set (fun p q p1 t' hA g=>?_) g;obtain ⟨q',hC,hR⟩:=At.if1 hA rfl;have hs:(st.set ra (nv ra d st)).length=st.length:=List.length_set;rw [← hs] at hl g ⊢;generalize st.set ra (nv ra d st)=s1 at *;have p6:(s1++fr9 s1.length b' ret d ra d p1)[s1.length+6]?=some (s1.length:Int):=app3 s1 _ 6;refine hR (Rs.st hl rfl) (Go.of (a:=b2i (decide (d>0))) (ev_bin (ev_name (evN_var (l:=1) rfl (frame1 p6)) (app3 s1 _ 3)) rfl rfl) ?_);rw [decide_eq_false (Int.not_lt.mpr (Int.toNat_eq_zero.mp hk):¬ d>0)];exact ⟨fun _=>g,fun h=>absurd rfl h⟩
 | succ k ih=>
  intro d st b' ret ra t hk hra h4 hl ok g;have hd:0<d:=Int.lt_of_toNat_lt (hk▸Nat.succ_pos k);refine fBody (T:=fT (k+1)) hf hra h4 (Aa (Af _ _) hl) ok.1 (st2:=fS ra k (d-1) (st.set ra (nv ra d st))) ((fS_len _ _ _ _).trans List.length_set) (fun p q p1 t' hA g=>?_) g;obtain ⟨q',hC,hR⟩:=At.if1 hA rfl;have hs:(st.set ra (nv ra d st)).length=st.length:=List.length_set;have ok2:=ok.2;rw [← hs] at hl hra h4 g ⊢;generalize st.set ra (nv ra d st)=s1 at *;have hl1:s1.length<=10000:=Aa (Af _ _) hl;have p6:(s1++fr9 s1.length b' ret d ra d p1)[s1.length+6]?=some (s1.length:Int):=app3 s1 _ 6;have en:evE scG (s1++fr9 s1.length b' ret d ra d p1) (s1.length+6) (.name [110])=.ok d:=ev_name (evN_var (l:=1) rfl (frame1 p6)) (app3 s1 _ 3);refine hR (Rs.st hl1 rfl) (Go.of (a:=b2i (decide (d>0))) (ev_bin en rfl rfl) ?_);rw [decide_eq_true (show d>0 from hd)];refine ⟨fun h=>(by cases h),fun _=>?_⟩;refine At.call (l:=2) (a:=1) (q:=qF) hC rfl ?_ (Rs.st hl1 rfl) (Go.of (a:=[d-1,(ra:Int)]) ?_ ⟨0,frame2 p6 (app3 s1 _ 0),?_⟩)
  ·intro e he;rcases List.mem_cons.mp he with rfl | he
   ·rfl
   ·rcases List.mem_cons.mp he with rfl | he
    ·rfl
    ·exact absurd he List.not_mem_nil
  ·show (evE scG _ _ (tMinus (.name [110]) (.int 1))).bind _=_;rw [show evE scG (s1++fr9 s1.length b' ret d ra d p1) (s1.length+6) (tMinus (.name [110]) (.int 1))=.ok (d-1) from ev_bin en rfl rfl];show (((evN scG (s1++fr9 s1.length b' ret d ra d p1) (s1.length+6) [114]).bind _).bind _).bind _=_;rw [show evN scG (s1++fr9 s1.length b' ret d ra d p1) (s1.length+6) [114]=.ok ra from evN_ref (l:=1) rfl (frame1 p6) (app3 s1 _ 4)]; rfl
  ·have hlen:(s1++fr9 s1.length b' ret d ra d p1).length=s1.length+9:=Ac;refine ih (d-1) _ (s1.length+6) q ra t' ?_ ?_ ?_ ?_ (fOk_app k _ _ hra h4 ok2) ?_
   ·show (d-((1:Nat):Int)).toNat=k;rw [Int.toNat_sub' d 1,hk]; rfl
   ·rw [hlen]; exact An hra (Af _ _)
   ·rw [hlen]; exact An h4 (Af _ _)
   ·rw [hlen,Nat.add_assoc,Nat.add_comm 9]; exact hl
   ·rw [fS_app k _ _ hra h4]; exact g
end
noncomputable def Mn (x y p q r:Int):List Int:=[0,0,0,x,y,0,p,q,r]
def bd (n:Nat)(v:Int):Prop:=v.natAbs<2 ^ n
section
variable {n m i j:Nat}{u v a b:Int}
theorem bd.le (h:bd n v)(hm:n<=m):bd m v:=An h (Nat.pow_le_pow_right (by decide) hm)
theorem bd.small (h:bd n v)(hn:n<=200):small v=true:=decide_eq_true (h.le hn)
theorem bd.add (h:bd n u)(h':bd n v):bd (n+1) (u+v):=Ao (Int.natAbs_add_le u v) (by rw [Nat.pow_succ,Nat.mul_two]; exact Nat.add_lt_add h h')
theorem bd.neg (h:bd n v):bd n (-v):=by unfold bd; rw [Int.natAbs_neg]; exact h
theorem bd.sub (h:bd n u)(h':bd n v):bd (n+1) (u-v):=h.add h'.neg
theorem bd.mul (h:bd i u)(h':bd j v):bd (i+j) (u*v):=by unfold bd; rw [Int.natAbs_mul,Nat.pow_add]; exact Nat.mul_lt_mul'' h h'
theorem bd.quo (h:bd n a):bd n (quo a b):=Ao (quo_le a b) h
theorem quo_abs (a b:Int):(P.quo a b).natAbs=a.natAbs / b.natAbs:=by
 have:((a.natAbs:Int).fdiv (b.natAbs:Int)).natAbs=a.natAbs / b.natAbs:=by
  rw [Int.fdiv_eq_ediv_of_nonneg _ (Av _),← Int.natCast_ediv,Int.natAbs_natCast]
 unfold P.quo;cases decide (a*b<0)
 ·exact this
 ·rw [Int.natAbs_neg]; exact this
theorem bd.rest (h:bd n a):bd (n+1) (a-P.quo a b*b):=h.sub (Ao (by rw [Int.natAbs_mul,quo_abs]; exact Nat.div_mul_le_self _ _) h)
theorem bdl (h:Nat.ble (v.natAbs+1) (2 ^ n)=true):bd n v:=Ad h
theorem bdn (h:n<5):bd 3 (n:Int):=Nat.lt_trans h (by decide)
theorem lt5 {P:Nat->Prop}(h0:P 0)(h1:P 1)(h2:P 2)(h3:P 3)(h4:P 4):∀ {k:Nat},k<5->P k
 | 0,_=>h0 | 1,_=>h1 | 2,_=>h2 | 3,_=>h3 | 4,_=>h4
 | k+5,h=>absurd h (Nat.not_lt.mpr (Ar 5 k))
theorem lt3 {P:Nat->Prop}(h0:P 0)(h1:P 1)(h2:P 2):∀ {k:Nat},k<3->P k
 | 0,_=>h0 | 1,_=>h1 | 2,_=>h2
 | k+3,h=>absurd h (Nat.not_lt.mpr (Ar 3 k))
theorem lt7 {P:Nat->Prop}(h0:P 0)(h1:P 1)(h2:P 2)(h3:P 3)(h4:P 4)(h5:P 5)(h6:P 6):∀ {k:Nat},k<7->P k
 | 0,_=>h0 | 1,_=>h1 | 2,_=>h2 | 3,_=>h3 | 4,_=>h4 | 5,_=>h5 | 6,_=>h6
 | k+7,h=>absurd h (Nat.not_lt.mpr (Ar 7 k))
end
noncomputable def divO (b v:Int):Option Int:=match decide (b=0) with
 | true=>Option.none
 | false=>some v
noncomputable def rem (a b:Int):Int:=a-quo a b*b
noncomputable def low (x:Int):Int:=rem x 3
noncomputable def heldV (n:Nat)(p q r:Int):Option Int:=match n with
 | 1=>some p | 2=>some q | 3=>some r | _=>Option.none
noncomputable def eV (e n:Nat)(x y p q r:Int):Option Int:=match e with
 | 0=>some (10+n)
 | 1=>some (x-y-n)
 | 2=>some (x-(n-y))
 | 3=>some (n-x*y)
 | 4=>some (-x-n)
 | 5=>divO (y-n) (quo x (y-n))
 | 6=>divO (n-2) (rem y (n-2))
 | 7=>heldV n p q r
 | 8=>some (quo ((x+7)*y) 3*2)
 | _=>some (low x-q+y)
noncomputable def toR {α:Type}:Option α->R α
 | some v=>.ok v
 | Option.none=>.err
noncomputable def cV (c n:Nat)(x y:Int):Bool:=match c with
 | 0=>decide (x=y)
 | 1=>!decide (x=n)
 | 2=>decide (x<y)
 | 3=>decide (y<=n)
 | 4=>decide (x>y)
 | 5=>decide (x ≥ n)
 | _=>decide ((x-n).fmod 2=1)
section
variable {x y p q r u v:Int}{l:List Int}{n k:Nat}{sc:List Scope}{st:List Int}{b:Nat}
theorem evX:evE [S0] (Mn x y p q r++l) 0 vX=.ok x:=rfl
theorem evY:evE [S0] (Mn x y p q r++l) 0 vY=.ok y:=rfl
theorem evInt:evE sc st b (.int k)=.ok (k:Int):=rfl
theorem reckD_ok {d:Bool}(s1:small u=true)(s2:small v=true):reckD d u v=toR (divO v (cond d (quo u v) (rem u v))):=by
 unfold reckD divO;rw [s1,s2];cases decide (v=0)<;>cases d<;>rfl
noncomputable def slot:Nat->Option Nat
 | 1=>some 6 | 2=>some 7 | 3=>some 8 | _=>Option.none
theorem evI_n (hn:n<5):evI [S0] (Mn x y p q r++l) 0 [97] (.ok ((n:Int)-(1:Nat)))=toR (slot n):=
 lt5 (P:=fun n=>evI [S0] (Mn x y p q r++l) 0 [97] (.ok ((n:Int)-(1:Nat)))=toR (slot n)) rfl rfl rfl rfl rfl hn
theorem ev_neg {e:Ex}(h:evE sc st b e=.ok u):evE sc st b (.neg e)=.ok (-u):=by
 show (evE sc st b e).bind _=_;rw [h]; rfl
theorem evLow (hx:bd 80 x):evE [S0] (Mn x y p q r++l) 0 (tMod vX (.int 3))=.ok (low x):=
 ev_bin evX evInt (reckD_ok (d:=false) (v:=((3:Nat):Int)) (hx.small (by decide)) (by decide +kernel))
theorem eV_ok {e:Nat}(he:e<10)(hn:n<5)(hx:bd 80 x)(hy:bd 80 y):evE [S0] (Mn x y p q r++l) 0 (eT e n)=toR (eV e n x y p q r):=by
 have sx:=hx.small (by decide);have sy:=hy.small (by decide);have bn:bd 80 (n:Int):=(bdn hn).le (by decide);have s3:small ((3:Nat):Int)=true:=by decide +kernel
 have sm:=(bd.add hx (v:=7) (bdl rfl)).mul hy;refine lt10 (P:=fun e=>evE [S0] (Mn x y p q r++l) 0 (eT e n)=toR (eV e n x y p q r)) rfl ?_ ?_ ?_ ?_ ?_ ?_ ?_ ?_ ?_ he
 ·exact ev_bin (ev_bin evX evY rfl) evInt rfl
 ·exact ev_bin evX (ev_bin evInt evY rfl) rfl
 ·refine ev_bin evInt (ev_bin evX (ev_neg evY) (mul_eq sx (hy.neg.small (by decide)))) ?_;show R.ok ((n:Int)+x*-y)=R.ok (n-x*y);rw [Int.mul_neg]; rfl
 ·refine ev_bin (ev_neg evX) (ev_neg (ev_neg evInt)) ?_;show R.ok (-x - - -(n:Int))=R.ok (-x-n);rw [Int.neg_neg]
 ·exact ev_bin evX (ev_bin evY evInt rfl) (reckD_ok (d:=true) sx ((hy.sub bn).small (by decide)))
 ·exact ev_bin evY (ev_bin evInt evInt rfl) (reckD_ok (d:=false) sy ((bn.sub (v:=2) (bdl rfl)).small (by decide)))
 ·show (evI [S0] (Mn x y p q r++l) 0 [97] (.ok ((n:Int)-(1:Nat)))).bind _=_;rw [evI_n hn];exact lt5 (P:=fun n=>(toR (slot n)).bind (fun i=>rd (Mn x y p q r++l) i)=toR (heldV n p q r)) rfl rfl rfl rfl rfl hn
 ·exact ev_bin (ev_bin (ev_bin (ev_bin evX evInt rfl) evY (mul_eq ((bd.add hx (v:=7) (bdl rfl)).small (by decide)) sy)) evInt (reckD_ok (d:=true) (sm.small (by decide)) s3)) evInt (mul_eq (sm.quo.small (by decide)) (by decide +kernel))
 ·exact ev_bin (ev_bin (ev_bin evX evInt (reckD_ok (d:=false) sx s3)) (show evE [S0] (Mn x y p q r++l) 0 (tA (.int 1))=.ok q from rfl) rfl) evY rfl
theorem fmod2 (v:Int):v.fmod 2=b2i (decide (v.fmod 2=1)):=by
 have h0:=Int.fmod_nonneg_of_pos v (b:=2) (by decide);have h2:=Int.fmod_lt_of_pos v (b:=2) (by decide);revert h0 h2;generalize v.fmod 2=w;intro h0 h2;by_cases h:w=1
 ·rw [h]; rfl
 ·rw [decide_eq_false h]; show w=0; lia
theorem cV_ok {c:Nat}(hc:c<7):evE [S0] (Mn x y p q r++l) 0 (cT c n)=.ok (b2i (cV c n x y)):=
 lt7 (P:=fun c=>evE [S0] (Mn x y p q r++l) 0 (cT c n)=.ok (b2i (cV c n x y))) rfl rfl rfl rfl rfl rfl (congrArg R.ok (fmod2 (x-n))) hc
end
theorem fork_b {b:Bool}{A B:Prop}(h0:b=false->A)(h1:b=true->B):(b2i b=0->A)∧(b2i b≠0->B):=by
 cases b with
 | false=>exact ⟨fun _=>h0 rfl,fun h=>absurd rfl h⟩
 | true=>exact ⟨fun h=>(by cases h),fun _=>h1 rfl⟩
structure SR where
 x:Int
 y:Int
 p:Int
 q:Int
 r:Int
 out:List Int
noncomputable def SR.mn (s:SR):List Int:=Mn s.x s.y s.p s.q s.r
noncomputable def ofMn (l:List Int):SR:=⟨l.getD 3 0,l.getD 4 0,l.getD 6 0,l.getD 7 0,l.getD 8 0,[]⟩
def StepG (code:List In)(p':Nat)(o:List Int)(t:Nat)(res:Option (List Int))(m:Option SR):Prop:=match m with
 | some s=>U code s.mn 0 p' (o++s.out) t res
 | Option.none=>res=Option.none
noncomputable def spotOf (u n:Nat):Option Nat:=match u with
 | 0=>some 3
 | 1=>some 4
 | _=>slot n
def Sp (k:Nat):Prop:=k<9∧∀ x y p q r v,(ofMn ((Mn x y p q r).set k v)).mn=(Mn x y p q r).set k v
theorem spot {u n k:Nat}(h:spotOf u n=some k):Sp k:=by
 have s6:Sp 6:=⟨by decide,fun _ _ _ _ _ _=>rfl⟩;have s7:Sp 7:=⟨by decide,fun _ _ _ _ _ _=>rfl⟩;have s8:Sp 8:=⟨by decide,fun _ _ _ _ _ _=>rfl⟩
 match u,h with
 | 0,h=>cases h; exact ⟨by decide,fun _ _ _ _ _ _=>rfl⟩
 | 1,h=>cases h; exact ⟨by decide,fun _ _ _ _ _ _=>rfl⟩
 | _+2,h=>
  match n,h with
  | 0,h=>cases h
  | 1,h=>cases h; exact s6
  | 2,h=>cases h; exact s7
  | 3,h=>cases h; exact s8
  | _+4,h=>cases h
theorem eOk:allN (fun e=>allN (fun n=>(eT e n).wf&&Nat.ble (eT e n).sz 30) 5) 11=true:=by decide +kernel
theorem cOk:allN (fun e=>allN (fun n=>(cT e n).wf&&Nat.ble (cT e n).sz 30) 5) 7=true:=by decide +kernel
theorem tOk:allN (fun e=>allN (fun n=>(tT e n).wf&&Nat.ble (tT e n).sz 30) 5) 3=true:=by decide +kernel
theorem Rs.nine {k:Nat}(h:Nat.ble k 30=true):Rs 9 k:=Nat.ble_eq_true_of_le (Aa (Ak (Al (Ad h) 10) 9) (by decide))
section
variable {code:List In}{o:List Int}{t:Nat}{res:Option (List Int)}{x y p q r:Int}{n a a' e c u:Nat}
theorem eW (he:e<11)(hn:n<5):(eT e n).wf=true∧Rs 9 (eT e n).sz:=let h:=Ab (allN_at (allN_at eOk he) hn); ⟨h.1,Rs.nine h.2⟩
theorem cW (he:c<7)(hn:n<5):(cT c n).wf=true∧Rs 9 (cT c n).sz:=let h:=Ab (allN_at (allN_at cOk he) hn); ⟨h.1,Rs.nine h.2⟩
theorem tW (he:u<3)(hn:n<5):(tT u n).wf=true∧Nat.ble (tT u n).sz 30=true:=Ab (allN_at (allN_at tOk he) hn)
theorem StepG.nil (g:StepG code a' o t res (some ⟨x,y,p,q,r,[]⟩)):U code (Mn x y p q r) 0 a' o t res:=(List.append_nil o)▸g
theorem StepG.spot {k:Nat}{v:Int}(hk:Sp k)(g:StepG code a' o t res (some (ofMn ((Mn x y p q r).set k v)))):U code ((Mn x y p q r).set k v) 0 a' o t res:=by
 have g:U code (ofMn ((Mn x y p q r).set k v)).mn 0 a' (o++[]) t res:=g;rw [List.append_nil,hk.2] at g;exact g
theorem toR_go {α:Type}{m:Option α}{k:α->Prop}(h1:∀ v,m=some v->k v)(h0:m=Option.none->res=Option.none):Go (toR m) k res:=by
 cases m with
 | some v=>exact h1 v rfl
 | none=>exact h0 rfl
theorem At_setT {E:Ex}(h:At code [S0] 9 a (setT u n E) a')(hu:u<3)(hn:n<5)(hw:E.wf=true)(hl:Rs 9 E.sz)
  (g:Go (toR (spotOf u n)) (fun k=>Go (evE [S0] (Mn x y p q r) 0 E) (fun v=>k<9∧U code ((Mn x y p q r).set k v) 0 a' o t res) res) res):U code (Mn x y p q r) 0 a o t res:=by
 revert h g;refine lt3 (P:=fun u=>At code [S0] 9 a (setT u n E) a'->Go (toR (spotOf u n)) _ res->_) (fun h g=>?_) (fun h g=>?_) (fun h g=>?_) hu
 ·exact At.set h hw hl g
 ·exact At.set h hw hl g
 ·refine At.setAt h rfl hw rfl hl ?_;have ei:=evI_n (x:=x) (y:=y) (p:=p) (q:=q) (r:=r) (l:=[]) hn;exact ei.symm▸g
noncomputable def s0 (e u n:Nat)(x y p q r:Int):Option SR:=match spotOf u n with
 | some k=>(eV e n x y p q r).bind fun v=>some (ofMn ((Mn x y p q r).set k v))
 | Option.none=>Option.none
noncomputable def s1 (e n:Nat)(x y p q r:Int):Option SR:=(eV e n x y p q r).bind fun v=>some ⟨x,y,p,q,r,[v]⟩
noncomputable def s2 (c n:Nat)(x y p q r:Int):Option SR:=some ⟨x,y,p,q,r,match cV c n x y with
 | true=>[2-y.fmod 2]
 | false=>[]⟩
noncomputable def s3 (e c n:Nat)(x y p q r:Int):Option SR:=match cV c n x y with
 | true=>(eV e n x y p q r).bind fun v=>some ⟨v,y,p,q,r,[]⟩
 | false=>some ⟨x,n,p,q,r,[]⟩
theorem AtL.one {sc:List Scope}{f:Nat}{s:St}(h:AtL code sc f a [s] a'):At code sc f a s a':=by
 cases h with
 | cons h1 h2=>cases h2; exact h1
theorem eV_go (he:e<10)(hn:n<5)(hx:bd 80 x)(hy:bd 80 y){k:Int->Prop}{f:Int->Option SR}(g:StepG code a' o t res ((eV e n x y p q r).bind f))(h:∀ v,StepG code a' o t res (f v)->k v):Go (evE [S0] (Mn x y p q r) 0 (eT e n)) k res:=by
 rw [show evE [S0] (Mn x y p q r) 0 (eT e n)=_ from eV_ok (l:=[]) he hn hx hy];revert g;cases eV e n x y p q r with
 | none=>exact id
 | some v=>exact h v
theorem run0 (h:AtL code [S0] 9 a [setT u n (eT e n)] a')(he:e<10)(hu:u<3)(hn:n<5)(hx:bd 80 x)(hy:bd 80 y)(g:StepG code a' o t res (s0 e u n x y p q r)):U code (Mn x y p q r) 0 a o t res:=by
 obtain ⟨z1,z2⟩:=eW (Nat.lt_succ_of_lt he) hn;refine At_setT h.one hu hn z1 z2 (toR_go (fun k hk=>?_) fun hk=>?_)<;>(unfold s0 at g; rw [hk] at g)
 ·have sp:=spot hk;exact eV_go he hn hx hy g fun v g=>⟨sp.1,g.spot sp⟩
 ·exact g
theorem run1 (h:AtL code [S0] 9 a [.beg (.seq .empty (.one (.write (eT e n))))] a')(he:e<10)(hn:n<5)(hx:bd 80 x)(hy:bd 80 y)(ho:o.length<900000)(g:StepG code a' o t res (s1 e n x y p q r)):U code (Mn x y p q r) 0 a o t res:=by
 obtain ⟨m,h1,h2⟩:=h.one.beg.seq;have:=h1.empty;subst this;obtain ⟨z1,z2⟩:=eW (Nat.lt_succ_of_lt he) hn;exact At.write h2.one z1 z2 ho (eV_go he hn hx hy g fun v g=>g)
theorem run2 (h:AtL code [S0] 9 a [.if1 (cT c n) (.if2 (.odd vY) (.write (.int 1)) (.write (.int 2)))] a')(hc:c<7)(hn:n<5)(ho:o.length<900000)(g:StepG code a' o t res (s2 c n x y p q r)):U code (Mn x y p q r) 0 a o t res:=by
 obtain ⟨z1,z2⟩:=cW hc hn;obtain ⟨m,h1,h2⟩:=At.if1 h.one z1;refine h2 z2 (Go.of (cV_ok (l:=[]) hc) (fork_b (fun h0=>?_) fun h0=>?_))<;>(unfold s2 at g; rw [h0] at g)
 ·exact g.nil
 ·obtain ⟨m1,m2,m3,g1,g2,g3,g4⟩:=At.if2 h1 rfl;have g:U code (Mn x y p q r) 0 a' (o++[2-y.fmod 2]) t res:=g;rw [fmod2 y] at g;refine g4 rfl (Go.of (a:=b2i (decide (y.fmod 2=1))) (congrArg R.ok (fmod2 y)) (fork_b (fun h0=>?_) fun h0=>?_))<;>rw [h0] at g
  ·exact At.write g2 rfl rfl ho g
  ·exact At.write g1 rfl rfl ho (g3 g)
theorem run3 (h:AtL code [S0] 9 a [.if2 (cT c n) (sX (eT e n)) (sY (.int n))] a')(hc:c<7)(he:e<10)(hn:n<5)(hx:bd 80 x)(hy:bd 80 y)(g:StepG code a' o t res (s3 e c n x y p q r)):U code (Mn x y p q r) 0 a o t res:=by
 obtain ⟨z1,z2⟩:=cW hc hn;obtain ⟨y1,y2⟩:=eW (Nat.lt_succ_of_lt he) hn;obtain ⟨m1,m2,m3,g1,g2,g3,g4⟩:=At.if2 h.one z1;refine g4 z2 (Go.of (cV_ok (l:=[]) hc) (fork_b (fun h0=>?_) fun h0=>?_))<;>(unfold s3 at g; rw [h0] at g)
 ·exact At.set g2 rfl rfl ⟨(by decide:4<9),g.nil⟩
 ·exact At.set g1 y1 y2 (eV_go he hn hx hy g fun v g=>⟨(by decide:3<9),g3 g.nil⟩)
end
theorem tn1 {z:Int}{k:Nat}(h:(z+1).toNat=k+1):0<=z∧z.toNat=k:=by
 cases z with
 | ofNat n=>exact ⟨Av n,Nat.succ.inj h⟩
 | negSucc n=>cases n<;>cases h
theorem tn0 {z:Int}(h:(z+1).toNat=0):z<0:=by
 cases z with
 | ofNat n=>cases h
 | negSucc n=>exact Int.negSucc_lt_zero n
theorem dn0 {v w:Int}(h:(v-w+1).toNat=0):decide (v ≥ w)=false:=decide_eq_false (Int.not_le.mpr (Int.lt_of_sub_neg (tn0 h)))
theorem dn1 {v w:Int}{k:Nat}(h:(v-w+1).toNat=k+1):decide (v ≥ w)=true∧(v-1-w+1).toNat=k:=⟨decide_eq_true (Int.le_of_sub_nonneg (tn1 h).1),by rw [Int.sub_sub,Int.add_comm 1 w,← Int.sub_sub,Int.sub_add_cancel]; exact (tn1 h).2⟩
theorem up0 {v w:Int}(h:(w-v+1).toNat=0):decide (v<=w)=false:=decide_eq_false (Int.not_le.mpr (Int.lt_of_sub_neg (tn0 h)))
theorem up1 {v w:Int}{k:Nat}(h:(w-v+1).toNat=k+1):decide (v<=w)=true∧(w-(v+1)+1).toNat=k:=⟨decide_eq_true (Int.le_of_sub_nonneg (tn1 h).1),by rw [← Int.sub_sub,Int.sub_add_cancel]; exact (tn1 h).2⟩
theorem to2:∀ k:Nat,k<5->((k:Int)-2).toNat<=2:=by decide +kernel
theorem ft {b:Bool}{A:Prop}(h:b=false)(h':b=true):A:=by rw [h] at h'; cases h'
theorem low_bd (x:Int):-2<=low x∧low x<=2:=by
 unfold low rem quo;rw [show (((3:Int).natAbs:Nat):Int)=3 from rfl,Int.fdiv_eq_ediv_of_nonneg _ (by decide)];by_cases h:x*3<0
 ·rw [decide_eq_true h];show -2<=x - -((x.natAbs:Int) / 3)*3∧x - -((x.natAbs:Int) / 3)*3<=2;lia
 ·rw [decide_eq_false h];show -2<=x-((x.natAbs:Int) / 3)*3∧x-((x.natAbs:Int) / 3)*3<=2;lia
section
variable {code:List In}{o:List Int}{t:Nat}{res:Option (List Int)}{x y p q r:Int}{n a a' e c u:Nat}{l:List Int}
theorem AtL.two {sc:List Scope}{f:Nat}{s s':St}(h:AtL code sc f a [s,s'] a'):∃ m,At code sc f a s m∧At code sc f m s' a':=by
 cases h with
 | cons h1 h2=>exact ⟨_,h1,h2.one⟩
theorem setYn {m:Nat}(h:At code [S0] 9 a (sY (.int n)) m)(g:U code (Mn x (n:Int) p q r) 0 m o t res):U code (Mn x y p q r) 0 a o t res:=
 At.set h rfl rfl ⟨(by decide:4<9),g⟩
noncomputable def m4 (n:Nat)(x:Int):Nat:=((n:Int)-low x+1).toNat
noncomputable def s4 (n:Nat)(x y p q r:Int):Option SR:=some ⟨x,(n:Int)-(m4 n x:Int),p,q,r,[]⟩
theorem run4 (h:AtL code [S0] 9 a [sY (.int n),.whl (.bin [62,61] vY (tMod vX (.int 3))) (sY (tMinus vY (.int 1)))] a')(hx:bd 80 x)(g:StepG code a' o t res (s4 n x y p q r)):U code (Mn x y p q r) 0 a o (t+(m4 n x+1)) res:=by
 obtain ⟨m,h1,h2⟩:=h.two;refine setYn h1 ?_;obtain ⟨b,b',hB,hJ,hW⟩:=At.whl h2 rfl;have loop:∀ (k:Nat) (v:Int),(v-low x+1).toNat=k->U code (Mn x (v-(k:Int)) p q r) 0 a' o t res->U code (Mn x v p q r) 0 m o (t+(k+1)) res:=by
  intro k
  induction k with
  | zero=>exact fun v hk g=>hW rfl (Go.of (ev_bin (evY (l:=[])) (evLow (l:=[]) hx) rfl) (fork_b (fun _=>Int.sub_zero v▸g) (ft (dn0 hk))))
  | succ k ih=>
   intro v hk g;obtain ⟨h1,h2⟩:=dn1 hk;refine hW rfl (Go.of (ev_bin (evY (l:=[])) (evLow (l:=[]) hx) rfl) (fork_b (fun h=>ft h h1) fun _=>?_));refine At.set hB rfl rfl ⟨(by decide:4<9),hJ (ih (v-1) h2 ?_)⟩;rw [Int.sub_sub,Int.add_comm]; exact g
 exact loop _ n rfl g.nil
noncomputable def s5 (n:Nat)(x y p q r:Int):Option SR:=match n with
 | 0=>some ⟨x+-1,-1,p,q,r,[]⟩
 | 1=>some ⟨x+0,0,p,q,r,[]⟩
 | 2=>some ⟨x+1,1,p,q,r,[]⟩
 | 3=>some ⟨x+2+1,1,p,q,r,[]⟩
 | _=>some ⟨x+3+2+1,1,p,q,r,[]⟩
noncomputable def t5:Nat->Nat
 | 3=>2
 | 4=>3
 | _=>1
theorem run5 (h:AtL code [S0] 9 a [sY (.int n),.rep (.seq (sY (tMinus vY (.int 1))) (.one (sX (tPlus vX vY)))) (.bin [60,61] vY (.int 1))] a')(hn:n<5)(g:StepG code a' o t res (s5 n x y p q r)):U code (Mn x y p q r) 0 a o (t+t5 n) res:=by
 obtain ⟨m,h1,h2⟩:=h.two;refine setYn h1 ?_;obtain ⟨b,hB,hR⟩:=At.rep h2 rfl;obtain ⟨b1,hB1,hB2⟩:=hB.seq;have it:∀ (x v:Int) (t:Nat),(decide (v-1<=1)=true->U code (Mn (x+(v-1)) (v-1) p q r) 0 a' o t res)->(decide (v-1<=1)=false->U code (Mn (x+(v-1)) (v-1) p q r) 0 m o t res)->U code (Mn x v p q r) 0 m o (t+1) res:=by
  intro x v t g1 g2;refine At.set hB1 rfl rfl ⟨(by decide:4<9),?_⟩;refine At.set hB2.one rfl rfl ⟨(by decide:3<9),?_⟩;show U code (Mn (x+(v-1)) (v-1) p q r) 0 b o (t+1) res;exact hR rfl (fork_b (b:=decide (v-1<=1)) g2 g1)
 revert g;clear h1;refine lt5 (P:=fun n=>StepG code a' o t res (s5 n x y p q r)->U code (Mn x (n:Int) p q r) 0 m o (t+t5 n) res) (fun g=>?_) (fun g=>?_) (fun g=>?_) (fun g=>?_) (fun g=>?_) hn
 ·exact it x 0 t (fun _=>g.nil) fun h=>by cases h
 ·exact it x 1 t (fun _=>g.nil) fun h=>by cases h
 ·exact it x 2 t (fun _=>g.nil) fun h=>by cases h
 ·exact it x 3 (t+1) (fun h=>by cases h) fun _=>it _ _ t (fun _=>g.nil) fun h=>by cases h
 ·exact it x 4 (t+2) (fun h=>by cases h) fun _=>it _ _ (t+1) (fun h=>by cases h) fun _=>it _ _ t (fun _=>g.nil) fun h=>by cases h
noncomputable def loop6:Nat->Int->Int->Int->Int×Int
 | 0,_,x,y=>(x,y)
 | m+1,i,x,y=>loop6 m (i+1) (x+i) (i*2)
noncomputable def m6 (n:Nat)(x:Int):Nat:=(low x-((n:Int)-1)+1).toNat
theorem low_at (x:Int):∃ w:Nat,w<5∧low x=(w:Int)-2:=by
 have h:=low_bd x;have h0:0<=low x+2:=Int.add_le_add_right h.1 2;refine ⟨(low x+2).toNat,(Int.toNat_lt h0).mpr (Int.lt_of_le_of_lt (Int.add_le_add_right h.2 2) (by decide)),?_⟩;rw [Int.toNat_of_nonneg h0,Int.add_sub_cancel]
theorem m4_lt {n:Nat}(h:n<5)(x:Int):m4 n x<8:=by
 obtain ⟨w,hw,e⟩:=low_at x;unfold m4;rw [e]; exact (by decide +kernel:∀ n:Nat,n<5->∀ w:Nat,w<5->((n:Int)-((w:Int)-2)+1).toNat<8) n h w hw
theorem m6_le {n:Nat}(h:n<5)(x:Int):m6 n x<=4∧(n:Int)-1+m6 n x<=5:=by
 obtain ⟨w,hw,e⟩:=low_at x;unfold m6;rw [e]; exact (by decide +kernel:∀ n:Nat,n<5->∀ w:Nat,w<5->((w:Int)-2-((n:Int)-1)+1).toNat<=4∧(n:Int)-1+((w:Int)-2-((n:Int)-1)+1).toNat<=5) n h w hw
noncomputable def s6 (n:Nat)(x y p q r:Int):Option SR:=some ⟨(loop6 (m6 n x) ((n:Int)-1) x y).1,(loop6 (m6 n x) ((n:Int)-1) x y).2,p,q,r,[]⟩
theorem run6 (h:AtL code [S0] 9 a [.for [121] (tMinus (.int n) (.int 1)) (tMod vX (.int 3)) true (.beg (.seq (sX (tPlus vX vY)) (.one (sY (tMul vY (.int 2))))))] a')(hx:bd 80 x)(g:StepG code a' o t res (s6 n x y p q r)):U code (Mn x y p q r) 0 a o (t+(m6 n x+1)) res:=by
 obtain ⟨top,b,b',hA,hE,hT,hB⟩:=At.for h.one rfl rfl;have hl:=(low_bd x).2;refine hE rfl rfl (Go.of (evLow (l:=[]) hx) ?_:Go (evE [S0] (Mn x y p q r) 0 (tMod vX (.int 3))) _ _);obtain ⟨m1,hA1,hA2⟩:=hA.beg.seq;have loop:∀ (k:Nat) (i x1 y1:Int),-1<=i->(low x-i+1).toNat=k->U code (Mn (loop6 k i x1 y1).1 (loop6 k i x1 y1).2 p q r) 0 a' o t res->U code (Mn x1 y1 p q r++[i,low x]) 0 top o (t+(k+1)) res:=by
  intro k
  induction k with
  | zero=>exact fun i x1 y1 hi hk g=>hT rfl rfl (ft (up0 hk)) fun _=>g
  | succ k ih=>
   intro i x1 y1 hi hk g;obtain ⟨h1,h2⟩:=up1 hk;refine hT rfl rfl (fun _=>⟨(by decide:4<11),?_⟩) fun h=>ft h h1;show U code (Mn x1 i p q r++[i,low x]) 0 b o (t+(k+1)) res;refine At.set hA1 rfl rfl ⟨(by decide:3<11),?_⟩;show U code (Mn (x1+i) i p q r++[i,low x]) 0 m1 o (t+(k+1)) res;have bi:bd 3 i:=by
    have h1:=Ax h1;show i.natAbs<8;lia
   refine At.set hA2.one rfl rfl (Go.of (ev_bin evY evInt (mul_eq (bi.small (by decide)) (by decide +kernel))) ⟨(by decide:4<11),?_⟩:Go (evE [S0] (Mn (x1+i) i p q r++[i,low x]) 0 (tMul vY (.int 2))) _ _);show U code (Mn (x1+i) (i*2) p q r++[i,low x]) 0 b' o (t+(k+1)) res;exact hB rfl rfl (ih (i+1) (x1+i) (i*2) (Int.le_trans hi (Int.le_of_lt (Int.lt_succ i))) h2 g)
 exact loop _ _ _ _ (Int.sub_le_sub_right (Av n) 1:(0:Int)-1<=n-1) rfl g.nil
noncomputable def outs7 (i:Int):Nat->Int->List Int
 | 0,_=>[]
 | m+1,j=>(i*9+j)::outs7 i m (j-1)
noncomputable def last7:Nat->Int->Int->Int
 | 0,_,y=>y
 | m+1,j,_=>last7 m (j-1) j
noncomputable def s7 (n:Nat)(x y p q r:Int):Option SR:=some ⟨2,last7 (n-1) n (last7 n n y),p,q,r,outs7 1 n n++outs7 2 (n-1) n⟩
theorem outs7_len (i:Int):∀ (m:Nat) (j:Int),(outs7 i m j).length=m
 | 0,j=>rfl
 | m+1,j=>congrArg Nat.succ (outs7_len i m (j-1))
theorem t7 (t n:Nat):t+(5+(n+(n-1)))=(t+1+((n-1)+1)+1)+(n+1)+1:=by lia
theorem run7 (h:AtL code [S0] 9 a [.for [120] (.int 1) (.int 2) true (.for [121] (.int n) vX false (.write (tPlus (tMul vX (.int 9)) vY)))] a')(hn:n<5)(ho:o.length<=1000)(g:StepG code a' o t res (s7 n x y p q r)):U code (Mn x y p q r) 0 a o (t+(5+(n+(n-1)))) res:=by
 obtain ⟨top,b,b',hA,hE,hT,hB⟩:=At.for h.one rfl rfl;obtain ⟨top2,c,c',hA2,hE2,hT2,hB2⟩:=At.for hA rfl rfl;have inner:∀ (i:Int),small i=true->∀ (k:Nat) (j y1:Int) (o1:List Int) (t1:Nat),o1.length+k<=2000->(j-i+1).toNat=k->U code (Mn i (last7 k j y1) p q r++[i,2]) 0 b' (o1++outs7 i k j) t1 res->U code (Mn i y1 p q r++[i,2]++[j,i]) 0 top2 o1 (t1+(k+1)) res:=by
  intro i si k
  induction k with
  | zero=>exact fun j y1 o1 t1 ho1 hk g=>hT2 rfl rfl (ft (dn0 hk)) fun _=>List.append_nil o1▸g
  | succ k ih=>
   intro j y1 o1 t1 ho1 hk g;obtain ⟨h1,h2⟩:=dn1 hk;refine hT2 rfl rfl (fun _=>⟨(by decide:4<13),?_⟩) fun h=>ft h h1;show U code (Mn i j p q r++[i,2]++[j,i]) 0 c o1 (t1+(k+1)) res;refine At.write hA2 rfl rfl (Ao (Aa (Af _ _) ho1) (by decide)) (Go.of (ev_bin (ev_bin (evX (l:=[i,2]++[j,i])) evInt (mul_eq si (by decide +kernel))) evY rfl) ?_);refine hB2 rfl rfl (ih (j-1) j (o1++[i*9+j]) t1 ?_ h2 ?_)
   ·rw [Ac,Nat.add_assoc,Nat.add_comm _ k]; exact ho1
   ·rw [Ae]; exact g
 have round:∀ (i x1 y1:Int) (k:Nat) (o1:List Int) (t1:Nat),small i=true->decide (i<=2)=true->o1.length+k<=2000->((n:Int)-i+1).toNat=k->U code (Mn i (last7 k n y1) p q r++[i+1,2]) 0 top (o1++outs7 i k n) t1 res->U code (Mn x1 y1 p q r++[i,2]) 0 top o1 (t1+(k+1)+1) res:=by
  intro i x1 y1 k o1 t1 si hi ho1 hk g;refine hT rfl rfl (fun _=>⟨(by decide:3<11),?_⟩) fun h=>ft h hi;show U code (Mn i y1 p q r++[i,2]) 0 b o1 (t1+(k+1)) res;exact hE2 rfl rfl (inner i si k n y1 o1 t1 ho1 hk (hB rfl rfl g):U code (Mn i y1 p q r++[i,2]++[(n:Int),i]) 0 top2 o1 (t1+(k+1)) res)
 refine hE rfl rfl (?_:U code (Mn x y p q r++[1,2]) 0 top o (t+(5+(n+(n-1)))) res);rw [t7];have n4:=Nat.le_of_lt_succ hn;refine round 1 x y n o _ (by decide +kernel) rfl (Aa (Aq ho n4) (by decide)) (by lia) ?_;refine round 2 1 (last7 n n y) (n-1) (o++outs7 1 n n) _ (by decide +kernel) rfl (by rw [Ac,outs7_len]; exact Aa (Aq (Aq ho n4) (Aa (Nat.sub_le n 1) n4)) (by decide)) (by lia) ?_;refine hT rfl rfl (fun h=>by cases h) fun _=>?_;rw [Ae]; exact g
theorem evT (hu:u<3)(hn:n<5):evAd [S0] (Mn x y p q r) 0 (tT u n)=toR (spotOf u n):=
 lt3 (P:=fun u=>evAd [S0] (Mn x y p q r) 0 (tT u n)=toR (spotOf u n)) rfl rfl (evI_n (l:=[]) hn) hu
noncomputable def s8 (u n:Nat)(x y p q r:Int):Option SR:=match spotOf u n with
 | some k=>some (ofMn (fS k ((n:Int)-2).toNat ((n:Int)-2) (Mn x y p q r)))
 | Option.none=>Option.none
theorem fS_keep (ra:Nat):∀ (k:Nat) (d:Int) (st:List Int),∃ v,fS ra k d st=st.set ra v
 | 0,d,st=>⟨(st.set ra (nv ra d st)).getD ra 0+d,List.set_set ..⟩
 | k+1,d,st=>(fS_keep ra k (d-1) (st.set ra (nv ra d st))).elim fun v hv=>⟨(st.set ra v).getD ra 0+d,by
   show pl ra d (fS ra k (d-1) (st.set ra (nv ra d st)))=_;rw [hv,List.set_set]; exact List.set_set ..⟩
theorem Rs.args {k:Nat}(h:Nat.ble k 70=true):Rs 9 k:=Nat.ble_eq_true_of_le (Aa (Ak (Al (Ad h) 10) 9) (by decide))
theorem sz2 {a b:Ex}(ha:Nat.ble a.sz 30=true)(hb:Nat.ble b.sz 30=true):Rs 9 (szs [a,b]):=
 Rs.args (Nat.ble_eq_true_of_le (Aa (Aq (Ad ha) (Aq (Ad hb) (Aj 0))) (by decide)))
theorem wf2 {a b:Ex}(ha:a.wf=true)(hb:b.wf=true):∀ e∈[a,b],e.wf=true:=fun e he=>(List.mem_cons.mp he).elim (fun h=>h▸ha) fun he=>(List.mem_cons.mp he).elim (fun h=>h▸hb) fun he=>absurd he List.not_mem_nil
theorem run8 (hf:Frag code 1 pCode)(h:AtL code [S0] 9 a [.call [102] [tMinus (.int n) (.int 2),tT u n]] a')(hu:u<3)(hn:n<5)(hok:∀ k,fOk k ((n:Int)-2).toNat ((n:Int)-2) (Mn x y p q r))(g:StepG code a' o t res (s8 u n x y p q r)):U code (Mn x y p q r) 0 a o (t+(fT ((n:Int)-2).toNat+1+1)) res:=by
 obtain ⟨z1,z2⟩:=tW hu hn;refine At.call (t:=t+fT ((n:Int)-2).toNat+1) (l:=0) (a:=1) (q:=qF) h.one rfl (wf2 rfl z1) (sz2 rfl z2) ?_;show Go ((((evAd [S0] (Mn x y p q r) 0 (tT u n)).bind _).bind _).bind _) _ res;rw [evT hu hn];unfold s8 at g;revert g;cases hk:spotOf u n with
 | none=>exact id
 | some k=>
  intro g;have sp:=spot hk;have g:U code (ofMn (fS k ((n:Int)-2).toNat ((n:Int)-2) (Mn x y p q r))).mn 0 a' (o++[]) t res:=g;obtain ⟨v,hv⟩:=fS_keep k ((n:Int)-2).toNat ((n:Int)-2) (Mn x y p q r);rw [hv,List.append_nil,sp.2,← hv] at g;have k2:=to2 n hn;exact ⟨0,rfl,runF hf _ _ (Mn x y p q r) 0 a' k t rfl sp.1 (by decide:4<9) (Aa (Ak (Nat.mul_le_mul_left 9 k2) 9) (by decide)) (hok k) g⟩
noncomputable def s9 (e u n:Nat)(x y p q r:Int):Option SR:=match spotOf u n with
 | some k=>(eV e n x y p q r).bind fun v=>some (ofMn ((Mn x y p q r).set k ((Mn x y p q r).getD k 0-v)))
 | Option.none=>Option.none
theorem run9 (hf:Frag code 1 pCode)(h:AtL code [S0] 9 a [.call [115] [tT u n,eT e n]] a')(he:e<10)(hu:u<3)(hn:n<5)(hx:bd 80 x)(hy:bd 80 y)(g:StepG code a' o t res (s9 e u n x y p q r)):U code (Mn x y p q r) 0 a o (t+3) res:=by
 obtain ⟨z1,z2⟩:=tW hu hn;have z3:=Ab (allN_at (allN_at eOk (Nat.lt_succ_of_lt he)) hn);refine At.call (t:=t+2) (l:=0) (a:=39) (q:=[([117],true),([120],false)]) h.one rfl (wf2 z1 z3.1) (sz2 z2 z3.2) ?_;show Go (((evAd [S0] (Mn x y p q r) 0 (tT u n)).bind _).bind _) _ res;rw [evT hu hn];unfold s9 at g;revert g;cases hk:spotOf u n with
 | none=>exact id
 | some k=>
  intro g;have sp:=spot hk;show Go (((evE [S0] (Mn x y p q r) 0 (eT e n)).bind _).bind _) _ res;have:=eV_go (k:=fun v=>∃ link,frameOf (Mn x y p q r) 0 0=some link∧U code (Mn x y p q r++[(link:Int),((0:Nat):Int),(a':Int)]++[(k:Int),v]) 9 39 o (t+2) res) he hn hx hy g fun v g=>⟨0,rfl,runS hf (st:=Mn x y p q r) (b':=0) (ua:=k) sp.1 (get_D sp.1) (by decide:9<=10000) (g.spot sp)⟩;revert this;cases evE [S0] (Mn x y p q r) 0 (eT e n)<;>exact id
noncomputable def stepS (k e c u n:Nat)(x y p q r:Int):Option SR:=match k with
 | 0=>s0 e u n x y p q r
 | 1=>s1 e n x y p q r
 | 2=>s2 c n x y p q r
 | 3=>s3 e c n x y p q r
 | 4=>s4 n x y p q r
 | 5=>s5 n x y p q r
 | 6=>s6 n x y p q r
 | 7=>s7 n x y p q r
 | 8=>s8 u n x y p q r
 | _=>s9 e u n x y p q r
noncomputable def stepK (k n:Nat)(x:Int):Nat:=match k with
 | 0 | 1 | 2 | 3=>0
 | 4=>m4 n x+1
 | 5=>t5 n
 | 6=>m6 n x+1
 | 7=>5+(n+(n-1))
 | 8=>fT ((n:Int)-2).toNat+1+1
 | _=>3
theorem runAll (hf:Frag code 1 pCode){k:Nat}(h:AtL code [S0] 9 a (stepT k e c u n) a')(hk:k<10)(he:e<10)(hc:c<7)(hu:u<3)(hn:n<5)(hx:bd 80 x)(hy:bd 80 y)(hok:∀ k,fOk k ((n:Int)-2).toNat ((n:Int)-2) (Mn x y p q r))(ho:o.length<=1000)(g:StepG code a' o t res (stepS k e c u n x y p q r)):U code (Mn x y p q r) 0 a o (t+stepK k n x) res:=by
 have ho':o.length<900000:=Ao ho (by decide);revert h g;exact lt10 (P:=fun k=>AtL code [S0] 9 a (stepT k e c u n) a'->StepG code a' o t res (stepS k e c u n x y p q r)->U code (Mn x y p q r) 0 a o (t+stepK k n x) res)
  (fun h g=>run0 h he hu hn hx hy g) (fun h g=>run1 h he hn hx hy ho' g) (fun h g=>run2 h hc hn ho' g) (fun h g=>run3 h hc he hn hx hy g) (fun h g=>run4 h hx g) (fun h g=>run5 h hn g) (fun h g=>run6 h hx g) (fun h g=>run7 h hn ho g) (fun h g=>run8 hf h hu hn hok g) (fun h g=>run9 hf h he hu hn hx hy g) hk
end
noncomputable def LB (n:Nat):List Int->Prop
 | []=>True
 | w::l=>bd n w∧LB n l
section
variable {n m i k:Nat}{v:Int}
theorem bd0:bd n 0:=Nat.two_pow_pos n
theorem LB.get:∀ {l:List Int} {i:Nat},LB n l->bd n (l.getD i 0)
 | [],_,_=>bd0
 | _::_,0,h=>h.1
 | _::l,i+1,h=>LB.get (l:=l) (i:=i) h.2
theorem LB.put (hv:bd n v):∀ {l:List Int} {i:Nat},LB n l->LB n (l.set i v)
 | [],_,_=>trivial
 | _::_,0,h=>⟨hv,h.2⟩
 | _::l,i+1,h=>⟨h.1,LB.put hv (l:=l) (i:=i) h.2⟩
theorem LB.le (hm:n<=m):∀ {l:List Int},LB n l->LB m l
 | [],_=>trivial
 | _::_,h=>⟨h.1.le hm,LB.le hm h.2⟩
theorem nv_bd {l:List Int}{d:Int}(hd:bd 2 d)(h2:2<=n)(h:LB n l):LB (n+4) (l.set i (nv i d l)):=
 LB.put ((((h.get.mul (bdl rfl:bd 2 2)).add (hd.le (Ar 2 n))).sub (h.get.le (Af n 3)))) (h.le (Af n 4))
theorem pl_bd {l:List Int}{d:Int}(hd:bd 2 d)(h2:2<=n)(h:LB n l):LB (n+1) (pl i d l):=LB.put (h.get.add (hd.le h2)) (h.le (Af _ _))
theorem sub1 (d:Int)(j:Nat):d-1-(j:Int)=d-((j+1:Nat):Int):=by rw [Int.sub_sub,Int.add_comm]; rfl
theorem fS_bd (ra:Nat):∀ (k:Nat) (d:Int) (l:List Int) (n:Nat),2<=n->(∀ j:Nat,j<=k->bd 2 (d-(j:Int)))->LB n l->LB (n+5*(k+1)) (fS ra k d l)
 | 0,d,l,n,h2,hd,h=>pl_bd (n:=n+4) (Int.sub_zero d▸hd 0 (Aj 0)) (Aa h2 (Af _ _)) (nv_bd (Int.sub_zero d▸hd 0 (Aj 0)) h2 h)
 | k+1,d,l,n,h2,hd,h=>by
  have h0:bd 2 d:=Int.sub_zero d▸hd 0 (Nat.zero_le _);have:=fS_bd ra k (d-1) _ (n+4) (Aa h2 (Af _ _)) (fun j hj=>sub1 d j▸hd (j+1) (Au hj)) (nv_bd (i:=ra) h0 h2 h);have e:n+4+5*(k+1)+1=n+5*(k+1+1):=by lia
  exact e▸pl_bd h0 (Aa (Aa h2 (Af _ _)) (Af _ _)) this
theorem fOk_bd (ra:Nat):∀ (k:Nat) (d:Int) (l:List Int) (n:Nat),2<=n->n+4*k<=200->(∀ j:Nat,j<=k->bd 2 (d-(j:Int)))->LB n l->fOk ra k d l
 | 0,d,l,n,h2,hn,hd,h=>h.get.small hn
 | k+1,d,l,n,h2,hn,hd,h=>⟨h.get.small (Aa (Af _ _) hn),fOk_bd ra k (d-1) _ (n+4) (Aa h2 (Af _ _)) (by lia) (fun j hj=>sub1 d j▸hd (j+1) (Au hj)) (nv_bd (Int.sub_zero d▸hd 0 (Nat.zero_le _)) h2 h)⟩
theorem d2 (hk:k<5):∀ j:Nat,j<=((k:Int)-2).toNat->bd 2 ((k:Int)-2-(j:Int)):=(by decide +kernel:∀ k:Nat,k<5->∀ j,j<=((k:Int)-2).toNat->((k:Int)-2-(j:Int)).natAbs<4) k hk
end
noncomputable def OB (n:Nat):Option SR->Prop
 | some s=>LB n s.mn∧s.out.length<=9
 | Option.none=>True
section
variable {n k e c u:Nat}{x y p q r:Int}
theorem Mn_lb {x' y' p' q' r':Int}(hx:bd n x)(hy:bd n y)(hp:bd n p)(hq:bd n q)(hr:bd n r):LB n (Mn x y p q r):=⟨bd0,bd0,bd0,hx,hy,bd0,hp,hq,hr,trivial⟩
theorem ofMn_ob {l:List Int}(h:LB n l):OB n (some (ofMn l)):=⟨⟨bd0,bd0,bd0,h.get,h.get,bd0,h.get,h.get,h.get,trivial⟩,Nat.zero_le _⟩
noncomputable def ob (n:Nat):Option Int->Prop
 | some v=>bd n v
 | Option.none=>True
theorem divO_bd {b v:Int}(h:bd n v):ob n (divO b v):=by unfold divO; cases decide (b=0)<;>first | trivial | exact h
theorem eV_bd (h3:3<=n)(h:LB n (Mn x y p q r))(he:e<10)(hk:k<5):ob (n+(n+3)) (eV e k x y p q r):=by
 obtain ⟨_,_,_,hx,hy,_,hp,hq,hr,_⟩:=h;have bk:bd n (k:Int):=(bdn hk).le h3;have l6:∀ {j:Nat},j<=6->n+j<=n+(n+3):=fun hj=>Ak (Aa hj (Al h3 3)) n;refine lt10 (P:=fun e=>ob (n+(n+3)) (eV e k x y p q r)) ?_ ?_ ?_ ?_ ?_ ?_ ?_ ?_ ?_ ?_ he
 ·exact ((bdl rfl:bd 4 10).add ((bdn hk).le (by decide))).le (Aa (by decide:5<=3+6) (Aq h3 (Al h3 3)))
 ·exact ((hx.sub hy).sub (bk.le (Af _ 1))).le (l6 (j:=2) (by decide))
 ·exact ((hx.le (Af _ 1)).sub (bk.sub hy)).le (l6 (j:=2) (by decide))
 ·exact ((bk.le (Af n n)).sub (hx.mul hy)).le (Ak (Ak (by decide:1<=3) n) n)
 ·exact (hx.neg.sub bk).le (l6 (by decide))
 ·exact divO_bd (hx.quo.le (l6 (Nat.zero_le _)))
 ·exact divO_bd (hy.rest.le (l6 (by decide)))
 ·exact lt5 (P:=fun k=>ob (n+(n+3)) (heldV k p q r)) trivial (hp.le (l6 (Nat.zero_le _))) (hq.le (l6 (Nat.zero_le _))) (hr.le (l6 (Nat.zero_le _))) trivial hk
 ·refine ((((hx.add ((bdl rfl:bd 3 7).le h3)).mul hy).quo).mul (bdl rfl:bd 2 2)).le (Nat.le_of_eq ?_);rw [Aw n 1 n,Nat.add_assoc,Nat.add_assoc]
 ·exact ((hx.rest.sub (hq.le (Af _ 1))).add (hy.le (Af _ 2))).le (l6 (j:=3) (by decide))
theorem ob_bind {a b:Nat}{m:Option Int}{f:Int->Option SR}(h:ob a m)(hf:∀ v,bd a v->OB b (f v)):OB b (m.bind f):=by
 cases m with
 | none=>trivial
 | some v=>exact hf v h
theorem loop6_bd:∀ (m:Nat) (i x y:Int) (a:Nat),5<=a->-1<=i->i+m<=5->bd a x->bd a y->bd (a+m) (loop6 m i x y).1∧bd (a+m) (loop6 m i x y).2
 | 0,i,x,y,a,_,_,_,hx,hy=>⟨hx,hy⟩
 | m+1,i,x,y,a,ha,h1,h2,hx,hy=>by
  have bi:bd 3 i:=by show i.natAbs<8; lia
  have:=loop6_bd m (i+1) (x+i) (i*2) (a+1) (Aa ha (Af _ 1)) (Int.le_trans h1 (Int.le_of_lt (Int.lt_succ i))) (by lia) (hx.add (bi.le (Aa (by decide) ha))) ((bi.mul (bdl rfl:bd 2 2)).le (Aa ha (Af _ 1)));rw [Nat.add_assoc,Nat.add_comm 1 m] at this;exact this
theorem last7_bd (h3:3<=n):∀ (m:Nat) (j y:Int),(m:Int)<=j->j<=4->bd n y->bd n (last7 m j y)
 | 0,j,y,_,_,h=>h
 | m+1,j,y,h1,h2,h=>last7_bd h3 m (j-1) j (by lia) (by lia) (bd.le (n:=3) (by show j.natAbs<8; lia) h3)
theorem OB.cells {o:List Int}(hx:bd n x)(hy:bd n y)(hp:bd n p)(hq:bd n q)(hr:bd n r)(ho:o.length<=9):OB n (some ⟨x,y,p,q,r,o⟩):=⟨⟨bd0,bd0,bd0,hx,hy,bd0,hp,hq,hr,trivial⟩,ho⟩
theorem step_bd (h3:3<=n)(h:LB n (Mn x y p q r))(hs:k<10)(he:e<10){j:Nat}(hj:j<5):OB (n+(n+15)) (stepS k e c u j x y p q r):=by
 have l18:∀ {m:Nat},m<=18->n+m<=n+(n+15):=fun hm=>Ak (Aa hm (Al h3 15)) n;have ln:n+(n+4)<=n+(n+15):=Ak (Ak (by decide) n) n;have l3:n+(n+3)<=n+(n+15):=Ak (Ak (by decide) n) n;have hL:=h.le (Af n (n+15));have hE:=fun e (he:e<10)=>eV_bd (k:=j) h3 h he hj;obtain ⟨_,_,_,hx,hy,_,hp,hq,hr,_⟩:=id h;obtain ⟨_,_,_,mx,my,_,mp,mq,mr,_⟩:=id hL;have bj:bd n (j:Int):=(bdn hj).le h3;have b7:bd n 7:=(bdl rfl:bd 3 7).le h3;refine lt10 (P:=fun k=>OB (n+(n+15)) (stepS k e c u j x y p q r)) ?_ ?_ ?_ ?_ ?_ ?_ ?_ ?_ ?_ ?_ hs
 ·show OB _ (s0 e u j x y p q r);unfold s0;cases spotOf u j with
  | none=>trivial
  | some k=>exact ob_bind (hE e he) fun v hv=>ofMn_ob (LB.put (hv.le l3) hL)
 ·exact ob_bind (hE e he) fun v hv=>.cells mx my mp mq mr (by show 1<=9; decide)
 ·refine OB.cells mx my mp mq mr ?_;cases cV c j x y
  ·show 0<=9; decide
  ·show 1<=9; decide
 ·show OB _ (s3 e c j x y p q r);unfold s3;cases cV c j x y with
  | true=>exact ob_bind (hE e he) fun v hv=>.cells (hv.le l3) my mp mq mr (by decide)
  | false=>exact .cells mx (bj.le (l18 (Nat.zero_le _))) mp mq mr (by decide)
 ·have hl:=low_bd x;have h7:=m4_lt hj x;exact .cells mx ((bj.sub (bd.le (v:=(m4 j x:Int)) (n:=3) h7 h3)).le (l18 (by decide))) mp mq mr (by decide)
 ·have b1:bd n 1:=(bdl rfl:bd 3 1).le h3;have b2:bd (n+1) 1:=b1.le (Af _ _);have m1:bd (n+(n+15)) 1:=b1.le (l18 (Nat.zero_le _));have t2:bd n 2:=(bdl rfl:bd 3 2).le h3;refine lt5 (P:=fun j=>OB (n+(n+15)) (s5 j x y p q r)) ?_ ?_ ?_ ?_ ?_ hj
  ·exact .cells ((hx.add b1.neg).le (l18 (by decide))) m1.neg mp mq mr (by decide)
  ·exact .cells ((hx.add bd0).le (l18 (by decide))) bd0 mp mq mr (by decide)
  ·exact .cells ((hx.add b1).le (l18 (by decide))) m1 mp mq mr (by decide)
  ·exact .cells (((hx.add t2).add b2).le (l18 (m:=2) (by decide))) m1 mp mq mr (by decide)
  ·exact .cells ((((hx.add ((bdl rfl:bd 3 3).le h3)).add (t2.le (Af _ _))).add (b2.le (Af _ _))).le (l18 (m:=3) (by decide))) m1 mp mq mr (by decide)
 ·have hl:=low_bd x;have h4:=(m6_le hj x).1;have h5:=(m6_le hj x).2;have:=loop6_bd (m6 j x) ((j:Int)-1) x y (n+2) (Al h3 2) (by lia) h5 (hx.le (Af _ _)) (hy.le (Af _ _));have l:n+2+m6 j x<=n+(n+15):=Aa (Ak h4 _) (l18 (m:=6) (by decide));exact .cells (this.1.le l) (this.2.le l) mp mq mr (by decide)
 ·have a:=last7_bd h3 j j y (Int.le_refl _) (by lia) hy;refine .cells ((bdl rfl:bd 3 2).le (Aa h3 (Af _ _))) ((last7_bd h3 (j-1) j _ (by lia) (by lia) a).le (l18 (Nat.zero_le _))) mp mq mr ?_;rw [Ac,outs7_len,outs7_len];lia
 ·show OB _ (s8 u j x y p q r);unfold s8;cases spotOf u j with
  | none=>trivial
  | some k=>
   have k2:=to2 j hj;exact ofMn_ob ((fS_bd k _ _ _ n (Aa (by decide) h3) (d2 hj) h).le (l18 (Aa (Nat.mul_le_mul_left 5 (Au k2)) (by decide))))
 ·show OB _ (s9 e u j x y p q r);unfold s9;cases spotOf u j with
  | none=>trivial
  | some k=>exact ob_bind (hE e he) fun v hv=>ofMn_ob (LB.put (((h.get.le (Af n (n+3))).sub hv).le ln) hL)
end
section
variable {code:List In}{o:List Int}{x y p q r:Int}{n a pe:Nat}
theorem tailRun (h:AtL code [S0] 9 a tS3 pe)(hr:code[pe]?=some .ret)(ho:o.length<=1000):U code (Mn x y p q r) 0 a o 4 (some (o++[x,y,p,q,r,2])):=by
 cases h with
 | cons h1 h=>
 cases h with
 | cons h2 h=>
 cases h with
 | cons h3 h=>
 have h4:=h.one;have lt:∀ {l:List Int},l.length<=10->(o++l).length<900000:=fun hl=>by rw [Ac]; exact Ao (Aq ho hl) (by decide)
 refine At.write h1 rfl rfl (Ao ho (by decide)) ?_;show U code (Mn x y p q r) 0 _ (o++[x]) 4 _;refine At.write h2 rfl rfl (lt (l:=[x]) (by show 1<=10; decide)) ?_;show U code (Mn x y p q r) 0 _ (o++[x]++[y]) 4 _;rw [Ae];obtain ⟨top,b,b',hA,hE,hT,hB⟩:=At.for h3 rfl rfl;refine hE rfl rfl (?_:U code (Mn x y p q r++[0,2]) 0 top (o++[x,y]) (3+1) _);have it:∀ (i y1 v:Int) (l:List Int) (t:Nat) (res:Option (List Int)),decide (i<=2)=true->l.length<=10->evE [S0] (Mn x i p q r++[i,2]) 0 tE=.ok v->U code (Mn x i p q r++[i+1,2]) 0 top (o++(l++[v])) t res->U code (Mn x y1 p q r++[i,2]) 0 top (o++l) (t+1) res:=by
  intro i y1 v l t res hi hl hv g;refine hT rfl rfl (fun _=>⟨(by decide:4<11),?_⟩) fun h=>ft h hi;show U code (Mn x i p q r++[i,2]) 0 b (o++l) t res;exact At.write hA rfl rfl (lt hl) (Go.of hv (hB rfl rfl (Ae o l [v]▸g)))
 refine it 0 y p _ 3 _ rfl (by show 2<=10; decide) rfl ?_;refine it 1 0 q _ 2 _ rfl (by show 3<=10; decide) rfl ?_;refine it 2 1 r _ 1 _ rfl (by show 4<=10; decide) rfl ?_;refine hT rfl rfl (fun h=>by cases h) fun _=>?_;refine At.write h4 rfl rfl (lt (by show 5<=10; decide)) ?_;show U code (Mn x 2 p q r) 0 pe (o++[x,y,p,q,r]++[2]) 0 _;rw [Ae];exact U.done hr
end
noncomputable def Ch.run (h:Ch)(x y p q r:Int):Option SR:=stepS h.k h.e h.c h.u h.n x y p q r
def Ch.ok (h:Ch):Prop:=h.k<10∧h.e<10∧h.c<7∧h.u<3∧h.n<5
theorem Ch.ok.ok' {h:Ch}(k:h.ok):h.ok':=⟨k.1,Nat.lt_succ_of_lt k.2.1,k.2.2⟩
noncomputable def runs:List Ch->Int->Int->Int->Int->Int->Option (List Int×Nat)
 | [],x,y,p,q,r=>some ([x,y,p,q,r,2],4)
 | h::hs,x,y,p,q,r=>match h.run x y p q r with
  | Option.none=>Option.none
  | some s=>match runs hs s.x s.y s.p s.q s.r with
   | Option.none=>Option.none
   | some w=>some (s.out++w.1,w.2+stepK h.k h.n x)
noncomputable def fits:Nat->Nat->Prop
 | 0,_=>True
 | m+1,n=>n<=80∧fits m (n+(n+15))
def Res (code:List In)(st:List Int)(a:Nat)(o:List Int)(m:Option (List Int×Nat)):Prop:=match m with
 | some w=>U code st 0 a o w.2 (some (o++w.1))
 | Option.none=>U code st 0 a o 0 Option.none
theorem runsRun {code:List In}(hf:Frag code 1 pCode){pe:Nat}(hret:code[pe]?=some .ret):∀ (hs:List Ch) (x y p q r:Int) (o:List Int) (a n:Nat),(∀ h∈hs,h.ok)->LB n (Mn x y p q r)->3<=n->fits hs.length n->o.length+9*hs.length<=1000->AtL code [S0] 9 a (hs.flatMap Ch.tree++tS3) pe->Res code (Mn x y p q r) a o (runs hs x y p q r)
 | [],x,y,p,q,r,o,a,n,_,_,_,_,ho,h=>tailRun h hret ho
 | c::hs,x,y,p,q,r,o,a,n,hok,hB,h3,hfit,ho,h=>by
  obtain ⟨k1,k2,k3,k4,k5⟩:=hok c (.head _);rw [List.flatMap_cons,Ae] at h;obtain ⟨m,h1,h2⟩:=h.split;have hL:=hB.le hfit.1;have ob:=step_bd (k:=c.k) (e:=c.e) (c:=c.c) (u:=c.u) h3 hB k1 k2 k5;have key:=fun (t:Nat) (res:Option (List Int)) (g:StepG code m o t res (c.run x y p q r))=>runAll hf h1 k1 k2 k3 k4 k5 hL.2.2.2.1 hL.2.2.2.2.1 (fun k=>fOk_bd k _ _ _ n (Aa (by decide) h3) (Aa (Aq hfit.1 (Nat.mul_le_mul_left 4 (to2 _ k5))) (by decide)) (d2 k5) hB) (Aa (Af _ _) ho) g;have ih:=fun (s:SR) (hs':LB (n+(n+15)) s.mn∧s.out.length<=9)=>runsRun hf hret hs s.x s.y s.p s.q s.r (o++s.out) m _ (fun h hh=>hok h (.tail _ hh)) hs'.1 (Aa h3 (Af _ _)) hfit.2 (by
   rw [Ac,Nat.add_assoc];exact Aa (Ak (Aa (Al hs'.2 _) (Nat.le_of_eq (Nat.add_comm 9 _))) _) ho) h2
  show Res code _ a o (match c.run x y p q r with
   | Option.none=>Option.none
   | some s=>match runs hs s.x s.y s.p s.q s.r with
    | Option.none=>Option.none
    | some w=>some (s.out++w.1,w.2+stepK c.k c.n x))
  have ob:OB (n+(n+15)) (c.run x y p q r):=ob;revert key ob;cases c.run x y p q r with
  | none=>exact fun key _=>(key 0 Option.none rfl).none 0
  | some s=>
   intro key ob;have ih:=ih s ob;revert ih;show Res code _ m _ (runs hs s.x s.y s.p s.q s.r)->Res code _ a o (match runs hs s.x s.y s.p s.q s.r with
    | Option.none=>Option.none
    | some w=>some (s.out++w.1,w.2+stepK c.k c.n x))
   cases runs hs s.x s.y s.p s.q s.r with
   | none=>exact fun ih=>(key 0 Option.none ih).none 0
   | some w=>exact fun ih=>key w.2 _ (Ae o s.out w.1▸ih)
set_option maxHeartbeats 0 in
theorem can_ok:cans.all (fun h=>h.tree.all stOk&&h.tree.all (okS [S0])&&Nat.ble h.tree.length 2)=true:=by decide +kernel
theorem ch_ok {h:Ch}(ok:h.ok'):h.tree.all stOk=true∧h.tree.all (okS [S0])=true∧h.tree.length<=2:=by
 have h1:=List.all_eq_true.mp can_ok _ (can_mem ok);rw [can_tree ok.1] at h1;have h1:=Ab h1;have h2:=Ab h1.1;exact ⟨h2.1,h2.2,Ad h1.2⟩
theorem flat_ok:∀ (hs:List Ch),(∀ h∈hs,h.ok')->(hs.flatMap Ch.tree).all stOk=true∧(hs.flatMap Ch.tree).all (okS [S0])=true∧(hs.flatMap Ch.tree).length<=2*hs.length
 | [],_=>⟨rfl,rfl,Aj 0⟩
 | h::hs,ok=>by
  obtain ⟨a1,a2,a3⟩:=ch_ok (ok h (.head _));obtain ⟨b1,b2,b3⟩:=flat_ok hs fun g hg=>ok g (.tail _ hg);rw [List.flatMap_cons];exact ⟨all_app a1 b1,all_app a2 b2,by rw [Ac]; exact Aa (Aq a3 b3) (Nat.le_of_eq (Nat.add_comm 2 _))⟩
noncomputable def num (i:Nat):Int:=(i:Int)-4
theorem num_ev {i:Nat}{sc:List Scope}{st:List Int}{b:Nat}:evE sc st b (numT i)=.ok (num i):=by
 unfold numT num;cases h:Nat.blt i 4 with
 | true=>
  refine (ev_neg evInt).trans (congrArg R.ok ?_);have:i<=4:=Ap (Ad h);rw [Int.ofNat_sub this,Int.neg_sub]; rfl
 | false=>
  refine congrArg R.ok ?_;exact Int.ofNat_sub (Nat.le_of_not_lt fun q=>ft h (Nat.ble_eq_true_of_le q))
theorem num_wf (i:Nat):(numT i).wf=true∧Rs 9 (numT i).sz:=by unfold numT; cases Nat.blt i 4<;>exact ⟨rfl,rfl⟩
theorem num_bd {i:Nat}(h:i<9):bd 3 (num i):=(by decide +kernel:∀ i:Nat,i<9->((i:Int)-4).natAbs<8) i h
theorem num_okS (i:Nat):okS [S0] (sY (numT i))=true:=by unfold numT; cases Nat.blt i 4<;>rfl
noncomputable def outR (m:Option (List Int×Nat))(f:Nat):Option (List Int):=match m with
 | some w=>cut w.2 f (some w.1)
 | Option.none=>Option.none
theorem evalGood {i j:Nat}(hi:i<9)(hj:j<9){hs:List Ch}(hok:∀ h∈hs,h.ok)(hl:hs.length=3)(f:Nat) :
  Ev3 (progT i (yX j::hs.map Ch.text)) f (outR (runs hs (num i) (num j) 0 0 0) f):=by
 have pcs:Pcs (yX j::hs.map Ch.text) ([sY (numT j)]++hs.flatMap Ch.tree):=Pcs.cons (num_at hj).2 (ch_pcs hs fun h hh=>(hok h hh).ok');obtain ⟨f1,f2,f3⟩:=flat_ok hs fun h hh=>(hok h hh).ok';rw [hl] at f3;have hlen:([sY (numT j)]++hs.flatMap Ch.tree).length<=90:=Aa (Au f3) (by decide);have hp:=parse_prog hd0_ok hi pcs (by show (hs.map Ch.text).length+1<=9; rw [Ah,hl]; decide) hlen;obtain ⟨code,pb,pe,c1,c2,c3,c4,c5⟩:=comp_good (i:=i) (ss:=[sY (numT j)]++hs.flatMap Ch.tree) (all_app (Bool.and_eq_true_iff.mpr ⟨(num_st j).2,rfl⟩) f1) hlen (all_app (Bool.and_eq_true_iff.mpr ⟨num_okS j,rfl⟩) f2);refine Ev3.run hp c1 ?_;rw [Ae] at c3;cases c3 with
 | cons h1 h=>
 cases h with
 | cons h2 h=>
 have main:=runsRun c2 c4 hs (num i) (num j) 0 0 0 [] _ 3 hok ⟨bd0,bd0,bd0,num_bd hi,num_bd hj,bd0,bd0,bd0,bd0,trivial⟩ (Aj 3) (by rw [hl]; exact ⟨by decide,by decide,by decide,trivial⟩) (by rw [hl]; decide) h;have start:∀ {t res},U code (Mn (num i) (num j) 0 0 0) 0 _ [] t res->U code [0,0,0] 0 0 [] t res:=fun g=>c5 (At.set h1 (num_wf i).1 (num_wf i).2 (Go.of (a:=3) rfl (Go.of num_ev ⟨(by decide:3<9),At.set h2 (num_wf j).1 (num_wf j).2 (Go.of (a:=4) rfl (Go.of num_ev ⟨(by decide:4<9),g⟩))⟩)));revert main;cases runs hs (num i) (num j) 0 0 0 with
 | none=>
  intro main;have:=start main f;rw [cut_none] at this; exact this
 | some w=>exact fun main=>start main f
noncomputable def badX (b:Nat):Tx:=32::(lIf++at? lBad b)
noncomputable def badS (b:Nat):List St:=get [] (parP (badX b))
noncomputable def badC (b:Nat):Bool:=isOk (parP (badX b))&&Nat.ble (badX b).length 200&&(badS b).all stOk&&!(badS b).all (okS [S0])&&Nat.ble (badS b).length 2
noncomputable def isErr {α:Type}:R α->Bool
 | .err=>true
 | _=>false
theorem isErr_eq {α:Type}{m:R α}(h:isErr m=true):m=.err:=by cases m<;>first | rfl | cases h
noncomputable def bad9K:List Tok:=get [] (lexP 59 300 (badX 9++[59]))
theorem bad_all:allN (fun b=>badC b||Nat.beq b 8||Nat.beq b 9||Nat.beq b 11) 12=true:=by decide +kernel
theorem bad_all2:(isOk (lexP 32 99 ((badX 8).take 20))&&isOk (lexP 59 300 (badX 9++[59]))&&isErr (pStmt dS (bad9K++[.word wSemi]))&&isOk (lexP 32 99 ((badX 11).take 15)))=true:=by decide +kernel
noncomputable def noPre (s:Tx):List Tx->Bool
 | []=>true
 | w::ws=>match pre w s with
  | true=>false
  | false=>noPre s ws
noncomputable def noOcc (ws:List Tx):Tx->Bool
 | []=>true
 | c::l=>match noPre (c::l) ws with
  | true=>noOcc ws l
  | false=>false
noncomputable def pats:List Tx:=[[125],[112,49],[58,32],[118,97],[32,103],[100,46]]
noncomputable def patE (e:Nat):List Tx:=match Nat.beq e 9 with
 | true=>pats
 | false=>[91,49,93]::pats
set_option maxHeartbeats 0 in
theorem can_chk:cans.all (fun h=>noOcc (patE h.e) (h.text++[59]))=true:=by decide +kernel
theorem not_true {b:Bool}(h:(!b)=true):b=false:=by cases b<;>first | rfl | cases h
theorem ch_chk {h:Ch}(ok:h.ok'):noOcc (patE h.can.e) (h.text++[59])=true:=can_text ok▸List.all_eq_true.mp can_chk _ (can_mem ok)
theorem noPre_at {s:Tx}:∀ {ws:List Tx} {w:Tx},noPre s ws=true->w∈ws->pre w s=false
 | v::ws,w,h,m=>by
  have h:(match pre v s with
   | true=>false
   | false=>noPre s ws)=true:=h
  revert h;cases hv:pre v s with
  | true=>intro h; cases h
  | false=>
   intro h;rcases List.mem_cons.mp m with rfl | m
   ·exact hv
   ·exact noPre_at h m
theorem noOcc_at {ws:List Tx}{c:Nat}{l:Tx}(h:noOcc ws (c::l)=true):(∀ w∈ws,pre w (c::l)=false)∧noOcc ws l=true:=by
 have h:(match noPre (c::l) ws with
  | true=>noOcc ws l
  | false=>false)=true:=h
 revert h;cases hp:noPre (c::l) ws with
 | true=>exact fun h=>⟨fun w hw=>noPre_at hp hw,h⟩
 | false=>intro h; cases h
theorem occ_125 {ws:List Tx}(hm:[125]∈ws):∀ {u v:Tx},noOcc ws (u++v)=true->memN 125 u=false
 | [],_,_=>rfl
 | c::u,v,h=>by
  have h:=noOcc_at h;have h1:(Nat.beq 125 c&&pre [] (u++v))=false:=h.1 _ hm;have e:∀ s:Tx,pre [] s=true:=fun s=>by cases s<;>rfl
  rw [e,Bool.and_true] at h1;show (Nat.beq 125 c||memN 125 u)=false;rw [h1]; exact occ_125 hm h.2
theorem pats_in (e:Nat){w:Tx}(h:w∈pats):w∈patE e:=by
 unfold patE;cases Nat.beq e 9
 ·exact .tail _ h
 ·exact h
theorem ch_125 {h:Ch}(ok:h.ok'):memN 125 h.text=false:=occ_125 (pats_in _ (.head _)) (ch_chk ok)
theorem memN_app (d:Nat):∀ u v:Tx,memN d (u++v)=(memN d u||memN d v)
 | [],v=>rfl
 | c::u,v=>(congrArg (Nat.beq d c||·) (memN_app d u v)).trans (Bool.or_assoc ..).symm
theorem seg_125 {tl:Tx}(ht:memN 125 tl=false):∀ us:List Tx,(∀ u∈us,memN 125 u=false)->memN 125 (segT us tl)=false
 | [],_=>ht
 | u::us,h=>by
  show memN 125 (u++59::segT us tl)=false;rw [memN_app,h u (.head _)];exact seg_125 ht us fun v hv=>h v (.tail _ hv)
theorem behind_no {c:Nat}:∀ l:Tx,memN c l=false->behind c l=Option.none
 | [],_=>rfl
 | d::l,h=>by
  have h:=Bool.or_eq_false_iff.mp h;unfold behind;rw [beq_sym h.1];exact behind_no l h.2
theorem bad8 (v:Tx):LexErr (badX 8++59::v):=
 (lexP_ok (v:=[55,100,105,118,32,50]++59::v) 99 ((badX 8).take 20) _ (get_ok (d:=[]) (Ab (Ab (Ab bad_all2).1).1).1)).2 (LexErr.space (LexErr.err rfl))
theorem lex_brace {l:Tx}(h:behind 125 l=Option.none):lexC 123 l=.err:=by
 show (match behind 125 l with
  | Option.none=>.err
  | some l'=>.ok (Option.none,l'):R (Option Tok×Tx))=.err
 rw [h]
theorem bad11 (v:Tx)(h:memN 125 v=false):LexErr (badX 11++59::v):=
 (lexP_ok (v:=[123,32,120,32,58,61,32,49]++59::v) 99 ((badX 11).take 15) _ (get_ok (d:=[]) (Ab bad_all2).2)).2 (LexErr.space (LexErr.err (lex_brace (behind_no ([32,120,32,58,61,32,49]++59::v) h))))
theorem bad_FE {n m b k:Nat}{v:Tx}{q:List St×List Tok}(hb:b=8∨b=9∨b=11)(h:memN 125 v=false)(g:FE n k v (.ok q)):FE m (k+201) (badX b++59::v) .err:=by
 have l:∀ {b:Nat},Nat.ble (badX b).length 200=true->(badX b++59::v).length<=k+201:=fun hl=>by
  rw [Ac,List.length_cons,Nat.add_comm];show v.length+1+_<=k+1+200;exact Aq (Au g.1) (Ad hl)
 rcases hb with rfl | rfl | rfl
 ·exact ⟨l rfl,.inr ⟨bad8 v,rfl⟩⟩
 ·refine ⟨l rfl,?_⟩;obtain ⟨_,⟨T,t1,_⟩ | ⟨_,t2⟩⟩:=g
  ·have e:=Ab (Ab bad_all2).1;have i1:=(lexP_ok (v:=v) 300 (badX 9++[59]) _ (get_ok (d:=[]) (Ab e.1).2)).1 _ t1.semi;rw [app1] at i1;refine .inl ⟨_,i1,?_⟩;have:=loc_stmt dS (bad9K++[.word wSemi]) (T++[.fin]);rw [isErr_eq e.2,app1] at this;unfold RW;rw [Ae];show (pStmt dS (bad9K++.word wSemi::(T++[.fin]))).bind _=_;rw [show pStmt dS (bad9K++.word wSemi::(T++[.fin]))=.err from this]; rfl
  ·cases t2
 ·exact ⟨l rfl,.inr ⟨bad11 v h,rfl⟩⟩
theorem segT_app:∀ (us vs:List Tx) (tl:Tx),segT (us++vs) tl=segT us (segT vs tl)
 | [],vs,tl=>rfl
 | u::us,vs,tl=>congrArg (u++59::·) (segT_app us vs tl)
theorem Pcs.join {us vs:List Tx}{ss rs:List St}(h:Pcs us ss)(h':Pcs vs rs):Pcs (us++vs) (ss++rs):=fun {n b v m} g=>by
 have:=h (h' g);have e:pref ss (pref rs m)=pref (ss++rs) m:=by
  cases m with
  | ok q=>exact congrArg R.ok (Prod.ext (Ae ss rs q.1).symm rfl)
  | err=>rfl
  | bot=>rfl
 rw [e,← segT_app,Nat.add_assoc,Nat.add_assoc,Nat.add_comm rs.length,← Ac,← Nat.mul_add,Nat.add_comm vs.length,← Ac] at this;exact this
theorem tl_125:memN 125 tl0=false:=by decide +kernel
theorem evalBad2 {i j b:Nat}(hi:i<9)(hj:j<9)(hb:b<12)(A C:List Ch)(hA:∀ h∈A,h.ok')(hC:∀ h∈C,h.ok')(hl:A.length+C.length=3)(fu:Int) :
  Ev3 (progT i (yX j::(A.map Ch.text++badX b::C.map Ch.text))) fu Option.none:=by
 have pA:Pcs (yX j::A.map Ch.text) ([sY (numT j)]++A.flatMap Ch.tree):=Pcs.cons (num_at hj).2 (ch_pcs A hA);have pC:Pcs (C.map Ch.text) (C.flatMap Ch.tree):=ch_pcs C hC;obtain ⟨f1,f2,f3⟩:=flat_ok A hA;obtain ⟨g1,g2,g3⟩:=flat_ok C hC;have hAC:(A.flatMap Ch.tree).length+(C.flatMap Ch.tree).length<=6:=by
  refine Aa (Aq f3 g3) ?_;rw [← Nat.mul_add,hl]; decide
 have cs:badC b=true∨b=8∨b=9∨b=11:=by
  rcases Bool.or_eq_true_iff.mp (allN_at bad_all hb) with h | h
  ·rcases Bool.or_eq_true_iff.mp h with h | h
   ·rcases Bool.or_eq_true_iff.mp h with h | h
    ·exact .inl h
    ·exact .inr (.inl (As h))
   ·exact .inr (.inr (.inl (As h)))
  ·exact .inr (.inr (.inr (As h)))
 rcases cs with h | h
 ·have h:=Ab h;have h1:=Ab h.1;have h2:=Ab h1.1;have h3:=Ab h2.1;have pcs:Pcs ((yX j::A.map Ch.text)++(badX b::C.map Ch.text)) ([sY (numT j)]++A.flatMap Ch.tree++(badS b++C.flatMap Ch.tree)):=pA.join (Pcs.cons (Pc.of (get_ok (d:=[]) h3.1) h3.2) pC);have hlen:([sY (numT j)]++A.flatMap Ch.tree++(badS b++C.flatMap Ch.tree)).length<=90:=by
   rw [Ac,Ac (as:=badS b)];have:=Ad h.2;show ((A.flatMap Ch.tree).length+1)+((badS b).length+(C.flatMap Ch.tree).length)<=90;lia
  refine Ev3.noComp (parse_prog hd0_ok hi pcs ?_ hlen) (comp_bad (all_app (all_app (Bool.and_eq_true_iff.mpr ⟨(num_st j).2,rfl⟩) f1) (all_app h2.2 g1)) hlen ?_)
  ·show ((A.map Ch.text)++(badX b::C.map Ch.text)).length+1<=9;rw [Ac,Ah,List.length_cons,Ah,← Nat.add_assoc,hl]; decide
  ·rw [List.all_append,List.all_append (xs:=badS b),not_true h1.2]; exact Bool.and_false _
 ·refine Ev3.noParse ?_;have n5:memN 125 (segT (C.map Ch.text) tl0)=false:=seg_125 tl_125 _ fun u hu=>by
   obtain ⟨g,hg,rfl⟩:=List.mem_map.mp hu;exact ch_125 (hC g hg)
  have hL:([sX (numT i)]++([sY (numT j)]++A.flatMap Ch.tree)).length<=gasL:=Aa (Al (Aa (Af _ _) hAC) 2:(A.flatMap Ch.tree).length+2<=6+2) (by decide);have x1:=(Pcs.cons (num_at hi).1 pA) (bad_FE (m:=gasL-([sX (numT i)]++([sY (numT j)]++A.flatMap Ch.tree)).length) h n5 (pC tl_FE));rw [Nat.sub_add_cancel hL] at x1;have x2:FE gasL _ (segT (xX i::yX j::A.map Ch.text) (segT (badX b::C.map Ch.text) tl0)) .err:=x1;rw [← segT_app] at x2;refine (hd0_ok.par (w:=120::32::58::61::32::(numX i++59::segT (yX j::(A.map Ch.text++badX b::C.map Ch.text)) tl0)) x2 ?_).trans rfl;refine Nat.ble_eq_true_of_le ?_;show 100+201*(C.map Ch.text).length+201+201*((A.map Ch.text).length+2)<=3200;rw [Ah,Ah];lia
noncomputable def nsB (a:Tx):Tx->Bool
 | []=>true
 | c::l=>!(pre (c::l) a&&Nat.blt (c::l).length a.length)&&nsB a l
theorem pre_app:∀ (a u v:Tx),(pre u a&&Nat.blt u.length a.length)=false->pre a (u++v)=pre a u
 | [],u,v,_=>by cases u<;>cases v<;>rfl
 | x::a,[],v,h=>by cases h
 | x::a,y::u,v,h=>by
  show (Nat.beq x y&&pre a (u++v))=(Nat.beq x y&&pre a u);cases hb:Nat.beq x y with
  | false=>rfl
  | true=>
   have h:(Nat.beq y x&&pre u a&&Nat.blt u.length a.length)=false:=h;rw [As hb,Nat.beq_refl] at h;exact congrArg (true&&·) (pre_app a u v h)
theorem pre_len:∀ {a u:Tx},pre a u=true->a.length<=u.length
 | [],u,_=>Nat.zero_le _
 | x::a,[],h=>by cases h
 | x::a,y::u,h=>Au (pre_len (Ab h).2)
theorem replS0 (a b:Tx)(c:Nat)(l:Tx):replS a b 0 (c::l)=(match pre a (c::l) with
   | true=>b++replS a b (a.length-1) l
   | false=>c::replS a b 0 l):=rfl
theorem repl_app (a b v:Tx):∀ (u:Tx) (k:Nat),k<=u.length->nsB a u=true->replS a b k (u++v)=replS a b k u++replS a b 0 v
 | [],0,_,_=>rfl
 | c::u,0,_,hn=>by
  have hn:=Ab hn;rw [List.cons_append,replS0,replS0,← List.cons_append,pre_app a (c::u) v (not_true hn.1)];cases hp:pre a (c::u) with
  | true=>
   show b++replS a b (a.length-1) (u++v)=_;rw [repl_app a b v u _ (Nat.sub_le_of_le_add (pre_len hp)) hn.2];exact (Ae ..).symm
  | false=>
   show c::replS a b 0 (u++v)=_;rw [repl_app a b v u 0 (Nat.zero_le _) hn.2]; rfl
 | c::u,k+1,hk,hn=>repl_app a b v u k (Am hk) (Ab hn).2
def Rp (a b u u':Tx):Prop:=nsB a u=true∧replTx a b u=u'
theorem Rp.app {a b u u' v w:Tx}(h:Rp a b u u')(hv:replTx a b v=w):replTx a b (u++v)=u'++w:=
 (repl_app a b v u 0 (Nat.zero_le _) h.1).trans (congr (congrArg (·++·) h.2) hv)
noncomputable def rpC (a b u u':Tx):Bool:=nsB a u&&txEq (replTx a b u) u'
theorem Rp.of {a b u u':Tx}(h:rpC a b u u'=true):Rp a b u u':=⟨(Ab h).1,txEq_of (Ab h).2⟩
theorem ns59:∀ (u a:Tx),memN 59 a.dropLast=false->(pre (u++[59]) a&&Nat.blt (u++[59]).length a.length)=false
 | u,[],_=>by cases u<;>rfl
 | [],[x],_=>Bool.and_false _
 | c::u,[x],_=>Bool.and_false _
 | [],x::y::a,h=>by
  show (Nat.beq 59 x&&_&&_)=false;rw [(Bool.or_eq_false_iff.mp h).1]; rfl
 | c::u,x::y::a,h=>by
  show (Nat.beq c x&&pre (u++[59]) (y::a)&&Nat.blt (u++[59]).length (y::a).length)=false;rw [Bool.and_assoc,ns59 u (y::a) (Bool.or_eq_false_iff.mp h).2]; exact Bool.and_false _
theorem nsB59 {a:Tx}(h:memN 59 a.dropLast=false):∀ u:Tx,nsB a (u++[59])=true
 | []=>by
  show (!(_&&_)&&true)=true;rw [show (pre [59] a&&Nat.blt [59].length a.length)=false from ns59 [] a h]; rfl
 | c::u=>by
  show (!(pre (c::u++[59]) a&&Nat.blt (c::u++[59]).length a.length)&&nsB a (u++[59]))=true;rw [ns59 (c::u) a h,nsB59 h u]; rfl
theorem pre_sub {w t:Tx}:∀ (l:Tx),pre w l=false->pre (w++t) l=false:=by
 induction w with
 | nil=>intro l h; cases l<;>cases h
 | cons x w ih=>
  intro l h;cases l with
  | nil=>rfl
  | cons y l=>
   show (Nat.beq x y&&pre (w++t) l)=false;have h:(Nat.beq x y&&pre w l)=false:=h;revert h;cases Nat.beq x y with
   | false=>exact id
   | true=>exact ih l
theorem occ_pre {ws:List Tx}{w t:Tx}(hw:w∈ws):∀ (s l:Tx),noOcc ws l=true->w≠[]->pre (s++(w++t)) l=false
 | [],[],_,hn=>by
  cases w with
  | nil=>exact absurd rfl hn
  | cons x w=>rfl
 | [],c::l,h,_=>pre_sub (w:=w) _ ((noOcc_at h).1 _ hw)
 | x::s,[],_,_=>rfl
 | x::s,c::l,h,hn=>by
  show (Nat.beq x c&&pre (s++(w++t)) l)=false;rw [occ_pre hw s l (noOcc_at h).2 hn]; exact Bool.and_false _
theorem occ_same {ws:List Tx}{w:Tx}(s t b:Tx)(hw:w∈ws)(hn:w≠[]):∀ u:Tx,noOcc ws u=true->replS (s++(w++t)) b 0 u=u
 | [],_=>rfl
 | c::u,h=>by
  rw [replS0,occ_pre hw s (c::u) h hn];exact congrArg (c::·) (occ_same s t b hw hn u (noOcc_at h).2)
noncomputable def tOld (b:Nat):Tx:=(lTurned.getD b ([],[])).1
noncomputable def tNew (b:Nat):Tx:=(lTurned.getD b ([],[])).2
noncomputable def eP (b e:Nat):Nat:=match Nat.beq b 3&&Nat.beq e 9 with
 | true=>10
 | false=>e
noncomputable def Ch.turn (b:Nat)(h:Ch):Ch:=⟨h.k,eP b h.e,h.c,h.u,h.n⟩
theorem turn_ok {b:Nat}{h:Ch}(ok:h.ok):(h.turn b).ok':=⟨ok.1,by
 show eP b h.e<11;unfold eP;cases Nat.beq b 3&&Nat.beq h.e 9
 ·exact Nat.lt_succ_of_lt ok.2.1
 ·exact (by decide:10<11),ok.2.2⟩
theorem same {b:Nat}{ws:List Tx}{w:Tx}{u:Tx}(s t:Tx)(hm:w∈ws)(hn:txEq w []=false)(h:noOcc ws (u++[59])=true)(e:tOld b=s++(w++t))(h9:memN 59 (tOld b).dropLast=false):Rp (tOld b) (tNew b) (u++[59]) (u++[59]):=
 ⟨nsB59 h9 _,by unfold replTx; rw [e]; exact occ_same s t _ hm (fun q=>by rw [q] at hn; cases hn) _ h⟩
theorem rp_same {b:Nat}(hb:b<10)(h3:Nat.beq b 3=false){ws:List Tx}{u:Tx}(hm:∀ {w},w∈pats->w∈ws)(h:noOcc ws (u++[59])=true):Rp (tOld b) (tNew b) (u++[59]) (u++[59]):=by
 have p1:=hm (.tail _ (.head _)); have p2:=hm (.tail _ (.tail _ (.head _))); have p3:=hm (.tail _ (.tail _ (.tail _ (.head _)))); have p4:=hm (.tail _ (.tail _ (.tail _ (.tail _ (.head _))))); have p5:=hm (.tail _ (.tail _ (.tail _ (.tail _ (.tail _ (.head _))))));revert h3;exact lt10 (P:=fun b=>Nat.beq b 3=false->Rp (tOld b) (tNew b) (u++[59]) (u++[59])) (fun _=>same [] [59] p1 rfl h rfl rfl) (fun _=>same [] [59] p1 rfl h rfl rfl) (fun _=>same [121,32] [105,110,116,101,103,101,114] p2 rfl h rfl rfl) (fun h=>by cases h) (fun _=>same [] [114,32,122] p3 rfl h rfl rfl) (fun _=>same [40] [114,32,117,44,32,120,41] p3 rfl h rfl rfl)
  (fun _=>same [98,101,103,105,110] [59] p4 rfl h rfl rfl) (fun _=>same [101,110] [] p5 rfl h rfl rfl) (fun _=>same [101,110] [] p5 rfl h rfl rfl) (fun _=>same [101,110] [] p5 rfl h rfl rfl) hb
set_option maxHeartbeats 0 in
theorem can_3:cans.all (fun h=>!(Nat.beq h.e 9)||rpC (tOld 3) (tNew 3) (h.text++[59]) ((h.turn 3).text++[59]))=true:=by decide +kernel
theorem relv_relv (m k i:Nat):relv m k (relv m k i)=relv m k i:=by unfold relv; cases memN m (at? lSteps k)<;>rfl
theorem turn_can (h:Ch):(h.can.turn 3).can=(h.turn 3).can:=by
 show (⟨h.k,relv 69 h.k (eP 3 (relv 69 h.k h.e)),relv 67 h.k (relv 67 h.k h.c),relv 84 h.k (relv 84 h.k h.u),h.n⟩:Ch)=⟨h.k,relv 69 h.k (eP 3 h.e),relv 67 h.k h.c,relv 84 h.k h.u,h.n⟩;rw [relv_relv,relv_relv];unfold relv;cases memN 69 (at? lSteps h.k)<;>rfl
theorem turn_not {h:Ch}(hf:Nat.beq h.can.e 9=false):(h.turn 3).can=h.can:=by
 revert hf;show Nat.beq (relv 69 h.k h.e) 9=false->(⟨h.k,relv 69 h.k (eP 3 h.e),relv 67 h.k h.c,relv 84 h.k h.u,h.n⟩:Ch)=⟨h.k,relv 69 h.k h.e,relv 67 h.k h.c,relv 84 h.k h.u,h.n⟩;unfold relv eP;cases memN 69 (at? lSteps h.k) with
 | false=>exact fun _=>rfl
 | true=>
  show Nat.beq h.e 9=false->_;intro hf;rw [hf]; rfl
theorem can_lt {h:Ch}(ok:h.ok):h.can.ok:=by
 have r:∀ {m k i n:Nat},i<n->relv m k i<n:=fun {m k i n} hi=>by
  unfold relv;cases memN m (at? lSteps k)
  ·exact Ao (Nat.zero_le _) hi
  ·exact hi
 exact ⟨ok.1,r ok.2.1,r ok.2.2.1,r ok.2.2.2.1,ok.2.2.2.2⟩
theorem rpStep {b:Nat}(hb:b<10){h:Ch}(ok:h.ok):Rp (tOld b) (tNew b) (h.text++[59]) ((h.turn b).text++[59]):=by
 have ck:=ch_chk ok.ok';cases h3:Nat.beq b 3 with
 | false=>
  have e:h.turn b=h:=by unfold Ch.turn eP; rw [h3]; rfl
  rw [e];exact rp_same hb h3 (pats_in _) ck
 | true=>
  have hb:=As h3;subst hb;cases h9:Nat.beq h.can.e 9 with
  | false=>
   rw [← can_text (turn_ok (b:=3) ok),turn_not h9,can_text ok.ok'];unfold patE at ck;rw [h9] at ck;exact same [] [] (.head _) rfl ck rfl rfl
  | true=>
   have t:=List.all_eq_true.mp can_3 _ (can_mem ok.ok');rw [h9,← can_text (turn_ok (can_lt ok)),turn_can,can_text (turn_ok ok),can_text ok.ok'] at t;exact Rp.of t
theorem rpSegs {a b tl tl':Tx}(ht:replTx a b tl=tl'){f g:Ch->Tx}:∀ (hs:List Ch),(∀ h∈hs,Rp a b (f h++[59]) (g h++[59]))->replTx a b (segT (hs.map f) tl)=segT (hs.map g) tl'
 | [],_=>ht
 | h::hs,hp=>by
  have:=(hp h (.head _)).app (rpSegs ht hs fun q hq=>hp q (.tail _ hq));rw [app1,app1] at this;exact this
noncomputable def tHead (b:Nat):Tx:=replTx (tOld b) (tNew b) lHead
noncomputable def tTl (b:Nat):Tx:=replTx (tOld b) (tNew b) tl0
noncomputable def hdB (b:Nat):Tx:=(tHead b).take ((tHead b).length-6)
theorem head_all:allN (fun b=>nsB (tOld b) lHead&&txEq (tHead b) (hdB b++[32,120,32,58,61,32])) 10=true:=by decide +kernel
theorem num_chk:allN (fun i=>noOcc ([91,49,93]::pats) (numX i++[59])&&noOcc ([91,49,93]::pats) (yX i++[59])) 9=true:=by decide +kernel
theorem rpNum {b:Nat}(hb:b<10){u:Tx}(h:noOcc ([91,49,93]::pats) (u++[59])=true):Rp (tOld b) (tNew b) (u++[59]) (u++[59]):=by
 cases h3:Nat.beq b 3 with
 | false=>exact rp_same hb h3 (fun hm=>.tail _ hm) h
 | true=>
  have hb:=As h3;subst hb;exact same [] [] (.head _) rfl h rfl rfl
theorem turn_all {b:Nat}(hb:b<10){i j:Nat}(hi:i<9)(hj:j<9)(hs:List Ch)(hok:∀ h∈hs,h.ok) :
  replTx (tOld b) (tNew b) (progT i (yX j::hs.map Ch.text))=hdB b++segT (xX i::yX j::(hs.map (Ch.turn b)).map Ch.text) (tTl b):=by
 have c1:=Ab (allN_at head_all hb);have e1:tHead b=hdB b++[32,120,32,58,61,32]:=txEq_of c1.2;have sg:=rpSegs (tl:=tl0) (b:=tNew b) (a:=tOld b) rfl (f:=Ch.text) (g:=fun h=>(h.turn b).text) hs fun h hh=>rpStep hb (hok h hh);have sy:=(rpNum hb (Ab (allN_at num_chk hj)).2).app sg;have sx:=(rpNum hb (Ab (allN_at num_chk hi)).1).app sy;have sh:=(show Rp (tOld b) (tNew b) lHead (tHead b) from ⟨c1.1,rfl⟩).app sx;rw [head_eq] at sh;rw [e1,app1,app1,app1,app1,Ae,Ae (hdB b)] at sh;rw [List.map_map];exact sh
noncomputable def PP (b:Nat):R (Bl×List Tok):=pProcs (pBlock 5) gasL (hV (hdB b)).2
noncomputable def psB (b:Nat):Bl:=(get (.nil,[]) (PP b)).1
noncomputable def errBlk (vs:List (Tx×Option Nat))(ps:Bl):Bool:=match noDup [] (fst1 ([]:List (Tx×Bool))++fst1 vs++ps.names) with
 | false=>true
 | true=>match vEnt [] 3 vs with
  | .err=>true
  | .ok w=>isErr (cProcs [] w.1 (0+1) ps)
  | .bot=>false
noncomputable def ck26 (b:Nat):Bool:=hdOk (hdB b)&&isOk (PP b)&&decide ((get (.nil,[]) (PP b)).2.map tokC=[.word sBegin].map tokC)&&hdC (hdB b) (psB b)&&errBlk (hV (hdB b)).1 (psB b)&&txEq (tTl b) tl0
noncomputable def badHead:List Tok->Bool
 | .word w::.int _::_=>txEq w wProgram
 | .word w::.name _::.word v::_=>txEq w wProgram&&!txEq v wSemi
 | _=>false
noncomputable def ck01 (b:Nat):Bool:=isOk (lexP 32 600 (hdB b++[32]))&&badHead (toks (hdB b))&&Nat.ble (hdB b).length 700&&txEq (tTl b) tl0
noncomputable def tKB (b:Nat):List Tok:=get [] (lexF 200 (tTl b))
noncomputable def ck79 (b:Nat):Bool:=txEq (hdB b) hd0&&isOk (lexF 200 (tTl b))&&isOk (RW 9 (tKB b++[.fin]))&&Nat.ble (tTl b).length 100
noncomputable def ckB (b:Nat):Bool:=match Nat.blt b 2 with
 | true=>ck01 b
 | false=>match Nat.blt b 7 with
  | true=>ck26 b
  | false=>ck79 b
theorem ck_all:allN ckB 10=true:=by decide +kernel
theorem end7 (a:Tx×Bl):(RW 9 (tKB 7++[.fin])).bind (fun q=>pWant wEnd q.2 fun r=>pWant wDot r (fin? a))=.err:=by kernel_rfl
theorem end8 (a:Tx×Bl):(RW 9 (tKB 8++[.fin])).bind (fun q=>pWant wEnd q.2 fun r=>pWant wDot r (fin? a))=.err:=by kernel_rfl
theorem end9 (a:Tx×Bl):(RW 9 (tKB 9++[.fin])).bind (fun q=>pWant wEnd q.2 fun r=>pWant wDot r (fin? a))=.err:=by kernel_rfl
theorem bad_block {vs:List (Tx×Option Nat)}{ps:Bl}(h:errBlk vs ps=true)(ss:St):cBlock [] 0 [] (.mk vs ps ss)=.err:=by
 show (match noDup [] (fst1 ([]:List (Tx×Bool))++fst1 vs++ps.names) with
  | false=>.err
  | true=>(vEnt [] 3 vs).bind fun w=>
   (cProcs [] w.1 (0+1) ps).bind fun c=>
   (cStmt (c.2::[]) w.2 (0+1+c.1.length+(intIf (w.2-3)).length) ss).bind fun d=>.ok ([In.jmp (0+1+c.1.length)]++c.1++intIf (w.2-3)++d++[.ret]):R (List In))=_
 unfold errBlk at h;revert h;cases noDup [] (fst1 ([]:List (Tx×Bool))++fst1 vs++ps.names) with
 | false=>exact fun _=>rfl
 | true=>
  show (match vEnt [] 3 vs with
   | .err=>true
   | .ok w=>isErr (cProcs [] w.1 (0+1) ps)
   | .bot=>false)=true->(vEnt [] 3 vs).bind _=_
  cases vEnt [] 3 vs with
  | err=>exact fun _=>rfl
  | bot=>intro h; cases h
  | ok w=>
   intro h;show (cProcs [] w.1 (0+1) ps).bind _=_;rw [isErr_eq h]; rfl
theorem badHead_err:∀ {K:List Tok},badHead K=true->∀ z:List Tok,pProgram (K++z)=.err
 | .word w::.int n::r,h,z=>by rw [txEq_of h]; rfl
 | .word w::.name x::.word v::r,h,z=>by
  have h:=Ab h;rw [txEq_of h.1];have e:∀ f:List Tok->R (Tx×Bl),pWant wSemi (.word v::(r++z)) f=.err:=fun f=>by
   show (match txEq v wSemi with
    | true=>f (r++z)
    | false=>R.err)=_
   rw [not_true h.2]
  exact Eq.trans (b:=pWant wSemi (.word v::(r++z)) fun r=>(pBlock dB r).bind fun b=>pWant wDot b.2 (fin? (x,b.1))) rfl (e _)
theorem repl_len {a b:Tx}(hb:b.length<=1):∀ (l:Tx) (k:Nat),(replS a b k l).length<=l.length
 | [],k=>by cases k<;>exact Aj 0
 | c::l,0=>by
  rw [replS0];cases pre a (c::l)
  ·exact Au (repl_len hb l 0)
  ·show (b++_).length<=l.length+1;rw [Ac,Nat.add_comm];exact Aq (repl_len hb l _) hb
 | c::l,k+1=>Nat.le_succ_of_le (repl_len hb l k)
noncomputable def hdN (b:Nat):Tx:=replTx (tOld b) (tNew b) hd0
theorem ck1011:(nsB (tOld 10) hd0&&nsB (tOld 11) hd0&&Nat.ble (tNew 10).length 1&&Nat.ble (tNew 11).length 1&&isOk (lexP 59 600 ((hdN 10).take 39))&&isOk (lexP 32 600 ((hdN 11).take 302))&&txEq (hdN 10) ((hdN 10).take 39++9::(hdN 10).drop 40)&&txEq (hdN 11) ((hdN 11).take 302++1635::(hdN 11).drop 303)&&Nat.ble (hdN 10).length 700&&Nat.ble (hdN 11).length 700)=true:=by decide +kernel
theorem err9 (v:Tx):lexC 9 v=.err:=by cases v<;>rfl
theorem err1635 (v:Tx):lexC 1635 v=.err:=by cases v<;>rfl
section
variable {i j:Nat}{hs:List Ch}{fu:Int}
theorem turned_pcs {b:Nat}(hj:j<9)(hok:∀ h∈hs,h.ok):Pcs (yX j::(hs.map (Ch.turn b)).map Ch.text) ([sY (numT j)]++(hs.map (Ch.turn b)).flatMap Ch.tree):=
 Pcs.cons (num_at hj).2 (ch_pcs _ fun g hg=>(List.mem_map.mp hg).elim fun h hh=>hh.2▸turn_ok (hok h hh.1))
theorem turned_ok {b:Nat}(hok:∀ h∈hs,h.ok)(hl:hs.length=3):((hs.map (Ch.turn b)).flatMap Ch.tree).all stOk=true∧((hs.map (Ch.turn b)).flatMap Ch.tree).length<=6:=by
 obtain ⟨f1,f2,f3⟩:=flat_ok (hs.map (Ch.turn b)) fun g hg=>(List.mem_map.mp hg).elim fun h hh=>hh.2▸turn_ok (hok h hh.1);rw [Ah,hl] at f3;exact ⟨f1,f3⟩
theorem us_len {b:Nat}(hl:hs.length=3):(yX j::(hs.map (Ch.turn b)).map Ch.text).length<=9:=by
 rw [List.length_cons,Ah,Ah,hl]; decide
theorem hd0_len:Nat.ble hd0.length 700=true:=hd0_ok.len
theorem ev3_26 {b:Nat}(h:ck26 b=true)(hi:i<9)(hj:j<9)(hok:∀ h∈hs,h.ok)(hl:hs.length=3):Ev3 (hdB b++segT (xX i::yX j::(hs.map (Ch.turn b)).map Ch.text) (tTl b)) fu Option.none:=by
 have h:=Ab h;have h1:=Ab h.1;have h2:=Ab h1.1;have h3:=Ab h2.1;have h4:=Ab h3.1;rw [show tTl b=tl0 from txEq_of h.2];have H:Hd (hdB b) (psB b):=⟨h4.1,(get_ok (d:=(.nil,[])) h4.2).trans (congrArg R.ok (Prod.ext rfl (tok_inj (Ax h3.2))))⟩;obtain ⟨f1,f3⟩:=turned_ok (b:=b) hok hl;have hlen:([sY (numT j)]++(hs.map (Ch.turn b)).flatMap Ch.tree).length<=90:=Aa (Au f3) (by decide);exact Ev3.noComp (parse_prog H hi (turned_pcs hj hok) (us_len hl) hlen) ((comp_eq (ss:=[sY (numT j)]++(hs.map (Ch.turn b)).flatMap Ch.tree) h2.2 (all_app (Bool.and_eq_true_iff.mpr ⟨(num_st j).2,rfl⟩) f1) hlen).trans (bad_block h1.2 _))
theorem b3200 {b:Nat}(hl:hs.length=3):Nat.ble (100+201*(xX i::yX j::(hs.map (Ch.turn b)).map Ch.text).length) 3200=true:=by
 rw [List.length_cons,List.length_cons,Ah,Ah,hl]; rfl
theorem ev3_01 {b:Nat}(h:ck01 b=true)(hi:i<9)(hj:j<9)(hok:∀ h∈hs,h.ok)(hl:hs.length=3):Ev3 (hdB b++segT (xX i::yX j::(hs.map (Ch.turn b)).map Ch.text) (tTl b)) fu Option.none:=by
 have h:=Ab h;have h1:=Ab h.1;have h2:=Ab h1.1;rw [show tTl b=tl0 from txEq_of h.2];have pcs:Pcs (xX i::yX j::(hs.map (Ch.turn b)).map Ch.text) ([sX (numT i)]++([sY (numT j)]++(hs.map (Ch.turn b)).flatMap Ch.tree)):=Pcs.cons (num_at hi).1 (turned_pcs hj hok);obtain ⟨lb,⟨T,t1,_⟩ | ⟨_,t2⟩⟩:=pcs tl_FE
 ·refine Ev3.noParse ?_;unfold parseT;have i1:=(lexP_ok (v:=120::32::58::61::32::(numX i++59::segT (yX j::(hs.map (Ch.turn b)).map Ch.text) tl0)) 600 (hdB b++[32]) _ (get_ok (d:=[]) h2.1)).1 T t1;rw [app1] at i1;show (lexT (hdB b++32::120::32::58::61::32::(numX i++59::segT (yX j::(hs.map (Ch.turn b)).map Ch.text) tl0))).bind pProgram=_;rw [lexT_ok i1 (gas_lt h1.2 lb (b3200 hl)),Ae];exact badHead_err h2.2 _
 ·cases t2
theorem ev3_79 {b:Nat}(h:ck79 b=true)(he:∀ a:Tx×Bl,(RW 9 (tKB b++[.fin])).bind (fun q=>pWant wEnd q.2 fun r=>pWant wDot r (fin? a))=.err)(hi:i<9)(hj:j<9)(hok:∀ h∈hs,h.ok)(hl:hs.length=3):Ev3 (hdB b++segT (xX i::yX j::(hs.map (Ch.turn b)).map Ch.text) (tTl b)) fu Option.none:=by
 have h:=Ab h;have h1:=Ab h.1;have h2:=Ab h1.1;rw [show hdB b=hd0 from txEq_of h2.1];have g:=get_ok (d:=([],[])) h1.2;generalize get ([],[]) (RW 9 (tKB b++[.fin]))=q at g;have fe:FE 9 100 (tTl b) (.ok q):=⟨Ad h.2,.inl ⟨_,lexF_ok 200 _ _ (get_ok (d:=[]) h2.2),g⟩⟩;have pcs:Pcs (xX i::yX j::(hs.map (Ch.turn b)).map Ch.text) ([sX (numT i)]++([sY (numT j)]++(hs.map (Ch.turn b)).flatMap Ch.tree)):=Pcs.cons (num_at hi).1 (turned_pcs hj hok);have hL:([sX (numT i)]++([sY (numT j)]++(hs.map (Ch.turn b)).flatMap Ch.tree)).length<=390:=Aa (Al (turned_ok (b:=b) hok hl).2 2) (by decide);have h9:9<=gasL-([sX (numT i)]++([sY (numT j)]++(hs.map (Ch.turn b)).flatMap Ch.tree)).length:=Nat.le_sub_of_add_le (Aa (Ak hL 9) (by decide));have x1:=pcs (fe.ge h9);rw [Nat.sub_add_cancel (Aa hL (by decide))] at x1;refine Ev3.noParse ((hd0_ok.par (w:=120::32::58::61::32::(numX i++59::segT (yX j::(hs.map (Ch.turn b)).map Ch.text) (tTl b))) x1 (b3200 hl)).trans ?_);have he:=he ([112,49],.mk (hV hd0).1 psC (mkRow (sX (numT i)) (([sY (numT j)]++(hs.map (Ch.turn b)).flatMap Ch.tree)++q.1)));rw [g] at he;exact he
theorem evErr {b:Nat}{p q:Tx}{c s g:Nat}(hx:LexErr (s::c::(q++replTx (tOld b) (tNew b) (segT (xX i::yX j::hs.map Ch.text) tl0))))(hp:isOk (lexP s g p)=true)(hn:nsB (tOld b) hd0=true)(he:txEq (hdN b) (p++c::q)=true)(hb:Nat.ble (tNew b).length 1=true)(hL:Nat.ble (hdN b).length 700=true)(hi:i<9)(hj:j<9)(hok:∀ h∈hs,h.ok)(hl:hs.length=3):Ev3 (replTx (tOld b) (tNew b) (progT i (yX j::hs.map Ch.text))) fu Option.none:=by
 have e:replTx (tOld b) (tNew b) (progT i (yX j::hs.map Ch.text))=hdN b++replTx (tOld b) (tNew b) (segT (xX i::yX j::hs.map Ch.text) tl0):=(show Rp (tOld b) (tNew b) hd0 (hdN b) from ⟨hn,rfl⟩).app rfl;have pcs:Pcs (xX i::yX j::hs.map Ch.text) ([sX (numT i)]++([sY (numT j)]++hs.flatMap Ch.tree)):=Pcs.cons (num_at hi).1 (Pcs.cons (num_at hj).2 (ch_pcs hs fun h hh=>(hok h hh).ok'));have lb:=(pcs tl_FE).1;refine Ev3.noParse ?_;rw [e];unfold parseT;have i1:=(lexP_ok (v:=c::(q++replTx (tOld b) (tNew b) (segT (xX i::yX j::hs.map Ch.text) tl0))) g p _ (get_ok (d:=[]) hp)).2 hx;rw [← List.cons_append,← Ae,← txEq_of he] at i1;rw [lexT_err i1 (gas_lt hL (Aa (repl_len (Ad hb) _ 0) lb) (by rw [List.length_cons,List.length_cons,Ah,hl]; rfl))]; rfl
theorem evalBad3 {b:Nat}(hb:b<12)(hi:i<9)(hj:j<9)(hok:∀ h∈hs,h.ok)(hl:hs.length=3):Ev3 (replTx (tOld b) (tNew b) (progT i (yX j::hs.map Ch.text))) fu Option.none:=by
 have c:=ck1011;have c:=Ab c; have L11:=c.2;have c:=Ab c.1; have L10:=c.2;have c:=Ab c.1; have E11:=c.2;have c:=Ab c.1; have E10:=c.2;have c:=Ab c.1; have P11:=c.2;have c:=Ab c.1; have P10:=c.2;have c:=Ab c.1; have N11:=c.2;have c:=Ab c.1; have N10:=c.2;have c:=Ab c.1;rcases Nat.lt_succ_iff_lt_or_eq.mp hb with hb | rfl
 ·rcases Nat.lt_succ_iff_lt_or_eq.mp hb with hb | rfl
  ·rw [turn_all hb hi hj hs hok];have ck:=allN_at ck_all hb;revert ck;exact lt10 (P:=fun b=>ckB b=true->Ev3 (hdB b++segT (xX i::yX j::(hs.map (Ch.turn b)).map Ch.text) (tTl b)) fu Option.none) (fun ck=>ev3_01 ck hi hj hok hl) (fun ck=>ev3_01 ck hi hj hok hl) (fun ck=>ev3_26 ck hi hj hok hl) (fun ck=>ev3_26 ck hi hj hok hl) (fun ck=>ev3_26 ck hi hj hok hl) (fun ck=>ev3_26 ck hi hj hok hl) (fun ck=>ev3_26 ck hi hj hok hl) (fun ck=>ev3_79 ck end7 hi hj hok hl) (fun ck=>ev3_79 ck end8 hi hj hok hl) (fun ck=>ev3_79 ck end9 hi hj hok hl) hb
  ·exact evErr (LexErr.semi (LexErr.err (err9 _))) P10 c.1 E10 N10 L10 hi hj hok hl
 ·exact evErr (LexErr.space (LexErr.err (err1635 _))) P11 c.2 E11 N11 L11 hi hj hok hl
end
end Mine.P
namespace Mine
noncomputable def ir27:FDef:=⟨2,(.cons (.ifs (.cmp .eq (.v 1) (.int 0)) (.cons (.ret (.tuple (.cons .none (.cons .none .nil)))) .nil) .nil) (.cons (.set 2 (.bin .fdiv (.v 0) (.v 1))) (.cons (.ifs (.all (.cons (.cmp .lt (.v 2) (.int 0)) (.cons (.cmp .ne (.bin .mul (.v 2) (.v 1)) (.v 0)) .nil))) (.cons (.set 2 (.bin .add (.v 2) (.int 1))) .nil) .nil) (.cons (.ret (.tuple (.cons (.v 2) (.cons (.bin .sub (.v 0) (.bin .mul (.v 2) (.v 1))) .nil)))) .nil))))⟩
noncomputable def ir28:FDef:=⟨3,(.cons (.ifs (.cmp .is (.v 1) .none) (.cons (.ret (.list (.cons .none .nil))) .nil) .nil) (.cons (.ret (.compSel 2 1 (.v 0))) .nil))⟩
noncomputable def ir29:FDef:=⟨3,(.cons (.set 3 (.idx (.v 2) (.int 0))) (.cons (.set 4 (.idx (.v 2) (.int 1))) (.cons (.set 5 (.bin .add (.bin .add (.list (.cons .none .nil)) (.slice (.v 2) (.yes (.int 2)) .no)) (.list (.cons .none .nil)))) (.cons (.set 6 (.tuple (.cons (.tuple (.cons (.str [49,35]) (.cons (.bin .add (.int 10) (.v 1)) .nil))) (.cons (.tuple (.cons (.str [120,32,45,32,121,32,45,32,35]) (.cons (.bin .sub (.bin .sub (.v 3) (.v 4)) (.v 1)) .nil))) (.cons (.tuple (.cons (.str [120,32,45,32,40,35,32,45,32,121,41]) (.cons (.bin .sub (.v 3) (.bin .sub (.v 1) (.v 4))) .nil))) (.cons (.tuple (.cons (.str [35,32,43,32,120,32,42,32,45,121]) (.cons (.bin .sub (.v 1) (.bin .mul (.v 3) (.v 4))) .nil))) (.cons (.tuple (.cons (.str [45,88,32,45,32,45,45,35]) (.cons (.bin .sub (.neg (.v 3)) (.v 1)) .nil))) (.cons (.tuple (.cons (.str [120,32,100,105,118,32,40,121,32,45,32,35,41]) (.cons (.idx (.call 27 (.cons (.v 3) (.cons (.bin .sub (.v 4) (.v 1)) .nil))) (.int 0)) .nil))) (.cons (.tuple (.cons (.str [121,32,109,111,100,32,40,35,32,45,32,50,41]) (.cons (.idx (.call 27 (.cons (.v 4) (.cons (.bin .sub (.v 1) (.int 2)) .nil))) (.int 1)) .nil))) (.cons (.tuple (.cons (.str [97,91,35,32,45,32,49,93]) (.cons (.idx (.v 5) (.v 1)) .nil))) (.cons (.tuple (.cons (.str [40,120,32,43,32,55,41,32,42,32,121,32,100,105,118,32,51,32,42,32,50]) (.cons (.bin .mul (.idx (.call 27 (.cons (.bin .mul (.bin .add (.v 3) (.int 7)) (.v 4)) (.cons (.int 3) .nil))) (.int 0)) (.int 2)) .nil))) (.cons (.tuple (.cons (.str [120,32,109,111,100,32,51,32,45,32,97,91,49,93,32,43,32,121]) (.cons (.bin .add (.bin .sub (.idx (.call 27 (.cons (.v 3) (.cons (.int 3) .nil))) (.int 1)) (.idx (.v 2) (.int 3))) (.v 4)) .nil))) .nil)))))))))))) (.cons (.ret (.idx (.v 6) (.v 0))) .nil)))))⟩
noncomputable def ir30:FDef:=⟨3,(.cons (.set 3 (.idx (.v 2) (.int 0))) (.cons (.set 4 (.idx (.v 2) (.int 1))) (.cons (.set 5 (.tuple (.cons (.tuple (.cons (.str [120,32,61,32,121]) (.cons (.cmp .eq (.v 3) (.v 4)) .nil))) (.cons (.tuple (.cons (.str [120,32,60,62,32,35]) (.cons (.cmp .ne (.v 3) (.v 1)) .nil))) (.cons (.tuple (.cons (.str [120,32,60,32,121]) (.cons (.cmp .lt (.v 3) (.v 4)) .nil))) (.cons (.tuple (.cons (.str [89,32,60,61,32,35]) (.cons (.cmp .le (.v 4) (.v 1)) .nil))) (.cons (.tuple (.cons (.str [120,32,62,32,121]) (.cons (.cmp .gt (.v 3) (.v 4)) .nil))) (.cons (.tuple (.cons (.str [120,32,62,61,32,35]) (.cons (.cmp .ge (.v 3) (.v 1)) .nil))) (.cons (.tuple (.cons (.str [111,100,100,40,120,32,45,32,35,41]) (.cons (.cmp .eq (.bin .mod (.bin .sub (.v 3) (.v 1)) (.int 2)) (.int 1)) .nil))) .nil))))))))) (.cons (.ret (.idx (.v 5) (.v 0))) .nil))))⟩
noncomputable def ir31z0:Ss:=(.cons (.ret (.tuple (.cons (.v 12) (.cons (.v 3) (.cons (.v 14) (.cons (.v 15) .nil)))))) .nil)
noncomputable def ir31t0:Ss:=(.cons (.set 16 (.bi .max (.cons (.int 0) (.cons (.bin .add (.bin .sub (.v 2) (.v 13)) (.int 1)) .nil)))) (.cons (.set 3 (.call 28 (.cons (.v 3) (.cons (.int 1) (.cons (.bin .sub (.v 2) (.v 16)) .nil))))) (.cons (.set 15 (.bin .add (.v 16) (.int 1))) .nil)))
noncomputable def ir31t1:Ss:=(.cons (.set 15 (.bi .max (.cons (.int 1) (.cons (.bin .sub (.v 2) (.int 1)) .nil)))) (.cons (.set 3 (.bin .add (.list (.cons (.bin .add (.v 4) (.bi .sum (.cons (.bi .range (.cons (.bin .sub (.v 2) (.v 15)) (.cons (.v 2) .nil))) .nil))) (.cons (.bin .sub (.v 2) (.v 15)) .nil))) (.slice (.v 3) (.yes (.int 2)) .no))) .nil))
noncomputable def ir31f0:Ss:=(.cons (.set 4 (.bin .add (.v 4) (.v 17))) (.cons (.set 5 (.bin .mul (.v 17) (.int 2))) (.cons (.set 15 (.bin .add (.v 15) (.int 1))) .nil)))
noncomputable def ir31t2:Ss:=(.cons (.set 15 (.int 1)) (.cons (.for1 17 (.bi .range (.cons (.bin .sub (.v 2) (.int 1)) (.cons (.bin .add (.v 13) (.int 1)) .nil))) ir31f0) (.cons (.set 3 (.bin .add (.list (.cons (.v 4) (.cons (.v 5) .nil))) (.slice (.v 3) (.yes (.int 2)) .no))) .nil)))
noncomputable def ir31f1:Ss:=(.cons (.expr (.bm (.v 14) .append (.cons (.bin .add (.bin .mul (.v 17) (.int 9)) (.v 18)) .nil))) (.cons (.set 5 (.v 18)) .nil))
noncomputable def ir31f2:Ss:=(.cons (.for1 18 (.bi .range (.cons (.v 2) (.cons (.bin .sub (.v 17) (.int 1)) (.cons (.neg (.int 1)) .nil)))) ir31f1) .nil)
noncomputable def ir31t3:Ss:=(.cons (.for1 17 (.tuple (.cons (.int 1) (.cons (.int 2) .nil))) ir31f2) (.cons (.set 3 (.bin .add (.list (.cons (.int 2) (.cons (.v 5) .nil))) (.slice (.v 3) (.yes (.int 2)) .no))) (.cons (.set 15 (.bin .add (.int 5) (.bi .len (.cons (.v 14) .nil)))) .nil)))
noncomputable def ir31f3:Ss:=(.cons (.set 3 (.call 28 (.cons (.v 3) (.cons (.v 11) (.cons (.bin .sub (.bin .add (.bin .mul (.idx (.v 3) (.v 11)) (.int 2)) (.v 20)) (.idx (.v 3) (.int 1))) .nil))))) .nil)
noncomputable def ir31t4:Ss:=(.cons (.set 19 (.bi .range (.cons (.bin .sub (.v 2) (.int 2)) (.cons (.bin .sub (.bi .min (.cons (.bin .sub (.v 2) (.int 2)) (.cons (.int 0) .nil))) (.int 1)) (.cons (.neg (.int 1)) .nil))))) (.cons (.for1 20 (.v 19) ir31f3) (.cons (.set 3 (.call 28 (.cons (.v 3) (.cons (.v 11) (.cons (.bin .add (.idx (.v 3) (.v 11)) (.bi .sum (.cons (.v 19) .nil))) .nil))))) (.cons (.set 15 (.bin .mul (.int 2) (.bi .len (.cons (.v 19) .nil)))) .nil))))
noncomputable def ir31z1:Ss:=(.cons (.ifs (.cmp .eq (.v 0) (.int 0)) (.cons (.set 3 (.call 28 (.cons (.v 3) (.cons (.v 11) (.cons (.v 7) .nil))))) .nil) (.cons (.ifs (.cmp .eq (.v 0) (.int 1)) (.cons (.set 14 (.list (.cons (.v 7) .nil))) .nil) (.cons (.ifs (.cmp .eq (.v 0) (.int 2)) (.cons (.ifs (.v 9) (.cons (.set 14 (.list (.cons (.bin .sub (.int 2) (.bin .mod (.v 5) (.int 2))) .nil))) .nil) .nil) .nil) (.cons (.ifs (.cmp .eq (.v 0) (.int 3)) (.cons (.ifs (.v 9) (.cons (.set 3 (.call 28 (.cons (.v 3) (.cons (.int 0) (.cons (.v 7) .nil))))) .nil) (.cons (.set 3 (.call 28 (.cons (.v 3) (.cons (.int 1) (.cons (.v 2) .nil))))) .nil)) .nil) (.cons (.ifs (.cmp .eq (.v 0) (.int 4)) ir31t0 (.cons (.ifs (.cmp .eq (.v 0) (.int 5)) ir31t1 (.cons (.ifs (.cmp .eq (.v 0) (.int 6)) ir31t2 (.cons (.ifs (.cmp .eq (.v 0) (.int 7)) ir31t3 (.cons (.ifs (.cmp .is (.v 11) .none) (.cons (.set 3 (.list (.cons .none .nil))) .nil) (.cons (.ifs (.cmp .eq (.v 0) (.int 8)) ir31t4 (.cons (.ifs (.cmp .is (.v 7) .none) (.cons (.set 3 (.list (.cons .none .nil))) .nil) (.cons (.set 3 (.call 28 (.cons (.v 3) (.cons (.v 11) (.cons (.bin .sub (.idx (.v 3) (.v 11)) (.v 7)) .nil))))) (.cons (.set 15 (.int 3)) .nil))) .nil)) .nil)) .nil)) .nil)) .nil)) .nil)) .nil)) .nil)) .nil)) .nil)) ir31z0)
noncomputable def ir31:FDef:=⟨4,(.cons (.set 4 (.idx (.v 3) (.int 0))) (.cons (.set 5 (.idx (.v 3) (.int 1))) (.cons (.setT [6,7] (.call 29 (.cons (.bin .mod (.v 1) (.int 10)) (.cons (.v 2) (.cons (.v 3) .nil))))) (.cons (.setT [8,9] (.call 30 (.cons (.bin .mod (.v 1) (.int 7)) (.cons (.v 2) (.cons (.v 3) .nil))))) (.cons (.setT [10,11] (.idx (.tuple (.cons (.tuple (.cons (.str [120]) (.cons (.int 0) .nil))) (.cons (.tuple (.cons (.str [89]) (.cons (.int 1) .nil))) (.cons (.tuple (.cons (.str [97,91,35,32,45,32,49,93]) (.cons (.idx (.g 5) (.v 2)) .nil))) .nil)))) (.bin .mod (.v 1) (.int 3)))) (.cons (.set 12 (.bm (.bm (.bm (.bm (.idx (.g 6) (.v 0)) .replace (.cons (.str [69]) (.cons (.v 6) .nil))) .replace (.cons (.str [67]) (.cons (.v 8) .nil))) .replace (.cons (.str [84]) (.cons (.v 10) .nil))) .replace (.cons (.str [35]) (.cons (.bi .str (.cons (.v 2) .nil)) .nil)))) (.cons (.set 13 (.idx (.call 27 (.cons (.v 4) (.cons (.int 3) .nil))) (.int 1))) (.cons (.set 14 (.list .nil)) (.cons (.set 15 (.int 0)) ir31z1)))))))))⟩
noncomputable def ir32:FDef:=⟨2,(.cons (.tryVE (.cons (.set 2 (.call 26 (.cons (.v 0) (.cons (.v 1) .nil)))) .nil) 2 (.str [114,101,102,117,115,101,100])) (.cons (.ret (.v 2)) .nil))⟩
noncomputable def ir33f0:Ss:=(.cons (.ifs (.not (.cmp .is (.bi .type (.cons (.v 22) .nil)) (.g 2))) (.cons (.ret (.bool false)) .nil) .nil) .nil)
noncomputable def ir33z0:Ss:=(.cons (.ifs (.cmp .ne (.v 21) (.v 20)) (.cons (.ret (.bool false)) .nil) .nil) (.cons (.ifs (.v 6) (.cons (.for1 22 (.v 21) ir33f0) .nil) .nil) (.cons (.ifs (.cmp .ne (.call 32 (.cons (.str [112,114,111,103,114,97,109,32,113,59,32,118,97,114,32,120,32,58,32,105,110,116,101,103,101,114,59,32,98,101,103,105,110,32,119,114,105,116,101,40,120,32,45,32,51,41,32,101,110,100,46]) (.cons (.int 0) .nil))) (.tuple (.cons (.neg (.int 3)) .nil))) (.cons (.ret (.bool false)) .nil) .nil) (.cons (.ret (.bool true)) .nil))))
noncomputable def ir33z1:Ss:=(.cons (.set 19 (.bin .sub (.bin .add (.v 5) (.bin .mod (.idx (.v 0) (.int 14)) (.int 3))) (.int 1))) (.cons (.ifs (.cmp .lt (.v 19) (.v 5)) (.cons (.set 6 (.bool false)) .nil) .nil) (.cons (.set 20 (.str [114,101,102,117,115,101,100])) (.cons (.ifs (.v 6) (.cons (.set 20 (.bi .tuple (.cons (.bin .add (.bin .add (.v 4) (.v 1)) (.list (.cons (.int 2) .nil))) .nil))) .nil) .nil) (.cons (.set 21 (.call 32 (.cons (.v 16) (.cons (.v 19) .nil)))) ir33z0)))))
noncomputable def ir33z2:Ss:=(.cons (.set 16 (.bin .add (.bin .add (.bin .add (.g 3) (.v 2)) (.bm (.str [59,32]) .join (.cons (.v 3) .nil))) (.g 4))) (.cons (.ifs (.cmp .eq (.v 14) (.int 3)) (.cons (.setT [17,18] (.idx (.g 8) (.bin .mod (.idx (.v 0) (.int 12)) (.int 12)))) (.cons (.set 16 (.bm (.v 16) .replace (.cons (.v 17) (.cons (.v 18) .nil)))) (.cons (.set 6 (.bool false)) .nil))) .nil) ir33z1))
noncomputable def ir33z3:Ss:=(.cons (.set 14 (.bin .mod (.idx (.v 0) (.int 11)) (.int 4))) (.cons (.ifs (.cmp .eq (.v 14) (.int 2)) (.cons (.set 15 (.bin .mod (.idx (.v 0) (.int 13)) (.int 3))) (.cons (.set 3 (.bin .add (.bin .add (.slice (.v 3) .no (.yes (.v 15))) (.list (.cons (.bin .add (.str [105,102,32,48,32,62,32,49,32,116,104,101,110,32]) (.idx (.g 7) (.bin .mod (.idx (.v 0) (.int 12)) (.int 12)))) .nil))) (.slice (.v 3) (.yes (.v 15)) .no))) (.cons (.set 6 (.bool false)) .nil))) .nil) ir33z2))
noncomputable def ir33f1:Ss:=(.cons (.setT [10,11,12,13] (.call 31 (.cons (.bin .mod (.v 7) (.int 10)) (.cons (.v 8) (.cons (.bin .mod (.v 9) (.int 5)) (.cons (.v 1) .nil)))))) (.cons (.set 3 (.bin .add (.v 3) (.list (.cons (.v 10) .nil)))) (.cons (.ifs (.any (.cons (.cmp .isin .none (.v 11)) (.cons (.cmp .isin .none (.v 12)) .nil))) (.cons (.set 6 (.bool false)) .nil) (.cons (.set 1 (.v 11)) (.cons (.set 4 (.bin .add (.v 4) (.v 12))) (.cons (.set 5 (.bin .add (.v 5) (.v 13))) .nil)))) .nil)))
noncomputable def ir33:FDef:=⟨1,(.cons (.ifs (.cmp .lt (.bi .len (.cons (.v 0) .nil)) (.int 15)) (.cons (.ret (.bool true)) .nil) .nil) (.cons (.set 1 (.list (.cons (.bin .sub (.bin .mod (.idx (.v 0) (.int 0)) (.int 9)) (.int 4)) (.cons (.bin .sub (.bin .mod (.idx (.v 0) (.int 1)) (.int 9)) (.int 4)) (.cons (.int 0) (.cons (.int 0) (.cons (.int 0) .nil))))))) (.cons (.set 2 (.bin .add (.bin .add (.bin .add (.bi .str (.cons (.idx (.v 1) (.int 0)) .nil)) (.str [59,32,121,32,58,61,32])) (.bi .str (.cons (.idx (.v 1) (.int 1)) .nil))) (.str [59,32]))) (.cons (.set 3 (.list .nil)) (.cons (.set 4 (.list .nil)) (.cons (.set 5 (.int 4)) (.cons (.set 6 (.bool true)) (.cons (.forT [7,8,9] (.tuple (.cons (.tuple (.cons (.idx (.v 0) (.int 2)) (.cons (.idx (.v 0) (.int 3)) (.cons (.idx (.v 0) (.int 4)) .nil)))) (.cons (.tuple (.cons (.idx (.v 0) (.int 5)) (.cons (.idx (.v 0) (.int 6)) (.cons (.idx (.v 0) (.int 7)) .nil)))) (.cons (.tuple (.cons (.idx (.v 0) (.int 8)) (.cons (.idx (.v 0) (.int 9)) (.cons (.idx (.v 0) (.int 10)) .nil)))) .nil)))) ir33f1) ir33z3))))))))⟩
noncomputable def irL:List FDef:=[ir0,ir1,ir2,ir3,ir4,ir5,ir6,ir7,ir8,ir9,ir10,ir11,ir12,ir13,ir14,ir15,ir16,ir17,ir18,ir19,ir20,ir21,ir22,ir23,ir24,ir25,ir26,ir27,ir28,ir29,ir30,ir31,ir32,ir33]
end Mine
namespace Mine.P
theorem fdiv_nat (m n:Nat):((m:Int)).fdiv (n:Int)=((m / n:Nat):Int):=by
 rw [Int.fdiv_eq_ediv_of_nonneg _ (Av n)]; rfl
theorem quo_tdiv (a b:Int):quo a b=a.tdiv b:=by
 unfold quo;rw [fdiv_nat];cases a with
 | ofNat m=>
  cases b with
  | ofNat n=>rw [decide_eq_false (Int.not_lt.mpr (Int.mul_nonneg (Av m) (Av n)):¬ Int.ofNat m*Int.ofNat n<0)]; rfl
  | negSucc n=>
   cases m with
   | zero=>rw [show Int.ofNat 0*Int.negSucc n=0 from Int.zero_mul _]; show Int.ofNat (0 / (n+1))=-Int.ofNat (0 / (n+1)); rw [Nat.zero_div]; rfl
   | succ m=>rw [decide_eq_true (Int.mul_neg_of_pos_of_neg (Int.natCast_pos.mpr (Nat.succ_pos m)) (Int.negSucc_lt_zero n):Int.ofNat (m+1)*Int.negSucc n<0)]; rfl
 | negSucc m=>
  cases b with
  | ofNat n=>
   cases n with
   | zero=>rw [show Int.negSucc m*Int.ofNat 0=0 from Int.mul_zero _]; show Int.ofNat ((m+1) / 0)=-Int.ofNat ((m+1) / 0); rw [Nat.div_zero]; rfl
   | succ n=>rw [decide_eq_true (Int.mul_neg_of_neg_of_pos (Int.negSucc_lt_zero m) (Int.natCast_pos.mpr (Nat.succ_pos n)):Int.negSucc m*Int.ofNat (n+1)<0)]; rfl
  | negSucc n=>rw [decide_eq_false (Int.not_lt.mpr (Av ((m+1)*(n+1))):¬ Int.negSucc m*Int.negSucc n<0)]; rfl
theorem quo_up {a b:Int}(hb:b≠0)(h1:a.fdiv b<0)(h2:a.fdiv b*b≠a):a.fdiv b+1=quo a b:=by
 have key:=Int.tdiv_eq_fdiv (a:=a) (b:=b);rw [← quo_tdiv,if_neg (fun hd=>h2 (Int.fdiv_mul_cancel hd))] at key;rw [key];congr 1;by_cases ha:0<=a
 ·rw [if_pos ha,if_neg];intro hb0;obtain ⟨m,rfl⟩:=Int.eq_ofNat_of_zero_le ha;obtain ⟨n,rfl⟩:=Int.eq_ofNat_of_zero_le hb0;rw [fdiv_nat] at h1;exact absurd h1 (Int.not_lt.mpr (Av _))
 ·rw [if_neg ha];by_cases hb0:0<=b
  ·rw [if_pos hb0,Int.sign_eq_one_of_pos (by lia)]
  ·exfalso;cases a with
   | ofNat m=>exact ha (Av m)
   | negSucc m=>
    cases b with
    | ofNat n=>exact hb0 (Av n)
    | negSucc n=>exact absurd h1 (Int.not_lt.mpr (Av (m.succ / n.succ)))
theorem quo_eq {a b:Int}(hb:b≠0)(h:¬ a.fdiv b<0∨a.fdiv b*b=a):a.fdiv b=quo a b:=by
 have key:=Int.tdiv_eq_fdiv (a:=a) (b:=b);rw [← quo_tdiv] at key;by_cases hd:b ∣ a
 ·rw [if_pos hd,Int.add_zero] at key; exact key.symm
 ·rw [if_neg hd] at key;have h:=h.resolve_right fun h=>hd ⟨a.fdiv b,by rw [Int.mul_comm]; exact h.symm⟩;rw [key];by_cases ha:0<=a
  ·rw [if_pos ha];by_cases hb0:0<=b
   ·rw [if_pos hb0,Int.add_zero]
   ·exfalso;cases b with
    | ofNat n=>exact hb0 (Av n)
    | negSucc n=>
     cases a with
     | negSucc m=>exact absurd ha (Int.not_le.mpr (Int.negSucc_lt_zero m))
     | ofNat m=>
      cases m with
      | zero=>exact hd (Int.dvd_zero _)
      | succ m=>exact h (Int.negSucc_lt_zero _)
  ·rw [if_neg ha];by_cases hb0:0<=b
   ·exfalso;cases a with
    | ofNat m=>exact ha (Av m)
    | negSucc m=>
     cases b with
     | negSucc n=>exact absurd hb0 (Int.not_le.mpr (Int.negSucc_lt_zero n))
     | ofNat n=>
      cases n with
      | zero=>exact hb rfl
      | succ n=>exact h (Int.negSucc_lt_zero _)
   ·rw [if_neg hb0,Int.sign_eq_neg_one_of_neg (Int.not_le.mp hb0)]; exact (Int.add_zero _).symm
structure Law3 (T:Stat)(D:Nat->Option FDef):Prop extends Core T D where
 d27:D 27=some ir27
 d28:D 28=some ir28
 d29:D 29=some ir29
 d30:D 30=some ir30
 d31:D 31=some ir31
 d32:D 32=some ir32
 d33:D 33=some ir33
 c27:∀ k,Nat.ble 27 k=true->Nat.ble k 33=true->T.clsOf k=Option.none
 g2:T.glob 2=some (.stat (.type "int"))
 g3:T.glob 3=some (.str lHead)
 g4:T.glob 4=some (.str lTail)
 g5:T.glob 5=some (.tup [.none,.int 2,.int 3,.int 4,.none])
 g6:T.glob 6=some (.tup (lSteps.map .str))
 g7:T.glob 7=some (.tup (lBad.map .str))
 g8:T.glob 8=some (.tup (lTurned.map fun q=>.tup [.str q.1,.str q.2]))
section
variable {T:Stat}{D:Nat->Option FDef}
noncomputable def oV:Option Int->AV
 | some v=>.int v
 | Option.none=>.none
theorem sml {v:Int}(h:small v=true):v.natAbs<2 ^ 200:=Ax h
theorem quot_sp (K:Law3 T D){n:Nat}{a b:Int}{J:Store}{Q:QV}{X:QX}(sa:small a=true)(sb:small b=true)(h:Q (.tup [oV (divO b (quo a b)),oV (divO b (rem a b))]) J):callW T D (n+1) 27 [.int a,.int b] J Q X:=by
 refine ⟨ir27,K.d27,rfl,?_⟩;refine if_ok (b:=decide (b=0)) (fun hb=>?_) fun hb=>?_
 ·unfold divO at h;rw [hb] at h; exact h
 ·unfold divO at h;rw [hb] at h;have hb:=of_decide_eq_false hb;have h:Q (.tup [.int (quo a b),.int (a-quo a b*b)]) J:=h;have sq:(a.fdiv b).natAbs<2 ^ 200:=Ao (Int.natAbs_fdiv_le_natAbs a b) (sml sa);have sq1:(quo a b).natAbs<2 ^ 200:=Ao (quo_le a b) (sml sa);refine ⟨hb,sml sb,?_⟩;refine if_ok (b:=decide (a.fdiv b<0)) (fun h1=>?_) fun h1=>?_
  ·refine ⟨sq,sml sb,?_⟩;refine ifn_ok (b:=decide (a.fdiv b*b=a)) (fun h2=>?_) fun h2=>?_
   ·refine ⟨sq,sml sb,?_⟩;rw [← quo_eq hb (.inr (Ax h2))] at h;exact h
   ·rw [← quo_up hb (Ax h1) (of_decide_eq_false h2)] at h sq1;exact ⟨sq1,sml sb,h⟩
  ·refine ⟨sq,sml sb,?_⟩;rw [← quo_eq hb (.inl (of_decide_eq_false h1))] at h;exact h
noncomputable def cl (x y p q r:Int):List AV:=[.int x,.int y,.int p,.int q,.int r]
noncomputable def ssDrop:Nat->Ss->Ss
 | 0,b=>b
 | k+1,.cons _ r=>ssDrop k r
 | _+1,.nil=>.nil
noncomputable abbrev endQ (Q:QV):QF:=fun fl _ J'=>match fl with
 | .ret v=>Q v J'
 | .next=>Q .none J'
 | _=>False
theorem lexpr_sp (K:Law3 T D){m:Nat}{e n co:Nat}{ve:Int}(hv:ve=e)(he:e<10)(hn:n<5){x y p q r:Int}(hx:bd 80 x)(hy:bd 80 y){J:Store}(hc:J[co]?=some (.list (cl x y p q r))){Q:QV}{X:QX}
  (h:∀ J',Ext J J'->Q (.tup [.str (at? lE e),oV (eV e n x y p q r)]) J'):callW T D (m+2) 29 [.int ve,.int n,.obj co] J Q X:=by
 subst hv;refine ⟨ir29,K.d29,rfl,?_⟩;have sx:=hx.small (by decide);have sy:=hy.small (by decide);have bn:bd 80 (n:Int):=(bdn hn).le (by decide);have h7:=bd.add hx (v:=7) (bdl rfl);have sm:=h7.mul hy;refine idx_ok hc rfl rfl ?_;refine idx_ok hc rfl rfl ?_;refine lst_ok (get_push hc) ?_;refine add_ok (get_push get_top) get_top (by show 4<=1000000; decide) ?_;refine lst_ok (get_push get_top) (lst_ok get_top ⟨(by decide:5<=1000000),?_⟩)
 suffices H:∀ J2 o,Ext J J2->J2[o]?=some (.list [.none,.int p,.int q,.int r,.none])->ssW T (callW T D (m+1)) (ssDrop 3 ir29.body) (upd (upd (upd (fun i=>[AV.int e,.int n,.obj co][i]?) 3 (.int x)) 4 (.int y)) 5 (.obj o)) J2 (endQ Q) (fun _ J'=>X J') from H _ _ ((Ext.refl J).push.push.push.push.push) get_top
 intro J2 o x2 hh;have hc2:=x2.get hc;refine ⟨sml sx,sml sy,?_⟩;refine ⟨K.c27 27 rfl rfl,quot_sp K sx ((hy.sub bn).small (by decide)) ?_⟩;refine ⟨K.c27 27 rfl rfl,quot_sp K sy ((bn.sub (v:=2) (bdl rfl)).small (by decide)) ?_⟩;refine idx_ok (v:=oV (heldV n p q r)) hh (ix_nat hn) (lt5 (P:=fun n=>[AV.none,.int p,.int q,.int r,.none][n]?=some (oV (heldV n p q r))) rfl rfl rfl rfl rfl hn) ?_;refine ⟨sml (h7.small (by decide)),sml sy,?_⟩;refine ⟨K.c27 27 rfl rfl,quot_sp K (sm.small (by decide)) (by decide +kernel) ?_⟩;refine ⟨sml (sm.quo.small (by decide)),by decide,?_⟩;refine ⟨K.c27 27 rfl rfl,quot_sp K sx (by decide +kernel) ?_⟩;refine idx_ok (k:=3) hc2 rfl rfl ?_;refine opt_ok (ix_nat he) ?_;have:=h _ x2;revert this;exact lt10 (P:=fun e=>Q (.tup [.str (at? lE e),oV (eV e n x y p q r)]) J2->optW (_:List AV)[e]? _) id id id id id id id id id id he
theorem lcond_sp (K:Law3 T D){m:Nat}{c n co:Nat}{vc:Int}(hv:vc=c)(hc7:c<7){x y p q r:Int}{J:Store}(hc:J[co]?=some (.list (cl x y p q r))){Q:QV}{X:QX}
  (h:Q (.tup [.str (at? lC c),.bool (cV c n x y)]) J):callW T D (m+1) 30 [.int vc,.int n,.obj co] J Q X:=by
 subst hv;refine ⟨ir30,K.d30,rfl,?_⟩;refine idx_ok hc rfl rfl ?_;refine idx_ok hc rfl rfl ?_;refine ⟨by decide,by decide,?_⟩;refine opt_ok (ix_nat hc7) ?_;revert h;exact lt7 (P:=fun c=>Q (.tup [.str (at? lC c),.bool (cV c n x y)]) J->optW (_:List AV)[c]? _) id id id id id id id hc7
end
section
variable {T:Stat}{D:Nat->Option FDef}
theorem put_none (K:Law3 T D){m:Nat}{c v:AV}{J:Store}{Q:QV}{X:QX}(h:Q (.obj J.length) (J++[.list [.none]])):callW T D (m+1) 28 [c,.none,v] J Q X:=by
 refine ⟨ir28,K.d28,rfl,?_⟩;exact none_t h
theorem put_sp (K:Law3 T D){m:Nat}{co:Nat}{k:Int}{l:List AV}{v:AV}{J:Store}(hc:J[co]?=some (.list l)){Q:QV}{X:QX}(h:Q (.obj J.length) (J++[.list (sel v k 0 l)])):callW T D (m+1) 28 [.obj co,.int k,v] J Q X:=by
 refine ⟨ir28,K.d28,rfl,?_⟩;refine none_i ?_;exact lst_ok hc h
noncomputable def spL (u n:Nat):AV:=match u with
 | 0=>.int 0
 | 1=>.int 1
 | _=>match n with
  | 1=>.int 2
  | 2=>.int 3
  | 3=>.int 4
  | _=>.none
noncomputable def clS (s:SR):List AV:=cl s.x s.y s.p s.q s.r
structure SpL (k:Nat)(j:Int):Prop where
 put:∀ x y p q r v,sel (.int v) j 0 (cl x y p q r)=clS (ofMn ((Mn x y p q r).set k v))
 non:∀ x y p q r,memNone (sel .none j 0 (cl x y p q r))=some true
 get:∀ x y p q r,∃ i,ixOf j 5=some i∧(cl x y p q r)[i]?=some (.int ((Mn x y p q r).getD k 0))
theorem spotL {u n:Nat}(hu:u<3)(hn:n<5):(spL u n=.none∧spotOf u n=Option.none)∨∃ k j,spL u n=.int j∧spotOf u n=some k∧SpL k j:=by
 refine lt3 (P:=fun u=>(spL u n=.none∧spotOf u n=Option.none)∨∃ k j,spL u n=.int j∧spotOf u n=some k∧SpL k j) ?_ ?_ ?_ hu
 ·exact .inr ⟨_,_,rfl,rfl,fun _ _ _ _ _ _=>rfl,fun _ _ _ _ _=>rfl,fun _ _ _ _ _=>⟨_,rfl,rfl⟩⟩
 ·exact .inr ⟨_,_,rfl,rfl,fun _ _ _ _ _ _=>rfl,fun _ _ _ _ _=>rfl,fun _ _ _ _ _=>⟨_,rfl,rfl⟩⟩
 ·refine lt5 (P:=fun n=>(spL 2 n=.none∧spotOf 2 n=Option.none)∨∃ k j,spL 2 n=.int j∧spotOf 2 n=some k∧SpL k j) (.inl ⟨rfl,rfl⟩) ?_ ?_ ?_ (.inl ⟨rfl,rfl⟩) hn
  ·exact .inr ⟨_,_,rfl,rfl,fun _ _ _ _ _ _=>rfl,fun _ _ _ _ _=>rfl,fun _ _ _ _ _=>⟨_,rfl,rfl⟩⟩
  ·exact .inr ⟨_,_,rfl,rfl,fun _ _ _ _ _ _=>rfl,fun _ _ _ _ _=>rfl,fun _ _ _ _ _=>⟨_,rfl,rfl⟩⟩
  ·exact .inr ⟨_,_,rfl,rfl,fun _ _ _ _ _ _=>rfl,fun _ _ _ _ _=>rfl,fun _ _ _ _ _=>⟨_,rfl,rfl⟩⟩
structure SE (k n co oo:Nat)(x y:Int)(v:AV)(tb:Bool)(sp:AV)(tx:Tx)(e:Ev):Prop where
 e0:e 0=some (.int k)
 e2:e 2=some (.int n)
 e3:e 3=some (.obj co)
 e4:e 4=some (.int x)
 e5:e 5=some (.int y)
 e7:e 7=some v
 e9:e 9=some (.bool tb)
 e11:e 11=some sp
 e12:e 12=some (.str tx)
 e13:e 13=some (.int (low x))
 e14:e 14=some (.obj oo)
 e15:e 15=some (.int 0)
def RB (tx:Tx)(J:Store)(L O:List AV)(t:Int)(e':Ev)(J':Store):Prop:=e' 12=some (.str tx)∧∃ co' oo',e' 3=some (.obj co')∧e' 14=some (.obj oo')∧e' 15=some (.int t)∧J'[co']?=some (.list L)∧J'[oo']?=some (.list O)∧Ext J J'
def StepPost (tk:Nat)(m:Option SR)(L O:List AV)(t:Int):Prop:=match m with
 | some s=>L=clS s∧O=s.out.map .int∧t=tk
 | Option.none=>∃ b1 b2,memNone L=some b1∧memNone O=some b2∧(b1||b2)=true
def BQ (tx:Tx)(J₀:Store)(tk:Nat)(s:Option SR)(QQ:QF):Prop:=∀ e' J' L O t,RB tx J₀ L O t e' J'->StepPost tk s L O t->QQ .next e' J'
variable {k n co oo e u c m:Nat}{x y p q r:Int}{tx:Tx}{J J₀:Store}{ev:Ev}{QQ:QF}{XX:XS}
theorem br0 (K:Law3 T D)(x0:Ext J₀ J)(hu:u<3)(hn:n<5)(hc:J[co]?=some (.list (cl x y p q r)))(ho:J[oo]?=some (.list [])){tb:Bool}(E:SE k n co oo x y (oV (eV e n x y p q r)) tb (spL u n) tx ev)
  (h:BQ tx J₀ 0 (s0 e u n x y p q r) QQ):ssW T (callW T D (m+1)) (.cons (.set 3 (.call 28 (.cons (.v 3) (.cons (.v 11) (.cons (.v 7) .nil))))) .nil) ev J QQ XX:=by
 refine var_ok E.e3 (var_ok E.e11 (var_ok E.e7 ⟨K.c27 28 rfl rfl,?_⟩));unfold s0 at h;rcases spotL hu hn with ⟨h1,h2⟩ | ⟨k,j,h1,h2,S⟩<;>(rw [h2] at h; rw [h1])
 ·exact put_none K (h _ _ _ _ _ ⟨E.e12,_,oo,rfl,E.e14,E.e15,get_top,get_push ho,x0.push⟩ ⟨true,false,rfl,rfl,rfl⟩)
 ·refine put_sp K hc (h _ _ _ _ _ ⟨E.e12,_,oo,rfl,E.e14,E.e15,get_top,get_push ho,x0.push⟩ ?_);cases eV e n x y p q r with
  | none=>exact ⟨true,false,S.non ..,rfl,rfl⟩
  | some v=>exact ⟨S.put ..,rfl,rfl⟩
theorem br1 (x0:Ext J₀ J)(hc:J[co]?=some (.list (cl x y p q r))){tb:Bool}{sp:AV}(E:SE k n co oo x y (oV (eV e n x y p q r)) tb sp tx ev)
  (h:BQ tx J₀ 0 (s1 e n x y p q r) QQ):ssW T (callW T D m) (.cons (.set 14 (.list (.cons (.v 7) .nil))) .nil) ev J QQ XX:=by
 refine var_ok E.e7 (h _ _ _ _ _ ⟨E.e12,co,_,E.e3,rfl,E.e15,get_push hc,get_top,x0.push⟩ ?_);unfold s1;cases eV e n x y p q r with
 | none=>exact ⟨false,true,rfl,rfl,rfl⟩
 | some v=>exact ⟨rfl,rfl,rfl⟩
theorem br2 (x0:Ext J₀ J)(hc:J[co]?=some (.list (cl x y p q r)))(ho:J[oo]?=some (.list [])){v sp:AV}(E:SE k n co oo x y v (cV c n x y) sp tx ev)
  (h:BQ tx J₀ 0 (s2 c n x y p q r) QQ):ssW T (callW T D m) (.cons (.ifs (.v 9) (.cons (.set 14 (.list (.cons (.bin .sub (.int 2) (.bin .mod (.v 5) (.int 2))) .nil))) .nil) .nil) .nil) ev J QQ XX:=by
 unfold s2 at h;refine var_ok E.e9 (if_ok (fun hb=>?_) fun hb=>?_)<;>rw [hb] at h
 ·exact var_ok E.e5 ⟨by decide,by decide,h _ _ _ _ _ ⟨E.e12,co,_,E.e3,rfl,E.e15,get_push hc,get_top,x0.push⟩ ⟨rfl,rfl,rfl⟩⟩
 ·exact h _ _ _ _ _ ⟨E.e12,co,oo,E.e3,E.e14,E.e15,hc,ho,x0⟩ ⟨rfl,rfl,rfl⟩
theorem br3 (K:Law3 T D)(x0:Ext J₀ J)(hc:J[co]?=some (.list (cl x y p q r)))(ho:J[oo]?=some (.list [])){sp:AV}(E:SE k n co oo x y (oV (eV e n x y p q r)) (cV c n x y) sp tx ev)
  (h:BQ tx J₀ 0 (s3 e c n x y p q r) QQ):ssW T (callW T D (m+1)) (.cons (.ifs (.v 9) (.cons (.set 3 (.call 28 (.cons (.v 3) (.cons (.int 0) (.cons (.v 7) .nil))))) .nil) (.cons (.set 3 (.call 28 (.cons (.v 3) (.cons (.int 1) (.cons (.v 2) .nil))))) .nil)) .nil) ev J QQ XX:=by
 unfold s3 at h;refine var_ok E.e9 (if_ok (fun hb=>?_) fun hb=>?_)<;>rw [hb] at h
 ·refine var_ok E.e3 (var_ok E.e7 ⟨K.c27 28 rfl rfl,put_sp K hc (h _ _ _ _ _ ⟨E.e12,_,oo,rfl,E.e14,E.e15,get_top,get_push ho,x0.push⟩ ?_)⟩);cases eV e n x y p q r with
  | none=>exact ⟨true,false,rfl,rfl,rfl⟩
  | some v=>exact ⟨rfl,rfl,rfl⟩
 ·exact var_ok E.e3 (var_ok E.e2 ⟨K.c27 28 rfl rfl,put_sp K hc (h _ _ _ _ _ ⟨E.e12,_,oo,rfl,E.e14,E.e15,get_top,get_push ho,x0.push⟩ ⟨rfl,rfl,rfl⟩)⟩)
theorem max0 (v:Int):max 0 v=(v.toNat:Int):=(Int.max_comm 0 v).trans (Int.ofNat_toNat v).symm
theorem br4 (K:Law3 T D)(x0:Ext J₀ J)(hc:J[co]?=some (.list (cl x y p q r)))(ho:J[oo]?=some (.list [])){v sp:AV}{tb:Bool}(E:SE k n co oo x y v tb sp tx ev)
  (h:BQ tx J₀ (m4 n x+1) (s4 n x y p q r) QQ):ssW T (callW T D (m+1)) ir31t0 ev J QQ XX:=by
 refine var_ok E.e2 (var_ok E.e13 ?_);refine var_ok (e:=upd ev 16 _) (i:=3) E.e3 (var_ok (e:=upd ev 16 _) (i:=2) E.e2 ⟨K.c27 28 rfl rfl,put_sp K hc (h _ _ _ _ _ ⟨E.e12,_,oo,rfl,E.e14,rfl,get_top,get_push ho,x0.push⟩ ?_)⟩);show StepPost _ _ [.int x,.int (n-max 0 ((n:Int)-low x+1)),.int p,.int q,.int r] [] (max 0 ((n:Int)-low x+1)+1);rw [max0];exact ⟨rfl,rfl,rfl⟩
theorem s5_eq (hn:n<5):∃ mx:Int,max 1 ((n:Int)-1)=mx∧((n:Int)-mx).natAbs<=lid∧(rngList ((n:Int)-mx) (n:Int) 1).length<=lid∧s5 n x y p q r=some ⟨x+(rngList ((n:Int)-mx) (n:Int) 1).sum,(n:Int)-mx,p,q,r,[]⟩∧mx=t5 n:=by
 refine lt5 (P:=fun n=>∃ mx:Int,max 1 ((n:Int)-1)=mx∧((n:Int)-mx).natAbs<=lid∧(rngList ((n:Int)-mx) (n:Int) 1).length<=lid∧s5 n x y p q r=some ⟨x+(rngList ((n:Int)-mx) (n:Int) 1).sum,(n:Int)-mx,p,q,r,[]⟩∧mx=t5 n) ?_ ?_ ?_ ?_ ?_ hn
 ·exact ⟨1,rfl,by show 1<=1000000; decide,by show 1<=1000000; decide,rfl,rfl⟩
 ·exact ⟨1,rfl,by show 0<=1000000; decide,by show 1<=1000000; decide,rfl,rfl⟩
 ·exact ⟨1,rfl,by show 1<=1000000; decide,by show 1<=1000000; decide,rfl,rfl⟩
 ·refine ⟨2,rfl,by show 1<=1000000; decide,by show 2<=1000000; decide,?_,rfl⟩;show some (SR.mk (x+2+1) 1 p q r [])=some (SR.mk (x+3) 1 p q r []);rw [Int.add_assoc]; rfl
 ·refine ⟨3,rfl,by show 1<=1000000; decide,by show 3<=1000000; decide,?_,rfl⟩;show some (SR.mk (x+3+2+1) 1 p q r [])=some (SR.mk (x+6) 1 p q r []);rw [Int.add_assoc,Int.add_assoc]; rfl
theorem n_lid (hn:n<5):((n:Int)).natAbs<=lid:=Aa (Nat.le_of_lt hn) (by decide:5<=1000000)
theorem br5 (x0:Ext J₀ J)(hc:J[co]?=some (.list (cl x y p q r)))(ho:J[oo]?=some (.list [])){v sp:AV}{tb:Bool}(hn:n<5)(E:SE k n co oo x y v tb sp tx ev)
  (h:BQ tx J₀ (t5 n) (s5 n x y p q r) QQ):ssW T (callW T D m) ir31t1 ev J QQ XX:=by
 obtain ⟨mx,h1,h2,h3,h4,h5⟩:=s5_eq (x:=x) (y:=y) (p:=p) (q:=q) (r:=r) hn;rw [h4] at h;refine var_ok E.e2 ?_;refine var_ok (e:=upd ev 15 _) (i:=4) E.e4 (var_ok (e:=upd ev 15 _) (i:=2) E.e2 (var_ok (e:=upd ev 15 _) (i:=2) E.e2 ?_));rw [h1];refine ⟨h2,n_lid hn,.inl rfl,h3,?_⟩;refine var_ok (e:=upd ev 15 _) (i:=2) E.e2 ?_;refine var_ok (e:=upd ev 15 _) (i:=3) E.e3 ?_;refine lst_ok (get_push hc) ?_;refine lst_ok (get_push get_top) (lst_ok get_top ⟨(by decide:5<=1000000),?_⟩);exact h _ _ _ _ _ ⟨E.e12,_,oo,rfl,E.e14,rfl,get_top,get_push (get_push (get_push ho)),x0.push.push.push⟩ ⟨rfl,rfl,h5⟩
end
noncomputable def uL:Nat->Int->List AV
 | 0,_=>[]
 | m+1,j=>.int j::uL m (j+1)
noncomputable def dl:Nat->Int->List AV
 | 0,_=>[]
 | m+1,j=>.int j::dl m (j-1)
theorem uL_eq:∀ (m:Nat) (a:Int),((List.range m).map fun (k:Nat)=>a+(k:Int)).map AV.int=uL m a
 | 0,_=>rfl
 | m+1,a=>by
  show _=AV.int a::uL m (a+1);rw [List.range_succ_eq_map,List.map_cons,List.map_cons,List.map_map,List.map_map,← uL_eq m (a+1),List.map_map];refine congr (congrArg List.cons (congrArg AV.int (Int.add_zero a))) (List.map_congr_left fun k _=>congrArg AV.int ?_);show a+((k:Int)+1)=a+1+k;rw [Int.add_assoc,Int.add_comm 1]
theorem rng1 (a b:Int):itemsOf (.rng a b 1)=some (uL (b-a).toNat a):=congrArg some (uL_eq _ a)
noncomputable def gS (ra:Nat):Nat->Int->List Int->List Int
 | 0,d,st=>st.set ra (nv ra d st)
 | k+1,d,st=>gS ra k (d-1) (st.set ra (nv ra d st))
noncomputable def sumD:Nat->Int->Int
 | 0,d=>d
 | k+1,d=>sumD k (d-1)+d
theorem gS_len (ra:Nat):∀ (k:Nat) (d:Int) (st:List Int),(gS ra k d st).length=st.length
 | 0,d,st=>List.length_set
 | k+1,d,st=>(gS_len ra k _ _).trans List.length_set
theorem fS_eq {ra:Nat}:∀ (k:Nat) (d:Int) (st:List Int),ra<st.length->fS ra k d st=(gS ra k d st).set ra ((gS ra k d st).getD ra 0+sumD k d)
 | 0,d,st,_=>rfl
 | k+1,d,st,h=>by
  have hl:ra<(st.set ra (nv ra d st)).length:=by rw [List.length_set]; exact h
  show pl ra d (fS ra k (d-1) (st.set ra (nv ra d st)))=_;rw [fS_eq k _ _ hl];show List.set (List.set (gS ra (k+1) d st) _ _) _ (List.getD (List.set (gS ra (k+1) d st) ra _) ra 0+d)=_;have hg:ra<(gS ra (k+1) d st).length:=by rw [gS_len]; exact h
  rw [List.set_set,List.getD_eq_getElem?_getD,List.getElem?_set_self hg];show _=List.set _ _ (_+(sumD k (d-1)+d));rw [← Int.add_assoc]; rfl
section
variable {T:Stat}{D:Nat->Option FDef}{k n co oo e u c m:Nat}{x y p q r:Int}{tx:Tx}{J J₀:Store}{ev:Ev}{QQ:QF}{XX:XS}
theorem loop6_sp {C:Calls}{a3 a12 a14:Option AV}:∀ (j:Nat) (i x1 y1 t1:Int) (e1:Ev),e1 4=some (.int x1)->e1 5=some (.int y1)->e1 15=some (.int t1)->e1 3=a3->e1 12=a12->e1 14=a14->-5<=i->i+j<=20->
  (∀ e',e' 4=some (.int (loop6 j i x1 y1).1)->e' 5=some (.int (loop6 j i x1 y1).2)->e' 15=some (.int (t1+j))->e' 3=a3->e' 12=a12->e' 14=a14->QQ .next e' J)->
  forW (tg1 17) (ssW T C ir31f0) (uL j i) e1 J QQ XX
 | 0,i,x1,y1,t1,e1,h4,h5,h15,h3,h12,h14,_,_,h=>h e1 h4 h5 ((Int.add_zero t1).symm▸h15) h3 h12 h14
 | j+1,i,x1,y1,t1,e1,h4,h5,h15,h3,h12,h14,hb,hb2,h=>by
  refine var_ok (e:=upd e1 17 _) (i:=4) h4 ?_;refine ⟨An (by lia:i.natAbs<1000) (by decide),by decide,?_⟩;refine var_ok (e:=upd (upd (upd e1 17 _) 4 _) 5 _) (i:=15) h15 ?_;refine loop6_sp j (i+1) (x1+i) (i*2) (t1+1) _ rfl rfl rfl h3 h12 h14 (by lia) (by lia) fun e' g4 g5 g15=>h e' g4 g5 ?_;rw [g15,Int.add_assoc,Int.add_comm 1]; rfl
theorem br6 (x0:Ext J₀ J)(hc:J[co]?=some (.list (cl x y p q r)))(ho:J[oo]?=some (.list [])){v sp:AV}{tb:Bool}(hn:n<5)(E:SE k n co oo x y v tb sp tx ev)
  (h:BQ tx J₀ (m6 n x+1) (s6 n x y p q r) QQ):ssW T (callW T D m) ir31t2 ev J QQ XX:=by
 have hl:=low_bd x;refine var_ok (e:=upd ev 15 _) (i:=2) E.e2 (var_ok (e:=upd ev 15 _) (i:=13) E.e13 ⟨?_,?_,opt_ok (rng1 _ _) ?_⟩)
 ·exact Aa ((by decide +kernel:∀ n:Nat,n<5->((n:Int)-1).natAbs<=10) n hn) (by decide:10<=1000000)
 ·exact Aa (by lia:(low x+1).natAbs<=10) (by decide:10<=1000000)
 have e6:(low x+1-((n:Int)-1)).toNat=m6 n x:=by unfold m6; congr 1; lia
 rw [e6];have hm6:=(m6_le hn x).2;refine loop6_sp (m6 n x) ((n:Int)-1) x y 1 _ E.e4 E.e5 rfl E.e3 E.e12 E.e14 (by lia) (by lia) fun e' g4 g5 g15 g3 g12 g14=>?_;refine var_ok g4 (var_ok g5 (var_ok g3 ?_));refine lst_ok (get_push hc) ?_;refine lst_ok (get_push get_top) (lst_ok get_top ⟨(by decide:5<=1000000),?_⟩);refine h _ _ _ _ _ ⟨g12,_,oo,rfl,g14,g15,get_top,get_push (get_push (get_push ho)),x0.push.push.push⟩ ⟨rfl,rfl,?_⟩;rw [Int.add_comm]; rfl
structure E7 (n co oo:Nat)(tx:Tx)(i y:Int)(e:Ev):Prop where
 e2:e 2=some (.int n)
 e3:e 3=some (.obj co)
 e5:e 5=some (.int y)
 e12:e 12=some (.str tx)
 e14:e 14=some (.obj oo)
 e17:e 17=some (.int i)
theorem in7_sp {C:Calls}{i:Int}(si:i.natAbs<2 ^ 200):∀ (l:Nat) (j y1:Int) (O:List Int) (e1:Ev) (J:Store),O.length+l<=100->E7 n co oo tx i y1 e1->J[oo]?=some (.list (O.map .int))->
  (∀ e' J',E7 n co oo tx i (last7 l j y1) e'->J'[oo]?=some (.list ((O++outs7 i l j).map .int))->Keep oo J J'->QQ .next e' J')->
  forW (tg1 18) (ssW T C ir31f1) (dl l j) e1 J QQ XX
 | 0,j,y1,O,e1,J,hl,E,ho,h=>h e1 J E (by rw [show outs7 i 0 j=[] from rfl,List.append_nil]; exact ho) (Keep.refl _ _)
 | l+1,j,y1,O,e1,J,hl,E,ho,h=>by
  refine var_ok (e:=upd e1 18 _) (i:=14) E.e14 (lst_ok ho (var_ok (e:=upd e1 18 _) (i:=17) E.e17 ⟨si,by decide,lst_ok ho ⟨?_,?_⟩⟩))
  ·rw [Ah]; exact Ao (Aa (Af _ _) hl) (by decide:100<1000000)
  ·refine in7_sp si l (j-1) j (O++[i*9+j]) _ _ ?_ ⟨E.e2,E.e3,rfl,E.e12,E.e14,E.e17⟩ (by rw [List.map_append]; exact get_set ho) fun e' J' E' go kp=>h e' J' E' ?_ (Keep.self.trans kp)
   ·rw [Ac,Nat.add_assoc,Nat.add_comm _ l]; exact hl
   ·rw [go,Ae]; rfl
theorem rng7 (hn:n<5):itemsOf (.rng (n:Int) (1-1) (-1))=some (dl n n)∧itemsOf (.rng (n:Int) (2-1) (-1))=some (dl (n-1) n):=
 lt5 (P:=fun n=>itemsOf (.rng (n:Int) (1-1) (-1))=some (dl n n)∧itemsOf (.rng (n:Int) (2-1) (-1))=some (dl (n-1) n)) ⟨rfl,rfl⟩ ⟨rfl,rfl⟩ ⟨rfl,rfl⟩ ⟨rfl,rfl⟩ ⟨rfl,rfl⟩ hn
theorem f2_sp {C:Calls}{i:Int}(si:i.natAbs<2 ^ 200)(si':(i-1).natAbs<=lid)(hn:n<5){l:Nat}{y1:Int}{O:List Int}{e1:Ev}{J:Store}(hl:O.length+l<=100)(E:E7 n co oo tx i y1 e1)(ho:J[oo]?=some (.list (O.map .int)))(hr:itemsOf (.rng (n:Int) (i-1) (-1))=some (dl l n))
  (h:∀ e' J',E7 n co oo tx i (last7 l n y1) e'->J'[oo]?=some (.list ((O++outs7 i l n).map .int))->Keep oo J J'->QQ .next e' J'):ssW T C ir31f2 e1 J QQ XX:=by
 refine var_ok E.e2 (var_ok E.e17 ⟨n_lid hn,si',rfl,opt_ok hr ?_⟩);exact in7_sp si l n y1 O e1 J hl E ho h
theorem br7 (x0:Ext J₀ J)(hno:J₀.length<=oo)(hco:co≠oo)(hc:J[co]?=some (.list (cl x y p q r)))(ho:J[oo]?=some (.list [])){v sp:AV}{tb:Bool}(hn:n<5)(E:SE k n co oo x y v tb sp tx ev)
  (h:BQ tx J₀ (5+(n+(n-1))) (s7 n x y p q r) QQ):ssW T (callW T D m) ir31t3 ev J QQ XX:=by
 obtain ⟨r1,r2⟩:=rng7 hn;have n4:=Nat.le_of_lt_succ hn;refine f2_sp (i:=1) (O:=[]) (l:=n) (y1:=y) (by decide) (by decide:0<=1000000) hn (Aa (Ak n4 0) (by decide)) ⟨E.e2,E.e3,E.e5,E.e12,E.e14,rfl⟩ ho r1 fun e1 J1 E1 go1 k1=>?_;refine f2_sp (i:=2) (O:=[]++outs7 1 n n) (l:=n-1) (y1:=last7 n n y) (by decide) (by decide:1<=1000000) hn ?_ ⟨E1.e2,E1.e3,E1.e5,E1.e12,E1.e14,rfl⟩ go1 r2 fun e2 J2 E2 go2 k2=>?_
 ·rw [List.nil_append,outs7_len];exact Aa (Aq n4 (Aa (Nat.sub_le n 1) n4)) (by decide)
 have kk:=k1.trans k2;refine var_ok E2.e5 (var_ok E2.e3 ?_);refine lst_ok (get_push (kk.get hco hc)) ?_;refine lst_ok (get_push get_top) (lst_ok get_top ⟨(by decide:5<=1000000),?_⟩);refine var_ok (e:=upd e2 3 _) (i:=14) E2.e14 (lst_ok (get_push (get_push (get_push go2))) ?_);refine h _ _ _ _ _ ⟨E2.e12,_,oo,rfl,E2.e14,rfl,get_top,get_push (get_push (get_push go2)),(Keep.ext x0 hno kk).push.push.push⟩ ⟨rfl,rfl,?_⟩;rw [Ah,List.nil_append,Ac,outs7_len,outs7_len]; rfl
theorem rng8 (hn:n<5):itemsOf (.rng ((n:Int)-2) (min ((n:Int)-2) 0-1) (-1))=some (dl (((n:Int)-2).toNat+1) ((n:Int)-2))∧(rngList ((n:Int)-2) (min ((n:Int)-2) 0-1) (-1)).sum=sumD ((n:Int)-2).toNat ((n:Int)-2)∧Nat.ble (rngList ((n:Int)-2) (min ((n:Int)-2) 0-1) (-1)).length 1000000=true∧Nat.ble ((n:Int)-2).natAbs 1000000=true∧Nat.ble (min ((n:Int)-2) 0-1).natAbs 1000000=true∧2*((rngList ((n:Int)-2) (min ((n:Int)-2) 0-1) (-1)).length:Int)=((fT ((n:Int)-2).toNat+1+1:Nat):Int)∧small ((rngList ((n:Int)-2) (min ((n:Int)-2) 0-1) (-1)).length:Int)=true:=
 lt5 (P:=fun n=>itemsOf (.rng ((n:Int)-2) (min ((n:Int)-2) 0-1) (-1))=some (dl (((n:Int)-2).toNat+1) ((n:Int)-2))∧(rngList ((n:Int)-2) (min ((n:Int)-2) 0-1) (-1)).sum=sumD ((n:Int)-2).toNat ((n:Int)-2)∧Nat.ble (rngList ((n:Int)-2) (min ((n:Int)-2) 0-1) (-1)).length 1000000=true∧Nat.ble ((n:Int)-2).natAbs 1000000=true∧Nat.ble (min ((n:Int)-2) 0-1).natAbs 1000000=true∧2*((rngList ((n:Int)-2) (min ((n:Int)-2) 0-1) (-1)).length:Int)=((fT ((n:Int)-2).toNat+1+1:Nat):Int)∧small ((rngList ((n:Int)-2) (min ((n:Int)-2) 0-1) (-1)).length:Int)=true) ⟨rfl,rfl,rfl,rfl,rfl,rfl,rfl⟩ ⟨rfl,rfl,rfl,rfl,rfl,rfl,rfl⟩ ⟨rfl,rfl,rfl,rfl,rfl,rfl,rfl⟩ ⟨rfl,rfl,rfl,rfl,rfl,rfl,rfl⟩ ⟨rfl,rfl,rfl,rfl,rfl,rfl,rfl⟩ hn
theorem for1_cons {C:Calls}{i:Nat}{b:Ss}{x:AV}{r:List AV}{e1:Ev}(h:∀ QQ':QF,(∀ e' J',forW (tg1 i) (ssW T C b) r e' J' QQ XX->QQ' .next e' J')->ssW T C b (upd e1 i x) J QQ' XX):forW (tg1 i) (ssW T C b) (x::r) e1 J QQ XX:=h _ fun _ _ g=>g
theorem it8 (K:Law3 T D){k:Nat}{j:Int}(S:SpL k j){d:Int}{s:SR}{e1:Ev}{c1:Nat}(ok:small (s.mn.getD k 0)=true)(h3:e1 3=some (.obj c1))(h11:e1 11=some (.int j))(hc:J[c1]?=some (.list (clS s)))
  (h:QQ .next (upd (upd e1 20 (.int d)) 3 (.obj J.length)) (J++[.list (clS (ofMn (s.mn.set k (nv k d s.mn))))])):ssW T (callW T D (m+1)) ir31f3 (upd e1 20 (.int d)) J QQ XX:=by
 obtain ⟨i,i1,i2⟩:=S.get s.x s.y s.p s.q s.r;refine var_ok (e:=upd e1 20 _) (i:=3) h3 (var_ok (e:=upd e1 20 _) (i:=11) h11 (var_ok (e:=upd e1 20 _) (i:=3) h3 (var_ok (e:=upd e1 20 _) (i:=11) h11 (idx_ok hc i1 i2 ⟨sml ok,by decide,var_ok (e:=upd e1 20 _) (i:=3) h3 (idx_ok hc rfl rfl ⟨K.c27 28 rfl rfl,put_sp K hc ?_⟩)⟩))));rw [← show sel (.int (nv k d s.mn)) j 0 (clS s)=clS (ofMn (s.mn.set k (nv k d s.mn))) from S.put s.x s.y s.p s.q s.r (nv k d s.mn)] at h;exact h
theorem loop8_sp (K:Law3 T D){k:Nat}{j:Int}(sp:Sp k)(S:SpL k j){a12 a14 a19:Option AV}:∀ (l:Nat) (d:Int) (s:SR) (e1:Ev) (J:Store) (c1:Nat),fOk k l d s.mn->e1 3=some (.obj c1)->e1 11=some (.int j)->e1 12=a12->e1 14=a14->e1 19=a19->J[c1]?=some (.list (clS s))->
  (∀ e' J' c',e' 3=some (.obj c')->e' 11=some (.int j)->e' 12=a12->e' 14=a14->e' 19=a19->J'[c']?=some (.list (clS (ofMn (gS k l d s.mn))))->Ext J J'->QQ .next e' J')->
  forW (tg1 20) (ssW T (callW T D (m+1)) ir31f3) (dl (l+1) d) e1 J QQ XX:=by
 intro l
 induction l with
 | zero=>exact fun d s e1 J c1 ok h3 h11 h12 h14 h19 hc h=>it8 K S ok h3 h11 hc (h _ _ _ rfl h11 h12 h14 h19 get_top ((Ext.refl J).push))
 | succ l ih=>
  intro d s e1 J c1 ok h3 h11 h12 h14 h19 hc h;have e:=sp.2 s.x s.y s.p s.q s.r (nv k d s.mn);have ok2:fOk k l (d-1) (ofMn (s.mn.set k (nv k d s.mn))).mn:=e.symm▸ok.2;have g:=ih (d-1) (ofMn (s.mn.set k (nv k d s.mn))) (upd (upd e1 20 (.int d)) 3 (.obj J.length)) (J++[.list (clS (ofMn (s.mn.set k (nv k d s.mn))))]) J.length ok2 rfl h11 h12 h14 h19 get_top fun e' J' c' g3 g11 g12 g14 g19 gc x1=>h e' J' c' g3 g11 g12 g14 g19 (by
   rw [show (ofMn (s.mn.set k (nv k d s.mn))).mn=s.mn.set k (nv k d s.mn) from e] at gc;exact gc) (((Ext.refl J).push).trans x1)
  exact for1_cons (x:=.int d) (r:=dl (l+1) (d-1)) fun QQ' hq=>it8 K S ok.1 h3 h11 hc (hq _ _ g)
theorem for_v {C:Calls}{i v:Nat}{s:S}{b r:Ss}{e1:Ev}{a:AV}{l:List AV}(h:e1 v=some a)(hi:itemsOf a=some l)(g:forW (tg1 i) (ssW T C b) l e1 J (fun f e₁ J1=>match f with
   | .next=>ssW T C (.cons s r) e₁ J1 QQ XX
   | f=>QQ f e₁ J1) XX):ssW T C (.cons (.for1 i (.v v) b) (.cons s r)) e1 J QQ XX:=by
 show varW e1 v fun a=>optW (itemsOf a) fun l=>forW (tg1 i) (ssW T C b) l e1 J _ XX;exact var_ok h (opt_ok hi g)
theorem br8 (K:Law3 T D)(x0:Ext J₀ J)(hc:J[co]?=some (.list (cl x y p q r)))(ho:J[oo]?=some (.list [])){v:AV}{tb:Bool}(hn:n<5){kk:Nat}{j:Int}(sp:Sp kk)(S:SpL kk j)(hs:spotOf u n=some kk)(hok:fOk kk ((n:Int)-2).toNat ((n:Int)-2) (Mn x y p q r))(E:SE k n co oo x y v tb (.int j) tx ev)
  (h:BQ tx J₀ (fT ((n:Int)-2).toNat+1+1) (s8 u n x y p q r) QQ):ssW T (callW T D (m+1)) ir31t4 ev J QQ XX:=by
 obtain ⟨r1,r2,r3,r4,r5,r6,r7⟩:=rng8 hn;refine var_ok E.e2 (var_ok E.e2 ⟨Ad r4,Ad r5,rfl,for_v (e1:=upd ev 19 _) (v:=19) rfl r1 ?_⟩);refine loop8_sp K sp S _ _ ⟨x,y,p,q,r,[]⟩ _ _ co hok E.e3 E.e11 E.e12 E.e14 rfl hc fun e' J' c' g3 g11 g12 g14 g19 gc x1=>?_;have gc:J'[c']?=some (.list (clS (ofMn (gS kk ((n:Int)-2).toNat ((n:Int)-2) (Mn x y p q r))))):=gc;have gl:(ofMn (gS kk ((n:Int)-2).toNat ((n:Int)-2) (Mn x y p q r))).mn=gS kk ((n:Int)-2).toNat ((n:Int)-2) (Mn x y p q r):=by
  have g:∀ (l:Nat) (d:Int) (st:List Int),∃ v,gS kk l d st=st.set kk v:=by
   intro l
   induction l with
   | zero=>exact fun d st=>⟨_,rfl⟩
   | succ l ih=>exact fun d st=>(ih (d-1) (st.set kk (nv kk d st))).elim fun v hv=>⟨v,hv.trans (List.set_set ..)⟩
  obtain ⟨v,hv⟩:=g ((n:Int)-2).toNat ((n:Int)-2) (Mn x y p q r);rw [hv]; exact sp.2 ..
 have hfs:=fS_eq (ra:=kk) ((n:Int)-2).toNat ((n:Int)-2) (Mn x y p q r) sp.1;unfold s8 at h;rw [hs] at h;revert hfs gl gc;generalize gS kk ((n:Int)-2).toNat ((n:Int)-2) (Mn x y p q r)=G;intro gc gl hfs;obtain ⟨i,i1,i2⟩:=S.get (ofMn G).x (ofMn G).y (ofMn G).p (ofMn G).q (ofMn G).r;refine var_ok g3 (var_ok g11 (var_ok g3 (var_ok g11 (idx_ok gc i1 i2 (var_ok g19 ⟨.inr rfl,Ad r3,K.c27 28 rfl rfl,put_sp K gc ?_⟩)))));refine var_ok (e:=upd e' 3 _) (i:=19) g19 ⟨.inr rfl,Ad r3,by decide,sml r7,?_⟩;refine h _ _ _ _ _ ⟨g12,_,oo,rfl,g14,rfl,get_top,get_push (x1.get ho),(x0.trans x1).push⟩ ⟨?_,rfl,r6⟩;rw [r2,hfs,← gl];exact S.put ..
theorem br9 (K:Law3 T D)(x0:Ext J₀ J)(hc:J[co]?=some (.list (cl x y p q r)))(ho:J[oo]?=some (.list [])){tb:Bool}{kk:Nat}{j:Int}(S:SpL kk j)(hs:spotOf u n=some kk){w:Int}(hv:eV e n x y p q r=some w)(E:SE k n co oo x y (.int w) tb (.int j) tx ev)
  (h:BQ tx J₀ 3 (s9 e u n x y p q r) QQ):ssW T (callW T D (m+1)) (.cons (.set 3 (.call 28 (.cons (.v 3) (.cons (.v 11) (.cons (.bin .sub (.idx (.v 3) (.v 11)) (.v 7)) .nil))))) (.cons (.set 15 (.int 3)) .nil)) ev J QQ XX:=by
 obtain ⟨i,i1,i2⟩:=S.get x y p q r;unfold s9 at h;rw [hs,hv] at h;refine var_ok E.e3 (var_ok E.e11 (var_ok E.e3 (var_ok E.e11 (idx_ok hc i1 i2 (var_ok E.e7 ⟨K.c27 28 rfl rfl,put_sp K hc ?_⟩)))));exact h _ _ _ _ _ ⟨E.e12,_,oo,rfl,E.e14,rfl,get_top,get_push ho,x0.push⟩ ⟨S.put ..,rfl,rfl⟩
end
theorem replC_eq (c:Nat)(b:Tx):∀ l:Tx,replS [c] b 0 l=replC c b l
 | []=>rfl
 | d::l=>by
  rw [replS0];have e:pre [c] (d::l)=Nat.beq d c:=by
   show (Nat.beq c d&&pre [] l)=_;rw [show pre [] l=true by cases l<;>rfl,Bool.and_true];cases h:Nat.beq d c with
   | false=>exact beq_sym h
   | true=>rw [As h]; exact Nat.beq_refl c
  rw [e];unfold replC;cases Nat.beq d c
  ·exact congrArg (d::·) (replC_eq c b l)
  ·exact congrArg (b++·) (replC_eq c b l)
theorem repl_len2 {a b:Tx}:∀ (l:Tx) (k:Nat),(replS a b k l).length<=l.length*(b.length+1)
 | [],k=>by cases k<;>exact Nat.zero_le _
 | c::l,0=>by
  rw [replS0,List.length_cons,Nat.succ_mul];cases pre a (c::l)
  ·exact Aq (repl_len2 l 0) (Ar 1 _)
  ·show (b++_).length<=_;rw [Ac,Nat.add_comm];exact Aq (repl_len2 l _) (Nat.le_succ _)
 | c::l,k+1=>Aa (repl_len2 l k) (Nat.mul_le_mul_right _ (Nat.le_succ _))
theorem lenS:allN (fun k=>Nat.ble (at? lSteps k).length 80) 10=true:=by decide +kernel
theorem lenE:allN (fun k=>Nat.ble (at? lE k).length 24&&!txEq [69] (at? lE k)) 11=true:=by decide +kernel
theorem lenC:allN (fun k=>Nat.ble (at? lC k).length 12&&!txEq [67] (at? lC k)) 7=true:=by decide +kernel
theorem lenT:allN (fun k=>Nat.ble (at? lT k).length 8&&!txEq [84] (at? lT k)) 3=true:=by decide +kernel
theorem lenD:allN (fun n=>txEq (intTx n) (digT n)&&!txEq [35] (intTx n)) 5=true:=by decide +kernel
theorem tx_ne {a b:Tx}(h:(!txEq a b)=true):a≠b:=fun q=>by
 rw [q,txEq_self] at h; cases h
theorem cn {α:Type}{a:α}{l:List α}:a::l≠[]:=fun h=>by cases h
theorem rsz {s b:Tx}{p q:Nat}(hs:s.length<=p)(hb:b.length<=q)(h:Nat.ble (p+(p+1)*q) 1000000=true):s.length+(s.length+1)*b.length<=lid:=
 Aa (Aq hs (Nat.mul_le_mul (Au hs) hb)) (Ad h)
theorem fmod_nat (j:Int){b:Nat}(hb:0<b):j.fmod (b:Int)=((j.fmod (b:Int)).toNat:Int)∧(j.fmod (b:Int)).toNat<b:=by
 have h0:=Int.fmod_nonneg_of_pos j (Int.natCast_pos.mpr hb);exact ⟨(Int.toNat_of_nonneg h0).symm,(Int.toNat_lt h0).mpr (Int.fmod_lt_of_pos j (Int.natCast_pos.mpr hb))⟩
theorem lst_at {l:List Tx}{k:Nat}(hk:k<l.length):(l.map AV.str)[k]?=some (.str (at? l k)):=by
 unfold at?;rw [List.getElem?_map,List.getD_eq_getElem?_getD,List.getElem?_eq_getElem hk]; rfl
section
variable {T:Stat}{D:Nat->Option FDef}{k n co e u c m:Nat}{x y p q r:Int}{J:Store}
theorem lad_t {C:Calls}{k w:Int}{A B:Ss}{e:Ev}{Q:QF}{X:XS}(h0:e 0=some (.int k))(hd:decide (k=w)=true)(h:ssW T C A e J Q X):stW T C (.ifs (.cmp .eq (.v 0) (.int w)) A B) e J Q X:=var_ok h0 (if_t (b:=decide (k=w)) hd h)
theorem lad_f {C:Calls}{k w:Int}{A B:Ss}{e:Ev}{Q:QF}{X:XS}(h0:e 0=some (.int k))(hd:decide (k=w)=false)(h:ssW T C B e J Q X):stW T C (.ifs (.cmp .eq (.v 0) (.int w)) A B) e J Q X:=var_ok h0 (if_f (b:=decide (k=w)) hd h)
theorem lad_n {C:Calls}{i:Nat}{A B:Ss}{e:Ev}{Q:QF}{X:XS}(h0:e i=some .none)(h:ssW T C A e J Q X):stW T C (.ifs (.cmp .is (.v i) .none) A B) e J Q X:=var_ok h0 (none_t h)
theorem lad_i {C:Calls}{i:Nat}{k:Int}{A B:Ss}{e:Ev}{Q:QF}{X:XS}(h0:e i=some (.int k))(h:ssW T C B e J Q X):stW T C (.ifs (.cmp .is (.v i) .none) A B) e J Q X:=var_ok h0 (none_i h)
theorem z1_sp (K:Law3 T D){oo:Nat}{J₀:Store}{tx:Tx}{ev:Ev}{Q:QV}{X:QX}(hk:k<10)(hu:u<3)(hn:n<5)(hok:∀ k,fOk k ((n:Int)-2).toNat ((n:Int)-2) (Mn x y p q r))(x0:Ext J₀ J)(hno:J₀.length<=oo)(hco:co≠oo)(hc:J[co]?=some (.list (cl x y p q r)))(ho:J[oo]?=some (.list []))(E:SE k n co oo x y (oV (eV e n x y p q r)) (cV c n x y) (spL u n) tx ev)
  (h:∀ J' co' oo' L O t,Ext J₀ J'->J'[co']?=some (.list L)->J'[oo']?=some (.list O)->StepPost (stepK k n x) (stepS k e c u n x y p q r) L O t->Q (.tup [.str tx,.obj co',.obj oo',.int t]) J') :
  ssW T (callW T D (m+1)) ir31z1 ev J (endQ Q) (fun _ J'=>X J'):=by
 have fin:∀ {tk:Nat} {s:Option SR},(∀ J' co' oo' L O t,Ext J₀ J'->J'[co']?=some (.list L)->J'[oo']?=some (.list O)->StepPost tk s L O t->Q (.tup [.str tx,.obj co',.obj oo',.int t]) J')->BQ tx J₀ tk s fun f e1 J1=>match f with
   | .next=>ssW T (callW T D (m+1)) ir31z0 e1 J1 (endQ Q) (fun _ J'=>X J')
   | f=>endQ Q f e1 J1:=by
  intro tk s h e' J' L O t hR hS;obtain ⟨h12,co',oo',h3,h14,h15,hL,hO,hx'⟩:=hR;exact var_ok h12 (var_ok h3 (var_ok h14 (var_ok h15 (h J' co' oo' L O t hx' hL hO hS))))
 have non:∀ {tk:Nat} {s:Option SR},s=Option.none->BQ tx J₀ tk s (fun f e1 J1=>match f with
   | .next=>ssW T (callW T D (m+1)) ir31z0 e1 J1 (endQ Q) (fun _ J'=>X J')
   | f=>endQ Q f e1 J1)->ssW T (callW T D (m+1)) (.cons (.set 3 (.list (.cons .none .nil))) .nil) ev J (fun f e1 J1=>match f with
   | .next=>ssW T (callW T D (m+1)) ir31z0 e1 J1 (endQ Q) (fun _ J'=>X J')
   | f=>endQ Q f e1 J1) (fun _ J'=>X J'):=by
  intro tk s hs h;subst hs;exact h _ _ _ _ _ ⟨E.e12,_,oo,rfl,E.e14,E.e15,get_top,get_push ho,x0.push⟩ ⟨true,false,rfl,rfl,rfl⟩
 revert E h;refine lt10 (P:=fun k=>SE k n co oo x y (oV (eV e n x y p q r)) (cV c n x y) (spL u n) tx ev->(∀ J' co' oo' L O t,Ext J₀ J'->J'[co']?=some (.list L)->J'[oo']?=some (.list O)->StepPost (stepK k n x) (stepS k e c u n x y p q r) L O t->Q (.tup [.str tx,.obj co',.obj oo',.int t]) J')->ssW T (callW T D (m+1)) ir31z1 ev J (endQ Q) (fun _ J'=>X J')) (fun E h=>?_) (fun E h=>?_) (fun E h=>?_) (fun E h=>?_) (fun E h=>?_) (fun E h=>?_) (fun E h=>?_) (fun E h=>?_) (fun E h=>?_) (fun E h=>?_) hk
 ·exact lad_t E.e0 rfl (br0 K x0 hu hn hc ho E (fin h))
 ·exact lad_f E.e0 rfl (lad_t E.e0 rfl (br1 x0 hc E (fin h)))
 ·exact lad_f E.e0 rfl (lad_f E.e0 rfl (lad_t E.e0 rfl (br2 x0 hc ho E (fin h))))
 ·exact lad_f E.e0 rfl (lad_f E.e0 rfl (lad_f E.e0 rfl (lad_t E.e0 rfl (br3 K x0 hc ho E (fin h)))))
 ·exact lad_f E.e0 rfl (lad_f E.e0 rfl (lad_f E.e0 rfl (lad_f E.e0 rfl (lad_t E.e0 rfl (br4 K x0 hc ho E (fin h))))))
 ·exact lad_f E.e0 rfl (lad_f E.e0 rfl (lad_f E.e0 rfl (lad_f E.e0 rfl (lad_f E.e0 rfl (lad_t E.e0 rfl (br5 x0 hc ho hn E (fin h)))))))
 ·exact lad_f E.e0 rfl (lad_f E.e0 rfl (lad_f E.e0 rfl (lad_f E.e0 rfl (lad_f E.e0 rfl (lad_f E.e0 rfl (lad_t E.e0 rfl (br6 x0 hc ho hn E (fin h))))))))
 ·exact lad_f E.e0 rfl (lad_f E.e0 rfl (lad_f E.e0 rfl (lad_f E.e0 rfl (lad_f E.e0 rfl (lad_f E.e0 rfl (lad_f E.e0 rfl (lad_t E.e0 rfl (br7 x0 hno hco hc ho hn E (fin h)))))))))
 ·refine lad_f E.e0 rfl (lad_f E.e0 rfl (lad_f E.e0 rfl (lad_f E.e0 rfl (lad_f E.e0 rfl (lad_f E.e0 rfl (lad_f E.e0 rfl (lad_f E.e0 rfl ?_)))))));rcases spotL hu hn with ⟨h1,h2⟩ | ⟨kk,j,h1,h2,S⟩<;>rw [h1] at E
  ·exact lad_n E.e11 (non (show s8 u n x y p q r=Option.none by unfold s8; rw [h2]) (fin h))
  ·exact lad_i E.e11 (lad_t E.e0 rfl (br8 K x0 hc ho hn (spot h2) S h2 (hok kk) E (fin h)))
 ·refine lad_f E.e0 rfl (lad_f E.e0 rfl (lad_f E.e0 rfl (lad_f E.e0 rfl (lad_f E.e0 rfl (lad_f E.e0 rfl (lad_f E.e0 rfl (lad_f E.e0 rfl ?_)))))));rcases spotL hu hn with ⟨h1,h2⟩ | ⟨kk,j,h1,h2,S⟩<;>rw [h1] at E
  ·exact lad_n E.e11 (non (show s9 e u n x y p q r=Option.none by unfold s9; rw [h2]) (fin h))
  ·refine lad_i E.e11 (lad_f E.e0 rfl ?_);cases hv:eV e n x y p q r with
   | none=>
    rw [hv] at E;exact lad_n E.e7 (non (show s9 e u n x y p q r=Option.none by unfold s9; rw [h2,hv]; rfl) (fin h))
   | some w=>
    rw [hv] at E;exact lad_i E.e7 (br9 K x0 hc ho S h2 hv E (fin h))
theorem step_sp (K:Law3 T D){j vk vn:Int}(ek:vk=k)(en:vn=n)(hk:k<10)(hn:n<5)(hx:bd 80 x)(hy:bd 80 y)(hok:∀ k,fOk k ((n:Int)-2).toNat ((n:Int)-2) (Mn x y p q r))(hc:J[co]?=some (.list (cl x y p q r))){Q:QV}{X:QX}
  (h:∀ J' co' oo' L O t,Ext J J'->J'[co']?=some (.list L)->J'[oo']?=some (.list O)->StepPost (stepK k n x) (stepS k (j.fmod 10).toNat (j.fmod 7).toNat (j.fmod 3).toNat n x y p q r) L O t->Q (.tup [.str (stepText k (j.fmod 10).toNat (j.fmod 7).toNat (j.fmod 3).toNat n),.obj co',.obj oo',.int t]) J') :
  callW T D (m+4) 31 [.int vk,.int j,.int vn,.obj co] J Q X:=by
 subst ek en;refine ⟨ir31,K.d31,rfl,?_⟩;obtain ⟨he,hel⟩:=fmod_nat j (b:=10) (by decide);obtain ⟨hc7,hcl⟩:=fmod_nat j (b:=7) (by decide);obtain ⟨hu3,hul⟩:=fmod_nat j (b:=3) (by decide);have he:j.fmod 10=((j.fmod 10).toNat:Int):=he;have hc7:j.fmod 7=((j.fmod 7).toNat:Int):=hc7;have hu3:j.fmod 3=((j.fmod 3).toNat:Int):=hu3;have hel:(j.fmod 10).toNat<10:=hel;have hcl:(j.fmod 7).toNat<7:=hcl;have hul:(j.fmod 3).toNat<3:=hul;revert h he hc7 hu3 hel hcl hul;generalize (j.fmod 10).toNat=e;generalize (j.fmod 7).toNat=c;generalize (j.fmod 3).toNat=u;intro h he hc7 hu3 hel hcl hul;have lS:=Ad (allN_at lenS hk);have a:=Ab (allN_at lenE (Nat.lt_succ_of_lt hel));have b:=Ab (allN_at lenC hcl);have t:=Ab (allN_at lenT hul);have d:=Ab (allN_at lenD hn);have a1:=Ad a.1;have b1:=Ad b.1;have t1:=Ad t.1;have d1:(intTx n).length<=1:=by rw [txEq_of d.1]; exact Aj 1
 have n1:(replTx [69] (at? lE e) (at? lSteps k)).length<=2000:=Aa (repl_len2 _ 0) (Nat.mul_le_mul lS (Au a1));have n2:(replTx [67] (at? lC c) (replTx [69] (at? lE e) (at? lSteps k))).length<=26000:=Aa (repl_len2 _ 0) (Nat.mul_le_mul n1 (Au b1));have n3:(replTx [84] (at? lT u) (replTx [67] (at? lC c) (replTx [69] (at? lE e) (at? lSteps k)))).length<=234000:=Aa (repl_len2 _ 0) (Nat.mul_le_mul n2 (Au t1));have tq:stepText k e c u n=replTx [35] (intTx n) (replTx [84] (at? lT u) (replTx [67] (at? lC c) (replTx [69] (at? lE e) (at? lSteps k)))):=by
  unfold replTx stepText;rw [replC_eq,replC_eq,replC_eq,replC_eq,txEq_of d.1]
 rw [tq] at h;clear tq;refine idx_ok hc rfl rfl ?_;refine idx_ok hc rfl rfl ?_;refine ⟨by decide,by decide,K.c27 29 rfl rfl,lexpr_sp K he hel hn hx hy hc fun J1 x1=>?_⟩;have hc1:=x1.get hc;refine ⟨by decide,by decide,K.c27 30 rfl rfl,lcond_sp K hc7 hcl hc1 ?_⟩;refine opt_ok K.g5 ?_;refine opt_ok (ix_nat hn) (opt_ok (a:=spL 2 n) (lt5 (P:=fun n=>[AV.none,.int 2,.int 3,.int 4,.none][n]?=some (spL 2 n)) rfl rfl rfl rfl rfl hn) ?_);refine ⟨by decide,by decide,?_⟩;refine opt_ok (a:=u) (by rw [hu3]; exact ix_nat hul) (opt_ok (a:=.tup [.str (at? lT u),spL u n]) (lt3 (P:=fun u=>[AV.tup [.str [120],.int 0],.tup [.str [89],.int 1],.tup [.str [97,91,35,32,45,32,49,93],spL 2 n]][u]?=some (.tup [.str (at? lT u),spL u n])) rfl rfl rfl hul) ?_);refine opt_ok K.g6 ?_;refine opt_ok (ix_nat (show k<(lSteps.map AV.str).length from hk)) (opt_ok (lst_at hk) ?_);refine ⟨cn,tx_ne a.2,rsz lS a1 rfl,?_⟩;refine ⟨cn,tx_ne b.2,rsz n1 b1 rfl,?_⟩;refine ⟨cn,tx_ne t.2,rsz n2 t1 rfl,?_⟩;refine ⟨An hn (by decide),cn,tx_ne d.2,rsz n3 d1 rfl,?_⟩;refine ⟨K.c27 27 rfl rfl,quot_sp K (hx.small (by decide)) (by decide +kernel) ?_⟩;show ssW T (callW T D (m+3)) ir31z1 (upd (upd (upd (upd (upds (upds (upds (upd (upd (fun i=>[AV.int k,.int j,.int n,.obj co][i]?) 4 (.int x)) 5 (.int y)) [6,7] [.str (at? lE e),oV (eV e n x y p q r)]) [8,9] [.str (at? lC c),.bool (cV c n x y)]) [10,11] [.str (at? lT u),spL u n]) 12 (.str (replTx [35] (intTx n) (replTx [84] (at? lT u) (replTx [67] (at? lC c) (replTx [69] (at? lE e) (at? lSteps k))))))) 13 (.int (low x))) 14 (.obj J1.length)) 15 (.int 0)) (J1++[.list []]) (endQ Q) (fun _ J'=>X J');have hlt:=(Ai hc1).1;refine z1_sp (m:=m+2) (X:=X) (J₀:=J1) (oo:=J1.length) (co:=co) (e:=e) (c:=c) (u:=u) K hk hul hn hok ((Ext.refl _).push) (Aj _) (Nat.ne_of_lt hlt) (get_push hc1) get_top ?_ fun J' co' oo' L O t hx' hL hO hS=>h J' co' oo' L O t (x1.trans hx') hL hO hS;exact ⟨rfl,rfl,rfl,rfl,rfl,rfl,rfl,rfl,rfl,rfl,rfl,rfl⟩
end
noncomputable def chOf (q:Int×Int×Int):Ch:=⟨(q.1.fmod 10).toNat,(q.2.1.fmod 10).toNat,(q.2.1.fmod 7).toNat,(q.2.1.fmod 3).toNat,(q.2.2.fmod 5).toNat⟩
theorem chOf_ok (q:Int×Int×Int):(chOf q).ok:=
 ⟨(fmod_nat q.1 (b:=10) (by decide)).2,(fmod_nat q.2.1 (b:=10) (by decide)).2,(fmod_nat q.2.1 (b:=7) (by decide)).2,(fmod_nat q.2.1 (b:=3) (by decide)).2,(fmod_nat q.2.2 (b:=5) (by decide)).2⟩
noncomputable def Ch.txt (h:Ch):Tx:=stepText h.k h.e h.c h.u h.n
noncomputable def tq (q:Int×Int×Int):AV:=.tup [.int q.1,.int q.2.1,.int q.2.2]
theorem fits_le:∀ {m n n':Nat},n<=n'->fits m n'->fits m n
 | 0,_,_,_,_=>trivial
 | m+1,n,n',h,f=>⟨Aa h f.1,fits_le (Aq h (Al h 15)) f.2⟩
theorem memNone_ints:∀ l:List Int,memNone (l.map AV.int)=some false
 | []=>rfl
 | a::l=>memNone_ints l
noncomputable def addR (W:List Int)(N:Nat):Option (List Int×Nat)->Option (List Int×Nat)
 | some w=>some (W++w.1,w.2+N)
 | Option.none=>Option.none
section
variable {T:Stat}{D:Nat->Option FDef}{m:Nat}{QQ:QF}{XX:XS}
structure LI (tot:Option (List Int×Nat))(rem:List Ch)(nb:Nat)(x y p q r:Int)(W:List Int)(N:Nat)(b:Bool)(Bs:List Tx)(co bo wo:Nat)(e:Ev)(J:Store):Prop where
 e1:e 1=some (.obj co)
 e3:e 3=some (.obj bo)
 e4:e 4=some (.obj wo)
 e5:e 5=some (.int ((N+4:Nat):Int))
 e6:e 6=some (.bool b)
 hc:J[co]?=some (.list (cl x y p q r))
 hb:J[bo]?=some (.list (Bs.map .str))
 hw:J[wo]?=some (.list (W.map .int))
 le:LB nb (Mn x y p q r)
 tt:b=true->tot=addR W N (runs rem x y p q r)
 tf:b=false->tot=Option.none
 lw:W.length<=100
theorem forT_cons {C:Calls}{is:List Nat}{vs:List AV}{b:Ss}{r:List AV}{e1:Ev}{J:Store}(hl:Nat.beq vs.length is.length=true)(h:∀ QQ':QF,(∀ e' J',forW (tgT is) (ssW T C b) r e' J' QQ XX->QQ' .next e' J')->ssW T C b (upds e1 is vs) J QQ' XX):forW (tgT is) (ssW T C b) (.tup vs::r) e1 J QQ XX:=grd_ok hl (h _ fun _ _ g=>g)
theorem str1 (Bs:List Tx)(t:Tx):Bs.map AV.str++[.str t]=(Bs++[t]).map AV.str:=(List.map_append (l₂:=[t])).symm
theorem body33 (K:Law3 T D){tot:Option (List Int×Nat)}{qk:Int×Int×Int}{rem:List Ch}{nb N co bo wo:Nat}{x y p q r:Int}{W:List Int}{b:Bool}{Bs:List Tx}{e:Ev}{J:Store}(h3:3<=nb)(hfit:nb<=80)(hwl:W.length+9<=90)(hbl:Bs.length+1<=9)(I:LI tot (chOf qk::rem) nb x y p q r W N b Bs co bo wo e J)
  (h:∀ e' J' nb' x' y' p' q' r' W' N' b' co' bo' wo',e' 0=e 0->e' 2=e 2->nb<=nb'->nb'<=nb+(nb+15)->W'.length<=W.length+9->LI tot rem nb' x' y' p' q' r' W' N' b' (Bs++[(chOf qk).txt]) co' bo' wo' e' J'->QQ .next e' J') :
  ssW T (callW T D (m+4)) ir33f1 (upds e [7,8,9] [.int qk.1,.int qk.2.1,.int qk.2.2]) J QQ XX:=by
 obtain ⟨k1,k2,k3,k4,k5⟩:=chOf_ok qk;have hL:=I.le.le hfit;refine ⟨by decide,by decide,by decide,by decide,var_ok (e:=upds e [7,8,9] _) (i:=1) I.e1 ⟨K.c27 31 rfl rfl,step_sp (k:=(chOf qk).k) (n:=(chOf qk).n) K (fmod_nat qk.1 (b:=10) (by decide)).1 (fmod_nat qk.2.2 (b:=5) (by decide)).1 k1 k5 hL.2.2.2.1 hL.2.2.2.2.1 (fun k=>fOk_bd k _ _ _ nb (Aa (by decide) h3) (Aa (Aq hfit (Nat.mul_le_mul_left 4 (to2 _ k5))) (by decide)) (d2 k5) I.le) I.hc fun J1 co1 oo1 L O t x1 hL1 hO1 hS=>?_⟩⟩;have hS:StepPost (stepK (chOf qk).k (chOf qk).n x) ((chOf qk).run x y p q r) L O t:=hS;refine var_ok (e:=upds (upds e [7,8,9] _) [10,11,12,13] _) (i:=3) I.e3 (lst_ok (get_push (x1.get I.hb)) (lst_ok get_top ⟨?_,?_⟩))
 ·rw [Ah]; exact Aa hbl (by decide:9<=1000000)
 rw [show (Bs.map AV.str++[AV.str (stepText (chOf qk).k (qk.2.1.fmod 10).toNat (qk.2.1.fmod 7).toNat (qk.2.1.fmod 3).toNat (chOf qk).n)])=(Bs++[(chOf qk).txt]).map AV.str from str1 Bs _];have ex:Ext J1 (J1++[MO.list [AV.str (chOf qk).txt]]++[MO.list ((Bs++[(chOf qk).txt]).map AV.str)]):=(Ext.refl _).push.push;have ob:=step_bd (k:=(chOf qk).k) (e:=(chOf qk).e) (c:=(chOf qk).c) (u:=(chOf qk).u) h3 I.le k1 k2 k5;have hob:OB (nb+(nb+15)) ((chOf qk).run x y p q r):=ob;have tt:=I.tt;unfold runs at tt;revert hS hob tt;cases (chOf qk).run x y p q r with
 | none=>
  rintro ⟨b1,b2,m1,m2,m3⟩ _ tt;have g:=fun e' (g0:e' 0=e 0) (g2:e' 2=e 2) (g1:e' 1=some (.obj co)) (g3:e' 3=some (.obj _)) (g4:e' 4=some (.obj wo)) (g5:e' 5=some (.int ((N+4:Nat):Int))) (g6:e' 6=some (.bool false))=>h e' (J1++[MO.list [AV.str (chOf qk).txt]]++[MO.list ((Bs++[(chOf qk).txt]).map AV.str)]) nb x y p q r W N false co _ wo g0 g2 (Aj _) (Af _ _) (Af _ _) ⟨g1,g3,g4,g5,g6,(x1.trans ex).get I.hc,get_top,(x1.trans ex).get I.hw,I.le,(fun h=>by cases h),fun _=>by
   cases b with
   | true=>exact tt rfl
   | false=>exact I.tf rfl,I.lw⟩
  refine lst_ok (ex.get hL1) (opt_ok m1 ?_);cases b1 with
  | true=>exact g _ rfl rfl I.e1 rfl I.e4 I.e5 rfl
  | false=>
   have hb2:b2=true:=m3;subst hb2;exact lst_ok (ex.get hO1) (opt_ok m2 (g _ rfl rfl I.e1 rfl I.e4 I.e5 rfl))
 | some s=>
  rintro ⟨rfl,rfl,rfl⟩ ob tt;refine lst_ok (ex.get hL1) (opt_ok (a:=false) rfl (lst_ok (ex.get hO1) (opt_ok (memNone_ints _) ?_)));refine var_ok (e:=upd (upd (upds (upds e [7,8,9] _) [10,11,12,13] _) 3 _) 1 _) (i:=4) I.e4 ?_;refine lst_ok ((x1.trans ex).get I.hw) (lst_ok (ex.get hO1) ⟨?_,?_⟩)
  ·rw [Ah,Ah]; exact Aa (Aq I.lw ob.2) (by decide:109<=1000000)
  refine var_ok (e:=upd (upd (upd (upds (upds e [7,8,9] _) [10,11,12,13] _) 3 _) 1 _) 4 _) (i:=5) I.e5 ?_;have lw:(W++s.out).length<=W.length+9:=by rw [Ac]; exact Ak ob.2 _
  rw [← List.map_append];refine h _ _ (nb+(nb+15)) s.x s.y s.p s.q s.r (W++s.out) (N+stepK (chOf qk).k (chOf qk).n x) b co1 _ _ rfl rfl (Af _ _) (Aj _) lw ⟨rfl,rfl,rfl,?_,I.e6,get_push (ex.get hL1),get_push get_top,get_top,ob.1,fun hb=>?_,I.tf,Aa lw (Aa hwl (by decide))⟩
  ·show some (AV.int ((N+4+stepK (chOf qk).k (chOf qk).n x:Nat):Int))=some (AV.int ((N+stepK (chOf qk).k (chOf qk).n x+4:Nat):Int));rw [Aw]
  ·refine (tt hb).trans ?_;show addR W N (match runs rem s.x s.y s.p s.q s.r with
    | Option.none=>Option.none
    | some w=>some (s.out++w.1,w.2+stepK (chOf qk).k (chOf qk).n x))=_
   cases runs rem s.x s.y s.p s.q s.r with
   | none=>rfl
   | some w=>
    show some (W++(s.out++w.1),w.2+stepK (chOf qk).k (chOf qk).n x+N)=some (W++s.out++w.1,w.2+(N+stepK (chOf qk).k (chOf qk).n x));rw [Ae,Nat.add_assoc,Nat.add_comm N]
theorem loop33 (K:Law3 T D){tot:Option (List Int×Nat)}:∀ (qs:List (Int×Int×Int)) (nb:Nat) (x y p q r:Int) (W:List Int) (N:Nat) (b:Bool) (Bs:List Tx) (co bo wo:Nat) (e:Ev) (J:Store),
  3<=nb->fits qs.length nb->W.length+9*qs.length<=90->Bs.length+qs.length<=9->LI tot (qs.map chOf) nb x y p q r W N b Bs co bo wo e J->
  (∀ e' J' nb' x' y' p' q' r' W' N' b' co' bo' wo',e' 0=e 0->e' 2=e 2->LI tot [] nb' x' y' p' q' r' W' N' b' (Bs++(qs.map chOf).map Ch.txt) co' bo' wo' e' J'->QQ .next e' J')->
  forW (tgT [7,8,9]) (ssW T (callW T D (m+4)) ir33f1) (qs.map tq) e J QQ XX:=by
 intro qs
 induction qs with
 | nil=>exact fun nb x y p q r W N b Bs co bo wo e J _ _ _ _ I h=>h e J nb x y p q r W N b co bo wo rfl rfl ((List.append_nil Bs).symm▸I)
 | cons qk qs ih=>
  intro nb x y p q r W N b Bs co bo wo e J h3 hfit hwl hbl I h;refine forT_cons rfl fun QQ' hq=>body33 K h3 hfit.1 (Aa (Ak (Nat.le_mul_of_pos_right 9 (Nat.succ_pos _)) _) hwl) (Aa (Ak (Au (Nat.zero_le _)) _) hbl) I fun e' J' nb' x' y' p' q' r' W' N' b' co' bo' wo' g0 g2 l1 l2 lw I'=>hq _ _ ?_;refine ih nb' x' y' p' q' r' W' N' b' _ co' bo' wo' e' J' (Aa h3 l1) (fits_le l2 hfit.2) ?_ ?_ I' fun e2 J2 nb2 x2 y2 p2 q2 r2 W2 N2 b2 co2 bo2 wo2 f0 f2 I2=>h e2 J2 nb2 x2 y2 p2 q2 r2 W2 N2 b2 co2 bo2 wo2 (f0.trans g0) (f2.trans g2) ?_
  ·refine Aa (Al lw _) ?_;rw [Nat.add_assoc,Nat.add_comm 9]; exact hwl
  ·rw [Ac,Nat.add_assoc,Nat.add_comm _ qs.length]; exact hbl
  ·rw [Ae] at I2; exact I2
end
noncomputable def refT:Tx:=[114,101,102,117,115,101,100]
noncomputable def gotV:Option (List Int)->AV
 | some o=>.tup (o.map .int)
 | Option.none=>.str refT
theorem pyEqs_ints:∀ l:List Int,pyEqs (l.map .int) (l.map .int)=some true
 | []=>rfl
 | a::l=>by
  show (match some (decide (a=a)),pyEqs (l.map .int) (l.map .int) with
   | some x,some y=>some (x&&y)
   | _,_=>Option.none)=_
  rw [pyEqs_ints l,decide_eq_true (rfl:a=a)]; rfl
theorem depths_ints:∀ l:List Int,AV.depth.depths (l.map .int)=0
 | []=>rfl
 | a::l=>by
  show max 0 (AV.depth.depths (l.map .int))=0;rw [depths_ints l]; rfl
theorem got_eq (r:Option (List Int)):pyEq (gotV r) (gotV r)=some true∧Nat.ble (gotV r).depth 100=true:=by
 cases r with
 | none=>exact ⟨congrArg some (txEq_self _),rfl⟩
 | some o=>exact ⟨pyEqs_ints o,by show Nat.ble (AV.depth.depths (o.map .int)+1) 100=true; rw [depths_ints]; rfl⟩
section
variable {T:Stat}{D:Nat->Option FDef}{m:Nat}
theorem try_sp (K:Law3 T D)(hm:130<=m){text:Tx}{fu:Int}{res:Option (List Int)}{J:Store}{Q:QV}{X:QX}(hE:Ev3 text fu res)(h:∀ J',Q (gotV res) J'):callW T D (m+1) 32 [.str text,.int fu] J Q X:=by
 refine ⟨ir32,K.d32,rfl,?_⟩;refine ⟨K.ck 26 rfl rfl,eval_sp K.toCore hm hE ?_⟩;cases res with
 | some o=>exact fun J' _=>h J'
 | none=>exact fun J'=>h J'
noncomputable def tstB:Bl:=.mk [([120],Option.none)] .nil (.one (.write (tMinus vX (.int 3))))
theorem tst_parse:parseT lTest=.ok ([113],tstB):=by kernel_rfl
noncomputable def tstC:List In:=[.jmp 1,.int 1,.lod 0 3,.lit 3,.opr [45],.wrt,.ret]
theorem tst_comp:compT tstB=.ok tstC:=by kernel_rfl
theorem tst_ev:Ev3 lTest 0 (some [-3]):=by
 refine Ev3.run tst_parse tst_comp ?_;refine .step (.jmp (p:=1) rfl) (.step (.int (n:=1) rfl (by decide)) (.step (.lod (l:=0) (a:=3) (b':=0) (v:=0) rfl (by decide) rfl rfl) (.step (.lit (n:=3) rfl (by decide)) ?_)));refine .step (.opr (st:=[0,0,0,0]) (s:=[45]) (x:=0) (y:=3) (v:=-3) rfl rfl (by decide) rfl) ?_;exact .step (.wrt rfl (by decide)) (.last (.done rfl))
noncomputable abbrev fq:QF:=endQ fun a _=>a=AV.bool true
theorem types_sp (K:Law3 T D){XX:XS}{QQ:QF}:∀ (l:List Int) (e:Ev) (J:Store),(∀ e',QQ .next e' J)->forW (tg1 22) (ssW T (callW T D m) ir33f0) (l.map .int) e J QQ XX
 | [],e,J,h=>h e
 | a::l,e,J,h=>by
  refine for1_cons (x:=.int a) fun QQ' hq=>?_;refine opt_ok K.g2 ?_;exact hq _ _ (types_sp K l _ J h)
theorem lz0 (K:Law3 T D)(hm:130<=m){res:Option (List Int)}{b:Bool}(hb:b=true->res.isSome=true){e:Ev}{J:Store}(h20:e 20=some (gotV res))(h21:e 21=some (gotV res))(h6:e 6=some (.bool b)){XX:XS}:ssW T (callW T D (m+1)) ir33z0 e J fq XX:=by
 obtain ⟨g1,g2⟩:=got_eq res;have last:∀ (e:Ev) (J:Store),ssW T (callW T D (m+1)) (ssDrop 2 ir33z0) e J fq XX:=fun e J=>⟨K.c27 32 rfl rfl,try_sp K hm tst_ev fun J'=>rfl⟩;refine var_ok h21 (var_ok h20 (eq_ok g1 g2 ?_));refine var_ok h6 (if_ok (fun hb'=>?_) fun _=>last _ _);cases res with
 | none=>cases hb hb'
 | some o=>exact var_ok h21 (types_sp K o _ _ fun e'=>last _ _)
variable {nts:List Int}
noncomputable def sc (nts:List Int)(i:Nat):Int:=nts.getD i 0
theorem sc_ix (h:15<=nts.length){i:Nat}(hi:Nat.blt i 15=true):ixOf (i:Int) (nts.map AV.int).length=some i:=ix_nat (by rw [Ah]; exact An (Ad hi) h)
theorem sc_at (h:15<=nts.length){i:Nat}(hi:Nat.blt i 15=true):(nts.map AV.int)[i]?=some (.int (sc nts i)):=by
 have hl:i<nts.length:=An (Ad hi) h;unfold sc;rw [List.getElem?_map,List.getD_eq_getElem?_getD,List.getElem?_eq_getElem hl]; rfl
noncomputable def resB (b:Bool)(o:List Int)(N F:Nat):Option (List Int):=match b with
 | true=>cut (4+N) F (some o)
 | false=>Option.none
theorem want_eq (W:List Int)(x y p q r:Int):W.map AV.int++cl x y p q r++[.int 2]=(W++[x,y,p,q,r,2]).map AV.int:=by
 rw [List.map_append,Ae]; rfl
theorem lz1 (K:Law3 T D)(hm:130<=m)(hn:15<=nts.length){whole:Tx}{x y p q r:Int}{W:List Int}{N:Nat}{b:Bool}{co wo:Nat}{e:Ev}{J:Store}(h0:e 0=some (.frz (nts.map .int)))(h1:e 1=some (.obj co))(h4:e 4=some (.obj wo))(h5:e 5=some (.int ((N+4:Nat):Int)))(h6:e 6=some (.bool b))(h16:e 16=some (.str whole))(hc:J[co]?=some (.list (cl x y p q r)))(hwo:J[wo]?=some (.list (W.map .int)))(lw:W.length<=100)
  (hE:∀ F:Nat,Ev3 whole F (resB b (W++[x,y,p,q,r,2]) N F)) {XX:XS}:ssW T (callW T D (m+1)) ir33z1 e J fq XX:=by
 obtain ⟨hg,hg3⟩:=fmod_nat (sc nts 14) (b:=3) (by decide);have hg:(sc nts 14).fmod 3=(((sc nts 14).fmod 3).toNat:Int):=hg;revert hg hg3;generalize ((sc nts 14).fmod (3:Nat)).toNat=g;intro hg3 hg;have hF:((N+4:Nat):Int)+(sc nts 14).fmod 3-1=((N+3+g:Nat):Int):=by omega
 have E:=hE (N+3+g);have fin:∀ (b':Bool) (res:Option (List Int)) (e':Ev) (J':Store),(b'=true->res.isSome=true)->Ev3 whole ((N+3+g:Nat):Int) res->e' 6=some (.bool b')->e' 16=some (.str whole)->e' 19=some (.int ((N+3+g:Nat):Int))->e' 20=some (gotV res)->ssW T (callW T D (m+1)) (ssDrop 4 ir33z1) e' J' fq XX:=
  fun b' res e' J' hb hE' q6 q16 q19 q20=>var_ok q16 (var_ok q19 ⟨K.c27 32 rfl rfl,try_sp K hm hE' fun J''=>lz0 (e:=upd e' 21 _) K hm hb q20 rfl q6⟩)
 refine var_ok h5 (var_ok h0 (opt_ok (sc_ix (i:=14) hn rfl) (opt_ok (sc_at (i:=14) hn rfl) ⟨by decide,by decide,?_⟩)));show ssW T (callW T D (m+1)) (ssDrop 1 ir33z1) (upd e 19 (.int (((N+4:Nat):Int)+(sc nts 14).fmod 3-1))) J fq XX;rw [hF];refine var_ok (e:=upd e 19 _) (i:=5) h5 (if_ok (fun hlt=>?_) fun hlt=>?_)
 ·have hlt:((N+3+g:Nat):Int)<((N+4:Nat):Int):=Ax hlt;refine fin false Option.none _ _ (fun h=>by cases h) ?_ rfl h16 rfl rfl;cases b with
  | false=>exact E
  | true=>
   have hf:Nat.ble (4+N) (N+3+g)=false:=Bool.eq_false_iff.mpr fun h=>by have:=Ad h; omega
   have E:Ev3 whole _ (match Nat.ble (4+N) (N+3+g) with
    | true=>some (W++[x,y,p,q,r,2])
    | false=>Option.none):=E
   rw [hf] at E; exact E
 ·have hlt:¬ ((N+3+g:Nat):Int)<((N+4:Nat):Int):=of_decide_eq_false hlt;cases b with
  | false=>exact var_ok (e:=upd (upd e 19 _) 20 _) (i:=6) h6 (fin false Option.none _ _ (fun h=>by cases h) E h6 h16 rfl rfl)
  | true=>
   have hf:Nat.ble (4+N) (N+3+g)=true:=Nat.ble_eq_true_of_le (by omega);have E:Ev3 whole _ (match Nat.ble (4+N) (N+3+g) with
    | true=>some (W++[x,y,p,q,r,2])
    | false=>Option.none):=E
   rw [hf] at E;refine var_ok (e:=upd (upd e 19 _) 20 _) (i:=6) h6 (var_ok (e:=upd (upd e 19 _) 20 _) (i:=4) h4 (var_ok (e:=upd (upd e 19 _) 20 _) (i:=1) h1 (lst_ok hwo (lst_ok hc ⟨?_,?_⟩))))
   ·rw [Ah]; exact Aa (Al lw 5) (by decide:105<=1000000)
   refine lst_ok (get_push get_top) (lst_ok get_top ⟨?_,?_⟩)
   ·rw [Ac,Ah]; exact Aa (Al (Al lw 5) 1) (by decide:106<=1000000)
   refine lst_ok get_top ?_;exact fin true (some (W++[x,y,p,q,r,2])) _ _ (fun _=>rfl) E h6 h16 rfl (congrArg (fun l=>some (AV.tup l)) (want_eq W x y p q r))
end
theorem numTx:allN (fun i=>txEq (intTx (num i)) (numX i)&&Nat.ble (numX i).length 2) 9=true:=by decide +kernel
theorem join_seg (tl:Tx):∀ (t:Tx) (ts:List Tx),32::(joinTx [59,32] (t::ts)++59::tl)=segT ((t::ts).map (32::·)) tl
 | t,[]=>rfl
 | t,u::ts=>by
  have ih:=join_seg tl u ts;show 32::(t++[59,32]++joinTx [59,32] (u::ts)++59::tl)=32::t++59::segT ((u::ts).map (32::·)) tl;rw [← ih,Ae,Ae]; rfl
theorem join_len (s:Tx):∀ ts:List Tx,(joinTx s ts).length<=(ts.map List.length).sum+ts.length*s.length
 | []=>Nat.zero_le _
 | [t]=>Aa (Af t.length 0) (Af _ _)
 | t::u::ts=>by
  have ih:=join_len s (u::ts);show (t++s++joinTx s (u::ts)).length<=t.length+((u::ts).map List.length).sum+((u::ts).length+1)*s.length;rw [Ac,Ac,Nat.succ_mul,Nat.add_assoc,Nat.add_assoc];exact Ak (Aa (Ak ih _) (Nat.le_of_eq (by rw [Nat.add_comm,Nat.add_assoc]))) _
theorem txsOf_map:∀ l:List Tx,txsOf (l.map .str)=some l
 | []=>rfl
 | t::l=>by
  show (txsOf (l.map .str)).map (t::·)=_;rw [txsOf_map l]; rfl
noncomputable def startX (i j:Nat):Tx:=numX i++[59,32,121,32,58,61,32]++numX j++[59,32]
theorem tail_eq:lTail=59::tl0:=by decide +kernel
theorem whole_eq (i j:Nat)(t:Tx)(ts:List Tx):lHead++startX i j++joinTx [59,32] (t::ts)++lTail=progT i (yX j::(t::ts).map (32::·)):=by
 have e:=join_seg tl0 t ts;rw [head_eq,tail_eq];unfold progT startX;show _=hd0++(xX i++59::(yX j++59::segT ((t::ts).map (32::·)) tl0));rw [← e];unfold xX yX;rw [Ae,Ae,Ae,Ae,Ae,Ae,Ae]; rfl
theorem turned_ck:allN (fun b=>!txEq (tOld b) []&&!txEq (tOld b) (tNew b)&&Nat.ble (tNew b).length 30) 12=true:=by decide +kernel
theorem lens:(Nat.ble lHead.length 400&&Nat.ble lTail.length 101&&Nat.ble lIf.length 20&&allN (fun b=>Nat.ble (at? lBad b).length 50) 12)=true:=by decide +kernel
section
variable {T:Stat}{D:Nat->Option FDef}{nts:List Int}{m:Nat}
theorem lz2 (K:Law3 T D)(hm:130<=m)(hn:15<=nts.length){i j:Nat}(hi:i<9)(hj:j<9){t0:Tx}{ts:List Tx}(hts:((t0::ts).map List.length).sum<=2000)(htl:(t0::ts).length<=9){x y p q r:Int}{W:List Int}{N:Nat}{fl:Int}{b:Bool}{co bo wo:Nat}{e:Ev}{J:Store}(h0:e 0=some (.frz (nts.map .int)))(h1:e 1=some (.obj co))(h2:e 2=some (.str (startX i j)))(h3:e 3=some (.obj bo))(h4:e 4=some (.obj wo))(h5:e 5=some (.int ((N+4:Nat):Int)))(h6:e 6=some (.bool b))(h14:e 14=some (.int fl))(hc:J[co]?=some (.list (cl x y p q r)))(hbo:J[bo]?=some (.list ((t0::ts).map .str)))(hwo:J[wo]?=some (.list (W.map .int)))(lw:W.length<=100)
  (hE:fl≠3->∀ F:Nat,Ev3 (progT i (yX j::(t0::ts).map (32::·))) F (resB b (W++[x,y,p,q,r,2]) N F))
  (hE3:fl=3->∀ (tb:Nat),tb<12->∀ fu:Int,Ev3 (replTx (tOld tb) (tNew tb) (progT i (yX j::(t0::ts).map (32::·)))) fu Option.none) {XX:XS}:ssW T (callW T D (m+1)) ir33z2 e J fq XX:=by
 have ck:=Ab lens;have ck:=Ab ck.1;have ck:=Ab ck.1;have lH:=Ad ck.1;have lT:=Ad ck.2;have nx:=Ad (Ab (allN_at numTx hi)).2;have ny:=Ad (Ab (allN_at numTx hj)).2;have sl:(startX i j).length<=13:=by
  unfold startX;rw [Ac,Ac,Ac];exact Al (Aq (Al nx 7) ny) 2
 have js:((t0::ts).map List.length).sum+(t0::ts).length*2<=2018:=Aq hts (Nat.mul_le_mul_right 2 htl);have jl:(joinTx [59,32] (t0::ts)).length<=2018:=Aa (join_len [59,32] (t0::ts)) js;have l1:(lHead++startX i j).length<=413:=by rw [Ac]; exact Aq lH sl
 have l2:(lHead++startX i j++joinTx [59,32] (t0::ts)).length<=2431:=by rw [Ac]; exact Aq l1 jl
 have wl:(progT i (yX j::(t0::ts).map (32::·))).length<=2532:=by rw [← whole_eq,Ac]; exact Aq l2 lT
 refine opt_ok K.g3 (var_ok h2 ⟨Aa (Aq lH sl) (by decide:413<=1000000),var_ok h3 (lst_ok hbo ⟨t0::ts,txsOf_map _,Aa js (by decide:2018<=1000000),?_⟩)⟩);refine ⟨Aa (Aq l1 jl) (by decide:413+2018<=1000000),opt_ok K.g4 ⟨Aa (Aq l2 lT) (by decide:2431+101<=1000000),?_⟩⟩;show ssW T (callW T D (m+1)) (ssDrop 1 ir33z2) (upd e 16 (.str (lHead++startX i j++joinTx [59,32] (t0::ts)++lTail))) J fq XX;rw [whole_eq];refine var_ok (e:=upd e 16 _) (i:=14) h14 (if_ok (b:=decide (fl=3)) (fun hf=>?_) fun hf=>?_)
 ·obtain ⟨ht,ht12⟩:=fmod_nat (sc nts 12) (b:=12) (by decide);have ht:(sc nts 12).fmod 12=(((sc nts 12).fmod 12).toNat:Int):=ht;revert ht ht12;generalize ((sc nts 12).fmod (12:Nat)).toNat=tb;intro ht12 ht;have c:=Ab (allN_at turned_ck ht12);have c':=Ab c.1;have hl:tb<(lTurned.map fun q=>AV.tup [.str q.1,.str q.2]).length:=ht12;refine opt_ok K.g8 (var_ok (e:=upd e 16 _) (i:=0) h0 (opt_ok (sc_ix (i:=12) hn rfl) (opt_ok (sc_at (i:=12) hn rfl) ⟨by decide,by decide,?_⟩)));refine opt_ok (a:=tb) (by rw [ht]; exact ix_nat hl) (opt_ok (a:=.tup [.str (tOld tb),.str (tNew tb)]) ?_ ?_)
  ·unfold tOld tNew;rw [List.getElem?_map,List.getD_eq_getElem?_getD,List.getElem?_eq_getElem (show tb<lTurned.length from ht12)]; rfl
  refine ⟨tx_ne c'.1,tx_ne c'.2,rsz wl (Ad c.2) rfl,?_⟩;exact lz1 (b:=false) (e:=upd (upd (upds (upd e 16 _) [17,18] [.str (tOld tb),.str (tNew tb)]) 16 _) 6 _) K hm hn h0 h1 h4 h5 rfl rfl hc hwo lw fun F=>hE3 (Ax hf) tb ht12 F
 ·exact lz1 (e:=upd e 16 _) K hm hn h0 h1 h4 h5 h6 rfl hc hwo lw (hE (of_decide_eq_false hf))
theorem txt_len {h:Ch}(ok:h.ok):h.txt.length<=200:=Aa (Nat.le_succ _) (Ad (ch_par ok.ok').2)
theorem ks_len {a b c:Tx}(ha:a.length<=200)(hb:b.length<=200)(hc:c.length<=200):([a,b,c].map List.length).sum<=2000:=Aa (Aq ha (Aq hb (Al hc 0))) (by decide)
theorem ks_len4 {a b c d:Tx}(ha:a.length<=200)(hb:b.length<=200)(hc:c.length<=200)(hd:d.length<=200):([a,b,c,d].map List.length).sum<=2000:=Aa (Aq ha (Aq hb (Aq hc (Al hd 0)))) (by decide)
theorem num_str {k:Nat}(hk:k<9):intTx (num k)=numX k∧(num k).natAbs<2 ^ 100:=⟨txEq_of (Ab (allN_at numTx hk)).1,An (num_bd hk) (by decide)⟩
noncomputable def ssBad:Ss->Ss
 | .cons _ (.cons (.ifs _ (.cons _ r) _) _)=>r
 | _=>.nil
theorem lz3 (K:Law3 T D)(hm:130<=m)(hn:15<=nts.length){i j:Nat}(hi:i<9)(hj:j<9){h1 h2 h3:Ch}(o1:h1.ok)(o2:h2.ok)(o3:h3.ok){nb:Nat}{x y p q r:Int}{W:List Int}{N:Nat}{b:Bool}{co bo wo:Nat}{e:Ev}{J:Store}(w0:e 0=some (.frz (nts.map .int)))(w2:e 2=some (.str (startX i j)))
  (I:LI (runs [h1,h2,h3] (num i) (num j) 0 0 0) [] nb x y p q r W N b [h1.txt,h2.txt,h3.txt] co bo wo e J) {XX:XS}:ssW T (callW T D (m+1)) ir33z3 e J fq XX:=by
 have ok:∀ h∈[h1,h2,h3],h.ok:=fun h hh=>(List.mem_cons.mp hh).elim (fun q=>q▸o1) fun hh=>(List.mem_cons.mp hh).elim (fun q=>q▸o2) fun hh=>(List.mem_cons.mp hh).elim (fun q=>q▸o3) fun hh=>absurd hh List.not_mem_nil;have l1:=txt_len o1;have l2:=txt_len o2;have l3:=txt_len o3;have good:∀ F:Nat,Ev3 (progT i (yX j::[h1.txt,h2.txt,h3.txt].map (32::·))) F (resB b (W++[x,y,p,q,r,2]) N F):=fun F=>by
  have:=evalGood hi hj ok rfl F;cases b with
  | true=>rw [I.tt rfl] at this; exact this
  | false=>rw [I.tf rfl] at this; exact this
 refine var_ok w0 (opt_ok (sc_ix (i:=11) hn rfl) (opt_ok (sc_at (i:=11) hn rfl) ⟨by decide,by decide,?_⟩));generalize (sc nts 11).fmod 4=fl;refine if_ok (b:=decide (fl=2)) (fun hf=>?_) fun hf=>?_
 ·have hf:=Ax hf;subst hf;obtain ⟨ht,ht12⟩:=fmod_nat (sc nts 12) (b:=12) (by decide);have ht:(sc nts 12).fmod 12=(((sc nts 12).fmod 12).toNat:Int):=ht;obtain ⟨hp,hp3⟩:=fmod_nat (sc nts 13) (b:=3) (by decide);have hp:(sc nts 13).fmod 3=(((sc nts 13).fmod 3).toNat:Int):=hp;revert ht ht12 hp hp3;generalize ((sc nts 12).fmod (12:Nat)).toNat=tb;generalize ((sc nts 13).fmod (3:Nat)).toNat=pp;intro ht12 ht hp3 hp;have ck:=Ab lens;have lb:=Ad (allN_at ck.2 ht12);have li:=Ad (Ab ck.1).2;have lt:(lIf++at? lBad tb).length<=200:=by rw [Ac]; exact Aa (Aq li lb) (by decide)
  refine var_ok (e:=upd e 14 _) (i:=0) w0 (opt_ok (sc_ix (i:=13) hn rfl) (opt_ok (sc_at (i:=13) hn rfl) ⟨by decide,by decide,?_⟩));show ssW T (callW T D (m+1)) (ssBad ir33z3) (upd (upd e 14 (.int 2)) 15 (.int ((sc nts 13).fmod 3))) J (fun f e₁ J1=>match f with
   | .next=>ssW T (callW T D (m+1)) ir33z2 e₁ J1 fq XX
   | f=>fq f e₁ J1) XX
  rw [hp];have hix:ixOf ((sc nts 12).fmod 12) (lBad.map AV.str).length=some tb:=by rw [ht]; exact ix_nat ht12
  have lt6:lIf.length+(at? lBad tb).length<=lid:=Aa (Aq li lb) (by decide:70<=1000000);have z2:=fun (t0:Tx) (ts:List Tx) (A C:List Ch) (hA:∀ h∈A,h.ok') (hC:∀ h∈C,h.ok') (hl:A.length+C.length=3) (et:(t0::ts).map (32::·)=A.map Ch.text++badX tb::C.map Ch.text) (hts:((t0::ts).map List.length).sum<=2000) (htl:(t0::ts).length<=9) (e':Ev) (J':Store) (bo':Nat) a0 a1 a2 a3 a4 a5 a6 a14 (c1:J'[co]?=_) (c2:J'[bo']?=_) (c3:J'[wo]?=_)=>lz2 (T:=T) (D:=D) (nts:=nts) (b:=false) (e:=e') (J:=J') (bo:=bo') (x:=x) (y:=y) (p:=p) (q:=q) (r:=r) (W:=W) (N:=N) (co:=co) (wo:=wo) (fl:=2) (XX:=XX) K hm hn hi hj hts htl a0 a1 a2 a3 a4 a5 a6 a14 c1 c2 c3 I.lw (fun _ F=>(et▸evalBad2 hi hj ht12 A C hA hC hl F:Ev3 (progT i (yX j::(t0::ts).map (32::·))) F Option.none)) (fun h=>by cases h);have kx:∀ {o:Nat} {mo:MO} {a1 a2 a3 a4 a5:MO},J[o]?=some mo->(J++[a1]++[a2]++[a3]++[a4]++[a5])[o]?=some mo:=fun h=>get_push (get_push (get_push (get_push (get_push h))));have q1:=o1.ok';have q2:=o2.ok';have q3:=o3.ok';have n0:∀ h∈([]:List Ch),h.ok':=fun h hh=>absurd hh List.not_mem_nil;have c1:∀ {h:Ch} {l:List Ch},h.ok'->(∀ g∈l,g.ok')->∀ g∈h::l,g.ok':=fun a b g hg=>(List.mem_cons.mp hg).elim (fun q=>q▸a) (b g);clear hp ht;refine lt3 (P:=fun pp=>ssW T (callW T D (m+1)) (ssBad ir33z3) (upd (upd e 14 (.int 2)) 15 (.int (pp:Nat))) J _ XX) ?_ ?_ ?_ hp3
  ·refine var_ok (e:=upd (upd e 14 _) 15 _) (i:=3) I.e3 (lst_ok I.hb ?_);refine opt_ok (a:=0) rfl ?_;refine opt_ok (a:=0) rfl ?_;refine opt_ok K.g7 (var_ok (e:=upd (upd e 14 _) 15 _) (i:=0) w0 (opt_ok (sc_ix (i:=12) hn rfl) (opt_ok (sc_at (i:=12) hn rfl) ⟨by decide,by decide,opt_ok (a:=tb) hix (opt_ok (lst_at ht12) ⟨lt6,?_⟩)⟩)));refine lst_ok (get_push get_top) (lst_ok get_top ⟨(by decide:0+1<=1000000),?_⟩);refine var_ok (e:=upd (upd e 14 _) 15 _) (i:=3) I.e3 (lst_ok (get_push (get_push (get_push I.hb))) ?_);refine lst_ok (get_push get_top) (lst_ok get_top ⟨(by decide:4<=1000000),?_⟩);exact z2 (lIf++at? lBad tb) [h1.txt,h2.txt,h3.txt] [] [h1,h2,h3] n0 (c1 q1 (c1 q2 (c1 q3 n0))) rfl rfl (ks_len4 lt l1 l2 l3) (by show 4<=9; decide) (upd (upd (upd (upd e 14 _) 15 _) 3 _) 6 _) _ _ w0 I.e1 w2 rfl I.e4 I.e5 rfl rfl (kx I.hc) get_top (kx I.hw)
  ·refine var_ok (e:=upd (upd e 14 _) 15 _) (i:=3) I.e3 (lst_ok I.hb ?_);refine opt_ok (a:=0) rfl ?_;refine opt_ok (a:=1) rfl ?_;refine opt_ok K.g7 (var_ok (e:=upd (upd e 14 _) 15 _) (i:=0) w0 (opt_ok (sc_ix (i:=12) hn rfl) (opt_ok (sc_at (i:=12) hn rfl) ⟨by decide,by decide,opt_ok (a:=tb) hix (opt_ok (lst_at ht12) ⟨lt6,?_⟩)⟩)));refine lst_ok (get_push get_top) (lst_ok get_top ⟨(by decide:1+1<=1000000),?_⟩);refine var_ok (e:=upd (upd e 14 _) 15 _) (i:=3) I.e3 (lst_ok (get_push (get_push (get_push I.hb))) ?_);refine lst_ok (get_push get_top) (lst_ok get_top ⟨(by decide:4<=1000000),?_⟩);exact z2 h1.txt [lIf++at? lBad tb,h2.txt,h3.txt] [h1] [h2,h3] (c1 q1 n0) (c1 q2 (c1 q3 n0)) rfl rfl (ks_len4 l1 lt l2 l3) (by show 4<=9; decide) (upd (upd (upd (upd e 14 _) 15 _) 3 _) 6 _) _ _ w0 I.e1 w2 rfl I.e4 I.e5 rfl rfl (kx I.hc) get_top (kx I.hw)
  ·refine var_ok (e:=upd (upd e 14 _) 15 _) (i:=3) I.e3 (lst_ok I.hb ?_);refine opt_ok (a:=0) rfl ?_;refine opt_ok (a:=2) rfl ?_;refine opt_ok K.g7 (var_ok (e:=upd (upd e 14 _) 15 _) (i:=0) w0 (opt_ok (sc_ix (i:=12) hn rfl) (opt_ok (sc_at (i:=12) hn rfl) ⟨by decide,by decide,opt_ok (a:=tb) hix (opt_ok (lst_at ht12) ⟨lt6,?_⟩)⟩)));refine lst_ok (get_push get_top) (lst_ok get_top ⟨(by decide:2+1<=1000000),?_⟩);refine var_ok (e:=upd (upd e 14 _) 15 _) (i:=3) I.e3 (lst_ok (get_push (get_push (get_push I.hb))) ?_);refine lst_ok (get_push get_top) (lst_ok get_top ⟨(by decide:4<=1000000),?_⟩);exact z2 h1.txt [h2.txt,lIf++at? lBad tb,h3.txt] [h1,h2] [h3] (c1 q1 (c1 q2 n0)) (c1 q3 n0) rfl rfl (ks_len4 l1 l2 lt l3) (by show 4<=9; decide) (upd (upd (upd (upd e 14 _) 15 _) 3 _) 6 _) _ _ w0 I.e1 w2 rfl I.e4 I.e5 rfl rfl (kx I.hc) get_top (kx I.hw)
 ·exact lz2 (e:=upd e 14 _) K hm hn hi hj (ks_len l1 l2 l3) (by show 3<=9; decide) w0 I.e1 w2 I.e3 I.e4 I.e5 I.e6 rfl I.hc I.hb I.hw I.lw (fun _=>good) fun _ tb htb fu=>evalBad3 (hs:=[h1,h2,h3]) htb hi hj ok rfl
end
section
variable {T:Stat}{D:Nat->Option FDef}{nts:List Int}
theorem addR0 (w:Option (List Int×Nat)):w=addR [] 0 w:=by cases w<;>rfl
noncomputable def srcOf:Ss->E
 | .cons (.forT _ s _) _=>s
 | _=>.none
theorem forT_st {C:Calls}{is:List Nat}{src:E}{b r:Ss}{s:S}{e:Ev}{J:Store}{QQ:QF}{XX:XS}(h:evW T C src e J (fun v J1=>optW (itemsOf v) fun l=>forW (tgT is) (ssW T C b) l e J1 (fun f e1 J1=>match f with
   | .next=>ssW T C (.cons s r) e1 J1 QQ XX
   | f=>QQ f e1 J1) XX) (XX e)):ssW T C (.cons (.forT is src b) (.cons s r)) e J QQ XX:=h
theorem trips {C:Calls}{e:Ev}{J:Store}{Q:QV}{X:QX}(h0:e 0=some (.frz (nts.map .int)))(hn:15<=nts.length)(q:Q (.tup ([(sc nts 2,sc nts 3,sc nts 4),(sc nts 5,sc nts 6,sc nts 7),(sc nts 8,sc nts 9,sc nts 10)].map tq)) J):evW T C (srcOf (ssDrop 7 ir33.body)) e J Q X:=by
 refine var_ok h0 (opt_ok (sc_ix (i:=2) hn rfl) (opt_ok (sc_at (i:=2) hn rfl) ?_));refine var_ok h0 (opt_ok (sc_ix (i:=3) hn rfl) (opt_ok (sc_at (i:=3) hn rfl) ?_));refine var_ok h0 (opt_ok (sc_ix (i:=4) hn rfl) (opt_ok (sc_at (i:=4) hn rfl) ?_));refine var_ok h0 (opt_ok (sc_ix (i:=5) hn rfl) (opt_ok (sc_at (i:=5) hn rfl) ?_));refine var_ok h0 (opt_ok (sc_ix (i:=6) hn rfl) (opt_ok (sc_at (i:=6) hn rfl) ?_));refine var_ok h0 (opt_ok (sc_ix (i:=7) hn rfl) (opt_ok (sc_at (i:=7) hn rfl) ?_));refine var_ok h0 (opt_ok (sc_ix (i:=8) hn rfl) (opt_ok (sc_at (i:=8) hn rfl) ?_));refine var_ok h0 (opt_ok (sc_ix (i:=9) hn rfl) (opt_ok (sc_at (i:=9) hn rfl) ?_));refine var_ok h0 (opt_ok (sc_ix (i:=10) hn rfl) (opt_ok (sc_at (i:=10) hn rfl) ?_));exact q
theorem law_sp (K:Law3 T D){m:Nat}(hm:130<=m){X:QX}:callW T D (m+5+1) 33 [.frz (nts.map .int)] [] (fun a _=>a=.bool true) X:=by
 refine ⟨ir33,K.d33,rfl,?_⟩;refine if_ok (b:=decide (((nts.map AV.int).length:Int)<15)) (fun _=>rfl) fun hl=>?_;have hn:15<=nts.length:=by
  have h:=of_decide_eq_false hl;rw [Ah] at h;lia
 obtain ⟨hi,hi9⟩:=fmod_nat (sc nts 0) (b:=9) (by decide);have hi:(sc nts 0).fmod 9=(((sc nts 0).fmod 9).toNat:Int):=hi;obtain ⟨hj,hj9⟩:=fmod_nat (sc nts 1) (b:=9) (by decide);have hj:(sc nts 1).fmod 9=(((sc nts 1).fmod 9).toNat:Int):=hj;revert hi hi9 hj hj9;generalize ((sc nts 0).fmod (9:Nat)).toNat=i;generalize ((sc nts 1).fmod (9:Nat)).toNat=j;intro hi9 hi hj9 hj;have s:=fun (i:Nat) (hi:Nat.blt i 15=true)=>sc_ix (nts:=nts) (i:=i) hn hi;have t:=fun (i:Nat) (hi:Nat.blt i 15=true)=>sc_at (nts:=nts) (i:=i) hn hi;refine opt_ok (s 0 rfl) (opt_ok (t 0 rfl) ⟨by decide,by decide,?_⟩);refine opt_ok (s 1 rfl) (opt_ok (t 1 rfl) ⟨by decide,by decide,?_⟩);show ssW T (callW T D (m+5)) (ssDrop 2 ir33.body) (upd (fun i=>[AV.frz (nts.map .int)][i]?) 1 (.obj 0)) [.list [.int ((sc nts 0).fmod 9-4),.int ((sc nts 1).fmod 9-4),.int 0,.int 0,.int 0]] fq (fun _ J'=>X J');rw [hi,hj];have nx:=num_str hi9;have ny:=num_str hj9;have lx:=Ad (Ab (allN_at numTx hi9)).2;have ly:=Ad (Ab (allN_at numTx hj9)).2;have c0:([.list (cl (num i) (num j) 0 0 0)]:Store)[0]?=some (.list (cl (num i) (num j) 0 0 0)):=rfl;rw [← nx.1] at lx;rw [← ny.1] at ly;have a1:(intTx (num i)++[59,32,121,32,58,61,32]).length<=9:=by rw [Ac]; exact Al lx 7
 have a2:(intTx (num i)++[59,32,121,32,58,61,32]++intTx (num j)).length<=11:=by rw [Ac]; exact Aq a1 ly
 refine idx_ok c0 rfl rfl ⟨nx.2,Aa (Al lx 7) (by decide:9<=1000000),idx_ok c0 rfl rfl ⟨ny.2,Aa (Aq a1 ly) (by decide:11<=1000000),Aa (Al a2 2) (by decide:13<=1000000),?_⟩⟩;show ssW T (callW T D (m+5)) (ssDrop 3 ir33.body) (upd (upd (fun i=>[AV.frz (nts.map .int)][i]?) 1 (.obj 0)) 2 (.str (intTx (num i)++[59,32,121,32,58,61,32]++intTx (num j)++[59,32]))) [.list (cl (num i) (num j) 0 0 0)] fq (fun _ J'=>X J');rw [nx.1,ny.1];clear nx ny lx ly a1 a2 hi hj;show ssW T (callW T D (m+5)) (ssDrop 7 ir33.body) (upd (upd (upd (upd (upd (upd (fun i=>[AV.frz (nts.map .int)][i]?) 1 (.obj 0)) 2 (.str (numX i++[59,32,121,32,58,61,32]++numX j++[59,32]))) 3 (.obj 1)) 4 (.obj 2)) 5 (.int 4)) 6 (.bool true)) [.list (cl (num i) (num j) 0 0 0),.list [],.list []] fq (fun _ J'=>X J');refine forT_st (trips rfl hn ?_);refine loop33 (m:=m+1) (tot:=runs ([(sc nts 2,sc nts 3,sc nts 4),(sc nts 5,sc nts 6,sc nts 7),(sc nts 8,sc nts 9,sc nts 10)].map chOf) (num i) (num j) 0 0 0) K [(sc nts 2,sc nts 3,sc nts 4),(sc nts 5,sc nts 6,sc nts 7),(sc nts 8,sc nts 9,sc nts 10)] 3 (num i) (num j) 0 0 0 [] 0 true [] 0 1 2 _ _ (Aj 3) ⟨by decide,by decide,by decide,trivial⟩ (by decide:27<=90) (by decide:3<=9) ⟨rfl,rfl,rfl,rfl,rfl,rfl,rfl,rfl,⟨bd0,bd0,bd0,num_bd hi9,num_bd hj9,bd0,bd0,bd0,bd0,trivial⟩,fun _=>?_,(fun h=>by cases h),Nat.zero_le _⟩ ?_
 ·exact addR0 _
 intro e' J' nb' x' y' p' q' r' W' N' b' co' bo' wo' g0 g2 I;exact lz3 (m:=m+4) K (Aa hm (Af _ _)) hn hi9 hj9 (chOf_ok _) (chOf_ok _) (chOf_ok _) g0 g2 I
end
end Mine.P
namespace Mine
open PySem PySem.Calls PyProof.Rows
structure Rho where
 l:List (Addr×Option Addr)
 tk:Nat->Option Tx
noncomputable def Rho.push (Y:Rho)(p:Addr×Option Addr):Rho:=⟨Y.l++[p],Y.tk⟩
noncomputable def Rho.tok (Y:Rho)(t:Nat)(x:Tx):Rho:=⟨Y.l,fun u=>if u=t then some x else Y.tk u⟩
structure Rho.Le (Y Y':Rho):Prop where
 l:Y.l <+: Y'.l
 tk:∀ t x,Y.tk t=some x->Y'.tk t=some x
theorem Rho.Le.refl (Y:Rho):Y.Le Y:=⟨List.prefix_refl _,fun _ _ h=>h⟩
theorem Rho.Le.trans {Y Y' Y'':Rho}(a:Y.Le Y')(b:Y'.Le Y''):Y.Le Y'':=⟨a.l.trans b.l,fun t x h=>b.tk t x (a.tk t x h)⟩
theorem Rho.Le.push (Y:Rho)(p:Addr×Option Addr):Y.Le (Y.push p):=⟨⟨_,rfl⟩,fun _ _ h=>h⟩
theorem none_some {α:Type}{o:Option α}{a:α}{P:Prop}(h:o=none)(h':o=some a):P:=by rw [h] at h'; cases h'
theorem Rho.Le.tok {Y:Rho}{t:Nat}(x:Tx)(h:Y.tk t=none):Y.Le (Y.tok t x):=⟨List.prefix_refl _,fun u y e=>by
 show (if u=t then some x else Y.tk u)=some y
 by_cases q:u=t
 ·subst q; exact none_some h e
 ·rw [if_neg q]; exact e⟩
theorem Rho.tok_at (Y:Rho)(t:Nat)(x:Tx):(Y.tok t x).tk t=some x:=if_pos rfl
noncomputable abbrev pAs (p:Addr×Option Addr):List Addr:=p.1::p.2.toList
noncomputable def muts (Y:Rho):List Addr:=Y.l.flatMap pAs
noncomputable def sOf (l:Tx):Str:=⟨l.toArray⟩
def TpAt (h:Heap) (a:Addr) (items:Array Value):Prop:=∃ n,h.get? a=some ({ cls:=.type "tuple",dict:=none,data:=.seq items n,slots:=#[] }:Obj)
def LsAt (h:Heap) (a:Addr) (items:Array Value):Prop:=∃ n,h.get? a=some ({ cls:=.type "list",dict:=none,data:=.seq items n,slots:=#[] }:Obj)
theorem TpAt.tup {h:Heap}{a:Addr}{items:Array Value}(x:TpAt h a items):IsTup h a items:=let ⟨n,e⟩:=x; ⟨_,e,rfl,n,rfl⟩
theorem LsAt.list {h:Heap}{a:Addr}{items:Array Value}(x:LsAt h a items):h.IsList a items:=let ⟨n,e⟩:=x; ⟨_,e,rfl,n,rfl⟩
def RngAt (h:Heap)(r:Addr)(a b c:Int):Prop:=∃ t u v,IsRange h r a b c t u v
section
variable (base h:Heap)(Y:Rho)
mutual
noncomputable def RV:AV->Value->Prop
 | .none,v=>v=.none
 | .bool b,v=>v=.bool b
 | .int i,v=>∃ t,v=.int i t
 | .str s,v=>∃ t,v=.str (sOf s) t∧s.length<=lid∧t≠0∧Y.tk t=some s
 | .tup vs,v=>∃ a items,v=.ref a∧TpAt h a items∧RVs vs items.toList∧vs.length<=lid
 | .obj r,v=>∃ p,v=.ref p.1∧Y.l[r]?=some p
 | .rng a b c,v=>∃ r,v=.ref r∧RngAt h r a b c∧a.natAbs<=lid∧b.natAbs<=lid∧(c=1∨c=-1)
 | .frz vs,v=>∃ a items,v=.ref a∧LsAt base a items∧RVs vs items.toList∧vs.length<=lid
 | .stat c,v=>v=c
noncomputable def RVs:List AV->List Value->Prop
 | [],l=>l=[]
 | x::xs,l=>∃ v vs,l=v::vs∧RV x v∧RVs xs vs
end
end
def Imm (o:Obj):Prop:=(o.cls=.type "tuple"∧∃ items n,o.data=.seq items n)∨(o.cls=.type "range"∧∃ vs,o.data=.fields vs)
def ImmK (h h':Heap):Prop:=∀ b o,h.get? b=some o->Imm o->h'.get? b=some o
section
variable {base h h':Heap}{Y Y':Rho}
theorem Rho.Le.at_ (hp:Y.Le Y'){r:Nat}{p:Addr×Option Addr}(e:Y.l[r]?=some p):Y'.l[r]?=some p:=by
 obtain ⟨t,ht⟩:=hp.l;rw [← ht,List.getElem?_append_left (Ai e).1]; exact e
theorem RV.mono (hi:ImmK h h')(hp:Y.Le Y'):∀ x v,RV base h Y x v->RV base h' Y' x v:=by
 intro x
 induction x using AV.rec (motive_2:=fun xs=>∀ vs,RVs base h Y xs vs->RVs base h' Y' xs vs) with
 | none=>exact fun v h=>h
 | bool b=>exact fun v h=>h
 | int i=>exact fun v h=>h
 | str s=>exact fun v q=>q.imp fun t q=>⟨q.1,q.2.1,q.2.2.1,hp.tk t s q.2.2.2⟩
 | tup vs ih=>exact fun v q=>q.imp fun a q=>q.imp fun items q=>⟨q.1,q.2.1.imp fun n ht=>hi a _ ht (.inl ⟨rfl,items,n,rfl⟩),ih _ q.2.2.1,q.2.2.2⟩
 | obj r=>exact fun v q=>q.imp fun p q=>⟨q.1,hp.at_ q.2⟩
 | rng a b c=>exact fun v q=>q.imp fun r q=>⟨q.1,q.2.1.imp fun t q=>q.imp fun u q=>q.imp fun w hr=>hi _ _ hr (.inr ⟨rfl,_,rfl⟩),q.2.2⟩
 | frz vs ih=>exact fun v q=>q.imp fun a q=>q.imp fun items q=>⟨q.1,q.2.1,ih _ q.2.2.1,q.2.2.2⟩
 | stat c=>exact fun v h=>h
 | nil=>rename_i vs q; exact q
 | cons x xs ihx ihs=>rename_i vs q; exact q.imp fun v q=>q.imp fun vs q=>⟨q.1,ihx v q.2.1,ihs vs q.2.2⟩
theorem RVs.el {P:List Value->Prop}{x:AV}{xs:List AV}{l:List Value}(q:RVs base h Y (x::xs) l)(k:∀ v vs,RV base h Y x v->RVs base h Y xs vs->P (v::vs)):P l:=by
 obtain ⟨v,vs,rfl,a,b⟩:=q;exact k v vs a b
theorem RVs.nl {P:List Value->Prop}{l:List Value}(q:RVs base h Y [] l)(k:P []):P l:=by cases (show l=[] from q); exact k
theorem RVs.mono (hi:ImmK h h')(hp:Y.Le Y'){xs vs}(q:RVs base h Y xs vs):RVs base h' Y' xs vs:=by
 induction xs generalizing vs with
 | nil=>exact q
 | cons x xs ih=>exact q.el (P:=RVs base h' Y' (x::xs)) fun v vs a b=>⟨v,vs,rfl,RV.mono hi hp _ _ a,ih b⟩
theorem RVs.length {xs:List AV}{vs:List Value}(q:RVs base h Y xs vs):xs.length=vs.length:=by
 induction xs generalizing vs with
 | nil=>exact q.nl (P:=fun l=>0=l.length) rfl
 | cons x xs ih=>exact q.el (P:=fun l=>xs.length+1=l.length) fun v vs a b=>congrArg Nat.succ (ih b)
theorem RVs.size {xs:List AV}{items:Array Value}(r:RVs base h Y xs items.toList):xs.length=items.size:=r.length.trans Array.length_toList
theorem RVs.get {xs:List AV}{vs:List Value}{k:Nat}{x:AV}(q:RVs base h Y xs vs)(e:xs[k]?=some x):∃ v,vs[k]?=some v∧RV base h Y x v:=by
 induction xs generalizing vs k with
 | nil=>exact none_some rfl e
 | cons y xs ih=>
  refine q.el (P:=fun l=>∃ v,l[k]?=some v∧RV base h Y x v) fun v vs a b=>?_;cases k with
  | zero=>exact ⟨v,rfl,Ag e▸a⟩
  | succ k=>exact ih (k:=k) b e
theorem RVs.append {xs ys:List AV}{vs ws:List Value}(q:RVs base h Y xs vs)(y:RVs base h Y ys ws):RVs base h Y (xs++ys) (vs++ws):=by
 induction xs generalizing vs with
 | nil=>exact q.nl (P:=fun l=>RVs base h Y ys (l++ws)) y
 | cons x xs ih=>exact q.el (P:=fun l=>RVs base h Y (x::(xs++ys)) (l++ws)) fun v vs a b=>⟨v,vs++ws,rfl,a,ih b⟩
theorem RVs.take {xs:List AV}{vs:List Value}(k:Nat)(q:RVs base h Y xs vs):RVs base h Y (xs.take k) (vs.take k):=by
 induction xs generalizing vs k with
 | nil=>exact q.nl (P:=fun l=>RVs base h Y ([].take k) (l.take k)) (by rw [List.take_nil]; exact List.take_nil)
 | cons x xs ih=>
  cases k with
  | zero=>exact (rfl:vs.take 0=[])
  | succ k=>exact q.el (P:=fun l=>RVs base h Y (x::xs.take k) (l.take (k+1))) fun v vs a b=>⟨v,vs.take k,rfl,a,ih k b⟩
theorem RVs.drop {xs:List AV}{vs:List Value}(k:Nat)(q:RVs base h Y xs vs):RVs base h Y (xs.drop k) (vs.drop k):=by
 induction xs generalizing vs k with
 | nil=>exact q.nl (P:=fun l=>RVs base h Y ([].drop k) (l.drop k)) (by rw [List.drop_nil]; exact List.drop_nil)
 | cons x xs ih=>
  cases k with
  | zero=>exact q
  | succ k=>exact q.el (P:=fun l=>RVs base h Y (xs.drop k) (l.drop (k+1))) fun v vs a b=>ih k b
theorem RVs.set {xs:List AV}{vs:List Value}(k:Nat){x:AV}{v:Value}(q:RVs base h Y xs vs)(y:RV base h Y x v):RVs base h Y (xs.set k x) (vs.set k v):=by
 induction xs generalizing vs k with
 | nil=>exact q.nl (P:=fun l=>RVs base h Y [] (l.set k v)) (rfl:_=[])
 | cons z xs ih=>
  refine q.el (P:=fun l=>RVs base h Y ((z::xs).set k x) (l.set k v)) fun w vs a b=>?_;cases k with
  | zero=>exact ⟨v,vs,rfl,y,b⟩
  | succ k=>exact ⟨w,vs.set k v,rfl,a,ih k b⟩
theorem RVs.one {x:AV}{v:Value}(r:RV base h Y x v):RVs base h Y [x] [v]:=⟨v,[],rfl,r,rfl⟩
end
noncomputable def atName:At->Str
 | .ts=>"ts"
 | .pos=>"pos"
 | .code=>"code"
noncomputable def DRs (base h:Heap)(Y:Rho):List (Tx×AV)->List (Str×Value)->Prop
 | [],l=>l=[]
 | (x,a)::es,l=>∃ v r,l=(sOf x,v)::r∧RV base h Y a v∧DRs base h Y es r
theorem sOf_inj {a b:Tx}(h:sOf a=sOf b):a=b:=(List.toArray_inj (by injection h))
theorem txEq_iff {a b:Tx}:txEq a b=true↔a=b:=by
 induction a generalizing b with
 | nil=>cases b<;>exact ⟨fun h=>(by cases h<;>rfl),fun h=>(by cases h<;>rfl)⟩
 | cons a l ih=>
  cases b with
  | nil=>exact ⟨fun h=>(by cases h),fun h=>(by cases h)⟩
  | cons b r=>
   show (Nat.beq a b&&txEq l r)=true↔_;rw [Bool.and_eq_true_iff,ih,Nat.beq_eq,List.cons_eq_cons]
theorem lookup_tx (x y:Tx)(a:AV)(es:List (Tx×AV)):((y,a)::es).lookup x=if x=y then some a else es.lookup x:=by
 rw [List.lookup_cons];by_cases q:x=y
 ·rw [if_pos q,q,beq_self_eq_true]
 ·rw [if_neg q,beq_eq_false_iff_ne.mpr q]
section
variable {base h h':Heap}{Y Y':Rho}
theorem DRs.el {P:List (Str×Value)->Prop}{p:Tx×AV}{es:List (Tx×AV)}{l:List (Str×Value)}(q:DRs base h Y (p::es) l)(k:∀ v r,RV base h Y p.2 v->DRs base h Y es r->P ((sOf p.1,v)::r)):P l:=by
 obtain ⟨v,vs,rfl,a,b⟩:=q;exact k v vs a b
theorem DRs.nl {P:List (Str×Value)->Prop}{l:List (Str×Value)}(q:DRs base h Y [] l)(k:P []):P l:=by cases (show l=[] from q); exact k
theorem DRs.mono (hi:ImmK h h')(hp:Y.Le Y'){es:List (Tx×AV)}{kvs:List (Str×Value)}(q:DRs base h Y es kvs):DRs base h' Y' es kvs:=by
 induction es generalizing kvs with
 | nil=>exact q
 | cons p es ih=>exact q.el (P:=DRs base h' Y' (p::es)) fun v r a b=>⟨v,r,rfl,RV.mono hi hp _ _ a,ih b⟩
theorem DRs.length {es:List (Tx×AV)}{kvs:List (Str×Value)}(q:DRs base h Y es kvs):es.length=kvs.length:=by
 induction es generalizing kvs with
 | nil=>exact q.nl (P:=fun l=>0=l.length) rfl
 | cons p es ih=>exact q.el (P:=fun l=>es.length+1=l.length) fun v r a b=>congrArg Nat.succ (ih b)
theorem valueAt_cons (k x:Str)(v:Value)(kvs:List (Str×Value)):valueAt ((k,v)::kvs) x=if k=x then some v else valueAt kvs x:=by
 unfold valueAt;rw [List.find?_cons];by_cases q:k=x
 ·rw [if_pos q]; simp only [q,decide_true]; rfl
 ·rw [if_neg q]; simp only [q,decide_false]
def LkAt (base h:Heap)(Y:Rho)(o:Option AV)(m:Option Value):Prop:=match o with
 | some a=>∃ v,m=some v∧RV base h Y a v
 | none=>m=none
theorem DRs.look (x:Tx){es:List (Tx×AV)}{kvs:List (Str×Value)}(q:DRs base h Y es kvs):LkAt base h Y (es.lookup x) (valueAt kvs (sOf x)):=by
 induction es generalizing kvs with
 | nil=>exact q.nl (P:=fun l=>valueAt l (sOf x)=none) rfl
 | cons p es ih=>
  refine q.el (P:=fun l=>LkAt base h Y ((p::es).lookup x) (valueAt l (sOf x))) fun v r a b=>?_;rw [lookup_tx x p.1 p.2,valueAt_cons];by_cases q:x=p.1
  ·rw [if_pos q,if_pos (congrArg sOf q.symm)]; exact ⟨v,rfl,a⟩
  ·rw [if_neg q,if_neg fun z=>q (sOf_inj z).symm]; exact ih b
theorem DRs.put (x:Tx){a:AV}{v:Value}(hv:RV base h Y a v){es:List (Tx×AV)}{kvs:List (Str×Value)}(q:DRs base h Y es kvs)(nd:(kvs.map (·.1)).Nodup):DRs base h Y (putD x a es) (stored kvs (sOf x) v):=by
 induction es generalizing kvs with
 | nil=>exact q.nl (P:=fun l=>DRs base h Y [(x,a)] (stored l (sOf x) v)) ⟨v,[],rfl,hv,rfl⟩
 | cons p es ih=>
  revert nd;refine q.el (P:=fun l=>(l.map (·.1)).Nodup->DRs base h Y (putD x a (p::es)) (stored l (sOf x) v)) fun u kvs h1 h2 nd=>?_;have nd:=List.nodup_cons.mp nd;have ih:=ih h2 nd.2;show DRs base h Y (cond (txEq p.1 x) ((p.1,a)::es) (p::putD x a es)) _;revert ih;unfold stored;cases q:txEq p.1 x with
  | true=>
   have q:=txEq_iff.mp q;subst q;have e1:(kvs.map fun kv=>if kv.1=sOf p.1 then (kv.1,v) else kv)=kvs:=(List.map_congr_left fun kv hm=>if_neg fun (q:kv.1=sOf p.1)=>nd.1 (List.mem_map.mpr ⟨kv,hm,q⟩)).trans (List.map_id kvs)
   intro _;rw [if_pos (by rw [List.any_cons,decide_eq_true (rfl:(sOf p.1,u).1=sOf p.1)]; rfl),List.map_cons,if_pos rfl,e1];exact ⟨v,kvs,rfl,hv,h2⟩
  | false=>
   have hne:sOf p.1≠sOf x:=fun z=>by rw [txEq_iff.mpr (sOf_inj z)] at q; cases q
   rw [List.any_cons,decide_eq_false hne,Bool.false_or,List.map_cons,if_neg hne];by_cases hany:(kvs.any fun kv=>decide (kv.1=sOf x))=true
   ·rw [if_pos hany,if_pos hany]; exact fun ih=>⟨u,_,rfl,h1,ih⟩
   ·rw [if_neg hany,if_neg hany]; exact fun ih=>⟨u,_,rfl,h1,ih⟩
theorem putD_length (x:Tx)(a:AV)(es:List (Tx×AV)):(putD x a es).length<=es.length+1:=by
 induction es with
 | nil=>exact Aj 1
 | cons p es ih=>
  show (cond (txEq p.1 x) ((p.1,a)::es) (p::putD x a es)).length<=es.length+1+1;cases txEq p.1 x
  ·exact Au ih
  ·exact Nat.le_succ _
end
section
variable (prog:Program)(w:World)(base:Heap)(cls:Nat->Option Addr)
noncomputable def FRs (h:Heap)(Y:Rho):List (At×AV)->List DictEntry->Prop
 | [],l=>l=[]
 | (x,a)::fs,l=>∃ en es,l=en::es∧(∃ t,en.key=.str (atName x) t)∧RV base h Y a en.val∧FRs h Y fs es
noncomputable def MORep (h:Heap)(Y:Rho)(p:Addr×Option Addr):MO->Prop
 | .list vs=>p.2=none∧∃ items,LsAt h p.1 items∧RVs base h Y vs items.toList∧vs.length<=lid
 | .dict es=>p.2=none∧∃ kvs:List (Str×Value),h.DictOf (strKind prog w) p.1 kvs∧DRs base h Y es kvs∧es.length<=lid
 | .inst c fs=>∃ dx C sl es n,p.2=some dx∧cls c=some C∧h.get? p.1=some ⟨.ref C,some dx,.plain,sl⟩∧
   h.get? dx=some ⟨.type "dict",none,.dict es.toArray n,#[]⟩∧FRs base h Y fs es∧(fs.map (·.1)).Nodup
structure Sim (Y:Rho)(J:Store)(h:Heap):Prop where
 len:Y.l.length=J.length
 obj:∀ (r:Nat) p o,Y.l[r]?=some p->J[r]?=some o->MORep prog w base cls h Y p o
 apart:∀ (r r':Nat) p p',r≠r'->Y.l[r]?=some p->Y.l[r']?=some p'->∀ b∈pAs p,b∉pAs p'
 own2:∀ (r:Nat) p,Y.l[r]?=some p->(pAs p).Nodup
 new:∀ a∈muts Y,base.get? a=none
end
open PySem PySem.Calls PyProof.Rows
abbrev Kp (h h':Heap):Prop:=∀ b o,h.get? b=some o->h'.get? b=some o
theorem Kp.push {h:Heap}(o:Obj):Kp h (h.push o):=fun _ _ e=>Heap.get?_push_of_some _ e
theorem Kp.imm {h h':Heap}(k:Kp h h'):ImmK h h':=fun b o e _=>k b o e
theorem new_none (h:Heap):h.get? h.objs.size=none:=Heap.get?_none_of_le (Aj _)
def Dom (h h':Heap):Prop:=∀ a o,h.get? a=some o->∃ o',h'.get? a=some o'
theorem Dom.refl (h:Heap):Dom h h:=fun _ o e=>⟨o,e⟩
theorem Dom.trans {h h' h'':Heap}(x:Dom h h')(y:Dom h' h''):Dom h h'':=fun a o e=>let ⟨o',e'⟩:=x a o e; y a o' e'
theorem Dom.none {h h':Heap}(x:Dom h h'){a:Addr}(e:h'.get? a=none):h.get? a=none:=by
 cases q:h.get? a with
 | none=>rfl
 | some o=>obtain ⟨o',e'⟩:=x a o q; exact none_some e e'
theorem Dom.keeps {h h':Heap}(k:Kp h h'):Dom h h':=fun a o e=>⟨o,k a o e⟩
theorem Dom.but {h h':Heap}{a:Addr}(hs:Heap.SameBut a h h')(ha:∃ o',h'.get? a=some o'):Dom h h':=fun b o e=>by
 by_cases q:b=a
 ·subst q; exact ha
 ·exact ⟨o,(hs.2 b q).trans e⟩
structure Stp (F:List Addr)(own:Addr->Prop)(Y:Rho)(h:Heap)(Y':Rho)(h':Heap):Prop where
 pre:Y.Le Y'
 fresh:∀ a∈muts Y',a∈muts Y∨h.get? a=none
 dom:Dom h h'
 imm:ImmK h h'
 keep:∀ b o,h.get? b=some o->b∉muts Y->¬ own b->b∉F->h'.get? b=some o
 slot:∀ b o,h.get? b=some o->b∉muts Y->¬ own b->∃ sl,h'.get? b=some { o with slots:=sl }
def nope:Addr->Prop:=fun _=>False
section
variable {F:List Addr}{own:Addr->Prop}{Y Y' Y'':Rho}{h h' h'':Heap}
theorem Stp.of_kp (hp:Y.Le Y')(hf:∀ a∈muts Y',a∈muts Y∨h.get? a=none)(k:Kp h h'):Stp F own Y h Y' h':=⟨hp,hf,Dom.keeps k,k.imm,fun b o e _ _ _=>k b o e,fun b o e _ _=>⟨o.slots,k b o e⟩⟩
theorem Stp.other (hk:Kp h h'):Stp F own Y h Y h':=.of_kp (Rho.Le.refl _) (fun _ m=>.inl m) hk
theorem Stp.refl:Stp F own Y h Y h:=.other fun _ _ e=>e
theorem Stp.push (o:Obj):Stp F own Y h Y (h.push o):=.other (Kp.push o)
theorem Stp.tok {t:Nat}(x:Tx)(ht:Y.tk t=none):Stp F own Y h (Y.tok t x) h:=.of_kp (Rho.Le.tok x ht) (fun _ m=>.inl m) fun _ _ e=>e
theorem muts_push (Y:Rho)(p:Addr×Option Addr):muts (Y.push p)=muts Y++pAs p:=by
 unfold muts Rho.push;rw [List.flatMap_append]; exact congrArg (_++·) (List.append_nil _)
theorem muts_new {p:Addr×Option Addr}(hf:∀ a∈pAs p,h.get? a=none):∀ a∈muts (Y.push p),a∈muts Y∨h.get? a=none:=fun a m=>(List.mem_append.mp (muts_push Y p▸m)).imp id (hf a)
theorem new1:∀ a∈pAs (h.objs.size,none),h.get? a=none:=fun a q=>List.mem_singleton.mp q▸new_none h
theorem Stp.alloc (o:Obj):Stp F own Y h (Y.push (h.objs.size,none)) (h.push o):=.of_kp (Rho.Le.push _ _) (muts_new new1) (Kp.push o)
theorem Stp.trans (x:Stp F own Y h Y' h')(y:Stp F own Y' h' Y'' h''):Stp F own Y h Y'' h'':=by
 have off:∀ b o,h.get? b=some o->b∉muts Y->b∉muts Y':=fun b o e n m=>(x.fresh b m).elim n fun q=>none_some q e;exact ⟨x.pre.trans y.pre,fun a m=>(y.fresh a m).elim (x.fresh a) fun q=>.inr (x.dom.none q),x.dom.trans y.dom,fun b o e i=>y.imm b o (x.imm b o e i) i,
  fun b o e n w f=>y.keep b o (x.keep b o e n w f) (off b o e n) w f,fun b o e n w=>let ⟨sl,e1⟩:=x.slot b o e n w; let ⟨sl',e2⟩:=y.slot b _ e1 (off b o e n) w; ⟨sl',e2⟩⟩
theorem Stp.own_le {own':Addr->Prop}(x:Stp F own Y h Y' h')(hw:∀ b,own b->own' b):Stp F own' Y h Y' h':=
 ⟨x.pre,x.fresh,x.dom,x.imm,fun b o e n w f=>x.keep b o e n (fun q=>w (hw b q)) f,fun b o e n w=>x.slot b o e n fun q=>w (hw b q)⟩
theorem Stp.of_nope (x:Stp F nope Y h Y' h'):Stp F own Y h Y' h':=x.own_le fun _ q=>q.elim
theorem Stp.less {L:Addr}(x:Stp (L::F) own Y h Y' h')(hL:h.get? L=none):Stp F own Y h Y' h':=
 ⟨x.pre,x.fresh,x.dom,x.imm,fun b o e n w f=>x.keep b o e n w fun m=>(List.mem_cons.mp m).elim (fun q=>none_some hL (q▸e)) f,x.slot⟩
theorem Stp.chg {a:Addr}{oa:Obj}(hs:Heap.SameBut a h h')(ha':∃ o',h'.get? a=some o')(ha:h.get? a=some oa)(hi:¬ Imm oa)(hm:∀ b,b∉muts Y->¬ own b->b≠a):Stp F own Y h Y h':=
 ⟨Rho.Le.refl _,fun _ m=>.inl m,Dom.but hs ha',fun b o e i=>(hs.2 b fun q=>by subst q; rw [ha] at e; cases e; exact hi i).trans e,
  fun b o e n w _=>(hs.2 b (hm b n w)).trans e,fun b o e n w=>⟨o.slots,(hs.2 b (hm b n w)).trans e⟩⟩
theorem Stp.upd {a:Addr}{oa:Obj}(hs:Heap.SameBut a h h')(ha':∃ o',h'.get? a=some o')(ha:h.get? a=some oa)(hi:¬ Imm oa)(hm:a∈muts Y):Stp F own Y h Y h':=.chg hs ha' ha hi fun b n _ q=>n (q▸hm)
theorem Stp.mine {a:Addr}{oa:Obj}(hs:Heap.SameBut a h h')(ha':∃ o',h'.get? a=some o')(ha:h.get? a=some oa)(hi:¬ Imm oa)(hm:own a):Stp F own Y h Y h':=.chg hs ha' ha hi fun b _ n q=>n (q▸hm)
theorem Stp.rv {base:Heap}(x:Stp F own Y h Y' h'){a:AV}{v:Value}(r:RV base h Y a v):RV base h' Y' a v:=RV.mono x.imm x.pre a v r
theorem Stp.rvs {base:Heap}(x:Stp F own Y h Y' h'){a:List AV}{v:List Value}(r:RVs base h Y a v):RVs base h' Y' a v:=RVs.mono x.imm x.pre r
end
section
variable {prog:Program}{w:World}{base:Heap}{cls:Nat->Option Addr}{h h':Heap}{Y Y':Rho}{J:Store}
theorem FRs.mono (hi:ImmK h h')(hp:Y.Le Y'){fs:List (At×AV)}{es:List DictEntry}(q:FRs base h Y fs es):FRs base h' Y' fs es:=by
 induction fs generalizing es with
 | nil=>exact q
 | cons p fs ih=>exact Exists.imp (fun en q=>Exists.imp (fun es q=>⟨q.1,q.2.1,RV.mono hi hp _ _ q.2.2.1,ih q.2.2.2⟩) q) q
theorem hd_mem (p:Addr×Option Addr):p.1∈pAs p:=List.mem_cons_self ..
theorem dx_mem {p:Addr×Option Addr}{dx:Addr}(e:p.2=some dx):dx∈pAs p:=List.mem_cons_of_mem _ (e▸List.mem_singleton.mpr rfl)
theorem MORep.mono {p:Addr×Option Addr}(hi:ImmK h h')(hp:Y.Le Y')(hk:∀ b ob,b∈pAs p->h.get? b=some ob->h'.get? b=some ob){o:MO}(x:MORep prog w base cls h Y p o):MORep prog w base cls h' Y' p o:=by
 cases o with
 | list vs=>exact ⟨x.1,x.2.imp fun items q=>⟨q.1.imp fun n hb=>hk _ _ (hd_mem p) hb,RVs.mono hi hp q.2.1,q.2.2⟩⟩
 | dict es=>exact ⟨x.1,x.2.imp fun kvs q=>⟨q.1.imp fun ob q=>q.imp fun es q=>q.imp fun ep q=>⟨hk _ _ (hd_mem p) q.1,q.2⟩,q.2.1.mono hi hp,q.2.2⟩⟩
 | inst c fs=>exact x.imp fun dx q=>q.imp fun C q=>q.imp fun sl q=>q.imp fun es q=>q.imp fun n q=>⟨q.1,q.2.1,hk _ _ (hd_mem p) q.2.2.1,hk _ _ (dx_mem q.1) q.2.2.2.1,q.2.2.2.2.1.mono hi hp,q.2.2.2.2.2⟩
theorem mem_muts {r:Nat}{p:Addr×Option Addr}(e:Y.l[r]?=some p){b:Addr}(hb:b∈pAs p):b∈muts Y:=
 List.mem_flatMap.mpr ⟨p,List.mem_of_getElem? e,hb⟩
def Odd (o:Obj):Prop:=o.cls≠.type "tuple"∧o.cls≠.type "range"∧o.cls≠.type "ValueError"∧o.cls≠.type "traceback"
theorem Odd.imm {o:Obj}(h:Odd o):¬ Imm o:=fun i=>i.elim (fun q=>h.1 q.1) fun q=>h.2.1 q.1
theorem odd_of {o:Obj} {v:Value} (h:o.cls=v) (h1:v≠.type "tuple") (h2:v≠.type "range") (h3:v≠.type "ValueError") (h4:v≠.type "traceback"):Odd o:=⟨h▸h1,h▸h2,h▸h3,h▸h4⟩
theorem odd_list {o:Obj} (h:o.cls=.type "list"):Odd o:=odd_of h (by decide) (by decide) (by decide) (by decide)
theorem odd_dict {o:Obj} (h:o.cls=.type "dict"):Odd o:=odd_of h (by decide) (by decide) (by decide) (by decide)
theorem odd_ref {o:Obj}{C:Addr}(h:o.cls=.ref C):Odd o:=odd_of h (fun q=>by cases q) (fun q=>by cases q) (fun q=>by cases q) (fun q=>by cases q)
theorem Sim.odd (S:Sim prog w base cls Y J h){a:Addr}(m:a∈muts Y):∃ o,h.get? a=some o∧Odd o:=by
 obtain ⟨p,hp,ha⟩:=List.mem_flatMap.mp m;obtain ⟨r,hr⟩:=List.mem_iff_getElem?.mp hp;have hlt:r<J.length:=S.len▸(Ai hr).1;have x:=S.obj r p J[r] hr (List.getElem?_eq_getElem hlt);have one:p.2=none->a=p.1:=fun e=>by
  rcases List.mem_cons.mp ha with q | q
  ·exact q
  ·rw [e] at q; cases q
 revert x;cases J[r] with
 | list vs=>
  exact fun x=>x.2.elim fun items q=>q.1.elim fun n hb=>one x.1▸⟨_,hb,odd_list rfl⟩
 | dict es=>
  exact fun x=>x.2.elim fun kvs q=>q.1.elim fun ob q=>q.elim fun es q=>q.elim fun ep q=>one x.1▸⟨ob,q.1,odd_dict q.2.1.1⟩
 | inst c fs=>
  exact fun x=>x.elim fun dx q=>q.elim fun C q=>q.elim fun sl q=>q.elim fun es q=>q.elim fun n x=>(List.mem_cons.mp ha).elim (fun q=>q▸⟨_,x.2.2.1,odd_ref rfl⟩) fun q=>List.mem_singleton.mp (x.1▸q:a∈(some dx).toList)▸⟨_,x.2.2.2.1,odd_dict rfl⟩
theorem Sim.lt (S:Sim prog w base cls Y J h){a:Addr}(m:a∈muts Y):∃ o,h.get? a=some o∧¬ Imm o:=let ⟨o,e,i⟩:=S.odd m; ⟨o,e,i.imm⟩
theorem Sim.still (S:Sim prog w base cls Y J h)(hi:ImmK h h')(hk:∀ b ob,b∈muts Y->h.get? b=some ob->h'.get? b=some ob):Sim prog w base cls Y J h':=
 ⟨S.len,fun r p o e1 e2=>(S.obj r p o e1 e2).mono hi (Rho.Le.refl _) fun b ob hb=>hk b ob (mem_muts e1 hb),S.apart,S.own2,S.new⟩
theorem Sim.tok (S:Sim prog w base cls Y J h){t:Nat}(x:Tx)(ht:Y.tk t=none):Sim prog w base cls (Y.tok t x) J h:=
 ⟨S.len,fun r p o e1 e2=>(S.obj r p o e1 e2).mono (fun _ _ e _=>e) (Rho.Le.tok x ht) fun _ _ _ e=>e,S.apart,S.own2,S.new⟩
theorem push_at {l:List (Addr×Option Addr)}{p q:Addr×Option Addr}{r:Nat}(e:(l++[p])[r]?=some q):l[r]?=some q∨(r=l.length∧q=p):=by
 by_cases hlt:r<l.length
 ·rw [List.getElem?_append_left hlt] at e; exact .inl e
 ·rw [List.getElem?_append_right (Nat.le_of_not_lt hlt)] at e;cases hz:r-l.length with
  | zero=>rw [hz] at e; cases e; exact .inr ⟨Nat.le_antisymm (Nat.sub_eq_zero_iff_le.mp hz) (Nat.le_of_not_lt hlt),rfl⟩
  | succ k=>rw [hz] at e; cases e
theorem Sim.alloc (S:Sim prog w base cls Y J h)(hb:base.StaysIn h)(hk:Kp h h')(m:MO){p:Addr×Option Addr}(hfresh:∀ a∈pAs p,h.get? a=none)(hnd:(pAs p).Nodup)
  (hm:MORep prog w base cls h' (Y.push p) p m):Sim prog w base cls (Y.push p) (J++[m]) h':=by
 have old:∀ (r:Nat) q,Y.l[r]?=some q->∀ b∈pAs q,b∉pAs p:=fun r q e b hb' hp=>let ⟨o,ho,_⟩:=S.lt (mem_muts e hb'); none_some (hfresh _ hp) ho;refine ⟨by rw [Ac]; exact (Ac).trans (congrArg (·+1) S.len),fun r q o e1 e2=>?_,fun r r' q q' hne e1 e2 b hb1 hb2=>?_,fun r q e=>?_,fun a ha=>?_⟩
 ·rcases push_at e1 with e | ⟨rfl,rfl⟩
  ·rw [List.getElem?_append_left (S.len▸(Ai e).1)] at e2;exact (S.obj r q o e e2).mono hk.imm (Rho.Le.push _ _) fun _ _ _ e=>hk _ _ e
  ·rw [S.len,List.getElem?_append_right (Aj _),Nat.sub_self] at e2;cases e2; exact hm
 ·rcases push_at e1 with e | ⟨e,rfl⟩<;>rcases push_at e2 with e' | ⟨e',rfl⟩
  ·exact S.apart r r' q q' hne e e' b hb1 hb2
  ·exact old r q e b hb1 hb2
  ·exact old r' q' e' b hb2 hb1
  ·exact hne (e.trans e'.symm)
 ·rcases push_at e with e | ⟨_,rfl⟩
  ·exact S.own2 r q e
  ·exact hnd
 ·exact (List.mem_append.mp (muts_push Y p▸ha)).elim (S.new a) fun q=>(Dom.keeps hb).none (hfresh a q)
theorem Sim.upd {r:Nat}{p:Addr×Option Addr}(S:Sim prog w base cls Y J h)(hr:Y.l[r]?=some p)(hk:∀ b o,h.get? b=some o->b∉pAs p->h'.get? b=some o)
  {o:MO} (hm:MORep prog w base cls h' Y p o):Sim prog w base cls Y (J.set r o) h':=by
 have off:∀ b ob,h.get? b=some ob->Imm ob->b∉pAs p:=fun b ob e i m=>by
  obtain ⟨ob',e',n⟩:=S.lt (mem_muts hr m);rw [e] at e'; cases e'; exact n i
 refine ⟨S.len.trans List.length_set.symm,fun r' q o' e1 e2=>?_,S.apart,S.own2,S.new⟩;by_cases hq:r=r'
 ·subst hq;rw [hr] at e1; cases e1;rw [List.getElem?_set_self (S.len▸(Ai hr).1)] at e2;cases e2; exact hm
 ·rw [List.getElem?_set_ne hq] at e2;exact (S.obj r' q o' e1 e2).mono (fun b ob e i=>hk b ob e (off b ob e i)) (Rho.Le.refl _) fun b ob hb e=>hk b ob e fun m=>S.apart r r' p q hq hr e1 b m hb
end
open PySem PySem.Calls PyProof.Rows
structure Fm where
 qual:Str
 scope:Scope
 L:Addr
 a:Addr
 cd:Value
 cells:List (Str×Addr)
noncomputable def Fm.env (f:Fm):Env:={ scope:=f.scope,locals:=f.L,globals:=mainGlobals,cells:=f.cells,qual:=f.qual++".<locals>.",func:=some f.a,code:=f.cd,frame:=some f.L,builtins:=builtinsNs }
def Fm.own (f:Fm):Addr->Prop:=fun b=>b=f.L∨∃ x,f.cells.lookup x=some b
structure VarsOk (f:Fm)(vars:List Str):Prop where
 kind:f.scope.kind=.function
 var:∀ x∈vars,f.env.kindOf x=some .local∨(f.env.kindOf x=some .cell∧∃ c,f.cells.lookup x=some c)
 nodup:vars.Nodup
 inj:∀ x y c,f.cells.lookup x=some c->f.cells.lookup y=some c->x=y
 neL:∀ x c,f.cells.lookup x=some c->c≠f.L
 dbg:∀ x∈vars,(x==("__debug__" : Str))=false
def Fm.val (f:Fm)(h:Heap)(x:Str)(v:Value):Prop:=
 (f.env.kindOf x=some .local∧∃ m,h.Ns f.L m∧m x=some v)∨(f.env.kindOf x=some .cell∧∃ c,f.cells.lookup x=some c∧h.IsCell c (some v))
noncomputable def framesOf (l:List Env):List Addr:=l.filterMap (·.frame)
section
variable (prog:Program)(w:World)(base:Heap)(cls:Nat->Option Addr)
structure St (f:Fm)(vars:List Str)(outer:List Env)(Y:Rho)(e:Ev)(J:Store)(h:Heap):Prop where
 stays:base.StaysIn h
 sim:Sim prog w base cls Y J h
 ns:∃ m,h.Ns f.L m
 cel:∀ x c,f.cells.lookup x=some c->∃ v,h.IsCell c v
 ev:∀ i a,e i=some a->∃ x v,vars[i]?=some x∧f.val h x v∧RV base h Y a v
 frs:h.FunFrames base (f.env::outer)
 off:∀ b,f.own b->b∉muts Y
 offF:∀ b∈framesOf (f.env::outer),b∉muts Y
 new:∀ b,f.own b->base.get? b=none
 frd:∀ b∈framesOf (f.env::outer),∃ o es n,h.get? b=some o∧o.data=.dict es n
def Same (s s':Shared):Prop:=s'.gens=s.gens∧s'.drawn=s.drawn∧s'.os=s.os∧s.toks<=s'.toks
structure EAt (h:Heap)(e:Addr)(o:Obj)(vs:Array Value):Prop where
 g:h.get? e=some o
 c:o.cls=.type "ValueError"
 d:o.data=.fields vs
structure TAt (h₀ h:Heap)(e:Addr)(vs:Array Value)(T:Addr)(o:Obj)(ts:Array Value)(m:Value):Prop where
 f:vs[1]?=some (.ref T)
 n:h₀.get? T=none
 ne:T≠e
 g:h.get? T=some o
 c:o.cls=.type "traceback"
 d:o.data=.fields ts
 m:ts[3]?=some m
structure Exn (h₀ h:Heap)(e:Addr):Prop where
 new:h₀.get? e=none
 there:∃ oe vs,EAt h e oe vs∧(vs[1]?=some .none∨∃ T oT ts,TAt h₀ h e vs T oT ts .none)
end
theorem Same.refl (s:Shared):Same s s:=⟨rfl,rfl,rfl,Aj _⟩
theorem Same.trans {s s' s'':Shared}(x:Same s s')(y:Same s' s''):Same s s'':=⟨y.1.trans x.1,y.2.1.trans x.2.1,y.2.2.1.trans x.2.2.1,Aa x.2.2.2 y.2.2.2⟩
theorem Exn.pre {h₀ h₁ h:Heap}{e:Addr}(x:Exn h₁ h e)(hs:Dom h₀ h₁):Exn h₀ h e:=
 ⟨hs.none x.1,x.2.imp fun oe q=>q.imp fun vs q=>⟨q.1,q.2.imp_right fun q=>q.imp fun T q=>q.imp fun oT q=>q.imp fun ts q=>⟨q.f,hs.none q.n,q.ne,q.g,q.c,q.d,q.m⟩⟩⟩
theorem funFrames_of {base h h':Heap}(k:∀ b o,h.get? b=some o->(∀ vs,o.data≠.fields vs)->∃ o',h'.get? b=some o'∧∀ vs,o'.data≠.fields vs){l:List Env}(q:h.FunFrames base l):h'.FunFrames base l:=by
 induction l with
 | nil=>trivial
 | cons env l ih=>exact ⟨q.1,q.2.1.imp fun L q=>q.elim fun o q=>(k L o q.2.2.1 q.2.2.2).imp fun o' z=>⟨q.1,q.2.1,z⟩,ih q.2.2⟩
section
variable {prog:Program}{w:World}{base:Heap}{cls:Nat->Option Addr}{f:Fm}{vars:List Str}{outer:List Env}{Y Y':Rho}{e:Ev}{J J':Store}{h h':Heap}
theorem Fm.val.move {x:Str}{v:Value}(q:f.val h x v)(hk:∀ b o,f.own b->h.get? b=some o->∃ sl,h'.get? b=some { o with slots:=sl }):f.val h' x v:=
 q.imp (fun q=>⟨q.1,q.2.imp fun m q=>⟨q.1.elim fun o q=>q.elim fun es q=>q.elim fun ep q=>(hk _ _ (.inl rfl) q.1).elim fun sl ho'=>⟨_,es,ep,ho',q.2⟩,q.2⟩⟩)
  fun q=>⟨q.1,q.2.imp fun c q=>⟨q.1,q.2.elim fun o z=>(hk _ _ (.inr ⟨x,q.1⟩) z.1).elim fun sl ho'=>⟨_,ho',z.2⟩⟩⟩
theorem St.moveC {own':Addr->Prop}(S:St prog w base cls f vars outer Y e J h)(hpre:Y.Le Y')(himm:ImmK h h')(hfr:∀ a∈muts Y',a∈muts Y∨h.get? a=none)(hsl:∀ b o,h.get? b=some o->b∉muts Y->¬ own' b->∃ sl,h'.get? b=some { o with slots:=sl })(ho:∀ b,own' b->¬ f.own b∧b∉framesOf (f.env::outer))(hb:base.StaysIn h')(hs:Sim prog w base cls Y' J' h'):St prog w base cls f vars outer Y' e J' h':=by
 have hk:∀ b o,f.own b->h.get? b=some o->∃ sl,h'.get? b=some { o with slots:=sl }:=fun b o q eo=>hsl b o eo (S.off b q) fun w=>(ho b w).1 q;have fr:∀ b,b∉muts Y->(∃ o,h.get? b=some o)->b∉muts Y':=fun b n eo m=>(hfr b m).elim n fun q=>eo.elim fun o eo=>none_some q eo;refine ⟨hb,hs,?_,fun x c hc=>?_,fun i a ei=>?_,?_,fun b q=>fr b (S.off b q) ?_,fun b q=>fr b (S.offF b q) ?_,S.new,fun b q=>?_⟩
 ·exact S.ns.imp fun m q=>q.elim fun o q=>q.elim fun es q=>q.elim fun ep q=>(hk _ _ (.inl rfl) q.1).elim fun sl ho'=>⟨_,es,ep,ho',q.2⟩
 ·exact (S.cel x c hc).imp fun v q=>q.elim fun o q=>(hk _ _ (.inr ⟨x,hc⟩) q.1).elim fun sl ho'=>⟨_,ho',q.2⟩
 ·exact (S.ev i a ei).imp fun x q=>q.imp fun v q=>⟨q.1,q.2.1.move hk,RV.mono himm hpre _ _ q.2.2⟩
 ·have:∀ {l:List Env},(∀ b∈framesOf l,b∉muts Y∧¬ own' b)->h.FunFrames base l->h'.FunFrames base l:=by
   intro l
   induction l with
   | nil=>intro _ _; trivial
   | cons env rest ih=>
    intro hm hl;obtain ⟨hk',⟨L,o,hf,hn,hoo,hd⟩,hr⟩:=hl;obtain ⟨sl,ho'⟩:=hsl L o hoo (hm L (by simp [framesOf,hf])).1 (hm L (by simp [framesOf,hf])).2;exact ⟨hk',⟨L,_,hf,hn,ho',hd⟩,ih (fun b hb=>hm b (by
     unfold framesOf at hb ⊢;rw [List.filterMap_cons];split
     ·exact hb
     ·exact List.mem_cons_of_mem _ hb)) hr⟩
  exact this (fun b hb=>⟨S.offF b hb,fun w=>(ho b w).2 hb⟩) S.frs
 ·exact q.elim (fun q=>q▸S.ns.elim fun m q=>q.imp fun o q=>q.elim fun es q=>q.elim fun ep q=>q.1) fun q=>q.elim fun x hc=>(S.cel x b hc).elim fun v q=>q.imp fun o q=>q.1
 ·obtain ⟨_,o,ho,_⟩:=S.frs.mem q; exact ⟨o,ho⟩
 ·exact (S.frd b q).elim fun o z=>z.elim fun es z=>z.elim fun n z=>(hsl b o z.1 (S.offF b q) fun w=>(ho b w).2 q).elim fun sl ho2=>⟨_,es,n,ho2,z.2⟩
theorem St.moveBut {own':Addr->Prop}(S:St prog w base cls f vars outer Y e J h)(P:Stp (framesOf (f.env::outer)) own' Y h Y' h')(ho:∀ b,own' b->¬ f.own b∧b∉framesOf (f.env::outer))(hb:base.StaysIn h')(hs:Sim prog w base cls Y' J' h'):St prog w base cls f vars outer Y' e J' h':=
 S.moveC P.pre P.imm P.fresh P.slot ho hb hs
theorem St.move (S:St prog w base cls f vars outer Y e J h)(P:Stp (framesOf (f.env::outer)) nope Y h Y' h')(hb:base.StaysIn h')(hs:Sim prog w base cls Y' J' h'):St prog w base cls f vars outer Y' e J' h':=
 S.moveBut P (fun _ q=>q.elim) hb hs
theorem stays_kp (hb:base.StaysIn h)(k:Kp h h'):base.StaysIn h':=fun b o' e=>k b o' (hb b o' e)
theorem St.other (S:St prog w base cls f vars outer Y e J h)(hk:Kp h h'):St prog w base cls f vars outer Y e J h':=
 S.move (Stp.other hk) (stays_kp S.stays hk) (S.sim.still hk.imm fun b o _ e=>hk b o e)
theorem St.tok (S:St prog w base cls f vars outer Y e J h){t:Nat}(x:Tx)(ht:Y.tk t=none):St prog w base cls f vars outer (Y.tok t x) e J h:=
 S.move (Stp.tok x ht) S.stays (S.sim.tok x ht)
theorem St.alloc (S:St prog w base cls f vars outer Y e J h)(o:Obj)(m:MO)(hm:MORep prog w base cls (h.push o) (Y.push (h.objs.size,none)) (h.objs.size,none) m) :
  St prog w base cls f vars outer (Y.push (h.objs.size,none)) e (J++[m]) (h.push o):=
 S.move (Stp.alloc o) (stays_kp S.stays (Kp.push o)) (S.sim.alloc S.stays (Kp.push o) m new1 (List.nodup_cons.mpr ⟨List.not_mem_nil,List.nodup_nil⟩) hm)
theorem St.upd (S:St prog w base cls f vars outer Y e J h){r:Nat}{p:Addr×Option Addr}(hr:Y.l[r]?=some p){a:Addr}(ha:a∈pAs p)(hs:Heap.SameBut a h h')(ha':∃ o',h'.get? a=some o'){o:MO}(hm:MORep prog w base cls h' Y p o) :
  Stp (framesOf (f.env::outer)) nope Y h Y h'∧St prog w base cls f vars outer Y e (J.set r o) h':=by
 have hmem:=mem_muts hr ha;obtain ⟨oa,hoa,hi⟩:=S.sim.lt hmem;have P:Stp (framesOf (f.env::outer)) nope Y h Y h':=Stp.upd hs ha' hoa hi hmem;refine ⟨P,S.move P (fun b o e=>(hs.2 b fun q=>?_).trans (S.stays b o e)) (S.sim.upd hr (fun b o e n=>(hs.2 b fun q=>n (q▸ha)).trans e) hm)⟩;exact none_some (S.sim.new a hmem) (q▸e)
theorem St.size_lt (S:St prog w base cls f vars outer Y e J h):f.L<h.objs.size:=by
 obtain ⟨m,hm⟩:=S.ns; exact hm.lt
end
section
variable {prog:Program}{w:World}{base:Heap}{cls:Nat->Option Addr}{f:Fm}{vars:List Str}{outer:List Env}{Y Y':Rho}{e:Ev}{J J':Store}{s:Shared}{A:Around}{EC:Value->Shared->Prop}
theorem load_var (V:VarsOk f vars)(S:St prog w base cls f vars outer Y e J s.heap){i:Nat}{x:Str}{a:AV}(hx:vars[i]?=some x)(ha:e i=some a){QC:Value->Shared->Prop}
  (h:∀ v,RV base s.heap Y a v->QC v s):wpAny (model prog w) A (loadName f.env x) QC EC s:=by
 obtain ⟨y,v,hy,hv,r⟩:=S.ev i a ha;rw [hx] at hy; cases hy;rcases hv with ⟨k,m,hm,hv⟩ | ⟨k,c,hc,hv⟩
 ·exact wpAny_loadName_local V.kind k hm hv (h v r)
 ·exact wpAny_loadName_cell V.kind k hc hv (h v r)
theorem Stp.own_upd {a:Addr}{oa:Obj}{h h':Heap}(hs:Heap.SameBut a h h')(ha':∃ o',h'.get? a=some o')(ha:h.get? a=some oa)(hi:¬ Imm oa)(hm:f.own a):Stp (framesOf (f.env::outer)) f.own Y h Y h':=Stp.mine hs ha' ha hi hm
structure VStep (f:Fm)(h h':Heap)(b:Addr)(x:Str)(v:Value):Prop where
 own:f.own b
 oa:∃ oa,h.get? b=some oa∧¬ Imm oa
 same:Heap.SameBut b h h'
 oth:∀ y u,y≠x->f.val h y u->f.val h' y u
 this:f.val h' x v
 ns:∃ m,h'.Ns f.L m
 cel:∀ y c,f.cells.lookup y=some c->∃ v,h'.IsCell c v
 nf:∃ o',h'.get? b=some o'∧∀ vs,o'.data≠.fields vs
 dict:(∃ o es n,h.get? b=some o∧o.data=.dict es n)->∃ o es n,h'.get? b=some o∧o.data=.dict es n
theorem store_fin {h h':Heap}(V:VarsOk f vars)(S:St prog w base cls f vars outer Y e J h){i:Nat}{x:Str}{a:AV}{v:Value}(hx:vars[i]?=some x)(hv:RV base h Y a v){b:Addr}(H:VStep f h h' b x v) :
  Stp (framesOf (f.env::outer)) f.own Y h Y h'∧St prog w base cls f vars outer Y (upd e i a) J h':=by
 have P:Stp (framesOf (f.env::outer)) f.own Y h Y h':=H.oa.elim fun oa q=>Stp.mine H.same (H.nf.imp fun _ z=>z.1) q.1 q.2 H.own;have ne:∀ {c o},h.get? c=some o->c≠b->h'.get? c=some o:=fun {c o} eo n=>(H.same.2 c n).trans eo;refine ⟨P,⟨fun c o eo=>ne (S.stays c o eo) fun q=>none_some (S.new b H.own) (q▸eo),S.sim.still P.imm fun c o hc eo=>ne eo fun q=>S.off b H.own (q▸hc),H.ns,H.cel,fun j a' ej=>?_,funFrames_of (fun c o eo hd=>?_) S.frs,S.off,S.offF,S.new,fun c hc=>?_⟩⟩
 ·have ej:cond (Nat.beq j i) (some a) (e j)=some a':=ej;revert ej;cases hj:Nat.beq j i with
  | true=>exact fun ej=>⟨x,v,As hj▸hx,H.this,Ag ej▸P.rv hv⟩
  | false=>
   refine fun ej=>(S.ev j a' ej).imp fun y q=>q.imp fun u q=>⟨q.1,H.oth y u (fun z=>?_) q.2.1,P.rv q.2.2⟩;have g1:=Ai hx;have g2:=Ai (z▸q.1);rw [(List.getElem_inj V.nodup).mp (g2.2.trans g1.2.symm),Nat.beq_refl] at hj; cases hj
 ·by_cases hc:c=b
  ·exact hc▸H.nf
  ·exact ⟨o,ne eo hc,hd⟩
 ·by_cases hq:c=b
  ·exact hq▸H.dict (hq▸S.frd c hc)
  ·exact (S.frd c hc).imp fun o z=>z.imp fun es z=>z.imp fun n z=>⟨ne z.1 hq,z.2⟩
theorem imm_dict {o:Obj}{es n}(h:o.data=.dict es n):¬ Imm o:=fun q=>by
 rcases q with ⟨_,its,n,q⟩ | ⟨_,vs,q⟩<;>(rw [h] at q; cases q)
theorem imm_cell {o:Obj}{v}(h:o.data=.cell v):¬ Imm o:=fun q=>by
 rcases q with ⟨_,its,n,q⟩ | ⟨_,vs,q⟩<;>(rw [h] at q; cases q)
theorem store_var (V:VarsOk f vars)(S:St prog w base cls f vars outer Y e J s.heap){i:Nat}{x:Str}{a:AV}{v:Value}(hx:vars[i]?=some x)(hv:RV base s.heap Y a v){QC:Unit->Shared->Prop}
  (h:∀ s',Same s s'->Stp (framesOf (f.env::outer)) f.own Y s.heap Y s'.heap->St prog w base cls f vars outer Y (upd e i a) J s'.heap->QC () s') :
  wpAny (model prog w) A (storeName f.env x v) QC EC s:=by
 rcases V.var x (List.mem_of_getElem? hx) with k | ⟨k,c,hc⟩
 ·obtain ⟨m,hm⟩:=S.ns;refine wpAny_storeName_local k hm (fun h' hn hs=>?_) (by show (f.scope.kind==.class||(f.scope.kind==.module&&f.L != mainGlobals))=false; rw [V.kind]; rfl);have H:VStep f s.heap h' f.L x v:=by
   obtain ⟨oL,es,ep,ho,hd,hq⟩:=id hm;obtain ⟨oL',es',ep',ho',hd',_⟩:=id hn;refine ⟨.inl rfl,⟨oL,ho,imm_dict hd⟩,hs,fun y u hy hu=>hu.imp (fun z=>⟨z.1,_,hn,?_⟩) fun z=>⟨z.1,z.2.imp fun c z=>⟨z.1,z.2.imp fun o q=>⟨(hs.2 c (V.neL y c z.1)).trans q.1,q.2⟩⟩⟩,
    .inl ⟨k,_,hn,if_pos rfl⟩,⟨_,hn⟩,fun y c hc=>(S.cel y c hc).imp fun u q=>q.imp fun o q=>⟨(hs.2 c (V.neL y c hc)).trans q.1,q.2⟩,⟨oL',ho',fun vs q=>by rw [hd'] at q; cases q⟩,fun _=>⟨oL',es',ep',ho',hd'⟩⟩
   obtain ⟨_,m',⟨o1,es1,ep1,q1,q2,_,q3⟩,hv'⟩:=z;rw [ho] at q1; cases q1; rw [hd] at q2; cases q2;show (if y=x then some v else m y)=some u
   rw [if_neg hy,← hq.2,q3]; exact hv'
  have F:=store_fin V S hx hv H;exact h _ ⟨rfl,rfl,rfl,by first | exact Aj _ | exact Nat.le_succ _⟩ F.1 F.2
 ·obtain ⟨v0,o,ho,hd⟩:=S.cel x c hc;refine wpAny_storeName_cell V.kind k hc ⟨o,ho,hd⟩ fun h' hn hs=>?_;have hcL:f.L≠c:=Ne.symm (V.neL x c hc);have H:VStep f s.heap h' c x v:=by
   obtain ⟨o',ho',hd'⟩:=id hn;refine ⟨.inr ⟨x,hc⟩,⟨o,ho,imm_cell hd⟩,hs,fun y u hy hu=>hu.imp (fun z=>⟨z.1,z.2.imp fun m q=>⟨q.1.sameBut hs hcL,q.2⟩⟩) fun z=>⟨z.1,z.2.imp fun c' q=>⟨q.1,q.2.imp fun o1 z=>⟨(hs.2 c' fun e=>hy (V.inj y x c (e▸q.1) hc)).trans z.1,z.2⟩⟩⟩,
    .inr ⟨k,c,hc,o',ho',hd'⟩,S.ns.imp fun m hm=>hm.sameBut hs hcL,fun y c' hc'=>?_,⟨o',ho',fun vs q=>by rw [hd'] at q; cases q⟩,fun q=>?_⟩
   ·by_cases hq:c'=c
    ·exact hq▸⟨_,o',ho',hd'⟩
    ·exact (S.cel y c' hc').imp fun u q=>q.imp fun o1 q=>⟨(hs.2 c' hq).trans q.1,q.2⟩
   ·obtain ⟨o1,es,n,ho1,hd1⟩:=q;rw [ho] at ho1; cases ho1; rw [hd] at hd1; cases hd1
  have F:=store_fin V S hx hv H;exact h _ ⟨rfl,rfl,rfl,by first | exact Aj _ | exact Nat.le_succ _⟩ F.1 F.2
end
open PySem PySem.Calls PyProof.Rows
structure ExnM (h₀ h:Heap)(e:Addr)(m:Value):Prop where
 new:h₀.get? e=none
 there:∃ oe vs T oT ts,EAt h e oe vs∧TAt h₀ h e vs T oT ts m
theorem ExnM.exn {h₀ h:Heap}{e:Addr}(x:ExnM h₀ h e .none):Exn h₀ h e:=
 ⟨x.1,x.2.imp fun oe q=>q.imp fun vs q=>q.elim fun T q=>q.elim fun oT q=>q.elim fun ts q=>⟨q.1,.inr ⟨T,oT,ts,q.2⟩⟩⟩
structure Noted (F:List Addr)(h₀ h h':Heap):Prop where
 dom:Dom h h'
 keep:∀ b o,h.get? b=some o->((∃ o',h₀.get? b=some o')∨(o.cls≠.type "ValueError"∧o.cls≠.type "traceback"))->(b∉F->h'.get? b=some o)∧∃ sl,h'.get? b=some { o with slots:=sl }
theorem Noted.refl {F:List Addr}{h₀ h:Heap}:Noted F h₀ h h:=⟨Dom.refl _,fun _ o e _=>⟨fun _=>e,o.slots,e⟩⟩
theorem Noted.trans {F:List Addr}{h₀ h h' h'':Heap}(x:Noted F h₀ h h')(y:Noted F h₀ h' h''):Noted F h₀ h h'':=by
 refine ⟨x.dom.trans y.dom,fun b o e c=>?_⟩;have k:=x.keep b o e c;exact ⟨fun n=>(y.keep b o (k.1 n) c).1 n,k.2.elim fun sl e1=>(y.keep b _ e1 c).2⟩
theorem Noted.upd {F:List Addr} {h₀ h:Heap} {a:Addr} {o:Obj} (g:Obj->Obj) (ha:h₀.get? a=none) (ho:h.get? a=some o) (hg:(g o).isFreed=false) (hc:o.cls=.type "ValueError"∨o.cls=.type "traceback"):Noted F h₀ h (h.update a g):=by
 refine ⟨Dom.but (Heap.SameBut.update ..) ⟨_,Heap.get?_update_self g ho hg⟩,fun b o' e c=>?_⟩;have hne:b≠a:=fun q=>by
  subst q;rw [ho] at e; cases e;exact c.elim (fun c=>c.elim fun _ c=>none_some ha c) fun c=>hc.elim c.1 c.2
 have:=Heap.get?_update_other h g (Ne.symm hne);exact ⟨fun _=>this.trans e,o'.slots,this.trans e⟩
theorem Noted.push {F:List Addr}{h₀ h:Heap}(o:Obj):Noted F h₀ h (h.push o):=⟨Dom.keeps (Kp.push o),fun _ o' e _=>⟨fun _=>Heap.get?_push_of_some _ e,o'.slots,Heap.get?_push_of_some _ e⟩⟩
theorem Noted.slots {F:List Addr}{h₀ h h':Heap}(x:Heap.SlotsOnly F h h'):Noted F h₀ h h':=
 ⟨fun b o e=>let ⟨sl,e'⟩:=x.2.2 b o e; ⟨_,e'⟩,fun b o e _=>⟨fun n=>(x.2.1 b n).trans e,x.2.2 b o e⟩⟩
section
variable {M:Model}{A:Around}{E:Value->Shared->Prop}{s:Shared}{base h₀:Heap}{env:Env}{outer:List Env}{L e:Addr}
theorem flight_none {m:Value}{Q:Unit->Shared->Prop}{F:List Addr}(x:ExnM h₀ s.heap e m)(h:∀ h',ExnM h₀ h' e .none->Noted F h₀ s.heap h'->Q () { s with heap:=h' }):wpAny M A (setFlight (.ref e) none) Q E s:=by
 obtain ⟨n,oe,vs,T,oT,ts,y,z⟩:=x;have hsz:3<ts.size:=(Array.getElem?_eq_some_iff.mp z.m).1;unfold setFlight;refine wpAny_bind (wpAny_field y.g y.d z.f ?_);rw [if_pos (show (Value.ref T != Value.none)=true from by simp)];have dm:=Obj.data_mapFields z.d (·.setIfInBounds 3 Value.none);have fr:=Obj.isFreed_of_fields dm;refine wpAny_setField z.g z.d hsz (h _ ⟨n,oe,vs,T,_,_,⟨?_,y.c,y.d⟩,z.f,z.n,z.ne,Heap.get?_update_self _ z.g fr,(Obj.cls_mapFields ..).trans z.c,dm,by simp [Array.getElem?_setIfInBounds,hsz]⟩ (Noted.upd _ z.n z.g fr (.inr z.c)));rw [Heap.get?_update_other _ _ z.ne]; exact y.g
theorem exn_not_frame {l:List Env}(hl:s.heap.FunFrames base l){a:Addr}{o:Obj}{vs:Array Value}(ha:s.heap.get? a=some o)(hd:o.data=.fields vs):a∉framesOf l:=fun hm=>by
 obtain ⟨_,o',ho,hnf⟩:=hl.mem hm;rw [ha] at ho; cases ho; exact hnf vs hd
theorem note_tail {oe:Obj}{vs:Array Value}{head:Value}{hadNext:Bool}{Q:Unit->Shared->Prop}
  (hfr:A.frames=some (env::outer)) (hl:s.heap.FunFrames base (env::outer)) (hf:env.frame=some L) (hb:Dom h₀ s.heap) (hn:h₀.get? e=none)
  (he:s.heap.get? e=some oe) (hc:oe.cls=.type "ValueError") (hd:oe.data=.fields vs) (hsz:1<vs.size)
  (h:∀ h',ExnM h₀ h' e (rawInt L)->Noted (framesOf (env::outer)) h₀ s.heap h'->Q () { s with heap:=h' }) :
  wpAny M A (do setField (.ref e) 1 (← EntryCells.newEntry head (← frameOf env) .none (rawInt L) .none (← entryPlaceOf L hadNext))) Q E s:=by
 have hene:=exn_not_frame hl he hd;refine wpAny_bind (wpAny_frameOf_fun hfr hl hf fun h₁ hs1=>?_);refine wpAny_bind (wpAny_entryPlaceOf fun pl hpl=>?_);unfold EntryCells.newEntry newFields;refine wpAny_bind (wpAny_newObj_type ?_ (hpl.sizeOk5 _ _ _ _ _));have he1:h₁.get? e=some oe:=(hs1.2.1 e hene).trans he;generalize hob:({ cls:=.type "traceback",dict:=none,data:=.fields ([head,.ref L,.none,rawInt L,.none]++(if pl.isEmpty then List.replicate 6 Value.none else pl)).toArray }:Obj)=ob
 have hobc:ob.cls=.type "traceback":=by rw [← hob]
 have hobd:ob.data=.fields ([head,.ref L,.none,rawInt L,.none]++(if pl.isEmpty then List.replicate 6 Value.none else pl)).toArray:=by rw [← hob]
 have hobf:ob.isFreed=false:=by rw [← hob]; rfl
 have he2:=Heap.get?_push_of_some (h:=h₁) ob he1;refine wpAny_setField he2 hd hsz ?_;have hTe:h₁.objs.size≠e:=Nat.ne_of_gt (Heap.lt_size he1);have hd3:=Obj.data_mapFields hd (·.setIfInBounds 1 (Value.ref h₁.objs.size));refine h _ ⟨hn,_,_,h₁.objs.size,ob,_,⟨Heap.get?_update_self _ he2 (Obj.isFreed_of_fields hd3),(Obj.cls_mapFields _ _).trans hc,hd3⟩,by simp [hsz],(hb.trans (fun b o e=>let ⟨sl,e'⟩:=hs1.2.2 b o e; ⟨_,e'⟩)).none (Heap.get?_none_of_le (Aj _)),hTe,?_,hobc,hobd,by simp⟩ ?_
 ·rw [Heap.get?_update_other _ _ (Ne.symm hTe)]; exact Heap.get?_push_size _ hobf
 ·exact ((Noted.slots hs1).trans (Noted.push ob)).trans (Noted.upd _ hn he2 (Obj.isFreed_of_fields hd3) (.inl hc))
theorem note_strong {Q:Unit->Shared->Prop}(hfr:A.frames=some (env::outer))(hl:s.heap.FunFrames base (env::outer))(hf:env.frame=some L)(hb:Dom h₀ s.heap)(x:Exn h₀ s.heap e)
  (h:∀ h',ExnM h₀ h' e (rawInt L)->Noted (framesOf (env::outer)) h₀ s.heap h'->Q () { s with heap:=h' }):wpAny M A (noteFrame (.ref e) env) Q E s:=by
 obtain ⟨n,oe,vs,y,h4⟩:=x;unfold noteFrame;simp only [hf];rcases h4 with h4 | ⟨T,oT,ts,z⟩
 ·refine wpAny_bind (wpAny_field y.g y.d h4 ?_);rw [if_neg (by decide)];exact note_tail hfr hl hf hb n y.g y.c y.d (Array.getElem?_eq_some_iff.mp h4).1 h
 ·refine wpAny_bind (wpAny_field y.g y.d z.f ?_);rw [if_pos (show (Value.ref T != Value.none)=true from by simp)];refine wpAny_bind (wpAny_field z.g z.d z.m ?_);rw [if_neg (show ¬ ((Value.none==rawInt L)=true) from by simp [rawInt])];refine wpAny_bind (wpAny_setField z.g z.d (Array.getElem?_eq_some_iff.mp z.m).1 ?_);have N:=Noted.upd (F:=framesOf (env::outer)) (Obj.mapFields (·.setIfInBounds 3 Value.none)) z.n z.g (Obj.isFreed_of_fields (Obj.data_mapFields z.d _)) (.inr z.c);refine note_tail (base:=base) (s:={ s with heap:=s.heap.update T (Obj.mapFields (·.setIfInBounds 3 Value.none)) }) hfr (funFrames_of (fun c o eo hd=>⟨o,(Heap.get?_update_other _ _ fun q=>?_).trans eo,hd⟩) hl) hf (hb.trans N.dom) n ((Heap.get?_update_other _ _ z.ne).trans y.g) y.c y.d (Array.getElem?_eq_some_iff.mp z.f).1 fun h' x' N'=>h h' x' (N.trans N');rw [← q,z.g] at eo; exact hd _ (Ag eo▸z.d)
theorem leave_strong {Q:Unit->Shared->Prop}(hfr:A.frames=some (env::outer))(hl:s.heap.FunFrames base (env::outer))(hf:env.frame=some L)(hb:Dom h₀ s.heap)(x:Exn h₀ s.heap e)
  (h:∀ h',Exn h₀ h' e->Noted (framesOf (env::outer)) h₀ s.heap h'->Q () { s with heap:=h' }):wpAny M A (leaving env (.ref e)) Q E s:=by
 unfold leaving;refine wpAny_bind (note_strong hfr hl hf hb x fun h' x' N=>?_);exact flight_none x' fun h'' x'' N'=>h h'' x''.exn (N.trans N')
end
section
variable {prog:Program}{w:World}{base:Heap}{cls:Nat->Option Addr}{f:Fm}{vars:List Str}{outer:List Env}{Y Y₀:Rho}{e:Ev}{J:Store}{h h' h₀:Heap}
theorem Noted.imm {F:List Addr}(N:Noted F h₀ h h')(hF:∀ b∈F,∀ o,h.get? b=some o->¬ Imm o):∀ b o,h.get? b=some o->Imm o->h'.get? b=some o:=fun b o eo i=>
 (N.keep b o eo (.inr (by rcases i with ⟨i,_⟩ | ⟨i,_⟩<;>rw [i]<;>simp))).1 fun m=>hF b m o eo i
theorem Noted.stp {own:Addr->Prop}{F:List Addr}(N:Noted F h₀ h h')(hF:∀ b∈F,∀ o,h.get? b=some o->¬ Imm o)(P:Stp F own Y₀ h₀ Y h):Stp F own Y₀ h₀ Y h':=by
 refine ⟨P.pre,P.fresh,P.dom.trans N.dom,fun b o eo i=>N.imm hF b o (P.imm b o eo i) i,fun b o eo n w f=>(N.keep b o (P.keep b o eo n w f) (.inl ⟨o,eo⟩)).1 f,fun b o eo n w=>?_⟩;exact (P.slot b o eo n w).elim fun sl e1=>(N.keep b _ e1 (.inl ⟨o,eo⟩)).2
theorem frame_not_imm {l:List Env}(hd:∀ b∈framesOf l,∃ o es n,h.get? b=some o∧o.data=.dict es n):∀ b∈framesOf l,∀ o,h.get? b=some o->¬ Imm o:=fun b hb o ho i=>by
 obtain ⟨o',es,n,ho',hd'⟩:=hd b hb;rw [ho] at ho'; cases ho';exact imm_dict hd' i
end
open PySem PySem.Calls PyProof.Rows PySem.SeqAt
theorem sOf_beq (a b:Tx):(sOf a==sOf b)=txEq a b:=by
 cases h:txEq a b with
 | true=>rw [txEq_iff.mp h]; exact beq_self_eq_true _
 | false=>exact beq_eq_false_iff_ne.mpr fun q=>by rw [txEq_iff.mpr (sOf_inj q)] at h; cases h
theorem sOf_append (a b:Tx):sOf a++sOf b=sOf (a++b):=by
 show Str.append (sOf a) (sOf b)=_;simp [sOf,Str.append]
theorem sOf_length (a:Tx):(sOf a).length=a.length:=rfl
theorem pyEqs_inv {a b:AV}{as bs:List AV}{r:Bool}(e:pyEqs (a::as) (b::bs)=some r):∃ p q,pyEq a b=some p∧pyEqs as bs=some q∧(p&&q)=r:=by
 have e:(match pyEq a b,pyEqs as bs with
  | some x,some y=>some (x&&y)
  | _,_=>Option.none)=some r:=e
 revert e;cases pyEq a b with
 | none=>intro e; cases e
 | some p=>
  cases pyEqs as bs with
  | none=>intro e; cases e
  | some q=>intro e; cases e; exact ⟨p,q,rfl,rfl,rfl⟩
noncomputable def kdA:AV->Nat
 | .none=>0
 | .bool _=>1
 | .int _=>2
 | .str _=>3
 | .tup _=>4
 | _=>5
noncomputable def kdV:Value->Nat
 | .none=>0
 | .bool _=>1
 | .int _ _=>2
 | .str _ _=>3
 | _=>4
section
variable {base h:Heap}{Y:Rho}{v:Value}{P:Value->Prop}
theorem elN (q:RV base h Y .none v)(k:P .none):P v:=(show v=.none from q)▸k
theorem elB {b:Bool}(q:RV base h Y (.bool b) v)(k:P (.bool b)):P v:=(show v=.bool b from q)▸k
theorem elI {i:Int}(q:RV base h Y (.int i) v)(k:∀ t,P (.int i t)):P v:=Exists.elim q fun t e=>e▸k t
theorem elS {x:Tx}(q:RV base h Y (.str x) v)(k:∀ t,P (.str (sOf x) t)):P v:=Exists.elim q fun t e=>e.1▸k t
theorem elT {l:List AV}(q:RV base h Y (.tup l) v)(k:∀ a items,TpAt h a items->RVs base h Y l items.toList->P (.ref a)):P v:=Exists.elim q fun a q=>q.elim fun items q=>q.1▸k a items q.2.1 q.2.2.1
theorem kd_of {a:AV}(q:RV base h Y a v)(h5:Nat.beq (kdA a) 5=false):kdV v=kdA a:=by
 cases a with
 | none=>exact elN (P:=fun v=>kdV v=0) q rfl
 | bool b=>exact elB (P:=fun v=>kdV v=1) q rfl
 | int i=>exact elI (P:=fun v=>kdV v=2) q fun _=>rfl
 | str x=>exact elS (P:=fun v=>kdV v=3) q fun _=>rfl
 | tup l=>exact elT (P:=fun v=>kdV v=4) q fun _ _ _ _=>rfl
 | _=>cases h5
theorem kd_ne {a b:AV}{G:Prop}(x:RV base h Y a v)(y:RV base h Y b v)(h1:Nat.beq (kdA a) 5=false)(h2:Nat.beq (kdA b) 5=false)(h3:Nat.beq (kdA a) (kdA b)=false):G:=by
 rw [← kd_of x h1,← kd_of y h2,Nat.beq_refl] at h3;cases h3
theorem same_true:∀ (a:AV) (b:AV) (v:Value) (r:Bool),RV base h Y a v->RV base h Y b v->pyEq a b=some r->r=true:=by
 intro a
 induction a using AV.rec (motive_2:=fun as=>∀ bs vs r,RVs base h Y as vs->RVs base h Y bs vs->pyEqs as bs=some r->r=true) with
 | none=>
  intro b v r ha hb e;cases b with
  | none=>exact (Ag e).symm
  | bool y=>exact kd_ne ha hb rfl rfl rfl
  | int y=>exact kd_ne ha hb rfl rfl rfl
  | str y=>exact kd_ne ha hb rfl rfl rfl
  | tup y=>exact kd_ne ha hb rfl rfl rfl
  | _=>exact none_some rfl e
 | bool x=>
  intro b v r ha hb e;cases b with
  | bool y=>
   have q:Value.bool x=.bool y:=(show v=.bool x from ha).symm.trans hb;exact (Ag e).symm.trans (beq_iff_eq.mpr (Value.bool.inj q))
  | none=>exact kd_ne ha hb rfl rfl rfl
  | str y=>exact kd_ne ha hb rfl rfl rfl
  | tup y=>exact kd_ne ha hb rfl rfl rfl
  | _=>exact none_some rfl e
 | int x=>
  intro b v r ha hb e;cases b with
  | int y=>
   obtain ⟨t,p⟩:=ha; obtain ⟨u,q⟩:=hb;exact (Ag e).symm.trans (decide_eq_true (Value.int.inj (p.symm.trans q)).1)
  | none=>exact kd_ne ha hb rfl rfl rfl
  | str y=>exact kd_ne ha hb rfl rfl rfl
  | tup y=>exact kd_ne ha hb rfl rfl rfl
  | _=>exact none_some rfl e
 | str x=>
  intro b v r ha hb e;cases b with
  | str y=>
   obtain ⟨t,p,_⟩:=ha; obtain ⟨u,q,_⟩:=hb;exact (Ag e).symm.trans (txEq_iff.mpr (sOf_inj (Value.str.inj (p.symm.trans q)).1))
  | none=>exact kd_ne ha hb rfl rfl rfl
  | bool y=>exact kd_ne ha hb rfl rfl rfl
  | int y=>exact kd_ne ha hb rfl rfl rfl
  | tup y=>exact kd_ne ha hb rfl rfl rfl
  | _=>exact none_some rfl e
 | tup xs ih=>
  intro b v r ha hb e;cases b with
  | tup ys=>
   obtain ⟨l,items,p,⟨n,ho⟩,rs,_⟩:=ha;obtain ⟨l',items',q,⟨n',ho'⟩,rs',_⟩:=hb;cases p.symm.trans q;rw [ho] at ho'; cases ho';exact ih ys _ r rs rs' e
  | none=>exact kd_ne ha hb rfl rfl rfl
  | bool y=>exact kd_ne ha hb rfl rfl rfl
  | int y=>exact kd_ne ha hb rfl rfl rfl
  | str y=>exact kd_ne ha hb rfl rfl rfl
  | _=>exact none_some rfl e
 | obj r=>intro b v r ha hb e; exact none_some rfl e
 | rng a b c=>intro b v r ha hb e; exact none_some rfl e
 | frz a=>intro b v r ha hb e; exact none_some rfl e
 | stat a=>intro b v r ha hb e; exact none_some rfl e
 | nil=>
  rename_i bs vs r ha hb e
  cases bs with
  | nil=>exact (Ag e).symm
  | cons=>exact RVs.nl (P:=fun l=>RVs base h Y (_::_) l->r=true) ha (fun hb=>Exists.elim hb fun _ q=>q.elim fun _ q=>by cases q.1) hb
 | cons x xs ihx ihs=>
  rename_i bs vs r ha hb e
  cases bs with
  | nil=>exact RVs.nl (P:=fun l=>RVs base h Y (x::xs) l->r=true) hb (fun hb=>Exists.elim hb fun _ q=>q.elim fun _ q=>by cases q.1) ha
  | cons y ys=>
   revert hb;refine RVs.el (P:=fun l=>RVs base h Y (y::ys) l->r=true) ha fun v vs h1 h2 hb=>?_;obtain ⟨v',vs',q,g1,g2⟩:=hb;cases q;obtain ⟨p,q,e1,e2,rfl⟩:=pyEqs_inv e;rw [ihx y v p h1 g1 e1,ihs ys vs q h2 g2 e2]; rfl
end
section
variable {base:Heap}{Y:Rho}{s:Shared}
def EqAll (A:Around)(s:Shared)(va vb:Value)(r:Bool):Prop:=EqAt A s va vb r∧RcAt A s va vb r∧RcNeAt A s va vb (!r)
theorem cl0 {n m:Nat}(h:n+m<cLine):n<cLine:=Ao (Af _ _) h
theorem all_succ (f:Nat->Bool)(n:Nat):(List.range (n+1)).all f=(f 0&&(List.range n).all fun j=>f (j+1)):=by
 rw [List.range_succ_eq_map,List.all_cons,List.all_map]; rfl
theorem got {r r':Bool}{P:Bool->Prop}(e:some r'=some r)(p:P r'):P r:=Ag e▸p
theorem eq_aux:∀ (a:AV) (b:AV) (A:Around) (va vb:Value) (r:Bool),pyEq a b=some r->RV base s.heap Y a va->RV base s.heap Y b vb->A.units+a.depth<cLine->EqAll A s va vb r:=by
 intro a
 induction a using AV.rec (motive_2:=fun as=>∀ bs (A:Around) (vas vbs:List Value) r,pyEqs as bs=some r->RVs base s.heap Y as vas->RVs base s.heap Y bs vbs->A.units+AV.depth.depths as<cLine->
   ∃ e:Nat->Bool,(∀ j (h1:j<vas.length) (h2:j<vbs.length),EqAt A s vas[j] vbs[j] (e j))∧((List.range (min vas.length vbs.length)).all e&&(vas.length==vbs.length))=r) with
 | none=>
  intro b A va vb r e ha hb hu;refine elN (P:=fun va=>EqAll A s va vb r) ha ?_;cases b with
  | none=>exact elN (P:=fun vb=>EqAll A s .none vb r) hb (got (P:=EqAll A s .none _) e ⟨EqAt.same _,RcAt.none_none,RcNeAt.none_none⟩)
  | bool y=>exact elB (P:=fun vb=>EqAll A s .none vb r) hb (got (P:=EqAll A s .none _) e ⟨EqAt.none_bool _,RcAt.none_bool _,RcNeAt.none_bool _⟩)
  | int y=>exact elI (P:=fun vb=>EqAll A s .none vb r) hb (fun t2=>(got (P:=EqAll A s .none _) e ⟨EqAt.none_int _ _,RcAt.none_int _ _,RcNeAt.none_int _ _⟩))
  | str y=>exact elS (P:=fun vb=>EqAll A s .none vb r) hb (fun t2=>(got (P:=EqAll A s .none _) e ⟨EqAt.none_str _ _,RcAt.none_str _ _,RcNeAt.none_str _ _⟩))
  | tup y=>exact elT (P:=fun vb=>EqAll A s .none vb r) hb (fun l2 items2 ht2 rs2=>(got (P:=EqAll A s .none _) e ⟨EqAt.none_tuple ht2.tup (cl0 hu),RcAt.none_tuple ht2.tup (cl0 hu),RcNeAt.none_tuple ht2.tup (cl0 hu)⟩))
  | _=>exact none_some rfl e
 | bool x=>
  intro b A va vb r e ha hb hu;refine elB (P:=fun va=>EqAll A s va vb r) ha ?_;cases b with
  | none=>exact elN (P:=fun vb=>EqAll A s (.bool x) vb r) hb (got (P:=EqAll A s (.bool x) _) e ⟨EqAt.bool_none _,RcAt.bool_none _,RcNeAt.bool_none _⟩)
  | bool y=>exact elB (P:=fun vb=>EqAll A s (.bool x) vb r) hb (got (P:=EqAll A s (.bool x) _) e ⟨EqAt.bool_bool _ _,RcAt.bool_bool _ _,RcNeAt.bool_bool _ _⟩)
  | str y=>exact elS (P:=fun vb=>EqAll A s (.bool x) vb r) hb (fun t2=>(got (P:=EqAll A s (.bool x) _) e ⟨EqAt.bool_str _ _ _,RcAt.bool_str _ _ _,RcNeAt.bool_str _ _ _⟩))
  | tup y=>exact elT (P:=fun vb=>EqAll A s (.bool x) vb r) hb (fun l2 items2 ht2 rs2=>(got (P:=EqAll A s (.bool x) _) e ⟨EqAt.bool_tuple _ ht2.tup (cl0 hu),RcAt.bool_tuple _ ht2.tup (cl0 hu),RcNeAt.bool_tuple _ ht2.tup (cl0 hu)⟩))
  | _=>exact none_some rfl e
 | int x=>
  intro b A va vb r e ha hb hu;refine elI (P:=fun va=>EqAll A s va vb r) ha (fun t=>?_);cases b with
  | none=>exact elN (P:=fun vb=>EqAll A s (.int x t) vb r) hb (got (P:=EqAll A s (.int x t) _) e ⟨EqAt.int_none _ _,RcAt.int_none _ _,RcNeAt.int_none _ _⟩)
  | int y=>exact elI (P:=fun vb=>EqAll A s (.int x t) vb r) hb (fun t2=>(got (P:=EqAll A s (.int x t) _) e ⟨EqAt.int_int _ _ _ _,RcAt.int_int _ _ _ _,RcNeAt.int_int _ _ _ _⟩))
  | str y=>exact elS (P:=fun vb=>EqAll A s (.int x t) vb r) hb (fun t2=>(got (P:=EqAll A s (.int x t) _) e ⟨EqAt.int_str _ _ _ _,RcAt.int_str _ _ _ _,RcNeAt.int_str _ _ _ _⟩))
  | tup y=>exact elT (P:=fun vb=>EqAll A s (.int x t) vb r) hb (fun l2 items2 ht2 rs2=>(got (P:=EqAll A s (.int x t) _) e ⟨EqAt.int_tuple _ _ ht2.tup (cl0 hu),RcAt.int_tuple _ _ ht2.tup (cl0 hu),RcNeAt.int_tuple _ _ ht2.tup (cl0 hu)⟩))
  | _=>exact none_some rfl e
 | str x=>
  intro b A va vb r e ha hb hu;refine elS (P:=fun va=>EqAll A s va vb r) ha (fun t=>?_);cases b with
  | none=>exact elN (P:=fun vb=>EqAll A s (.str (sOf x) t) vb r) hb (got (P:=EqAll A s (.str (sOf x) t) _) e ⟨EqAt.str_none _ _,RcAt.str_none _ _,RcNeAt.str_none _ _⟩)
  | bool y=>exact elB (P:=fun vb=>EqAll A s (.str (sOf x) t) vb r) hb (got (P:=EqAll A s (.str (sOf x) t) _) e ⟨EqAt.str_bool _ _ _,RcAt.str_bool _ _ _,RcNeAt.str_bool _ _ _⟩)
  | int y=>exact elI (P:=fun vb=>EqAll A s (.str (sOf x) t) vb r) hb (fun t2=>(got (P:=EqAll A s (.str (sOf x) t) _) e ⟨EqAt.str_int _ _ _ _,RcAt.str_int _ _ _ _,RcNeAt.str_int _ _ _ _⟩))
  | str y=>exact elS (P:=fun vb=>EqAll A s (.str (sOf x) t) vb r) hb (fun t2=>(got (P:=EqAll A s (.str (sOf x) t) _) ((congrArg some (sOf_beq x y)).trans e) ⟨EqAt.str_str _ _ _ _,RcAt.str_str _ _ _ _,RcNeAt.str_str _ _ _ _⟩))
  | tup y=>exact elT (P:=fun vb=>EqAll A s (.str (sOf x) t) vb r) hb (fun l2 items2 ht2 rs2=>(got (P:=EqAll A s (.str (sOf x) t) _) e ⟨EqAt.str_tuple _ _ ht2.tup (cl0 hu),RcAt.str_tuple _ _ ht2.tup (cl0 hu),RcNeAt.str_tuple _ _ ht2.tup (cl0 hu)⟩))
  | _=>exact none_some rfl e
 | tup xs ih=>
  intro b A va vb r e ha hb hu;refine elT (P:=fun va=>RV base s.heap Y (.tup xs) va->EqAll A s va vb r) ha (fun l items ht rs ha=>?_) ha;have ht:=ht.tup;cases b with
  | none=>exact elN (P:=fun vb=>EqAll A s (.ref l) vb r) hb (got (P:=EqAll A s (.ref l) _) e ⟨EqAt.tuple_none ht (cl0 hu),RcAt.tuple_none ht (cl0 hu),RcNeAt.tuple_none ht (cl0 hu)⟩)
  | bool y=>exact elB (P:=fun vb=>EqAll A s (.ref l) vb r) hb (got (P:=EqAll A s (.ref l) _) e ⟨EqAt.tuple_bool _ ht (cl0 hu),RcAt.tuple_bool _ ht (cl0 hu),RcNeAt.tuple_bool _ ht (cl0 hu)⟩)
  | int y=>exact elI (P:=fun vb=>EqAll A s (.ref l) vb r) hb (fun t2=>(got (P:=EqAll A s (.ref l) _) e ⟨EqAt.tuple_int _ _ ht (cl0 hu),RcAt.tuple_int _ _ ht (cl0 hu),RcNeAt.tuple_int _ _ ht (cl0 hu)⟩))
  | str y=>exact elS (P:=fun vb=>EqAll A s (.ref l) vb r) hb (fun t2=>(got (P:=EqAll A s (.ref l) _) e ⟨EqAt.tuple_str _ _ ht (cl0 hu),RcAt.tuple_str _ _ ht (cl0 hu),RcNeAt.tuple_str _ _ ht (cl0 hu)⟩))
  | tup ys=>
   refine elT (P:=fun vb=>RV base s.heap Y (.tup ys) vb->EqAll A s (.ref l) vb r) hb (fun l2 items2 ht2 rs2 hb=>?_) hb;obtain ⟨g,hg,hr⟩:=ih ys A.in1 items.toList items2.toList r e rs rs2 (Ao (Nat.le_of_eq ((Nat.add_assoc ..).trans (congrArg (A.units+·) (Nat.add_comm 1 _)))) hu);have h1:=RcAt.tuples ht ht2.tup (cl0 hu) fun j h1 h2=>hg j h1 h2;have h2:=RcNeAt.tuples ht ht2.tup (cl0 hu) fun j h1 h2=>hg j h1 h2;rw [show ((List.range (min items.size items2.size)).all g&&(items.size==items2.size))=r from hr] at h1 h2;refine ⟨?_,h1,h2⟩;by_cases hq:l=l2
   ·subst hq;rw [same_true _ _ _ _ ha hb e];exact EqAt.same _
   ·exact EqAt.of_refs hq h1
  | _=>exact none_some rfl e
 | obj r=>intro b A va vb r e; exact none_some rfl e
 | rng a b c=>intro b A va vb r e; exact none_some rfl e
 | frz a=>intro b A va vb r e; exact none_some rfl e
 | stat a=>intro b A va vb r e; exact none_some rfl e
 | nil=>
  rename_i bs A vas vbs r e ha hb hu
  obtain rfl:vas=[]:=ha;refine ⟨fun _=>true,fun j h1=>absurd h1 (Nat.not_lt_zero _),?_⟩;cases bs with
  | nil=>obtain rfl:vbs=[]:=hb; exact Ag e
  | cons y ys=>obtain ⟨v,vs,rfl,_⟩:=hb; exact (by rw [show min ([]:List Value).length (v::vs).length=0 from Nat.zero_min _]; exact Ag e)
 | cons x xs ihx ihs=>
  rename_i bs A vas vbs r e ha hb hu
  obtain ⟨v,vs,rfl,h1,h2⟩:=ha;cases bs with
  | nil=>
   obtain rfl:vbs=[]:=hb;exact ⟨fun _=>true,fun j _ h2=>absurd h2 (Nat.not_lt_zero _),Ag e⟩
  | cons y ys=>
   obtain ⟨v',vs',rfl,g1,g2⟩:=hb;obtain ⟨p,q,e1,e2,rfl⟩:=pyEqs_inv e;have k1:=(ihx y A v v' p e1 h1 g1 (Ao (Ak (Nat.le_max_left _ _) _) hu)).1;obtain ⟨g,hg,rfl⟩:=ihs ys A vs vs' q e2 h2 g2 (Ao (Ak (Nat.le_max_right _ _) _) hu);refine ⟨fun j=>Nat.casesOn j p g,fun j=>?_,?_⟩
   ·cases j with
    | zero=>exact fun _ _=>k1
    | succ j=>exact fun l1 l2=>hg j (Nat.lt_of_succ_lt_succ l1) (Nat.lt_of_succ_lt_succ l2)
   ·show ((List.range (min (vs.length+1) (vs'.length+1))).all _&&(vs.length+1==vs'.length+1))=_;rw [Nat.add_min_add_right,all_succ,Bool.and_assoc];congr 2;exact Bool.eq_iff_iff.mpr ⟨fun h=>beq_iff_eq.mpr (Nat.succ.inj (beq_iff_eq.mp h)),fun h=>beq_iff_eq.mpr (congrArg Nat.succ (beq_iff_eq.mp h))⟩
end
open PySem PySem.Calls PyProof.Rows PySem.SeqAt
structure Cx where
 prog:Program
 w:World
 base:Heap
 cls:Nat->Option Addr
 K:PySem.W.Frag
 tk0:Nat->Option Tx
 f:Fm
 vars:List Str
 outer:List Env
noncomputable abbrev Cx.M (c:Cx):Model:=model c.prog c.w
noncomputable abbrev Cx.F (c:Cx):List Addr:=framesOf (c.f.env::c.outer)
structure CS (c:Cx)(Y:Rho)(e:Ev)(J:Store)(s:Shared):Prop extends St c.prog c.w c.base c.cls c.f c.vars c.outer Y e J s.heap where
 pos:0<s.toks
 tks:∀ t,s.toks<=t->Y.tk t=none
 ini:∀ t x,c.tk0 t=some x->Y.tk t=some x
abbrev Cx.S (c:Cx)(Y:Rho)(e:Ev)(J:Store)(s:Shared):Prop:=CS c Y e J s
abbrev Cx.P (c:Cx)(Y:Rho)(h:Heap)(Y':Rho)(h':Heap):Prop:=Stp c.F nope Y h Y' h'
abbrev Cx.V (c:Cx)(h:Heap)(Y:Rho)(a:AV)(v:Value):Prop:=RV c.base h Y a v
def OkV (c:Cx)(e:Ev)(s:Shared)(Y:Rho)(Q:QV)(QC:Value->Shared->Prop):Prop:=
 ∀ v s' Y' a J',Same s s'->c.P Y s.heap Y' s'.heap->c.S Y' e J' s'->c.V s'.heap Y' a v->Q a J'->QC v s'
def OkX (c:Cx)(e:Ev)(s:Shared)(Y:Rho)(X:QX)(EC:Value->Shared->Prop):Prop:=
 ∀ ex s' Y' J',Same s s'->c.P Y s.heap Y' s'.heap->c.S Y' e J' s'->Exn s.heap s'.heap ex->X J'->EC (.ref ex) s'
section
variable {c:Cx}{e:Ev}{s s₁:Shared}{Y Y₁:Rho}{Q:QV}{X:QX}{QC EC:Value->Shared->Prop}
theorem OkV.pre (H:OkV c e s Y Q QC)(hs:Same s s₁)(P:c.P Y s.heap Y₁ s₁.heap):OkV c e s₁ Y₁ Q QC:=
 fun v s' Y' a J' hs' P' S' r q=>H v s' Y' a J' (hs.trans hs') (P.trans P') S' r q
theorem OkX.pre (H:OkX c e s Y X EC)(hs:Same s s₁)(P:c.P Y s.heap Y₁ s₁.heap):OkX c e s₁ Y₁ X EC:=
 fun ex s' Y' J' hs' P' S' x q=>H ex s' Y' J' (hs.trans hs') (P.trans P') S' (x.pre P.dom) q
theorem CS.le {J:Store}(S:c.S Y e J s){tk:Nat}(h:s.toks<=tk):c.S Y e J { s with toks:=tk }:=
 ⟨S.toSt,An S.pos h,fun t ht=>S.tks t (Aa h ht),S.ini⟩
theorem CS.heap {J:Store}(S:c.S Y e J s){e':Ev}{J':Store}{h':Heap}(S':St c.prog c.w c.base c.cls c.f c.vars c.outer Y e' J' h'):c.S Y e' J' { s with heap:=h' }:=
 ⟨S',S.pos,S.tks,S.ini⟩
theorem CS.pushed {J:Store}(S:c.S Y e J s)(o:Obj):c.S Y e J { s with heap:=s.heap.push o }:=S.heap (S.toSt.other (Kp.push o))
theorem CS.tok {J:Store}(S:c.S Y e J s)(x:Tx):c.S (Y.tok s.toks x) e J { s with toks:=s.toks+1 }:=
 ⟨S.toSt.tok x (S.tks _ (Aj _)),Nat.succ_pos _,fun t ht=>by
  have h1:s.toks+1<=t:=ht;show (if t=s.toks then some x else Y.tk t)=none
  rw [if_neg (Nat.ne_of_gt h1)];exact S.tks t (Ap h1),fun t y e=>(Rho.Le.tok x (S.tks _ (Aj _))).tk t y (S.ini t y e)⟩
theorem OkV.now {J:Store}{a:AV}{v:Value}{tk:Nat}(H:OkV c e s Y Q QC)(S:c.S Y e J s)(r:c.V s.heap Y a v)(q:Q a J)(hn:s.toks<=tk):QC v { s with toks:=tk }:=
 H v _ Y a J ⟨rfl,rfl,rfl,hn⟩ Stp.refl (S.le hn) r q
theorem OkV.now' {J:Store}{a:AV}{v:Value}(H:OkV c e s Y Q QC)(S:c.S Y e J s)(r:c.V s.heap Y a v)(q:Q a J):QC v s:=
 H v _ Y a J ⟨rfl,rfl,rfl,Aj _⟩ Stp.refl S r q
theorem OkV.str {J:Store}{x:Tx}(H:OkV c e s Y Q QC)(S:c.S Y e J s)(hz:x.length<=lid)(q:Q (.str x) J):QC (.str (sOf x) s.toks) { s with toks:=s.toks+1 }:=by
 exact H _ _ (Y.tok s.toks x) (.str x) J ⟨rfl,rfl,rfl,Nat.le_succ _⟩ (Stp.tok x (S.tks _ (Aj _))) (S.tok x) ⟨_,rfl,hz,Nat.ne_of_gt S.pos,Rho.tok_at ..⟩ q
theorem OkV.list {J:Store}{vs:List AV}{items:Array Value}(H:OkV c e s Y Q QC)(S:c.S Y e J s)(r:RVs c.base s.heap Y vs items.toList)(hz:vs.length<=lid)(q:Q (.obj J.length) (J++[.list vs])) :
  QC (.ref s.heap.objs.size) { s with heap:=s.heap.push { cls:=.type "list",data:=.seq items } }:=by
 have hl:Y.l.length=J.length:=S.sim.len;refine H _ _ (Y.push (s.heap.objs.size,none)) (.obj J.length) (J++[.list vs]) ⟨rfl,rfl,rfl,Aj _⟩ (Stp.alloc _) ⟨S.toSt.alloc _ _ ?_,S.pos,S.tks,S.ini⟩ ?_ q
 ·refine ⟨rfl,items,⟨0,Heap.get?_push_size _ rfl⟩,?_,hz⟩;exact (Stp.alloc (F:=c.F) (own:=nope) _).rvs r
 ·exact ⟨(s.heap.objs.size,none),rfl,hl▸List.getElem?_concat_length⟩
theorem OkV.tuple {J:Store}{vs:List AV}{items:Array Value}(H:OkV c e s Y Q QC)(S:c.S Y e J s)(r:RVs c.base s.heap Y vs items.toList)(hz:vs.length<=lid)(q:Q (.tup vs) J) :
  QC (.ref s.heap.objs.size) { s with heap:=s.heap.push { cls:=.type "tuple",data:=.seq items } }:=by
 refine H _ _ Y (.tup vs) J ⟨rfl,rfl,rfl,Aj _⟩ (Stp.push _) (S.pushed _) ?_ q;exact ⟨_,items,rfl,⟨0,Heap.get?_push_size _ rfl⟩,(Stp.push (F:=c.F) (own:=nope) _).rvs r,hz⟩
theorem Cx.S.list_at {J:Store}{r:Nat}{l:List AV}{v:Value}(S:c.S Y e J s)(hr:J[r]?=some (.list l))(hv:c.V s.heap Y (.obj r) v) :
  ∃ p items n,v=.ref p∧Y.l[r]?=some (p,none)∧IsL s.heap p items n∧RVs c.base s.heap Y l items.toList∧l.length<=lid:=by
 obtain ⟨⟨p,d⟩,rfl,hp⟩:=hv;obtain ⟨e1,items,⟨n,ho⟩,rs,hz⟩:=S.sim.obj r _ _ hp hr;cases (e1:d=none);exact ⟨p,items,n,rfl,hp,ho,rs,hz⟩
theorem Cx.S.list_upd {J:Store}{r:Nat}{p:Addr}{items items':Array Value}{n:Nat}{l':List AV}{g:Array Value->Array Value}(S:c.S Y e J s)(hp:Y.l[r]?=some (p,none))(ho:IsL s.heap p items n)(hg:g items=items')
  (rs:RVs c.base s.heap Y l' items'.toList) (hz:l'.length<=lid):c.P Y s.heap Y (s.heap.update p (Obj.mapSeq g))∧c.S Y e (J.set r (.list l')) { s with heap:=s.heap.update p (Obj.mapSeq g) }:=by
 have hm:p∈muts Y:=mem_muts hp (hd_mem _);have P:c.P Y s.heap Y (s.heap.update p (Obj.mapSeq g)):=Stp.upd (Heap.SameBut.update ..) ⟨_,ho.update g⟩ ho (odd_list rfl).imm hm;subst hg;exact ⟨P,S.heap (S.toSt.upd (o:=.list l') hp (hd_mem _) (Heap.SameBut.update ..) ⟨_,ho.update g⟩ ⟨rfl,_,⟨_,ho.update g⟩,P.rvs rs,hz⟩).2⟩
end
noncomputable def opOf:BOp->Operator
 | .add=>.Add | .sub=>.Sub | .mul=>.Mult | .fdiv=>.FloorDiv | .mod=>.Mod | .band=>.BitAnd
noncomputable def copOf:COp->CmpOp
 | .eq=>.Eq | .ne=>.NotEq | .lt=>.Lt | .le=>.LtE | .gt=>.Gt | .ge=>.GtE | .isin=>.In | .notin=>.NotIn | .is=>.Is | .isnot=>.IsNot
theorem lid_line:lid<=sizeLine:=by rw [sizeLine_eq]; decide
theorem bits_le {a:Int}(ha:a.natAbs<2 ^ 200):Builtin.Int.intBits a<=200:=by
 unfold Builtin.Int.intBits;split
 ·lia
 ·rename_i h
  have h0:a.natAbs≠0:=by
   intro q; apply h; simp; lia
  have:=(Nat.log2_lt h0).mpr ha;lia
theorem mulOk {a b:Int}(ha:a.natAbs<2 ^ 200)(hb:b.natAbs<2 ^ 200):IntMulOk a b:=by
 have h1:=bits_le ha;have h2:=bits_le hb;unfold IntMulOk;have:Builtin.Int.intTooBig ((Builtin.Int.intBits a:Int)+(Builtin.Int.intBits b:Int))=false:=by
  unfold Builtin.Int.intTooBig;rw [bitsLine_eq];exact decide_eq_false (by lia)
 rw [this];simp
theorem noPylong {a b:Int}(hb:b.natAbs<2 ^ 200):Builtin.divisionGoesByPylong a b=false:=by
 have h2:=bits_le hb;unfold Builtin.Int.intBits at h2;unfold Builtin.divisionGoesByPylong;have:¬ ((if b==0 then 0 else b.natAbs.log2 / 30+1)>300):=by
  split
  ·lia
  ·rename_i h
   simp only [h] at h2;simp at h2;lia
 simp only [decide_eq_false this,Bool.false_and]
theorem band_one (a:Int):Builtin.bitAnd a 1=a.fmod 2:=by
 rw [Int.fmod_eq_emod_of_nonneg _ (by decide)];cases a with
 | ofNat n=>
  show ((n &&& 1:Nat):Int)=((n%2:Nat):Int);rw [Nat.and_one_is_mod]
 | negSucc n=>
  have e:(Builtin.bitNot (Int.negSucc n)).toNat=n:=by unfold Builtin.bitNot; lia
  show (1:Int)-((1 &&& (Builtin.bitNot (Int.negSucc n)).toNat:Nat):Int)=Int.subNatNat 2 (n%2+1);rw [e,Nat.and_comm,Nat.and_one_is_mod];rcases Nat.mod_two_eq_zero_or_one n with h | h<;>rw [h]<;>rfl
theorem rv_int {base h:Heap}{Y:Rho}{i:Int}{t:Tok}:RV base h Y (.int i) (.int i t):=⟨_,rfl⟩
theorem rv_str {base h:Heap}{Y:Rho}{x:Tx}{t:Tok}(hz:x.length<=lid∧t≠0∧Y.tk t=some x):RV base h Y (.str x) (.str (sOf x) t):=⟨_,rfl,hz⟩
theorem rv_bool {base h:Heap}{Y:Rho}{b:Bool}:RV base h Y (.bool b) (.bool b):=rfl
theorem rv_none {base h:Heap}{Y:Rho}:RV base h Y .none .none:=rfl
theorem intW_i {v:AV}{P:Int->Prop}(h:intW v P):∃ x,v=.int x∧P x:=by
 cases v<;>first | exact ⟨_,rfl,h⟩ | exact h.elim
theorem strW_i {v:AV}{P:Tx->Prop}(h:strW v P):∃ x,v=.str x∧P x:=by
 cases v<;>first | exact ⟨_,rfl,h⟩ | exact h.elim
theorem objW_i {v:AV}{P:Nat->Prop}(h:objW v P):∃ x,v=.obj x∧P x:=by
 cases v<;>first | exact ⟨_,rfl,h⟩ | exact h.elim
theorem tupW_i {v:AV}{P:List AV->Prop}(h:tupW v P):∃ x,v=.tup x∧P x:=by
 cases v<;>first | exact ⟨_,rfl,h⟩ | exact h.elim
theorem boolW_i {v:AV}{P:Bool->Prop}(h:boolW v P):∃ x,v=.bool x∧P x:=by
 cases v<;>first | exact ⟨_,rfl,h⟩ | exact h.elim
theorem oneW_i {v:Tx}{P:Nat->Prop}(h:oneW v P):∃ x,v=[x]∧P x:=by
 cases v with
 | nil=>exact h.elim
 | cons x r=>cases r with
  | nil=>exact ⟨_,rfl,h⟩
  | cons _ _=>exact h.elim
theorem optW_i {α:Type}{o:Option α}{P:α->Prop}(h:optW o P):∃ x,o=some x∧P x:=by
 cases o
 ·exact h.elim
 ·exact ⟨_,rfl,h⟩
theorem grdW_i {b:Bool}{P:Prop}(h:grdW b P):b=true∧P:=by
 cases b
 ·exact h.elim
 ·exact ⟨rfl,h⟩
theorem varW_i {e:Ev}{i:Nat}{P:AV->Prop}(h:varW e i P):∃ x,e i=some x∧P x:=by
 unfold varW at h;split at h
 ·rename_i x q; exact ⟨x,q,h⟩
 ·exact h.elim
theorem lstO_i {r:Nat}{J:Store}{P:List AV->Prop}(h:lstO r J P):∃ l,J[r]?=some (.list l)∧P l:=by
 unfold lstO at h; exact h
theorem dctO_i {r:Nat}{J:Store}{P:List (Tx×AV)->Prop}(h:dctO r J P):∃ l,J[r]?=some (.dict l)∧P l:=by
 unfold dctO at h; exact h
theorem ordW_i {a b:AV}{P:Int->Int->Prop}(h:ordW a b P):∃ x y,a=.int x∧b=.int y∧P x y:=by
 obtain ⟨x,rfl,h⟩:=intW_i h;obtain ⟨y,rfl,h⟩:=intW_i h;exact ⟨x,y,rfl,rfl,h⟩
section
variable {c:Cx}{e:Ev}{s:Shared}{Y:Rho}{J:Store}{Q:QV}{X:QX}{QC EC:Value->Shared->Prop}{A:Around}
theorem int_el {base h:Heap}{a:AV}{v:Value}{P:Int->Prop}(p:intW a P)(r:RV base h Y a v)(G:Value->Prop)(k:∀ x t,P x->G (.int x t)):G v:=by
 obtain ⟨x,rfl,p⟩:=intW_i p;obtain ⟨t,rfl⟩:=r;exact k x t p
theorem ord_el {base h:Heap}{a b:AV}{v w:Value}{P:Int->Int->Prop}(p:ordW a b P)(r:RV base h Y a v)(r':RV base h Y b w)(G:Value->Value->Prop)(k:∀ x t y u,P x y->G (.int x t) (.int y u)):G v w:=
 int_el (P:=fun x=>intW b fun y=>P x y) p r (fun v=>G v w) fun x t p=>int_el p r' (G (.int x t)) fun y u p=>k x t y u p
def StrA (Y:Rho)(x:Tx)(t:Nat):Prop:=x.length<=lid∧t≠0∧Y.tk t=some x
theorem str_el {base h:Heap}{a:AV}{v:Value}{P:Tx->Prop}(p:strW a P)(r:RV base h Y a v)(G:Value->Prop)(k:∀ x t,StrA Y x t->P x->G (.str (sOf x) t)):G v:=by
 obtain ⟨x,rfl,p⟩:=strW_i p;obtain ⟨t,rfl,hz⟩:=r;exact k x t hz p
theorem obj_el {a:AV}{v:Value}{P:Nat->Prop}{G:Prop}(p:objW a P)(r:c.V s.heap Y a v)(k:∀ x,c.V s.heap Y (.obj x) v->P x->G):G:=by
 obtain ⟨x,rfl,p⟩:=objW_i p;exact k x r p
structure LAt (c:Cx)(Y:Rho)(s:Shared)(r:Nat)(l:List AV)(p:Addr)(items:Array Value)(n:Nat):Prop where
 at_:Y.l[r]?=some (p,none)
 is:IsL s.heap p items n
 rs:RVs c.base s.heap Y l items.toList
 le:l.length<=lid
theorem lst_el {r:Nat}{v:Value}{P:List AV->Prop}(p:lstO r J P)(S:c.S Y e J s)(rv:c.V s.heap Y (.obj r) v)(G:Value->Prop)(k:∀ l a items n,LAt c Y s r l a items n->P l->G (.ref a)):G v:=by
 obtain ⟨l,h1,p⟩:=lstO_i p;obtain ⟨a,items,n,rfl,hp,ho,rs,hz⟩:=Cx.S.list_at S h1 rv;exact k l a items n ⟨hp,ho,rs,hz⟩ p
theorem LAt.size {r:Nat}{l:List AV}{p:Addr}{items:Array Value}{n:Nat}(L:LAt c Y s r l p items n):l.length=items.size:=L.rs.size
theorem flat_rep {base h:Heap}{l:List AV}{vs:List Value}(rs:RVs base h Y l vs):∀ k,RVs base h Y (List.replicate k l).flatten (List.replicate k vs).flatten
 | 0=>(rfl:_=[])
 | k+1=>rs.append (flat_rep rs k)
theorem rep_flat (a:AV):∀ k,(List.replicate k [a]).flatten=List.replicate k a
 | 0=>rfl
 | k+1=>congrArg (a::·) (rep_flat a k)
theorem add_sound {a b:AV}{va vb:Value}(h:addW a b J Q)(S:c.S Y e J s)(ra:c.V s.heap Y a va)(rb:c.V s.heap Y b vb)(H:OkV c e s Y Q QC) :
  wpAny c.M A (binaryOp .Add va vb) QC EC s:=by
 cases a with
 | int a=>
  obtain ⟨t,rfl⟩:=ra;exact int_el h rb (fun vb=>wpAny c.M A (binaryOp .Add (.int a t) vb) QC EC s) fun y u h=>PyProof.Rows.add_int (H.now S rv_int h (Nat.le_succ _))
 | str x=>
  obtain ⟨t,rfl,ha⟩:=ra;refine str_el h rb (fun vb=>wpAny c.M A (binaryOp .Add _ vb) QC EC s) fun y u hb h=>PySem.P.add_str ?_;cases x with
  | nil=>exact H.now' S (rv_str hb) h.2
  | cons x0 x=>
   cases y with
   | nil=>exact H.now' S (rv_str ha) (List.append_nil (x0::x)▸h.2)
   | cons y0 y=>
    rw [sOf_append];have hz:=h.1;rw [← Ac] at hz;exact ⟨Aa hz lid_line,H.str S hz h.2⟩
 | obj r=>
  refine obj_el h rb fun r' rb h=>lst_el h S ra (fun va=>wpAny c.M A (binaryOp .Add va vb) QC EC s) fun l p items n L h=>lst_el h S rb (fun vb=>wpAny c.M A (binaryOp .Add (.ref p) vb) QC EC s) fun l' p' items' n' L' h=>?_;refine P.add_list L.is L'.is (H.list S (items:=items++items') (by rw [Array.toList_append]; exact L.rs.append L'.rs) (by rw [Ac]; exact h.1) h.2) ?_;rw [← L.size,← L'.size];exact Aa h.1 lid_line
 | _=>exact h.elim
theorem mul_sound {a b:AV}{va vb:Value}(h:mulW a b J Q)(S:c.S Y e J s)(ra:c.V s.heap Y a va)(rb:c.V s.heap Y b vb)(H:OkV c e s Y Q QC) :
  wpAny c.M A (binaryOp .Mult va vb) QC EC s:=by
 cases a with
 | int a=>
  obtain ⟨t,rfl⟩:=ra;exact int_el h rb (fun vb=>wpAny c.M A (binaryOp .Mult (.int a t) vb) QC EC s) fun y u h=>PyProof.Rows.mul_int (H.now S rv_int h.2.2 (Nat.le_succ _)) (mulOk h.1 h.2.1)
 | obj r=>
  refine int_el h rb (fun vb=>wpAny c.M A (binaryOp .Mult va vb) QC EC s) fun m u h=>lst_el h S ra (fun va=>wpAny c.M A (binaryOp .Mult va (.int m u)) QC EC s) fun l p items n L h=>?_;obtain ⟨i,rfl,h0,hz,q⟩:=h;have hlen:1=items.size:=L.size;have hlid:lid=1000000:=rfl;have ho':s.heap.get? p=some ({ cls:=.type "list",dict:=none,data:=.seq items n,slots:=#[] }:Obj):=L.is
  refine wpAny_binaryOp_repeat_ref (T:="list") (U:="int") (by decide) ⟨_,ho',rfl⟩ (fun s'=>typeIs_int s' m u) noFill_list_mul F.fills_int_mul F.slot_int_rmul repeat_list F.slot_int_index.lookup
   (call_meets F.slot_int_rmul (typeIs_int s m u) F.entry_int_rmul (F.args_int_rmul_2 _ _) (lm_int_rmul_list_any m u p items n none #[])
    ⟨ho',rfl,⟨_,ho',rfl⟩,call_meets F.slot_list_mul ⟨_,ho',rfl⟩ F.entry_list_mul (F.args_list_mul_2 _ _)
     (lm_list_mul_any p items n none #[] m u (by simp [Builtin.List.listFitsIndex]; lia) (by rw [← hlen]; lia) (by simp [Builtin.List.listTooLong,sizeLine,← hlen]; lia))
     ⟨ho',?_⟩⟩)
  rw [listMul_foldl_if];refine H.list S (vs:=List.replicate m.toNat (.int i)) (items:=(List.replicate m.toNat items.toList).flatten.toArray) (rep_flat (.int i) _▸flat_rep L.rs m.toNat) ?_ q;rw [List.length_replicate]; lia
 | _=>exact h.elim
theorem bin_sound {op:BOp}{a b:AV}{va vb:Value}(h:binW op a b J Q)(S:c.S Y e J s)(ra:c.V s.heap Y a va)(rb:c.V s.heap Y b vb)(H:OkV c e s Y Q QC) :
  wpAny c.M A (binaryOp (opOf op) va vb) QC EC s:=by
 cases op with
 | add=>exact add_sound h S ra rb H
 | mul=>exact mul_sound h S ra rb H
 | sub=>exact ord_el h ra rb (fun va vb=>wpAny c.M A (binaryOp .Sub va vb) QC EC s) fun x t y u h=>PyProof.Rows.sub_int (H.now S rv_int h (Nat.le_succ _))
 | fdiv=>exact ord_el h ra rb (fun va vb=>wpAny c.M A (binaryOp .FloorDiv va vb) QC EC s) fun x t y u h=>PyProof.Rows.floordiv_int h.1 (H.now S rv_int h.2.2 (Nat.le_succ _)) (.inl (noPylong h.2.1))
 | mod=>exact ord_el h ra rb (fun va vb=>wpAny c.M A (binaryOp .Mod va vb) QC EC s) fun x t y u h=>PyProof.Rows.mod_int' h.1 (H.now S rv_int h.2.2 (Nat.le_succ _))
 | band=>
  refine ord_el h ra rb (fun va vb=>wpAny c.M A (binaryOp .BitAnd va vb) QC EC s) fun x t y u h=>?_;obtain ⟨rfl,q⟩:=h;refine PyProof.Rows.and_int (H.now S ?_ q (Nat.le_succ _));rw [band_one];exact rv_int
theorem neg_sound {i:Int}{va:Value}(S:c.S Y e J s)(ra:c.V s.heap Y (.int i) va)(q:Q (.int (-i)) J)(H:OkV c e s Y Q QC):wpAny c.M A (unaryOp .USub va) QC EC s:=by
 obtain ⟨t,rfl⟩:=ra;exact PyProof.Rows.neg_int (H.now S rv_int q (Nat.le_succ _))
end
open PySem PySem.Calls PyProof.Rows PySem.SeqAt
theorem memN_mem (c:Nat):∀ l:Tx,decide (c∈l)=memN c l
 | []=>decide_eq_false List.not_mem_nil
 | d::l=>by
  show _=(Nat.beq c d||memN c l);rw [← memN_mem c l,Bool.eq_iff_iff,decide_eq_true_iff,List.mem_cons,Bool.or_eq_true,decide_eq_true_iff];exact or_congr ⟨fun h=>h▸Nat.beq_refl c,As⟩ Iff.rfl
theorem contains_one (c:Nat)(l:Tx):Txt.contains (sOf l) (sOf [c])=memN c l:=by
 have:=StrLaws.found_one (sOf l) c;rw [← memN_mem,Bool.eq_iff_iff];rw [Bool.eq_iff_iff] at this;rw [decide_eq_true_eq] at this ⊢;exact this
noncomputable def isNone:Value->Bool
 | .none=>true
 | _=>false
section
variable {c:Cx}{e:Ev}{s:Shared}{Y:Rho}{J:Store}{EC:Value->Shared->Prop}{A:Around}
theorem allTx_i {a:AV}{l:List AV}(h:allTx (a::l)=true):∃ x,a=.str x∧allTx l=true:=by
 cases a<;>first | exact ⟨_,rfl,h⟩ | cases h
theorem txEq_symm (a b:Tx):txEq a b=txEq b a:=by
 rw [Bool.eq_iff_iff,txEq_iff,txEq_iff];exact ⟨Eq.symm,Eq.symm⟩
theorem txs_in {base h:Heap}{x:Tx}{u:Tok}{l:List AV}:∀ {vs:List Value},allTx l=true->RVs base h Y l vs->(∀ y∈vs,EqAt A s y (.str (sOf x) u) (y.isStr (sOf x)))∧(vs.any fun v=>v.isStr (sOf x))=memTx x l:=by
 induction l with
 | nil=>
  intro vs _ hr;cases (hr:_=[]);exact ⟨fun _ h=>absurd h List.not_mem_nil,rfl⟩
 | cons a l ih=>
  intro vs hl hr;obtain ⟨y,rfl,hl⟩:=allTx_i hl;obtain ⟨v,vs,rfl,⟨t,rfl,_⟩,hr⟩:=hr;have w:=ih hl hr;refine ⟨fun z hz=>?_,?_⟩
  ·rcases List.mem_cons.mp hz with rfl | hz
   ·exact EqAt.str_str _ _ _ _
   ·exact w.1 z hz
  ·show ((sOf y==sOf x)||vs.any _)=(txEq x y||memTx x l);rw [sOf_beq,w.2,txEq_symm]
theorem memNone_i {a:AV}{l:List AV}{r:Bool}(h:memNone (a::l)=some r):(a=.none∧r=true∧∃ q,memNone l=some q)∨(memNone l=some r∧((∃ i,a=.int i)∨∃ x,a=.str x)):=by
 cases a with
 | none=>
  have h:(memNone l).map (fun _=>true)=some r:=h;cases q:memNone l with
  | none=>exact none_some (by rw [q]; rfl) h
  | some q'=>rw [q] at h; exact .inl ⟨rfl,(Ag h).symm,q',rfl⟩
 | int i=>exact .inr ⟨h,.inl ⟨i,rfl⟩⟩
 | str i=>exact .inr ⟨h,.inr ⟨i,rfl⟩⟩
 | _=>exact none_some rfl h
theorem memNone_any {base h:Heap}{l:List AV}:∀ {vs:List Value} {r:Bool},memNone l=some r->RVs base h Y l vs->(∀ y∈vs,EqAt A s y .none (isNone y))∧(vs.any isNone)=r:=by
 induction l with
 | nil=>
  intro vs r h hr;cases (hr:_=[]);exact ⟨fun _ h=>absurd h List.not_mem_nil,Ag h⟩
 | cons a l ih=>
  intro vs r h hr;obtain ⟨v,vs,rfl,hv,hr⟩:=hr;have fin:∀ {q},EqAt A s v .none (isNone v)->memNone l=some q->(∀ y∈v::vs,EqAt A s y .none (isNone y))∧((v::vs).any isNone)=(isNone v||q):=fun {q} h0 h1=>by
   have w:=ih h1 hr;refine ⟨fun y hy=>?_,w.2▸rfl⟩;rcases List.mem_cons.mp hy with rfl | hy
   ·exact h0
   ·exact w.1 y hy
  rcases memNone_i h with ⟨rfl,rfl,q,h1⟩ | ⟨h1,⟨i,rfl⟩ | ⟨x,rfl⟩⟩
  ·cases (hv:v=.none);exact fin (EqAt.same _) h1
  ·obtain ⟨t,rfl⟩:=hv;exact fin (EqAt.int_none _ _) h1
  ·obtain ⟨t,rfl,_⟩:=hv;exact fin (EqAt.str_none _ _) h1
end
section
variable {c:Cx}{e:Ev}{s:Shared}{Y:Rho}{J:Store}{QC EC:Value->Shared->Prop}{A:Around}
def OkB (s:Shared)(r:Bool)(QC:Value->Shared->Prop):Prop:=∀ tk,s.toks<=tk->QC (.bool r) { s with toks:=tk }
theorem OkB.f {r:Bool}(H:OkB s (r ^^ false) QC):OkB s r QC:=by rw [Bool.xor_false] at H; exact H
theorem OkB.t {r:Bool}(H:OkB s (r ^^ true) QC):OkB s (!r) QC:=by rw [Bool.xor_true] at H; exact H
theorem OkB.now {r:Bool}(H:OkB s r QC):QC (.bool r) s:=H s.toks (Aj _)
theorem in_list {l:Addr}{items:Array Value}{v:Value}{f:Value->Bool}{r neg:Bool}(hl:s.heap.IsList l items)(he:∀ y∈items.toList,EqAt A.in1 s y v (f y))(ha:items.toList.any f=r)(H:OkB s (r ^^ neg) QC) :
  wpAny c.M A (compareOp (if neg then .NotIn else .In) v (.ref l)) QC EC s:=by
 rw [Array.any_toList] at ha;subst ha;cases neg
 ·exact in_listAt f hl (fun y hy=>he y (Array.mem_toList_iff.mpr hy)) (H.f.now)
 ·exact notIn_listAt f hl (fun y hy=>he y (Array.mem_toList_iff.mpr hy)) (H.t.now)
theorem in_sound {a b:AV}{va vb:Value}{P:Bool->Prop}(neg:Bool)(hsys:(c.base.get? sysModules).isSome=true)(h:inW a b J P)(S:c.S Y e J s)(ra:c.V s.heap Y a va)(rb:c.V s.heap Y b vb)(H:∀ r,P r->OkB s (r ^^ neg) QC) :
  wpAny c.M A (compareOp (if neg then .NotIn else .In) va vb) QC EC s:=by
 have tx:∀ {x:Tx} {t:Nat} {l:Addr} {items:Array Value} {vs:List AV},s.heap.IsList l items->RVs c.base s.heap Y vs items.toList->allTx vs=true->P (memTx x vs)->wpAny c.M A (compareOp (if neg then .NotIn else .In) (.str (sOf x) t) (.ref l)) QC EC s:=fun {x t l items vs} hl rs ht q=>
  in_list hl (txs_in (A:=A.in1) (s:=s) (x:=x) (u:=t) ht rs).1 (txs_in (A:=A.in1) (s:=s) (x:=x) (u:=t) ht rs).2 (H _ q)
 cases b with
 | tup l=>
  refine str_el h ra (fun va=>wpAny c.M A (compareOp (if neg then .NotIn else .In) va vb) QC EC s) fun x t _ h=>?_
  have h:=grdW_i h;obtain ⟨p,items,rfl,ht,rs,_⟩:=rb;have w:=txs_in (A:=A.in1) (s:=s) (x:=x) (u:=t) h.1 rs;have H:=H _ h.2;rw [← w.2,Array.any_toList] at H;cases neg
  ·exact in_tupleAt _ ht.tup (fun y hy=>w.1 y (Array.mem_toList_iff.mpr hy)) H.f.now
  ·exact notIn_tupleAt _ ht.tup (fun y hy=>w.1 y (Array.mem_toList_iff.mpr hy)) H.t.now
 | frz l=>
  refine str_el h ra (fun va=>wpAny c.M A (compareOp (if neg then .NotIn else .In) va vb) QC EC s) fun x t _ h=>?_
  have h:=grdW_i h;obtain ⟨p,items,rfl,⟨n,ht⟩,rs,_⟩:=rb;exact tx ⟨_,S.stays _ _ ht,rfl,n,rfl⟩ rs h.1 h.2
 | str l=>
  refine str_el h ra (fun va=>wpAny c.M A (compareOp (if neg then .NotIn else .In) va vb) QC EC s) fun x t _ h=>?_
  obtain ⟨k,rfl,q⟩:=oneW_i h;obtain ⟨u,rfl,_⟩:=rb;have H:=H _ q;cases neg
  ·exact SB.contains (by rw [contains_one]; exact H.f.now)
  ·exact SB.notContains (by rw [contains_one]; exact H.t.now)
 | obj o=>
  cases a with
  | str x=>
   obtain ⟨t,rfl,_⟩:=ra;have h:memO x o J P:=h;unfold memO at h;rcases h with ⟨l,h1,hl,q⟩ | ⟨es,h1,q⟩
   ·refine lst_el (P:=fun l=>allTx l=true∧P (memTx x l)) (by unfold lstO; exact ⟨l,h1,hl,q⟩) S rb (fun vb=>wpAny c.M A (compareOp (if neg then .NotIn else .In) _ vb) QC EC s) fun l p items n L h=>tx L.is.isList L.rs h.1 h.2
   ·obtain ⟨⟨p,d⟩,rfl,hp⟩:=rb;obtain ⟨e1,kvs,hm0,hf,_⟩:=S.sim.obj o _ _ hp h1;have hm:=hm0.mapOf;have hd:(p==sysModules)=false:=by
     cases hq:p==sysModules with
     | false=>rfl
     | true=>
      have:=S.sim.new p (mem_muts hp (hd_mem _));rw [eq_of_beq hq] at this;rw [this] at hsys;cases hsys
    have hx:(valueAt kvs (sOf x)).isSome=(es.lookup x).isSome:=by
     have:=hf.look x;cases q9:es.lookup x with
     | none=>rw [q9] at this; rw [show valueAt kvs (sOf x)=none from this]; rfl
     | some a=>rw [q9] at this; obtain ⟨v,e2,_⟩:=this; rw [e2]; rfl
    have q':=H _ q;rw [← hx] at q';cases neg
    ·exact wpAny_in_of (strKind_is _ _ _ t) hd hm (q'.f _ (Nat.le_succ _))
    ·exact wpAny_notIn_of (strKind_is _ _ _ t) hd hm (q'.t _ (Nat.le_succ _))
  | none=>
   cases (ra:va=.none);refine lst_el h S rb (fun vb=>wpAny c.M A (compareOp (if neg then .NotIn else .In) .none vb) QC EC s) fun l p items n L h=>?_
   obtain ⟨r,hr,q⟩:=optW_i h;have w:=memNone_any (A:=A.in1) (s:=s) hr L.rs;exact in_list L.is.isList w.1 w.2 (H _ q)
  | _=>exact h.elim
 | _=>exact h.elim
theorem none_sound {a:AV}{va:Value}{P:Bool->Prop}(h:noneW a P)(ra:c.V s.heap Y a va)(H:∀ r,P r->OkB s r QC):wpAny c.M A (compareOp .Is va .none) QC EC s:=by
 unfold noneW at h;cases a with
 | none=>cases (ra:va=.none); exact is_none_none (H _ h).now
 | int _=>obtain ⟨t,rfl⟩:=ra; exact is_int_none (H _ h).now
 | str _=>obtain ⟨t,rfl,_⟩:=ra; exact is_str_none (H _ h).now
 | tup _=>obtain ⟨t,_,rfl,_⟩:=ra; exact is_ref_none (H _ h).now
 | _=>exact h.elim
theorem nnone_sound {a:AV}{va:Value}{P:Bool->Prop}(h:noneW a fun r=>P (!r))(ra:c.V s.heap Y a va)(H:∀ r,P r->OkB s r QC):wpAny c.M A (compareOp .IsNot va .none) QC EC s:=by
 unfold noneW at h;cases a with
 | none=>cases (ra:va=.none); exact isnot_none_none (H _ h).now
 | int _=>obtain ⟨t,rfl⟩:=ra; exact isnot_int_none (H _ h).now
 | str _=>obtain ⟨t,rfl,_⟩:=ra; exact isnot_str_none (H _ h).now
 | tup _=>obtain ⟨t,_,rfl,_⟩:=ra; exact isnot_ref_none (H _ h).now
 | _=>exact h.elim
theorem typW_i {a:AV}{b:Value}{P:Bool->Prop}(h:typW a b P):∃ x y,a=.stat (.type x)∧b=.type y∧P (x==y):=by
 cases a with
 | stat v=>
  cases v with
  | type x=>
   cases b with
   | type y=>exact ⟨x,y,rfl,rfl,h⟩
   | _=>exact h.elim
  | _=>exact h.elim
 | _=>exact h.elim
theorem cmp_sound {op:COp}{a b:AV}{va vb:Value}{P:Bool->Prop}(hu:A.units+100<cLine)(hsys:(c.base.get? sysModules).isSome=true)(h:cmpW op a b J P)(S:c.S Y e J s)(ra:c.V s.heap Y a va)(rb:c.V s.heap Y b vb)(H:∀ r,P r->OkB s r QC) :
  wpAny c.M A (compareOp (copOf op) va vb) QC EC s:=by
 have key:∀ {R:Bool->Prop},eqW a b R->∃ r,EqAll A s va vb r∧R r:=fun {R} h=>by
  obtain ⟨r,e1,h⟩:=optW_i h;obtain ⟨hd,h⟩:=grdW_i h;exact ⟨r,eq_aux _ _ A va vb r e1 ra rb (Ao (Ak (Ad hd) _) hu),h⟩
 cases op with
 | eq=>obtain ⟨r,k,h⟩:=key h; exact k.2.1 _ _ _ _ (H r h).now
 | ne=>obtain ⟨r,k,h⟩:=key h; exact k.2.2 _ _ _ _ (H _ h).now
 | lt=>exact ord_el h ra rb (fun va vb=>wpAny c.M A (compareOp .Lt va vb) QC EC s) fun x t y u h=>PyProof.Rows.lt_int (H _ h).now
 | le=>exact ord_el h ra rb (fun va vb=>wpAny c.M A (compareOp .LtE va vb) QC EC s) fun x t y u h=>PyProof.Rows.le_int (H _ h).now
 | gt=>exact ord_el h ra rb (fun va vb=>wpAny c.M A (compareOp .Gt va vb) QC EC s) fun x t y u h=>PyProof.Rows.gt_int (H _ h).now
 | ge=>exact ord_el h ra rb (fun va vb=>wpAny c.M A (compareOp .GtE va vb) QC EC s) fun x t y u h=>PyProof.Rows.ge_int (H _ h).now
 | isin=>exact in_sound false hsys h S ra rb fun r q=>(Bool.xor_false r).symm▸H r q
 | notin=>exact in_sound (P:=fun r=>P (!r)) true hsys h S ra rb fun r q=>(Bool.xor_true r).symm▸H _ q
 | is=>
  cases b with
  | none=>cases (rb:vb=.none); exact none_sound h ra H
  | stat v=>
   cases (rb:vb=v);obtain ⟨x,y,rfl,rfl,h⟩:=typW_i h;cases (ra:va=.type x);refine wpAny_is_plain rfl ?_;have q:(Value.type x==Value.type y)=(x==y):=by
    rw [Bool.eq_iff_iff]; simp
   rw [q]; exact (H _ h).now
  | _=>exact h.elim
 | isnot=>
  cases b with
  | none=>cases (rb:vb=.none); exact nnone_sound h ra H
  | _=>exact h.elim
end
open PySem PySem.Calls PyProof.Rows PySem.SeqAt MeetsSeq
theorem ix_seq {i:Int}{n k:Nat}(h:ixOf i n=some k):seqIndex? i n=some k∧k<n∧(0<=i->k=i.toNat)∧(i<0->k=(i+n).toNat∧-(n:Int)<=i):=by
 unfold ixOf at h;unfold seqIndex?;by_cases h0:0<=i
 ·rw [if_pos h0] at h;have h2:=Int.not_lt.mpr h0;by_cases h1:i<n
  ·rw [if_pos h1] at h;have hk:=Ag h;refine ⟨?_,hk▸(Int.toNat_lt h0).mpr h1,fun _=>hk.symm,fun q=>absurd q h2⟩;show (if (decide (0<=if i<0 then i+n else i)&&decide ((if i<0 then i+n else i)<n))=true then some (if i<0 then i+n else i).toNat else none)=_
   rw [if_neg h2,decide_eq_true h0,decide_eq_true h1]; exact h
  ·rw [if_neg h1] at h; cases h
 ·rw [if_neg h0] at h;have h2:=Int.not_le.mp h0;by_cases h1:0<=i+n
  ·rw [if_pos h1] at h;have hk:=Ag h;have h3:i+n<n:=Int.lt_of_lt_of_le (Int.add_lt_add_right h2 n) (Int.le_of_eq (Int.zero_add _));refine ⟨?_,hk▸(Int.toNat_lt h1).mpr h3,fun q=>absurd q h0,fun _=>⟨hk.symm,Int.le_of_sub_nonneg (by rw [Int.sub_neg]; exact h1)⟩⟩;show (if (decide (0<=if i<0 then i+n else i)&&decide ((if i<0 then i+n else i)<n))=true then some (if i<0 then i+n else i).toNat else none)=_
   rw [if_pos h2,decide_eq_true h1,decide_eq_true h3]; exact h
  ·rw [if_neg h1] at h; cases h
theorem lid_val:lid=1000000:=rfl
theorem cut_min {α:Type}(l:List α)(a b:Nat):(l.drop (min a l.length)).take (min b l.length-min a l.length)=cut l a b:=by
 unfold cut;rw [← List.drop_take];rcases Nat.le_total a l.length with h | h
 ·rw [Nat.min_eq_left h,← List.take_eq_take_min]
 ·rw [Nat.min_eq_right h,List.drop_of_length_le,List.drop_of_length_le]
  ·exact Aa (List.length_take_le' ..) h
  ·exact List.length_take_le' ..
theorem cut_le {α:Type}(l:List α)(a b:Nat):(cut l a b).length<=l.length:=Aa (List.length_drop▸Nat.sub_le _ _) (List.length_take_le' ..)
theorem min_mono {a b n:Nat}(h:a<=b):min a n<=min b n:=Nat.le_min.mpr ⟨Aa (Nat.min_le_left ..) h,Nat.min_le_right ..⟩
theorem slice_ix (a b len:Nat)(hab:a<=b):Builtin.Str.strSliceIndices (some (a:Int)) (some (b:Int)) 1 len=(List.range (min b len-min a len)).map (fun k=>min a len+k):=by
 rw [← StrLaws.strSliceIndices_plain (a:=min a len) (b:=min b len) (len:=len) (min_mono hab) (Nat.min_le_right ..)];unfold Builtin.Str.strSliceIndices;have h0:∀ n:Nat,¬ ((n:Int)<0):=fun n=>Int.not_lt.mpr (Av n);have h1:=h0 a;have h2:=h0 b;have h3:=h0 (min a len);have h4:=h0 (min b len);have h5:(1:Int)>0:=by decide
 simp only [h1,h2,h3,h4,h5,if_false,if_true];rw [show ∀ a:Nat,min ((min a len:Nat):Int) (len:Int)=min (a:Int) (len:Int) from fun a=>by lia,show ∀ a:Nat,min ((min a len:Nat):Int) (len:Int)=min (a:Int) (len:Int) from fun a=>by lia]
theorem slice_text (x:Tx)(a b:Nat)(hab:a<=b):(Builtin.Str.strSliceIndices (some (a:Int)) (some (b:Int)) 1 (sOf x).length).filterMap ((sOf x).cps[·]?)=cut x a b:=by
 rw [slice_ix a b _ hab,← StrLaws.strSliceIndices_plain (a:=min a (sOf x).length) (b:=min b (sOf x).length) (len:=(sOf x).length) (min_mono hab) (Nat.min_le_right ..),
  StrLaws.sliced_plain (sOf x) (a:=min a (sOf x).length) (b:=min b (sOf x).length) (min_mono hab) (Nat.min_le_right ..),sOf_length]
 exact cut_min x a b
section
variable {c:Cx}{e:Ev}{s:Shared}{Y:Rho}{J:Store}{Q:QV}{QC EC:Value->Shared->Prop}{A:Around}
theorem ix_lid {i:Int}{n k:Nat}(h:ixOf i n=some k)(hn:n<=lid):-(lid:Int)<=i∧i<lid:=by
 obtain ⟨_,h1,h2,h3⟩:=ix_seq h;have hn:=Int.ofNat_le.mpr hn;have z:-(lid:Int)<=0:=Int.neg_nonpos_of_nonneg (Av lid);by_cases h0:0<=i
 ·exact ⟨Int.le_trans z h0,Int.lt_of_lt_of_le ((Int.toNat_lt h0).mp (h2 h0▸h1)) hn⟩
 ·exact ⟨Int.le_trans (Int.neg_le_neg hn) (h3 (Int.not_le.mp h0)).2,Int.lt_of_lt_of_le (Int.not_le.mp h0) (Av lid)⟩
theorem ix_lo {i:Int}(h:-(lid:Int)<=i):-(2 ^ 63:Int)<=i:=Int.le_trans (by decide) h
theorem ix_hi {i:Int}(h:i<(lid:Int)):i<(2 ^ 63:Int):=Int.lt_of_lt_of_le h (by decide)
theorem list_get {p:Addr}{items:Array Value}{n:Nat}{i:Int}{t:Tok}{k:Nat}{x:AV}{l:List AV}(hk:ixOf i l.length=some k)(hx:l[k]?=some x)(ho:IsL s.heap p items n)(rs:RVs c.base s.heap Y l items.toList)(hz:l.length<=lid)(q:Q x J)(S:c.S Y e J s)(H:OkV c e s Y Q QC) :
  wpAny c.M A (getItem (.ref p) (.int i t)) QC EC s:=by
 obtain ⟨v,hv,rv⟩:=rs.get hx;rw [Array.getElem?_toList] at hv;have hlen:=rs.size;obtain ⟨hsq,hkn,hpos,hneg⟩:=ix_seq hk;have hb:=ix_lid hk hz;by_cases h0:0<=i
 ·exact wpAny_getItem_list ho.isList h0 (Int.lt_trans hb.2 (by decide)) (hpos h0▸hv) (H.now' S rv q)
 ·have hi:=Int.not_le.mp h0;have:=hneg hi;exact wpAny_getItem_list_neg ho.isList hi (hlen▸this.2) (Int.le_trans (by decide) hb.1) (by rw [← hlen,← this.1]; exact hv) (H.now' S rv q)
theorem idx_sound {a b:AV}{va vb:Value}(h:idxW a b J fun r=>Q r J)(S:c.S Y e J s)(ra:c.V s.heap Y a va)(rb:c.V s.heap Y b vb)(H:OkV c e s Y Q QC) :
  wpAny c.M A (getItem va vb) QC EC s:=by
 have hl:=lid_val;cases a with
 | obj r=>
  cases b with
  | int i=>
   obtain ⟨t,rfl⟩:=rb;refine lst_el h S ra (fun va=>wpAny c.M A (getItem va (.int i t)) QC EC s) fun l p items n L h=>?_;obtain ⟨k,hk,h⟩:=optW_i h;obtain ⟨x,hx,q⟩:=optW_i h;exact list_get hk hx L.is L.rs L.le q S H
  | str x=>
   obtain ⟨es,h1,h⟩:=dctO_i h;obtain ⟨v,hv,q⟩:=optW_i h;obtain ⟨t,rfl,hz⟩:=rb; obtain ⟨⟨p,d⟩,rfl,hp⟩:=ra;obtain ⟨e1,kvs,hm0,hf,_⟩:=S.sim.obj _ _ _ hp h1;have:=hf.look x;rw [hv] at this;obtain ⟨v',e2,rv⟩:=this;exact wpAny_getItem_of (strKind_is _ _ _ t) hm0.mapOf e2 (H.now S rv q (Nat.le_succ _))
  | _=>exact h.elim
 | tup l=>
  refine int_el h rb (fun vb=>wpAny c.M A (getItem va vb) QC EC s) fun i t h=>?_;obtain ⟨k,hk,h⟩:=optW_i h;obtain ⟨x,hx,q⟩:=optW_i h;obtain ⟨p,items,rfl,ht,rs,hz⟩:=ra;obtain ⟨v,hv,rv⟩:=rs.get hx;rw [Array.getElem?_toList] at hv;have b:=ix_lid hk hz;exact PyProof.Rows.getItem_tuple ht.tup (ix_lo b.1) (ix_hi b.2) (by rw [← rs.size]; exact (ix_seq hk).1) hv (H.now' S rv q)
 | frz l=>
  refine int_el h rb (fun vb=>wpAny c.M A (getItem va vb) QC EC s) fun i t h=>?_;obtain ⟨k,hk,h⟩:=optW_i h;obtain ⟨x,hx,q⟩:=optW_i h;obtain ⟨p,items,rfl,⟨n,ht⟩,rs,hz⟩:=ra;exact list_get hk hx (S.stays _ _ ht) rs hz q S H
 | str l=>
  refine int_el h rb (fun vb=>wpAny c.M A (getItem va vb) QC EC s) fun i u h=>?_;obtain ⟨k,hk,h⟩:=optW_i h;obtain ⟨x,hx,q⟩:=optW_i h;obtain ⟨t,rfl,hz⟩:=ra;have b:=ix_lid hk hz.1;refine PySem.P.getItem_str (c:=x) ?_ (by rw [sOf_length,(ix_seq hk).1]; show l.toArray[k]?=some x; rw [List.getElem?_toArray]; exact hx) (H.str (x:=[x]) S (Ar 1 999999) q);rw [decide_eq_false (Int.not_lt.mpr (ix_lo b.1)),decide_eq_false (Int.not_le.mpr (ix_hi b.2))]; rfl
 | _=>exact h.elim
theorem lo_i {x:AV}{a:Nat}(h:loOf (some x)=some a):x=.int a:=by
 cases x with
 | int i=>
  have h:(if 0<=i then some i.toNat else Option.none)=some a:=h
  by_cases h0:0<=i
  ·rw [if_pos h0] at h; cases Ag h; rw [Int.toNat_of_nonneg h0]
  ·rw [if_neg h0] at h; cases h
 | _=>exact none_some rfl h
theorem hi_i {n:Nat}{x:AV}{a:Nat}(h:hiOf n (some x)=some a):x=.int a:=by
 cases x<;>exact lo_i h
noncomputable abbrev slObj (vl vh:Value):Obj:={ cls:=.type "slice",data:=.fields #[vl,vh,.none] }
noncomputable abbrev sPush (s:Shared)(vl vh:Value):Shared:={ s with heap:=s.heap.push (slObj vl vh) }
noncomputable def PartV (h:Heap)(Y:Rho)(base:Heap):Option AV->Value->Prop
 | Option.none,v=>v=.none
 | some a,v=>RV base h Y a v
theorem slice_list_sound {r:Nat}{lo hi:Option AV}{va vl vh:Value}{l:List AV}{a b:Nat}(h1:J[r]?=some (.list l))(ha:loOf lo=some a)(hb:hiOf l.length hi=some b)(q:Q (.obj J.length) (J++[.list (cut l a b)]))(S:c.S Y e J s)(ra:c.V s.heap Y (.obj r) va)(rl:PartV s.heap Y c.base lo vl)(rh:PartV s.heap Y c.base hi vh)(H:OkV c e s Y Q QC) :
  wpAny c.M A (getItem va (.ref s.heap.objs.size)) QC EC (sPush s vl vh):=by
 have H':OkV c e (sPush s vl vh) Y Q QC:=H.pre ⟨rfl,rfl,rfl,Aj _⟩ (Stp.push _);have S':=S.pushed (slObj vl vh);have hsl:=Heap.IsSliceOf.new s.heap vl vh .none;have ra':=(Stp.push (F:=c.F) (own:=nope) (slObj vl vh)).rv ra;obtain ⟨p,items,n,rfl,hp,ho,rs,hz⟩:=Cx.S.list_at (s:=sPush s vl vh) S' h1 ra';have hlen:=rs.size;have hl:=lid_line;have pl:∃ o,IsPart vl o∧(o.elim 0 (clipAt items.size):Nat)=min a items.size:=by
  cases lo with
  | none=>
   cases (rl:vl=.none); cases Ag (ha:some 0=some a);exact ⟨none,.none,(Nat.zero_min _).symm⟩
  | some x=>
   cases lo_i ha;obtain ⟨t1,rfl⟩:=rl;exact ⟨some (a:Int),.int _ _,clipAt_nat ..⟩
 have pu:∃ o,IsPart vh o∧(o.elim items.size (clipAt items.size):Nat)=min b items.size:=by
  cases hi with
  | none=>
   cases (rh:vh=.none); cases Ag (hb:some l.length=some b);exact ⟨none,.none,by rw [hlen]; exact (Nat.min_self _).symm⟩
  | some x=>
   cases hi_i hb;obtain ⟨t1,rfl⟩:=rh;exact ⟨some (b:Int),.int _ _,clipAt_nat ..⟩
 obtain ⟨o1,p1,e1⟩:=pl;obtain ⟨o2,p2,e2⟩:=pu;refine wpAny_getItem_list_slice (lo:=o1) (hi:=o2) (st:=none) ho.isList hsl p1 p2 .none (by simp) ?_ (by lia);rw [slicePick_plain,e1,e2];refine H'.list S' (vs:=cut l a b) ?_ ?_ q
 ·rw [List.toList_toArray,← Array.length_toList,cut_min];exact (rs.take b).drop a
 ·exact Aa (cut_le ..) hz
theorem min_all {a b n:Nat}(h:min b n-min a n=n)(hn:0<n):a=0∧n<=b:=by
 have hb:n<=b:=Aa (Aa (Nat.le_of_eq h.symm) (Nat.sub_le ..)) (Nat.min_le_left b n);rw [Nat.min_eq_right hb] at h;rcases Nat.eq_zero_or_pos a with ha | ha
 ·exact ⟨ha,hb⟩
 ·exact absurd h (Nat.ne_of_lt (Nat.sub_lt hn (Nat.lt_min.mpr ⟨ha,hn⟩)))
theorem slice_str_sound {l:Tx}{i j:Int}{va vl vh:Value}(h0:0<=i)(hij:i<=j)(q:Q (.str (cut l i.toNat j.toNat)) J)(S:c.S Y e J s)(ra:c.V s.heap Y (.str l) va)(rl:c.V s.heap Y (.int i) vl)(rh:c.V s.heap Y (.int j) vh)(H:OkV c e s Y Q QC) :
  wpAny c.M A (getItem va (.ref s.heap.objs.size)) QC EC (sPush s vl vh):=by
 have H':OkV c e (sPush s vl vh) Y Q QC:=H.pre ⟨rfl,rfl,rfl,Aj _⟩ (Stp.push _);have S':=S.pushed (slObj vl vh);obtain ⟨t,rfl,hz⟩:=ra; obtain ⟨t1,rfl⟩:=rl; obtain ⟨t2,rfl⟩:=rh;refine wpAny_getItem_str_slice (l:=some (i,t1)) (u:=some (j,t2)) (st:=none) ⟨_,Heap.get?_push_size _ rfl,rfl,rfl⟩ rfl ?_;obtain ⟨a,rfl⟩:=Int.eq_ofNat_of_zero_le h0;obtain ⟨b,rfl⟩:=Int.eq_ofNat_of_zero_le (Int.le_trans h0 hij);have hab:a<=b:=Int.ofNat_le.mp hij;have hcut:(cut l a b).length<=lid:=Aa (cut_le ..) hz.1;unfold sliceMade;rw [slicePicked];split
 ·rename_i hc
  have hc:=(Ab hc).2;have e1:cut l a b=l:=by
   have h1:=slice_text l a b hab;have h2:(Builtin.Str.strSliceIndices (some (a:Int)) (some (b:Int)) 1 (sOf l).length).length=l.length:=eq_of_beq hc;rw [slice_ix a b _ hab,Ah,List.length_range,sOf_length] at h2;unfold cut;rcases Nat.eq_zero_or_pos l.length with hl0 | hl0
   ·cases List.length_eq_zero_iff.mp hl0; rw [List.take_nil,List.drop_nil]
   ·have m:=min_all h2 hl0;rw [m.1,List.drop_zero,List.take_of_length_le m.2]
  exact H'.now' S' (a:=.str l) (v:=.str (sOf l) t) (rv_str hz) (e1▸q)
 ·show (Made.str ⟨((Builtin.Str.strSliceIndices (some (a:Int)) (some (b:Int)) 1 (sOf l).length).filterMap ((sOf l).cps[·]?)).toArray⟩).post QC _;rw [slice_text l a b hab];exact ⟨Aa hcut lid_line,H'.str S' (x:=cut l a b) hcut q⟩
theorem slice_sound {a:AV}{lo hi:Option AV}{va vl vh:Value}(h:sliceW a lo hi J Q)(S:c.S Y e J s)(ra:c.V s.heap Y a va)(rl:PartV s.heap Y c.base lo vl)(rh:PartV s.heap Y c.base hi vh)(H:OkV c e s Y Q QC) :
  wpAny c.M A (getItem va (.ref s.heap.objs.size)) QC EC (sPush s vl vh):=by
 cases a with
 | str l=>
  obtain ⟨x,rfl,h⟩:=optW_i h;obtain ⟨y,rfl,h⟩:=optW_i h;obtain ⟨i,rfl,h⟩:=intW_i h;obtain ⟨j,rfl,h0,hij,q⟩:=intW_i h;exact slice_str_sound h0 hij q S ra rl rh H
 | tup l=>
  cases hi with
  | some _=>exact h.elim
  | none=>
   obtain ⟨x,rfl,h⟩:=optW_i h;obtain ⟨i,rfl,h1,hi,q⟩:=intW_i h;obtain ⟨t1,rfl⟩:=rl; cases (rh:vh=.none);have H':OkV c e (sPush s (.int i t1) .none) Y Q QC:=H.pre ⟨rfl,rfl,rfl,Aj _⟩ (Stp.push _);have S':=S.pushed (slObj (.int i t1) .none);obtain ⟨p,items,rfl,ht,rs,hz⟩:=(Stp.push (F:=c.F) (own:=nope) (slObj (.int i t1) .none)).rv ra;have hlen:=rs.size;obtain ⟨k,rfl⟩:=Int.eq_ofNat_of_zero_le (show 0<=i by lia);have hl:=lid_line;refine PyProof.Rows.getItem_tuple_from (a:=k) (u:=t1) ht.tup (Heap.IsSliceOf.new s.heap _ _ .none) (by lia) (by lia) ?_ (by lia);exact H'.tuple S' (vs:=l.drop k) (items:=(items.toList.drop k).toArray) (rs.drop k) (Aa (List.length_drop▸Nat.sub_le _ _) hz) q
 | obj r=>
  obtain ⟨l,h1,h⟩:=lstO_i h;obtain ⟨x,ha,h⟩:=optW_i h;obtain ⟨y,hb,q⟩:=optW_i h;exact slice_list_sound h1 ha hb q S ra rl rh H
 | _=>exact h.elim
end
open PySem PySem.Calls PyProof.Rows PySem.SeqAt MeetsSeq
theorem cut_take_from {α:Type}(p:Nat->Bool)(xs:List α)(a j:Nat)(hp:∀ k,j<=k->k<j+xs.length->p k=decide (a<=k)):((xs.zipIdx j).filterMap fun x=>if p x.2 then none else some x.1)=xs.take (a-j):=by
 induction xs generalizing j with
 | nil=>exact List.take_nil.symm
 | cons x xs ih=>
  have h0:=hp j (Aj _) (Nat.lt_add_of_pos_right (Nat.succ_pos _));have ih:=ih (j+1) fun k h1 h2=>hp k (Ap h1) (Aw j 1 xs.length▸h2);rw [List.zipIdx_cons,List.filterMap_cons];by_cases h:a<=j
  ·simp only [h0,h,decide_true,if_true];rw [ih,Nat.sub_eq_zero_of_le h,Nat.sub_eq_zero_of_le (Nat.le_succ_of_le h)]; rfl
  ·simp only [h0,h,decide_false,Bool.false_eq_true,if_false];rw [ih,← Nat.succ_pred_eq_of_pos (Nat.sub_pos_of_lt (Nat.lt_of_not_le h))]; rfl
theorem cut_take {α:Type}(p:Nat->Bool)(xs:List α)(a:Nat)(hp:∀ k,k<xs.length->p k=decide (a<=k)):(xs.zipIdx.filterMap fun x=>if p x.2 then none else some x.1)=xs.take a:=cut_take_from p xs a 0 fun k _ h=>hp k (Nat.zero_add xs.length▸h)
theorem ext_drop (items:Array Value)(k:Nat):(items.extract k items.size).toList=items.toList.drop k:=by
 rw [Array.toList_extract,List.extract_eq_take_drop];exact List.take_of_length_le (Nat.le_of_eq List.length_drop)
theorem ext_take (items:Array Value)(k:Nat):(items.extract 0 k).toList=items.toList.take k:=by
 rw [Array.toList_extract,List.extract_eq_take_drop]; rfl
theorem cut_len {α:Type}(l l':List α)(k:Nat):(l.take k++l'++l.drop k).length=l.length+l'.length:=by
 rw [Ac,Ac,Aw,← Ac,List.take_append_drop]
section
variable {prog:Program}{w:World}{A:Around}{E:Value->Shared->Prop}{s:Shared}
theorem fits_ix {i:Int}{n k:Nat}(h:ixOf i n=some k)(hn:n<=lid):Builtin.List.listFitsIndex i=true:=by
 have hb:=ix_lid h hn;by_cases h0:0<=i
 ·exact fitsIndex_of h0 (Int.lt_trans hb.2 (by decide))
 ·exact fitsIndex_neg (Int.not_le.mp h0) (Int.le_trans (by decide) hb.1)
theorem setItem_exact {l:Addr}{items:Array Value}{n:Nat}{i:Int}{u:Tok}{k:Nat}{v:Value}{Q:Unit->Shared->Prop}(hl:IsL s.heap l items n)(hk:ixOf i items.size=some k)(hn:items.size<=lid)
  (h:Q () { s with heap:=s.heap.update l (Obj.mapSeq (·.setIfInBounds k v)) }):wpAny (model prog w) A (setItem (.ref l) (.int i u) v) Q E s:=by
 have hT:s.TypeIs (.ref l) "list":=⟨_,hl,rfl⟩
 obtain ⟨hs,hkn,h1,h2⟩:=ix_seq hk;have hfit:=fits_ix hk hn;have hx:items[k]?=some items[k]:=Array.getElem?_eq_getElem hkn;unfold setItem;refine wpAny_holding ?_;refine wpAny_bind (wpAny_sequenceKey hT (by decide) ?_);refine wpAny_bind (wpAny_callSpecial?_slot (name:=Str.ofString "__setitem__") hT slot_list_setitem
  (wpAny_call_entry slot_list_setitem hT entry_list_setitem ?_ (args_list_setitem _ _ _)))
 show wpAny _ _ (Builtin.List.listSubscript? (.int i u) >>= _) _ _ s;refine wpAny_bind (wpAny_listSubscript_int hfit ?_);by_cases h0:0<=i
 ·obtain ⟨j,rfl⟩:=Int.eq_ofNat_of_zero_le h0;obtain rfl:k=j:=by have:=h1 h0; simpa using this
  show wpAny _ _ ((seqItemAt l k >>= fun r=>pure (r.map (k,·))) >>= _) _ _ s;refine wpAny_bind (wpAny_bind (wpAny_seqItemAt hl rfl (wpAny_pure ?_)));rw [hx];show wpAny _ _ (setSeqItemAt l k v >>= _) _ _ s;refine wpAny_bind (wpAny_setSeqItemAt hl rfl ?_)
  first
   | exact wpAny_bind (wpAny_pure (wpAny_pure ⟨.none,rfl,wpAny_pure h⟩))
   | exact wpAny_pure ⟨.none,rfl,wpAny_pure h⟩
 ·obtain ⟨j,rfl⟩:∃ j:Nat,i=Int.negSucc j:=by
   cases i with
   | ofNat n=>exact absurd (Av n) h0
   | negSucc j=>exact ⟨j,rfl⟩
  show wpAny _ _ ((Builtin.List.listItems (.ref l) >>= fun xs=>pure ((seqIndex? (Int.negSucc j) xs.size).bind fun j=>xs[j]?.map (j,·))) >>= _) _ _ s;refine wpAny_bind (wpAny_bind ?_);unfold Builtin.List.listItems;refine wpAny_bind (wpAny_seqItems hl rfl (wpAny_pure (wpAny_pure ?_)));rw [hs];simp only [Option.bind_some,hx,Option.map_some];show wpAny _ _ (setSeqItemAt l k v >>= _) _ _ s;refine wpAny_bind (wpAny_setSeqItemAt hl rfl ?_)
  first
   | exact wpAny_bind (wpAny_pure (wpAny_pure ⟨.none,rfl,wpAny_pure h⟩))
   | exact wpAny_pure ⟨.none,rfl,wpAny_pure h⟩
theorem slice_parts {sl:Addr}{vl vu:Value}{lo hi:Option Int}{Q:Value×Value×Value->Shared->Prop}(hs:s.heap.IsSliceOf sl vl vu .none)(pl:IsPart vl lo)(pu:IsPart vu hi)(h:Q (rawPart lo,rawPart hi,.none) s) :
  wpAny (model prog w) A (Builtin.List.listSliceParts (.ref sl)) Q E s:=by
 obtain ⟨os,hos,hcs,hds⟩:=id hs;rw [listSliceParts_eq];refine wpAny_bind (wpAny_field hos hds (x:=.none) rfl (wpAny_bind (wpAny_listPart .none ?_)));rw [if_neg (show ¬ ((rawPart none==rawInt 0)=true) from Bool.false_ne_true)];refine wpAny_bind (wpAny_field hos hds (x:=vl) rfl (wpAny_bind (wpAny_listPart pl ?_)));exact wpAny_bind (wpAny_field hos hds (x:=vu) rfl (wpAny_bind (wpAny_listPart pu (wpAny_pure h))))
theorem slice_sub {sl:Addr}{vl vu:Value}{Q:Option Int->Shared->Prop}(hs:s.heap.IsSliceOf sl vl vu .none)(h:Q none s):wpAny (model prog w) A (Builtin.List.listSubscript? (.ref sl)) Q E s:=by
 obtain ⟨os,hos,hcs,hds⟩:=id hs;unfold Builtin.List.listSubscript?;refine wpAny_bind (wpAny_specialOf (⟨os,hos,hcs⟩:s.TypeIs (.ref sl) "slice") slice_no_index ?_)
 simp only [Option.isNone_none,if_true];exact wpAny_pure h
theorem setSlice_exact {l m sl:Addr}{items items2:Array Value}{n n2 a:Nat}{t u:Tok}{Q:Unit->Shared->Prop}(hl:IsL s.heap l items n)(hm:IsL s.heap m items2 n2)(hlm:l≠m)(hs:s.heap.IsSliceOf sl (.int a t) (.int a u) .none)(ha:a<=items.size)(hz:items.size+items2.size<=sizeLine)
  (h:Q () { s with heap:=s.heap.update l (Obj.mapSeq fun xs=>xs.extract 0 a++items2++xs.extract a xs.size) }):wpAny (model prog w) A (setItem (.ref l) (.ref sl) (.ref m)) Q E s:=by
 have hT:s.TypeIs (.ref l) "list":=⟨_,hl,rfl⟩
 obtain ⟨os,hos,hcs,hds⟩:=id hs;unfold setItem;refine wpAny_holding ?_;refine wpAny_bind (wpAny_sequenceKey hT (by decide) ?_);refine wpAny_bind (wpAny_callSpecial?_slot (name:=Str.ofString "__setitem__") hT slot_list_setitem
  (wpAny_call_entry slot_list_setitem hT entry_list_setitem ?_ (args_list_setitem _ _ _)))
 show wpAny _ _ (Builtin.List.listSubscript? (.ref sl) >>= _) _ _ s;refine wpAny_bind (slice_sub hs ?_);show wpAny _ _ (typeOf (.ref sl) >>= _) _ _ s;refine wpAny_bind (wpAny_typeOf (⟨os,hos,hcs⟩:s.TypeIs (.ref sl) "slice") ?_)
 rw [if_neg (by decide)];refine wpAny_bind (slice_parts hs (.int _ _) (.int _ _) ?_);have hsr:Builtin.List.listSameRef (.ref l) (.ref m)=false:=by simp [Builtin.List.listSameRef,hlm]
 rw [hsr];refine wpAny_bind (m:=Builtin.List.listAllItems (.ref m) _) ?_;unfold Builtin.List.listAllItems;refine wpAny_bind (wpAny_typeOf (⟨_,hm,rfl⟩:s.TypeIs (.ref m) "list") ?_)
 rw [if_pos (by decide)];unfold Builtin.List.listItems;refine wpAny_bind (wpAny_seqItems hm rfl (wpAny_pure ?_));refine wpAny_bind (wpAny_bind (wpAny_seqItems hl rfl (wpAny_pure ?_)));refine wpAny_bind (wpAny_of_eq (sliceIndices_raw (some a) (some a) none items.size (by simp)) ?_);have hb:sliceBounds (some (a:Int)) (some (a:Int)) none items.size=((a:Int),(a:Int),1):=by
  unfold sliceBounds;have h1:¬ ((a:Int)<0):=Int.not_lt.mpr (Av a);have h2:max (0:Int) (min (a:Int) (items.size:Int))=a:=by rw [Int.min_eq_left (Int.ofNat_le.mpr ha),Int.max_eq_right (Av a)]
  simp [h1,h2]
 rw [hb];show wpAny _ _ (if ((1:Int)==1)=true then _ else _) _ _ s
 rw [if_pos (by decide)];refine wpAny_bind (wpAny_rule ?_);have hlong:Builtin.List.listTooLong (items.size+items2.size)=false:=by
  unfold Builtin.List.listTooLong;exact decide_eq_false (by lia)
 rw [hlong];rw [if_neg Bool.false_ne_true];refine wpAny_bind (m:=Builtin.List.listUpdate (.ref l) _) ?_;show wpAny _ _ (updateSeq l _) _ _ s;refine wpAny_updateSeq hl rfl ?_ (by lia) ?_
 ·refine wpAny_bind (wpAny_letGo ?_);refine wpAny_bind (m:=ret .none) (wpAny_pure (wpAny_pure ⟨.none,rfl,wpAny_pure ?_⟩))
  simpa using h
 ·rw [Int.max_self,Int.toNat_natCast,← Array.length_toList,Array.toList_append,Array.toList_append,ext_drop,ext_take,cut_len,Array.length_toList,Array.length_toList];exact Aa hz (Nat.le_succ _)
theorem delSlice_exact {l sl:Addr}{items:Array Value}{n a:Nat}{t:Tok}{Q:Unit->Shared->Prop}(hl:IsL s.heap l items n)(hs:s.heap.IsSliceOf sl (.int a t) .none .none)(ha:a<=items.size)(hz:items.size<=sizeLine)
  (h:∀ g:Array Value->Array Value,(g items).toList=items.toList.take a->Q () { s with heap:=s.heap.update l (Obj.mapSeq g) }):wpAny (model prog w) A (delItem (.ref l) (.ref sl)) Q E s:=by
 have hT:s.TypeIs (.ref l) "list":=⟨_,hl,rfl⟩
 obtain ⟨os,hos,hcs,hds⟩:=id hs;refine wpAny_delItem_slot hT (by decide) F.slot_list_delitem ?_;refine wpAny_call_entry F.slot_list_delitem hT F.entry_list_delitem ?_ (F.args_list_delitem_2 _ _);show wpAny _ _ (Builtin.List.listSubscript? (.ref sl) >>= _) _ _ s;refine wpAny_bind (slice_sub hs ?_);show wpAny _ _ (typeOf (.ref sl) >>= _) _ _ s;refine wpAny_bind (wpAny_typeOf (⟨os,hos,hcs⟩:s.TypeIs (.ref sl) "slice") ?_)
 rw [if_neg (by decide)];refine wpAny_bind (slice_parts hs (.int _ _) .none ?_);unfold Builtin.List.listItems;refine wpAny_bind (wpAny_bind (wpAny_seqItems hl rfl (wpAny_pure ?_)));refine wpAny_bind (wpAny_of_eq (sliceIndices_raw (some a) none none items.size (by simp)) ?_);have hb:sliceBounds (some (a:Int)) none none items.size=((a:Int),(items.size:Int),1):=by
  unfold sliceBounds;have h1:¬ ((a:Int)<0):=Int.not_lt.mpr (Av a);have h2:max (0:Int) (min (a:Int) (items.size:Int))=a:=by rw [Int.min_eq_left (Int.ofNat_le.mpr ha),Int.max_eq_right (Av a)]
  simp [h1,h2]
 rw [hb];refine wpAny_bind (wpAny_rule ?_);refine wpAny_bind (m:=Builtin.List.listUpdate (.ref l) _) ?_;show wpAny _ _ (updateSeq l _) _ _ s;have key:∀ (p:Nat->Bool),(∀ k,k<items.size->p k=decide (a<=k))->(items.toList.zipIdx.filterMap fun x=>if p x.2 then none else some x.1)=items.toList.take a:=fun p hp=>cut_take p _ a fun k hk=>hp k (by simpa using hk)
 have sel:∀ k,k<items.size->(decide ((a:Int)<=k)&&decide ((k:Int)<items.size)&&(((k:Int)-a)%1==0))=decide (a<=k):=fun k hk=>by
  have h1:decide ((k:Int)<items.size)=true:=decide_eq_true (Int.ofNat_lt.mpr hk);rw [h1,Bool.and_true,Int.emod_one];simp
 refine wpAny_updateSeq hl rfl ?_ hz ?_
 ·refine wpAny_bind (wpAny_letGo ?_);refine wpAny_bind (m:=ret .none) (wpAny_pure (wpAny_pure ⟨.none,rfl,h _ ?_⟩));show (List.filterMap _ items.toList.zipIdx).toArray.toList=_;rw [List.toList_toArray];exact key (fun k=>decide ((a:Int)<=k)&&decide ((k:Int)<items.size)&&(((k:Int)-a)%1==0)) sel
 ·show (List.filterMap _ items.toList.zipIdx).toArray.size<=_;rw [List.size_toArray];refine Aa (List.length_filterMap_le _ _) ?_;simp only [List.length_zipIdx,Array.length_toList];lia
end
open PySem PySem.Calls PyProof.Rows PySem.SeqAt MeetsSeq
def OkU (c:Cx)(e:Ev)(s:Shared)(Y:Rho)(Q:QX)(QC:Unit->Shared->Prop):Prop:=
 ∀ s' Y' J',Same s s'->c.P Y s.heap Y' s'.heap->c.S Y' e J' s'->Q J'->QC () s'
theorem noFillI_list:fillsInplaceSlot (.type "list") "add" (Operator.Add==.Add)=pure false:=by
 unfold fillsInplaceSlot;show (typeLookup (.type "list") (dunderI "add") >>= fun fi=>pure (fi.isSome&&!isSeqSlot fi))=pure false
 rw [typeLookup_type,builtinLookup_eq_fast]; kernel_rfl
theorem seqI_list:seqSlot? (.type "list") (dunderI "add")=pure (some (.builtin "list.__iadd__")):=by
 unfold seqSlot?;rw [typeLookup_type,builtinLookup_eq_fast]; kernel_rfl
section
variable {c:Cx}{e:Ev}{s:Shared}{Y:Rho}{J:Store}{Q:QV}{X:QX}{QC EC:Value->Shared->Prop}{UC:Unit->Shared->Prop}{A:Around}
theorem setIdx_sound {a i x:AV}{va vi vx:Value}(h:setIdxW a i x J X)(S:c.S Y e J s)(ra:c.V s.heap Y a va)(ri:c.V s.heap Y i vi)(rx:c.V s.heap Y x vx)(H:OkU c e s Y X UC) :
  wpAny c.M A (setItem va vi vx) UC EC s:=by
 refine obj_el h ra fun r ra h=>?_;cases i with
 | int i=>
  obtain ⟨t,rfl⟩:=ri;refine lst_el h S ra (fun va=>wpAny c.M A (setItem va _ vx) UC EC s) fun l p items n L h=>?_;obtain ⟨k,hk,q⟩:=optW_i h;refine setItem_exact L.is (L.size▸hk) (L.size▸L.le) ?_;obtain ⟨P,S'⟩:=Cx.S.list_upd (l':=l.set k x) S L.at_ L.is (g:=(·.setIfInBounds k vx)) rfl (by rw [Array.toList_setIfInBounds]; exact L.rs.set k rx) (by rw [List.length_set]; exact L.le);exact H _ Y _ ⟨rfl,rfl,rfl,Aj _⟩ P S' q
 | str x'=>
  obtain ⟨es,h1,hz,q⟩:=dctO_i h;obtain ⟨t,rfl,_⟩:=ri; obtain ⟨⟨p,d⟩,rfl,hp⟩:=ra;obtain ⟨e1,kvs,hm,hf,hz'⟩:=S.sim.obj _ _ _ hp h1;cases (e1:d=none);refine wpAny_setItem_pairs (strKind_is _ _ _ t) hm (fun h' hm' hs=>?_) (hf.length▸Aa (Nat.le_of_lt hz) lid_line);have hmem:p∈muts Y:=mem_muts hp (hd_mem _);obtain ⟨oa,hoa,hi⟩:=S.sim.lt hmem;have hex:∃ o',h'.get? p=some o':=by obtain ⟨o',_,_,ho',_⟩:=hm'; exact ⟨o',ho'⟩
  have P:c.P Y s.heap Y h':=Stp.upd hs hex hoa hi hmem;have nd:(kvs.map (·.1)).Nodup:=by obtain ⟨_,_,_,_,_,_,_,_,nd⟩:=hm; exact nd
  exact H _ Y _ ⟨rfl,rfl,rfl,Nat.le_succ _⟩ P ((S.le (Nat.le_succ _)).heap (S.toSt.upd (o:=.dict (putD x' x es)) hp (hd_mem _) hs hex ⟨rfl,_,hm',(hf.put x' rx nd).mono P.imm (Rho.Le.refl _),Aa (putD_length x' x es) hz⟩).2) q
 | _=>exact h.elim
theorem setSlice_sound {a lo hi x:AV}{va vl vh vx:Value}(h:setSliceW a lo hi x J X)(S:c.S Y e J s)(ra:c.V s.heap Y a va)(rl:c.V s.heap Y lo vl)(rh:c.V s.heap Y hi vh)(rx:c.V s.heap Y x vx)(H:OkU c e s Y X UC) :
  wpAny c.M A (setItem va (.ref s.heap.objs.size) vx) UC EC (sPush s vl vh):=by
 refine obj_el h ra fun r ra h=>int_el h rl (fun vl=>wpAny c.M A (setItem va (.ref s.heap.objs.size) vx) UC EC (sPush s vl vh)) fun i t1 h=>int_el h rh (fun vh=>wpAny c.M A (setItem va (.ref s.heap.objs.size) vx) UC EC (sPush s (.int i t1) vh)) fun j t2 h=>obj_el h rx fun r' rx h=>?_;have Pp:c.P Y s.heap Y (sPush s (.int i t1) (.int j t2)).heap:=Stp.push _;have S':c.S Y e J (sPush s (.int i t1) (.int j t2)):=S.pushed _;refine lst_el h S' (Pp.rv ra) (fun va=>wpAny c.M A (setItem va (.ref s.heap.objs.size) vx) UC EC (sPush s (.int i t1) (.int j t2))) fun l p items n L h=>lst_el h S' (Pp.rv rx) (fun vx=>wpAny c.M A (setItem (.ref p) (.ref s.heap.objs.size) vx) UC EC (sPush s (.int i t1) (.int j t2))) fun l' p' items' n' L' h=>?_;obtain ⟨hne,rfl,h0,hi',hz,q⟩:=h;obtain ⟨k,rfl⟩:=Int.eq_ofNat_of_zero_le h0;refine setSlice_exact L.is L'.is (fun q=>S.sim.apart r r' _ _ hne L.at_ L'.at_ p (hd_mem _) (q▸hd_mem _)) (Heap.IsSliceOf.new ..) (L.size▸Int.ofNat_le.mp hi') (L.size▸L'.size▸Aa hz lid_line) ?_;obtain ⟨P,S''⟩:=Cx.S.list_upd (l':=l.take k++l'++l.drop k) S' L.at_ L.is (g:=fun xs=>xs.extract 0 k++items'++xs.extract k xs.size)
  (items':=items.extract 0 k++items'++items.extract k items.size) rfl (by
   rw [Array.toList_append,Array.toList_append,ext_drop,ext_take];exact ((L.rs.take k).append L'.rs).append (L.rs.drop k)) (by rw [cut_len]; exact hz)
 exact H _ Y _ ⟨rfl,rfl,rfl,Aj _⟩ (Pp.trans P) S'' q
theorem delFrom_sound {a lo:AV}{va vl:Value}(h:delFromW a lo J X)(S:c.S Y e J s)(ra:c.V s.heap Y a va)(rl:c.V s.heap Y lo vl)(H:OkU c e s Y X UC) :
  wpAny c.M A (delItem va (.ref s.heap.objs.size)) UC EC (sPush s vl .none):=by
 refine obj_el h ra fun r ra h=>int_el h rl (fun vl=>wpAny c.M A (delItem va (.ref s.heap.objs.size)) UC EC (sPush s vl .none)) fun i t1 h=>?_;have Pp:c.P Y s.heap Y (sPush s (.int i t1) .none).heap:=Stp.push _;have S':c.S Y e J (sPush s (.int i t1) .none):=S.pushed _;refine lst_el h S' (Pp.rv ra) (fun va=>wpAny c.M A (delItem va (.ref s.heap.objs.size)) UC EC (sPush s (.int i t1) .none)) fun l p items n L h=>?_;obtain ⟨h0,hi',q⟩:=h;obtain ⟨k,rfl⟩:=Int.eq_ofNat_of_zero_le h0;refine delSlice_exact L.is (Heap.IsSliceOf.new ..) (L.size▸Int.ofNat_le.mp hi') (L.size▸Aa L.le lid_line) fun g hg=>?_;obtain ⟨P,S''⟩:=Cx.S.list_upd (l':=l.take k) S' L.at_ L.is (g:=g) (items':=g items) rfl (by rw [hg]; exact L.rs.take k) (Aa (List.length_take_le' ..) L.le);exact H _ Y _ ⟨rfl,rfl,rfl,Aj _⟩ (Pp.trans P) S'' q
theorem append_sound {r:Nat}{l:List AV}{x:AV}{va vx:Value}(h1:J[r]?=some (.list l))(hz:l.length<lid)(q:Q .none (J.set r (.list (l++[x]))))(S:c.S Y e J s)(ra:c.V s.heap Y (.obj r) va)(rx:c.V s.heap Y x vx)(H:OkV c e s Y Q QC) :
  wpAny c.M A (call (.builtin "list.append") [va,vx]) QC EC s:=by
 obtain ⟨p,items,n,rfl,hp,ho,rs,_⟩:=Cx.S.list_at S h1 ra;have e1:=rs.size;have hl:=lid_line;refine call_meets F.slot_list_append ⟨_,ho,rfl⟩ F.entry_list_append (F.args_list_append_2 _ _) (list_append p items n vx (by lia)) ⟨ho,?_⟩;obtain ⟨P,S'⟩:=Cx.S.list_upd (l':=l++[x]) S hp ho (g:=fun xs=>xs.push vx) rfl (by
  rw [Array.toList_push]; exact rs.append (.one rx)) (by rw [Ac]; exact hz)
 exact H _ _ Y _ _ ⟨rfl,rfl,rfl,Aj _⟩ P S' rv_none q
theorem pop_sound {r:Nat}{l:List AV}{x:AV}{va:Value}(h1:J[r]?=some (.list (l++[x])))(q:Q x (J.set r (.list l)))(S:c.S Y e J s)(ra:c.V s.heap Y (.obj r) va)(H:OkV c e s Y Q QC) :
  wpAny c.M A (call (.builtin "list.pop") [va]) QC EC s:=by
 obtain ⟨p,items,n,rfl,hp,ho,rs,hz⟩:=Cx.S.list_at S h1 ra;have e1:=rs.size;rw [Ac] at e1 hz;have e1:l.length+1=items.size:=e1;have hl:=lid_line;obtain ⟨v,hv,rv⟩:=rs.get (k:=l.length) (x:=x) List.getElem?_concat_length;rw [Array.getElem?_toList] at hv;have hsz:items.size-1=l.length:=by lia
 refine call_meets F.slot_list_pop ⟨_,ho,rfl⟩ F.entry_list_pop (F.args_list_pop_1 _) (list_pop_last p items n v (by rw [hsz]; exact hv) (by lia)) ⟨ho,?_⟩;obtain ⟨P,S'⟩:=Cx.S.list_upd (l':=l) S hp ho (g:=fun xs=>xs.eraseIdxIfInBounds (items.size-1)) (items':=items.eraseIdxIfInBounds (items.size-1)) rfl (by
  have e2:(items.eraseIdxIfInBounds (items.size-1)).toList=items.toList.take l.length:=by
   unfold Array.eraseIdxIfInBounds;rw [dif_pos (by lia),Array.toList_eraseIdx,hsz,List.eraseIdx_eq_take_drop_succ,List.drop_of_length_le (by rw [Array.length_toList,e1]; exact Aj _),List.append_nil]
  rw [e2];have:=rs.take l.length;rw [List.take_left] at this; exact this) (Ap hz)
 exact H _ _ Y _ _ ⟨rfl,rfl,rfl,Aj _⟩ P S' (P.rv rv) q
theorem iadd_sound {op:BOp}{a b:AV}{va vb:Value}(h:iaddW op a b J Q)(S:c.S Y e J s)(ra:c.V s.heap Y a va)(rb:c.V s.heap Y b vb)(H:OkV c e s Y Q QC) :
  wpAny c.M A (inplaceOp (opOf op) va vb) QC EC s:=by
 cases op with
 | add=>
  cases a with
  | obj r=>
   refine obj_el h rb fun r' rb h=>lst_el h S ra (fun va=>(c.V s.heap Y (.obj r) va)->wpAny c.M A (inplaceOp .Add va vb) QC EC s) (fun l p items n L h ra=>lst_el h S rb (fun vb=>wpAny c.M A (inplaceOp .Add (.ref p) vb) QC EC s) fun l' p' items' n' L' h=>?_) ra;obtain ⟨hne,hz,q⟩:=h;have hz':=Aa hz lid_line;have hT:s.TypeIs (.ref p) "list":=⟨_,L.is,rfl⟩
   have hT':s.TypeIs (.ref p') "list":=⟨_,L'.is,rfl⟩
   rw [L.size,L'.size] at hz';unfold inplaceOp;refine wpAny_holding ?_;refine wpAny_bind (wpAny_typeOf hT (wpAny_bind (wpAny_of_eq noFillI_list ?_)));show wpAny _ A (if false=true then _ else _) _ _ s
   rw [if_neg Bool.false_ne_true];refine wpAny_bind (binaryOp1_none (nm:="add") hT hT' noFill_list_add ?_)
   refine wpAny_bind (wpAny_of_eq seqI_list ?_);refine wpAny_bind (wpAny_rule ?_);refine call_meets F.slot_list_iadd hT F.entry_list_iadd (F.args_list_iadd_2 _ _) (AutoSeq1.list___iadd___list_list_0 p items n p' items' n' ?_ (Aa (Af ..) hz') (Nat.le_succ_of_le hz')) ⟨L.is,L'.is,?_⟩
   ·have:Builtin.List.listTooLong (items.size+items'.size)=false:=by
     unfold Builtin.List.listTooLong; exact decide_eq_false (Nat.not_lt.mpr hz')
    rw [this]; simp
   ·obtain ⟨P,S'⟩:=Cx.S.list_upd (l':=l++l') S L.at_ L.is (g:=fun xs=>xs++items') rfl (by rw [Array.toList_append]; exact L.rs.append L'.rs) (by rw [Ac]; exact hz);exact H _ _ Y _ _ ⟨rfl,rfl,rfl,Aj _⟩ P S' (P.rv ra) q
  | int x=>
   obtain ⟨t,rfl⟩:=ra;exact int_el h rb (fun vb=>wpAny c.M A (inplaceOp .Add (.int x t) vb) QC EC s) fun y u h=>PyProof.Rows.iadd_int (H.now S rv_int h (Nat.le_succ _))
  | _=>exact h.elim
 | sub=>exact ord_el h ra rb (fun va vb=>wpAny c.M A (inplaceOp .Sub va vb) QC EC s) fun x t y u h=>PyProof.Rows.isub_int (H.now S rv_int h (Nat.le_succ _))
 | _=>exact h.elim
end
open PySem PySem.Calls PyProof.Rows PySem.SeqAt PySem.NumText
noncomputable def biVal:Bi->Value
 | .len=>.builtin "len" | .str=>.type "str" | .int=>.type "int" | .abs=>.builtin "abs" | .range=>.type "range"
 | .min=>.builtin "min" | .max=>.builtin "max" | .sum=>.builtin "sum" | .tuple=>.type "tuple" | .type=>.type "type"
theorem intTx_ofString (i:Int):Str.ofString (toString i)=sOf (intTx i):=Str.ofString_eq_toList _
theorem log2_lt_of {n k:Nat}(hk:0<k)(h:n<2 ^ k):n.log2<k:=by
 by_cases h0:n=0
 ·subst h0; simpa using hk
 ·exact (Nat.log2_lt h0).mpr h
theorem intTx_length {i:Int}(h:i.natAbs<2 ^ 100):(intTx i).length<=lid:=by
 have e:=int_text_length_le (a:=i) (k:=100) (by decide) (log2_lt_of (by decide) h);have:lid=1000000:=rfl;simp only [intTx,Ah,String.length_toList];lia
theorem digVal_eq (x:Tx):digVal x=digitsVal x:=by
 unfold digVal digitsVal;congr 1;funext n c;lia
theorem rangeSize_rng {a b c:Int}(hc:c=1∨c=-1):Builtin.Range.rangeSize a b c=((rngList a b c).length:Int):=by
 rcases hc with rfl | rfl
 ·rw [rangeSize_one];simp only [rngList,if_true,Ah,List.length_range];split<;>lia
 ·unfold Builtin.Range.rangeSize;have:rngList a b (-1)=(List.range (a-b).toNat).map fun (k:Nat)=>a-(k:Int):=by
   unfold rngList; rw [if_neg (by decide),if_pos rfl]
  rw [this,Ah,List.length_range];simp;split<;>lia
theorem rng1 (a b:Int):rngList a b 1=(List.range (b-a).toNat).map fun (k:Nat)=>a+(k:Int):=by unfold rngList; rw [if_pos rfl]
theorem rng2 (a b:Int):rngList a b (-1)=(List.range (a-b).toNat).map fun (k:Nat)=>a-(k:Int):=by unfold rngList; rw [if_neg (by decide),if_pos rfl]
theorem toNat_abs (x:Int):x.toNat<=x.natAbs:=by cases x<;>first | exact Aj _ | exact Nat.zero_le _
theorem sub_lid {a b:Int}(ha:a.natAbs<=lid)(hb:b.natAbs<=lid):(a-b).toNat<=2*lid:=
 Aa (toNat_abs _) (Aa (Int.natAbs_sub_le a b) (Aa (Aq ha hb) (Nat.le_of_eq (Nat.two_mul _).symm)))
theorem rngList_length {a b c:Int}(ha:a.natAbs<=lid)(hb:b.natAbs<=lid):(rngList a b c).length<=2*lid:=by
 unfold rngList;split
 ·rw [Ah,List.length_range]; exact sub_lid hb ha
 ·split
  ·rw [Ah,List.length_range]; exact sub_lid ha hb
  ·exact Nat.zero_le _
theorem fitsL {i:Int}(h:i.natAbs<=2*lid):Builtin.Range.rangeFitsLong i=true:=by
 have h:i.natAbs<=2000000:=h;unfold Builtin.Range.rangeFitsLong;exact Bool.and_eq_true_iff.mpr ⟨decide_eq_true (by lia),decide_eq_true (by lia)⟩
theorem rng_small {a b c:Int}(hc:c=1∨c=-1)(ha:a.natAbs<=lid)(hb:b.natAbs<=lid):Builtin.Range.small a b c=true:=by
 have up:∀ {n:Nat},n<=lid->n<=2*lid:=fun h=>Aa h (by decide);unfold Builtin.Range.small;rw [rangeSize_rng hc,fitsL (up ha),fitsL (up hb),fitsL (i:=((rngList a b c).length:Int)) (rngList_length (c:=c) ha hb)];rcases hc with rfl | rfl
 ·rw [if_pos (by decide),show b+((1:Int)-1)=b from Int.add_zero b,fitsL (up hb)];exact Bool.or_true _
 ·rw [if_neg (by decide),show b+((-1:Int)+1)=b from Int.add_zero b,fitsL (up hb)];exact Bool.or_true _
theorem rngList_get {a b c:Int}(hc:c=1∨c=-1)(i:Nat)(h:i<(rngList a b c).length):(rngList a b c)[i]?=some (a+i*c):=by
 rcases hc with rfl | rfl
 ·simp only [rngList,if_true,Ah,List.length_range] at h ⊢;simp [h]
 ·rw [rng2] at h ⊢;simp only [Ah,List.length_range] at h;simp [h];lia
section
variable {c:Cx}{e:Ev}{s:Shared}{Y:Rho}{J:Store}{Q:QV}{X:QX}{QC EC:Value->Shared->Prop}{A:Around}
theorem OkV.more {a:AV}{v:Value}{h':Heap}{tk:Nat}(H:OkV c e s Y Q QC)(S:c.S Y e J s)(hk:∀ b o,s.heap.get? b=some o->h'.get? b=some o)(hn:s.toks<=tk)(r:c.V h' Y a v)(q:Q a J):QC v { s with heap:=h',toks:=tk }:=
 H v _ Y a J ⟨rfl,rfl,rfl,hn⟩ (Stp.other hk) ((S.le hn).heap (S.toSt.other hk)) r q
theorem args1 {base h:Heap}{x:AV}{vs:List Value}(q:RVs base h Y [x] vs):∃ v,vs=[v]∧RV base h Y x v:=by
 obtain ⟨v,vs,rfl,h1,h2⟩:=q;cases (h2:vs=[]);exact ⟨v,rfl,h1⟩
theorem args2 {base h:Heap}{x y:AV}{vs:List Value}(q:RVs base h Y [x,y] vs):∃ v w,vs=[v,w]∧RV base h Y x v∧RV base h Y y w:=by
 obtain ⟨v,vs,rfl,h1,h2⟩:=q;obtain ⟨w,rfl,h3⟩:=args1 h2;exact ⟨v,w,rfl,h1,h3⟩
theorem len_lst {p:Addr} {items:Array Value} {n:Nat} {l:List AV} (ho:IsL s.heap p items n) (rs:RVs c.base s.heap Y l items.toList) (hz:l.length<=lid) (q:Q (.int l.length) J) (S:c.S Y e J s) (H:OkV c e s Y Q QC):wpAny c.M A (call (.builtin "len") [.ref p]) QC EC s:=by
 have hlid:lid=1000000:=rfl;have hlen:=rs.size;refine PyProof.Rows.len_list ho.isList (by lia) ?_;rw [← hlen];exact H.now S rv_int q (Af _ 2)
theorem len_sound {a:AV} {v:Value} (h:lenW a J Q) (S:c.S Y e J s) (r:c.V s.heap Y a v) (H:OkV c e s Y Q QC):wpAny c.M A (call (.builtin "len") [v]) QC EC s:=by
 have hlid:lid=1000000:=rfl;have le2:s.toks<=s.toks+1+1:=Af _ 2;cases a with
 | obj r'=>
  obtain ⟨l,h1,q⟩:=lstO_i h;obtain ⟨p,items,n,rfl,hp,ho,rs',hz⟩:=Cx.S.list_at S h1 r;exact len_lst ho rs' hz q S H
 | str x=>
  obtain ⟨t,rfl,hz,_⟩:=r;refine PySem.P.len_str (by rw [sOf_length]; lia) ?_;rw [sOf_length];exact H.now S rv_int h le2
 | tup l=>
  obtain ⟨p,items,rfl,ht,rs',hz⟩:=r;have hlen:=rs'.size;refine PyProof.Rows.len_tuple ht.tup (by lia) ?_;rw [← hlen];exact H.now S rv_int h le2
 | frz l=>
  obtain ⟨p,items,rfl,⟨n,ht⟩,rs',hz⟩:=r;exact len_lst (S.stays _ _ ht) rs' hz h S H
 | rng a b c=>
  obtain ⟨hc,hz,q⟩:=h;obtain ⟨p,rfl,⟨t,u,w,hr⟩,_⟩:=r;exact call_len_range hr (rangeSize_rng hc) (by lia) (H.now S rv_int q le2)
 | _=>exact h.elim
theorem toInt_sound {a:AV} {v:Value} (h:toIntW a J Q) (S:c.S Y e J s) (r:c.V s.heap Y a v) (H:OkV c e s Y Q QC):wpAny c.M A (call (.type "int") [v]) QC EC s:=by
 cases a with
 | bool b=>
  cases (r:v=.bool b);exact call_int_bool (H.now S (a:=.int _) rv_int h (Nat.le_succ _))
 | str x=>
  obtain ⟨t,rfl,_⟩:=r;obtain ⟨h1,h2,h3,q⟩:=h;refine PySem.W.KIN.call_text (n:=(digVal x:Int)) ?_ (by rw [sOf_length]; lia) (H.now S rv_int q (Nat.le_succ _));rw [digVal_eq];have:=intText_digits (x:=sOf x) (by
   intro d hd;have:=List.all_eq_true.mp h3 d (by simpa [sOf] using hd)
   simpa [isDig] using this) (by simpa [sOf] using h1) (by rw [sOf_length]; lia)
  simpa [sOf] using this
 | _=>exact h.elim
theorem preSum_take {a b st:Int}(hc:st=1∨st=-1):∀ j,j<=(rngList a b st).length->preSum (fun i=>a+(i:Int)*st) j=((rngList a b st).take j).sum
 | 0,_=>rfl
 | j+1,hj=>by
  rw [preSum,preSum_take hc j (Ap hj),List.take_add_one,rngList_get hc j hj];simp
theorem sum_sound {a b st:Int} {v:Value} (hh:A.handled=none) (hc:st=1∨st=-1) (q:Q (.int (rngList a b st).sum) J) (S:c.S Y e J s) (r:c.V s.heap Y (.rng a b st) v) (H:OkV c e s Y Q QC):wpAny c.M A (call (.builtin "sum") [v]) QC EC s:=by
 obtain ⟨p,rfl,⟨t,u,w,hr⟩,ha,hb,_⟩:=r;refine wpAny_with_toks (Aj _) (call_sum_walkAnyS (wpAny_pyIter_range hr (rng_small hc ha hb) ?_));have W:=(Walks.range (prog:=c.prog) (w:=c.w) (A:=A.in1) hh s.heap.objs.size a st (rngList a b st).length).toS;refine ⟨s.heap.objs.size,_,_,_,_,_,_,fun i=>a+i*st,rfl,W,?_,fun b hb=>?_,fun i v hP=>hP,fun s' t' hm hn=>?_⟩
 ·rw [rangeSize_rng hc]
  simpa [IsRangeIter] using Heap.get?_push_size s.heap rfl
 ·obtain rfl:=List.mem_singleton.mp hb;exact Heap.lt_size (Heap.get?_push_size _ rfl)
 ·obtain ⟨h',g',d',tk',os'⟩:=s';have e1:g'=s.gens:=hm.gens;have e2:d'=s.drawn:=hm.drawn;have e3:os'=s.os:=hm.os;subst e1 e2 e3;rw [preSum_take hc _ (Aj _),List.take_length];exact H.more S (fun b o e=>hm.heap b o (fun hb=>absurd (Heap.lt_size e) ((List.mem_singleton.mp hb)▸Nat.lt_irrefl _)) (Heap.get?_push_of_some _ e)) hn rv_int q
theorem range_new {a b st:Int}{i j k:Tok}(hc:st=1∨st=-1)(ha:a.natAbs<=lid)(hb:b.natAbs<=lid){tk:Nat}(hn:s.toks<=tk)(q:Q (.rng a b st) J)(S:c.S Y e J s)(H:OkV c e s Y Q QC) :
  QC (.ref s.heap.objs.size) { s with heap:=s.heap.push { cls:=.type "range",data:=.fields #[.int a i,.int b j,.int st k] },toks:=tk }:=
 H.more (a:=.rng a b st) S (Kp.push _) hn ⟨_,rfl,⟨_,_,_,IsRange.new ..⟩,ha,hb,hc⟩ q
theorem bi1_sound {b:Bi}{a:AV}{v:Value}(hh:A.handled=none)(h:bi1W b a J Q)(S:c.S Y e J s)(r:c.V s.heap Y a v)(H:OkV c e s Y Q QC) :
  wpAny c.M A (call (biVal b) [v]) QC EC s:=by
 cases b with
 | len=>exact len_sound h S r H
 | str=>
  refine int_el h r (fun v=>wpAny c.M A (call (.type "str") [v]) QC EC s) fun x t h=>PySem.P.str_of_int (Nat.lt_trans (log2_lt_of (by decide) h.1) (by decide)) ?_
  rw [show ((toString _:String):Str)=_ from intTx_ofString _];exact H.str S (intTx_length h.1) h.2
 | int=>exact toInt_sound h S r H
 | abs=>
  refine int_el h r (fun v=>wpAny c.M A (call (.builtin "abs") [v]) QC EC s) fun x t h=>wpAny_with_toks (Aj _) (call_abs_int fun u tk hn=>H.now S ?_ h hn)
  rw [show (if x<0 then -x else x)=(x.natAbs:Int) by split<;>lia]
  exact rv_int
 | range=>exact int_el h r (fun v=>wpAny c.M A (call (.type "range") [v]) QC EC s) fun x t h=>call_range_1 (range_new (.inl rfl) (Nat.zero_le _) h.1 (Af _ 2) h.2 S H)
 | sum=>
  cases a with
  | rng a b c=>exact sum_sound hh h.1 h.2.2 S r H
  | _=>exact h.elim
 | tuple=>
  refine obj_el h r fun r' r h=>lst_el h S r (fun v=>wpAny c.M A (call (.type "tuple") [v]) QC EC s) fun l p items n L q=>?_
  refine call_tuple_list L.is.isList (fun h' hk=>?_) (by rw [← L.size]; exact Aa L.le lid_line);have hk':Kp s.heap (h'.push { cls:=.type "tuple",data:=.seq items }):=fun b o e=>Heap.get?_push_of_some _ (hk b o e)
  exact H.more (a:=.tup l) S hk' (Aj _) ⟨_,items,rfl,⟨0,Heap.get?_push_size _ rfl⟩,(Stp.other (F:=c.F) (own:=nope) hk').rvs L.rs,L.le⟩ q
 | type=>exact int_el h r (fun v=>wpAny c.M A (call (.type "type") [v]) QC EC s) fun x t h=>call_type_of (typeIs_int _ _ _) (by decide) (H.now' S (show c.V s.heap Y (.stat (.type "int")) _ from rfl) h)
 | _=>exact h.elim
theorem bi2_sound {b:Bi}{x y:AV}{v w:Value}(hh:A.handled=none)(h:bi2W b x y J Q)(S:c.S Y e J s)(r1:c.V s.heap Y x v)(r2:c.V s.heap Y y w)(H:OkV c e s Y Q QC):wpAny c.M A (call (biVal b) [v,w]) QC EC s:=by
 refine ord_el h r1 r2 (fun v w=>wpAny c.M A (call (biVal b) [v,w]) QC EC s) fun a t a' u h=>?_;cases b with
 | range=>exact call_range_2 (range_new (.inl rfl) h.1 h.2.1 (Nat.le_succ _) h.2.2 S H)
 | min=>
  refine wpAny_with_toks (Aj _) (min_two_ints hh fun h' tk hk hn=>H.more S hk hn ?_ h);rcases Int.lt_or_le a' a with q | q
  ·rw [if_pos q,Int.min_eq_right (Int.le_of_lt q)]; exact rv_int
  ·rw [if_neg (Int.not_lt.mpr q),Int.min_eq_left q]; exact rv_int
 | max=>
  refine wpAny_with_toks (Aj _) (max_two_ints hh fun h' tk hk hn=>H.more S hk hn ?_ h);rcases Int.lt_or_le a a' with q | q
  ·rw [if_pos q,Int.max_eq_right (Int.le_of_lt q)]; exact rv_int
  ·rw [if_neg (Int.not_lt.mpr q),Int.max_eq_left q]; exact rv_int
 | _=>exact h.elim
theorem bi3_sound {b:Bi}{x y z:AV}{v w u:Value}(h:bi3W b x y z J Q)(S:c.S Y e J s)(r1:c.V s.heap Y x v)(r2:c.V s.heap Y y w)(r3:c.V s.heap Y z u)(H:OkV c e s Y Q QC):wpAny c.M A (call (biVal b) [v,w,u]) QC EC s:=by
 cases b with
 | range=>
  refine int_el h r1 (fun v=>wpAny c.M A (call (.type "range") [v,w,u]) QC EC s) fun a i h=>int_el h r2 (fun w=>wpAny c.M A (call (.type "range") [_,w,u]) QC EC s) fun a' j h=>int_el h r3 (fun u=>wpAny c.M A (call (.type "range") [_,_,u]) QC EC s) fun a'' k h=>?_
  obtain ⟨h1,h2,rfl,q⟩:=h;exact call_range_3 (by decide) (range_new (.inr rfl) h1 h2 (Aj _) q S H) (.inl (noPylong (by decide)))
 | _=>exact h.elim
theorem bi_sound {b:Bi}{as:List AV}{vs:List Value}(hh:A.handled=none)(h:biW b as J Q)(S:c.S Y e J s)(rs:RVs c.base s.heap Y as vs)(H:OkV c e s Y Q QC) :
  wpAny c.M A (call (biVal b) vs) QC EC s:=by
 cases as with
 | nil=>exact h.elim
 | cons x as=>
 obtain ⟨v,vs,rfl,r1,rs⟩:=rs;cases as with
 | nil=>cases (rs:vs=[]); exact bi1_sound hh h S r1 H
 | cons y as=>
 obtain ⟨w,vs,rfl,r2,rs⟩:=rs;cases as with
 | nil=>cases (rs:vs=[]); exact bi2_sound hh h S r1 r2 H
 | cons z as=>
 obtain ⟨u,vs,rfl,r3,rs⟩:=rs;cases as with
 | nil=>cases (rs:vs=[]); exact bi3_sound h S r1 r2 r3 H
 | cons _ _=>exact h.elim
end
open PySem PySem.Calls PyProof.Rows PySem.SeqAt
noncomputable def bmId:Bm->String
 | .append=>"list.append" | .pop=>"list.pop" | .isascii=>"str.isascii" | .isalpha=>"str.isalpha" | .isalnum=>"str.isalnum" | .isdigit=>"str.isdigit"
 | .lower=>"str.lower" | .find=>"str.find" | .replace=>"str.replace" | .join=>"str.join"
noncomputable def bmName:Bm->Str
 | .append=>"append" | .pop=>"pop" | .isascii=>"isascii" | .isalpha=>"isalpha" | .isalnum=>"isalnum" | .isdigit=>"isdigit"
 | .lower=>"lower" | .find=>"find" | .replace=>"replace" | .join=>"join"
theorem alp_ok:∀ c<128,Unicode.isAlpha c=isAlp c:=by decide +kernel
theorem aln_ok:∀ c<128,Unicode.isAlnum c=(isAlp c||isDig c):=by decide +kernel
theorem dig_ok:∀ c<128,Unicode.isDigit c=isDig c:=by decide +kernel
theorem isalpha_one {c:Nat}(h:c<128):Txt.isalpha (sOf [c])=isAlp c:=by
 rw [← alp_ok c h]; simp [Txt.isalpha,sOf,Str.length]
theorem isalnum_one {c:Nat}(h:c<128):Txt.isalnum (sOf [c])=(isAlp c||isDig c):=by
 rw [← aln_ok c h]; simp [Txt.isalnum,sOf,Str.length]
theorem isdigit_one {c:Nat}(h:c<128):Txt.isdigit (sOf [c])=isDig c:=by
 rw [← dig_ok c h]; simp [Txt.isdigit,sOf,Str.length]
theorem isascii_one (c:Nat):Txt.isascii (sOf [c])=Nat.blt c 128:=by
 rw [Bool.eq_iff_iff]; simp [Txt.isascii,sOf,Nat.blt]; exact Nat.lt_succ_iff
theorem lower_tx {x:Tx}(h:∀ c∈x,c<128):Txt.lower (sOf x)=sOf (x.map lowC):=by
 rw [lower_ascii (x:=sOf x) (by simpa [sOf] using h)];simp only [sOf,List.map_toArray];congr 2;apply List.map_congr_left;intro c _;unfold lo1 lowC isUp;simp
theorem find_tx {x:Tx}{c:Nat}{i:Int}(h0:0<=i)(h1:i<=x.length):Txt.find3 (sOf x) (sOf [c]) i=findC c x i.toNat:=by
 obtain ⟨m,rfl⟩:=Int.eq_ofNat_of_zero_le h0;have hm:m<=x.length:=Int.ofNat_le.mp h1;have hfi:fromIndex (sOf x).length m=m:=by
  unfold fromIndex; rw [if_neg (Int.not_lt.mpr h0)]; rw [Int.max_eq_right h0]; rfl
 have hget:∀ v (hv:v<x.length),(sOf x).cps.getD v 0=x[v]:=fun v hv=>by
  simp [sOf,Array.getD,hv]
 show _=findC c x m;unfold findC;rcases StrLaws.find3_spec (sOf x) c m with ⟨h,hn⟩ | ⟨k,h,hlo,hk,hc,hn⟩
 ·rw [show sOf [c]=(⟨#[c]⟩:Str) from rfl,h];have:(x.drop m).findIdx? (·==c)=none:=by
   rw [List.findIdx?_eq_none_iff];intro y hy;obtain ⟨j,hj⟩:=List.mem_iff_getElem?.mp hy;rw [List.getElem?_drop] at hj;have hlt:=Ai hj;have:=hn (m+j) (hfi▸Af _ _) hlt.1;rw [hget _ hlt.1,hlt.2] at this;exact beq_eq_false_iff_ne.mpr this
  rw [this]
 ·rw [hfi] at hlo hn;have hkx:k<x.length:=hk;rw [show sOf [c]=(⟨#[c]⟩:Str) from rfl,h];have e:m+(k-m)=k:=Nat.add_sub_cancel' hlo;have:(x.drop m).findIdx? (·==c)=some (k-m):=by
   rw [List.findIdx?_eq_some_iff_getElem];refine ⟨by rw [List.length_drop]; exact Nat.sub_lt_sub_right hlo hkx,?_,fun j hj=>?_⟩
   ·rw [hget k hkx] at hc;simp only [List.getElem_drop,beq_iff_eq,e];exact hc
   ·have hjk:m+j<k:=e▸Nat.add_lt_add_left hj m;have:=hn (m+j) (Af _ _) hjk;rw [hget _ (Nat.lt_trans hjk hkx)] at this
    simpa using this
  rw [this];show (k:Int)=((m+(k-m):Nat):Int);rw [e]
theorem join_tx (sep:Tx):∀ ts:List Tx,Str.join (sOf sep) (ts.map sOf)=sOf (joinTx sep ts)
 | []=>rfl
 | [x]=>rfl
 | x::y::r=>by
  have ih:=join_tx sep (y::r);simp only [List.map_cons] at ih;show sOf x++sOf sep++Str.join (sOf sep) (sOf y::r.map sOf)=_;rw [ih,sOf_append,sOf_append];rfl
open PySem PySem.Calls PyProof.Rows PySem.SeqAt PySem.Builtin PySem.Builtin.Str
theorem pre_iff {y l:Tx}:pre y l=true↔l.take y.length=y:=by
 induction y generalizing l with
 | nil=>exact ⟨fun _=>rfl,fun _=>by cases l<;>rfl⟩
 | cons a y ih=>
  cases l with
  | nil=>exact ⟨fun h=>(Bool.false_ne_true h).elim,fun h=>(List.cons_ne_nil _ _ h.symm).elim⟩
  | cons b l=>
   show (Nat.beq a b&&pre y l)=true↔b::l.take y.length=a::y;rw [Bool.and_eq_true_iff,ih,Nat.beq_eq,List.cons_eq_cons];exact and_congr eq_comm Iff.rfl
theorem at_prefix (x y:Tx)(k:Nat):StrLaws.At (sOf x) (sOf y) (sOf x).length k->pre y (x.drop k)=true:=by
 rintro ⟨_,h⟩;rw [StrLaws.subAt_eq,sOf_length] at h;exact pre_iff.mpr (eq_of_beq h)
theorem prefix_at (x y:Tx)(k:Nat)(hk:k<=x.length)(h:pre y (x.drop k)=true):StrLaws.At (sOf x) (sOf y) (sOf x).length k:=by
 have h:=pre_iff.mp h;have hl:=congrArg List.length h;rw [List.length_take,List.length_drop] at hl;refine ⟨?_,?_⟩
 ·rw [sOf_length,sOf_length]; lia
 ·rw [StrLaws.subAt_eq,sOf_length];exact beq_iff_eq.mpr h
theorem replS_drop (y z:Tx):∀ (l:Tx) (k:Nat),replS y z k l=replTx y z (l.drop k)
 | _,0=>rfl
 | [],_+1=>rfl
 | _::l,k+1=>replS_drop y z l k
theorem replTx_hd {y z l:Tx}{c:Nat}(h:pre y (c::l)=true):replTx y z (c::l)=z++replTx y z (l.drop (y.length-1)):=by
 show (match pre y (c::l) with | true=>z++replS y z (y.length-1) l | false=>c::replS y z 0 l)=_
 rw [h,← replS_drop]
theorem replTx_tl {y z l:Tx}{c:Nat}(h:pre y (c::l)=false):replTx y z (c::l)=c::replTx y z l:=by
 show (match pre y (c::l) with | true=>z++replS y z (y.length-1) l | false=>c::replS y z 0 l)=_
 rw [h]; rfl
theorem replTx_skip (x y z:Tx)(a:Nat):∀ n,a+n<=x.length->(∀ k,a<=k->k<a+n->¬ StrLaws.At (sOf x) (sOf y) (sOf x).length k)->
  replTx y z (x.drop a)=(x.drop a).take n++replTx y z (x.drop (a+n))
 | 0,_,_=>rfl
 | n+1,hn,hk=>by
  have hlt:a+n<x.length:=hn;rw [replTx_skip x y z a n (Nat.le_of_lt hlt) fun k h1 h2=>hk k h1 (Nat.lt_succ_of_lt h2)];have e1:x.drop (a+n)=x[a+n]::x.drop (a+n+1):=List.drop_eq_getElem_cons hlt;have hnp:pre y (x[a+n]::x.drop (a+n+1))=false:=by
   rw [← e1];cases hq:pre y (x.drop (a+n)) with
   | false=>rfl
   | true=>exact absurd (prefix_at x y (a+n) (Nat.le_of_lt hlt) hq) (hk _ (Af ..) (Nat.lt_succ_self _))
  rw [e1,replTx_tl hnp,List.take_add_one,Ae];congr 1;rw [List.getElem?_drop,List.getElem?_eq_getElem hlt];rfl
theorem replTx_hit (x y z:Tx)(c:Nat)(hy:y≠[])(h:StrLaws.At (sOf x) (sOf y) (sOf x).length c):replTx y z (x.drop c)=z++replTx y z (x.drop (c+y.length)):=by
 have hp:=at_prefix x y c h;have hl:=h.1;rw [sOf_length,sOf_length] at hl;have hy1:0<y.length:=List.length_pos_iff.mpr hy;have hlt:c<x.length:=by lia
 have e1:x.drop c=x[c]::x.drop (c+1):=List.drop_eq_getElem_cons hlt;rw [e1] at hp ⊢;rw [replTx_hd hp,List.drop_drop,show c+1+(y.length-1)=c+y.length by lia]
theorem repl_chain (x y z:Tx)(hy:y≠[]):∀ (cuts:List Nat) (a f:Nat),StrLaws.ChainG (sOf x) (sOf y) (sOf x).length a cuts f->(∀ k,f<=k->¬ StrLaws.At (sOf x) (sOf y) (sOf x).length k)->a<=x.length->
  Str.join (sOf z) (StrLaws.partsFrom (sOf x) (sOf y).length a cuts)=sOf (replTx y z (x.drop a))
 | [],a,f,h,hf,ha=>by
  have e:f=a:=h;subst e;have hs:=replTx_skip x y z f (x.length-f) (by lia) fun k h1 _=>hf k h1;rw [show f+(x.length-f)=x.length by lia,List.drop_length] at hs;show strSub (sOf x) f (sOf x).length=_;rw [hs];apply Str.ext';apply Array.toList_inj.mp;rw [StrLaws.strSub_toList,sOf_length];show (x.drop f).take _=_++[];rw [List.append_nil]
 | c::r,a,f,h,hf,ha=>by
  obtain ⟨hac,hat,hno,hr⟩:=h;have hcl:=hat.1;rw [sOf_length,sOf_length] at hcl;have ih:=repl_chain x y z hy r (c+(sOf y).length) f hr hf (by rw [sOf_length]; lia);obtain ⟨p,q,epq⟩:=StrLaws.partsFrom_ne (sOf x) (sOf y).length (c+(sOf y).length) r;show Str.join (sOf z) (strSub (sOf x) a c::StrLaws.partsFrom (sOf x) (sOf y).length (c+(sOf y).length) r)=_;rw [epq] at ih ⊢;show strSub (sOf x) a c++sOf z++Str.join (sOf z) (p::q)=_;rw [ih];have hs:=replTx_skip x y z a (c-a) (by lia) fun k h1 h2=>hno k h1 (by lia);rw [show a+(c-a)=c by lia,replTx_hit x y z c hy hat] at hs;rw [hs];have e1:strSub (sOf x) a c=sOf ((x.drop a).take (c-a)):=by
   apply Str.ext';apply Array.toList_inj.mp;rw [StrLaws.strSub_toList];rfl
  rw [e1,sOf_append,sOf_append,sOf_length,Ae]
theorem replTx_none (y z:Tx)(x:Tx)(h:∀ k,¬ StrLaws.At (sOf x) (sOf y) (sOf x).length k):replTx y z x=x:=by
 have:=replTx_skip x y z 0 x.length (Nat.le_of_eq (Nat.zero_add _)) fun k _ _=>h k;rw [Nat.zero_add,List.drop_length,List.drop_zero,List.take_length] at this;rw [this]; exact List.append_nil x
theorem repl_tx (x y z:Tx)(hy:y≠[]):Txt.replace (sOf x) (sOf y) (sOf z)=sOf (replTx y z x):=by
 have hy1:0<y.length:=List.length_pos_iff.mpr hy;obtain ⟨f,hc,hf⟩:=StrLaws.occ_tight (sOf x) (sOf y) (by rw [sOf_length]; lia);unfold Txt.replace;have e0:((sOf y).length==0)=false:=by rw [sOf_length]; simp; lia
 rw [e0,Bool.false_and,Bool.or_false];have main:=repl_chain x y z hy _ 0 f hc hf (Nat.zero_le _);rw [List.drop_zero] at main;split
 ·rename_i he
  have hn:occurrences (sOf x) (sOf y) 0 (sOf x).length ((sOf x).length+1)=[]:=by simpa using he
  rw [hn] at hc;have:f=0:=hc;subst this;rw [replTx_none y z x fun k=>hf k (Nat.zero_le _)]
 ·rw [StrLaws.glued_eq_join,StrLaws.partsBetween_eq];exact main
section
variable {c:Cx}{e:Ev}{s:Shared}{Y:Rho}{J:Store}{Q:QV}{X:QX}{QC EC:Value->Shared->Prop}{A:Around}
theorem bmTy_i {m:Bm}{a:AV}{P:Prop}(h:bmTy m a J P):P∧(((m=.append∨m=.pop)∧∃ r l,a=.obj r∧J[r]?=some (.list l))∨(m≠.append∧m≠.pop∧∃ x,a=.str x)):=by
 cases a with
 | obj r=>
  cases m with
  | append=>obtain ⟨l,h1,h⟩:=lstO_i h; exact ⟨h,.inl ⟨.inl rfl,r,l,rfl,h1⟩⟩
  | pop=>obtain ⟨l,h1,h⟩:=lstO_i h; exact ⟨h,.inl ⟨.inr rfl,r,l,rfl,h1⟩⟩
  | _=>exact h.elim
 | str x=>
  cases m with
  | append=>exact h.elim
  | pop=>exact h.elim
  | _=>exact ⟨h,.inr ⟨fun q=>(by cases q),fun q=>(by cases q),x,rfl⟩⟩
 | _=>exact h.elim
theorem getm_sound {m:Bm}{a:AV}{v:Value}{pl:Sem Bool}{P:Prop}{QM:Value×List Value->Shared->Prop}(h:bmTy m a J P)(S:c.S Y e J s)(r:c.V s.heap Y a v)(H:P->QM (.builtin (bmId m),[v]) s) :
  wpAny c.M A (getMethod v (bmName m) pl) QM EC s:=by
 obtain ⟨p,⟨hm,r',l,rfl,hl⟩ | ⟨h1,h2,x,rfl⟩⟩:=bmTy_i h
 ·have H:=H p;obtain ⟨p,items,n,rfl,_,ho,_⟩:=Cx.S.list_at S hl r;rcases hm with rfl | rfl
  ·exact getMethod_builtin (T:="list") ⟨_,ho,rfl⟩ F.plainAttrs_list F.slot_list_append F.type_list_append (fun a ha=>by cases ha; exact ⟨_,ho,rfl⟩) H
  ·exact getMethod_builtin (T:="list") ⟨_,ho,rfl⟩ F.plainAttrs_list F.slot_list_pop F.type_list_pop (fun a ha=>by cases ha; exact ⟨_,ho,rfl⟩) H
 ·have H:=H p;obtain ⟨t,rfl,_⟩:=r;cases m with
  | append=>exact absurd rfl h1
  | pop=>exact absurd rfl h2
  | isascii=>exact GM.isascii H
  | isalpha=>exact GM.isalpha H
  | isalnum=>exact GM.isalnum H
  | isdigit=>exact GM.isdigit H
  | lower=>exact GM.lower H
  | find=>exact GM.find H
  | replace=>exact GM.replace H
  | join=>exact GM.join H
theorem txsOf_i {a:AV}{l:List AV}{ts:List Tx}(h:txsOf (a::l)=some ts):∃ x us,a=.str x∧txsOf l=some us∧ts=x::us:=by
 cases a with
 | str x=>
  have h:(txsOf l).map (x::·)=some ts:=h;cases h1:txsOf l with
  | none=>exact none_some (by rw [h1]; rfl) h
  | some us=>rw [h1] at h; exact ⟨x,us,rfl,rfl,(Ag h).symm⟩
 | _=>exact none_some rfl h
def TxV (Y:Rho)(ts:List Tx)(vs:List Value):Prop:=∃ k:List (Str×Tok),vs=strValues k∧k.map (·.1)=ts.map sOf∧∀ p∈k,∃ x:Tx,p.1=sOf x∧x.length<=lid∧p.2≠0∧Y.tk p.2=some x
theorem txs_vals {base h:Heap}{l:List AV}{ts:List Tx}{vs:List Value}(e:txsOf l=some ts)(hr:RVs base h Y l vs):TxV Y ts vs:=by
 induction l generalizing ts vs with
 | nil=>exact hr.nl (P:=TxV Y ts) (Ag e▸⟨[],rfl,rfl,fun _ h=>absurd h List.not_mem_nil⟩)
 | cons a l ih=>
  obtain ⟨x,us,rfl,h1,rfl⟩:=txsOf_i e;exact hr.el (P:=TxV Y (x::us)) fun v vs r hr=>Exists.elim r fun t r=>Exists.elim (ih h1 hr) fun k q=>⟨(sOf x,t)::k,by rw [r.1,q.1]; rfl,congrArg (sOf x::·) q.2.1,fun p hp=>(List.mem_cons.mp hp).elim (fun e=>e▸⟨x,rfl,r.2⟩) (q.2.2 p)⟩
theorem joinTx_length (sep:Tx)(ts:List Tx):(joinTx sep ts).length<=(ts.map List.length).sum+ts.length*sep.length:=by
 induction ts with
 | nil=>exact Nat.zero_le _
 | cons x r ih=>
  rw [List.map_cons,List.sum_cons,List.length_cons,Nat.succ_mul];cases r with
  | nil=>exact Af x.length _
  | cons y r=>
   show (x++sep++joinTx sep (y::r)).length<=_;rw [Ac,Ac,Nat.add_assoc,Nat.add_assoc];refine Ak (Aa (Ak ih _) (Nat.le_of_eq ?_)) _;rw [Nat.add_comm,Nat.add_assoc]
theorem replS_length (a b x:Tx)(k:Nat):(replS a b k x).length<=x.length+x.length*b.length:=by
 induction x generalizing k with
 | nil=>exact Nat.zero_le _
 | cons c l ih=>
  rw [List.length_cons,Nat.succ_mul];cases k with
  | succ k=>exact Aa (ih k) (Aq (Nat.le_succ _) (Af ..))
  | zero=>
   show (match pre a (c::l) with | true=>b++replS a b (a.length-1) l | false=>c::replS a b 0 l:Tx).length<=_
   cases pre a (c::l) with
   | true=>
    show (b++replS a b (a.length-1) l).length<=_;rw [Ac,← Nat.add_assoc,Nat.add_comm];exact Al (Aa (ih _) (Al (Nat.le_succ _) _)) _
   | false=>
    show (replS a b 0 l).length+1<=_;rw [Aw];exact Au (Aa (ih 0) (Ak (Af _ _) _))
theorem repl_sound {x y z:Tx}{v vy vz:Value}(h1:y≠[])(h2:y≠z)(h3:x.length+(x.length+1)*z.length<=lid)(q:Q (.str (replTx y z x)) J)(S:c.S Y e J s)(r:c.V s.heap Y (.str x) v)(ry:c.V s.heap Y (.str y) vy)(rz:c.V s.heap Y (.str z) vz)(H:OkV c e s Y Q QC) :
  wpAny c.M A (call (.builtin "str.replace") [v,vy,vz]) QC EC s:=by
 have hll:=lid_line;have hlid:lid=1000000:=rfl;obtain ⟨t,rfl,hx⟩:=r; obtain ⟨u,rfl,hy⟩:=ry; obtain ⟨w,rfl,hw⟩:=rz;have huw:u≠w:=fun e=>by subst e; have:=hy.2.2; rw [hw.2.2] at this; exact h2 (Ag this).symm
 have hyz:(sOf y==sOf z)=false:=by
  rw [sOf_beq];cases q:txEq y z with
  | false=>rfl
  | true=>exact absurd (txEq_iff.mp q) h2
 have hl:tooLong ((sOf x).length+(occurrences (sOf x) (sOf y) 0 (sOf x).length ((sOf x).length+1)).length*(sOf z).length)=false:=by
  have h4:=StrLaws.occ_length_le (sOf x) (sOf y) 0 (sOf x).length ((sOf x).length+1);have h5:(occurrences (sOf x) (sOf y) 0 (sOf x).length ((sOf x).length+1)).length*(sOf z).length<=((sOf x).length+1)*(sOf z).length:=Nat.mul_le_mul_right _ h4;rw [sOf_length,sOf_length] at *;unfold tooLong;exact decide_eq_false (by lia)
 have key:=repl_tx x y z h1;have hzr:(replTx y z x).length<=lid:=by
  have:(replTx y z x).length<=_:=replS_length y z x 0;rw [Nat.add_mul,Nat.one_mul] at h3;lia
 refine call_gives F.slot_str_replace (typeIs_str _ _ _) F.entry_str_replace (F.args_str_replace_3 _ _ _)
  (gives_str_replace (sOf x) (sOf y) (sOf z) t u w fun _=>⟨by simp [hy.2.1,hw.2.1],by simp [huw],hyz,hl⟩) ?_
 unfold Txt.replace at key;split
 ·rename_i hc
  rw [if_pos hc] at key;rw [← sOf_inj key] at q;exact H.now' S (rv_str hx) q
 ·rename_i hc
  rw [if_neg hc] at key;rw [key];exact ⟨Aa hzr hll,H.str S hzr q⟩
theorem join_sound {sep:Tx}{r':Nat}{l:List AV}{ts:List Tx}{v vl:Value}(h1:J[r']?=some (.list l))(h2:txsOf l=some ts)(h3:(ts.map List.length).sum+ts.length*sep.length<=lid)(q:Q (.str (joinTx sep ts)) J)(S:c.S Y e J s)(r:c.V s.heap Y (.str sep) v)(rl:c.V s.heap Y (.obj r') vl)(H:OkV c e s Y Q QC) :
  wpAny c.M A (call (.builtin "str.join") [v,vl]) QC EC s:=by
 have hll:=lid_line;obtain ⟨p,items,n,rfl,hp,ho,rs',_⟩:=Cx.S.list_at S h1 rl;obtain ⟨t,rfl,_⟩:=r;obtain ⟨k,ek,hk,htk⟩:=txs_vals h2 rs';have hI:s.heap.IsList p (strValues k).toArray:=by
  rw [← ek]; exact ho.isList
 have hfit:tooLong ((k.map (·.1)).toArray.foldl (·+·.length+(sOf sep).length) 0)=false:=by
  rw [hk,StrLaws.joinTotal,List.map_map,Ah,show ts.map (Str.length ∘ sOf)=ts.map List.length from List.map_congr_left fun x _=>sOf_length x];unfold tooLong;exact decide_eq_false (Nat.not_lt.mpr (Aa h3 hll))
 have hjl:=Aa (joinTx_length sep ts) h3;refine call_meets F.slot_str_join (typeIs_str _ _ _) F.entry_str_join (F.args_str_join_2 _ _) (meets_str_join_list (sOf sep) t p k hfit) ⟨hI,?_⟩;have oth:(Made.str (glued (sOf sep) (k.map (·.1)))).post (fun v s'=>QC v s') s:=by
  rw [hk,StrLaws.glued_eq_join,join_tx];exact ⟨Aa hjl hll,H.str S hjl q⟩
 cases k with
 | nil=>exact oth
 | cons pq k=>
  cases k with
  | cons _ _=>exact oth
  | nil=>
   obtain ⟨x,e1,hz⟩:=htk pq (List.mem_cons_self ..);cases ts with
   | nil=>cases hk
   | cons y ts=>
    cases ts with
    | cons _ _=>cases (List.cons.inj hk).2
    | nil=>
     cases sOf_inj (e1.symm.trans (List.cons.inj hk).1);show QC (.str pq.1 pq.2) s;rw [e1];exact H.now' S (rv_str hz) q
theorem one_el {base h:Heap}{a:AV}{v:Value}{P:Nat->Prop}(p:strW a fun x=>oneW x P)(r:RV base h Y a v)(G:Value->Prop)(k:∀ c t,P c->G (.str (sOf [c]) t)):G v:=
 str_el p r G fun x t _ p=>by
  obtain ⟨c,rfl,p⟩:=oneW_i p;exact k c t p
theorem asc_el {base h:Heap}{a:AV}{v:Value}{P:Nat->Prop}(p:strW a fun x=>oneW x fun c=>grdW (Nat.blt c 128) (P c))(r:RV base h Y a v)(G:Value->Prop)(k:∀ c t,c<128->P c->G (.str (sOf [c]) t)):G v:=
 one_el p r G fun c t p=>k c t (Ad (grdW_i p).1) (grdW_i p).2
theorem bm0_sound {m:Bm}{a:AV}{v:Value}(h:bm0W m a J Q)(S:c.S Y e J s)(r:c.V s.heap Y a v)(H:OkV c e s Y Q QC) :
  wpAny c.M A (call (.builtin (bmId m)) [v]) QC EC s:=by
 cases m with
 | pop=>
  refine obj_el h r fun r' r h=>?_;obtain ⟨l',h1,l,x,rfl,q⟩:=lstO_i h;exact pop_sound h1 q S r H
 | isascii=>exact one_el h r (fun v=>wpAny c.M A (call (.builtin "str.isascii") [v]) QC EC s) fun k t h=>SC.isascii (H.now' S (by rw [isascii_one]; exact rv_bool) h)
 | isalpha=>exact asc_el h r (fun v=>wpAny c.M A (call (.builtin "str.isalpha") [v]) QC EC s) fun k t hk h=>SC.isalpha (H.now' S (by rw [isalpha_one hk]; exact rv_bool) h)
 | isalnum=>exact asc_el h r (fun v=>wpAny c.M A (call (.builtin "str.isalnum") [v]) QC EC s) fun k t hk h=>SC.isalnum (H.now' S (by rw [isalnum_one hk]; exact rv_bool) h)
 | isdigit=>exact asc_el h r (fun v=>wpAny c.M A (call (.builtin "str.isdigit") [v]) QC EC s) fun k t hk h=>SC.isdigit (H.now' S (by rw [isdigit_one hk]; exact rv_bool) h)
 | lower=>
  refine str_el h r (fun v=>wpAny c.M A (call (.builtin "str.lower") [v]) QC EC s) fun x t hz h=>?_
  have hz':(x.map lowC).length<=lid:=by rw [Ah]; exact hz.1
  refine SC.lower ?_ ?_
  ·rw [lower_tx h.1];unfold Builtin.Str.tooLong;exact decide_eq_false (Nat.not_lt.mpr (Aa hz' lid_line))
  ·rw [lower_tx h.1];exact H.str S hz' h.2
 | _=>exact h.elim
theorem bm1_sound {m:Bm}{a x:AV}{v vx:Value}(h:bm1W m a x J Q)(S:c.S Y e J s)(r:c.V s.heap Y a v)(rx:c.V s.heap Y x vx)(H:OkV c e s Y Q QC) :
  wpAny c.M A (call (.builtin (bmId m)) [v,vx]) QC EC s:=by
 cases m with
 | append=>
  refine obj_el h r fun r' r h=>?_;obtain ⟨l,h1,hz,q⟩:=lstO_i h;exact append_sound h1 hz q S r rx H
 | join=>
  obtain ⟨sep,rfl,h⟩:=strW_i h;refine obj_el h rx fun r' rx h=>?_;obtain ⟨l,h1,ts,h2,h3,q⟩:=lstO_i h;exact join_sound h1 h2 h3 q S r rx H
 | _=>exact h.elim
theorem bm2_sound {m:Bm}{a x y:AV}{v vx vy:Value}(h:bm2W m a x y J Q)(S:c.S Y e J s)(r:c.V s.heap Y a v)(rx:c.V s.heap Y x vx)(ry:c.V s.heap Y y vy)(H:OkV c e s Y Q QC) :
  wpAny c.M A (call (.builtin (bmId m)) [v,vx,vy]) QC EC s:=by
 cases m with
 | find=>
  refine str_el h r (fun v=>wpAny c.M A (call (.builtin "str.find") [v,vx,vy]) QC EC s) fun x t _ h=>one_el h rx (fun vx=>wpAny c.M A (call (.builtin "str.find") [_,vx,vy]) QC EC s) fun k u h=>int_el h ry (fun vy=>wpAny c.M A (call (.builtin "str.find") [_,_,vy]) QC EC s) fun i w h=>SC.find3 ?_
  rw [find_tx h.1 h.2.1];exact H.now S rv_int h.2.2 (Nat.le_succ _)
 | replace=>
  obtain ⟨x,rfl,h⟩:=strW_i h;obtain ⟨y,rfl,h⟩:=strW_i h;obtain ⟨z,rfl,h1,h2,h3,q⟩:=strW_i h;exact repl_sound h1 h2 h3 q S r rx ry H
 | _=>exact h.elim
theorem bm_sound {m:Bm}{a:AV}{as:List AV}{v:Value}{vs:List Value}(h:bmW m a as J Q)(S:c.S Y e J s)(r:c.V s.heap Y a v)(rs:RVs c.base s.heap Y as vs)(H:OkV c e s Y Q QC) :
  wpAny c.M A (call (.builtin (bmId m)) (v::vs)) QC EC s:=by
 cases as with
 | nil=>cases (rs:vs=[]); exact bm0_sound h S r H
 | cons x as=>
 obtain ⟨vx,vs,rfl,rx,rs⟩:=rs;cases as with
 | nil=>cases (rs:vs=[]); exact bm1_sound h S r rx H
 | cons y as=>
 obtain ⟨vy,vs,rfl,ry,rs⟩:=rs;cases as with
 | nil=>cases (rs:vs=[]); exact bm2_sound h S r rx ry H
 | cons _ _=>exact h.elim
end
open PySem PySem.Calls PyProof.Rows PySem.SeqAt PySem.W
structure ClsOk (K:Frag)(C:Addr):Prop where
 dict:hasDictIn K C=true
 get:plainGet K C ""=true
 set:findIn K (.ref C) "__setattr__"=some (some (.builtin "object.__setattr__"))
 over:plainOver K C=true
 no:∀ x:At,findIn K (.ref C) (atName x)=some none
structure CxOk (c:Cx):Prop where
 K:c.K.In c.base
 cls:∀ i C,c.cls i=some C->ClsOk c.K C
 sys:(c.base.get? sysModules).isSome=true
 lim:c.base.NoLimit
theorem atName_inj:∀ x y:At,atName x=atName y->x=y:=by
 intro x y h;cases x<;>cases y<;>first | rfl | (exact absurd h (by decide +kernel))
theorem isStr_at {x y:At}{t:Tok}:Value.isStr (.str (atName y) t) (atName x)=decide (y=x):=by
 show (atName y==atName x)=_;rw [Bool.eq_iff_iff];simp only [beq_iff_eq,decide_eq_true_eq];exact ⟨fun q=>atName_inj _ _ q,fun q=>by rw [q]⟩
theorem putF_cons (x:At)(a:AV)(p:At×AV)(fs:List (At×AV)):putF x a (p::fs)=if p.1=x then (p.1,a)::fs else p::putF x a fs:=rfl
section
variable {base h:Heap}{Y:Rho}
theorem FRs.nl {P:List DictEntry->Prop}{l:List DictEntry}(q:FRs base h Y [] l)(k:P []):P l:=by cases (show l=[] from q); exact k
theorem FRs.el {P:List DictEntry->Prop}{p:At×AV}{fs:List (At×AV)}{l:List DictEntry}(q:FRs base h Y (p::fs) l)(k:∀ en es t,en.key=.str (atName p.1) t->RV base h Y p.2 en.val->FRs base h Y fs es->P (en::es)):P l:=by
 obtain ⟨en,es,rfl,⟨t,h1⟩,h2,h3⟩:=q;exact k en es t h1 h2 h3
theorem FRs.noref {fs:List (At×AV)}{es:List DictEntry}(q:FRs base h Y fs es):es.any (·.refKey)=false:=by
 induction fs generalizing es with
 | nil=>exact q.nl (P:=fun es=>es.any (·.refKey)=false) rfl
 | cons p fs ih=>
  refine q.el (P:=fun es=>es.any (·.refKey)=false) fun en es t h1 _ h3=>?_;rw [List.any_cons,ih h3,Bool.or_false];unfold DictEntry.refKey;rw [h1]
theorem getL_cons {name:Str}{en:DictEntry}{es:List DictEntry}{y:Str}{t:Tok}(hy:en.key=.str y t)(hn:(y==name)=false)(hr:es.any (·.refKey)=false):getL name (en::es)=getL name es:=by
 unfold getL;rw [List.find?_cons,show en.key.isStr name=false by rw [hy]; exact hn,List.any_cons,hr,show en.refKey=false by unfold DictEntry.refKey; rw [hy]];rfl
def FkAt (base h:Heap)(Y:Rho)(o:Option AV)(m:Option (Option Value)):Prop:=match o with
 | some a=>∃ v,m=some (some v)∧RV base h Y a v
 | none=>m=some none
theorem FRs.look (x:At){fs:List (At×AV)}{es:List DictEntry}(q:FRs base h Y fs es):FkAt base h Y (fs.lookup x) (getL (atName x) es):=by
 induction fs generalizing es with
 | nil=>exact q.nl (P:=fun es=>getL (atName x) es=some none) rfl
 | cons p fs ih=>
  refine q.el (P:=fun es=>FkAt base h Y ((p::fs).lookup x) (getL (atName x) es)) fun en es t h1 h2 h3=>?_;rw [List.lookup_cons];by_cases hxy:x=p.1
  ·rw [← hxy,beq_self_eq_true];refine ⟨en.val,?_,h2⟩;unfold getL;rw [List.find?_cons,h1,isStr_at,decide_eq_true hxy.symm]
  ·rw [beq_eq_false_iff_ne.mpr hxy,getL_cons h1 (beq_eq_false_iff_ne.mpr fun q=>hxy (atName_inj _ _ q).symm) h3.noref];exact ih h3
theorem FRs.other {name:Str}(hn:∀ x:At,atName x≠name){fs:List (At×AV)}{es:List DictEntry}(q:FRs base h Y fs es):getL name es=some none:=by
 induction fs generalizing es with
 | nil=>exact q.nl (P:=fun es=>getL name es=some none) rfl
 | cons p fs ih=>exact q.el (P:=fun es=>getL name es=some none) fun en es t h1 h2 h3=>(getL_cons h1 (beq_eq_false_iff_ne.mpr (hn p.1)) h3.noref).trans (ih h3)
theorem FRs.put (x:At){hsh:Int}{tk:Tok}{a:AV}{v:Value}(hv:RV base h Y a v){fs:List (At×AV)}{es:List DictEntry}(q:FRs base h Y fs es):FRs base h Y (putF x a fs) (putL (atName x) hsh (.str (atName x) tk) v es):=by
 induction fs generalizing es with
 | nil=>exact q.nl (P:=fun es=>FRs base h Y [(x,a)] (putL (atName x) hsh (.str (atName x) tk) v es)) ⟨_,[],rfl,⟨tk,rfl⟩,hv,rfl⟩
 | cons p fs ih=>
  refine q.el (P:=fun es=>FRs base h Y (putF x a (p::fs)) (putL (atName x) hsh (.str (atName x) tk) v es)) fun en es t h1 h2 h3=>?_;have hk:en.key.isStr (atName x)=decide (p.1=x):=by rw [h1]; exact isStr_at
  unfold putL;rw [hk,putF_cons];by_cases hxy:p.1=x
  ·rw [if_pos hxy,if_pos (decide_eq_true hxy)];exact ⟨_,_,rfl,⟨t,h1⟩,hv,h3⟩
  ·rw [if_neg hxy,if_neg (by rw [decide_eq_false hxy]; exact Bool.false_ne_true)];exact ⟨en,_,rfl,⟨t,h1⟩,h2,ih h3⟩
theorem FRs.length {fs:List (At×AV)}{es:List DictEntry}(q:FRs base h Y fs es):fs.length=es.length:=by
 induction fs generalizing es with
 | nil=>exact q.nl (P:=fun es=>0=es.length) rfl
 | cons p fs ih=>exact q.el (P:=fun es=>fs.length+1=es.length) fun _ _ _ _ _ h3=>congrArg Nat.succ (ih h3)
end
theorem putF_mem (x:At)(a:AV){fs:List (At×AV)}{y:At}(h:y∈(putF x a fs).map (·.1)):y=x∨y∈fs.map (·.1):=by
 induction fs with
 | nil=>exact .inl (List.mem_singleton.mp h)
 | cons p fs ih=>
  rw [putF_cons] at h;by_cases hz:p.1=x
  ·rw [if_pos hz] at h; exact .inr h
  ·rw [if_neg hz] at h;exact (List.mem_cons.mp h).elim (fun h=>.inr (h▸List.mem_cons_self ..)) fun h=>(ih h).imp id (List.mem_cons_of_mem _)
theorem putF_nodup {x:At}{a:AV}{fs:List (At×AV)}(nd:(fs.map (·.1)).Nodup):((putF x a fs).map (·.1)).Nodup:=by
 induction fs with
 | nil=>exact List.nodup_cons.mpr ⟨List.not_mem_nil,List.nodup_nil⟩
 | cons p fs ih=>
  have h:=List.nodup_cons.mp nd;rw [putF_cons];by_cases hz:p.1=x
  ·rw [if_pos hz]; exact nd
  ·rw [if_neg hz];exact List.nodup_cons.mpr ⟨fun q=>(putF_mem x a q).elim hz h.1,ih h.2⟩
theorem at_le {l:List At}(nd:l.Nodup):l.length<=3:=by
 have:l ⊆ [At.ts,At.pos,At.code]:=fun x _=>by cases x<;>decide
 exact (List.Nodup.length_le_of_subset nd this)
section
variable {c:Cx}{e:Ev}{s:Shared}{Y:Rho}{J:Store}{Q:QV}{X:QX}{QC EC:Value->Shared->Prop}{UC:Unit->Shared->Prop}{A:Around}
theorem handed_rv {base h:Heap}{a:AV}{v:Value}(hn:noStat a=true)(r:RV base h Y a v):handedIn v=true:=by
 cases a with
 | none=>cases (r:v=.none); rfl
 | bool b=>cases (r:v=.bool b); rfl
 | int i=>obtain ⟨_,rfl⟩:=r; rfl
 | stat _=>cases hn
 | str _=>obtain ⟨_,rfl,_⟩:=r; rfl
 | obj _=>obtain ⟨_,rfl,_⟩:=r; rfl
 | rng _ _ _=>obtain ⟨_,rfl,_⟩:=r; rfl
 | _=>obtain ⟨_,_,rfl,_⟩:=r; rfl
theorem Cx.S.inst_at {r k:Nat}{fs:List (At×AV)}{v:Value}(S:c.S Y e J s)(hr:J[r]?=some (.inst k fs))(hv:c.V s.heap Y (.obj r) v) :
  ∃ p dx C sl es n,v=.ref p∧Y.l[r]?=some (p,some dx)∧c.cls k=some C∧s.heap.get? dx=some (dictOf es n)∧InstAt s.heap p ⟨.ref C,some dx,.plain,sl⟩ C (some (dictOf es n))∧FRs c.base s.heap Y fs es∧(fs.map (·.1)).Nodup:=by
 obtain ⟨⟨p,d⟩,rfl,hp⟩:=hv;obtain ⟨dx,C,sl,es,n,e1,e2,h1,h2,fr,nd⟩:=S.sim.obj r _ _ hp hr;cases (e1:d=some dx);exact ⟨p,dx,C,sl,es,n,rfl,hp,e2,h2,⟨h1,rfl,rfl,h2⟩,fr,nd⟩
theorem attr_sound {a:AV}{x:At}{va:Value}{expr:Bool}(O:CxOk c)(h:attrW a x J fun v=>Q v J)(S:c.S Y e J s)(ra:c.V s.heap Y a va)(H:OkV c e s Y Q QC) :
  wpAny c.M A (getAttr va (atName x) expr) QC EC s:=by
  unfold attrW at h;obtain ⟨r,k,fs,v,rfl,h1,hv,hs,q⟩:=h;obtain ⟨p,dx,C,sl,es,n,rfl,hp,hC,hd,I,fr,nd⟩:=Cx.S.inst_at S h1 ra;have ok:=O.cls _ _ hC;have fl:=fr.look x;rw [hv] at fl;obtain ⟨u,hu,ru⟩:=fl;exact get_value (O.K.keeps S.stays) I (plainGet_of ok.get).1 (findObj_own ok.dict (ok.no x) rfl hu) (handed_rv hs ru) (H.now S ru q (Nat.le_succ _))
theorem setAttr_sound {a y:AV}{x:At}{va vy:Value}(O:CxOk c)(h:setAttrW a x y J X)(S:c.S Y e J s)(ra:c.V s.heap Y a va)(ry:c.V s.heap Y y vy)(H:OkU c e s Y X UC) :
  wpAny c.M A (setAttr va (atName x) vy) UC EC s:=by
  unfold setAttrW at h;obtain ⟨r,k,fs,rfl,h1,q⟩:=h;obtain ⟨p,dx,C,sl,es,n,rfl,hp,hC,hd,I,fr,nd⟩:=Cx.S.inst_at S h1 ra;have ok:=O.cls _ _ hC;have X':c.K.In s.heap:=O.K.keeps S.stays;have ht:takerIn c.K C (atName x)=some none:=by unfold takerIn; rw [ok.no x]; rfl
  refine set_plain X' I ok.set (osa_open (s:={ s with toks:=s.toks+1 }) X' I ok.over ht fun b=>?_);obtain ⟨cd,hc,hd'⟩:=any_some ok.dict;have hx:=I.at_;generalize hg:Obj.putName (atName x) (PyData.keyHash c.w.params (atName x)) (.str (atName x) (s.toks+1)) vy=g;have hgd:g (dictOf es n)=dictOf (putL (atName x) (PyData.keyHash c.w.params (atName x)) (.str (atName x) (s.toks+1)) vy es) (putN (atName x) es n):=by rw [← hg]; exact putName_dict ..
  have hnew:(s.heap.update dx g).get? dx=some (dictOf (putL (atName x) (PyData.keyHash c.w.params (atName x)) (.str (atName x) (s.toks+1)) vy es) (putN (atName x) es n)):=by
   rw [Heap.get?_update_self g hd (by rw [hgd]; rfl),hgd]
  have hmem:dx∈pAs (p,some dx):=dx_mem rfl;have hpd:p≠dx:=by
   intro q;exact (List.nodup_cons.mp (S.sim.own2 r _ hp)).1 (q▸List.mem_singleton.mpr rfl)
  have hpx:(s.heap.update dx g).get? p=some ⟨.ref C,some dx,.plain,sl⟩:=by
   rw [Heap.get?_update_other _ _ (Ne.symm hpd)]; exact I.at_
  have hput:=fr.put x (hsh:=PyData.keyHash c.w.params (atName x)) (tk:=s.toks+1) ry;have hPm:Stp c.F nope Y s.heap Y (s.heap.update dx g):=by
   obtain ⟨oa,hoa,hi⟩:=S.sim.lt (mem_muts hp hmem);exact Stp.upd (Heap.SameBut.update ..) ⟨_,hnew⟩ hoa hi (mem_muts hp hmem)
  have S2:=S.toSt.upd (h':=s.heap.update dx g) (o:=.inst k (putF x y fs)) hp hmem (Heap.SameBut.update ..) ⟨_,hnew⟩
   ⟨dx,C,sl,_,_,rfl,hC,hpx,hnew,hput.mono hPm.imm (Rho.Le.refl _),putF_nodup nd⟩
  have fin:UC () { s with heap:=s.heap.update dx g,toks:=s.toks+1+1 }:=
   H _ Y _ ⟨rfl,rfl,rfl,Aa (Nat.le_succ _) (Nat.le_succ _)⟩ hPm ((S.le (Aa (Nat.le_succ _) (Nat.le_succ _))).heap S2.2) q
  refine wpAny_bind (wpAny_pure (wpAny_bind (wpAny_bind (wpAny_loadPart hx (wpAny_bind (Looks.here (s:={ s with toks:=s.toks+1 }) (looks_clsIn X' hc) ?_))))));rw [hd'];refine wpAny_pure (a:=some dx) (wpAny_bind (wpAny_pure (wpAny_bind ?_)));unfold nsSet;refine wpAny_bind (wpAny_bind (wpAny_askSetting (wpAny_pure (wpAny_bind (wpAny_mkText (wpAny_bind (wpAny_loadPart hd ?_)))))))
  dsimp only
  have cc:(!es.toArray.any (·.key.isStr (atName x))&&es.toArray.any (·.refKey))=false:=by
   rw [← Array.any_toList (as:=es.toArray) (p:=(·.refKey))];rw [fr.noref,Bool.and_false]
  rw [aRefKeyMayBeTheName_at,cc];have hlen:(putL (atName x) (PyData.keyHash c.w.params (atName x)) (.str (atName x) (s.toks+1)) vy es).length<=3:=by
   rw [← hput.length,← Ah (·.1)];exact at_le (putF_nodup (x:=x) (a:=y) nd)
  refine wpAny_updatePart hd ?_;have hg':Obj.putName (atName x) (if (atName x).cps.isEmpty=true then 0 else reduceHash ((model c.prog c.w).w.params.strHash (atName x).cps)) (.str (atName x) (s.toks+1)) vy=g:=hg
  rw [hg'];refine wpAny_bind (wpAny_lookBehind hnew (pastItsLine_dict (Aa hlen (by rw [sizeLine_eq]; decide))) ?_);exact wpAny_pure fin
end
open PySem PySem.Calls PyProof.Rows PySem.SeqAt PySem.W
noncomputable def biName:Bi->Str
 | .len=>"len" | .str=>"str" | .int=>"int" | .abs=>"abs" | .range=>"range"
 | .min=>"min" | .max=>"max" | .sum=>"sum" | .tuple=>"tuple" | .type=>"type"
structure Nm where
 gn:Nat->Option Str
 fn:Nat->Option Str
 cn:Nat->Option Str
 fa:Nat->Option Addr
 pl:Nat->Bool
structure NmOk (c:Cx)(T:Stat)(N:Nm)(mg mb:Str->Option Value):Prop where
 g:c.base.Ns mainGlobals mg
 b:c.base.Ns builtinsNs mb
 glob:∀ i x a,N.gn i=some x->T.glob i=some a->∃ v,(mg x=some v∨(mg x=none∧mb x=some v))∧
  ∀ h Y,(∀ t y,c.tk0 t=some y->Y.tk t=some y)->c.base.StaysIn h->RV c.base h Y a v
 fn:∀ k x,N.fn k=some x->T.clsOf k=none->∃ a o fd,N.fa k=some a∧mg x=some (.ref a)∧c.base.get? a=some o∧o.data=.func fd
 meth:∀ k x i C,N.fn k=some x->T.clsOf k=some i->c.cls i=some C->∃ a,N.fa k=some a∧findIn c.K (.ref C) x=some (some (.ref a))∧
  typeIn c.K (.ref a)=some (.type "function")∧keepIn c.K (.ref a)=true∧∀ y,atName y≠x
 cls:∀ i x,N.cn i=some x->∃ C,c.cls i=some C∧mg x=some (.ref C)∧makesIn c.K C=true∧keepIn c.K (.ref C)=true∧
  ∀ k,T.init i=some k->∃ a,N.fa k=some a∧findIn c.K (.ref C) "__init__"=some (some (.ref a))∧typeIn c.K (.ref a)=some (.type "function")
 bi:∀ b,mg (biName b)=none∧mb (biName b)=some (biVal b)
 pl:∀ k,N.pl k=true->T.clsOf k=none
 ve:mg "ValueError"=none∧mb "ValueError"=some (.type "ValueError")
 enum:mg "enumerate"=none∧mb "enumerate"=some (.type "enumerate")
structure AOk (c:Cx)(d u:Nat)(A:Around):Prop where
 frs:A.frames=some (c.f.env::c.outer)
 hand:A.handled=none
 depth:A.depth<=d
 units:A.units<=u
def CallsOk (c:Cx)(C:Calls)(fa:Nat->Option Addr)(d u:Nat):Prop:=
 ∀ k vs J Q X,C k vs J Q X->∃ a,fa k=some a∧∀ A e s Y vals R,AOk c d u A->c.S Y e J s->RVs c.base s.heap Y vs vals->
  OkV c e s Y Q (fun v s'=>R (.ok (.ret v)) s')->OkX c e s Y X (fun x s'=>R (.error x) s')->codeAny c.M A (.call (.ref a) ⟨vals,[]⟩) R s
def OkT (c:Cx)(e:Ev)(s:Shared)(Y:Rho)(Q:QV)(QT:Bool->Shared->Prop):Prop:=
 ∀ v s' Y' J',Same s s'->c.P Y s.heap Y' s'.heap->c.S Y' e J' s'->Q v J'->∃ b,v=.bool b∧QT b s'
theorem ifW_i {v:AV}{A B:Prop}(h:ifW v A B):(v=.bool true∧A)∨(v=.bool false∧B):=by
 cases v with
 | bool b=>cases b with
  | true=>exact .inl ⟨rfl,h⟩
  | false=>exact .inr ⟨rfl,h⟩
 | _=>exact h.elim
def OkVs (c:Cx)(e:Ev)(s:Shared)(Y:Rho)(Q:List AV->Store->Prop)(QC:List Value->Shared->Prop):Prop:=
 ∀ vs s' Y' as J',Same s s'->c.P Y s.heap Y' s'.heap->c.S Y' e J' s'->RVs c.base s'.heap Y' as vs->Q as J'->QC vs s'
section
variable {c:Cx}{e:Ev}{s s₁:Shared}{Y Y₁:Rho}{X:QX}{EC:Value->Shared->Prop}
theorem OkT.pre {Q:QV}{QT:Bool->Shared->Prop}(H:OkT c e s Y Q QT)(hs:Same s s₁)(P:c.P Y s.heap Y₁ s₁.heap):OkT c e s₁ Y₁ Q QT:=
 fun v s' Y' J' hs' P' S' q=>H v s' Y' J' (hs.trans hs') (P.trans P') S' q
theorem OkT.get {s':Shared}{Y':Rho}{J:Store}{b:Bool}{Q:QV}{QT:Bool->Shared->Prop}(H:OkT c e s Y Q QT)(hs:Same s s')(P:c.P Y s.heap Y' s'.heap)(S:c.S Y' e J s')(q:Q (.bool b) J):QT b s':=by
 obtain ⟨b',hb,q⟩:=H _ s' Y' J hs P S q;cases hb; exact q
theorem OkT.now {J:Store}{b:Bool}{tk:Nat}{Q:QV}{QT:Bool->Shared->Prop}(H:OkT c e s Y Q QT)(S:c.S Y e J s)(q:Q (.bool b) J)(hn:s.toks<=tk):QT b { s with toks:=tk }:=H.get (s':={ s with toks:=tk }) ⟨rfl,rfl,rfl,hn⟩ Stp.refl (S.le hn) q
theorem OkVs.pre {Q:List AV->Store->Prop}{QT:List Value->Shared->Prop}(H:OkVs c e s Y Q QT)(hs:Same s s₁)(P:c.P Y s.heap Y₁ s₁.heap):OkVs c e s₁ Y₁ Q QT:=
 fun v s' Y' a J' hs' P' S' r q=>H v s' Y' a J' (hs.trans hs') (P.trans P') S' r q
theorem OkU.pre {Q:QX}{QT:Unit->Shared->Prop}(H:OkU c e s Y Q QT)(hs:Same s s₁)(P:c.P Y s.heap Y₁ s₁.heap):OkU c e s₁ Y₁ Q QT:=
 fun s' Y' J' hs' P' S' q=>H s' Y' J' (hs.trans hs') (P.trans P') S' q
end
section
variable (c:Cx)(T:Stat)(C:Calls)(d u:Nat)
def EvX (ir:E)(x:Expr):Prop:=∀ A e J s Y Q X QC EC,AOk c d u A->evW T C ir e J Q X->c.S Y e J s->OkV c e s Y Q QC->OkX c e s Y X EC->wpAny c.M A (eval x c.f.env) QC EC s
def TsX (ir:E)(x:Expr):Prop:=∀ A e J s Y Q X QT EC,AOk c d u A->evW T C ir e J Q X->c.S Y e J s->OkT c e s Y Q QT->OkX c e s Y X EC->wpAny c.M A (isTrue x c.f.env (eval x c.f.env)) QT EC s
def EvsX (ir:Es)(xs:List Expr):Prop:=∀ A p e J s Y Q X QC EC,AOk c d u A->evsW T C ir e J Q X->c.S Y e J s->OkVs c e s Y Q QC->OkX c e s Y X EC->wpAny c.M A (spliced (backTo p (starEach xs c.f.env))) QC EC s
def AllX (ir:Es)(xs:List Expr):Prop:=∀ A e J s Y Q X QT EC,AOk c d u A->allW T C ir e J Q X->c.S Y e J s->OkT c e s Y Q QT->OkX c e s Y X EC->wpAny c.M A (allTrue .And xs c.f.env) QT EC s
def AnyX (ir:Es)(xs:List Expr):Prop:=∀ A e J s Y Q X QT EC,AOk c d u A->anyW T C ir e J Q X->c.S Y e J s->OkT c e s Y Q QT->OkX c e s Y X EC->wpAny c.M A (allTrue .Or xs c.f.env) QT EC s
def AllV (ir:Es)(xs:List Expr):Prop:=∀ A p e J s Y Q X QC EC,AOk c d u A->allW T C ir e J Q X->c.S Y e J s->OkV c e s Y Q QC->OkX c e s Y X EC->wpAny c.M A (boolOp p .And (evalEach xs c.f.env)) QC EC s
def AnyV (ir:Es)(xs:List Expr):Prop:=∀ A p e J s Y Q X QC EC,AOk c d u A->anyW T C ir e J Q X->c.S Y e J s->OkV c e s Y Q QC->OkX c e s Y X EC->wpAny c.M A (boolOp p .Or (evalEach xs c.f.env)) QC EC s
def EvoX (ir:Eo)(x:Option Expr):Prop:=∀ A e J s Y Q X (QC:Value->Shared->Prop) EC,AOk c d u A->evoW T C ir e J Q X->c.S Y e J s->
 (∀ v s' Y' a J',Same s s'->c.P Y s.heap Y' s'.heap->c.S Y' e J' s'->PartV s'.heap Y' c.base a v->Q a J'->QC v s')->OkX c e s Y X EC->wpAny c.M A (valueOrNone (evalOpt x c.f.env)) QC EC s
end
section
variable {c:Cx}{T:Stat}{C:Calls}{d u:Nat}
theorem ts_dflt {ir:E}{x:Expr}(h:EvX c T C d u ir x)(hd:∀ env whole,isTrue x env whole=(do let v ← whole; standAt x.pos; holding [v] (truthy v))):TsX c T C d u ir x:=by
 intro A e J s Y Q X QT EC hA hw S H HX;rw [hd];refine wpAny_bind (h A e J s Y _ X _ EC hA hw S ?_ HX);intro v s' Y' a J' hs P S' r q;obtain ⟨b,rfl,q'⟩:=H a s' Y' J' hs P S' q;cases (r:v=.bool b);exact wpAny_bind (wpAny_standAt (wpAny_holding (wpAny_truthy_bool q')))
theorem ev_none {k:Nat}{p:Pos}:EvX c T C d u .none (.Constant .none k p):=fun A e J s Y Q X QC EC hA h S H HX=>by
 rw [eval_Constant]; exact wpAny_pure (H.now' S rv_none h)
theorem ev_bool {b:Bool}{k:Nat}{p:Pos}:EvX c T C d u (.bool b) (.Constant (.bool b) k p):=fun A e J s Y Q X QC EC hA h S H HX=>by
 rw [eval_Constant]; exact wpAny_pure (H.now' S rv_bool h)
theorem ev_int {i:Int}{k:Nat}{p:Pos}:EvX c T C d u (.int i) (.Constant (.int i) k p):=fun A e J s Y Q X QC EC hA h S H HX=>
 wpAny_Constant_int (H.now S rv_int h (Nat.le_succ _))
theorem ev_str {x:Tx}{y:Str}{k:Nat}{p:Pos}(hy:y=sOf x)(hz:x.length<=lid):EvX c T C d u (.str x) (.Constant (.str y) k p):=fun A e J s Y Q X QC EC hA h S H HX=>by
 subst hy;exact Constant_str (H.str S hz h)
theorem ev_v {i:Nat}{x:Str}{p:Pos}(V:VarsOk c.f c.vars)(hx:c.vars[i]?=some x):EvX c T C d u (.v i) (.Name x p):=fun A e J s Y Q X QC EC hA h S H HX=>by
 obtain ⟨a,ha,q⟩:=varW_i h;exact wpAny_Name (load_var V S.toSt hx ha fun v r=>H.now' S r q) (V.dbg x (List.mem_of_getElem? hx))
theorem ld_name {A:Around}{Y:Rho}{e:Ev}{J:Store}{s:Shared}{x:Str}{p:Pos}{v:Value}{mg mb:Str->Option Value}{QC EC:Value->Shared->Prop}(S:c.S Y e J s)
  (V:VarsOk c.f c.vars) (hk:c.f.env.kindOf x=some .globalImplicit∧(x==("__debug__" : Str))=false) (hg:c.base.Ns mainGlobals mg) (hb:c.base.Ns builtinsNs mb) (hv:mg x=some v∨(mg x=none∧mb x=some v)) (h:QC v s) :
  wpAny c.M A (eval (.Name x p) c.f.env) QC EC s:=by
 refine Name_function_global V.kind hk.1 ?_ hk.2;rcases hv with hv | ⟨hn,hv⟩
 ·exact loadGlobal_global (env:=c.f.env) (hg.keeps S.stays) hv h
 ·exact loadGlobal_builtin (env:=c.f.env) (hg.keeps S.stays) hn (hb.keeps S.stays) hv h
theorem ev_g {i:Nat} {x:Str} {p:Pos} {N:Nm} {mg mb:Str->Option Value} (O:NmOk c T N mg mb) (V:VarsOk c.f c.vars) (hx:N.gn i=some x) (hk:c.f.env.kindOf x=some .globalImplicit∧(x==("__debug__" : Str))=false) :
  EvX c T C d u (.g i) (.Name x p):=fun A e J s Y Q X QC EC hA h S H HX=>by
 obtain ⟨a,ha,q⟩:=optW_i h;obtain ⟨v,hv,rv⟩:=O.glob i x a hx ha;exact ld_name S V hk O.g O.b hv (H.now' S (rv s.heap Y S.ini S.stays) q)
theorem ev_bin {op:BOp}{a b:E}{l r:Expr}{p:Pos}(ha:EvX c T C d u a l)(hb:EvX c T C d u b r):EvX c T C d u (.bin op a b) (.BinOp l (opOf op) r p):=by
 intro A e J s Y Q X QC EC hA h S H HX;refine wpAny_BinOp (ha A e J s Y _ X _ EC hA h S ?_ HX);intro va s₁ Y₁ a1 J1 hs P S1 ra h₁;refine hb A e J1 s₁ Y₁ _ X _ EC hA h₁ S1 ?_ (HX.pre hs P);intro vb s2 Y2 b1 J2 hs2 P2 S2 rb h2;exact bin_sound h2 S2 (P2.rv ra) rb ((H.pre hs P).pre hs2 P2)
theorem ev_neg {a:E}{x:Expr}{p:Pos}(ha:EvX c T C d u a x):EvX c T C d u (.neg a) (.UnaryOp .USub x p):=by
 intro A e J s Y Q X QC EC hA h S H HX;rw [arm_eval_UnaryOp];refine wpAny_bind (ha A e J s Y _ X _ EC hA h S ?_ HX);intro va s₁ Y₁ a1 J1 hs P S1 ra h₁;obtain ⟨i,rfl,q⟩:=intW_i h₁;exact wpAny_bind (wpAny_standAt (wpAny_holding (neg_sound S1 ra q (H.pre hs P))))
theorem ts_not {a:E}{x:Expr}{p:Pos}(ha:TsX c T C d u a x):TsX c T C d u (.not a) (.UnaryOp .Not x p):=by
 intro A e J s Y Q X QT EC hA h S H HX;show wpAny c.M A (do return !(← isTrue x c.f.env (eval x c.f.env))) QT EC s;refine wpAny_bind (ha A e J s Y _ X _ EC hA h S ?_ HX);intro v s' Y' J' hs P S' q;obtain ⟨b,rfl,q⟩:=boolW_i q;have q':=H.get hs P S' q;exact ⟨b,rfl,wpAny_pure q'⟩
theorem ev_not {a:E}{x:Expr}{p:Pos}(ha:EvX c T C d u a x):EvX c T C d u (.not a) (.UnaryOp .Not x p):=by
 intro A e J s Y Q X QC EC hA h S H HX;rw [arm_eval_UnaryOp];refine wpAny_bind (ha A e J s Y _ X _ EC hA h S ?_ HX);intro va s₁ Y₁ a1 J1 hs P S1 ra h₁;obtain ⟨b,rfl,q⟩:=boolW_i h₁;cases (ra:va=.bool b);refine wpAny_bind (wpAny_standAt (wpAny_holding ?_));show wpAny c.M A (holding [Value.bool b] (do return Value.bool (!(← truthy (Value.bool b))))) _ _ _;exact wpAny_holding (wpAny_bind (wpAny_truthy_bool (wpAny_pure ((H.pre hs P).now' S1 rv_bool q))))
theorem ev_cmp {op:COp}{a b:E}{l r:Expr}{p:Pos}(hu:u+100<cLine)(O:CxOk c)(ha:EvX c T C d u a l)(hb:EvX c T C d u b r)(hm:behindInMarks (copOf op) r=false):EvX c T C d u (.cmp op a b) (.Compare l [copOf op] [r] p):=by
 intro A e J s Y Q X QC EC hA h S H HX;refine wpAny_Compare1 (ha A e J s Y _ X _ EC hA h S ?_ HX) hm;intro va s₁ Y₁ a1 J1 hs P S1 ra h₁;refine hb A e J1 s₁ Y₁ _ X _ EC hA h₁ S1 ?_ (HX.pre hs P);intro vb s2 Y2 b1 J2 hs2 P2 S2 rb h2;exact cmp_sound (Ao (Al hA.units _) hu) O.sys h2 S2 (P2.rv ra) rb fun r q tk hn=>((H.pre hs P).pre hs2 P2).now S2 rv_bool q hn
theorem ts_cmp {op:COp}{a b:E}{l r:Expr}{p:Pos}(hu:u+100<cLine)(O:CxOk c)(ha:EvX c T C d u a l)(hb:EvX c T C d u b r)(hm:behindInMarks (copOf op) r=false):TsX c T C d u (.cmp op a b) (.Compare l [copOf op] [r] p):=by
 intro A e J s Y Q X QT EC hA h S H HX;refine wpAny_isTrue_Compare1 (ha A e J s Y _ X _ EC hA h S ?_ HX) hm;intro va s₁ Y₁ a1 J1 hs P S1 ra h₁;refine hb A e J1 s₁ Y₁ _ X _ EC hA h₁ S1 ?_ (HX.pre hs P);intro vb s2 Y2 b1 J2 hs2 P2 S2 rb h2;refine cmp_sound (Ao (Al hA.units _) hu) O.sys h2 S2 (P2.rv ra) rb fun r q tk hn=>?_;exact wpAny_truthy_bool (((H.pre hs P).pre hs2 P2).now S2 q hn)
end
open PySem PySem.Calls PyProof.Rows PySem.SeqAt PySem.W
section
variable {c:Cx}{T:Stat}{C:Calls}{d u:Nat}
theorem ev_cmp2 {o1 o2:COp}{a b k:E}{l r r2:Expr}{p:Pos}(hu:u+100<cLine)(O:CxOk c)(ha:EvX c T C d u a l)(hb:EvX c T C d u b r)(hk:EvX c T C d u k r2)(hm:behindInMarks (copOf o2) r2=false) :
  EvX c T C d u (.cmp2 o1 o2 a b k) (.Compare l [copOf o1,copOf o2] [r,r2] p):=by
 intro A e J s Y Q X QC EC hA h S H HX;refine Compare_chain (ha A e J s Y _ X _ EC hA h S ?_ HX) hm;intro va s₁ Y₁ a1 J1 hs P S1 ra h₁;refine chain_link (hb A e J1 s₁ Y₁ _ X _ EC hA h₁ S1 ?_ (HX.pre hs P));intro vb s2 Y2 b1 J2 hs2 P2 S2 rb h2;refine cmp_sound (Ao (Al hA.units _) hu) O.sys h2 S2 (P2.rv ra) rb fun q hq tk hn=>?_;refine wpAny_truthy_bool ?_;have H2:=(H.pre hs P).pre hs2 P2;have X2:=(HX.pre hs P).pre hs2 P2;cases q with
 | false=>
  exact H2.now S2 rv_bool hq hn
 | true=>
  have hsn:Same s2 { s2 with toks:=tk }:=⟨rfl,rfl,rfl,hn⟩;refine chain_last (hk A e J2 _ Y2 _ X _ EC hA hq (S2.le hn) ?_ (X2.pre hsn Stp.refl));intro vc s3 Y3 c1 J3 hs3 P3 S3 rc h3;exact cmp_sound (Ao (Al hA.units _) hu) O.sys h3 S3 (P3.rv rb) rc fun r q tk hn=>((H2.pre hsn Stp.refl).pre hs3 P3).now S3 rv_bool q hn
theorem ts_cmp2 {o1 o2:COp}{a b k:E}{l r r2:Expr}{p:Pos}(hu:u+100<cLine)(O:CxOk c)(ha:EvX c T C d u a l)(hb:EvX c T C d u b r)(hk:EvX c T C d u k r2)(hm:behindInMarks (copOf o2) r2=false) :
  TsX c T C d u (.cmp2 o1 o2 a b k) (.Compare l [copOf o1,copOf o2] [r,r2] p):=by
 intro A e J s Y Q X QT EC hA h S H HX;refine isTrue_chain (ha A e J s Y _ X _ EC hA h S ?_ HX) hm;intro va s₁ Y₁ a1 J1 hs P S1 ra h₁;show wpAny c.M A (do
  let rv ← holding [va] (eval r c.f.env)
  standAt p
  let cv ← holding [va,rv] (compareOp (copOf o1) va rv)
  release [va,rv] [cv]
  if ← holding [cv,rv] (truthy cv) then testChain p rv [copOf o2] [eval r2 c.f.env] else pure false) QT EC s₁
 refine wpAny_bind (wpAny_holding (hb A e J1 s₁ Y₁ _ X _ EC hA h₁ S1 ?_ (HX.pre hs P)));intro vb s2 Y2 b1 J2 hs2 P2 S2 rb h2;refine wpAny_bind (wpAny_standAt (wpAny_bind (wpAny_holding ?_)));refine cmp_sound (Ao (Al hA.units _) hu) O.sys h2 S2 (P2.rv ra) rb fun q hq tk hn=>?_;refine wpAny_bind (wpAny_release' (wpAny_bind (wpAny_holding (wpAny_truthy_bool ?_))));have H2:=(H.pre hs P).pre hs2 P2;have X2:=(HX.pre hs P).pre hs2 P2;have hsn:Same s2 { s2 with toks:=tk }:=⟨rfl,rfl,rfl,hn⟩;cases q with
 | false=>
  exact wpAny_pure (H2.now S2 hq hn)
 | true=>
  show wpAny c.M A (do
   let rv ← holding [vb] (eval r2 c.f.env)
   standAt p
   let cv ← operate [vb,rv] (compareOp (copOf o2) vb rv)
   holding [cv] (truthy cv)) QT EC _
  refine wpAny_bind (wpAny_holding (hk A e J2 _ Y2 _ X _ EC hA hq (S2.le hn) ?_ (X2.pre hsn Stp.refl)));intro vc s3 Y3 c1 J3 hs3 P3 S3 rc h3;refine wpAny_bind (wpAny_standAt (wpAny_bind (wpAny_operate' ?_)));refine cmp_sound (Ao (Al hA.units _) hu) O.sys h3 S3 (P3.rv rb) rc fun r q tk hn=>?_;exact wpAny_holding (wpAny_truthy_bool (((H2.pre hsn Stp.refl).pre hs3 P3).now S3 q hn))
theorem all_one {a:E}{x:Expr}(ha:TsX c T C d u a x):AllX c T C d u (.cons a .nil) [x]:=by
 intro A e J s Y Q X QT EC hA h S H HX;refine wpAny_allTrue_And_cons (ha A e J s Y _ X _ EC hA h S ?_ HX);intro v s' Y' J' hs P S' q;obtain ⟨b,rfl,q⟩:=boolW_i q;have q':=H.get hs P S' q;cases b with
 | true=>exact ⟨_,rfl,wpAny_allTrue_And_nil q'⟩
 | false=>exact ⟨_,rfl,q'⟩
theorem any_one {a:E}{x:Expr}(ha:TsX c T C d u a x):AnyX c T C d u (.cons a .nil) [x]:=by
 intro A e J s Y Q X QT EC hA h S H HX;refine wpAny_allTrue_Or_cons (ha A e J s Y _ X _ EC hA h S ?_ HX);intro v s' Y' J' hs P S' q;obtain ⟨b,rfl,q⟩:=boolW_i q;have q':=H.get hs P S' q;cases b with
 | true=>exact ⟨_,rfl,q'⟩
 | false=>exact ⟨_,rfl,wpAny_allTrue_Or_nil q'⟩
theorem all_more {a b:E}{as:Es}{x y:Expr}{xs:List Expr}(ha:TsX c T C d u a x)(hs:AllX c T C d u (.cons b as) (y::xs)):AllX c T C d u (.cons a (.cons b as)) (x::y::xs):=by
 intro A e J s Y Q X QT EC hA h S H HX;refine wpAny_allTrue_And_cons (ha A e J s Y _ X _ EC hA h S ?_ HX);intro v s' Y' J' hss P S' q;rcases ifW_i q with ⟨rfl,q⟩ | ⟨rfl,q⟩
 ·exact ⟨_,rfl,hs A e J' s' Y' Q X QT EC hA q S' (H.pre hss P) (HX.pre hss P)⟩
 ·exact ⟨_,rfl,H.get hss P S' q⟩
theorem any_more {a b:E}{as:Es}{x y:Expr}{xs:List Expr}(ha:TsX c T C d u a x)(hs:AnyX c T C d u (.cons b as) (y::xs)):AnyX c T C d u (.cons a (.cons b as)) (x::y::xs):=by
 intro A e J s Y Q X QT EC hA h S H HX;refine wpAny_allTrue_Or_cons (ha A e J s Y _ X _ EC hA h S ?_ HX);intro v s' Y' J' hss P S' q;rcases ifW_i q with ⟨rfl,q⟩ | ⟨rfl,q⟩
 ·exact ⟨_,rfl,H.get hss P S' q⟩
 ·exact ⟨_,rfl,hs A e J' s' Y' Q X QT EC hA q S' (H.pre hss P) (HX.pre hss P)⟩
theorem allV_one {a:E}{x:Expr}(ha:EvX c T C d u a x):AllV c T C d u (.cons a .nil) [x]:=by
 intro A p e J s Y Q X QC EC hA h S H HX;refine ha A e J s Y _ X _ EC hA h S ?_ HX;intro v s' Y' a' J' hs P S' r q;obtain ⟨b,rfl,q⟩:=boolW_i q;exact H v s' Y' _ J' hs P S' r q
theorem anyV_one {a:E}{x:Expr}(ha:EvX c T C d u a x):AnyV c T C d u (.cons a .nil) [x]:=by
 intro A p e J s Y Q X QC EC hA h S H HX;refine ha A e J s Y _ X _ EC hA h S ?_ HX;intro v s' Y' a' J' hs P S' r q;obtain ⟨b,rfl,q⟩:=boolW_i q;exact H v s' Y' _ J' hs P S' r q
theorem allV_more {a b:E}{as:Es}{x y:Expr}{xs:List Expr}(ha:EvX c T C d u a x)(hs:AllV c T C d u (.cons b as) (y::xs)):AllV c T C d u (.cons a (.cons b as)) (x::y::xs):=by
 intro A p e J s Y Q X QC EC hA h S H HX;refine wpAny_bind (m:=eval x c.f.env) (ha A e J s Y _ X _ EC hA h S ?_ HX);intro v s' Y' a' J' hss P S' r q;rcases ifW_i q with ⟨rfl,q⟩ | ⟨rfl,q⟩
 ·cases (r:v=.bool true);exact wpAny_bind (wpAny_standAt (wpAny_bind (wpAny_holding (wpAny_truthy_bool (hs A p e J' s' Y' Q X QC EC hA q S' (H.pre hss P) (HX.pre hss P))))))
 ·cases (r:v=.bool false);exact wpAny_bind (wpAny_standAt (wpAny_bind (wpAny_holding (wpAny_truthy_bool (wpAny_pure ((H.pre hss P).now' S' rv_bool q))))))
theorem anyV_more {a b:E}{as:Es}{x y:Expr}{xs:List Expr}(ha:EvX c T C d u a x)(hs:AnyV c T C d u (.cons b as) (y::xs)):AnyV c T C d u (.cons a (.cons b as)) (x::y::xs):=by
 intro A p e J s Y Q X QC EC hA h S H HX;refine wpAny_bind (m:=eval x c.f.env) (ha A e J s Y _ X _ EC hA h S ?_ HX);intro v s' Y' a' J' hss P S' r q;rcases ifW_i q with ⟨rfl,q⟩ | ⟨rfl,q⟩
 ·cases (r:v=.bool true);exact wpAny_bind (wpAny_standAt (wpAny_bind (wpAny_holding (wpAny_truthy_bool (wpAny_pure ((H.pre hss P).now' S' rv_bool q))))))
 ·cases (r:v=.bool false);exact wpAny_bind (wpAny_standAt (wpAny_bind (wpAny_holding (wpAny_truthy_bool (hs A p e J' s' Y' Q X QC EC hA q S' (H.pre hss P) (HX.pre hss P))))))
theorem ev_ite {q a b:E}{x y z:Expr}{p:Pos}(hq:TsX c T C d u q x)(ha:EvX c T C d u a y)(hb:EvX c T C d u b z):EvX c T C d u (.ite q a b) (.IfExp x y z p):=by
 intro A e J s Y Q X QC EC hA h S H HX;refine wpAny_bind (m:=isTrue x c.f.env (eval x c.f.env)) (hq A e J s Y _ X _ EC hA h S ?_ HX);intro r s' Y' J' hs P S' q';rcases ifW_i q' with ⟨rfl,q'⟩ | ⟨rfl,q'⟩
 ·exact ⟨_,rfl,ha A e J' s' Y' Q X QC EC hA q' S' (H.pre hs P) (HX.pre hs P)⟩
 ·exact ⟨_,rfl,hb A e J' s' Y' Q X QC EC hA q' S' (H.pre hs P) (HX.pre hs P)⟩
theorem evs_nil:EvsX c T C d u .nil []:=fun A p e J s Y Q X QC EC hA h S H HX=>
 spliced_nil (H [] s Y [] J (Same.refl s) Stp.refl S (rfl:_=[]) h)
theorem evs_cons {a:E}{as:Es}{x:Expr}{xs:List Expr}(ha:EvX c T C d u a x)(hs:EvsX c T C d u as xs)(hx:∀ env rest,starEach (x::rest) env=(false,eval x env)::starEach rest env):EvsX c T C d u (.cons a as) (x::xs):=by
 intro A p e J s Y Q X QC EC hA h S H HX;rw [hx];show wpAny c.M A (spliced ((false,eval x c.f.env)::backTo p (starEach xs c.f.env))) QC EC s;refine spliced_cons (ha A e J s Y _ X _ EC hA h S ?_ HX);intro v s₁ Y₁ a1 J1 hs1 P1 S1 r1 h₁;refine hs A p e J1 s₁ Y₁ _ X _ EC hA h₁ S1 ?_ (HX.pre hs1 P1);intro vs s2 Y2 as2 J2 hs2 P2 S2 r2 h2;exact (H.pre hs1 P1) (v::vs) s2 Y2 (a1::as2) J2 hs2 P2 S2 ⟨_,_,rfl,P2.rv r1,r2⟩ h2
theorem evo_no:EvoX c T C d u .no none:=fun A e J s Y Q X QC EC hA h S H HX=>
 wpAny_pure (H .none s Y Option.none J (Same.refl s) Stp.refl S (rfl:_=_) h)
theorem evo_yes {a:E}{x:Expr}(ha:EvX c T C d u a x):EvoX c T C d u (.yes a) (some x):=by
 intro A e J s Y Q X QC EC hA h S H HX;refine ha A e J s Y _ X _ EC hA h S ?_ HX;intro v s' Y' a' J' hs P S' r q;exact H v s' Y' (some a') J' hs P S' r q
theorem ev_tuple {as:Es}{xs:List Expr}{k:Nat}{p:Pos}(hs:EvsX c T C d u as xs):EvX c T C d u (.tuple as) (.Tuple xs k p):=by
 intro A e J s Y Q X QC EC hA h S H HX;show wpAny c.M A (do standAt p; newTuple (← spliced (backTo p (starEach xs c.f.env)))) QC EC s;refine wpAny_bind (wpAny_standAt (wpAny_bind (hs A p e J s Y _ X _ EC hA h S ?_ HX)));intro vs s₁ Y₁ as1 J1 hs1 P1 S1 r1 h₁;obtain ⟨hz,h₁⟩:=grdW_i h₁;have hz:=Ad hz;exact wpAny_newTuple ((H.pre hs1 P1).tuple S1 (items:=vs.toArray) r1 hz h₁) (r1.length▸Aa hz lid_line)
theorem ev_list {as:Es}{xs:List Expr}{p:Pos}(hs:EvsX c T C d u as xs):EvX c T C d u (.list as) (.List xs p):=by
 intro A e J s Y Q X QC EC hA h S H HX;show wpAny c.M A (do standAt p; newList (← spliced (backTo p (starEach xs c.f.env)))) QC EC s;refine wpAny_bind (wpAny_standAt (wpAny_bind (hs A p e J s Y _ X _ EC hA h S ?_ HX)));intro vs s₁ Y₁ as1 J1 hs1 P1 S1 r1 h₁;obtain ⟨hz,h₁⟩:=grdW_i h₁;have hz:=Ad hz;exact wpAny_newList ((H.pre hs1 P1).list S1 (items:=vs.toArray) r1 hz h₁) (r1.length▸Aa hz lid_line)
theorem ev_attr {a:E}{x:Expr}{y:At}{p:Pos}(O:CxOk c)(ha:EvX c T C d u a x)(hb:attributeBase x (atName y) c.f.env (eval x c.f.env)=eval x c.f.env):EvX c T C d u (.attr a y) (.Attribute x (atName y) p):=by
 intro A e J s Y Q X QC EC hA h S H HX;show wpAny c.M A (do
  let o ← attributeBase x (atName y) c.f.env (eval x c.f.env)
  standAt p.atName
  let r ← holding [o] (getAttr o (atName y) true)
  letTemporaryGo x o r
  pure r) QC EC s
 rw [hb];refine wpAny_bind (ha A e J s Y _ X _ EC hA h S ?_ HX);intro v s₁ Y₁ a1 J1 hs1 P1 S1 r1 h₁;refine wpAny_bind (wpAny_standAt (wpAny_bind (wpAny_holding (attr_sound O h₁ S1 r1 ?_))));intro w s2 Y2 a2 J2 hs2 P2 S2 r2 h2;exact wpAny_bind (wpAny_letTemporaryGo (wpAny_pure ((H.pre hs1 P1) w s2 Y2 a2 J2 hs2 P2 S2 r2 h2)))
theorem gip {A:Around} {s:Shared} {o:Value} {Q:Bool->Shared->Prop} {EC:Value->Shared->Prop} (h:s.TypeIs o "str"∨s.TypeIs o "list"∨s.TypeIs o "tuple"∨s.TypeIs o "dict") (q:Q false s):wpAny c.M A (getitemInPython o) Q EC s:=by
 rcases h with h | h | h | h
 ·rw [getitemInPython_of_ne h.not_modules]; exact wpAny_bind (wpAny_specialOf h F.slot_str_getitem.lookup (wpAny_pure q))
 ·rw [getitemInPython_of_ne h.not_modules]; exact wpAny_bind (wpAny_specialOf h F.slot_list_getitem.lookup (wpAny_pure q))
 ·rw [getitemInPython_of_ne h.not_modules]; exact wpAny_bind (wpAny_specialOf h F.slot_tuple_getitem.lookup (wpAny_pure q))
 ·rw [getitemInPython_of_ne h.not_modules]; exact wpAny_bind (wpAny_specialOf h F.slot_dict_getitem.lookup (wpAny_pure q))
theorem ty_idx {e:Ev} {J:Store} {s:Shared} {Y:Rho} {a b:AV} {v:Value} {R:AV->Prop} (h:idxW a b J R) (S:c.S Y e J s) (r:c.V s.heap Y a v):s.TypeIs v "str"∨s.TypeIs v "list"∨s.TypeIs v "tuple"∨s.TypeIs v "dict":=by
 cases a with
 | obj r'=>
  cases b with
  | int i=>
   obtain ⟨l,h1,_⟩:=lstO_i h;obtain ⟨p,items,n,rfl,hp,ho,_⟩:=Cx.S.list_at S h1 r;exact .inr (.inl ⟨_,ho,rfl⟩)
  | str x=>
   obtain ⟨es,h1,_⟩:=dctO_i h;obtain ⟨⟨p,dd⟩,rfl,hp⟩:=r;obtain ⟨e1,kvs,⟨ob,es',ep,hb,hx,_⟩,_⟩:=S.sim.obj _ _ _ hp h1;exact .inr (.inr (.inr ⟨_,hb,hx.1⟩))
  | _=>exact h.elim
 | tup l=>
  obtain ⟨p,items,rfl,⟨n,ht⟩,_⟩:=r;exact .inr (.inr (.inl ⟨_,ht,rfl⟩))
 | frz l=>
  obtain ⟨p,items,rfl,⟨n,ht⟩,_⟩:=r;exact .inr (.inl ⟨_,S.stays _ _ ht,rfl⟩)
 | str l=>
  obtain ⟨t,rfl,_⟩:=r;exact .inl (typeIs_str _ _ _)
 | _=>exact h.elim
theorem ev_idx {a b:E}{x y:Expr}{p:Pos}(ha:EvX c T C d u a x)(hb:EvX c T C d u b y)(hy:∀ o i,subscripted y false o i=operate [o,i] (getItem o i)):EvX c T C d u (.idx a b) (.Subscript x y p):=by
 intro A e J s Y Q X QC EC hA h S H HX;refine Subscript_ (ha A e J s Y _ X _ EC hA h S ?_ HX);intro v s₁ Y₁ a1 J1 hs1 P1 S1 r1 h₁;refine hb A e J1 s₁ Y₁ _ X _ EC hA h₁ S1 ?_ (HX.pre hs1 P1);intro w s2 Y2 b1 J2 hs2 P2 S2 r2 h2;unfold subscriptTail;refine wpAny_bind (gip (ty_idx h2 S2 (P2.rv r1)) ?_);refine wpAny_bind ?_;rw [hy];refine wpAny_operate' (idx_sound h2 S2 (P2.rv r1) r2 ?_);intro z s3 Y3 a3 J3 hs3 P3 S3 r3 h3;exact wpAny_bind (wpAny_letTemporaryGo (wpAny_pure (((H.pre hs1 P1).pre hs2 P2) z s3 Y3 a3 J3 hs3 P3 S3 r3 h3)))
theorem ty_slice {e:Ev} {J:Store} {s:Shared} {Y:Rho} {a:AV} {lo hi:Option AV} {v:Value} {Q:QV} (h:sliceW a lo hi J Q) (S:c.S Y e J s) (r:c.V s.heap Y a v):s.TypeIs v "str"∨s.TypeIs v "list"∨s.TypeIs v "tuple"∨s.TypeIs v "dict":=by
 cases a with
 | str l=>
  obtain ⟨t,rfl,_⟩:=r;exact .inl (typeIs_str _ _ _)
 | tup l=>
  obtain ⟨p,items,rfl,⟨n,ht⟩,_⟩:=r;exact .inr (.inr (.inl ⟨_,ht,rfl⟩))
 | obj r'=>
  obtain ⟨l,h1,_⟩:=lstO_i h;obtain ⟨p,items,n,rfl,hp,ho,_⟩:=Cx.S.list_at S h1 r;exact .inr (.inl ⟨_,ho,rfl⟩)
 | _=>exact h.elim
theorem PartV.mono {base h h':Heap}{Y Y':Rho}{own:Addr->Prop}{F:List Addr}(P:Stp F own Y h Y' h'){o:Option AV}{v:Value}(r:PartV h Y base o v):PartV h' Y' base o v:=by
 cases o with
 | none=>exact r
 | some a=>exact P.rv r
theorem typeIs_push {s:Shared}{v:Value}{T':String}(o:Obj)(h:s.TypeIs v T'):Shared.TypeIs { s with heap:=s.heap.push o } v T':=by
 unfold Shared.TypeIs at h ⊢;cases v<;>first | exact h | (obtain ⟨ob,h1,h2⟩:=h; exact ⟨ob,Heap.get?_push_of_some _ h1,h2⟩)
theorem ev_slice {a:E}{lo hi:Eo}{x:Expr}{yl yh:Option Expr}{p p':Pos}(ha:EvX c T C d u a x)(hl:EvoX c T C d u lo yl)(hh:EvoX c T C d u hi yh):EvX c T C d u (.slice a lo hi) (.Subscript x (.Slice yl yh none p') p):=by
 intro A e J s Y Q X QC EC hA h S H HX;refine Subscript_ (ha A e J s Y _ X _ EC hA h S ?_ HX);intro v s₁ Y₁ a1 J1 hs1 P1 S1 r1 h₁;show wpAny c.M A (do
  let l ← valueOrNone (evalOpt yl c.f.env);let u ← holding [l] (valueOrNone (evalOpt yh c.f.env));let s ← holding [l,u] (valueOrNone (evalOpt none c.f.env))
  newFields "slice" [l,u,s]) _ EC s₁
 refine wpAny_bind (hl A e J1 s₁ Y₁ _ X _ EC hA h₁ S1 ?_ (HX.pre hs1 P1));intro vl s2 Y2 l₂ J2 hs2 P2 S2 rl h2;refine wpAny_bind (wpAny_holding (hh A e J2 s2 Y2 _ X _ EC hA h2 S2 ?_ ((HX.pre hs1 P1).pre hs2 P2)));intro vh s3 Y3 l3 J3 hs3 P3 S3 rh h3;refine wpAny_bind (wpAny_holding (wpAny_pure ?_));refine wpAny_newObj_type ?_ (by show 3<=sizeLine+2; rw [sizeLine_eq]; decide);unfold subscriptTail;refine wpAny_bind (gip ?_ ?_)
 ·exact (ty_slice h3 S3 (P3.rv (P2.rv r1))).imp (typeIs_push _) (Or.imp (typeIs_push _) (Or.imp (typeIs_push _) (typeIs_push _)))
 refine wpAny_bind ?_;show wpAny c.M A (operate [Value.ref s3.heap.objs.size,v] (getItem v (Value.ref s3.heap.objs.size))) _ EC _;refine wpAny_operate' (slice_sound h3 S3 (P3.rv (P2.rv r1)) (rl.mono P3) rh ?_);intro z s4 Y4 a4 J4 hs4 P4 S4 r4 h4;exact wpAny_bind (wpAny_letTemporaryGo (wpAny_pure ((((H.pre hs1 P1).pre hs2 P2).pre hs3 P3) z s4 Y4 a4 J4 hs4 P4 S4 r4 h4)))
end
open PySem PySem.Calls PyProof.Rows PySem.SeqAt PySem.W
theorem evalArgs_any {M:Model}{A:Around}{E:Value->Shared->Prop}{s:Shared}{f:Value}{trees:List (Bool×Sem Value)}{Q:Args->Shared->Prop}(hp:trees.any (·.1)=false)
  (h:wpAny M A (spliced trees) (fun vs s'=>Q ⟨vs,[]⟩ s') E s):wpAny M A (evalArgs f true trees []) Q E s:=by
 match trees,hp,h with
 | [],_,h=>
  unfold evalArgs;show wpAny M A (spliced [] >>= _) Q E s;refine wpAny_bind (wpAny_mono h (fun vs s' h'=>?_) fun _ _ x=>x);refine wpAny_holding ?_;exact wpAny_bind (wpAny_pure (wpAny_bind (wpAny_pure (wpAny_pure h'))))
 | (true,_)::_,hp,_=>cases hp
 | (false,x)::rest,_,h=>exact evalArgs_plain h
section
variable {c:Cx}{T:Stat}{C:Calls}{d u:Nat}
theorem AOk.more {A:Around}(hA:AOk c d u A):AOk c (d+2) (u+10) A:=⟨hA.frs,hA.hand,Aa hA.depth (Af ..),Aa hA.units (Af ..)⟩
abbrev Kps (c:Cx)(f:Value):Prop:=∀ h,c.base.StaysIn h->∃ k,(k=Keeper.frame∨k=Keeper.machine∨k=Keeper.boundFrame)∧Looks c.M h (keeperOf f) k
theorem methW_i {f:Nat}{v:AV}{J:Store}{P:Nat->Prop}(h:methW T f v J P):∃ r c fs,v=.obj r∧J[r]?=some (.inst c fs)∧T.clsOf f=some c∧P r:=by
 unfold methW at h; exact h
theorem callWith_sound {A:Around}{as:Es}{xs:List Expr}{p:Pos}{e:Ev}{J:Store}{s:Shared}{Y:Rho}{Q:List AV->Store->Prop}{X:QX}{QC EC:Value->Shared->Prop}{f:Value}{first:List Value}
  (hA:AOk c d u A) (hk:Kps c f) (hs:EvsX c T C d u as xs)
  (hplain:∀ env,(backTo p (starEach xs env)).any (·.1)=false) (h:evsW T C as e J Q X) (S:c.S Y e J s)
  (H:OkVs c e s Y Q fun vs s'=>wpAny c.M A (call f (first++vs)) QC EC s') (HX:OkX c e s Y X EC):wpAny c.M A (callWith p f first (backTo p (starEach xs c.f.env)) []) QC EC s:=by
 refine callWith_of (P:=c.base.StaysIn) (by rw [hplain]; rfl) hk (evalArgs_any (hplain _) (hs A p e J s Y Q X _ EC hA h S ?_ HX));intro vs s' Y' as' J' hs' P' S' r q;exact ⟨S'.stays,H vs s' Y' as' J' hs' P' S' r q⟩
theorem keep_builtin (id:String):Kps c (.builtin id):=fun _ _=>⟨.machine,.inr (.inl rfl),Looks.of_pure rfl⟩
theorem keep_type (id:String):Kps c (.type id):=fun _ _=>⟨.machine,.inr (.inl rfl),Looks.of_pure rfl⟩
theorem keep_fn {a:Addr}{o:Obj}{fd:FuncData}(ha:c.base.get? a=some o)(hd:o.data=.func fd):Kps c (.ref a):=fun h hs=>
 ⟨.frame,.inl rfl,(Looks.ld (part:=none) (hs a o ha)).andThen (by
  obtain ⟨o1,o2,o3,o4⟩:=o;cases hd;exact .now)⟩
theorem keep_K {f:Value}(O:CxOk c)(hf:keepIn c.K f=true):Kps c f:=fun h hs=>keeps_K hf h (O.K.keeps hs)
theorem keep_bi (b:Bi):Kps c (biVal b):=by
 cases b<;>first | exact keep_builtin _ | exact keep_type _
theorem eval_callName {A:Around}{x:Str}{p1 p:Pos}{xs:List Expr}{s:Shared}{QC EC:Value->Shared->Prop}(h:wpAny c.M A (eval (.Name x p1) c.f.env) (fun f s'=>wpAny c.M A (callWith p f [] (backTo p (starEach xs c.f.env)) []) QC EC s') EC s) :
  wpAny c.M A (eval (.Call (.Name x p1) xs [] p) c.f.env) QC EC s:=by
 show wpAny c.M A (eval (.Name x p1) c.f.env >>= fun f=>callWith p f [] (backTo p (starEach xs c.f.env)) (backToKw p (keywordEach [] c.f.env))) QC EC s;exact wpAny_bind h
theorem ev_bi {b:Bi} {as:Es} {xs:List Expr} {p1 p:Pos} {N:Nm} {mg mb:Str->Option Value} (O:NmOk c T N mg mb) (V:VarsOk c.f c.vars) (hk:c.f.env.kindOf (biName b)=some .globalImplicit∧(biName b==("__debug__" : Str))=false)
  (hs:EvsX c T C d u as xs) (hplain:∀ env,(backTo p (starEach xs env)).any (·.1)=false):EvX c T C d u (.bi b as) (.Call (.Name (biName b) p1) xs [] p):=by
 intro A e J s Y Q X QC EC hA h S H HX;refine eval_callName (ld_name S V hk O.g O.b (.inr (O.bi b)) ?_);refine callWith_sound hA (keep_bi b) hs hplain h S ?_ HX;intro vs s' Y' as' J' hs' P' S' r q;exact bi_sound hA.hand q S' r (H.pre hs' P')
theorem ev_call {k:Nat} {as:Es} {x:Str} {xs:List Expr} {p1 p:Pos} {N:Nm} {mg mb:Str->Option Value} (O:NmOk c T N mg mb) (V:VarsOk c.f c.vars) (CO:CallsOk c C N.fa (d+2) (u+10)) (hx:N.fn k=some x) (hk:c.f.env.kindOf x=some .globalImplicit∧(x==("__debug__" : Str))=false)
  (hs:EvsX c T C d u as xs) (hplain:∀ env,(backTo p (starEach xs env)).any (·.1)=false) (hc:T.clsOf k=none):EvX c T C d u (.call k as) (.Call (.Name x p1) xs [] p):=by
 intro A e J s Y Q X QC EC hA h S H HX;obtain ⟨a,o,fd,hf,hg,ha,hd⟩:=O.fn k x hx hc;refine eval_callName (ld_name S V hk O.g O.b (.inl hg) ?_);refine callWith_sound hA (keep_fn ha hd) hs hplain h S ?_ HX;intro vs s' Y' as' J' hs' P' S' r q;obtain ⟨a',hf',run⟩:=CO k as' J' Q X q.2;rw [hf] at hf'; cases hf';exact wpAny_call (run A e s' Y' vs _ hA.more S' r (H.pre hs' P') (HX.pre hs' P'))
theorem eval_callMeth {A:Around}{o:Expr}{name:Str}{apos p:Pos}{xs:List Expr}{s:Shared}{QC EC:Value->Shared->Prop}(hb:attributeBase o name c.f.env (eval o c.f.env)=eval o c.f.env)(hl:(apos.endLine==p.line)=true)(hn:xs.length<30)
  (hplain:∀ env,(backTo p (starEach xs env)).any (·.1)=false)
  (h:wpAny c.M A (eval o c.f.env) (fun ov s'=>wpAny c.M A (getMethod ov name (do return (← importBound o c.f.env).getD true)) (fun r s''=>wpAny c.M A (callWith p r.1 r.2 (backTo p (starEach xs c.f.env)) []) QC EC s'') EC s') EC s) :
  wpAny c.M A (eval (.Call (.Attribute o name apos) xs [] p) c.f.env) QC EC s:=by
 rw [arm_eval_Call,hb];refine wpAny_bind (wpAny_mono h (fun ov s₁ h₁=>?_) fun _ _ e=>e);refine wpAny_bind (wpAny_standAt ?_);have hform:methodCallForm (xs.length+([]:List Keyword).length) (backTo p (starEach xs c.f.env)) (backToKw p (keywordEach [] c.f.env))=true:=by
  unfold methodCallForm;have e1:(backTo p (starEach xs c.f.env)).all (fun x=>!x.1)=true:=by
   rw [List.all_eq_true];intro x hx;have:=hplain c.f.env;rw [List.any_eq_false] at this
   simpa using this x hx
  rw [e1];exact decide_eq_true (show xs.length+0+0<30 from hn)
 have hpos:methodCallPos true o c.f.env apos p=pure p:=by unfold methodCallPos; simp [hl]
 unfold methodCall;rw [hform];refine wpAny_bind (wpAny_holding ?_);show wpAny c.M A (getMethod ov name (do return (← importBound o c.f.env).getD true)) _ EC s₁;refine wpAny_mono h₁ (fun r s2 h2=>?_) fun _ _ e=>e;exact wpAny_bind (wpAny_of_eq hpos h2)
theorem ev_bm {a:E}{m:Bm}{as:Es}{x:Expr}{xs:List Expr}{apos p:Pos}(ha:EvX c T C d u a x)(hb:attributeBase x (bmName m) c.f.env (eval x c.f.env)=eval x c.f.env)(hl:(apos.endLine==p.line)=true)(hn:xs.length<30)
  (hs:EvsX c T C d u as xs) (hplain:∀ env,(backTo p (starEach xs env)).any (·.1)=false):EvX c T C d u (.bm a m as) (.Call (.Attribute x (bmName m) apos) xs [] p):=by
 intro A e J s Y Q X QC EC hA h S H HX;refine eval_callMeth hb hl hn hplain (ha A e J s Y _ X _ EC hA h S ?_ HX);intro v s₁ Y₁ a1 J1 hs1 P1 S1 r1 h₁;refine getm_sound h₁ S1 r1 fun h₁=>?_;refine callWith_sound hA (keep_builtin _) hs hplain h₁ S1 ?_ (HX.pre hs1 P1);intro vs s' Y' as' J' hs' P' S' r q;exact bm_sound q S' (P'.rv r1) r ((H.pre hs1 P1).pre hs' P')
theorem ev_meth {a:E}{k:Nat}{as:Es}{x:Expr}{y:Str}{xs:List Expr}{apos p:Pos}{N:Nm}{mg mb:Str->Option Value}(O:CxOk c)(NO:NmOk c T N mg mb)(CO:CallsOk c C N.fa (d+2) (u+10))(hx:N.fn k=some y)
  (ha:EvX c T C d u a x) (hb:attributeBase x y c.f.env (eval x c.f.env)=eval x c.f.env) (hl:(apos.endLine==p.line)=true) (hn:xs.length<30)
  (hs:EvsX c T C d u as xs) (hplain:∀ env,(backTo p (starEach xs env)).any (·.1)=false):EvX c T C d u (.meth a k as) (.Call (.Attribute x y apos) xs [] p):=by
 intro A e J s Y Q X QC EC hA h S H HX;refine eval_callMeth hb hl hn hplain (ha A e J s Y _ X _ EC hA h S ?_ HX);intro v s₁ Y₁ a1 J1 hs1 P1 S1 r1 h₁;obtain ⟨r,i,fs,rfl,hr,hcl,h₁⟩:=methW_i h₁;obtain ⟨q,dx,CA,sl,es,n,rfl,hp,hC,hd,I,fr,nd⟩:=Cx.S.inst_at S1 hr r1;have ok:=O.cls _ _ hC;obtain ⟨fa,hfa,hfind,hty,hkeep,hat⟩:=NO.meth k y i CA hx hcl hC;refine method_fn (f:=fa) (O.K.keeps S1.stays) I (plainGet_of ok.get).1 (plainGet_of ok.get).2 hfind hty ?_ ?_
 ·show (lookIn y (dictOf es n)).map _=_;rw [lookIn_dict,fr.other hat]; rfl
 ·refine callWith_sound hA (keep_K O hkeep) hs hplain h₁ S1 ?_ (HX.pre hs1 P1);intro vs s' Y' as' J' hs' P' S' rr q';obtain ⟨a',hf',run⟩:=CO k (.obj r::as') J' Q X q';rw [hfa] at hf'; cases hf';exact wpAny_call (run A e s' Y' (.ref q::vs) _ hA.more S' ⟨_,_,rfl,P'.rv r1,rr⟩ ((H.pre hs1 P1).pre hs' P') ((HX.pre hs1 P1).pre hs' P'))
theorem ev_new {i:Nat}{as:Es}{x:Str}{xs:List Expr}{p1 p:Pos}{N:Nm}{mg mb:Str->Option Value}(O:CxOk c)(NO:NmOk c T N mg mb)(V:VarsOk c.f c.vars)(CO:CallsOk c C N.fa (d+2) (u+10))(hx:N.cn i=some x)
  (hk:c.f.env.kindOf x=some .globalImplicit∧(x==("__debug__" : Str))=false) (hs:EvsX c T C d u as xs) (hplain:∀ env,(backTo p (starEach xs env)).any (·.1)=false):EvX c T C d u (.new i as) (.Call (.Name x p1) xs [] p):=by
 intro A e J s Y Q X QC EC hA h S H HX;obtain ⟨CA,hC,hg,hmk,hkeep,hinit⟩:=NO.cls i x hx;refine eval_callName (ld_name S V hk NO.g NO.b (.inl hg) ?_);refine callWith_sound hA (keep_K O hkeep) hs hplain h S ?_ HX;intro vs s' Y' as' J' hs' P' S' r q;obtain ⟨k,hk',hcl,q⟩:=q;obtain ⟨fi,hfi,hfind,hty⟩:=hinit k hk';obtain ⟨a',hf',run⟩:=CO k _ _ _ X q;rw [hfi] at hf'; cases hf';have X':c.K.In s'.heap:=O.K.keeps S'.stays;refine wpAny_call ?_;have hwt:(Code.builtin "type.__call__" ⟨.ref CA::vs,[]⟩).weight=1:=by
  unfold Code.weight;have h1:(Code.builtin "type.__call__" ⟨.ref CA::vs,[]⟩).isGuard=false:=by
   show guardIds.contains "type.__call__"=false
   decide +kernel
  rw [h1]; rfl
 have hun:(Code.builtin "type.__call__" ⟨.ref CA::vs,[]⟩).cUnits=1:=rfl
 have hen:(Code.builtin "type.__call__" ⟨.ref CA::vs,[]⟩).envs=[]:=rfl
 have hA':AOk c (d+2) (u+10) (A.under (.builtin "type.__call__" ⟨.ref CA::vs,[]⟩)):=by
  have h1:=hA.depth; have h2:=hA.units;refine ⟨?_,hA.hand,?_,?_⟩
  ·unfold Around.under;simp only [hen];exact hA.frs
  ·show A.depth+_<=_;rw [hwt]; exact Aq h1 (by decide)
  ·show A.units+_<=_;rw [hun]; exact Aq h2 (by decide)
 have S0:=S';obtain ⟨hp',g,dr,tk,os⟩:=s';refine make_core (makes_of X' hmk) (looks_findIn X' hfind) (fun self=>bind_fn X' self hty) (.inl rfl) ?_;have hk2:Kp hp' ((hp'.push emptyDict).push (instObj CA hp'.objs.size)):=fun b o e=>Heap.get?_push_of_some _ (Heap.get?_push_of_some _ e);have hi2:((hp'.push emptyDict).push (instObj CA hp'.objs.size)).get? (hp'.objs.size+1)=some (instObj CA hp'.objs.size):=by
  have:=Heap.get?_push_size (o:=instObj CA hp'.objs.size) (hp'.push emptyDict) rfl
  rwa [Heap.size_push] at this
 have hd2:((hp'.push emptyDict).push (instObj CA hp'.objs.size)).get? hp'.objs.size=some emptyDict:=Heap.get?_push_of_some _ (Heap.get?_push_size _ rfl);have hfr:∀ a∈pAs (hp'.objs.size+1,some hp'.objs.size),hp'.get? a=none:=by
  intro a ha;rcases List.mem_cons.mp ha with rfl | ha
  ·exact Heap.get?_none_of_le (Nat.le_succ _)
  ·exact List.mem_singleton.mp ha▸new_none _
 have P2:c.P Y' hp' (Y'.push (hp'.objs.size+1,some hp'.objs.size)) ((hp'.push emptyDict).push (instObj CA hp'.objs.size)):=.of_kp (Rho.Le.push _ _) (muts_new hfr) hk2;have St2:=S'.toSt.move P2 (stays_kp S'.stays hk2) (S'.sim.alloc S'.stays hk2 (.inst i []) hfr (List.nodup_cons.mpr ⟨fun q=>Nat.succ_ne_self _ (List.mem_singleton.mp q),List.nodup_cons.mpr ⟨List.not_mem_nil,List.nodup_nil⟩⟩) ⟨hp'.objs.size,CA,#[],[],0,rfl,hC,hi2,hd2,rfl,List.nodup_nil⟩);have S2:c.S (Y'.push (hp'.objs.size+1,some hp'.objs.size)) e (J'++[.inst i []]) ⟨(hp'.push emptyDict).push (instObj CA hp'.objs.size),g,dr,tk,os⟩:=⟨St2,S'.pos,S'.tks,S'.ini⟩;have hs2:Same (⟨hp',g,dr,tk,os⟩:Shared) ⟨(hp'.push emptyDict).push (instObj CA hp'.objs.size),g,dr,tk,os⟩:=⟨rfl,rfl,rfl,Aj _⟩;have robj:c.V ((hp'.push emptyDict).push (instObj CA hp'.objs.size)) (Y'.push (hp'.objs.size+1,some hp'.objs.size)) (.obj J'.length) (.ref (hp'.objs.size+1)):=
  ⟨(hp'.objs.size+1,some hp'.objs.size),rfl,S'.sim.len▸List.getElem?_concat_length⟩
 refine run _ e _ _ (.ref (hp'.objs.size+1)::vs) _ hA' S2 ⟨_,_,rfl,robj,P2.rvs r⟩ ?_ ?_
 ·intro v s2 Y2 a2 J2 hs₂ P₂ S₂ r2 q2;obtain ⟨rfl,q2⟩:=q2;cases (r2:v=.none);exact ⟨rfl,(H.pre hs' P') _ s2 Y2 (.obj J'.length) J2 (hs2.trans hs₂) (P2.trans P₂) S₂ (P₂.rv robj) q2⟩
 ·intro ex s2 Y2 J2 hs₂ P₂ S₂ x2 q2;exact (HX.pre hs' P') ex s2 Y2 J2 (hs2.trans hs₂) (P2.trans P₂) S₂ (x2.pre P2.dom) q2
theorem ev_dict0 {p:Pos}:EvX c T C d u .dict0 (.Dict [] [] p):=by
 intro A e J s Y Q X QC EC hA h S H HX;refine wpAny_Dict_empty ?_;exact H _ _ (Y.push (s.heap.objs.size,none)) (.obj J.length) (J++[MO.dict []]) ⟨rfl,rfl,rfl,Aj _⟩ (Stp.alloc _) ⟨S.toSt.alloc _ (.dict []) ⟨rfl,[],Heap.DictOf.new _,rfl,Nat.zero_le _⟩,S.pos,S.tks,S.ini⟩ ⟨(s.heap.objs.size,none),rfl,S.sim.len▸List.getElem?_concat_length⟩ h
end
open PySem PySem.Calls PyProof.Rows PySem.SeqAt PySem.W
section
variable {c:Cx}{T:Stat}{C:Calls}{d u:Nat}{e:Ev}{s:Shared}{Y:Rho}{J:Store}{Q:QV}{X:QX}{QC EC:Value->Shared->Prop}{A:Around}
theorem OkV.listAt {D:Addr}{items:Array Value}{vs:List AV}{h':Heap}{tk:Nat}(H:OkV c e s Y Q QC)(S:c.S Y e J s)(hk:∀ b o,s.heap.get? b=some o->h'.get? b=some o)(hD:s.heap.get? D=none)(hL:LsAt h' D items)
  (rs:RVs c.base h' Y vs items.toList) (hz:vs.length<=lid) (hn:s.toks<=tk) (q:Q (.obj J.length) (J++[.list vs])):QC (.ref D) { s with heap:=h',toks:=tk }:=by
 have hf:∀ a∈pAs (D,none),s.heap.get? a=none:=fun a ha=>List.mem_singleton.mp ha▸hD;have P:c.P Y s.heap (Y.push (D,none)) h':=.of_kp (Rho.Le.push _ _) (muts_new hf) hk;have rs':RVs c.base h' (Y.push (D,none)) vs items.toList:=rs.mono (fun _ _ e _=>e) (Rho.Le.push _ _);have St2:=S.toSt.move P (stays_kp S.stays hk) (S.sim.alloc S.stays hk (.list vs) hf (List.nodup_cons.mpr ⟨List.not_mem_nil,List.nodup_nil⟩) ⟨rfl,items,hL,rs',hz⟩);exact H _ _ (Y.push (D,none)) (.obj J.length) (J++[.list vs]) ⟨rfl,rfl,rfl,hn⟩ P ⟨St2,An S.pos hn,fun t ht=>S.tks t (Aa hn ht),S.ini⟩ ⟨(D,none),rfl,S.sim.len▸List.getElem?_concat_length⟩ q
theorem ns_not_imm {h:Heap}{C:Addr}{m:Str->Option Value}{o:Obj}(hn:h.Ns C m)(eo:h.get? C=some o):¬ Imm o:=fun im=>by
 obtain ⟨oC,es,ep,ho,hd,_⟩:=hn;cases Ag (ho.symm.trans eo);rcases im with ⟨_,its,n9,q⟩ | ⟨_,vs9,q⟩<;>rw [hd] at q<;>cases q
theorem ls_not_imm {h:Heap}{C:Addr}{items:Array Value}{n:Nat}{o:Obj}(hn:IsL h C items n)(eo:h.get? C=some o):¬ Imm o:=by
 cases Ag ((hn:h.get? C=_).symm.trans eo);exact (odd_list rfl).imm
structure CmB (c:Cx)(Y:Rho)(n:Nat)(St':Nat->Heap->Prop)(ys:List AV)(C D:Addr)(s₁:Shared)(k:Nat)(s':Shared)(h':Heap)(tk i:Nat)(items:Array Value)(m':Str->Option Value):Prop where
 fa:s'={ s₁ with heap:=h',toks:=tk }
 fb:i<=n
 fc:k=n+1-i
 fd:St' i h'
 fe:h'.Ns C m'
 ff:LsAt h' D items
 fg:RVs c.base h' Y (ys.take i) items.toList
 fh:∀ b o,s₁.heap.get? b=some o->h'.get? b=some o
 fj:s₁.toks<=tk
def CmI (c:Cx)(Y:Rho)(n:Nat)(St':Nat->Heap->Prop)(ys:List AV)(C D:Addr)(s₁:Shared)(k:Nat)(s':Shared):Prop:=
 ∃ h' tk i items m',CmB c Y n St' ys C D s₁ k s' h' tk i items m'
theorem comp_core {elt target iter:Expr}{scope:Scope}{cl:List (Str×Addr)}{pos:Pos}{s₁ s₂:Shared}{I:Addr}{fp wr:List Addr}{n:Nat}{P Md:Nat->Value->Heap->Prop}{St':Nat->Heap->Prop}{ys:List AV}{tk₂:Nat}
  (W:KTurns c.prog c.w A target I fp wr n P Md St') (hself:∀ i (s:Shared) (Q:Value->Shared->Prop) (E:Value->Shared->Prop),St' i s.heap->Q (.ref I) s->wpAny c.M A (pyIter (.ref I)) Q E s) (hny:n=ys.length) (hz:ys.length<=lid) (hcell:∀ y∈scope.names,y.2≠.cell) (hkind:scope.kind=.function)
  (hs2:s₂={ s₁ with heap:=s₂.heap,toks:=tk₂ }) (htk:s₁.toks<=tk₂) (hst:St' 0 s₂.heap) (hfp:∀ b∈fp,b<s₂.heap.objs.size)
  (hold:∀ b o,s₁.heap.get? b=some o->b∉wr∧s₂.heap.get? b=some o) (hwi:∀ i h,St' i h->∀ b∈wr,∀ o,h.get? b=some o->¬ Imm o)
  (hstep:∀ i v h tk C (m:Str->Option Value) (QE:Value->Shared->Prop) (EE:Value->Shared->Prop),i<n->P i v h->(∀ b o,s₁.heap.get? b=some o->h.get? b=some o)->h.Ns C m->s₁.heap.get? C=none->
   (∀ y h' tk',(∃ m',h'.Ns C m')->(∀ b o,b≠C->h.get? b=some o->h'.get? b=some o)->(∀ a,ys[i]?=some a->RV c.base h' Y a y)->QE y { s₁ with heap:=h',toks:=tk' })->
   wpAny c.M A (assign target (compEnvC scope cl C c.f.env) v) (fun _ s₂=>wpAny c.M A (eval elt (compEnvC scope cl C c.f.env)) QE EE s₂) EE { s₁ with heap:=h,toks:=tk })
  (hQ:∀ D h' tk items,s₁.heap.get? D=none->(∀ b o,s₁.heap.get? b=some o->h'.get? b=some o)->LsAt h' D items->RVs c.base h' Y ys items.toList->s₁.toks<=tk->QC (.ref D) { s₁ with heap:=h',toks:=tk }) :
  wpAny c.M A (newList []) (fun acc s3=>wpAny c.M A (newFunctionEnv scope c.f.env.globals cl [] c.f.env.qual none .none (some c.f.env)) (fun cenv s4=>
   codeAny c.M A (.compStart (.ListComp elt [⟨target,iter,[],0⟩] scope pos) 0 (.ref I) acc { cenv with scope:=relabel scope c.f.env }) (compPost c.M A EC none QC acc cenv.locals) s4) EC s3) EC s₂:=by
 refine wpAny_newObj_type (wpAny_newFunctionEnv hcell (fun _ h=>absurd h List.not_mem_nil) (fun h₁ hns1 hsb1=>?_) hkind)
 dsimp only at hns1 hsb1 ⊢
 generalize hH2:s₂.heap.push { cls:=.type "list",dict:=none,data:=.seq ([]:List Value).toArray }=H2 at hns1 hsb1 ⊢
 have hC:H2.objs.size=s₂.heap.objs.size+1:=by rw [← hH2,Heap.size_push]
 have hDC:s₂.heap.objs.size≠H2.objs.size:=by rw [hC]; exact Nat.ne_of_lt (Nat.lt_succ_self _)
 have below:∀ b,b<s₂.heap.objs.size->b≠H2.objs.size∧b≠s₂.heap.objs.size:=fun b hb=>⟨by rw [hC]; exact Nat.ne_of_lt (Nat.lt_succ_of_lt hb),Nat.ne_of_lt hb⟩;have hDf:s₂.heap.objs.size∉fp:=fun hm=>Nat.lt_irrefl _ (hfp _ hm);have hCf:H2.objs.size∉fp:=fun hm=>by have:=hfp _ hm; rw [hC] at this; exact Nat.lt_irrefl _ (Nat.lt_of_succ_lt this)
 have hDw:s₂.heap.objs.size∉wr:=fun hm=>hDf (W.sub _ hm);have hCw:H2.objs.size∉wr:=fun hm=>hCf (W.sub _ hm);have old:∀ b o,s₂.heap.get? b=some o->h₁.get? b=some o:=fun b o e=>hsb1.extBut b o (below b (Heap.lt_size e)).1 (Heap.get?_push_of_some _ (hH2▸Heap.get?_push_of_some _ e));have hacc:LsAt h₁ s₂.heap.objs.size #[]:=⟨0,hsb1.extBut _ _ hDC (Heap.get?_push_of_some _ (hH2▸Heap.get?_push_size _ rfl))⟩;have hst1:St' 0 h₁:=W.frame _ _ _ hst fun b _ o e=>old b o e;have fresh:∀ a,s₂.heap.objs.size<=a->s₁.heap.get? a=none:=fun a ha=>by
  cases e:s₁.heap.get? a with
  | none=>rfl
  | some o'=>exact absurd (Heap.lt_size (hold a o' e).2) (Nat.not_lt.mpr ha)
 have hD1:=fresh _ (Aj _);have hC1:s₁.heap.get? H2.objs.size=none:=fresh _ (by rw [hC]; exact Nat.le_succ _);have loop:∀ s3:Shared,s3={ s₁ with heap:=h₁,toks:=s₂.toks+([]:List (Str×Value)).length }->
   codeAny c.M A (.compLoop (.ListComp elt [⟨target,iter,[],0⟩] scope pos) 0 (.ref I) (.ref s₂.heap.objs.size) (compEnvC scope cl H2.objs.size c.f.env))
    (compPost c.M A EC none QC (.ref s₂.heap.objs.size) H2.objs.size) s3:=by
  rintro s3 rfl;refine kcp_loop
   (CmI c Y n St' ys H2.objs.size s₂.heap.objs.size s₁) ?_ (n+1)
   ⟨h₁,_,0,#[],_,rfl,Nat.zero_le _,rfl,hst1,hns1,hacc,rfl,fun b o e=>old b o (hold b o e).2,by rw [hs2]; simpa using htk⟩
  rintro k s' ⟨h',tk,i,items,m',rfl,hi,rfl,hst',hn',hL',rs',hk',htk'⟩;by_cases hlt:i<n
  ·refine wpAny_with_toks (n:=s₁.toks) htk' (W.item i _ _ _ hlt hst' fun v h₂ tk₂ hMd hk2 hn2=>?_);refine W.go i v _ _ _ hMd fun h₃ hP hst3 hk3=>?_;have up3:∀ b o,b∉wr->h'.get? b=some o->h₃.get? b=some o:=fun b o hb e=>hk3 b o hb (hk2 b o hb e);have hn3:h₃.Ns H2.objs.size m':=hn'.at' fun o e=>up3 _ o hCw e;refine wpAny_mono (wpAny_toks_of hn2 (hstep i v h₃ tk₂ H2.objs.size m' (fun y s'=>s₁.toks<=s'.toks->_) _ hlt hP (fun b o e=>up3 b o (hold b o e).1 (hk' b o e)) hn3 hC1 ?_)) (fun _ s2 x=>wpAny_with_toks x.1 (wpAny_mono x.2 (fun _ _ z=>z) (fun _ _ z _=>z))) (fun _ _ z=>z.2);intro y h4 tk4 hn4 hk4 hy htk4;obtain ⟨m4,hn4⟩:=hn4;obtain ⟨nn,hL'⟩:=hL';have hL4:IsL h4 s₂.heap.objs.size items nn:=hk4 _ _ hDC (up3 _ _ hDw hL');have e1:=rs'.size;have hl:(ys.take i).length<=i:=List.length_take_le ..;have hz':=Aa hz lid_line;refine call_meets F.slot_list_append ⟨_,hL4,rfl⟩ F.entry_list_append (F.args_list_append_2 _ _) (PySem.list_append s₂.heap.objs.size items nn y (e1▸Aa hl (Aa (Nat.le_of_lt (hny▸hlt)) hz'))) ⟨hL4,?_⟩;have hup:=hL4.update (fun xs=>xs.push y);have hsame:Heap.SameBut s₂.heap.objs.size h4 (h4.update s₂.heap.objs.size (Obj.mapSeq fun xs=>xs.push y)):=Heap.SameBut.update ..;have up5:∀ b o,b∉wr->b≠H2.objs.size->b≠s₂.heap.objs.size->h'.get? b=some o->(h4.update s₂.heap.objs.size (Obj.mapSeq fun xs=>xs.push y)).get? b=some o:=fun b o h1 h2 h3 e=>(hsame.2 b h3).trans (hk4 b o h2 (up3 b o h1 e));have imm5:∀ b o,h'.get? b=some o->Imm o->(h4.update s₂.heap.objs.size (Obj.mapSeq fun xs=>xs.push y)).get? b=some o:=fun b o eo im=>by
    refine up5 b o (fun hb=>hwi i h' hst' b hb o eo im) (fun q=>?_) (fun q=>?_) eo
    ·exact ns_not_imm hn' (q▸eo) im
    ·exact ls_not_imm hL' (q▸eo) im
   have imm4:∀ b o,h4.get? b=some o->Imm o->(h4.update s₂.heap.objs.size (Obj.mapSeq fun xs=>xs.push y)).get? b=some o:=fun b o eo im=>by
    exact (hsame.2 b fun q=>ls_not_imm hL4 (q▸eo) im).trans eo
   have hyi:ys[i]?=some ys[i]:=List.getElem?_eq_getElem (hny▸hlt);refine ⟨n+1-(i+1),Nat.sub_lt_sub_left (Nat.lt_succ_of_lt hlt) (Nat.lt_succ_self i),_,tk4,i+1,items.push y,m4,rfl,hlt,rfl,?_,hn4.sameBut hsame (Ne.symm hDC),⟨_,hup⟩,?_,?_,?_⟩
   ·refine W.frame _ _ _ hst3 fun b hb o e=>(hsame.2 b fun q=>hDf (q▸hb)).trans (hk4 b o (fun q=>hCf (q▸hb)) e)
   ·rw [List.take_add_one,hyi,Array.toList_push];exact RVs.append (rs'.mono imm5 (Rho.Le.refl _)) (.one (RV.mono imm4 (Rho.Le.refl _) _ _ (hy _ hyi)))
   ·intro b o e;exact up5 b o (hold b o e).1 (fun q=>none_some hC1 (q▸e)) (fun q=>none_some hD1 (q▸e)) (hk' b o e)
   ·exact htk4
  ·have hin:i=n:=Nat.le_antisymm hi (Nat.not_lt.mp hlt);subst hin;refine wpAny_with_toks (n:=s₁.toks) htk' (W.done _ _ _ hst' fun h₂ tk₂ hk2 hn2=>?_);refine ⟨m',hn'.at' fun o e=>hk2 _ o hCw e,fun h₃ hs₃=>?_⟩;rw [hny,List.take_length] at rs';obtain ⟨nn,hL'⟩:=hL';refine hQ _ h₃ tk₂ items hD1 (fun b o e=>(hs₃.2 b fun q=>none_some hC1 (q▸e)).trans (hk2 b o (hold b o e).1 (hk' b o e))) ⟨nn,(hs₃.2 _ hDC).trans (hk2 _ _ hDw hL')⟩ ?_ hn2;exact rs'.mono (fun b o eo im=>(hs₃.2 b fun q=>ns_not_imm hn' (q▸eo) im).trans (hk2 b o (fun hb=>hwi i h' hst' b hb o eo im) eo)) (Rho.Le.refl _)
 have hs3:({ s₂ with heap:=h₁,toks:=s₂.toks+([]:List (Str×Value)).length }:Shared)={ s₁ with heap:=h₁,toks:=s₂.toks+([]:List (Str×Value)).length }:=by
  rw [hs2]
 exact codeAny_compStart_list (loop _ hs3) (hself 0 _ _ _ hst1 (loop _ hs3))
end
open PySem PySem.Calls PyProof.Rows PySem.SeqAt PySem.W
theorem lk_hit {β:Type}{x n:Str}{k:β}{l:List (Str×β)}(h:(x==n)=true):((n,k)::l).lookup x=some k:=by rw [List.lookup_cons,h]
theorem lk_miss {β:Type}{x n:Str}{k:β}{l:List (Str×β)}(h:(x==n)=false):((n,k)::l).lookup x=l.lookup x:=by rw [List.lookup_cons,h]
theorem lookup_relabel_cell {env:Env}(hk:env.scope.kind=.function){names:List (Str×NameKind)}{x:Str}(h:names.lookup x=some .free)(hc:env.kindOf x=some .cell) :
  (names.map fun (n,k)=>if (k==NameKind.free&&env.scope.kind==.function&&env.kindOf n==some .cell) then (n,NameKind.cell) else (n,k)).lookup x=some .cell:=by
 induction names with
 | nil=>exact none_some rfl h
 | cons p r ih=>
  show List.lookup x ((if (p.2==NameKind.free&&env.scope.kind==.function&&env.kindOf p.1==some .cell)=true then (p.1,NameKind.cell) else (p.1,p.2))::_)=_
  have h:((p.1,p.2)::r).lookup x=some .free:=h;cases hx:x==p.1 with
  | true=>rw [if_pos (by rw [Ag ((lk_hit hx).symm.trans h),hk,← eq_of_beq hx,hc]; rfl),lk_hit hx]
  | false=>
   have g:=ih ((lk_miss hx).symm.trans h);by_cases hq:(p.2==NameKind.free&&env.scope.kind==.function&&env.kindOf p.1==some .cell)=true
   ·rw [if_pos hq,lk_miss hx]; exact g
   ·rw [if_neg hq,lk_miss hx]; exact g
noncomputable def clOf (cells:List (Str×Addr)):List (Str×NameKind)->List (Str×Addr)->List (Str×Addr)
 | [],acc=>acc
 | (n,k)::r,acc=>if k==.free then clOf cells r ((n,(cells.lookup n).getD 0)::acc) else clOf cells r acc
theorem clOf_cons (cells:List (Str×Addr))(p:Str×NameKind)(r:List (Str×NameKind))(acc:List (Str×Addr)):clOf cells (p::r) acc=if (p.2==.free)=true then clOf cells r ((p.1,(cells.lookup p.1).getD 0)::acc) else clOf cells r acc:=rfl
theorem closureFor_all {scope:Scope}{env:Env}(h:∀ x∈scope.names,x.2=.free->∃ a,env.cells.lookup x.1=some a):closureFor scope env=pure (clOf env.cells scope.names []):=by
 have key:∀ (l:List (Str×NameKind)) (acc:List (Str×Addr)),(∀ x∈l,x.2=.free->∃ a,env.cells.lookup x.1=some a)->
   (forIn l acc (fun (x:Str×NameKind) (cs:List (Str×Addr))=>(match x with
    | (name,kind)=>if (kind==NameKind.free)=true then cellOf env name >>= fun a=>pure (ForInStep.yield ((name,a)::cs)) else pure (ForInStep.yield cs):Sem (ForInStep (List (Str×Addr))))):Sem (List (Str×Addr)))=pure (clOf env.cells l acc):=by
  intro l
  induction l with
  | nil=>intro acc _; rfl
  | cons x r ih=>
   intro acc hl;obtain ⟨n,k⟩:=x;rw [List.forIn_cons];by_cases hk:k=.free
   ·subst hk;obtain ⟨a,ha⟩:=hl (n,.free) (List.mem_cons_self ..) rfl;have hc:cellOf env n=pure a:=by unfold cellOf; rw [ha]
    simp only [beq_self_eq_true,if_true,hc,pure_bind];rw [ih _ fun y hy=>hl y (List.mem_cons_of_mem _ hy)];have ha':env.cells.lookup n=some a:=ha;rw [clOf_cons,if_pos (show ((n,NameKind.free).2==NameKind.free)=true from rfl),show (env.cells.lookup (n,NameKind.free).1)=some a from ha']; rfl
   ·have hb:(k==NameKind.free)=false:=beq_eq_false_iff_ne.mpr hk;simp only [hb,Bool.false_eq_true,if_false,pure_bind];rw [ih _ fun y hy=>hl y (List.mem_cons_of_mem _ hy),clOf_cons,if_neg (fun q=>Bool.false_ne_true (hb.symm.trans q))]
 unfold closureFor;show (forIn scope.names [] (fun (x:Str×NameKind) (cs:List (Str×Addr))=>(match x with
    | (name,kind)=>if (kind==NameKind.free)=true then cellOf env name >>= fun a=>pure (ForInStep.yield ((name,a)::cs)) else pure (ForInStep.yield cs):Sem (ForInStep (List (Str×Addr))))) >>= fun s=>pure s)=_
 rw [key scope.names [] h];rfl
theorem clOf_look (cells:List (Str×Addr)){x:Str}{a:Addr}(ha:cells.lookup x=some a)(names:List (Str×NameKind))(acc:List (Str×Addr))(h:acc.lookup x=some a∨(names.lookup x=some .free))(hb:∀ b,acc.lookup x=some b->b=a):(clOf cells names acc).lookup x=some a:=by
 induction names generalizing acc with
 | nil=>exact h.elim id fun h=>none_some rfl h
 | cons p r ih=>
  rw [clOf_cons];have h:acc.lookup x=some a∨((p.1,p.2)::r).lookup x=some .free:=h;cases hx:x==p.1 with
  | true=>
   rw [lk_hit hx] at h;by_cases hk:(p.2==NameKind.free)=true
   ·rw [if_pos hk];have e:((p.1,(cells.lookup p.1).getD 0)::acc).lookup x=some a:=by rw [lk_hit hx,← eq_of_beq hx,ha]; rfl
    exact ih _ (.inl e) fun b q=>Ag (q.symm.trans e)
   ·rw [if_neg hk];exact ih acc (h.imp id fun h=>(hk (by rw [Ag h]; rfl)).elim) hb
  | false=>
   rw [lk_miss hx] at h;by_cases hk:(p.2==NameKind.free)=true
   ·rw [if_pos hk];exact ih _ (by rw [lk_miss hx]; exact h) fun b q=>hb b ((lk_miss hx).symm.trans q)
   ·rw [if_neg hk]; exact ih acc h hb
noncomputable def setAll (m:Str->Option Value):List Str->List Value->Str->Option Value
 | x::xs,v::vs=>setAll (fun z=>if z=x then some v else m z) xs vs
 | _,_=>m
theorem setAll_not {x:Str}(xs:List Str)(vs:List Value)(m:Str->Option Value)(h:x∉xs):setAll m xs vs x=m x:=by
 induction xs generalizing vs m with
 | nil=>rfl
 | cons y ys ih=>
  cases vs with
  | nil=>rfl
  | cons v vs=>exact (ih vs _ fun q=>h (List.mem_cons_of_mem _ q)).trans (if_neg fun (q:x=y)=>h (q▸List.mem_cons_self ..))
theorem setAll_get {x:Str}{v:Value}(xs:List Str)(vs:List Value)(m:Str->Option Value)(j:Nat)(nd:xs.Nodup)(h:xs[j]?=some x)(h':vs[j]?=some v):setAll m xs vs x=some v:=by
 induction xs generalizing vs m j with
 | nil=>exact none_some List.getElem?_nil h
 | cons y ys ih=>
  have nd:=List.nodup_cons.mp nd;cases vs with
  | nil=>exact none_some List.getElem?_nil h'
  | cons w ws=>
   cases j with
   | zero=>
    cases Ag h; cases Ag h';exact (setAll_not ys ws _ nd.1).trans (if_pos rfl)
   | succ j=>exact ih ws _ j nd.2 h h'
noncomputable def nmE (xs:List (Str×Pos)):List Expr:=xs.map fun p=>.Name p.1 p.2
theorem assignEach_nm (xs:List (Str×Pos))(env:Env):assignEach (nmE xs) env=xs.map fun p=>(false,assign (.Name p.1 p.2) env):=by
 induction xs with
 | nil=>rfl
 | cons x r ih=>
  show (false,assign (.Name x.1 x.2) env)::assignEach (nmE r) env=_;rw [ih]; rfl
section
variable {M:Model}{A:Around}{E:Value->Shared->Prop}{env:Env}
theorem assign_names (hp:(env.scope.kind==.class||(env.scope.kind==.module&&env.locals != env.globals))=false){Q:Unit->Shared->Prop}(xs:List (Str×Pos))(vs:List Value)(m:Str->Option Value)(s:Shared)(hl:xs.length=vs.length)
  (hk:∀ p∈xs,env.kindOf p.1=some .local) (hn:s.heap.Ns env.locals m)
  (h:∀ h' tk,h'.Ns env.locals (setAll m (xs.map (·.1)) vs)->(∀ b o,b≠env.locals->s.heap.get? b=some o->h'.get? b=some o)->Q () { s with heap:=h',toks:=tk }) :
  wpAny M A (assignInOrder (xs.map fun p=>assign (.Name p.1 p.2) env) vs) Q E s:=by
 induction xs generalizing vs m s with
 | nil=>
  cases vs with
  | nil=>exact assignInOrder_nil (h s.heap s.toks hn fun _ _ _ e=>e)
  | cons _ _=>cases hl
 | cons p xs ih=>
  cases vs with
  | nil=>cases hl
  | cons v vs=>
   refine assignInOrder_cons (wpAny_assign_Name (wpAny_storeName_local (hk p (List.mem_cons_self ..)) hn (fun h₁ hn1 hs1=>?_) hp));exact ih vs _ _ (Nat.succ.inj hl) (fun q hq=>hk q (List.mem_cons_of_mem _ hq)) hn1 fun h2 tk₂ hn2 hk2=>h h2 tk₂ hn2 fun b o hb e=>hk2 b o hb ((hs1.2 b hb).trans e)
end
section
variable {c:Cx}{T:Stat}{C:Calls}{d u:Nat}
theorem picks_i {m j:Nat}{a:AV}{r ys:List AV}(h:picks m j (a::r)=some ys):∃ vs y zs,a=.tup vs∧vs.length=m∧vs[j]?=some y∧picks m j r=some zs∧ys=y::zs:=by
 cases a with
 | tup vs=>
  have h:(match Nat.beq vs.length m,vs[j]? with
   | true,some y=>(picks m j r).map (y::·)
   | _,_=>Option.none)=some ys:=h
  cases h0:Nat.beq vs.length m with
  | false=>rw [h0] at h; exact none_some rfl h
  | true=>
   cases h1:vs[j]? with
   | none=>rw [h0,h1] at h; exact none_some rfl h
   | some y=>
    cases h2:picks m j r with
    | none=>rw [h0,h1,h2] at h; exact none_some rfl h
    | some zs=>
     rw [h0,h1,h2] at h;exact ⟨vs,y,zs,rfl,As h0,h1,rfl,(Ag h).symm⟩
 | _=>exact none_some rfl h
theorem picks_get {m j:Nat}{l ys:List AV}(h:picks m j l=some ys):l.length=ys.length∧∀ (i:Nat) (y:AV),ys[i]?=some y->∃ vs:List AV,l[i]?=some (.tup vs)∧vs.length=m∧vs[j]?=some y:=by
 induction l generalizing ys with
 | nil=>cases Ag h; exact ⟨rfl,fun _ _ h=>none_some List.getElem?_nil h⟩
 | cons a r ih=>
  obtain ⟨vs,y,zs,rfl,hm,h1,h2,rfl⟩:=picks_i h;have ih:=ih h2;refine ⟨congrArg Nat.succ ih.1,fun i z hz=>?_⟩;cases i with
  | zero=>exact ⟨vs,rfl,hm,h1.trans hz⟩
  | succ i=>exact ih.2 i z hz
theorem not_imm_of {h:Heap} {I:Addr} {o:Obj} {x:String} (ho:h.get? I=some o) (hc:o.cls=.type x) (h1:x≠"tuple") (h2:x≠"range"):∀ b∈[I],∀ o,h.get? b=some o->¬ Imm o:=fun b hb o' ho' im=>by
 cases List.mem_singleton.mp hb;cases Ag (ho.symm.trans ho');rcases im with ⟨q,_⟩ | ⟨q,_⟩<;>rw [hc] at q<;>cases q
 ·exact h1 rfl
 ·exact h2 rfl
theorem tupIter_not_imm {items:Array Value}{I t:Addr}:∀ i h,(Heap.IsTupleIter h I t i∧h.IsTuple t items)->∀ b∈[I],∀ o,h.get? b=some o->¬ Imm o:=by
 rintro i h ⟨⟨o,ho,hc,hd⟩,_⟩;exact not_imm_of ho hc (by decide) (by decide)
theorem listIter_not_imm {items:Array Value}{I t:Addr}:∀ i h,(Heap.IsListIter h I t i∧h.IsList t items)->∀ b∈[I],∀ o,h.get? b=some o->¬ Imm o:=by
 rintro i h ⟨⟨o,ho,hc,hd⟩,_⟩;exact not_imm_of ho hc (by decide) (by decide)
theorem fp_lt {h:Heap}{t:Addr}{o:Obj}(ht:t<h.objs.size)(ho:o.isFreed=false):∀ b∈[h.objs.size,t],b<(h.push o).objs.size:=fun b hb=>by
 rcases List.mem_cons.mp hb with hb | hb
 ·rw [hb]; exact Heap.lt_size (Heap.get?_push_size _ ho)
 ·rw [List.mem_singleton.mp hb]; exact An ht (by rw [Heap.size_push]; exact Nat.le_succ _)
theorem old_wr {h:Heap}(o':Obj):∀ b o,h.get? b=some o->b∉[h.objs.size]∧(h.push o').get? b=some o:=fun b o e=>
 ⟨fun hb=>absurd (Heap.lt_size e) (List.mem_singleton.mp hb▸Nat.lt_irrefl _),Heap.get?_push_of_some _ e⟩
theorem cap_el {Y:Rho}{e:Ev}{J:Store}{s:Shared}{i:Nat}{a:AV}{y:Str}(S:c.S Y e J s)(he:e i=some a)(hy:c.vars[i]?=some y)(hk:c.f.env.kindOf y=some .cell){G:Prop}(k:∀ v ca,c.f.cells.lookup y=some ca->s.heap.IsCell ca (some v)->c.V s.heap Y a v->G):G:=by
 obtain ⟨y',v,hy',hval,r⟩:=S.ev i a he;cases Ag (hy.symm.trans hy');rcases hval with ⟨q,_⟩ | ⟨_,ca,h1,h2⟩
 ·cases Ag (hk.symm.trans q)
 ·exact k v ca h1 h2 r
theorem ev_compVar {m j:Nat}{src:E}{xs:List (Str×Pos)}{y:Str}{py tp pos:Pos}{k:Nat}{iter:Expr}{scope:Scope}(hsrc:EvX c T C d u src iter)(hfs:∀ env x,foldedSetIterable iter env x=pure x)
  (hm:xs.length=m) (hy:(xs.map (·.1))[j]?=some y) (nd:(xs.map (·.1)).Nodup) (hdb:(y==("__debug__" : Str))=false) (hfree:∀ x∈scope.names,x.2≠.free) (hcell:∀ x∈scope.names,x.2≠.cell) (hkind:scope.kind=.function)
  (hnames:∀ x∈scope.names,x.2=.local->scope.names.lookup x.1=some .local) (hloc:∀ p∈xs,scope.names.lookup p.1=some .local) :
  EvX c T C d u (.compVar m j src) (.ListComp (.Name y py) [⟨.Tuple (nmE xs) k tp,iter,[],0⟩] scope pos):=by
 intro A e J s Y Q X QC EC hA h S H HX;rw [eval_ListComp];refine wpAny_comprehension_free (use:=none) rfl (hfs _) (closureFor_none hfree) hkind hnames (hsrc A e J s Y _ X _ EC hA h S ?_ HX);intro v s₁ Y₁ a1 J1 hs1 P1 S1 r1 h₁;obtain ⟨l,rfl,h₁⟩:=tupW_i h₁;obtain ⟨ys,hp,q⟩:=optW_i h₁;obtain ⟨hlen,hget⟩:=picks_get hp;obtain ⟨t,items,rfl,ht,rs,hz⟩:=r1;have hl:=rs.size;have htlt:t<s₁.heap.objs.size:=by obtain ⟨n,ho⟩:=ht; exact Heap.lt_size ho
 have hne:t≠s₁.heap.objs.size:=Nat.ne_of_lt htlt;have hT:s₁.heap.IsTuple t items:=ht.tup;refine wpAny_pyIter_tuple hT ?_;have W:=KTurns.ofWalks (target:=.Tuple (nmE xs) k tp) (Walks.tuple (prog:=c.prog) (w:=c.w) (A:=A) hA.hand s₁.heap.objs.size t hne items) fun i v s Q E st q=>letGo_tupleiter st.1 q;refine comp_core (Y:=Y₁) (tk₂:=s₁.toks) (s₁:=s₁) (ys:=ys) W (fun i s Q E st q=>(Walks.tuple (prog:=c.prog) (w:=c.w) (A:=A) hA.hand s₁.heap.objs.size t hne items).self i s Q E st q) (hl▸hlen) (hlen▸hz) hcell hkind rfl (Aj _)
  ⟨⟨_,Heap.get?_push_size _ rfl,rfl,rfl⟩,hT.at fun o e=>Heap.get?_push_of_some _ e⟩ ?_ ?_ tupIter_not_imm ?_ ?_
 ·exact fp_lt htlt rfl
 ·exact old_wr _
 ·intro i v h tk CA m' QE EE hi hP hk hn hC hcont;have hyi:ys[i]?=some ys[i]:=List.getElem?_eq_getElem (hlen▸hl▸hi);obtain ⟨vs,hlv,hvm,hvj⟩:=hget i _ hyi;obtain ⟨v',hv',rv⟩:=rs.get hlv;rw [Array.getElem?_toList] at hv';have hvv:v=v':=Ag (hP.symm.trans hv');subst hvv;obtain ⟨t',its,rfl,⟨n',ht'⟩,rs',_⟩:=rv;have hl':=rs'.size;have ht'h:h.IsTuple t' its:=⟨_,hk _ _ ht',rfl,n',rfl⟩;obtain ⟨w,hw,rw'⟩:=rs'.get hvj;refine wpAny_assign_Tuple (s:={ s₁ with heap:=h,toks:=tk }) hA.hand ht'h (by rw [assignEach_nm,Ah,hm,← hvm,hl']) (by rw [assignEach_nm]; simp) fun h₁ he1=>?_;rw [assignEach_nm,List.map_map];have hCh:CA≠h.objs.size:=Nat.ne_of_lt hn.lt;refine assign_names (env:=compEnvC scope [] CA c.f.env) (by simp [compEnvC,relabel,hkind]) xs its.toList m' _ (by rw [hm,← hvm,hl',Array.length_toList]) (fun p hp=>lookup_relabel_local (hloc p hp)) (hn.at' fun o e=>he1 _ o hCh e) fun h2 tk₂ hn2 hk2=>?_;refine wpAny_Name (wpAny_loadName_local (by show scope.kind=.function; exact hkind) (lookup_relabel_local ?_) hn2 (setAll_get _ _ _ j nd hy hw) ?_) hdb
  ·have hym:=List.mem_of_getElem? hy;simp only [List.mem_map] at hym;obtain ⟨p,hp,rfl⟩:=hym;exact hloc p hp
  ·have kk:∀ b o,b≠CA->h.get? b=some o->h2.get? b=some o:=fun b o hb e=>hk2 b o hb (he1 b o (Nat.ne_of_lt (Heap.lt_size e)) e);refine hcont _ _ _ ⟨_,hn2⟩ kk fun a ha=>?_;rw [hyi] at ha; cases ha;exact RV.mono (fun b o eo im=>kk b o (fun hq=>none_some hC (hq▸eo)) (hk b o eo)) (Rho.Le.refl _) _ _ rw'
 ·intro D h' tk items' hD hk hL rsD hn;exact (H.pre hs1 P1).listAt S1 hk hD hL rsD (hlen▸hz) hn q
theorem ev_compPair {cap:Nat}{src:E}{x y:Str}{px px' py tp pos:Pos}{k:Nat}{iter:Expr}{scope:Scope}(V:VarsOk c.f c.vars)(hsrc:EvX c T C d u src iter)(hfs:∀ env x,foldedSetIterable iter env x=pure x)
  (hcap:c.vars[cap]?=some y) (hcc:c.f.env.kindOf y=some .cell) (hdx:(x==("__debug__" : Str))=false) (hfree:∀ z∈scope.names,z.2=.free->∃ a,c.f.cells.lookup z.1=some a) (hcell:∀ z∈scope.names,z.2≠.cell) (hkind:scope.kind=.function)
  (hnames:∀ z∈scope.names,z.2=.local->scope.names.lookup z.1=some .local) (hx:scope.names.lookup x=some .local) (hy:scope.names.lookup y=some .free) :
  EvX c T C d u (.compPair cap src) (.ListComp (.Tuple [.Name x px',.Name y py] k tp) [⟨.Name x px,iter,[],0⟩] scope pos):=by
 intro A e J s Y Q X QC EC hA h S H HX;rw [eval_ListComp];refine wpAny_comprehension_free (use:=none) rfl (hfs _) (closureFor_all hfree) hkind hnames (hsrc A e J s Y _ X _ EC hA h S ?_ HX);intro v s₁ Y₁ a1 J1 hs1 P1 S1 r1 h₁;obtain ⟨r,rfl,h₁⟩:=objW_i h₁;obtain ⟨l,hr,h₁⟩:=lstO_i h₁;obtain ⟨a,hea,q⟩:=varW_i h₁;obtain ⟨t,items,nn,rfl,hp,ho,rs,hz⟩:=Cx.S.list_at S1 hr r1;refine cap_el S1 hea hcap hcc fun va ca hca hcv rva=>?_;have hl:=rs.size;have htlt:t<s₁.heap.objs.size:=Heap.lt_size ho;have hne:t≠s₁.heap.objs.size:=Nat.ne_of_lt htlt;have hT:s₁.heap.IsList t items:=ho.isList;refine wpAny_pyIter_list hT ?_;have W:=KTurns.ofWalks (target:=.Name x px) (Walks.list (prog:=c.prog) (w:=c.w) (A:=A) hA.hand s₁.heap.objs.size t hne items) fun i v s Q E st q=>letGo_listiter st.1 q;refine comp_core (Y:=Y₁) (tk₂:=s₁.toks) (s₁:=s₁) (ys:=l.map fun z=>.tup [z,a]) W (fun i s Q E st q=>(Walks.list (prog:=c.prog) (w:=c.w) (A:=A) hA.hand s₁.heap.objs.size t hne items).self i s Q E st q) (by rw [Ah]; exact hl.symm) (by rw [Ah]; exact hz) hcell hkind rfl (Aj _)
  ⟨⟨_,Heap.get?_push_size _ rfl,rfl,rfl⟩,hT.at fun o e=>Heap.get?_push_of_some _ e⟩ ?_ ?_ listIter_not_imm ?_ ?_
 ·exact fp_lt htlt rfl
 ·exact old_wr _
 ·intro i v h tk CA m' QE EE hi hP hk hn hC hcont;have hil:i<l.length:=hl▸hi;have hli:l[i]?=some l[i]:=List.getElem?_eq_getElem hil;obtain ⟨v',hv',rv⟩:=rs.get hli;rw [Array.getElem?_toList] at hv';have hvv:v=v':=Ag (hP.symm.trans hv');subst hvv;have hkf:(compEnvC scope (clOf c.f.env.cells scope.names []) CA c.f.env).scope.kind=.function:=hkind;refine wpAny_assign_Name (wpAny_storeName_local (env:=compEnvC scope (clOf c.f.env.cells scope.names []) CA c.f.env) (lookup_relabel_local hx) hn (fun h₁ hn1 hs1=>?_) (by simp [compEnvC,relabel,hkind]));have kk1:∀ b o,b≠CA->h.get? b=some o->h₁.get? b=some o:=fun b o hb e=>(hs1.2 b hb).trans e;have hcaC:ca≠CA:=by
   obtain ⟨o,hoc,_⟩:=hcv;rintro rfl; rw [hC] at hoc; cases hoc
  have hcv1:h₁.IsCell ca (some va):=by
   obtain ⟨o,hoc,hd⟩:=hcv;exact ⟨o,kk1 _ _ hcaC (hk _ _ hoc),hd⟩
  show wpAny c.M A (do standAt tp; newTuple (← spliced (backTo tp (starEach [.Name x px',.Name y py] (compEnvC scope (clOf c.f.env.cells scope.names []) CA c.f.env))))) QE EE _;refine wpAny_bind (wpAny_standAt (wpAny_bind ?_));refine spliced_cons (wpAny_Name (wpAny_loadName_local (v:=v) hkf (lookup_relabel_local hx) hn1 (by simp) ?_) hdx);refine spliced_cons (wpAny_Name (wpAny_loadName_cell hkf (lookup_relabel_cell V.kind hy hcc) (clOf_look c.f.env.cells hca scope.names [] (.inr hy) (fun _ q=>nomatch q)) hcv1 ?_) (V.dbg y (List.mem_of_getElem? hcap)));refine spliced_nil (wpAny_newTuple ?_ (by show 2<=sizeLine; rw [sizeLine_eq]; decide));have kk:∀ b o,b≠CA->h.get? b=some o->(h₁.push { cls:=.type "tuple",data:=.seq [v,va].toArray }).get? b=some o:=fun b o hb e=>Heap.get?_push_of_some _ (kk1 b o hb e)
  refine hcont _ _ _ ⟨_,hn1.keeps fun b o e=>Heap.get?_push_of_some _ e⟩ kk fun a' ha'=>?_;rw [List.getElem?_map,hli] at ha';cases Ag ha';have imm:∀ b o,s₁.heap.get? b=some o->Imm o->(h₁.push { cls:=.type "tuple",data:=.seq [v,va].toArray }).get? b=some o:=fun b o eo im=>kk b o (fun hq=>none_some hC (hq▸eo)) (hk b o eo)
  exact ⟨_,[v,va].toArray,rfl,⟨0,Heap.get?_push_size _ rfl⟩,⟨_,_,rfl,RV.mono imm (Rho.Le.refl _) _ _ rv,.one (RV.mono imm (Rho.Le.refl _) _ _ rva)⟩,Ar 2 999998⟩
 ·intro D h' tk items' hD hk hL rsD hn;exact (H.pre hs1 P1).listAt S1 hk hD hL rsD (by rw [Ah]; exact hz) hn q
end
open PySem PySem.Calls PyProof.Rows PySem.SeqAt PySem.W
theorem sel_get (a:AV)(k:Int)(n:Nat)(l:List AV)(i:Nat):(sel a k n l)[i]?=(l[i]?).map fun x=>if ((n+i:Nat):Int)=k then a else x:=by
 induction l generalizing n i with
 | nil=>rfl
 | cons x r ih=>
  cases i with
  | zero=>rfl
  | succ i=>
   show (sel a k (n+1) r)[i]?=(r[i]?).map _;rw [ih (n+1) i,Aw]; rfl
theorem sel_length (a:AV)(k:Int)(n:Nat)(l:List AV):(sel a k n l).length=l.length:=by
 induction l generalizing n with
 | nil=>rfl
 | cons x r ih=>exact congrArg Nat.succ (ih (n+1))
section
variable {c:Cx}{T:Stat}{C:Calls}{d u:Nat}
theorem enum_not_imm {items:Array Value}{e it l:Addr}:∀ i h,((∃ old,IsEnum h e it ((i:Nat):Int) old)∧h.IsListIter it l i∧h.IsList l items)->∀ b∈[e,it],∀ o,h.get? b=some o->¬ Imm o:=by
 rintro i h ⟨⟨old,he⟩,⟨o,ho,hc,hd⟩,_⟩ b hb;rcases List.mem_cons.mp hb with rfl | hb
 ·exact not_imm_of he rfl (by decide) (by decide) _ (List.mem_singleton.mpr rfl)
 ·exact not_imm_of ho hc (by decide) (by decide) b hb
theorem ev_compSel {iv isp:Nat}{src:E}{xi xc yv ys:Str}{pi pc pi' pc' pv ps tp pos pe p1 p2 pif:Pos}{k:Nat}{iter:Expr}{scope:Scope}{N:Nm}{mg mb:Str->Option Value}(NO:NmOk c T N mg mb)(V:VarsOk c.f c.vars)
  (hsrc:EvX c T C d u src iter) (hst:∀ env rest,starEach (iter::rest) env=(false,eval iter env)::starEach rest env) (hke:c.f.env.kindOf "enumerate"=some .globalImplicit)
  (hv:c.vars[iv]?=some yv) (hcv:c.f.env.kindOf yv=some .cell) (hs:c.vars[isp]?=some ys) (hcs:c.f.env.kindOf ys=some .cell) (hdi:(xi==("__debug__" : Str))=false) (hdc:(xc==("__debug__" : Str))=false)
  (hne:xi≠xc)
  (hfree:∀ z∈scope.names,z.2=.free->∃ a,c.f.cells.lookup z.1=some a) (hcell:∀ z∈scope.names,z.2≠.cell) (hkind:scope.kind=.function)
  (hnames:∀ z∈scope.names,z.2=.local->scope.names.lookup z.1=some .local) (hxi:scope.names.lookup xi=some .local) (hxc:scope.names.lookup xc=some .local) (hyv:scope.names.lookup yv=some .free) (hys:scope.names.lookup ys=some .free) :
  EvX c T C d u (.compSel iv isp src) (.ListComp (.IfExp (.Compare (.Name xi pi') [.Eq] [.Name ys ps] pe) (.Name yv pv) (.Name xc pc') pif) [⟨.Tuple [.Name xi pi,.Name xc pc] k tp,.Call (.Name "enumerate" p1) [iter] [] p2,[],0⟩] scope pos):=by
 intro A e J s Y Q X QC EC hA h S H HX;rw [eval_ListComp];refine wpAny_comprehension_free (use:=none) rfl (fun _=>rfl) (closureFor_all hfree) hkind hnames ?_;refine eval_callName (xs:=[iter]) (ld_name S V ⟨hke,by decide⟩ NO.g NO.b (.inr NO.enum) ?_);refine callWith_of (P:=c.base.StaysIn) (by rw [hst]; rfl) (keep_type _) (evalArgs_any (by rw [hst]; rfl) ?_);rw [hst];show wpAny c.M A (spliced [(false,eval iter c.f.env)]) _ EC s;refine spliced_cons (hsrc A e J s Y _ X _ EC hA h S ?_ HX);intro v s₁ Y₁ a1 J1 hs1 P1 S1 r1 h₁;refine spliced_nil ⟨S1.stays,?_⟩;obtain ⟨r,rfl,h₁⟩:=objW_i h₁;obtain ⟨l,hr,h₁⟩:=lstO_i h₁;obtain ⟨a,hea,h₁⟩:=varW_i h₁;obtain ⟨k',hek,h₁⟩:=varW_i h₁;obtain ⟨kk,rfl,q⟩:=intW_i h₁;obtain ⟨t,items,nn,rfl,hp,ho,rs,hz⟩:=Cx.S.list_at S1 hr r1;refine cap_el S1 hea hv hcv fun va ca hca hcva rva=>cap_el S1 hek hs hcs fun vk cs hcs' hcvs rvk=>?_;obtain ⟨tkk,rfl⟩:=rvk;have hl:=rs.size;have htlt:t<s₁.heap.objs.size:=Heap.lt_size ho;have hT:s₁.heap.IsList t items:=ho.isList;refine call_enumerate_list hT fun h₀ hen hit hsz hk0=>?_;refine wpAny_pyIter_enum hen ?_;have W:=KTurns.ofWalksU (elts:=[.Name xi pi,.Name xc pc]) (k:=k) (pos:=tp) (WalksT.enumerate (prog:=c.prog) (w:=c.w) (A:=A) hA.hand (s₁.heap.objs.size+1) s₁.heap.objs.size t (Nat.succ_ne_self _) (ktu_ne 1 htlt) (Nat.ne_of_lt htlt) items).toU;refine comp_core (Y:=Y₁) (tk₂:=s₁.toks) (s₁:=s₁) (ys:=sel a kk 0 l) W (fun i s Q E st q=>(WalksT.enumerate (prog:=c.prog) (w:=c.w) (A:=A) hA.hand (s₁.heap.objs.size+1) s₁.heap.objs.size t (Nat.succ_ne_self _) (ktu_ne 1 htlt) (Nat.ne_of_lt htlt) items).self i s Q E st q) (by rw [sel_length]; exact hl.symm) (by rw [sel_length]; exact hz) hcell hkind rfl (Aj _)
  ⟨⟨.none,hen⟩,hit,hT.at fun o e=>hk0 _ o e⟩ ?_ ?_ enum_not_imm ?_ ?_
 ·intro b hb;show b<h₀.objs.size;rw [hsz];rcases List.mem_cons.mp hb with rfl | hb
  ·exact Nat.lt_succ_self _
  rcases List.mem_cons.mp hb with rfl | hb
  ·exact Nat.lt_succ_of_lt (Nat.lt_succ_self _)
  ·rw [List.mem_singleton.mp hb]; exact Nat.lt_succ_of_lt (Nat.lt_succ_of_lt htlt)
 ·intro b o e;refine ⟨fun hb=>?_,hk0 b o e⟩;have hlt:=Heap.lt_size e;rcases List.mem_cons.mp hb with rfl | hb
  ·exact absurd hlt (Nat.not_lt.mpr (Nat.le_succ _))
  ·exact Nat.lt_irrefl _ (List.mem_singleton.mp hb▸hlt)
 ·intro i v h tk CA m' QE EE hi hP hk hn hC hcont;obtain ⟨T',vals,rfl,⟨ti,xv,hx,rfl⟩,hTT⟩:=hP;have hil:i<l.length:=hl▸hi;have hli:l[i]?=some l[i]:=List.getElem?_eq_getElem hil;obtain ⟨v',hv',rv⟩:=rs.get hli;rw [Array.getElem?_toList] at hv';have hvv:xv=v':=Ag (hx.symm.trans hv');subst hvv;have hkf:(compEnvC scope (clOf c.f.env.cells scope.names []) CA c.f.env).scope.kind=.function:=hkind;refine kcp_assign (s:={ s₁ with heap:=h,toks:=tk }) (env:=compEnvC scope (clOf c.f.env.cells scope.names []) CA c.f.env) hA.hand hTT (lookup_relabel_local hxi) (lookup_relabel_local hxc) (by simp [compEnvC,relabel,hkind]) hn fun h₁ tk1 hn1 kk1=>?_;have offC:∀ {cc:Addr} {vv:Value},s₁.heap.IsCell cc (some vv)->h₁.IsCell cc (some vv):=by
   rintro cc vv ⟨o,hoc,hd⟩;exact ⟨o,kk1 _ _ (fun q=>none_some hC (q▸hoc)) (hk _ _ hoc),hd⟩
  have imm:∀ b o,s₁.heap.get? b=some o->Imm o->h₁.get? b=some o:=fun b o eo im=>kk1 b o (fun hq=>none_some hC (hq▸eo)) (hk b o eo);have hsel:(sel a kk 0 l)[i]?=some (if ((i:Nat):Int)=kk then a else l[i]):=by rw [sel_get,hli]; simp
  refine wpAny_bind (wpAny_isTrue_Compare1 (wpAny_Name (wpAny_loadName_local (v:=.int i ti) hkf (lookup_relabel_local hxi) hn1 (by simp [hne]) ?_) hdi));refine wpAny_Name (wpAny_loadName_cell hkf (lookup_relabel_cell V.kind hys hcs) (clOf_look c.f.env.cells hcs' scope.names [] (.inr hys) (fun _ q=>nomatch q)) (offC hcvs) ?_) (V.dbg ys (List.mem_of_getElem? hs));refine PyProof.Rows.eq_int (wpAny_truthy_bool ?_);by_cases hik:((i:Nat):Int)=kk
  ·have hb:(((i:Nat):Int)==kk)=true:=by simp [hik]
   rw [hb];show wpAny c.M A (eval (.Name yv pv) _) QE EE _;refine wpAny_Name (wpAny_loadName_cell hkf (lookup_relabel_cell V.kind hyv hcv) (clOf_look c.f.env.cells hca scope.names [] (.inr hyv) (fun _ q=>nomatch q)) (offC hcva) ?_) (V.dbg yv (List.mem_of_getElem? hv));refine hcont _ _ _ ⟨_,hn1⟩ kk1 fun a' ha'=>?_;rw [hsel,if_pos hik] at ha'; cases ha';exact RV.mono imm (Rho.Le.refl _) _ _ rva
  ·have hb:(((i:Nat):Int)==kk)=false:=by simp [hik]
   rw [hb];show wpAny c.M A (eval (.Name xc pc') _) QE EE _;refine wpAny_Name (wpAny_loadName_local (v:=xv) hkf (lookup_relabel_local hxc) hn1 (by simp) ?_) hdc;refine hcont _ _ _ ⟨_,hn1⟩ kk1 fun a' ha'=>?_;rw [hsel,if_neg hik] at ha'; cases ha';exact RV.mono imm (Rho.Le.refl _) _ _ rv
 ·intro D h' tk items' hD hk hL rsD hn;exact (H.pre hs1 P1).listAt S1 hk hD hL rsD (by rw [sel_length]; exact hz) hn q
end
open PySem PySem.Calls PyProof.Rows PySem.SeqAt PySem.W
abbrev Cx.PO (c:Cx)(Y:Rho)(h:Heap)(Y':Rho)(h':Heap):Prop:=Stp c.F c.f.own Y h Y' h'
def FlR (base h:Heap)(Y:Rho)(fl:Fl)(f:Flow):Prop:=match fl with
 | .next=>f=.next
 | .brk=>f=.brk
 | .cont=>f=.cont
 | .ret a=>∃ v,f=.ret v∧RV base h Y a v
def OkF (c:Cx)(s:Shared)(Y:Rho)(Q:QF)(QC:Flow->Shared->Prop):Prop:=
 ∀ fl f' s' Y' e' J',Same s s'->c.PO Y s.heap Y' s'.heap->c.S Y' e' J' s'->FlR c.base s'.heap Y' fl f'->Q fl e' J'->QC f' s'
def OkG (c:Cx)(s:Shared)(Y:Rho)(X:XS)(EC:Value->Shared->Prop):Prop:=
 ∀ ex s' Y' e' J',Same s s'->c.PO Y s.heap Y' s'.heap->c.S Y' e' J' s'->Exn s.heap s'.heap ex->X e' J'->EC (.ref ex) s'
section
variable {c:Cx}{e:Ev}{s s₁:Shared}{Y Y₁:Rho}{X:XS}{EC:Value->Shared->Prop}
theorem OkF.pre {Q:QF}{QC:Flow->Shared->Prop}(H:OkF c s Y Q QC)(hs:Same s s₁)(P:c.PO Y s.heap Y₁ s₁.heap):OkF c s₁ Y₁ Q QC:=
 fun fl f' s' Y' e' J' hs' P' S' r q=>H fl f' s' Y' e' J' (hs.trans hs') (P.trans P') S' r q
theorem OkF.pre' {Q:QF}{QC:Flow->Shared->Prop}(H:OkF c s Y Q QC)(hs:Same s s₁)(P:c.P Y s.heap Y₁ s₁.heap):OkF c s₁ Y₁ Q QC:=H.pre hs P.of_nope
theorem OkG.pre (H:OkG c s Y X EC)(hs:Same s s₁)(P:c.PO Y s.heap Y₁ s₁.heap):OkG c s₁ Y₁ X EC:=
 fun ex s' Y' e' J' hs' P' S' x q=>H ex s' Y' e' J' (hs.trans hs') (P.trans P') S' (x.pre P.dom) q
theorem OkG.pre' (H:OkG c s Y X EC)(hs:Same s s₁)(P:c.P Y s.heap Y₁ s₁.heap):OkG c s₁ Y₁ X EC:=H.pre hs P.of_nope
theorem OkG.x (H:OkG c s Y X EC):OkX c e s Y (X e) EC:=fun ex s' Y' J' hs' P' S' x q=>H ex s' Y' e J' hs' P'.of_nope S' x q
theorem OkF.now {Q:QF}{QC:Flow->Shared->Prop}{J:Store}(H:OkF c s Y Q QC)(S:c.S Y e J s){fl:Fl}{f':Flow}(r:FlR c.base s.heap Y fl f')(q:Q fl e J):QC f' s:=H fl f' s Y e J (Same.refl s) Stp.refl S r q
theorem OkF.nx {Q:QF}{QC:Flow->Shared->Prop}{J:Store}(H:OkF c s Y Q QC)(S:c.S Y e J s)(q:Q .next e J):QC .next s:=H.now S (fl:=.next) rfl q
end
theorem store_cs {c:Cx}{A:Around}{EC:Value->Shared->Prop}{Y:Rho}{e:Ev}{J:Store}{s:Shared}(V:VarsOk c.f c.vars)(S:c.S Y e J s){i:Nat}{x:Str}{a:AV}{v:Value}(hx:c.vars[i]?=some x)(hv:c.V s.heap Y a v){QC:Unit->Shared->Prop}
  (h:∀ s',Same s s'->c.PO Y s.heap Y s'.heap->c.S Y (upd e i a) J s'->QC () s'):wpAny c.M A (storeName c.f.env x v) QC EC s:=by
 refine store_var V S.toSt hx hv fun s' hs P S'=>h s' hs P ⟨S',An S.pos hs.2.2.2,fun t ht=>S.tks t (Aa hs.2.2.2 ht),S.ini⟩
theorem store_all {c:Cx}{A:Around}{EC:Value->Shared->Prop}{Y:Rho}{J:Store}(V:VarsOk c.f c.vars){QC:Unit->Shared->Prop}(is:List Nat)(xs:List (Str×Pos))(as:List AV)(vs:List Value)(e:Ev)(s:Shared)(hl:is.length=xs.length)(hl2:as.length=is.length)
  (hv:∀ (j:Nat) (i:Nat) (x:Str×Pos),is[j]?=some i->xs[j]?=some x->c.vars[i]?=some x.1) (S:c.S Y e J s) (r:RVs c.base s.heap Y as vs)
  (h:∀ s',Same s s'->c.PO Y s.heap Y s'.heap->c.S Y (upds e is as) J s'->QC () s'):wpAny c.M A (assignInOrder (xs.map fun p=>assign (.Name p.1 p.2) c.f.env) vs) QC EC s:=by
 induction is generalizing xs as vs e s with
 | nil=>
  cases List.length_eq_zero_iff.mp hl.symm;cases List.length_eq_zero_iff.mp hl2;cases (r:vs=[]);exact assignInOrder_nil (h s (Same.refl s) Stp.refl S)
 | cons i is ih=>
  cases xs with
  | nil=>cases hl
  | cons x xs=>
  cases as with
  | nil=>cases hl2
  | cons a as=>
  refine r.el (P:=fun vs=>wpAny c.M A (assignInOrder ((x::xs).map fun p=>assign (.Name p.1 p.2) c.f.env) vs) QC EC s) fun v vs r1 r2=>?_;exact assignInOrder_cons (wpAny_assign_Name (store_cs V S (hv 0 i x rfl rfl) r1 fun s' hs P S'=>ih xs as vs (upd e i a) s' (Nat.succ.inj hl) (Nat.succ.inj hl2) (fun j=>hv (j+1)) S' (P.rvs r2) fun s'' hs' P' S''=>h s'' (hs.trans hs') (P.trans P') S''))
section
variable (c:Cx)(T:Stat)(C:Calls)(d u:Nat)
def StX (ir:S)(x:Stmt):Prop:=∀ A e J s Y Q X QC EC,AOk c d u A->PassesOwn c.M A c.f.env EC->stW T C ir e J Q X->c.S Y e J s->OkF c s Y Q QC->OkG c s Y X EC->wpAny c.M A (exec x c.f.env) QC EC s
def SsX (ir:Ss)(xs:List Stmt):Prop:=∀ A e J s Y Q X QC EC,AOk c d u A->PassesOwn c.M A c.f.env EC->ssW T C ir e J Q X->c.S Y e J s->OkF c s Y Q QC->OkG c s Y X EC->wpAny c.M A (execs xs c.f.env) QC EC s
end
section
variable {c:Cx}{T:Stat}{C:Calls}{d u:Nat}
theorem ss_nil:SsX c T C d u .nil []:=fun A e J s Y Q X QC EC hA hE h S H HX=>wpAny_execs_nil (H.nx S h)
theorem ss_one {a:S}{x:Stmt}(ha:StX c T C d u a x):SsX c T C d u (.cons a .nil) [x]:=by
 intro A e J s Y Q X QC EC hA hE h S H HX;refine wpAny_execs_cons (ha A e J s Y _ X _ EC hA hE h S ?_ HX);intro fl f' s' Y' e' J' hs' P' S' r q;have H:=H fl f' s' Y' e' J' hs' P' S' r q;cases f' with
 | next=>exact wpAny_execs_nil H
 | _=>exact H
theorem ss_cons {a b:S}{as:Ss}{x:Stmt}{xs:List Stmt}(ha:StX c T C d u a x)(hs:SsX c T C d u (.cons b as) xs):SsX c T C d u (.cons a (.cons b as)) (x::xs):=by
 intro A e J s Y Q X QC EC hA hE h S H HX;refine wpAny_execs_cons (ha A e J s Y _ X _ EC hA hE h S ?_ HX);intro fl f' s' Y' e' J' hs' P' S' r q;cases fl with
 | next=>cases (r:f'=.next); exact hs A e' J' s' Y' Q X QC EC hA hE q S' (H.pre hs' P') (HX.pre hs' P')
 | brk=>cases (r:f'=.brk); exact H .brk _ s' Y' e' J' hs' P' S' rfl q
 | cont=>cases (r:f'=.cont); exact H .cont _ s' Y' e' J' hs' P' S' rfl q
 | ret a=>have r':=r; obtain ⟨v,rfl,rv⟩:=r'; exact H (.ret a) _ s' Y' e' J' hs' P' S' r q
theorem st_expr {a:E}{x:Expr}{p:Pos}(V:VarsOk c.f c.vars)(ha:EvX c T C d u a x)(hsw:∀ t l env,swapsWith x t l env=pure false):StX c T C d u (.expr a) (.Expr x p):=by
 intro A e J s Y Q X QC EC hA hE h S H HX;refine wpAny_Expr_any (ha A e J s Y _ (X e) _ EC hA h S ?_ HX.x) (by unfold interactive; rw [show c.f.env.scope.kind=.function from V.kind]; rfl) (hsw _ _ _);intro v s₁ Y₁ a1 J1 hs1 P1 S1 r1 h₁;exact (H.pre' hs1 P1).nx S1 h₁
theorem st_set {i:Nat}{a:E}{x:Expr}{y:Str}{p p':Pos}(V:VarsOk c.f c.vars)(ha:EvX c T C d u a x)(hsw:∀ t l env,swapsWith x t l env=pure false)(hy:c.vars[i]?=some y):StX c T C d u (.set i a) (.Assign [.Name y p'] x p):=by
 intro A e J s Y Q X QC EC hA hE h S H HX;refine wpAny_Assign_Name (ha A e J s Y _ (X e) _ EC hA h S ?_ HX.x) (hsw _ _ _);intro v s₁ Y₁ a1 J1 hs1 P1 S1 r1 h₁;refine store_cs V S1 hy r1 fun s2 hs2 P2 S2=>?_;exact ((H.pre' hs1 P1).pre hs2 P2).nx S2 h₁
theorem keeps_of_ext {h h':Heap}(he:Heap.ExtBut h.objs.size h h'):∀ b o,h.get? b=some o->h'.get? b=some o:=fun b o e=>he b o (Nat.ne_of_lt (Heap.lt_size e)) e
theorem tgT_i {is:List Nat}{e:Ev}{v:AV}{P:Ev->Prop}(h:tgT is e v P):∃ vs,v=.tup vs∧vs.length=is.length∧P (upds e is vs):=by
 cases v with
 | tup vs=>
  obtain ⟨hl,h⟩:=grdW_i h;exact ⟨vs,rfl,As hl,h⟩
 | _=>exact h.elim
theorem st_setT {is:List Nat}{a:E}{x:Expr}{xs:List (Str×Pos)}{k:Nat}{tp p:Pos}(V:VarsOk c.f c.vars)(ha:EvX c T C d u a x)(hsw:∀ t l env,swapsWith x t l env=pure false)(hlen:is.length=xs.length)
  (hv:∀ (j:Nat) (i:Nat) (x:Str×Pos),is[j]?=some i->xs[j]?=some x->c.vars[i]?=some x.1) (hno:swappedStores [.Tuple (nmE xs) k tp] x c.f.env=pure none):StX c T C d u (.setT is a) (.Assign [.Tuple (nmE xs) k tp] x p):=by
 intro A e J s Y Q X QC EC hA hE h S H HX;refine wpAny_Assign_stores (ha A e J s Y _ (X e) _ EC hA h S ?_ HX.x) (by unfold swapsWithSole; exact hsw _ _ _) hno;intro v s₁ Y₁ a1 J1 hs1 P1 S1 r1 h₁;obtain ⟨vs,rfl,hl,q⟩:=tgT_i h₁;obtain ⟨t,items,rfl,ht,rs,_⟩:=r1;have hl2:=rs.size;show wpAny c.M A (assign (.Tuple (nmE xs) k tp) c.f.env (.ref t)) _ EC s₁;refine wpAny_assign_Tuple hA.hand ht.tup (by rw [assignEach_nm,Ah,← hlen,← hl,hl2]) (by rw [assignEach_nm]; simp) fun h2 he2=>?_;rw [assignEach_nm,List.map_map];have hk2:=keeps_of_ext he2;have S2:c.S Y₁ e J1 { s₁ with heap:=h2 }:=S1.heap (S1.toSt.other hk2);have P2:c.P Y₁ s₁.heap Y₁ h2:=Stp.other hk2;refine store_all (s:={ s₁ with heap:=h2 }) V is xs vs items.toList e hlen hl hv S2 (P2.rvs rs) fun s3 hs3 P3 S3=>?_;exact (((H.pre' hs1 P1).pre' (s₁:={ s₁ with heap:=h2 }) ⟨rfl,rfl,rfl,Aj _⟩ P2).pre hs3 P3).nx S3 q
theorem len2 {vs:List AV}(h:vs.length=2):∃ a b,vs=[a,b]:=by
 match vs,h with
 | [a,b],_=>exact ⟨a,b,rfl⟩
theorem upd_swap {i j:Nat}(hij:i≠j){e:Ev}{a b:AV}:upds e [i,j] [a,b]=upd (upd e j b) i a:=by
 funext n;show cond (Nat.beq n j) (some b) (cond (Nat.beq n i) (some a) (e n))=cond (Nat.beq n i) (some a) (cond (Nat.beq n j) (some b) (e n));cases h1:Nat.beq n i with
 | false=>rfl
 | true=>
  cases h2:Nat.beq n j with
  | false=>rfl
  | true=>exact absurd ((As h1).symm.trans (As h2)) hij
theorem st_setTS {i j:Nat}{a:E}{x:Expr}{y z:Str}{py pz:Pos}{k:Nat}{tp p:Pos}(V:VarsOk c.f c.vars)(ha:EvX c T C d u a x)(hsw:∀ t l env,swapsWith x t l env=pure false)(hij:i≠j)
  (hy:c.vars[i]?=some y) (hz:c.vars[j]?=some z) (hno:swappedStores [.Tuple [.Name y py,.Name z pz] k tp] x c.f.env=pure (some [y,z])):StX c T C d u (.setT [i,j] a) (.Assign [.Tuple [.Name y py,.Name z pz] k tp] x p):=by
 intro A e J s Y Q X QC EC hA hE h S H HX;rw [exec_Assign_arm];refine wpAny_bind (wpAny_standAt ?_);have:swapsWithSole [.Tuple [.Name y py,.Name z pz] k tp] x p.line c.f.env=pure false:=by unfold swapsWithSole; exact hsw _ _ _
 rw [this];refine wpAny_bind (wpAny_pure ?_);rw [if_neg (by decide)];refine wpAny_bind (ha A e J s Y _ (X e) _ EC hA h S ?_ HX.x);intro v s₁ Y₁ a₁ J1 hs1 P1 S1 r₁ h₁;rw [hno];refine wpAny_bind (wpAny_pure ?_);obtain ⟨vs,rfl,hl,q⟩:=tgT_i h₁;obtain ⟨t,items,rfl,ht,rs,_⟩:=r₁;have hl2:=rs.size;show wpAny c.M A (do
  rule "assign.swapped-stores"
  let items ← unpackItems (.ref t) 2 none
  assignInOrder [bindName c.f.env z,bindName c.f.env y] items.reverse
  pure .next) QC EC s₁
 have hsz:(2:Nat)=items.size:=hl.symm.trans hl2;refine wpAny_bind (wpAny_rule (wpAny_bind ?_));rw [hsz];refine wpAny_unpackItems_tuple hA.hand ht.tup fun h2 he2=>?_;have hk2:=keeps_of_ext he2;have S2:c.S Y₁ e J1 { s₁ with heap:=h2 }:=S1.heap (S1.toSt.other hk2);have P2:c.P Y₁ s₁.heap Y₁ h2:=Stp.other hk2;obtain ⟨a1,a2,rfl⟩:=len2 hl;obtain ⟨v1,v2,hvs,r1,r2⟩:=args2 (P2.rvs rs);rw [hvs];refine wpAny_bind ?_;show wpAny c.M A (assignInOrder [bindName c.f.env z,bindName c.f.env y] [v2,v1]) _ EC _;refine assignInOrder_cons (wpAny_bindName (store_cs (s:={ s₁ with heap:=h2 }) V S2 hz r2 fun s3 hs3 P3 S3=>?_));refine assignInOrder_cons (wpAny_bindName (store_cs V S3 hy (P3.rv r1) fun s4 hs4 P4 S4=>assignInOrder_nil (wpAny_pure ?_)));refine ((((H.pre' hs1 P1).pre' (s₁:={ s₁ with heap:=h2 }) ⟨rfl,rfl,rfl,Aj _⟩ P2).pre hs3 P3).pre hs4 P4).nx S4 ?_;have e1:upds e [i,j] [a1,a2]=upd (upd e j a2) i a1:=upd_swap hij;rw [← e1];exact q
theorem three_le:3<=sizeLine+2:=by rw [sizeLine_eq]; decide
theorem st_setAttr {o a:E}{z:At}{x y:Expr}{p p':Pos}(O:CxOk c)(ha:EvX c T C d u a x)(ho:EvX c T C d u o y)(hsw:∀ t l env,swapsWith x t l env=pure false):StX c T C d u (.setAttr o z a) (.Assign [.Attribute y (atName z) p'] x p):=by
 intro A e J s Y Q X QC EC hA hE h S H HX;refine wpAny_Assign_stores (ha A e J s Y _ (X e) _ EC hA h S ?_ HX.x) (by unfold swapsWithSole; exact hsw _ _ _) (by rfl);intro v s₁ Y₁ a1 J1 hs1 P1 S1 r1 h₁;show wpAny c.M A (do
  let ov ← holding [v] (eval y c.f.env)
  standAt p'.atName
  holding [v,ov] (setAttr ov (atName z) v)
  release [v,ov] []) _ EC s₁
 refine wpAny_bind (wpAny_holding (ho A e J1 s₁ Y₁ _ (X e) _ EC hA h₁ S1 ?_ (HX.pre' hs1 P1).x));intro w s2 Y2 a2 J2 hs2 P2 S2 r2 h2;refine wpAny_bind (wpAny_standAt (wpAny_bind (wpAny_holding (setAttr_sound O h2 S2 r2 (P2.rv r1) ?_))));intro s3 Y3 J3 hs3 P3 S3 h3;exact wpAny_release' ((((H.pre' hs1 P1).pre' hs2 P2).pre' hs3 P3).nx S3 h3)
theorem st_setIdx {o i a:E}{x y z:Expr}{p p':Pos}(ha:EvX c T C d u a x)(ho:EvX c T C d u o y)(hi:EvX c T C d u i z)(hsw:∀ t l env,swapsWith x t l env=pure false):StX c T C d u (.setIdx o i a) (.Assign [.Subscript y z p'] x p):=by
 intro A e J s Y Q X QC EC hA hE h S H HX;refine wpAny_Assign_Subscript (ha A e J s Y _ (X e) _ EC hA h S ?_ HX.x) (hsw _ _ _);intro v s₁ Y₁ a1 J1 hs1 P1 S1 r1 h₁;refine ho A e J1 s₁ Y₁ _ (X e) _ EC hA h₁ S1 ?_ (HX.pre' hs1 P1).x;intro w s2 Y2 a2 J2 hs2 P2 S2 r2 h2;refine hi A e J2 s2 Y2 _ (X e) _ EC hA h2 S2 ?_ ((HX.pre' hs1 P1).pre' hs2 P2).x;intro iv s3 Y3 a3 J3 hs3 P3 S3 r3 h3;refine setIdx_sound h3 S3 (P3.rv r2) r3 (P3.rv (P2.rv r1)) ?_;intro s4 Y4 J4 hs4 P4 S4 h4;exact ((((H.pre' hs1 P1).pre' hs2 P2).pre' hs3 P3).pre' hs4 P4).nx S4 h4
theorem st_setSlice {o lo hi a:E}{x y zl zh:Expr}{p p' p2:Pos}(ha:EvX c T C d u a x)(ho:EvX c T C d u o y)(hl:EvX c T C d u lo zl)(hh:EvX c T C d u hi zh)(hsw:∀ t l env,swapsWith x t l env=pure false) :
  StX c T C d u (.setSlice o lo hi a) (.Assign [.Subscript y (.Slice (some zl) (some zh) none p2) p'] x p):=by
 intro A e J s Y Q X QC EC hA hE h S H HX;refine wpAny_Assign_Subscript (ha A e J s Y _ (X e) _ EC hA h S ?_ HX.x) (hsw _ _ _);intro v s₁ Y₁ a1 J1 hs1 P1 S1 r1 h₁;refine ho A e J1 s₁ Y₁ _ (X e) _ EC hA h₁ S1 ?_ (HX.pre' hs1 P1).x;intro w s2 Y2 a2 J2 hs2 P2 S2 r2 h2;show wpAny c.M A (do
  let l ← eval zl c.f.env;let u ← holding [l] (eval zh c.f.env);let s ← holding [l,u] (valueOrNone (evalOpt none c.f.env))
  newFields "slice" [l,u,s]) _ EC s2
 refine wpAny_bind (hl A e J2 s2 Y2 _ (X e) _ EC hA h2 S2 ?_ ((HX.pre' hs1 P1).pre' hs2 P2).x);intro vl s3 Y3 a3 J3 hs3 P3 S3 r3 h3;refine wpAny_bind (wpAny_holding (hh A e J3 s3 Y3 _ (X e) _ EC hA h3 S3 ?_ (((HX.pre' hs1 P1).pre' hs2 P2).pre' hs3 P3).x));intro vh s4 Y4 a4 J4 hs4 P4 S4 r4 h4;refine wpAny_bind (wpAny_holding (wpAny_pure ?_));refine wpAny_newObj_type ?_ three_le;refine setSlice_sound h4 S4 (P4.rv (P3.rv r2)) (P4.rv r3) r4 (P4.rv (P3.rv (P2.rv r1))) ?_;intro s5 Y5 J5 hs5 P5 S5 h5;exact (((((H.pre' hs1 P1).pre' hs2 P2).pre' hs3 P3).pre' hs4 P4).pre' hs5 P5).nx S5 h5
theorem st_aug {i:Nat}{op:BOp}{a:E}{x:Expr}{y:Str}{p p':Pos}(V:VarsOk c.f c.vars)(ha:EvX c T C d u a x)(hy:c.vars[i]?=some y):StX c T C d u (.aug i op a) (.AugAssign (.Name y p') (opOf op) x p):=by
 intro A e J s Y Q X QC EC hA hE h S H HX;obtain ⟨old,ho,h⟩:=varW_i h;refine wpAny_AugAssign_Name (load_var V S.toSt hy ho fun vo ro=>?_);refine ha A e J s Y _ (X e) _ EC hA h S ?_ HX.x;intro v s₁ Y₁ a1 J1 hs1 P1 S1 r1 h₁;refine iadd_sound h₁ S1 (P1.rv ro) r1 ?_;intro w s2 Y2 a2 J2 hs2 P2 S2 r2 h2;refine store_cs V S2 hy r2 fun s3 hs3 P3 S3=>?_;exact (((H.pre' hs1 P1).pre' hs2 P2).pre hs3 P3).nx S3 h2
theorem st_augAttr {o a:E}{z:At}{op:BOp}{x y:Expr}{p p':Pos}(O:CxOk c)(ho:EvX c T C d u o y)(ha:EvX c T C d u a x):StX c T C d u (.augAttr o z op a) (.AugAssign (.Attribute y (atName z) p') (opOf op) x p):=by
 intro A e J s Y Q X QC EC hA hE h S H HX;refine wpAny_AugAssign_AttributeAny (ho A e J s Y _ (X e) _ EC hA h S ?_ HX.x);intro w s₁ Y₁ a1 J1 hs1 P1 S1 r1 h₁;refine attr_sound (Q:=fun old J1'=>evW T C a e J1' (fun v J2=>iaddW op old v J2 fun w J3=>setAttrW a1 z w J3 fun J4=>Q .next e J4) (X e)) O h₁ S1 r1 ?_;intro vo s2 Y2 a2 J2 hs2 P2 S2 r2 h2;refine ha A e J2 s2 Y2 _ (X e) _ EC hA h2 S2 ?_ ((HX.pre' hs1 P1).pre' hs2 P2).x;intro v s3 Y3 a3 J3 hs3 P3 S3 r3 h3;refine iadd_sound h3 S3 (P3.rv r2) r3 ?_;intro nw s4 Y4 a4 J4 hs4 P4 S4 r4 h4;refine setAttr_sound O h4 S4 (P4.rv (P3.rv (P2.rv r1))) r4 ?_;intro s5 Y5 J5 hs5 P5 S5 h5;exact (((((H.pre' hs1 P1).pre' hs2 P2).pre' hs3 P3).pre' hs4 P4).pre' hs5 P5).nx S5 h5
theorem st_augIdx {o i a:E}{op:BOp}{x y z:Expr}{p p':Pos}(ho:EvX c T C d u o y)(hi:EvX c T C d u i z)(ha:EvX c T C d u a x)
  (hz:∀ ov iv new,augStore z ov iv new=(do holding [new,ov,iv] (setItem ov iv new); release [new,ov,iv] []; pure .next)):StX c T C d u (.augIdx o i op a) (.AugAssign (.Subscript y z p') (opOf op) x p):=by
 intro A e J s Y Q X QC EC hA hE h S H HX;refine wpAny_AugAssign_SubscriptAny (ho A e J s Y _ (X e) _ EC hA h S ?_ HX.x) hz;intro w s₁ Y₁ a1 J1 hs1 P1 S1 r1 h₁;refine hi A e J1 s₁ Y₁ _ (X e) _ EC hA h₁ S1 ?_ (HX.pre' hs1 P1).x;intro iv s2 Y2 a2 J2 hs2 P2 S2 r2 h2;refine idx_sound (Q:=fun old J2'=>evW T C a e J2' (fun v J3=>iaddW op old v J3 fun w J4=>setIdxW a1 a2 w J4 fun J5=>Q .next e J5) (X e)) h2 S2 (P2.rv r1) r2 ?_;intro vo s3 Y3 a3 J3 hs3 P3 S3 r3 h3;refine ha A e J3 s3 Y3 _ (X e) _ EC hA h3 S3 ?_ (((HX.pre' hs1 P1).pre' hs2 P2).pre' hs3 P3).x;intro v s4 Y4 a4 J4 hs4 P4 S4 r4 h4;refine iadd_sound h4 S4 (P4.rv r3) r4 ?_;intro nw s5 Y5 a5 J5 hs5 P5 S5 r5 h5;refine setIdx_sound h5 S5 (P5.rv (P4.rv (P3.rv (P2.rv r1)))) (P5.rv (P4.rv (P3.rv r2))) r5 ?_;intro s6 Y6 J6 hs6 P6 S6 h6;exact ((((((H.pre' hs1 P1).pre' hs2 P2).pre' hs3 P3).pre' hs4 P4).pre' hs5 P5).pre' hs6 P6).nx S6 h6
theorem st_delFrom {o lo:E}{y z:Expr}{p p1 p2:Pos}(ho:EvX c T C d u o y)(hl:EvX c T C d u lo z):StX c T C d u (.delFrom o lo) (.Delete [.Subscript y (.Slice (some z) none none p2) p1] p):=by
 intro A e J s Y Q X QC EC hA hE h S H HX;refine wpAny_Delete (wpAny_deleteEach_cons ?_);show wpAny c.M A (do
  let ov ← eval y c.f.env;let iv ← holding [ov] (eval (.Slice (some z) none none p2) c.f.env)
  standAt p1
  holding [ov,iv] (delItem ov iv)
  release [ov,iv] []) _ EC s
 refine wpAny_bind (ho A e J s Y _ (X e) _ EC hA h S ?_ HX.x);intro w s₁ Y₁ a1 J1 hs1 P1 S1 r1 h₁;refine wpAny_bind (wpAny_holding ?_);show wpAny c.M A (do
  let l ← eval z c.f.env;let u ← holding [l] (valueOrNone (evalOpt none c.f.env));let s ← holding [l,u] (valueOrNone (evalOpt none c.f.env))
  newFields "slice" [l,u,s]) _ EC s₁
 refine wpAny_bind (hl A e J1 s₁ Y₁ _ (X e) _ EC hA h₁ S1 ?_ (HX.pre' hs1 P1).x);intro vl s2 Y2 a2 J2 hs2 P2 S2 r2 h2;refine wpAny_bind (wpAny_holding (wpAny_pure (wpAny_bind (wpAny_holding (wpAny_pure ?_)))));refine wpAny_newObj_type ?_ three_le;refine wpAny_bind (wpAny_standAt (wpAny_bind (wpAny_holding (delFrom_sound h2 S2 (P2.rv r1) r2 ?_))));intro s3 Y3 J3 hs3 P3 S3 h3;exact wpAny_release' (wpAny_deleteEach_nil ((((H.pre' hs1 P1).pre' hs2 P2).pre' hs3 P3).nx S3 h3))
theorem st_ifs {q:E}{a b:Ss}{x:Expr}{ya yb:List Stmt}{p:Pos}(hq:TsX c T C d u q x)(ha:SsX c T C d u a ya)(hb:SsX c T C d u b yb):StX c T C d u (.ifs q a b) (.If x ya yb p):=by
 intro A e J s Y Q X QC EC hA hE h S H HX;refine wpAny_If (hq A e J s Y _ (X e) _ EC hA h S ?_ HX.x);intro r s₁ Y₁ J1 hs1 P1 S1 q';rcases ifW_i q' with ⟨rfl,q'⟩ | ⟨rfl,q'⟩
 ·exact ⟨_,rfl,ha A e J1 s₁ Y₁ Q X QC EC hA hE q' S1 (H.pre' hs1 P1) (HX.pre' hs1 P1)⟩
 ·exact ⟨_,rfl,hb A e J1 s₁ Y₁ Q X QC EC hA hE q' S1 (H.pre' hs1 P1) (HX.pre' hs1 P1)⟩
theorem st_ret {a:E}{x:Expr}{p:Pos}(ha:EvX c T C d u a x):StX c T C d u (.ret a) (.Return (some x) p):=by
 intro A e J s Y Q X QC EC hA hE h S H HX;refine wpAny_Return_some (ha A e J s Y _ (X e) _ EC hA h S ?_ HX.x);intro v s₁ Y₁ a1 J1 hs1 P1 S1 r1 h₁;exact (H.pre' hs1 P1).now S1 (fl:=.ret a1) ⟨_,rfl,r1⟩ h₁
theorem st_brk {p:Pos}:StX c T C d u .brk (.Break p):=fun A e J s Y Q X QC EC hA hE h S H HX=>by
 show wpAny c.M A (do standAt p; pure .brk) QC EC s;exact wpAny_bind (wpAny_standAt (wpAny_pure (H.now S (fl:=.brk) rfl h)))
theorem st_cont {p:Pos}:StX c T C d u .cont (.Continue p):=fun A e J s Y Q X QC EC hA hE h S H HX=>by
 show wpAny c.M A (do standAt p; pure .cont) QC EC s;exact wpAny_bind (wpAny_standAt (wpAny_pure (H.now S (fl:=.cont) rfl h)))
theorem st_raise {a:E} {x:Expr} {p p1 p2:Pos} {N:Nm} {mg mb:Str->Option Value} (NO:NmOk c T N mg mb) (V:VarsOk c.f c.vars) (hk:c.f.env.kindOf "ValueError"=some .globalImplicit)
  (ha:EvX c T C d u a x) (hst:∀ env rest,starEach (x::rest) env=(false,eval x env)::starEach rest env):StX c T C d u (.raise a) (.Raise (some (.Call (.Name "ValueError" p1) [x] [] p2)) none p):=by
 intro A e J s Y Q X QC EC hA hE h S H HX;refine Raise_madeB PySem.F.excCall_ValueError PySem.F.excRaise_ValueError hA.hand (ld_name S V ⟨hk,by decide⟩ NO.g NO.b (.inr NO.ve) ⟨rfl,?_⟩) (hst _ _) rfl;rw [hst];show wpAny c.M A (spliced [(false,eval x c.f.env)]) _ EC s;refine spliced_cons (ha A e J s Y _ (X e) _ EC hA h S ?_ HX.x);intro v s₁ Y₁ a1 J1 hs1 P1 S1 r1 h₁;refine spliced_nil ⟨by show 1<=sizeLine; rw [sizeLine_eq]; decide,fun h2 ex me=>?_⟩;have S2:c.S Y₁ e J1 { s₁ with heap:=h2 }:=S1.heap (S1.toSt.other me.keeps);obtain ⟨t,ht,_,_⟩:=me.there;refine (HX.pre' hs1 P1) ex _ Y₁ e J1 ⟨rfl,rfl,rfl,Aj _⟩ (Stp.other me.keeps) S2 ⟨me.new,_,_,⟨ht,rfl,rfl⟩,.inl rfl⟩ h₁
end
open PySem PySem.Calls PyProof.Rows PySem.SeqAt PySem.W
theorem Stp.thenBut {F:List Addr}{own:Addr->Prop}{Y Y':Rho}{h h' h'':Heap}{wr:List Addr}(x:Stp F own Y h Y' h')(hk:∀ b o,b∉wr->h'.get? b=some o->h''.get? b=some o)(hw:∀ b∈wr,h.get? b=none):Stp F own Y h Y' h'':=by
 have off:∀ b o,h.get? b=some o->b∉wr:=fun b o e m=>none_some (hw b m) e;refine ⟨x.pre,x.fresh,fun b o e=>?_,fun b o e i=>hk b o (off b o e) (x.imm b o e i),fun b o e n w f=>hk b o (off b o e) (x.keep b o e n w f),fun b o e n w=>?_⟩
 ·obtain ⟨o',e'⟩:=x.dom b o e; exact ⟨o',hk b o' (off b o e) e'⟩
 ·obtain ⟨sl,e'⟩:=x.slot b o e n w; exact ⟨sl,hk b _ (off b o e) e'⟩
theorem St.but {prog:Program}{w:World}{base:Heap}{cls:Nat->Option Addr}{f:Fm}{vars:List Str}{outer:List Env}{Y:Rho}{e:Ev}{J:Store}{h h':Heap}{wr:List Addr}(S:St prog w base cls f vars outer Y e J h)
  (hk:∀ b o,b∉wr->h.get? b=some o->h'.get? b=some o) (hm:∀ b∈wr,b∉muts Y∧¬ f.own b∧b∉framesOf (f.env::outer)∧base.get? b=none∧∀ o,h.get? b=some o->¬ Imm o):St prog w base cls f vars outer Y e J h':=by
 have imm:ImmK h h':=fun b o eo i=>hk b o (fun m=>(hm b m).2.2.2.2 o eo i) eo;exact S.moveC (own':=fun b=>b∈wr) (Rho.Le.refl _) imm (fun _ m=>.inl m) (fun b o eo _ m=>⟨o.slots,hk b o m eo⟩) (fun b m=>⟨(hm b m).2.1,(hm b m).2.2.1⟩) (fun b o eo=>hk b o (fun m=>none_some (hm b m).2.2.2.1 eo) (S.stays b o eo)) (S.sim.still imm fun b o hb eo=>hk b o (fun m=>(hm b m).1 hb) eo)
section
variable {c:Cx}{T:Stat}{C:Calls}{d u:Nat}
theorem CS.fresh {Y:Rho}{e:Ev}{J:Store}{s:Shared}(S:c.S Y e J s){b:Addr}(hb:s.heap.get? b=none):b∉muts Y∧¬ c.f.own b∧b∉c.F∧c.base.get? b=none:=by
 refine ⟨fun m=>?_,fun q=>?_,fun q=>?_,?_⟩
 ·obtain ⟨o,ho,_⟩:=S.sim.lt m; exact none_some hb ho
 ·rcases q with rfl | ⟨x,hc⟩
  ·obtain ⟨m,o,_,_,ho,_⟩:=S.ns; exact none_some hb ho
  ·obtain ⟨v,o,ho,_⟩:=S.cel x b hc; exact none_some hb ho
 ·obtain ⟨o,_,_,ho,_⟩:=S.frd b q; exact none_some hb ho
 ·cases q:c.base.get? b with
  | none=>rfl
  | some o=>exact none_some hb (S.stays b o q)
structure WhB (c:Cx)(W:Nat->Ev->Store->Prop)(s:Shared)(Y:Rho)(n:Nat)(s':Shared)(Y':Rho)(e':Ev)(J':Store):Prop where
 fa:Same s s'
 fb:c.PO Y s.heap Y' s'.heap
 fc:c.S Y' e' J' s'
 fd:W n e' J'
def WhI (c:Cx)(W:Nat->Ev->Store->Prop)(s:Shared)(Y:Rho)(n:Nat)(s':Shared):Prop:=∃ Y' e' J',WhB c W s Y n s' Y' e' J'
theorem st_whl {q:E}{b:Ss}{x:Expr}{ys:List Stmt}{p:Pos}(hq:TsX c T C d u q x)(hb:SsX c T C d u b ys):StX c T C d u (.whl q b) (.While x ys [] p):=by
 intro A e J s Y Q X QC EC hA hE h S H HX;obtain ⟨k,h⟩:=h;refine wpAny_While (codeAny_whileLoop (WhI c (fun n e' J'=>whlW (evW T C q) (ssW T C b) n e' J' Q X) s Y) ?_ k ⟨Y,e,J,Same.refl s,Stp.refl,S,h⟩);rintro n s₁ ⟨Y₁,e1,J1,hs1,P1,S1,h₁⟩;cases n with
 | zero=>exact h₁.elim
 | succ n=>
  refine wpAny_passesOwn hE (hq A e1 J1 s₁ Y₁ _ (X e1) _ EC hA h₁ S1 ?_ (HX.pre hs1 P1).x);intro r s2 Y2 J2 hs2 P2 S2 q2;rcases ifW_i q2 with ⟨rfl,q2⟩ | ⟨rfl,q2⟩
  ·refine ⟨_,rfl,wpAny_passesOwn hE (hb A e1 J2 s2 Y2 _ X _ EC hA hE q2 S2 ?_ ((HX.pre hs1 P1).pre' hs2 P2))⟩;intro fl f' s3 Y3 e3 J3 hs3 P3 S3 r3 q3;have hs:=(hs1.trans hs2).trans hs3;have P:=(P1.trans (Stp.of_nope P2)).trans P3;cases fl with
   | next=>cases (r3:f'=.next); exact ⟨n,Nat.lt_succ_self n,Y3,e3,J3,hs,P,S3,q3⟩
   | cont=>cases (r3:f'=.cont); exact ⟨n,Nat.lt_succ_self n,Y3,e3,J3,hs,P,S3,q3⟩
   | brk=>cases (r3:f'=.brk); exact H .next _ s3 Y3 e3 J3 hs P S3 rfl q3
   | ret a=>have r:=r3; obtain ⟨v,rfl,_⟩:=r; exact H (.ret a) _ s3 Y3 e3 J3 hs P S3 r3 q3
  ·exact ⟨_,rfl,wpAny_execs_nil (((H.pre hs1 P1).pre' hs2 P2).nx S2 q2)⟩
def TgX (c:Cx)(d u:Nat)(tg:Ev->AV->(Ev->Prop)->Prop)(target:Expr):Prop:=∀ A x v e J s Y (Q:Ev->Prop) (QC:Unit->Shared->Prop) EC,AOk c d u A->c.S Y e J s->c.V s.heap Y x v->tg e x Q->
 (∀ s' e',Same s s'->c.PO Y s.heap Y s'.heap->c.S Y e' J s'->Q e'->QC () s')->wpAny c.M A (assign target c.f.env v) QC EC s
theorem tg1_x {i:Nat}{y:Str}{p:Pos}(V:VarsOk c.f c.vars)(hy:c.vars[i]?=some y):TgX c d u (tg1 i) (.Name y p):=by
 intro A x v e J s Y Q QC EC hA S r h H;exact wpAny_assign_Name (store_cs V S hy r fun s' hs P S'=>H s' _ hs P S' h)
theorem tgT_x {is:List Nat}{xs:List (Str×Pos)}{k:Nat}{tp:Pos}(V:VarsOk c.f c.vars)(hlen:is.length=xs.length)(hv:∀ (j:Nat) (i:Nat) (x:Str×Pos),is[j]?=some i->xs[j]?=some x->c.vars[i]?=some x.1) :
  TgX c d u (tgT is) (.Tuple (nmE xs) k tp):=by
 intro A x v e J s Y Q QC EC hA S r h H;obtain ⟨vs,rfl,hl,q⟩:=tgT_i h;obtain ⟨t,items,rfl,ht,rs,_⟩:=r;have hl2:=rs.size;refine wpAny_assign_Tuple hA.hand ht.tup (by rw [assignEach_nm,Ah,← hlen,← hl,hl2]) (by rw [assignEach_nm]; simp) fun h2 he2=>?_;rw [assignEach_nm,List.map_map];have hk2:=keeps_of_ext he2;have S2:c.S Y e J { s with heap:=h2 }:=S.heap (S.toSt.other hk2);have P2:c.P Y s.heap Y h2:=Stp.other hk2;refine store_all (s:={ s with heap:=h2 }) V is xs vs items.toList e hlen hl hv S2 (P2.rvs rs) fun s3 hs3 P3 S3=>?_;exact H s3 _ hs3 ((Stp.of_nope P2).trans P3) S3 q
structure FrB (c:Cx)(n:Nat)(St':Nat->Heap->Prop)(wr:List Addr)(W:Nat->Ev->Store->Prop)(s:Shared)(Y:Rho)(k:Nat)(s':Shared)(i:Nat)(Y':Rho)(e':Ev)(J':Store):Prop where
 fa:i<=n
 fb:k=n+1-i
 fc:Same s s'
 fd:c.PO Y s.heap Y' s'.heap
 fe:c.S Y' e' J' s'
 ff:St' i s'.heap
 fg:∀ b∈wr,b∉muts Y'
 fh:W i e' J'
def FrI (c:Cx)(n:Nat)(St':Nat->Heap->Prop)(wr:List Addr)(W:Nat->Ev->Store->Prop)(s:Shared)(Y:Rho)(k:Nat)(s':Shared):Prop:=
 ∃ i Y' e' J',FrB c n St' wr W s Y k s' i Y' e' J'
theorem for_core {A:Around}{target:Expr}{body:List Stmt}{tg:Ev->AV->(Ev->Prop)->Prop}{b:Ss}{l:List AV}{I:Addr}{fp wr:List Addr}{n:Nat}{P Md:Nat->Value->Heap->Prop}{St':Nat->Heap->Prop}{e:Ev}{J:Store}{s:Shared}{Y:Rho}{h2:Heap}
  {Q:QF} {X:XS} {QC:Flow->Shared->Prop} {EC:Value->Shared->Prop}
  (W:KTurns c.prog c.w A target I fp wr n P Md St') (hA:AOk c d u A) (hE:PassesOwn c.M A c.f.env EC) (htg:TgX c d u tg target) (hb:SsX c T C d u b body) (hnl:n=l.length)
  (S:c.S Y e J s) (hk2:∀ b o,s.heap.get? b=some o->h2.get? b=some o) (hwr:∀ b∈wr,s.heap.get? b=none) (hst:St' 0 h2)
  (hex:∀ i h,St' i h->∀ b∈wr,∃ o,h.get? b=some o∧¬ Imm o) (hfp:∀ i h,St' i h->∀ b∈fp,b∈wr∨∃ o,h.get? b=some o∧Imm o)
  (hP:∀ i v h Y',P i v h->Y.Le Y'->(∀ b o,s.heap.get? b=some o->Imm o->h.get? b=some o)->∀ x,l[i]?=some x->RV c.base h Y' x v)
  (h:forW tg (ssW T C b) l e J Q X) (H:OkF c s Y Q QC) (HX:OkG c s Y X EC) :
  codeAny c.M A (.forLoop target (.ref I) body [] c.f.env) (fun r s'=>match r with | .ok f=>QC f s' | .error e=>cameBackBy c.M A c.f.env EC e s') { s with heap:=h2 }:=by
 have wf:∀ b∈wr,¬ c.f.own b∧b∉c.F∧c.base.get? b=none:=fun b hb=>(S.fresh (hwr b hb)).2;refine codeAny_forLoop_any (FrI c n St' wr (fun i e' J'=>forW tg (ssW T C b) (l.drop i) e' J' Q X) s Y) ?_ (n+1)
  ⟨0,Y,e,J,Nat.zero_le _,rfl,⟨rfl,rfl,rfl,Aj _⟩,Stp.other hk2,S.heap (S.toSt.other hk2),hst,fun b hb=>(S.fresh (hwr b hb)).1,h⟩
 rintro k s₁ ⟨i,Y₁,e1,J1,hi,rfl,hs1,P1,S1,st1,nm1,h₁⟩;by_cases hlt:i<n
 ·have hil:i<l.length:=hnl▸hlt;rw [List.drop_eq_getElem_cons hil] at h₁;refine wpAny_with_toks (Aj _) (W.item i _ _ _ hlt st1 fun v h3 tk3 hMd hk3 hn3=>?_);refine W.go i v _ _ _ hMd fun h4 hPv st4 hk4=>?_;have up:∀ b o,b∉wr->s₁.heap.get? b=some o->h4.get? b=some o:=fun b o hb eo=>hk4 b o hb (hk3 b o hb eo);have S4':St c.prog c.w c.base c.cls c.f c.vars c.outer Y₁ e1 J1 h4:=S1.toSt.but up fun b hb=>⟨nm1 b hb,(wf b hb).1,(wf b hb).2.1,(wf b hb).2.2,fun o eo=>by
   obtain ⟨o',eo',ni⟩:=hex i _ st1 b hb;cases Ag (eo'.symm.trans eo); exact ni⟩
  have S4:c.S Y₁ e1 J1 { s₁ with heap:=h4,toks:=tk3 }:=⟨S4',An S1.pos hn3,fun t ht=>S1.tks t (Aa hn3 ht),S1.ini⟩;have P4:c.PO Y s.heap Y₁ h4:=P1.thenBut up hwr;have hs4:Same s { s₁ with heap:=h4,toks:=tk3 }:=hs1.trans ⟨rfl,rfl,rfl,hn3⟩;have rv:c.V h4 Y₁ l[i] v:=hP i v h4 Y₁ hPv P1.pre P4.imm _ (List.getElem?_eq_getElem hil);refine htg A l[i] v e1 J1 _ Y₁ _ _ _ hA S4 rv h₁ fun s5 e5 hs5 P5 S5 q5=>?_;refine wpAny_passesOwn hE (hb A e5 J1 s5 Y₁ _ X _ EC hA hE q5 S5 ?_ ((HX.pre hs4 P4).pre hs5 P5));intro fl f' s6 Y6 e6 J6 hs6 P6 S6 r6 q6;have hs:=(hs4.trans hs5).trans hs6;have PP:c.PO Y s.heap Y6 s6.heap:=(P4.trans P5).trans P6;have P46:c.PO Y₁ h4 Y6 s6.heap:=P5.trans P6;have nm6:∀ b∈wr,b∉muts Y6:=fun b hb m=>by
   rcases P46.fresh b m with q | q
   ·exact nm1 b hb q
   ·obtain ⟨o,eo,_⟩:=hex _ _ st4 b hb; exact none_some q eo
  have st6:St' (i+1) s6.heap:=W.frame _ _ _ st4 fun b hb o eo=>by
   rcases hfp _ _ st4 b hb with hw | ⟨o',eo',im⟩
   ·exact P46.keep b o eo (nm1 b hw) (wf b hw).1 (wf b hw).2.1
   ·cases Ag (eo'.symm.trans eo); exact P46.imm b _ eo' im
  have nx:forW tg (ssW T C b) (l.drop (i+1)) e6 J6 Q X->∃ k<n+1-i,FrI c n St' wr (fun i e' J'=>forW tg (ssW T C b) (l.drop i) e' J' Q X) s Y k s6:=fun q6=>
   ⟨n+1-(i+1),Nat.sub_lt_sub_left (Nat.lt_succ_of_lt hlt) (Nat.lt_succ_self i),i+1,Y6,e6,J6,hlt,rfl,hs,PP,S6,st6,nm6,q6⟩
  cases fl with
  | next=>cases (r6:f'=.next); exact nx q6
  | cont=>cases (r6:f'=.cont); exact nx q6
  | brk=>cases (r6:f'=.brk); exact H .next _ s6 Y6 e6 J6 hs PP S6 rfl q6
  | ret a=>have r:=r6; obtain ⟨v,rfl,_⟩:=r; exact H (.ret a) _ s6 Y6 e6 J6 hs PP S6 r6 q6
 ·have hin:i=n:=Nat.le_antisymm hi (Nat.not_lt.mp hlt);subst hin;rw [hnl,List.drop_length] at h₁;refine wpAny_with_toks (Aj _) (W.done _ _ _ st1 fun h3 tk3 hk3 hn3=>wpAny_execs_nil ?_);have S4':St c.prog c.w c.base c.cls c.f c.vars c.outer Y₁ e1 J1 h3:=S1.toSt.but hk3 fun b hb=>⟨nm1 b hb,(wf b hb).1,(wf b hb).2.1,(wf b hb).2.2,fun o eo=>by
   obtain ⟨o',eo',ni⟩:=hex _ _ st1 b hb;cases Ag (eo'.symm.trans eo); exact ni⟩
  exact H .next .next _ Y₁ e1 J1 (hs1.trans ⟨rfl,rfl,rfl,hn3⟩) (P1.thenBut hk3 hwr) ⟨S4',An S1.pos hn3,fun t ht=>S1.tks t (Aa hn3 ht),S1.ini⟩ rfl h₁
theorem one_new {h:Heap}:∀ b∈[h.objs.size],h.get? b=none:=fun b hb=>List.mem_singleton.mp hb▸new_none h
theorem itemsOf_i {v:AV}{l:List AV}(h:itemsOf v=some l):v=.tup l∨∃ a b st,v=.rng a b st∧(st=1∨st=-1)∧l=(rngList a b st).map .int:=by
 cases v with
 | tup l'=>cases Ag h; exact .inl rfl
 | rng a b st=>
  have h:(if st=1∨st=-1 then some ((rngList a b st).map AV.int) else Option.none)=some l:=h
  by_cases hc:st=1∨st=-1
  ·rw [if_pos hc] at h; exact .inr ⟨a,b,st,rfl,hc,(Ag h).symm⟩
  ·rw [if_neg hc] at h; cases h
 | _=>exact none_some rfl h
theorem ri_letGo {A:Around} {target:Expr} {I:Addr} {vs:Array Value} {x:String} {v:Value} {s:Shared} {Q:Unit->Shared->Prop} {E:Value->Shared->Prop} {o:Obj} (ho:s.heap.get? I=some o) (hc:o.cls=.type x) (hd:o.data=.fields vs) (hx:["enumerate","zip","dict_itemiterator","dict_reverseitemiterator","odict_iterator","itertools.zip_longest","itertools.pairwise"].contains x=false) (q:Q () s):wpAny c.M A (letOwnedTupleGo target (.ref I) v) Q E s:=by
 obtain ⟨o1,o2,o3,o4⟩:=o;cases hc; cases hd;have key:wpAny c.M A (letOwnedTupleGo (.List [] ⟨0,0,0,0⟩) (.ref I) v) Q E s:=by
  cases v<;>first | exact wpAny_pure q | exact wpAny_bind (wpAny_load ho (by show wpAny _ _ (if (_&&_)=true then _ else _) _ _ _; rw [hx]; exact wpAny_pure q))
 cases target<;>first | exact key | exact wpAny_pure q
theorem st_for {src:E}{tg:Ev->AV->(Ev->Prop)->Prop}{b:Ss}{target iter:Expr}{body:List Stmt}{p:Pos}{ir:S}(hir:∀ {e J Q X},stW T C ir e J Q X->evW T C src e J (fun v J1=>optW (itemsOf v) fun l=>forW tg (ssW T C b) l e J1 Q X) (X e))
  (hsrc:EvX c T C d u src iter) (hfs:∀ env x,foldedSetIterable iter env x=pure x) (htg:TgX c d u tg target) (hb:SsX c T C d u b body):StX c T C d u ir (.For target iter body [] p):=by
 intro A e J s Y Q X QC EC hA hE h S H HX;refine wpAny_For (hsrc A e J s Y _ (X e) _ EC hA (hir h) S ?_ HX.x) (hfs _);intro v s₁ Y₁ a1 J1 hs1 P1 S1 r1 h₁;obtain ⟨l,hl,h₁⟩:=optW_i h₁;rcases itemsOf_i hl with rfl | ⟨a,b',st,rfl,hc,rfl⟩
 ·obtain ⟨t,items,rfl,⟨nn,ht⟩,rs,hz⟩:=r1;have hT:s₁.heap.IsTuple t items:=⟨_,ht,rfl,nn,rfl⟩;refine wpAny_pyIter_tuple hT ?_;have W:=KTurns.ofWalks (target:=target) (Walks.tuple (prog:=c.prog) (w:=c.w) (A:=A) hA.hand s₁.heap.objs.size t (Nat.ne_of_lt (Heap.lt_size ht)) items) fun i v s Q E st q=>letGo_tupleiter st.1 q;refine for_core W hA hE htg hb rs.size.symm S1 (Kp.push _) one_new ⟨⟨_,Heap.get?_push_size _ rfl,rfl,rfl⟩,hT.at fun o e=>Heap.get?_push_of_some _ e⟩ ?_ ?_ ?_ h₁ (H.pre' hs1 P1) (HX.pre' hs1 P1)
  ·rintro i h ⟨⟨o,ho,hc,hd⟩,_⟩ b hb;exact ⟨o,List.mem_singleton.mp hb▸ho,not_imm_of ho hc (by decide) (by decide) _ (List.mem_singleton.mpr rfl) _ ho⟩
  ·rintro i h ⟨_,⟨o,ho,hc,n',hd⟩⟩ b hb;rcases List.mem_cons.mp hb with hb | hb
   ·exact .inl (List.mem_singleton.mpr hb)
   ·exact .inr ⟨o,List.mem_singleton.mp hb▸ho,.inl ⟨hc,_,_,hd⟩⟩
  ·intro i v h Y' hP hle imm x hx;obtain ⟨v',hv',rv⟩:=rs.get hx;rw [Array.getElem?_toList] at hv';cases Ag (hP.symm.trans hv');exact RV.mono imm hle _ _ rv
 ·obtain ⟨r,rfl,⟨t1,t2,t3,hr⟩,ha,hb',_⟩:=r1;refine wpAny_pyIter_range hr (rng_small hc ha hb') ?_;have W:=KTurns.ofWalks (target:=target) (Walks.range (prog:=c.prog) (w:=c.w) (A:=A) hA.hand s₁.heap.objs.size a st (rngList a b' st).length) fun i v s Q E st' q=>ri_letGo st' rfl rfl (by decide) q;refine for_core W hA hE htg hb (by rw [Ah]) S1 (Kp.push _) one_new ?_ ?_ ?_ ?_ h₁ (H.pre' hs1 P1) (HX.pre' hs1 P1)
  ·rw [rangeSize_rng hc]
   simpa [IsRangeIter] using Heap.get?_push_size s₁.heap rfl
  ·intro i h hst b hb;exact ⟨_,List.mem_singleton.mp hb▸hst,not_imm_of hst rfl (by decide) (by decide) _ (List.mem_singleton.mpr rfl) _ hst⟩
  ·exact fun i h hst b hb=>.inl hb
  ·intro i v h Y' hP hle imm x hx;obtain ⟨t,rfl⟩:=hP;rw [List.getElem?_map] at hx;cases hg:(rngList a b' st)[i]? with
   | none=>rw [hg] at hx; cases hx
   | some y=>
    rw [hg] at hx;cases Ag hx;rw [rngList_get hc i (Ai hg).1] at hg;cases Ag hg;exact rv_int
end
open PySem PySem.Calls PyProof.Rows PySem.SeqAt PySem.W
section
variable {c:Cx}{T:Stat}{C:Calls}{d u:Nat}
theorem noted_cs {Y Y₀:Rho}{e e₀:Ev}{J J₀:Store}{s s0:Shared}{h':Heap}(S0:c.S Y₀ e₀ J₀ s0)(S:c.S Y e J s)(N:Noted c.F s0.heap s.heap h'):c.S Y e J { s with heap:=h' }:=by
 have nf:=frame_not_imm S.frd;have imm:=N.imm nf;have cond:∀ b o,s.heap.get? b=some o->¬ (s0.heap.get? b=none∧∃ o,s.heap.get? b=some o∧(o.cls=.type "ValueError"∨o.cls=.type "traceback"))->(∃ o',s0.heap.get? b=some o')∨(o.cls≠.type "ValueError"∧o.cls≠.type "traceback"):=fun b o eo hn=>by
  cases q:s0.heap.get? b with
  | some o'=>exact .inl ⟨o',rfl⟩
  | none=>
   refine .inr ⟨fun hq=>hn ⟨q,o,eo,.inl hq⟩,fun hq=>hn ⟨q,o,eo,.inr hq⟩⟩
 have P:Stp c.F (fun b=>s0.heap.get? b=none∧∃ o,s.heap.get? b=some o∧(o.cls=.type "ValueError"∨o.cls=.type "traceback")) Y s.heap Y h':=
  ⟨Rho.Le.refl _,fun _ m=>.inl m,N.dom,imm,fun b o eo _ nw nf=>(N.keep b o eo (cond b o eo nw)).1 nf,fun b o eo _ nw=>(N.keep b o eo (cond b o eo nw)).2⟩
 refine S.heap (S.toSt.moveBut P (fun b q=>⟨(S0.fresh q.1).2.1,(S0.fresh q.1).2.2.1⟩) (fun b o eo=>?_) (S.sim.still imm fun b o hb eo=>?_))
 ·have e0:=S0.stays b o eo;have e1:=S.stays b o eo;refine (N.keep b o e1 (.inl ⟨o,e0⟩)).1 fun hF=>?_;obtain ⟨hb,_⟩:=S.frs.mem hF;exact none_some hb eo
 ·obtain ⟨o',eo',h1⟩:=S.sim.odd hb;cases Ag (eo'.symm.trans eo);exact (N.keep b _ eo' (.inr h1.2.2)).1 fun hF=>S.offF b hF hb
def CstX (k:E)(x:Expr):Prop:=(∃ b kk pp,k=.bool b∧x=.Constant (.bool b) kk pp)∨∃ t kk pp,k=.str t∧x=.Constant (.str (sOf t)) kk pp∧t.length<=lid
theorem st_try {b:Ss} {i:Nat} {k:E} {body:List Stmt} {x:Expr} {y:Str} {p p1 p2 p3 p4:Pos} {N:Nm} {mg mb:Str->Option Value} (NO:NmOk c T N mg mb) (V:VarsOk c.f c.vars) (hk:c.f.env.kindOf "ValueError"=some .globalImplicit) (hb:SsX c T C d u b body) (hx:CstX k x) (hy:c.vars[i]?=some y) :
  StX c T C d u (.tryVE b i k) (.Try body [.ExceptHandler (some (.Name "ValueError" p1)) none [.Assign [.Name y p2] x p3] p4] [] [] p):=by
 intro A e J s Y Q X QC EC hA hE h S H HX;obtain ⟨v,hv,h⟩:=optW_i h;refine wpAny_Try_except (hb A e J s Y Q _ _ _ hA PassesOwn.looking h S ?_ ?_)
 ·intro fl f' s₁ Y₁ e1 J1 hs1 P1 S1 r1 q1;have H:=H fl f' s₁ Y₁ e1 J1 hs1 P1 S1 r1 q1;cases f' with
  | next=>exact wpAny_execs_nil H
  | _=>exact H
 ·intro ex s₁ Y₁ e1 J1 hs1 P1 S1 x1 q1;have hfr:c.f.env.frame=some c.f.L:=rfl;refine note_strong (base:=c.base) hA.frs S1.frs hfr P1.dom x1 fun h2 x2 N2=>?_;refine flight_none (F:=c.F) (s:={ s₁ with heap:=h2 }) x2 fun h3 x3 N3=>?_;have N23:=N2.trans N3;have S3:c.S Y₁ e1 J1 { s₁ with heap:=h3 }:=noted_cs S S1 N23;have P3:c.PO Y s.heap Y₁ h3:=N23.stp (frame_not_imm S1.frd) P1;refine wpAny_handleBy_builtin (X:="ValueError") (b:=true) PySem.F.isExc_ValueError (by rw [isSubtype_type]; kernel_rfl) PySem.F.self_ValueError ?_
  refine ld_name (s:={ s₁ with heap:=h3 }) S3 V ⟨hk,by decide⟩ NO.g NO.b (.inr NO.ve) ⟨rfl,x3.there.imp fun oe q=>q.elim fun vs q=>q.elim fun T q=>q.elim fun oT q=>q.elim fun ts q=>⟨q.1.g,q.1.c⟩,?_⟩;simp only [if_true];refine flight_none (s:={ s₁ with heap:=h3 }) (h₀:=s.heap) (F:=c.F) x3 fun h4 x4 N4=>?_;have S4:c.S Y₁ e1 J1 { s₁ with heap:=h4 }:=noted_cs (s:={ s₁ with heap:=h3 }) S S3 N4;have P4:c.PO Y s.heap Y₁ h4:=N4.stp (frame_not_imm S3.frd) P3;have fin:∀ {w:Value} {Y':Rho} {s':Shared},c.S Y' e1 J1 s'->Same s s'->c.PO Y s.heap Y' s'.heap->c.V s'.heap Y' v w->wpAny c.M (A.mark (some (.ref ex))) (storeName c.f.env y w) (fun _ s'=>wpAny c.M (A.mark (some (.ref ex))) (execs [] c.f.env) QC (notedBy c.M (A.mark (some (.ref ex))) c.f.env (cameBackBy c.M A c.f.env EC)) s') (notedBy c.M (A.mark (some (.ref ex))) c.f.env (cameBackBy c.M A c.f.env EC)) s':=fun S' hs' P' r'=>
   store_cs V S' hy r' fun s5 hs5 P5 S5=>wpAny_execs_nil (H .next .next s5 _ _ J1 (hs'.trans hs5) (P'.trans P5) S5 rfl q1)
  have hs4:Same s { s₁ with heap:=h4 }:=hs1.trans ⟨rfl,rfl,rfl,Aj _⟩;refine wpAny_execs_cons ?_;rcases hx with ⟨b,kk,pp,rfl,rfl⟩ | ⟨xx,kk,pp,rfl,rfl,hz⟩
  ·cases Ag hv;refine wpAny_Assign_Name ?_ (by rfl);rw [eval_Constant];exact wpAny_pure (fin S4 hs4 P4 rv_bool)
  ·cases Ag hv;refine wpAny_Assign_Name (Constant_str ?_) (by rfl);exact fin (S4.tok xx) (hs4.trans ⟨rfl,rfl,rfl,Nat.le_succ _⟩) (P4.trans (Stp.tok xx (S4.tks s₁.toks (Aj _)))) ⟨_,rfl,hz,Nat.ne_of_gt S4.pos,Rho.tok_at ..⟩
end
open PySem PySem.Calls PyProof.Rows PySem.SeqAt PySem.W
structure FOk (c:Cx)(T:Stat)(C:Calls)(N:Nm)(mg mb:Str->Option Value)(d u:Nat):Prop where
 O:CxOk c
 NO:NmOk c T N mg mb
 V:VarsOk c.f c.vars
 CO:CallsOk c C N.fa (d+2) (u+10)
 hu:u+100<cLine
structure Tb where
 gn:List Tx
 fn:List Tx
 cn:List Tx
 fa:List Addr
 pl:List Bool
noncomputable def Tb.nm (t:Tb):Nm where
 gn:=fun i=>(t.gn[i]?).map sOf
 fn:=fun i=>(t.fn[i]?).map sOf
 cn:=fun i=>(t.cn[i]?).map sOf
 fa:=fun i=>t.fa[i]?
 pl:=fun i=>(t.pl[i]?).getD false
noncomputable def tl (s:Str):Tx:=s.cps.toList
theorem sOf_tl (s:Str):sOf (tl s)=s:=by cases s; rfl
noncomputable def seq (a b:Str):Bool:=txEq (tl a) (tl b)
theorem seq_i {a b:Str}(h:seq a b=true):a=b:=by rw [← sOf_tl a,txEq_iff.mp h,sOf_tl]
theorem seq_n {a b:Str}(h:(!(seq a b))=true):a≠b:=fun q=>by
 rw [q,show seq b b=true from txEq_iff.mpr rfl] at h; cases h
theorem dbg_i {a b:Str}(h:(!(seq a b))=true):(a==b)=false:=beq_eq_false_iff_ne.mpr (seq_n h)
noncomputable def isTx (o:Option Tx)(s:Str):Bool:=match o with
 | some y=>txEq y (tl s)
 | none=>false
theorem isTx_i {o:Option Tx}{s:Str}(h:isTx o s=true):o.map sOf=some s:=by
 cases o with
 | none=>cases h
 | some y=>exact congrArg some (by rw [txEq_iff.mp h,sOf_tl])
theorem var_i {vars:List Tx}{i:Nat}{s:Str}(h:isTx vars[i]? s=true):(vars.map sOf)[i]?=some s:=by rw [List.getElem?_map]; exact isTx_i h
theorem and_i {a b:Bool}(h:(a&&b)=true):a=true∧b=true:=Ab h
noncomputable def lkp (x:Str):List (Str×NameKind)->Option NameKind
 | []=>none
 | (n,k)::r=>cond (seq n x) (some k) (lkp x r)
theorem lkp_eq (x:Str):∀ l:List (Str×NameKind),l.lookup x=lkp x l
 | []=>rfl
 | (n,k)::r=>by
  rw [List.lookup_cons,lkp_eq x r];show _=cond (seq n x) (some k) (lkp x r);cases h:seq n x with
  | true=>cases seq_i h; rw [beq_self_eq_true]; rfl
  | false=>rw [beq_eq_false_iff_ne.mpr (Ne.symm (seq_n (by rw [h]; rfl)))]; rfl
noncomputable def isK (x:Str)(l:List (Str×NameKind))(k:NameKind):Bool:=decide (lkp x l=some k)
theorem isK_i {x:Str}{l:List (Str×NameKind)}{k:NameKind}(h:isK x l k=true):l.lookup x=some k:=(lkp_eq x l).trans (Ax h)
noncomputable def dE:Expr:=.Constant .none 0 ⟨0,0,0,0⟩
noncomputable def kids (x:Expr):List Expr:=match x with
 | .BoolOp _ xs _=>xs
 | .BinOp l _ r _=>[l,r]
 | .UnaryOp _ a _=>[a]
 | .IfExp a b c _=>[a,b,c]
 | .ListComp e gs _ _=>e::gs.flatMap fun g=>[g.target,g.iter]
 | .Compare l _ rs _=>l::rs
 | .Call f xs _ _=>f::xs
 | .Attribute v _ _=>[v]
 | .Subscript v s _=>[v,s]
 | .List xs _=>xs
 | .Tuple xs _ _=>xs
 | .Slice a b _ _=>[a.getD x,b.getD x]
 | _=>[]
noncomputable def kd (x:Expr)(n:Nat):Expr:=(kids x).getD n dE
noncomputable def nm (x:Expr):Str:=match x with
 | .Name y _=>y
 | .Attribute _ y _=>y
 | .Constant (.str y) _ _=>y
 | _=>sOf []
noncomputable def num (x:Expr):Nat:=match x with
 | .Constant _ k _=>k
 | .Tuple _ k _=>k
 | _=>0
noncomputable def nps (l:List Expr):List (Str×Pos):=l.map fun e=>(nm e,e.pos)
noncomputable abbrev nmX (x:Expr):Expr:=.Name (nm x) x.pos
section
variable (sc:Scope)
noncomputable def scp (x:Expr):Scope:=match x with
 | .ListComp _ _ s _=>s
 | _=>sc
mutual
noncomputable def toE:E->Expr->Expr
 | .none,x=>.Constant .none (num x) x.pos
 | .bool b,x=>.Constant (.bool b) (num x) x.pos
 | .int i,x=>.Constant (.int i) (num x) x.pos
 | .str _,x=>.Constant (.str (nm x)) (num x) x.pos
 | .v _,x=>nmX x
 | .g _,x=>nmX x
 | .bin op a b,x=>.BinOp (toE a (kd x 0)) (opOf op) (toE b (kd x 1)) x.pos
 | .neg a,x=>.UnaryOp .USub (toE a (kd x 0)) x.pos
 | .not a,x=>.UnaryOp .Not (toE a (kd x 0)) x.pos
 | .cmp op a b,x=>.Compare (toE a (kd x 0)) [copOf op] [toE b (kd x 1)] x.pos
 | .cmp2 o1 o2 a b k,x=>.Compare (toE a (kd x 0)) [copOf o1,copOf o2] [toE b (kd x 1),toE k (kd x 2)] x.pos
 | .all es,x=>.BoolOp .And (toEs es (kids x)) x.pos
 | .any es,x=>.BoolOp .Or (toEs es (kids x)) x.pos
 | .ite q a b,x=>.IfExp (toE q (kd x 0)) (toE a (kd x 1)) (toE b (kd x 2)) x.pos
 | .call _ as,x=>.Call (nmX (kd x 0)) (toEs as (kids x).tail) [] x.pos
 | .new _ as,x=>.Call (nmX (kd x 0)) (toEs as (kids x).tail) [] x.pos
 | .meth a _ as,x=>.Call (.Attribute (toE a (kd (kd x 0) 0)) (nm (kd x 0)) (kd x 0).pos) (toEs as (kids x).tail) [] x.pos
 | .bi _ as,x=>.Call (nmX (kd x 0)) (toEs as (kids x).tail) [] x.pos
 | .bm a _ as,x=>.Call (.Attribute (toE a (kd (kd x 0) 0)) (nm (kd x 0)) (kd x 0).pos) (toEs as (kids x).tail) [] x.pos
 | .attr a _,x=>.Attribute (toE a (kd x 0)) (nm x) x.pos
 | .idx a b,x=>.Subscript (toE a (kd x 0)) (toE b (kd x 1)) x.pos
 | .slice a lo hi,x=>.Subscript (toE a (kd x 0)) (.Slice (toEo lo (kd (kd x 1) 0)) (toEo hi (kd (kd x 1) 1)) none (kd x 1).pos) x.pos
 | .tuple as,x=>.Tuple (toEs as (kids x)) (num x) x.pos
 | .list as,x=>.List (toEs as (kids x)) x.pos
 | .dict0,x=>.Dict [] [] x.pos
 | .compVar _ _ src,x=>.ListComp (nmX (kd x 0)) [⟨.Tuple (nmE (nps (kids (kd x 1)))) (num (kd x 1)) (kd x 1).pos,toE src (kd x 2),[],0⟩] (scp sc x) x.pos
 | .compPair _ src,x=>.ListComp (.Tuple [.Name (nm (kd x 1)) (kd (kd x 0) 0).pos,nmX (kd (kd x 0) 1)] (num (kd x 0)) (kd x 0).pos) [⟨nmX (kd x 1),toE src (kd x 2),[],0⟩] (scp sc x) x.pos
 | .compSel _ _ src,x=>.ListComp (.IfExp (.Compare (.Name (nm (kd (kd x 1) 0)) (kd (kd (kd x 0) 0) 0).pos) [.Eq] [nmX (kd (kd (kd x 0) 0) 1)] (kd (kd x 0) 0).pos) (nmX (kd (kd x 0) 1)) (.Name (nm (kd (kd x 1) 1)) (kd (kd x 0) 2).pos) (kd x 0).pos)
   [⟨.Tuple [nmX (kd (kd x 1) 0),nmX (kd (kd x 1) 1)] (num (kd x 1)) (kd x 1).pos,.Call (.Name "enumerate" (kd (kd x 2) 0).pos) [toE src (kd (kd x 2) 1)] [] (kd x 2).pos,[],0⟩] (scp sc x) x.pos
noncomputable def toEs:Es->List Expr->List Expr
 | .nil,_=>[]
 | .cons a as,xs=>toE a (xs.headD dE)::toEs as xs.tail
noncomputable def toEo:Eo->Expr->Option Expr
 | .no,_=>none
 | .yes a,x=>some (toE a x)
end
theorem star_ok (a:E)(x:Expr)(env:Env)(rest:List Expr):starEach (toE sc a x::rest) env=(false,eval (toE sc a x) env)::starEach rest env:=by cases a<;>rfl
theorem sub_ok (a:E)(x:Expr)(o i:Value):subscripted (toE sc a x) false o i=operate [o,i] (getItem o i):=by cases a<;>rfl
theorem marks_ok (a:E)(x:Expr)(op:CmpOp):behindInMarks op (toE sc a x)=false:=by cases a<;>rfl
theorem augs_ok (a:E)(x:Expr)(ov iv new:Value):augStore (toE sc a x) ov iv new=(do holding [new,ov,iv] (setItem ov iv new); release [new,ov,iv] []; pure .next):=by cases a<;>rfl
theorem it_ok (a:E)(x:Expr)(env:Env)(v:Value):foldedSetIterable (toE sc a x) env v=pure v:=by cases a<;>rfl
noncomputable def kdE (a:E):Nat:=match a with
 | .call ..=>1
 | .new ..=>1
 | .bi ..=>1
 | .compVar ..=>2
 | .compPair ..=>2
 | .compSel ..=>2
 | .tuple ..=>3
 | _=>0
noncomputable def isnt (a:E)(n:Nat):Bool:=!(Nat.beq (kdE a) n)
theorem base_ok {a:E}(h:isnt a 1=true)(x:Expr)(y:Str)(env:Env)(w:Sem Value):attributeBase (toE sc a x) y env w=w:=by cases a<;>first | rfl | exact (Bool.false_ne_true h).elim
theorem sw_ok {a:E}(h:isnt a 2=true)(x:Expr)(t:Option Expr)(l:Nat)(env:Env):swapsWith (toE sc a x) t l env=pure false:=by cases a<;>first | rfl | exact (Bool.false_ne_true h).elim
theorem ntup_ok {a:E}(h:isnt a 3=true)(x:Expr){es:List Expr}{k:Nat}{tp:Pos}(env:Env):swappedStores [.Tuple es k tp] (toE sc a x) env=pure none:=by cases a<;>first | rfl | exact (Bool.false_ne_true h).elim
end
open PySem PySem.Calls PyProof.Rows PySem.SeqAt PySem.W
section
variable (t:Tb)(vars:List Tx)(sc:Scope)
noncomputable def chG (y:Str):Bool:=isK y sc.names .globalImplicit&&!(seq y "__debug__")
theorem chG_i {y:Str} (h:chG sc y=true):sc.names.lookup y=some .globalImplicit∧(y==("__debug__" : Str))=false:=by
 obtain ⟨h1,h2⟩:=and_i h;exact ⟨isK_i h1,dbg_i h2⟩
noncomputable def hasV (y:Str):List Tx->Bool
 | []=>false
 | v::r=>txEq v (tl y)||hasV y r
theorem hasV_i {y:Str}:∀ {l:List Tx},hasV y l=true->y∈l.map sOf
 | [],h=>by cases h
 | v::r,h=>by
  rcases Bool.or_eq_true_iff.mp h with h | h
  ·rw [txEq_iff.mp h];exact List.mem_cons.mpr (.inl (sOf_tl y).symm)
  ·exact List.mem_cons_of_mem _ (hasV_i h)
noncomputable def chZ (scope:Scope)(z:Str×NameKind):Bool:=match z.2 with
 | .cell=>false
 | .local=>isK z.1 scope.names .local
 | .free=>hasV z.1 vars&&isK z.1 sc.names .cell
 | _=>true
noncomputable def chS (scope:Scope):Bool:=decide (scope.kind=.function)&&scope.names.all (chZ vars sc scope)
structure SOk (scope:Scope):Prop where
 kind:scope.kind=.function
 cell:∀ z∈scope.names,z.2≠.cell
 names:∀ z∈scope.names,z.2=.local->scope.names.lookup z.1=some .local
 free:∀ z∈scope.names,z.2=.free->z.1∈vars.map sOf∧sc.names.lookup z.1=some .cell
theorem chS_i {scope:Scope}(h:chS vars sc scope=true):SOk vars sc scope:=by
 obtain ⟨h1,h2⟩:=and_i h;have key:=List.all_eq_true.mp h2;refine ⟨Ax h1,fun z hz q=>?_,fun z hz q=>?_,fun z hz q=>?_⟩
 ·have k:=key z hz;unfold chZ at k; rw [q] at k; cases k
 ·have k:=key z hz;unfold chZ at k; rw [q] at k; exact isK_i k
 ·have k:=key z hz;unfold chZ at k; rw [q] at k;obtain ⟨k1,k2⟩:=and_i k;exact ⟨hasV_i k1,isK_i k2⟩
mutual
noncomputable def okE:E->Expr->Bool
 | .none,_=>true
 | .bool _,_=>true
 | .int _,_=>true
 | .str s,x=>txEq s (tl (nm x))&&Nat.ble s.length 1000
 | .v i,x=>isTx vars[i]? (nm x)
 | .g i,x=>isTx t.gn[i]? (nm x)&&chG sc (nm x)
 | .bin _ a b,x=>okE a (kd x 0)&&okE b (kd x 1)
 | .neg a,x=>okE a (kd x 0)
 | .not a,x=>okE a (kd x 0)
 | .cmp _ a b,x=>okE a (kd x 0)&&okE b (kd x 1)
 | .cmp2 _ _ a b k,x=>okE a (kd x 0)&&(okE b (kd x 1)&&okE k (kd x 2))
 | .all es,x=>okEs es (kids x)
 | .any es,x=>okEs es (kids x)
 | .ite q a b,x=>okE q (kd x 0)&&(okE a (kd x 1)&&okE b (kd x 2))
 | .call k as,x=>isTx t.fn[k]? (nm (kd x 0))&&(t.nm.pl k&&(chG sc (nm (kd x 0))&&okEs as (kids x).tail))
 | .new i as,x=>isTx t.cn[i]? (nm (kd x 0))&&(chG sc (nm (kd x 0))&&okEs as (kids x).tail)
 | .meth a k as,x=>isTx t.fn[k]? (nm (kd x 0))&&(okE a (kd (kd x 0) 0)&&(isnt a 1&&(((kd x 0).pos.endLine==x.pos.line)&&(Nat.blt (toEs sc as (kids x).tail).length 30&&okEs as (kids x).tail))))
 | .bi b as,x=>seq (nm (kd x 0)) (biName b)&&(chG sc (nm (kd x 0))&&okEs as (kids x).tail)
 | .bm a m as,x=>seq (nm (kd x 0)) (bmName m)&&(okE a (kd (kd x 0) 0)&&(isnt a 1&&(((kd x 0).pos.endLine==x.pos.line)&&(Nat.blt (toEs sc as (kids x).tail).length 30&&okEs as (kids x).tail))))
 | .attr a z,x=>seq (nm x) (atName z)&&(okE a (kd x 0)&&isnt a 1)
 | .idx a b,x=>okE a (kd x 0)&&okE b (kd x 1)
 | .slice a lo hi,x=>okE a (kd x 0)&&(okEo lo (kd (kd x 1) 0)&&okEo hi (kd (kd x 1) 1))
 | .tuple as,x=>okEs as (kids x)
 | .list as,x=>okEs as (kids x)
 | .dict0,_=>true
 | .compVar m j src,x=>okE src (kd x 2)&&(decide ((nps (kids (kd x 1))).length=m)&&(decide (((nps (kids (kd x 1))).map (·.1))[j]?=some (nm (kd x 0)))&&(decide ((nps (kids (kd x 1))).map (·.1)).Nodup&&(!(seq (nm (kd x 0)) "__debug__") &&
   ((scp sc x).names.all (fun z=>decide (z.2≠.free))&&(chS vars sc (scp sc x)&&(nps (kids (kd x 1))).all fun p=>isK p.1 (scp sc x).names .local))))))
 | .compPair cap src,x=>okE src (kd x 2)&&(isTx vars[cap]? (nm (kd (kd x 0) 1))&&(isK (nm (kd (kd x 0) 1)) sc.names .cell&&(!(seq (nm (kd x 1)) "__debug__")&&(chS vars sc (scp sc x)&&(isK (nm (kd x 1)) (scp sc x).names .local&&isK (nm (kd (kd x 0) 1)) (scp sc x).names .free)))))
 | .compSel iv isp src,x=>okE src (kd (kd x 2) 1)&&(chG sc "enumerate"&&(isTx vars[iv]? (nm (kd (kd x 0) 1))&&(isK (nm (kd (kd x 0) 1)) sc.names .cell&&(isTx vars[isp]? (nm (kd (kd (kd x 0) 0) 1))&&(isK (nm (kd (kd (kd x 0) 0) 1)) sc.names .cell &&
   (!(seq (nm (kd (kd x 1) 0)) "__debug__")&&(!(seq (nm (kd (kd x 1) 1)) "__debug__")&&(!(seq (nm (kd (kd x 1) 0)) (nm (kd (kd x 1) 1)))&&(chS vars sc (scp sc x) &&
   (isK (nm (kd (kd x 1) 0)) (scp sc x).names .local&&(isK (nm (kd (kd x 1) 1)) (scp sc x).names .local&&(isK (nm (kd (kd x 0) 1)) (scp sc x).names .free&&isK (nm (kd (kd (kd x 0) 0) 1)) (scp sc x).names .free))))))))))))
noncomputable def okEs:Es->List Expr->Bool
 | .nil,_=>true
 | .cons a as,xs=>okE a (xs.headD dE)&&okEs as xs.tail
noncomputable def okEo:Eo->Expr->Bool
 | .no,_=>true
 | .yes a,x=>okE a x
end
end
section
variable {c:Cx}{T:Stat}{C:Calls}{mg mb:Str->Option Value}{d u:Nat}{t:Tb}{vars:List Tx}
theorem plain_ok {sc:Scope}{p:Pos}(env:Env):∀ (es:Es) (xs:List Expr),(backTo p (starEach (toEs sc es xs) env)).any (·.1)=false
 | .nil,_=>rfl
 | .cons a as,xs=>by
  show (backTo p (starEach (toE sc a (xs.headD dE)::toEs sc as xs.tail) env)).any (·.1)=false;rw [star_ok];exact plain_ok env as xs.tail
theorem dfl {ir:E}{x:Expr}(h:EvX c T C d u ir x)(hd:∀ env whole,isTrue x env whole=(do let v ← whole; standAt x.pos; holding [v] (truthy v))):EvX c T C d u ir x∧TsX c T C d u ir x:=⟨h,ts_dflt h hd⟩
theorem sok_free (V:VarsOk c.f c.vars)(hv:c.vars=vars.map sOf){scope:Scope}(h:SOk vars c.f.scope scope):∀ z∈scope.names,z.2=.free->∃ a,c.f.cells.lookup z.1=some a:=fun z hz hf=>by
 obtain ⟨h1,h2⟩:=h.free z hz hf;rcases V.var z.1 (hv▸h1) with q | ⟨_,a,ha⟩
 ·cases Ag ((h2:c.f.env.kindOf z.1=_).symm.trans q)
 ·exact ⟨a,ha⟩
theorem ts_ite {q a b:E}{x y z:Expr}{p:Pos}(hq:TsX c T C d u q x)(ha:TsX c T C d u a y)(hb:TsX c T C d u b z):TsX c T C d u (.ite q a b) (.IfExp x y z p):=by
 intro A e J s Y Q X QC EC hA h S H HX;refine wpAny_bind (m:=isTrue x c.f.env (eval x c.f.env)) (hq A e J s Y _ X _ EC hA h S ?_ HX);intro r s' Y' J' hs P S' q';rcases ifW_i q' with ⟨rfl,q'⟩ | ⟨rfl,q'⟩
 ·exact ⟨_,rfl,ha A e J' s' Y' Q X QC EC hA q' S' (H.pre hs P) (HX.pre hs P)⟩
 ·exact ⟨_,rfl,hb A e J' s' Y' Q X QC EC hA q' S' (H.pre hs P) (HX.pre hs P)⟩
structure EsX (c:Cx)(T:Stat)(C:Calls)(d u:Nat)(es:Es)(xs:List Expr):Prop where
 ev:EvsX c T C d u es xs
 all:AllX c T C d u es xs
 any:AnyX c T C d u es xs
 allV:AllV c T C d u es xs
 anyV:AnyV c T C d u es xs
theorem ev_ok (F:FOk c T C t.nm mg mb d u)(hv:c.vars=vars.map sOf)(ir:E):∀ x,okE t vars c.f.scope ir x=true->EvX c T C d u ir (toE c.f.scope ir x)∧TsX c T C d u ir (toE c.f.scope ir x):=by
 have var:∀ {i:Nat} {s:Str},isTx vars[i]? s=true->c.vars[i]?=some s:=fun h=>by rw [hv]; exact var_i h
 induction ir using E.rec (motive_2:=fun es=>∀ xs,okEs t vars c.f.scope es xs=true->EsX c T C d u es (toEs c.f.scope es xs))
  (motive_3:=fun eo=>∀ x,okEo t vars c.f.scope eo x=true->EvoX c T C d u eo (toEo c.f.scope eo x)) with
 | none=>exact fun x h=>dfl ev_none fun _ _=>rfl
 | bool b=>exact fun x h=>dfl ev_bool fun _ _=>rfl
 | int i=>exact fun x h=>dfl ev_int fun _ _=>rfl
 | str s=>
  intro x h;obtain ⟨h1,h2⟩:=and_i h;exact dfl (ev_str (by rw [txEq_iff.mp h1,sOf_tl]) (Aa (Ad h2) (Ar 1000 999000))) fun _ _=>rfl
 | v i=>exact fun x h=>dfl (ev_v F.V (var h)) fun _ _=>rfl
 | g i=>
  intro x h;obtain ⟨h1,h2⟩:=and_i h;exact dfl (ev_g F.NO F.V (isTx_i h1) (chG_i _ h2)) fun _ _=>rfl
 | bin op a b iha ihb=>
  intro x h;obtain ⟨h1,h2⟩:=and_i h;exact dfl (ev_bin (iha _ h1).1 (ihb _ h2).1) fun _ _=>rfl
 | neg a iha=>exact fun x h=>dfl (ev_neg (iha _ h).1) fun _ _=>rfl
 | not a iha=>exact fun x h=>⟨ev_not (iha _ h).1,ts_not (iha _ h).2⟩
 | cmp op a b iha ihb=>
  intro x h;obtain ⟨h1,h2⟩:=and_i h;exact ⟨ev_cmp F.hu F.O (iha _ h1).1 (ihb _ h2).1 (marks_ok ..),ts_cmp F.hu F.O (iha _ h1).1 (ihb _ h2).1 (marks_ok ..)⟩
 | cmp2 o1 o2 a b k iha ihb ihk=>
  intro x h;obtain ⟨h1,h⟩:=and_i h;obtain ⟨h2,h3⟩:=and_i h;exact ⟨ev_cmp2 F.hu F.O (iha _ h1).1 (ihb _ h2).1 (ihk _ h3).1 (marks_ok ..),ts_cmp2 F.hu F.O (iha _ h1).1 (ihb _ h2).1 (ihk _ h3).1 (marks_ok ..)⟩
 | all es ih=>exact fun x h=>⟨fun A=>(ih _ h).allV A _,(ih _ h).all⟩
 | any es ih=>exact fun x h=>⟨fun A=>(ih _ h).anyV A _,(ih _ h).any⟩
 | ite q a b ihq iha ihb=>
  intro x h;obtain ⟨h1,h⟩:=and_i h;obtain ⟨h2,h3⟩:=and_i h;exact ⟨ev_ite (ihq _ h1).2 (iha _ h2).1 (ihb _ h3).1,ts_ite (ihq _ h1).2 (iha _ h2).2 (ihb _ h3).2⟩
 | call k as ih=>
  intro x h;obtain ⟨h1,h⟩:=and_i h;obtain ⟨h2,h⟩:=and_i h;obtain ⟨h3,h4⟩:=and_i h;exact dfl (ev_call F.NO F.V F.CO (isTx_i h1) (chG_i _ h3) (ih _ h4).ev (fun env=>plain_ok env ..) (F.NO.pl k h2)) fun _ _=>rfl
 | new i as ih=>
  intro x h;obtain ⟨h1,h⟩:=and_i h;obtain ⟨h3,h4⟩:=and_i h;exact dfl (ev_new F.O F.NO F.V F.CO (isTx_i h1) (chG_i _ h3) (ih _ h4).ev (fun env=>plain_ok env ..)) fun _ _=>rfl
 | meth a k as iha ih=>
  intro x h;obtain ⟨h1,h⟩:=and_i h;obtain ⟨h2,h⟩:=and_i h;obtain ⟨h3,h⟩:=and_i h;obtain ⟨h4,h⟩:=and_i h;obtain ⟨h5,h6⟩:=and_i h;exact dfl (ev_meth F.O F.NO F.CO (isTx_i h1) (iha _ h2).1 (base_ok _ h3 ..) h4 (Ad h5) (ih _ h6).ev (fun env=>plain_ok env ..)) fun _ _=>rfl
 | bi b as ih=>
  intro x h;obtain ⟨h1,h⟩:=and_i h;obtain ⟨h3,h4⟩:=and_i h;have h1:=seq_i h1;show EvX c T C d u (.bi b as) (.Call (nmX (kd x 0)) _ [] x.pos)∧TsX c T C d u (.bi b as) (.Call (nmX (kd x 0)) _ [] x.pos);unfold nmX;rw [h1] at h3 ⊢;exact dfl (ev_bi F.NO F.V (chG_i _ h3) (ih _ h4).ev (fun env=>plain_ok env ..)) fun _ _=>rfl
 | bm a m as iha ih=>
  intro x h;obtain ⟨h1,h⟩:=and_i h;obtain ⟨h2,h⟩:=and_i h;obtain ⟨h3,h⟩:=and_i h;obtain ⟨h4,h⟩:=and_i h;obtain ⟨h5,h6⟩:=and_i h;have h1:=seq_i h1;show EvX c T C d u (.bm a m as) (.Call (.Attribute _ (nm (kd x 0)) _) _ [] x.pos)∧TsX c T C d u (.bm a m as) (.Call (.Attribute _ (nm (kd x 0)) _) _ [] x.pos);rw [h1];exact dfl (ev_bm (iha _ h2).1 (base_ok _ h3 ..) h4 (Ad h5) (ih _ h6).ev (fun env=>plain_ok env ..)) fun _ _=>rfl
 | attr a y iha=>
  intro x h;obtain ⟨h1,h⟩:=and_i h;obtain ⟨h2,h3⟩:=and_i h;have h1:=seq_i h1;show EvX c T C d u (.attr a y) (.Attribute _ (nm x) x.pos)∧TsX c T C d u (.attr a y) (.Attribute _ (nm x) x.pos);rw [h1];exact dfl (ev_attr F.O (iha _ h2).1 (base_ok _ h3 ..)) fun _ _=>rfl
 | idx a b iha ihb=>
  intro x h;obtain ⟨h1,h2⟩:=and_i h;exact dfl (ev_idx (iha _ h1).1 (ihb _ h2).1 (sub_ok _ _ _)) fun _ _=>rfl
 | slice a lo hi iha ihl ihh=>
  intro x h;obtain ⟨h1,h⟩:=and_i h;obtain ⟨h2,h3⟩:=and_i h;exact dfl (ev_slice (iha _ h1).1 (ihl _ h2) (ihh _ h3)) fun _ _=>rfl
 | tuple as ih=>exact fun x h=>dfl (ev_tuple (ih _ h).ev) fun _ _=>rfl
 | list as ih=>exact fun x h=>dfl (ev_list (ih _ h).ev) fun _ _=>rfl
 | dict0=>exact fun x h=>dfl ev_dict0 fun _ _=>rfl
 | compVar m j src ih=>
  intro x h;obtain ⟨h1,h⟩:=and_i h;obtain ⟨h2,h⟩:=and_i h;obtain ⟨h3,h⟩:=and_i h;obtain ⟨h4,h⟩:=and_i h;obtain ⟨h5,h⟩:=and_i h;obtain ⟨h6,h⟩:=and_i h;obtain ⟨h7,h8⟩:=and_i h;have s:=chS_i _ _ h7;exact dfl (ev_compVar (ih _ h1).1 (it_ok _ _ _) (Ax h2) (Ax h3) (Ax h4) (dbg_i h5) (fun z hz=>Ax (List.all_eq_true.mp h6 z hz)) s.cell s.kind s.names fun p hp=>isK_i (List.all_eq_true.mp h8 p hp)) fun _ _=>rfl
 | compPair cap src ih=>
  intro x h;obtain ⟨h1,h⟩:=and_i h;obtain ⟨h2,h⟩:=and_i h;obtain ⟨h3,h⟩:=and_i h;obtain ⟨h4,h⟩:=and_i h;obtain ⟨h5,h⟩:=and_i h;obtain ⟨h6,h7⟩:=and_i h;have s:=chS_i _ _ h5;exact dfl (ev_compPair F.V (ih _ h1).1 (it_ok _ _ _) (var h2) (isK_i h3) (dbg_i h4) (sok_free F.V hv s) s.cell s.kind s.names (isK_i h6) (isK_i h7)) fun _ _=>rfl
 | compSel iv isp src ih=>
  intro x h;obtain ⟨h1,h⟩:=and_i h;obtain ⟨h2,h⟩:=and_i h;obtain ⟨h3,h⟩:=and_i h;obtain ⟨h4,h⟩:=and_i h;obtain ⟨h5,h⟩:=and_i h;obtain ⟨h6,h⟩:=and_i h;obtain ⟨h7,h⟩:=and_i h;obtain ⟨h8,h⟩:=and_i h;obtain ⟨h9,h⟩:=and_i h;obtain ⟨h10,h⟩:=and_i h;obtain ⟨h11,h⟩:=and_i h;obtain ⟨h12,h⟩:=and_i h;obtain ⟨h13,h14⟩:=and_i h;have s:=chS_i _ _ h10;exact dfl (ev_compSel F.NO F.V (ih _ h1).1 (star_ok _ _ _) (chG_i _ h2).1 (var h3) (isK_i h4) (var h5) (isK_i h6) (dbg_i h7) (dbg_i h8) (seq_n h9) (sok_free F.V hv s) s.cell s.kind s.names (isK_i h11) (isK_i h12) (isK_i h13) (isK_i h14)) fun _ _=>rfl
 | nil=>
  exact ⟨evs_nil,fun _ _ _ _ _ _ _ _ _ _ h=>h.elim,fun _ _ _ _ _ _ _ _ _ _ h=>h.elim,fun _ _ _ _ _ _ _ _ _ _ _ h=>h.elim,fun _ _ _ _ _ _ _ _ _ _ _ h=>h.elim⟩
 | cons a as iha ih=>
  rename_i xs h
  obtain ⟨h1,h2⟩:=and_i h;have i1:=iha _ h1;have i2:=ih _ h2;cases as with
  | nil=>exact ⟨evs_cons i1.1 i2.ev (star_ok _ _ _),all_one i1.2,any_one i1.2,allV_one i1.1,anyV_one i1.1⟩
  | cons b as=>exact ⟨evs_cons i1.1 i2.ev (star_ok _ _ _),all_more i1.2 i2.all,any_more i1.2 i2.any,allV_more i1.1 i2.allV,anyV_more i1.1 i2.anyV⟩
 | no=>exact evo_no
 | yes a iha=>rename_i x h; exact evo_yes (iha _ h).1
end
open PySem PySem.Calls PyProof.Rows PySem.SeqAt PySem.W
noncomputable def hnE (h:ExceptHandler):List Expr:=match h with
 | .ExceptHandler t _ _ _=>t.toList
noncomputable def hnB (h:ExceptHandler):List Stmt:=match h with
 | .ExceptHandler _ _ b _=>b
noncomputable def hnP (h:ExceptHandler):Pos:=match h with
 | .ExceptHandler _ _ _ p=>p
noncomputable def kS (x:Stmt):List Expr:=match x with
 | .Expr e _=>[e]
 | .Assign ts v _=>v::ts
 | .AugAssign a _ v _=>[v,a]
 | .Delete ts _=>ts
 | .If q _ _ _=>[q]
 | .While q _ _ _=>[q]
 | .For a i _ _ _=>[i,a]
 | .Return o _=>o.toList
 | .Raise o _ _=>o.toList
 | .Try _ hs _ _ _=>hs.flatMap hnE
 | _=>[]
noncomputable def kx (x:Stmt)(n:Nat):Expr:=(kS x).getD n dE
noncomputable def bS (x:Stmt):List Stmt:=match x with
 | .If _ a _ _=>a
 | .While _ a _ _=>a
 | .For _ _ a _ _=>a
 | .Try a _ _ _ _=>a
 | _=>[]
noncomputable def eS (x:Stmt):List Stmt:=match x with
 | .If _ _ b _=>b
 | .Try _ hs _ _ _=>hs.flatMap hnB
 | _=>[]
noncomputable def hP (x:Stmt):Pos:=match x with
 | .Try _ hs _ _ _=>(hs.map hnP).headD x.pos
 | _=>x.pos
section
variable (sc:Scope)
noncomputable abbrev tuX (x:Expr):Expr:=.Tuple (nmE (nps (kids x))) (num x) x.pos
noncomputable def hdS (l:List Stmt):Stmt:=l.headD (.Pass ⟨0,0,0,0⟩)
mutual
noncomputable def toS:S->Stmt->Stmt
 | .expr a,x=>.Expr (toE sc a (kx x 0)) x.pos
 | .set _ a,x=>.Assign [nmX (kx x 1)] (toE sc a (kx x 0)) x.pos
 | .setT _ a,x=>.Assign [tuX (kx x 1)] (toE sc a (kx x 0)) x.pos
 | .setAttr o _ a,x=>.Assign [.Attribute (toE sc o (kd (kx x 1) 0)) (nm (kx x 1)) (kx x 1).pos] (toE sc a (kx x 0)) x.pos
 | .setIdx o i a,x=>.Assign [.Subscript (toE sc o (kd (kx x 1) 0)) (toE sc i (kd (kx x 1) 1)) (kx x 1).pos] (toE sc a (kx x 0)) x.pos
 | .setSlice o lo hi a,x=>.Assign [.Subscript (toE sc o (kd (kx x 1) 0)) (.Slice (some (toE sc lo (kd (kd (kx x 1) 1) 0))) (some (toE sc hi (kd (kd (kx x 1) 1) 1))) none (kd (kx x 1) 1).pos) (kx x 1).pos] (toE sc a (kx x 0)) x.pos
 | .aug _ op a,x=>.AugAssign (nmX (kx x 1)) (opOf op) (toE sc a (kx x 0)) x.pos
 | .augAttr o _ op a,x=>.AugAssign (.Attribute (toE sc o (kd (kx x 1) 0)) (nm (kx x 1)) (kx x 1).pos) (opOf op) (toE sc a (kx x 0)) x.pos
 | .augIdx o i op a,x=>.AugAssign (.Subscript (toE sc o (kd (kx x 1) 0)) (toE sc i (kd (kx x 1) 1)) (kx x 1).pos) (opOf op) (toE sc a (kx x 0)) x.pos
 | .delFrom o lo,x=>.Delete [.Subscript (toE sc o (kd (kx x 0) 0)) (.Slice (some (toE sc lo (kd (kd (kx x 0) 1) 0))) none none (kd (kx x 0) 1).pos) (kx x 0).pos] x.pos
 | .ifs q a b,x=>.If (toE sc q (kx x 0)) (toSs a (bS x)) (toSs b (eS x)) x.pos
 | .whl q b,x=>.While (toE sc q (kx x 0)) (toSs b (bS x)) [] x.pos
 | .for1 _ src b,x=>.For (nmX (kx x 1)) (toE sc src (kx x 0)) (toSs b (bS x)) [] x.pos
 | .forT _ src b,x=>.For (tuX (kx x 1)) (toE sc src (kx x 0)) (toSs b (bS x)) [] x.pos
 | .ret a,x=>.Return (some (toE sc a (kx x 0))) x.pos
 | .raise a,x=>.Raise (some (.Call (.Name "ValueError" (kd (kx x 0) 0).pos) [toE sc a (kd (kx x 0) 1)] [] (kx x 0).pos)) none x.pos
 | .brk,x=>.Break x.pos
 | .cont,x=>.Continue x.pos
 | .tryVE b _ k,x=>.Try (toSs b (bS x)) [.ExceptHandler (some (.Name "ValueError" (kx x 0).pos)) none [.Assign [nmX (kx (hdS (eS x)) 1)] (toE sc k (kx (hdS (eS x)) 0)) (hdS (eS x)).pos] (hP x)] [] [] x.pos
noncomputable def toSs:Ss->List Stmt->List Stmt
 | .nil,_=>[]
 | .cons a as,xs=>toS a (hdS xs)::toSs as xs.tail
end
variable (t:Tb)(vars:List Tx)
noncomputable def chIs (vars:List Tx):List Nat->List (Str×Pos)->Bool
 | [],[]=>true
 | i::is,p::ps=>isTx vars[i]? p.1&&chIs vars is ps
 | _,_=>false
noncomputable def isCst (k:E):Bool:=match k with
 | .bool _=>true
 | .str _=>true
 | _=>false
noncomputable def one2 (l:List Nat)(P:Nat->Nat->Bool):Bool:=match l with
 | [i,j]=>P i j
 | _=>false
noncomputable def two (l:List Expr)(P:Expr->Expr->Bool):Bool:=match l with
 | [y,z]=>P y z
 | _=>false
noncomputable def opB {α:Type}(o:Option α)(P:α->Bool):Bool:=match o with
 | some x=>P x
 | none=>false
noncomputable def purO {α:Type}(m:Sem α):Option α:=match m with
 | .pure a=>some a
 | _=>none
noncomputable def chTS (y z:Expr)(k:Nat)(tp:Pos)(v:Expr)(i j:Nat):Bool:=opB (purO (swappedStores [.Tuple [nmX y,nmX z] k tp] v ⟨sc,0,0,[],Str.empty,none,.none,none,0⟩)) fun o=>opB o fun l=>decide (l=[nm y,nm z])&&(!(Nat.beq i j)&&(isTx vars[i]? (nm y)&&isTx vars[j]? (nm z)))
mutual
noncomputable def okS:S->Stmt->Bool
 | .expr a,x=>okE t vars sc a (kx x 0)&&isnt a 2
 | .set i a,x=>okE t vars sc a (kx x 0)&&(isnt a 2&&isTx vars[i]? (nm (kx x 1)))
 | .setT is a,x=>okE t vars sc a (kx x 0)&&(isnt a 2&&((isnt a 3&&chIs vars is (nps (kids (kx x 1))))||(Nat.beq (kdE a) 3&&two (kids (kx x 1)) fun y z=>one2 is (chTS sc vars y z (num (kx x 1)) (kx x 1).pos (toE sc a (kx x 0))))))
 | .setAttr o z a,x=>okE t vars sc a (kx x 0)&&(isnt a 2&&(okE t vars sc o (kd (kx x 1) 0)&&seq (nm (kx x 1)) (atName z)))
 | .setIdx o i a,x=>okE t vars sc a (kx x 0)&&(isnt a 2&&(okE t vars sc o (kd (kx x 1) 0)&&okE t vars sc i (kd (kx x 1) 1)))
 | .setSlice o lo hi a,x=>okE t vars sc a (kx x 0)&&(isnt a 2&&(okE t vars sc o (kd (kx x 1) 0)&&(okE t vars sc lo (kd (kd (kx x 1) 1) 0)&&okE t vars sc hi (kd (kd (kx x 1) 1) 1))))
 | .aug i _ a,x=>okE t vars sc a (kx x 0)&&isTx vars[i]? (nm (kx x 1))
 | .augAttr o z _ a,x=>okE t vars sc a (kx x 0)&&(okE t vars sc o (kd (kx x 1) 0)&&seq (nm (kx x 1)) (atName z))
 | .augIdx o i _ a,x=>okE t vars sc a (kx x 0)&&(okE t vars sc o (kd (kx x 1) 0)&&okE t vars sc i (kd (kx x 1) 1))
 | .delFrom o lo,x=>okE t vars sc o (kd (kx x 0) 0)&&okE t vars sc lo (kd (kd (kx x 0) 1) 0)
 | .ifs q a b,x=>okE t vars sc q (kx x 0)&&(okSs a (bS x)&&okSs b (eS x))
 | .whl q b,x=>okE t vars sc q (kx x 0)&&okSs b (bS x)
 | .for1 i src b,x=>okE t vars sc src (kx x 0)&&(isTx vars[i]? (nm (kx x 1))&&okSs b (bS x))
 | .forT is src b,x=>okE t vars sc src (kx x 0)&&(chIs vars is (nps (kids (kx x 1)))&&okSs b (bS x))
 | .ret a,x=>okE t vars sc a (kx x 0)
 | .raise a,x=>chG sc "ValueError"&&okE t vars sc a (kd (kx x 0) 1)
 | .brk,_=>true
 | .cont,_=>true
 | .tryVE b i k,x=>chG sc "ValueError"&&(okSs b (bS x)&&(okE t vars sc k (kx (hdS (eS x)) 0)&&(isCst k&&isTx vars[i]? (nm (kx (hdS (eS x)) 1)))))
noncomputable def okSs:Ss->List Stmt->Bool
 | .nil,_=>true
 | .cons a as,xs=>okS a (hdS xs)&&okSs as xs.tail
end
end
theorem one2_i {l:List Nat}{P:Nat->Nat->Bool}(h:one2 l P=true):∃ i j,l=[i,j]∧P i j=true:=by
 cases l with
 | nil=>cases h
 | cons a l=>
 cases l with
 | nil=>cases h
 | cons b l=>
 cases l with
 | nil=>exact ⟨_,_,rfl,h⟩
 | cons _ _=>cases h
theorem two_i {l:List Expr}{P:Expr->Expr->Bool}(h:two l P=true):∃ i j,l=[i,j]∧P i j=true:=by
 cases l with
 | nil=>cases h
 | cons a l=>
 cases l with
 | nil=>cases h
 | cons b l=>
 cases l with
 | nil=>exact ⟨_,_,rfl,h⟩
 | cons _ _=>cases h
theorem tup_i {a:E}(h:Nat.beq (kdE a) 3=true):∃ as,a=.tuple as:=by
 cases a<;>first | exact ⟨_,rfl⟩ | exact (Bool.false_ne_true h).elim
theorem cst_i {a:E}{sc:Scope}{t:Tb}{vars:List Tx}{x:Expr}(h:isCst a=true)(h':okE t vars sc a x=true):CstX a (toE sc a x):=by
 cases a with
 | bool b=>exact .inl ⟨b,_,_,rfl,rfl⟩
 | str s=>
  obtain ⟨h1,h2⟩:=and_i h';refine .inr ⟨s,num x,x.pos,rfl,?_,Aa (Ad h2) (Ar 1000 999000)⟩;show Expr.Constant (.str (nm x)) _ _=_;rw [txEq_iff.mp h1,sOf_tl]
 | _=>exact (Bool.false_ne_true h).elim
theorem chIs_i {vars:List Tx}{is:List Nat}{xs:List (Str×Pos)}(h:chIs vars is xs=true):is.length=xs.length∧∀ (j:Nat) (i:Nat) (x:Str×Pos),is[j]?=some i->xs[j]?=some x->(vars.map sOf)[i]?=some x.1:=by
 induction is generalizing xs with
 | nil=>
  cases xs with
  | nil=>exact ⟨rfl,fun _ _ _ h=>none_some List.getElem?_nil h⟩
  | cons _ _=>cases h
 | cons i is ih=>
  cases xs with
  | nil=>cases h
  | cons p ps=>
   have h:=and_i h;have g:=ih h.2;refine ⟨congrArg Nat.succ g.1,fun j i' x e1 e2=>?_⟩;cases j with
   | zero=>cases Ag e1; cases Ag e2; exact var_i h.1
   | succ j=>exact g.2 j i' x e1 e2
theorem opB_i {α:Type}{o:Option α}{P:α->Bool}(h:opB o P=true):∃ x,o=some x∧P x=true:=by
 cases o with
 | none=>cases h
 | some x=>exact ⟨x,rfl,h⟩
theorem purO_i {α:Type}{m:Sem α}{a:α}(h:purO m=some a):m=pure a:=by
 cases m with
 | pure b=>cases Ag h; rfl
 | _=>exact none_some rfl h
section
variable {c:Cx}{T:Stat}{C:Calls}{mg mb:Str->Option Value}{d u:Nat}{t:Tb}{vars:List Tx}
theorem st_ok (F:FOk c T C t.nm mg mb d u)(hv:c.vars=vars.map sOf)(ir:S):∀ x,okS c.f.scope t vars ir x=true->StX c T C d u ir (toS c.f.scope ir x):=by
 have ev:=fun a x h=>ev_ok F hv a x h;have var:∀ {i:Nat} {s:Str},isTx vars[i]? s=true->c.vars[i]?=some s:=fun h=>by rw [hv]; exact var_i h
 have vas:∀ {is:List Nat} {xs:List (Str×Pos)},chIs vars is xs=true->is.length=xs.length∧∀ (j:Nat) (i:Nat) (x:Str×Pos),is[j]?=some i->xs[j]?=some x->c.vars[i]?=some x.1:=fun h=>by rw [hv]; exact chIs_i h
 induction ir using S.rec (motive_2:=fun ss=>∀ xs,okSs c.f.scope t vars ss xs=true->SsX c T C d u ss (toSs c.f.scope ss xs)) with
 | expr a=>
  intro x h;obtain ⟨h1,h2⟩:=and_i h;exact st_expr F.V (ev _ _ h1).1 (sw_ok _ h2 _)
 | set i a=>
  intro x h;obtain ⟨h1,h⟩:=and_i h;obtain ⟨h2,h3⟩:=and_i h;exact st_set F.V (ev _ _ h1).1 (sw_ok _ h2 _) (var h3)
 | setT is a=>
  intro x h;obtain ⟨h1,h⟩:=and_i h;obtain ⟨h2,h⟩:=and_i h;rcases Bool.or_eq_true_iff.mp h with h | h
  ·obtain ⟨h3,h4⟩:=and_i h;obtain ⟨g1,g2⟩:=vas h4;exact st_setT F.V (ev _ _ h1).1 (sw_ok _ h2 _) g1 g2 (ntup_ok _ h3 _ _)
  ·obtain ⟨h3,h⟩:=and_i h;obtain ⟨as,rfl⟩:=tup_i h3;obtain ⟨y,z,e1,h⟩:=two_i h;obtain ⟨i,j,rfl,h⟩:=one2_i h;obtain ⟨o,g1,h⟩:=opB_i h;obtain ⟨l,g2,h⟩:=opB_i h;obtain ⟨g3,h⟩:=and_i h;obtain ⟨g4,h⟩:=and_i h;obtain ⟨g5,g6⟩:=and_i h;show StX c T C d u (.setT [i,j] (.tuple as)) (.Assign [.Tuple (nmE (nps (kids (kx x 1)))) _ _] _ _);rw [e1];refine st_setTS F.V (ev _ _ h1).1 (sw_ok _ h2 _) (fun q=>?_) (var g5) (var g6) ?_
   ·rw [q,Nat.beq_refl] at g4; cases g4
   ·have g:=purO_i g1;rw [g2,Ax g3] at g;exact g
 | setAttr o y a=>
  intro x h;obtain ⟨h1,h⟩:=and_i h;obtain ⟨h2,h⟩:=and_i h;obtain ⟨h3,h4⟩:=and_i h;show StX c T C d u (.setAttr o y a) (.Assign [.Attribute _ (nm (kx x 1)) _] _ _);rw [seq_i h4];exact st_setAttr F.O (ev _ _ h1).1 (ev _ _ h3).1 (sw_ok _ h2 _)
 | setIdx o i a=>
  intro x h;obtain ⟨h1,h⟩:=and_i h;obtain ⟨h2,h⟩:=and_i h;obtain ⟨h3,h4⟩:=and_i h;exact st_setIdx (ev _ _ h1).1 (ev _ _ h3).1 (ev _ _ h4).1 (sw_ok _ h2 _)
 | setSlice o lo hi a=>
  intro x h;obtain ⟨h1,h⟩:=and_i h;obtain ⟨h2,h⟩:=and_i h;obtain ⟨h3,h⟩:=and_i h;obtain ⟨h4,h5⟩:=and_i h;exact st_setSlice (ev _ _ h1).1 (ev _ _ h3).1 (ev _ _ h4).1 (ev _ _ h5).1 (sw_ok _ h2 _)
 | aug i op a=>
  intro x h;obtain ⟨h1,h2⟩:=and_i h;exact st_aug F.V (ev _ _ h1).1 (var h2)
 | augAttr o y op a=>
  intro x h;obtain ⟨h1,h⟩:=and_i h;obtain ⟨h3,h4⟩:=and_i h;show StX c T C d u (.augAttr o y op a) (.AugAssign (.Attribute _ (nm (kx x 1)) _) _ _ _);rw [seq_i h4];exact st_augAttr F.O (ev _ _ h3).1 (ev _ _ h1).1
 | augIdx o i op a=>
  intro x h;obtain ⟨h1,h⟩:=and_i h;obtain ⟨h3,h4⟩:=and_i h;exact st_augIdx (ev _ _ h3).1 (ev _ _ h4).1 (ev _ _ h1).1 (augs_ok _ _ _)
 | delFrom o lo=>
  intro x h;obtain ⟨h1,h2⟩:=and_i h;exact st_delFrom (ev _ _ h1).1 (ev _ _ h2).1
 | ifs q a b iha ihb=>
  intro x h;obtain ⟨h1,h⟩:=and_i h;obtain ⟨h2,h3⟩:=and_i h;exact st_ifs (ev _ _ h1).2 (iha _ h2) (ihb _ h3)
 | whl q b ihb=>
  intro x h;obtain ⟨h1,h2⟩:=and_i h;exact st_whl (ev _ _ h1).2 (ihb _ h2)
 | for1 i src b ihb=>
  intro x h;obtain ⟨h1,h⟩:=and_i h;obtain ⟨h2,h3⟩:=and_i h;exact st_for (tg:=tg1 i) (fun h=>h) (ev _ _ h1).1 (it_ok _ _ _) (tg1_x F.V (var h2)) (ihb _ h3)
 | forT is src b ihb=>
  intro x h;obtain ⟨h1,h⟩:=and_i h;obtain ⟨h2,h3⟩:=and_i h;obtain ⟨g1,g2⟩:=vas h2;exact st_for (tg:=tgT is) (fun h=>h) (ev _ _ h1).1 (it_ok _ _ _) (tgT_x F.V g1 g2) (ihb _ h3)
 | ret a=>exact fun x h=>st_ret (ev _ _ h).1
 | raise a=>
  intro x h;obtain ⟨h1,h2⟩:=and_i h;exact st_raise F.NO F.V (chG_i _ h1).1 (ev _ _ h2).1 (star_ok _ _ _)
 | brk=>exact fun x h=>st_brk
 | cont=>exact fun x h=>st_cont
 | tryVE b i k ihb=>
  intro x h;obtain ⟨h1,h⟩:=and_i h;obtain ⟨h2,h⟩:=and_i h;obtain ⟨h3,h⟩:=and_i h;obtain ⟨h4,h5⟩:=and_i h;exact st_try F.NO F.V (chG_i _ h1).1 (ihb _ h2) (cst_i h4 h3) (var h5)
 | nil=>exact ss_nil
 | cons a as iha ih=>
  rename_i xs h
  obtain ⟨h1,h2⟩:=and_i h;have i2:=ih _ h2;cases as with
  | nil=>exact ss_one (iha _ h1)
  | cons b as=>exact ss_cons (iha _ h1) i2
theorem ss_ok (F:FOk c T C t.nm mg mb d u)(hv:c.vars=vars.map sOf):∀ (ss:Ss) (xs:List Stmt),okSs c.f.scope t vars ss xs=true->SsX c T C d u ss (toSs c.f.scope ss xs)
 | .nil,_,_=>ss_nil
 | .cons a .nil,xs,h=>ss_one (st_ok F hv a _ (and_i h).1)
 | .cons a (.cons b as),xs,h=>ss_cons (st_ok F hv a _ (and_i h).1) (ss_ok F hv (.cons b as) xs.tail (and_i h).2)
end
open PySem PySem.Calls PyProof.Rows PySem.SeqAt PySem.W
theorem bindL_not {ko:Str->Option NameKind}{x:Str}(bs:List (Str×Value))(m:Str->Option Value)(h:x∉bs.map (·.1)):bindL ko bs m x=m x:=by
 induction bs generalizing m with
 | nil=>rfl
 | cons p r ih=>
  refine (ih (if ko p.1=some .local then fun y=>if y=p.1 then some p.2 else m y else m) fun q=>h (List.mem_cons_of_mem _ q)).trans ?_
  by_cases hk:ko p.1=some .local
  ·rw [if_pos hk]; exact if_neg fun q:x=p.1=>h (q▸List.mem_cons_self ..)
  ·rw [if_neg hk]
theorem not_zip {x:Str}{ps:List Str}{vs:List Value}(h:x∉ps):x∉(ps.zip vs).map (·.1):=fun q=>(List.mem_map.mp q).elim fun p q=>h (q.2▸(List.of_mem_zip q.1).1)
theorem bindL_get {ko:Str->Option NameKind}{x:Str}{v:Value}(hk:ko x=some .local)(ps:List Str)(vs:List Value)(m:Str->Option Value)(i:Nat)(nd:ps.Nodup)(h:ps[i]?=some x)(h':vs[i]?=some v):bindL ko (ps.zip vs) m x=some v:=by
 induction ps generalizing vs m i with
 | nil=>exact none_some List.getElem?_nil h
 | cons p ps ih=>
  cases vs with
  | nil=>exact none_some List.getElem?_nil h'
  | cons w vs=>
   have nd:=List.nodup_cons.mp nd;cases i with
   | succ i=>exact ih vs _ i nd.2 h h'
   | zero=>
    cases Ag h; cases Ag h';refine (bindL_not (ps.zip vs) (if ko x=some .local then fun y=>if y=x then some v else m y else m) (not_zip nd.1)).trans ?_
    rw [if_pos hk]; exact if_pos rfl
theorem bindC_not {ko:Str->Option NameKind}{x:Str}(bs:List (Str×Value))(m:Str->Option Value)(h:x∉bs.map (·.1)):bindC ko bs m x=m x:=by
 induction bs generalizing m with
 | nil=>rfl
 | cons p r ih=>
  refine (ih (if ko p.1=some .local then m else fun y=>if y=p.1 then some p.2 else m y) fun q=>h (List.mem_cons_of_mem _ q)).trans ?_
  by_cases hk:ko p.1=some .local
  ·rw [if_pos hk]
  ·rw [if_neg hk]; exact if_neg fun q:x=p.1=>h (q▸List.mem_cons_self ..)
theorem bindC_get {ko:Str->Option NameKind}{x:Str}{v:Value}(hk:ko x=some .cell)(ps:List Str)(vs:List Value)(m:Str->Option Value)(i:Nat)(nd:ps.Nodup)(h:ps[i]?=some x)(h':vs[i]?=some v):bindC ko (ps.zip vs) m x=some v:=by
 induction ps generalizing vs m i with
 | nil=>exact none_some List.getElem?_nil h
 | cons p ps ih=>
  cases vs with
  | nil=>exact none_some List.getElem?_nil h'
  | cons w vs=>
   have nd:=List.nodup_cons.mp nd;cases i with
   | succ i=>exact ih vs _ i nd.2 h h'
   | zero=>
    cases Ag h; cases Ag h';refine (bindC_not (ps.zip vs) (if ko x=some .local then m else fun y=>if y=x then some v else m y) (not_zip nd.1)).trans ?_
    rw [if_neg (by rw [hk]; decide)]; exact if_pos rfl
theorem cellsFrom_cons (p:Str×NameKind)(n:Nat)(r:List (Str×NameKind))(acc:List (Str×Addr)):cellsFrom n (p::r) acc=if (p.2==.cell)=true then cellsFrom (n+1) r ((p.1,n)::acc) else cellsFrom n r acc:=rfl
theorem cells_acc {x:Str}(names:List (Str×NameKind))(n:Nat)(acc:List (Str×Addr))(h:(acc.lookup x).isSome=true):((cellsFrom n names acc).lookup x).isSome=true:=by
 induction names generalizing n acc with
 | nil=>exact h
 | cons p r ih=>
  rw [cellsFrom_cons];by_cases hk:(p.2==NameKind.cell)=true
  ·rw [if_pos hk];refine ih _ _ ?_;cases hx:x==p.1 with
   | true=>rw [lk_hit hx]; rfl
   | false=>rw [lk_miss hx]; exact h
  ·rw [if_neg hk]; exact ih _ _ h
theorem cells_some {x:Str}(names:List (Str×NameKind))(n:Nat)(acc:List (Str×Addr))(h:names.lookup x=some .cell):((cellsFrom n names acc).lookup x).isSome=true:=by
 induction names generalizing n acc with
 | nil=>exact none_some rfl h
 | cons p r ih=>
  have h:((p.1,p.2)::r).lookup x=some .cell:=h;rw [cellsFrom_cons];cases hx:x==p.1 with
  | true=>
   rw [if_pos (by rw [Ag ((lk_hit hx).symm.trans h)]; rfl)];exact cells_acc r _ _ (by rw [lk_hit hx]; rfl)
  | false=>
   have g:=(lk_miss hx).symm.trans h;by_cases hk:(p.2==NameKind.cell)=true
   ·rw [if_pos hk]; exact ih _ _ g
   ·rw [if_neg hk]; exact ih _ _ g
structure FnD where
 a:Addr
 o:Obj
 fd:FuncData
 body:List Stmt
 vs:List Tx
noncomputable abbrev FnD.vars (F:FnD):List Str:=F.vs.map sOf
structure FnOk (base:Heap)(t:Tb)(k:Nat)(d:FDef)(F:FnD):Prop where
 fa:t.nm.fa k=some F.a
 at_:base.get? F.a=some F.o
 data:F.o.data=.func F.fd
 body:F.fd.body=.stmts F.body
 clos:F.fd.closure=[]
 glob:F.fd.globals=mainGlobals
 bltn:F.fd.builtins=builtinsNs
 co:F.fd.scope.isCoroutine=false
 gen:F.fd.scope.isGenerator=false
 kind:F.fd.scope.kind=.function
 code:base.CodeRec F.fd.code F.fd.qualname
 np:d.np<=F.vars.length
 bind:∀ vs:List Value,vs.length=d.np->bindArgs F.fd ⟨vs,[]⟩=pure ((F.vars.take d.np).zip vs)
 nodup:F.vars.Nodup
 var:∀ x∈F.vars,F.fd.scope.names.lookup x=some .local∨F.fd.scope.names.lookup x=some .cell
 dbg:∀ x∈F.vars,(x==("__debug__" : Str))=false
 tree:toSs F.fd.scope d.body F.body=F.body
 good:okSs F.fd.scope t F.vs d.body F.body=true
noncomputable def Cx.at (G:Cx)(f:Fm)(vars:List Str)(outer:List Env):Cx:={ G with f:=f,vars:=vars,outer:=outer }
theorem CxOk.at {G:Cx}(O:CxOk G)(f:Fm)(vars:List Str)(outer:List Env):CxOk (G.at f vars outer):=⟨O.K,O.cls,O.sys,O.lim⟩
theorem NmOk.at {G:Cx}{T:Stat}{N:Nm}{mg mb:Str->Option Value}(O:NmOk G T N mg mb)(f:Fm)(vars:List Str)(outer:List Env):NmOk (G.at f vars outer) T N mg mb:=
 ⟨O.g,O.b,O.glob,O.fn,O.meth,O.cls,O.bi,O.pl,O.ve,O.enum⟩
section
variable {G:Cx}{T:Stat}{t:Tb}{mg mb:Str->Option Value}{D:Nat->Option FDef}
theorem back {c c':Cx}{e e':Ev}{J J':Store}{s s':Shared}{Y Y':Rho}{h₁:Heap}(hcc:c.F=framesOf c'.outer)(hst:c.prog=c'.prog∧c.w=c'.w∧c.base=c'.base∧c.cls=c'.cls∧c.tk0=c'.tk0)(S:c.S Y e J s)(hk1:∀ b o,s.heap.get? b=some o->h₁.get? b=some o)(hL:c'.f.env.frame=some c'.f.L)(hn:∀ b,c'.f.own b->s.heap.get? b=none)
  (P:c'.PO Y h₁ Y' s'.heap) (S':c'.S Y' e' J' s'):c.P Y s.heap Y' s'.heap∧c.S Y' e J' s':=by
 have hF:c'.F=c'.f.L::c.F:=by
  show framesOf (c'.f.env::c'.outer)=_;unfold framesOf;rw [List.filterMap_cons,hL,hcc];rfl
 have P0:Stp c'.F c'.f.own Y s.heap Y' s'.heap:=(Stp.other hk1).trans P;have P1:Stp c.F c'.f.own Y s.heap Y' s'.heap:=by
  rw [hF] at P0;exact P0.less (hn _ (.inl rfl))
 have P2:c.P Y s.heap Y' s'.heap:=⟨P1.pre,P1.fresh,P1.dom,P1.imm,fun b o eo n _ f=>P1.keep b o eo n (fun w=>none_some (hn b w) eo) f,fun b o eo n _=>P1.slot b o eo n (fun w=>none_some (hn b w) eo)⟩;obtain ⟨e1,e2,e3,e4,e5⟩:=hst;have sim:Sim c.prog c.w c.base c.cls Y' J' s'.heap:=by rw [e1,e2,e3,e4]; exact S'.sim
 have stays:c.base.StaysIn s'.heap:=by rw [e3]; exact S'.stays
 exact ⟨P2,⟨S.toSt.move P2 stays sim,S'.pos,S'.tks,by rw [e5]; exact S'.ini⟩⟩
structure Frm (s:Shared)(F:FnD)(np:Nat)(vals:List Value)(fm:Fm)(h₁:Heap):Prop where
 sc:fm.scope=F.fd.scope
 kp:Kp s.heap h₁
 own:∀ b,fm.own b->s.heap.get? b=none
 V:VarsOk fm F.vars
 ns:∃ m,h₁.Ns fm.L m
 cel:∀ x c,fm.cells.lookup x=some c->∃ v,h₁.IsCell c v
 ev:∀ i v,i<np->vals[i]?=some v->∃ x,F.vars[i]?=some x∧fm.val h₁ x v
set_option backward.match.sparseCases true in
theorem enter {A:Around}{s:Shared}{k:Nat}{fd:FDef}{F:FnD}{vals:List Value}{R:Result->Shared->Prop}(O:CxOk G)(K:FnOk G.base t k fd F)(hst:G.base.StaysIn s.heap)(hd:A.depth<recursionLimit)(hvl:vals.length=fd.np)
  (H:∀ fm h₁ tk,s.toks<=tk->Frm s F fd.np vals fm h₁->wpAny (model G.prog G.w) (A.deeper fm.env) (execs F.body fm.env) (fun f s'=>R (.ok (.ret (match f with | .ret v=>v | _=>.none))) s')
   (fun e s'=>wpAny (model G.prog G.w) (A.deeper fm.env) (leaving fm.env e) (fun _ s''=>R (.error e) s'') (fun e' s''=>R (.error e') s'') s') { s with heap:=h₁,toks:=tk }):codeAny (model G.prog G.w) A (.call (.ref F.a) ⟨vals,[]⟩) R s:=by
 refine codeAny_call_function hd (hst _ _ K.at_) K.data K.co K.gen K.body (K.code.keeps hst) ?_;rw [K.bind vals hvl];refine wpAny_pure ?_;rw [K.clos,K.glob,K.bltn];have cells:∀ {y:Str},F.fd.scope.names.lookup y=some .cell->∃ cc,(cellsFrom (s.heap.objs.size+1) F.fd.scope.names []).lookup y=some cc:=fun q=>Option.isSome_iff_exists.mp (cells_some _ _ _ q);refine wpAny_with_toks (Aj _) (wpAny_newFunctionEnv_cells K.kind (fun x hx=>?_) fun env' he s' x htk=>?_)
 ·exact (K.var x.1 (List.mem_of_mem_take ((List.of_mem_zip (a:=x.1) (b:=x.2) hx).1))).imp id fun q=>⟨q,cells_some _ _ _ q⟩
 subst he;obtain ⟨h₁,tk,rfl,_⟩:=x.done;have hk1:=x.toInCall.keep;refine ⟨(O.lim.keeps hst).keeps hk1,codeAny_func (H ⟨F.fd.qualname,F.fd.scope,s.heap.objs.size,F.a,F.fd.code,cellsFrom (s.heap.objs.size+1) F.fd.scope.names []⟩ h₁ tk htk ⟨rfl,hk1,?_,?_,⟨_,x.toInCall.ns⟩,fun y cc hc=>⟨_,x.cell y cc hc⟩,?_⟩)⟩
 ·rintro b (rfl | ⟨y,hy⟩)
  ·exact new_none _
  ·exact Heap.get?_none_of_le (Nat.le_of_lt (x.above y b (mem_of_lookup hy)))
 ·exact ⟨K.kind,fun y hy=>(K.var y hy).imp id fun q=>⟨q,cells q⟩,K.nodup,fun y z cc h1 h2=>name_of_addr x.apart (mem_of_lookup h1) (mem_of_lookup h2),fun y cc h1=>Nat.ne_of_gt (x.above y cc (mem_of_lookup h1)),K.dbg⟩
 ·intro i v hi hv;have hiv:i<F.vars.length:=An hi K.np;have hx0:F.vars[i]?=some F.vars[i]:=List.getElem?_eq_getElem hiv;have hxp:(F.vars.take fd.np)[i]?=some F.vars[i]:=by rw [List.getElem?_take,if_pos hi]; exact hx0
  have ndp:(F.vars.take fd.np).Nodup:=K.nodup.sublist (List.take_sublist _ _);refine ⟨_,hx0,?_⟩;rcases K.var _ (List.mem_of_getElem? hx0) with q | q
  ·exact .inl ⟨q,_,x.toInCall.ns,bindL_get q _ _ _ i ndp hxp hv⟩
  ·obtain ⟨cc,hcc⟩:=cells q;have hcell:=x.cell F.vars[i] cc hcc;rw [bindC_get q _ _ _ i ndp hxp hv] at hcell;exact .inr ⟨q,cc,hcc,hcell⟩
theorem Frm.cs {s:Shared}{fd:FDef}{F:FnD}{vs:List AV}{vals:List Value}{fm:Fm}{h₁:Heap}{k tk:Nat}{Y:Rho}{J:Store}{outer:List Env}(Fr:Frm s F fd.np vals fm h₁)(K:FnOk G.base t k fd F)(hst:G.base.StaysIn s.heap)(sim:Sim G.prog G.w G.base G.cls Y J s.heap)(rs:RVs G.base s.heap Y vs vals)(hlen:vs.length=fd.np)
  (hfrs:s.heap.FunFrames G.base outer) (hoff:∀ b∈framesOf outer,b∉muts Y) (hfrd:∀ b∈framesOf outer,∃ o es n,s.heap.get? b=some o∧o.data=.dict es n) (hpos:0<s.toks) (htks:∀ t,s.toks<=t->Y.tk t=none) (hini:∀ t x,G.tk0 t=some x->Y.tk t=some x) (htk:s.toks<=tk) :
  (G.at fm F.vars outer).S Y (fun i=>vs[i]?) J { s with heap:=h₁,toks:=tk }:=by
 have hbase:∀ b,fm.own b->G.base.get? b=none:=fun b hb=>by
  cases q:G.base.get? b with
  | none=>rfl
  | some o=>exact none_some (Fr.own b hb) (hst _ _ q)
 have hmut:∀ b,fm.own b->b∉muts Y:=fun b hb m=>by
  obtain ⟨o,ho,_⟩:=sim.lt m;exact none_some (Fr.own b hb) ho
 refine ⟨⟨stays_kp hst Fr.kp,sim.still Fr.kp.imm fun b o _ eo=>Fr.kp b o eo,Fr.ns,Fr.cel,fun i a ei=>?_,?_,hmut,fun b hb=>?_,hbase,fun b hb=>?_⟩,An hpos htk,fun t ht=>htks t (Aa htk ht),hini⟩
 ·obtain ⟨v,hv,rv⟩:=rs.get ei;obtain ⟨x,h1,h2⟩:=Fr.ev i v (hlen▸(Ai ei).1) hv;exact ⟨x,v,h1,h2,RV.mono Fr.kp.imm (Rho.Le.refl _) _ _ rv⟩
 ·obtain ⟨m,hn⟩:=Fr.ns;exact .cons (by show fm.scope.kind≠_; rw [Fr.sc,K.kind]; decide) rfl hn (hbase _ (.inl rfl)) (hfrs.of_keeps fun b o eo _=>⟨o,Fr.kp b o eo,rfl⟩)
 ·rcases List.mem_cons.mp (show b∈fm.L::framesOf outer from hb) with q | q
  ·exact q▸hmut _ (.inl rfl)
  ·exact hoff b q
 ·rcases List.mem_cons.mp (show b∈fm.L::framesOf outer from hb) with q | q
  ·obtain ⟨m,o,es,ep,ho,hdd,_⟩:=Fr.ns;exact ⟨o,es,ep,q▸ho,hdd⟩
  ·obtain ⟨o,es,nn,ho,hdd⟩:=hfrd b q;exact ⟨o,es,nn,Fr.kp b o ho,hdd⟩
theorem Frm.run {s:Shared}{fd:FDef}{F:FnD}{vals:List Value}{fm:Fm}{h₁:Heap}{k d u:Nat}{C:Calls}{outer:List Env}(Fr:Frm s F fd.np vals fm h₁)(K:FnOk G.base t k fd F)(O:CxOk G)(NO:NmOk G T t.nm mg mb)(CO:CallsOk (G.at fm F.vars outer) C t.nm.fa (d+2) (u+10))(hu:u+100<cLine):SsX (G.at fm F.vars outer) T C d u fd.body F.body:=by
 have hsc:(G.at fm F.vars outer).f.scope=F.fd.scope:=Fr.sc;have:=ss_ok (t:=t) (vars:=F.vs) (⟨O.at ..,NO.at ..,Fr.V,CO,hu⟩:FOk (G.at fm F.vars outer) T C t.nm mg mb d u) rfl fd.body F.body (hsc▸K.good);rw [hsc,K.tree] at this;exact this
theorem calls_ok (O:CxOk G)(NO:NmOk G T t.nm mg mb)(FD:∀ k d,D k=some d->∃ F,FnOk G.base t k d F):∀ n d u f vars outer,d+3*n+3<=recursionLimit->u+13*n+120<cLine->CallsOk (G.at f vars outer) (callW T D n) t.nm.fa d u:=by
 intro n
 induction n with
 | zero=>intro d u f vars outer _ _ k vs J Q X h; exact h.elim
 | succ n ih=>
  intro d u f vars outer hd hu k vs J Q X h;obtain ⟨fd,hD,hlen,h⟩:=h;obtain ⟨F,K⟩:=FD k fd hD;refine ⟨F.a,K.fa,?_⟩;intro A e s Y vals R hA S rs HV HX;refine enter (G:=G) O K S.stays (Ao hA.depth (An (Nat.lt_add_of_pos_right (by decide:0<3)) (Aa (Al (Af _ _) 3) hd))) (rs.length▸hlen) fun fm h₁ tk htk Fr=>?_;have S1:=Fr.cs (G:=G) K S.stays S.sim rs hlen S.frs S.offF S.frd S.pos S.tks S.ini htk;have hA':AOk (G.at fm F.vars (f.env::outer)) (d+1) (u+3) (A.deeper fm.env):=by
   refine ⟨?_,hA.hand,Au hA.depth,Al hA.units 3⟩;show A.frames.map (fm.env::·)=_;rw [hA.frs]; rfl
  have hs01:Same s { s with heap:=h₁,toks:=tk }:=⟨rfl,rfl,rfl,htk⟩;refine Fr.run K O NO (ih _ _ _ _ _ (by omega) (by omega)) (by omega) (A.deeper fm.env) (fun i=>vs[i]?) J _ Y _ _ _ _ hA' PassesOwn.leaving h S1 ?_ ?_
  ·intro fl f' s2 Y2 e2 J2 hs2 P2 S2 r2 q2;obtain ⟨PB,SB⟩:=back (c:=G.at f vars outer) (c':=G.at fm F.vars (f.env::outer)) rfl ⟨rfl,rfl,rfl,rfl,rfl⟩ S Fr.kp rfl Fr.own P2 S2;cases fl with
   | next=>cases (r2:f'=.next); exact HV _ s2 Y2 .none J2 (hs01.trans hs2) PB SB rv_none q2
   | brk=>exact q2.elim
   | cont=>exact q2.elim
   | ret a=>obtain ⟨v,rfl,rv⟩:=r2; exact HV _ s2 Y2 _ J2 (hs01.trans hs2) PB SB rv q2
  ·intro ex s2 Y2 e2 J2 hs2 P2 S2 x2 q2;refine leave_strong (base:=G.base) hA'.frs S2.frs rfl P2.dom x2 fun h3 x3 N3=>?_;have S3:=noted_cs S1 S2 N3;have P3:=N3.stp (frame_not_imm S2.frd) P2;obtain ⟨PB,SB⟩:=back (c:=G.at f vars outer) (c':=G.at fm F.vars (f.env::outer)) (s':={ s2 with heap:=h3 }) rfl ⟨rfl,rfl,rfl,rfl,rfl⟩ S Fr.kp rfl Fr.own P3 S3;exact HX ex _ Y2 J2 (hs01.trans (hs2.trans ⟨rfl,rfl,rfl,Aj _⟩)) PB SB (x3.pre (Dom.keeps Fr.kp)) q2
theorem top_ok (O:CxOk G)(NO:NmOk G T t.nm mg mb)(FD:∀ k d,D k=some d->∃ F,FnOk G.base t k d F){n k:Nat}{vs:List AV}{vals:List Value}{Q:QV}{A:Around}{s:Shared}{R:Result->Shared->Prop}{a:Addr}
  (hb:G.base=s.heap) (hfr:A.frames=some []) (hhand:A.handled=none) (hd:A.depth+3*n+10<=recursionLimit) (hu:A.units+13*n+200<cLine) (hpos:0<s.toks) (htk0:∀ t,s.toks<=t->G.tk0 t=none)
  (ha:t.nm.fa k=some a) (h:callW T D (n+1) k vs [] Q (fun _=>False)) (rs:RVs G.base s.heap ⟨[],G.tk0⟩ vs vals)
  (HV:∀ v s' a J' Y',Same s s'->G.base.StaysIn s'.heap->RV G.base s'.heap Y' a v->Q a J'->R (.ok (.ret v)) s'):codeAny (model G.prog G.w) A (.call (.ref a) ⟨vals,[]⟩) R s:=by
 obtain ⟨fd,hD,hlen,h⟩:=h;obtain ⟨F,K⟩:=FD k fd hD;cases Ag (ha.symm.trans K.fa);have hst:G.base.StaysIn s.heap:=hb▸fun _ _ e=>e;refine enter O K hst (by omega) (rs.length▸hlen) fun fm h₁ tk htk Fr=>?_;have S1:=Fr.cs (outer:=[]) (Y:=⟨[],G.tk0⟩) (J:=[]) K hst ⟨rfl,fun _ _ _ h=>none_some List.getElem?_nil h,fun _ _ _ _ _ h=>none_some List.getElem?_nil h,fun _ _ h=>none_some List.getElem?_nil h,fun _ h=>absurd h List.not_mem_nil⟩ rs hlen trivial (fun _ h=>absurd h List.not_mem_nil) (fun _ h=>absurd h List.not_mem_nil) hpos htk0 (fun _ _ e=>e) htk;have hA':AOk (G.at fm F.vars []) (A.depth+1) (A.units+3) (A.deeper fm.env):=by
  refine ⟨?_,hhand,Aj _,Aj _⟩;show A.frames.map (fm.env::·)=_;rw [hfr]; rfl
 refine Fr.run K O NO (calls_ok O NO FD n _ _ _ _ _ (by omega) (by omega)) (by omega) (A.deeper fm.env) (fun i=>vs[i]?) [] _ ⟨[],G.tk0⟩ _ _ _ _ hA' PassesOwn.leaving h S1 ?_ ?_
 ·intro fl f' s2 Y2 e2 J2 hs2 P2 S2 r2 q2;have hs:=(show Same s { s with heap:=h₁,toks:=tk } from ⟨rfl,rfl,rfl,htk⟩).trans hs2;cases fl with
  | next=>cases (r2:f'=.next); exact HV _ s2 .none J2 Y2 hs S2.stays rv_none q2
  | brk=>exact q2.elim
  | cont=>exact q2.elim
  | ret a=>obtain ⟨v,rfl,rv⟩:=r2; exact HV _ s2 _ J2 Y2 hs S2.stays rv q2
 ·exact fun ex s2 Y2 e2 J2 hs2 P2 S2 x2 q2=>q2.elim
end
open PySem PySem.Calls PyProof.Rows PySem.SeqAt PySem.W
universe uu
noncomputable def Cur (α:Type uu):Nat->Type uu
 | 0=>α
 | n+1=>Value->Cur α n
noncomputable def cur {α:Type uu}:(n:Nat)->(List Value->α)->Cur α n
 | 0,f=>f []
 | n+1,f=>fun v=>cur n fun vs=>f (v::vs)
theorem cur_i {α:Type uu}:∀ {n:Nat} {f g:List Value->α},cur n f=cur n g->∀ vs,vs.length=n->f vs=g vs
 | 0,f,g,h,vs,e=>by
  cases List.length_eq_zero_iff.mp e;exact h
 | n+1,f,g,h,vs,e=>by
  cases vs with
  | nil=>cases e
  | cons v vs=>exact cur_i (n:=n) (congrFun h v) vs (Nat.succ.inj e)
noncomputable def adO (v:Value):Option Addr:=match v with
 | .ref a=>some a
 | _=>none
theorem adO_i {v:Value}{a:Addr}(h:adO v=some a):v=.ref a:=by
 cases v with
 | ref b=>cases Ag h; rfl
 | _=>exact none_some rfl h
noncomputable def flO (d:Data):Option (Array Value):=match d with
 | .fields vs=>some vs
 | _=>none
theorem flO_i {d:Data}{vs:Array Value}(h:flO d=some vs):d=.fields vs:=by
 cases d with
 | fields b=>cases Ag h; rfl
 | _=>exact none_some rfl h
noncomputable def fdO (d:Data):Option FuncData:=match d with
 | .func f=>some f
 | _=>none
theorem fdO_i {d:Data}{f:FuncData}(h:fdO d=some f):d=.func f:=by
 cases d with
 | func b=>cases Ag h; rfl
 | _=>exact none_some rfl h
noncomputable def stO (v:Value):Option Str:=match v with
 | .str s _=>some s
 | _=>none
theorem stO_i {v:Value}{s:Str}(h:stO v=some s):∃ t,v=.str s t:=by
 cases v with
 | str b t=>cases Ag h; exact ⟨t,rfl⟩
 | _=>exact none_some rfl h
noncomputable def codeB (K:Frag)(cd:Value)(q:Str):Bool:=opB (adO cd) fun a=>opB (K.lookup a) fun o=>opB (flO o.data) fun vs=>opB vs.toList[1]? fun v=>opB (stO v) fun s=>seq s q
theorem codeB_i {K:Frag}{base:Heap}(X:K.In base){cd:Value}{q:Str}(h:codeB K cd q=true):base.CodeRec cd q:=by
 obtain ⟨a,e1,h⟩:=opB_i h;obtain ⟨o,e2,h⟩:=opB_i h;obtain ⟨vs,e3,h⟩:=opB_i h;obtain ⟨v,e4,h⟩:=opB_i h;obtain ⟨s,e5,h⟩:=opB_i h;cases seq_i h;obtain ⟨t,rfl⟩:=stO_i e5;rw [Array.getElem?_toList] at e4;exact ⟨a,o,vs,t,adO_i e1,X _ _ e2,flO_i e3,e4⟩
noncomputable def bodyOf (b:FuncBody):List Stmt:=match b with
 | .stmts l=>l
 | _=>[]
noncomputable def isSt (b:FuncBody):Bool:=match b with
 | .stmts _=>true
 | _=>false
theorem isSt_i {b:FuncBody}(h:isSt b=true):b=.stmts (bodyOf b):=by
 cases b with
 | stmts _=>rfl
 | expr _=>cases h
noncomputable def txsB:List Arg->List Tx->Bool
 | [],[]=>true
 | a::as,x::xs=>txEq x (tl a.arg)&&txsB as xs
 | _,_=>false
theorem txsB_i:∀ {as:List Arg} {xs:List Tx},txsB as xs=true->as.map (·.arg)=xs.map sOf
 | [],[],_=>rfl
 | [],_::_,h=>by cases h
 | _::_,[],h=>by cases h
 | a::as,x::xs,h=>by
  obtain ⟨h1,h2⟩:=and_i h;rw [List.map_cons,List.map_cons,txsB_i h2,txEq_iff.mp h1,sOf_tl]
noncomputable def varB (sc:Scope) (x:Tx):Bool:=(isK (sOf x) sc.names .local||isK (sOf x) sc.names .cell)&&!(seq (sOf x) "__debug__")
noncomputable def fnB (K:Frag)(t:Tb)(k:Nat)(d:FDef)(vs:List Tx):Bool:=opB t.fa[k]? fun a=>opB (K.lookup a) fun o=>opB (fdO o.data) fun fd=>
 isSt fd.body&&(fd.closure.isEmpty&&(Nat.beq fd.globals mainGlobals&&(Nat.beq fd.builtins builtinsNs&&(!fd.scope.isCoroutine&&(!fd.scope.isGenerator&&(decide (fd.scope.kind=.function) &&
  (codeB K fd.code fd.qualname&&(txsB fd.params.args (vs.take d.np)&&(Nat.ble d.np vs.length&&(decide vs.Nodup&&vs.all (varB fd.scope)))))))))))
noncomputable def fdAt (K:Frag)(t:Tb)(k:Nat):FuncData:=(((t.fa[k]?).bind fun a=>K.lookup a).bind fun o=>fdO o.data).getD default
abbrev FnP:=Scope×Arguments×List Stmt
noncomputable def prt (fd:FuncData):FnP×Value×Value:=((fd.scope,fd.params,bodyOf fd.body),fd.defaults,fd.kwdefaults)
noncomputable def skl (q:Str)(p:Arguments)(v w:Value):FuncData:={ (default:FuncData) with qualname:=q,params:=p,defaults:=v,kwdefaults:=w }
structure FnC (K:Frag)(t:Tb)(k:Nat)(d:FDef)(vs:List Tx)(p:FnP):Prop where
 b:fnB K t k d vs=true
 e:prt (fdAt K t k)=(p,Value.none,Value.none)
 a:∀ q,cur d.np (fun vs=>bindArgs (skl q p.2.1 .none .none) ⟨vs,[]⟩)=cur d.np fun vs=>pure ((p.2.1.args.map (·.arg)).zip vs)
 tr:toSs p.1 d.body p.2.2=p.2.2
 g:okSs p.1 t vs d.body p.2.2=true
theorem nodup_sOf {l:List Tx}(h:l.Nodup):(l.map sOf).Nodup:=List.pairwise_map.mpr (h.imp fun hne q=>hne (sOf_inj q))
theorem FnC.ok {K:Frag}{base:Heap}(X:K.In base){t:Tb}{k:Nat}{d:FDef}{vs:List Tx}{p:FnP}(H:FnC K t k d vs p):∃ F,FnOk base t k d F:=by
 obtain ⟨h,he,hb,ht,hg⟩:=H;obtain ⟨a,e1,h⟩:=opB_i h;obtain ⟨o,e2,h⟩:=opB_i h;obtain ⟨fd,e3,h⟩:=opB_i h;have e:fdAt K t k=fd:=by unfold fdAt; rw [e1,Option.bind_some,e2,Option.bind_some,e3]; rfl
 rw [e] at he;have e5:(fd.scope,fd.params,bodyOf fd.body)=p:=congrArg Prod.fst he;have e6:fd.defaults=.none:=congrArg (·.2.1) he;have e7:fd.kwdefaults=.none:=congrArg (·.2.2) he;cases e5;have hb:cur d.np (fun vs=>bindArgs fd ⟨vs,[]⟩)=cur d.np fun vs=>pure ((fd.params.args.map (·.arg)).zip vs):=by
  have q:cur d.np (fun vs=>bindArgs (skl fd.qualname fd.params fd.defaults fd.kwdefaults) ⟨vs,[]⟩)=cur d.np fun vs=>pure ((fd.params.args.map (·.arg)).zip vs):=by rw [e6,e7]; exact hb fd.qualname
  exact q
 obtain ⟨h1,h⟩:=and_i h;obtain ⟨h4,h⟩:=and_i h;obtain ⟨h5,h⟩:=and_i h;obtain ⟨h6,h⟩:=and_i h;obtain ⟨h7,h⟩:=and_i h;obtain ⟨h8,h⟩:=and_i h;obtain ⟨h9,h⟩:=and_i h;obtain ⟨h10,h⟩:=and_i h;obtain ⟨h11,h⟩:=and_i h;obtain ⟨h12,h⟩:=and_i h;obtain ⟨h13,h14⟩:=and_i h;have nd:=nodup_sOf (Ax h13);have hnp:=Ad h12;refine ⟨⟨a,o,fd,bodyOf fd.body,vs⟩,e1,X _ _ e2,fdO_i e3,isSt_i h1,List.isEmpty_iff.mp h4,As h5,As h6,(Bool.not_eq_true' _).mp h7,(Bool.not_eq_true' _).mp h8,Ax h9,codeB_i X h10,Ah (f:=sOf)▸hnp,fun ws hw=>?_,nd,fun x hx=>?_,fun x hx=>?_,ht,hg⟩
 ·rw [cur_i hb ws hw,txsB_i h11,List.map_take]
 ·obtain ⟨y,hy,rfl⟩:=List.mem_map.mp hx;exact (Bool.or_eq_true_iff.mp (and_i (List.all_eq_true.mp h14 y hy)).1).imp isK_i isK_i
 ·obtain ⟨y,hy,rfl⟩:=List.mem_map.mp hx;exact dbg_i (and_i (List.all_eq_true.mp h14 y hy)).2
open PySem PySem.Calls PyProof.Rows PySem.SeqAt PySem.W
structure Sp where
 t:Tb
 globs:List AV
 clss:List Addr
 inits:List (Option Nat)
 clsOf:List (Option Nat)
 defs:List (FDef×List Tx)
noncomputable def Sp.stat (s:Sp):Stat:=⟨fun i=>s.globs[i]?,fun i=>(s.inits[i]?).join,fun k=>(s.clsOf[k]?).join⟩
noncomputable def Sp.D (s:Sp):Nat->Option FDef:=fun k=>(s.defs[k]?).map (·.1)
noncomputable def lkT (l:List (Nat×Tx))(t:Nat):Option Tx:=match l with
 | []=>none
 | (u,x)::r=>cond (Nat.beq u t) (some x) (lkT r t)
noncomputable def skO (v:Value):Option (Str×Nat):=match v with
 | .str s t=>some (s,t)
 | _=>none
theorem skO_i {v:Value}{p:Str×Nat}(h:skO v=some p):v=.str p.1 p.2:=by
 cases v with
 | str _ _=>cases Ag h; rfl
 | _=>exact none_some rfl h
noncomputable def inO (v:Value):Option Int:=match v with
 | .int i _=>some i
 | _=>none
theorem inO_i {v:Value}{i:Int}(h:inO v=some i):∃ t,v=.int i t:=by
 cases v with
 | int _ t=>cases Ag h; exact ⟨t,rfl⟩
 | _=>exact none_some rfl h
noncomputable def tyO (v:Value):Option String:=match v with
 | .type i=>some i
 | _=>none
theorem tyO_i {v:Value}{i:String}(h:tyO v=some i):v=.type i:=by
 cases v with
 | type _=>cases Ag h; rfl
 | _=>exact none_some rfl h
noncomputable def buO (v:Value):Option String:=match v with
 | .builtin i=>some i
 | _=>none
theorem buO_i {v:Value}{i:String}(h:buO v=some i):v=.builtin i:=by
 cases v with
 | builtin _=>cases Ag h; rfl
 | _=>exact none_some rfl h
noncomputable def boO (v:Value):Option Bool:=match v with
 | .bool i=>some i
 | _=>none
theorem boO_i {v:Value}{i:Bool}(h:boO v=some i):v=.bool i:=by
 cases v with
 | bool _=>cases Ag h; rfl
 | _=>exact none_some rfl h
theorem isNone_i {v:Value}(h:isNone v=true):v=.none:=by
 cases v with
 | none=>rfl
 | _=>exact (Bool.false_ne_true h).elim
noncomputable def sqO (d:Data):Option (Array Value×Nat):=match d with
 | .seq a n=>some (a,n)
 | _=>none
theorem sqO_i {d:Data}{p:Array Value×Nat}(h:sqO d=some p):d=.seq p.1 p.2:=by
 cases d with
 | seq _ _=>cases Ag h; rfl
 | _=>exact none_some rfl h
section
variable (K:Frag)(tk:List (Nat×Tx))
noncomputable def seqB (T:String)(v:Value)(P:List Value->Bool):Bool:=opB (adO v) fun a=>opB (K.lookup a) fun o=>opB (tyO o.cls) fun c=>opB (sqO o.data) fun p=>decide (c=T)&&(o.dict.isNone&&(o.slots.isEmpty&&P p.1.toList))
theorem seqB_i {T:String}{v:Value}{P:List Value->Bool}(h:seqB K T v P=true):∃ a items n,v=.ref a∧K.lookup a=some ⟨.type T,none,.seq items n,#[]⟩∧P items.toList=true:=by
 obtain ⟨a,e1,h⟩:=opB_i h;obtain ⟨⟨o1,o2,o3,o4⟩,e2,h⟩:=opB_i h;obtain ⟨c,e3,h⟩:=opB_i h;obtain ⟨p,e4,h⟩:=opB_i h;obtain ⟨h1,h⟩:=and_i h;obtain ⟨h2,h⟩:=and_i h;obtain ⟨h3,h4⟩:=and_i h;have e:(⟨o1,o2,o3,o4⟩:Obj)=⟨.type T,none,.seq p.1 p.2,#[]⟩:=by
  rw [show o1=.type T from (tyO_i e3).trans (congrArg Value.type (Ax h1)),show o2=none from Option.isNone_iff_eq_none.mp h2,show o3=_ from sqO_i e4,show o4=#[] from Array.isEmpty_iff.mp h3]
 exact ⟨a,p.1,p.2,adO_i e1,e2.trans (congrArg some e),h4⟩
mutual
noncomputable def rvC:AV->Value->Bool
 | .none,v=>isNone v
 | .bool b,v=>opB (boO v) fun c=>decide (b=c)
 | .int i,v=>opB (inO v) fun j=>decide (i=j)
 | .str x,v=>opB (skO v) fun p=>txEq x (tl p.1)&&(Nat.ble x.length 2000&&(!(Nat.beq p.2 0)&&opB (lkT tk p.2) (txEq x)))
 | .tup vs,v=>seqB K "tuple" v fun l=>Nat.ble vs.length 2000&&rvsC vs l
 | .frz vs,v=>seqB K "list" v fun l=>Nat.ble vs.length 2000&&rvsC vs l
 | .obj _,_=>false
 | .rng _ _ _,_=>false
 | .stat _,_=>false
noncomputable def rvsC:List AV->List Value->Bool
 | [],[]=>true
 | x::xs,v::vs=>rvC x v&&rvsC xs vs
 | _,_=>false
end
end
theorem le_lid {n:Nat}(q:Nat.ble n 2000=true):n<=lid:=Aa (Ad q) (Ar 2000 998000)
theorem rvC_ok {K:Frag}{tk:List (Nat×Tx)}{base h:Heap}{Y:Rho}(X:K.In base)(hs:base.StaysIn h)(ht:∀ t x,lkT tk t=some x->Y.tk t=some x)(a:AV):∀ v,rvC K tk a v=true->RV base h Y a v:=by
 induction a using AV.rec (motive_2:=fun as=>∀ vs,rvsC K tk as vs=true->RVs base h Y as vs) with
 | none=>exact fun v hv=>isNone_i hv
 | bool b=>
  intro v hv;obtain ⟨c,e,hv⟩:=opB_i hv;cases Ax hv;exact boO_i e
 | int i=>
  intro v hv;obtain ⟨c,e,hv⟩:=opB_i hv;cases Ax hv;exact inO_i e
 | str s=>
  intro v hv;obtain ⟨p,e,hv⟩:=opB_i hv;obtain ⟨h1,hv⟩:=and_i hv;obtain ⟨h2,hv⟩:=and_i hv;obtain ⟨h3,hv⟩:=and_i hv;obtain ⟨y,h4,h5⟩:=opB_i hv;cases txEq_iff.mp h5;refine ⟨p.2,?_,le_lid h2,fun q=>?_,ht _ _ h4⟩
  ·rw [txEq_iff.mp h1,sOf_tl]; exact skO_i e
  ·rw [q] at h3; cases h3
 | tup vs ih=>
  intro v hv;obtain ⟨a,items,n,rfl,e,hv⟩:=seqB_i K (T:="tuple") (P:=fun l=>Nat.ble vs.length 2000&&rvsC K tk vs l) hv
  obtain ⟨h1,h2⟩:=and_i hv;exact ⟨a,items,rfl,⟨n,hs _ _ (X _ _ e)⟩,ih _ h2,le_lid h1⟩
 | frz vs ih=>
  intro v hv;obtain ⟨a,items,n,rfl,e,hv⟩:=seqB_i K (T:="list") (P:=fun l=>Nat.ble vs.length 2000&&rvsC K tk vs l) hv
  obtain ⟨h1,h2⟩:=and_i hv;exact ⟨a,items,rfl,⟨n,X _ _ e⟩,ih _ h2,le_lid h1⟩
 | obj r=>exact fun v hv=>(Bool.false_ne_true hv).elim
 | rng a b c=>exact fun v hv=>(Bool.false_ne_true hv).elim
 | stat c=>exact fun v hv=>(Bool.false_ne_true hv).elim
 | nil=>
  rename_i vs hv
  cases vs with
  | nil=>exact (rfl:_=[])
  | cons _ _=>cases hv
 | cons x xs ihx ihs=>
  rename_i vs hv
  cases vs with
  | nil=>cases hv
  | cons v vs=>
   obtain ⟨h1,h2⟩:=and_i hv;exact ⟨v,vs,rfl,ihx _ h1,ihs _ h2⟩
noncomputable def allB (f:Nat->Bool):Nat->Bool
 | 0=>true
 | n+1=>f n&&allB f n
theorem allB_i {f:Nat->Bool}:∀ {n k:Nat},allB f n=true->k<n->f k=true
 | n+1,k,h,hk=>by
  obtain ⟨h1,h2⟩:=and_i h;rcases Nat.lt_or_eq_of_le (Nat.le_of_lt_succ hk) with q | rfl
  ·exact allB_i h2 q
  ·exact h1
theorem lt_of_get {α:Type}{l:List α}{i:Nat}{x:α}(h:l[i]?=some x):i<l.length:=(Ai h).1
noncomputable def isNo (o:Option (Option Value)):Bool:=opB o fun v=>v.isNone
theorem isNo_i {o:Option (Option Value)}(h:isNo o=true):o=some none:=by
 obtain ⟨v,e,h⟩:=opB_i h;rw [e,Option.isNone_iff_eq_none.mp h]
noncomputable def isRef (o:Option (Option Value))(a:Addr):Bool:=opB o fun o=>opB o fun v=>opB (adO v) fun b=>Nat.beq b a
theorem isRef_i {o:Option (Option Value)}{a:Addr}(h:isRef o a=true):o=some (some (.ref a)):=by
 obtain ⟨o',e1,h⟩:=opB_i h;obtain ⟨v,e2,h⟩:=opB_i h;obtain ⟨b,e,h⟩:=opB_i h;cases As h;rw [e1,e2,adO_i e]
noncomputable def isTy (o:Option Value)(T:String):Bool:=opB o fun v=>opB (tyO v) fun s=>decide (s=T)
theorem isTy_i {o:Option Value}{T:String}(h:isTy o T=true):o=some (.type T):=by
 obtain ⟨v,e1,h⟩:=opB_i h;obtain ⟨b,e,h⟩:=opB_i h;cases Ax h;rw [e1,tyO_i e]
noncomputable def isBu (o:Option (Option Value))(T:String):Bool:=opB o fun o=>opB o fun v=>opB (buO v) fun s=>decide (s=T)
theorem isBu_i {o:Option (Option Value)}{T:String}(h:isBu o T=true):o=some (some (.builtin T)):=by
 obtain ⟨o',e1,h⟩:=opB_i h;obtain ⟨v,e2,h⟩:=opB_i h;obtain ⟨b,e,h⟩:=opB_i h;cases Ax h;rw [e1,e2,buO_i e]
noncomputable def elO {α:Type}(o:Option α)(N:Bool)(P:α->Bool):Bool:=match o with
 | none=>N
 | some x=>P x
section
variable (K:Frag)(s:Sp)(tk:List (Nat×Tx))
noncomputable def stB (a:AV)(N:Bool)(P:Value->Bool):Bool:=match a with
 | .stat v=>P v
 | _=>N
noncomputable def gB (i:Nat):Bool:=opB s.t.gn[i]? fun x=>elO s.globs[i]? true fun a=>stB a (opB (nsIn K mainGlobals (sOf x)) fun o=>opB o (rvC K tk a)) fun v=>opB (tyO v) fun T=>decide (T="int")&&(seq (sOf x) "int"&&isNo (nsIn K mainGlobals (sOf x)))
noncomputable def fB (k:Nat):Bool:=opB s.t.fn[k]? fun x=>opB s.t.fa[k]? fun a=>elO (s.stat.clsOf k)
 (isRef (nsIn K mainGlobals (sOf x)) a&&opB (K.lookup a) fun o=>opB (fdO o.data) fun _=>true)
 fun i=>opB s.clss[i]? fun C=>isRef (findIn K (.ref C) (sOf x)) a&&(isTy (typeIn K (.ref a)) "function"&&(keepIn K (.ref a)&&(!(seq (atName .ts) (sOf x))&&(!(seq (atName .pos) (sOf x))&&!(seq (atName .code) (sOf x))))))
noncomputable def noAt (C:Addr)(x:At):Bool:=isNo (findIn K (.ref C) (atName x))
noncomputable def clsB (C:Addr):Bool:=hasDictIn K C&&(plainGet K C ""&&(isBu (findIn K (.ref C) "__setattr__") "object.__setattr__"&&(plainOver K C&&(noAt K C .ts&&(noAt K C .pos&&noAt K C .code)))))
noncomputable def cB (i:Nat):Bool:=opB s.t.cn[i]? fun x=>opB s.clss[i]? fun C=>isRef (nsIn K mainGlobals (sOf x)) C&&(makesIn K C&&(keepIn K (.ref C)&&elO (s.stat.init i) true fun k=>opB s.t.fa[k]? fun a=>isRef (findIn K (.ref C) "__init__") a&&isTy (typeIn K (.ref a)) "function"))
noncomputable def pB (k:Nat):Bool:=!(s.t.nm.pl k)||(s.stat.clsOf k).isNone
noncomputable def bB:Bool:=([Bi.len,.str,.int,.abs,.range,.min,.max,.sum,.tuple,.type].all fun b=>isNo (nsIn K mainGlobals (biName b)))&&(isNo (nsIn K mainGlobals "ValueError")&&(isNo (nsIn K mainGlobals "enumerate")&&(K.lookup sysModules).isSome))
noncomputable def spB:Bool:=allB (gB K s tk) s.t.gn.length&&(allB (fB K s) s.t.fn.length&&(allB (cB K s) s.t.cn.length&&(allB (pB s) s.t.pl.length&&(bB K&&s.clss.all (clsB K)))))
end
noncomputable def theCx (prog:Program)(w:World)(base:Heap)(K:Frag)(s:Sp)(tk:List (Nat×Tx)):Cx:=
 { prog:=prog,w:=w,base:=base,cls:=fun i=>s.clss[i]?,K:=K,tk0:=lkT tk,f:=⟨default,default,0,0,.none,[]⟩,vars:=[],outer:=[] }
section
variable {K:Frag}{s:Sp}{tk:List (Nat×Tx)}{base:Heap}{mg mb:Str->Option Value}
theorem clsB_i {C:Addr}(h:clsB K C=true):ClsOk K C:=by
 obtain ⟨h1,h⟩:=and_i h;obtain ⟨h2,h⟩:=and_i h;obtain ⟨h3,h⟩:=and_i h;obtain ⟨h4,h⟩:=and_i h;obtain ⟨h5,h⟩:=and_i h;obtain ⟨h6,h7⟩:=and_i h;refine ⟨h1,h2,isBu_i h3,h4,fun x=>?_⟩;cases x with
 | ts=>exact isNo_i h5
 | pos=>exact isNo_i h6
 | code=>exact isNo_i h7
theorem stB_i {a:AV}{N:Bool}{P:Value->Bool}(h:stB a N P=true):N=true∨∃ v,a=.stat v∧P v=true:=by
 cases a with
 | stat v=>exact .inr ⟨v,rfl,h⟩
 | _=>exact .inl h
theorem gB_i (X:K.In base) (hg:base.Ns mainGlobals mg) (hbt:∀ x:Str,x≠"__name__"->mb x=bootBuiltins x) {i:Nat} {x:Str} {a:AV} (h:allB (gB K s tk) s.t.gn.length=true) (hx:s.t.nm.gn i=some x) (ha:s.globs[i]?=some a) :
  ∃ v,(mg x=some v∨(mg x=none∧mb x=some v))∧∀ h Y,(∀ t y,lkT tk t=some y->Y.tk t=some y)->base.StaysIn h->RV base h Y a v:=by
 obtain ⟨y,hy,rfl⟩:=Option.map_eq_some_iff.mp hx;obtain ⟨y',e1,h⟩:=opB_i (allB_i h (lt_of_get hy));cases Ag (hy.symm.trans e1);rw [ha] at h;rcases stB_i h with h | ⟨v,rfl,h⟩
 ·obtain ⟨o,e2,h⟩:=opB_i h;obtain ⟨v,e3,h⟩:=opB_i h;exact ⟨v,.inl (mg_of X hg (e3▸e2)),fun h' Y hY hs=>rvC_ok X hs hY _ _ h⟩
 ·obtain ⟨T,e2,h⟩:=opB_i h;obtain ⟨h1,h⟩:=and_i h;obtain ⟨h2,h3⟩:=and_i h;cases Ax h1;cases tyO_i e2;rw [seq_i h2] at h3 ⊢;refine ⟨.type "int",.inr ⟨mg_none_of X hg (isNo_i h3),?_⟩,fun h Y _ _=>rfl⟩
  rw [hbt _ (by decide +kernel)];decide +kernel
theorem sp_ok {prog:Program} {w:World} (X:K.In base) (hg:base.Ns mainGlobals mg) (hb:base.Ns builtinsNs mb) (lim:base.NoLimit) (hbt:∀ x:Str,x≠"__name__"->mb x=bootBuiltins x) (h:spB K s tk=true) (FD:∀ (k:Nat) d vs,s.defs[k]?=some (d,vs)->∃ p,FnC K s.t k d vs p) :
  CxOk (theCx prog w base K s tk)∧NmOk (theCx prog w base K s tk) s.stat s.t.nm mg mb∧∀ k d,s.D k=some d->∃ F,FnOk base s.t k d F:=by
 obtain ⟨h1,h⟩:=and_i h;obtain ⟨h2,h⟩:=and_i h;obtain ⟨h3,h⟩:=and_i h;obtain ⟨h4,h⟩:=and_i h;obtain ⟨h5,h6⟩:=and_i h;obtain ⟨b1,h5⟩:=and_i h5;obtain ⟨b2,h5⟩:=and_i h5;obtain ⟨b3,b4⟩:=and_i h5;have fn:∀ {k:Nat} {x:Str},s.t.nm.fn k=some x->∃ a,s.t.fa[k]?=some a∧elO (s.stat.clsOf k) (isRef (nsIn K mainGlobals x) a&&opB (K.lookup a) fun o=>opB (fdO o.data) fun _=>true)
   (fun i=>opB s.clss[i]? fun C=>isRef (findIn K (.ref C) x) a&&(isTy (typeIn K (.ref a)) "function"&&(keepIn K (.ref a)&&(!(seq (atName .ts) x)&&(!(seq (atName .pos) x)&&!(seq (atName .code) x))))))=true:=fun hx=>by
  obtain ⟨y,hy,rfl⟩:=Option.map_eq_some_iff.mp hx;obtain ⟨y',e1,h⟩:=opB_i (allB_i h2 (lt_of_get hy));cases Ag (hy.symm.trans e1);exact opB_i h
 refine ⟨⟨X,fun i C hC=>clsB_i (List.all_eq_true.mp h6 C (List.mem_of_getElem? hC)),?_,lim⟩,⟨hg,hb,fun i x a hx ha=>gB_i X hg hbt h1 hx ha,fun k x hx hc=>?_,fun k x i C hx hc hC=>?_,fun i x hx=>?_,fun b=>⟨mg_none_of X hg (isNo_i (List.all_eq_true.mp b1 b (List.mem_of_getElem? (i:=b.ctorIdx) (by cases b<;>rfl)))),?_⟩,fun k hk=>?_,⟨mg_none_of X hg (isNo_i b2),?_⟩,⟨mg_none_of X hg (isNo_i b3),?_⟩⟩,fun k d hd=>?_⟩
 ·obtain ⟨o,ho⟩:=Option.isSome_iff_exists.mp b4;show (base.get? sysModules).isSome=true;rw [X _ _ ho]; rfl
 ·obtain ⟨a,e1,h⟩:=fn hx;rw [hc] at h;obtain ⟨g1,g2⟩:=and_i h;obtain ⟨o,e2,g2⟩:=opB_i g2;obtain ⟨fd,e3,_⟩:=opB_i g2;exact ⟨a,o,fd,e1,mg_of X hg (isRef_i g1),X _ _ e2,fdO_i e3⟩
 ·obtain ⟨a,e1,h⟩:=fn hx;rw [hc] at h;obtain ⟨C',e2,h⟩:=opB_i h;cases Ag (e2.symm.trans hC);obtain ⟨g1,h⟩:=and_i h;obtain ⟨g2,h⟩:=and_i h;obtain ⟨g3,h⟩:=and_i h;obtain ⟨g4,h⟩:=and_i h;obtain ⟨g5,g6⟩:=and_i h;refine ⟨a,e1,isRef_i g1,isTy_i g2,g3,fun y=>?_⟩;cases y with
  | ts=>exact seq_n g4
  | pos=>exact seq_n g5
  | code=>exact seq_n g6
 ·obtain ⟨y,hy,rfl⟩:=Option.map_eq_some_iff.mp hx;obtain ⟨y',e1,h⟩:=opB_i (allB_i h3 (lt_of_get hy));cases Ag (hy.symm.trans e1);obtain ⟨C,e2,h⟩:=opB_i h;obtain ⟨g1,h⟩:=and_i h;obtain ⟨g2,h⟩:=and_i h;obtain ⟨g3,h⟩:=and_i h;refine ⟨C,e2,mg_of X hg (isRef_i g1),g2,g3,fun k hk=>?_⟩;rw [hk] at h;obtain ⟨a,e3,h⟩:=opB_i h;obtain ⟨g4,g5⟩:=and_i h;exact ⟨a,e3,isRef_i g4,isTy_i g5⟩
 ·cases b<;>(rw [hbt _ (by decide +kernel)]; decide +kernel)
 ·have hlt:k<s.t.pl.length:=by
   cases q:s.t.pl[k]? with
   | some b=>exact lt_of_get q
   | none=>
    have hk:(s.t.pl[k]?).getD false=true:=hk;rw [q] at hk; cases hk
  rcases Bool.or_eq_true_iff.mp (allB_i h4 hlt) with q | q
  ·rw [hk] at q; cases q
  ·exact Option.isNone_iff_eq_none.mp q
 ·rw [hbt _ (by decide +kernel)]; decide +kernel
 ·rw [hbt _ (by decide +kernel)]; decide +kernel
 ·obtain ⟨⟨d',vs⟩,hq,rfl⟩:=Option.map_eq_some_iff.mp hd;obtain ⟨p,h⟩:=FD k d' vs hq;exact h.ok X
end
open PySem PySem.Calls PyProof.Rows PySem.SeqAt PySem.W PySem.W.X
theorem ints_rv {base h:Heap}{Y:Rho}{vs:List Value}{ns:List Int}(q:IntsAre vs ns):RVs base h Y (ns.map .int) vs:=by
 induction q with
 | nil=>exact (rfl:_=[])
 | cons n t i ih=>exact ⟨_,_,rfl,rv_int,ih⟩
noncomputable def tkB (l:List (Nat×Tx))(m:Nat):Bool:=match l with
 | []=>true
 | (t,_)::r=>Nat.blt t m&&tkB r m
theorem tkB_i {l:List (Nat×Tx)}{m t:Nat}(h:tkB l m=true)(ht:m<=t):lkT l t=none:=by
 induction l with
 | nil=>rfl
 | cons p r ih=>
  have h:=and_i h;show cond (Nat.beq p.1 t) _ _=_;cases e:Nat.beq p.1 t with
  | false=>exact ih h.2
  | true=>exact absurd (As e) (Nat.ne_of_lt (An (Ad h.1) ht))
theorem law_top {K:Frag}{s:Sp}{tk:List (Nat×Tx)}{mg mb:Str->Option Value}{prog:Program}{w:World}{s0 s₁:Shared}{n k m:Nat}{a l:Addr}{vals:List Value}{nts:List Int}{RR:WRecords}{as:List Addr}{c:ClaimW}{cl:Str->Option Addr}{mean:ExcName->Option Value}{args:List WData}
  (X:K.In s₁.heap) (hg:s₁.heap.Ns mainGlobals mg) (hb:s₁.heap.Ns builtinsNs mb) (lim:s₁.heap.NoLimit) (hbt:∀ x:Str,x≠"__name__"->mb x=bootBuiltins x)
  (h1:spB K s tk=true) (h5:∀ (k:Nat) d vs,s.defs[k]?=some (d,vs)->∃ p,FnC K s.t k d vs p) (h7:tkB tk m=true)
  (hm:0<m) (L:Laid RR w s0 s₁ [ofPy (PyData.list (nts.map PyData.int))] [.ref l] as) (hL:s₁.heap.IsList l vals.toArray) (hI:IntsAre vals nts) (hlen:nts.length<=63) (ZT:s0.toks=m) (hgens:s₁.gens=#[])
  (hn:n<=200) (ha:s.t.fa[k]?=some a) (hraise:∀ cls,c.raises args cls=false) (hpost:c.post args (.bool true) args=true)
  (h:callW s.stat s.D (n+1) k [.frz (nts.map .int)] [] (fun a _=>a=.bool true) (fun _=>False)) :
  wpAny (model prog w) callerA (call (.ref a) [.ref l]) (fun v s'=>GoodWG c cl mean args s₁ (.ok (.ret v)) s') (fun e s'=>GoodWG c cl mean args s₁ (.error e) s') s₁:=by
 have ht:m<=s₁.toks:=script_toks L ZT;have ho:=script_obj L hL;obtain ⟨O,NO,FD⟩:=sp_ok (prog:=prog) (w:=w) X hg hb lim hbt h1 h5;refine enter_call ?_;refine top_ok (G:=theCx prog w s₁.heap K s tk) O NO FD (n:=n) (k:=k) rfl rfl rfl (by show (1+claimMargin)+3*n+10<=recursionLimit; simp only [claimMargin,recursionLimit]; lia) (by show 4+13*n+200<cLine; simp only [cLine]; lia) (An hm ht)
  (fun t hq=>tkB_i h7 (Aa ht hq)) ha h (.one ⟨l,vals.toArray,rfl,⟨0,ho⟩,ints_rv hI,?_⟩) ?_
 ·rw [Ah]; exact Aa hlen (Ar 63 999937)
 intro v s' b J' Y' hs st rv q;cases q;cases (rv:v=.bool true);refine GoodW.toG ⟨.inl ⟨_,.bool true,[],rfl,hraise,.bool true,hpost,fun _=>⟨List.nodup_nil,fun a ha=>by simp at ha⟩⟩,st,hs.2.2.1,?_⟩;rw [hs.1,hgens]
open PySem
noncomputable def gl3:List AV:=[.frz [.str [112,114,111,103,114,97,109],.str [118,97,114],.str [105,110,116,101,103,101,114],.str [97,114,114,97,121],.str [111,102],.str [112,114,111,99,101,100,117,114,101],.str [98,101,103,105,110],.str [101,110,100],.str [105,102],.str [116,104,101,110],.str [101,108,115,101],.str [119,104,105,108,101],.str [100,111],.str [114,101,112,101,97,116],.str [117,110,116,105,108],.str [102,111,114],.str [116,111],.str [100,111,119,110,116,111],.str [119,114,105,116,101],.str [100,105,118],.str [109,111,100],.str [111,100,100]],.tup [.str [61],.str [60,62],.str [60],.str [60,61],.str [62],.str [62,61]],.stat (.type "int"),.str [80,114,111,103,114,97,109,32,112,49,59,123,32,63,32,101,110,100,32,125,118,97,114,32,88,44,32,121,32,58,32,105,110,116,101,103,101,114,59,10,98,32,58,32,97,114,114,97,121,32,91,49,93,32,111,102,32,105,110,116,101,103,101,114,59,32,97,32,58,32,97,114,114,97,121,32,91,51,93,32,111,102,32,105,110,116,101,103,101,114,59,32,123,125,112,114,111,99,101,100,117,114,101,32,102,40,110,44,32,118,97,114,32,114,41,59,32,118,97,114,32,122,32,58,32,105,110,116,101,103,101,114,59,32,112,114,111,99,101,100,117,114,101,32,103,59,32,98,101,103,105,110,32,122,32,58,61,32,122,32,43,32,110,59,32,114,32,58,61,32,114,32,42,32,50,32,43,32,122,32,45,32,89,59,32,105,102,32,110,32,62,32,48,32,116,104,101,110,32,102,40,110,32,45,32,49,44,32,114,41,32,101,110,100,59,32,98,101,103,105,110,32,103,59,32,114,32,58,61,32,114,32,43,32,122,32,101,110,100,59,32,112,114,111,99,101,100,117,114,101,32,115,40,118,97,114,32,117,44,32,120,41,59,32,98,101,103,105,110,32,102,111,114,32,117,32,58,61,32,117,32,45,32,120,32,116,111,32,117,32,45,32,120,32,100,111,32,120,32,58,61,32,57,32,101,110,100,59,32,98,101,103,105,110,32,120,32,58,61,32],.str [59,32,119,114,105,116,101,40,120,41,59,32,119,114,105,116,101,40,89,41,59,32,102,111,114,32,121,32,58,61,32,48,32,116,111,32,50,32,100,111,32,119,114,105,116,101,40,97,91,121,93,41,59,32,119,114,105,116,101,40,121,41,32,101,110,100,46],.tup [.none,.int 2,.int 3,.int 4,.none],.tup [.str [84,32,58,61,32,69],.str [98,101,103,105,110,32,59,32,119,114,105,116,101,40,69,41,32,101,110,100],.str [105,102,32,67,32,116,104,101,110,32,105,102,32,111,100,100,40,89,41,32,116,104,101,110,32,119,114,105,116,101,40,49,41,32,101,108,115,101,32,119,114,105,116,101,40,50,41],.str [105,102,32,67,32,116,104,101,110,32,120,32,58,61,32,69,32,101,108,115,101,32,121,32,58,61,32,35],.str [121,32,58,61,32,35,59,32,119,104,105,108,101,32,121,32,62,61,32,120,32,109,111,100,32,51,32,100,111,32,121,32,58,61,32,121,32,45,32,49],.str [121,32,58,61,32,35,59,32,114,101,112,101,97,116,32,121,32,58,61,32,121,32,45,32,49,59,32,120,32,58,61,32,120,32,43,32,121,32,117,110,116,105,108,32,121,32,60,61,32,49],.str [102,111,114,32,121,32,58,61,32,35,32,45,32,49,32,116,111,32,120,32,109,111,100,32,51,32,100,111,32,98,101,103,105,110,32,120,32,58,61,32,120,32,43,32,121,59,32,121,32,58,61,32,121,32,42,32,50,32,101,110,100],.str [102,111,114,32,120,32,58,61,32,49,32,116,111,32,50,32,100,111,32,102,111,114,32,121,32,58,61,32,35,32,100,111,119,110,116,111,32,120,32,100,111,32,119,114,105,116,101,40,120,32,42,32,57,32,43,32,121,41],.str [102,40,35,32,45,32,50,44,32,84,41],.str [115,40,84,44,32,69,41]],.tup [.str [119,32,58,61,32,49],.str [97,32,58,61,32,49],.str [121,91,48,93,32,58,61,32,49],.str [102,40,49,41],.str [102,40,49,44,32,45,120,41],.str [120,32,58,61,32,102],.str [119,114,105,116,101,40,97,41],.str [120],.str [120,32,58,61,32,55,100,105,118,32,50],.str [105,102,32,120,32,58,61,32,49,32,116,104,101,110,32,121,32,58,61,32,50],.str [103],.str [123,32,120,32,58,61,32,49]],.tup [.tup [.str [112,49,59],.str [55,59]],.tup [.str [112,49,59],.str [112,49,44]],.tup [.str [121,32,58,32,105,110,116,101,103,101,114],.str [121,44,32,120,32,58,32,105,110,116,101,103,101,114]],.tup [.str [91,49,93],.str [91,48,93]],.tup [.str [118,97,114,32,122],.str [118,97,114,32,122,44,32,114]],.tup [.str [40,118,97,114,32,117,44,32,120,41],.str [40,118,97,114,32,117,44,32,117,41]],.tup [.str [98,101,103,105,110,32,103,59],.str [98,101,103,105,110,32,115,40,120,44,32,49,41,59,32,103,59]],.tup [.str [101,110,100,46],.str [101,110,100,46,32,120]],.tup [.str [101,110,100,46],.str [101,110,100,46,32,55]],.tup [.str [101,110,100,46],.str [101,110,100]],.tup [.str [10],.str [9]],.tup [.str [57],.str [1635]]]]
noncomputable def tk3:List (Nat×Tx):=[(191,[112,114,111,103,114,97,109]),(192,[118,97,114]),(193,[105,110,116,101,103,101,114]),(194,[97,114,114,97,121]),(195,[111,102]),(196,[112,114,111,99,101,100,117,114,101]),(197,[98,101,103,105,110]),(198,[101,110,100]),(199,[105,102]),(200,[116,104,101,110]),(201,[101,108,115,101]),(202,[119,104,105,108,101]),(203,[100,111]),(204,[114,101,112,101,97,116]),(205,[117,110,116,105,108]),(206,[102,111,114]),(207,[116,111]),(208,[100,111,119,110,116,111]),(209,[119,114,105,116,101]),(210,[100,105,118]),(211,[109,111,100]),(212,[111,100,100]),(214,[61]),(215,[60,62]),(216,[60]),(217,[60,61]),(218,[62]),(219,[62,61]),(539,[80,114,111,103,114,97,109,32,112,49,59,123,32,63,32,101,110,100,32,125,118,97,114,32,88,44,32,121,32,58,32,105,110,116,101,103,101,114,59,10,98,32,58,32,97,114,114,97,121,32,91,49,93,32,111,102,32,105,110,116,101,103,101,114,59,32,97,32,58,32,97,114,114,97,121,32,91,51,93,32,111,102,32,105,110,116,101,103,101,114,59,32,123,125,112,114,111,99,101,100,117,114,101,32,102,40,110,44,32,118,97,114,32,114,41,59,32,118,97,114,32,122,32,58,32,105,110,116,101,103,101,114,59,32,112,114,111,99,101,100,117,114,101,32,103,59,32,98,101,103,105,110,32,122,32,58,61,32,122,32,43,32,110,59,32,114,32,58,61,32,114,32,42,32,50,32,43,32,122,32,45,32,89,59,32,105,102,32,110,32,62,32,48,32,116,104,101,110,32,102,40,110,32,45,32,49,44,32,114,41,32,101,110,100,59,32,98,101,103,105,110,32,103,59,32,114,32,58,61,32,114,32,43,32,122,32,101,110,100,59,32,112,114,111,99,101,100,117,114,101,32,115,40,118,97,114,32,117,44,32,120,41,59,32,98,101,103,105,110,32,102,111,114,32,117,32,58,61,32,117,32,45,32,120,32,116,111,32,117,32,45,32,120,32,100,111,32,120,32,58,61,32,57,32,101,110,100,59,32,98,101,103,105,110,32,120,32,58,61,32]),(541,[59,32,119,114,105,116,101,40,120,41,59,32,119,114,105,116,101,40,89,41,59,32,102,111,114,32,121,32,58,61,32,48,32,116,111,32,50,32,100,111,32,119,114,105,116,101,40,97,91,121,93,41,59,32,119,114,105,116,101,40,121,41,32,101,110,100,46]),(547,[84,32,58,61,32,69]),(548,[98,101,103,105,110,32,59,32,119,114,105,116,101,40,69,41,32,101,110,100]),(549,[105,102,32,67,32,116,104,101,110,32,105,102,32,111,100,100,40,89,41,32,116,104,101,110,32,119,114,105,116,101,40,49,41,32,101,108,115,101,32,119,114,105,116,101,40,50,41]),(550,[105,102,32,67,32,116,104,101,110,32,120,32,58,61,32,69,32,101,108,115,101,32,121,32,58,61,32,35]),(551,[121,32,58,61,32,35,59,32,119,104,105,108,101,32,121,32,62,61,32,120,32,109,111,100,32,51,32,100,111,32,121,32,58,61,32,121,32,45,32,49]),(552,[121,32,58,61,32,35,59,32,114,101,112,101,97,116,32,121,32,58,61,32,121,32,45,32,49,59,32,120,32,58,61,32,120,32,43,32,121,32,117,110,116,105,108,32,121,32,60,61,32,49]),(553,[102,111,114,32,121,32,58,61,32,35,32,45,32,49,32,116,111,32,120,32,109,111,100,32,51,32,100,111,32,98,101,103,105,110,32,120,32,58,61,32,120,32,43,32,121,59,32,121,32,58,61,32,121,32,42,32,50,32,101,110,100]),(554,[102,111,114,32,120,32,58,61,32,49,32,116,111,32,50,32,100,111,32,102,111,114,32,121,32,58,61,32,35,32,100,111,119,110,116,111,32,120,32,100,111,32,119,114,105,116,101,40,120,32,42,32,57,32,43,32,121,41]),(555,[102,40,35,32,45,32,50,44,32,84,41]),(556,[115,40,84,44,32,69,41]),(558,[119,32,58,61,32,49]),(559,[97,32,58,61,32,49]),(560,[121,91,48,93,32,58,61,32,49]),(561,[102,40,49,41]),(562,[102,40,49,44,32,45,120,41]),(563,[120,32,58,61,32,102]),(564,[119,114,105,116,101,40,97,41]),(565,[120]),(566,[120,32,58,61,32,55,100,105,118,32,50]),(567,[105,102,32,120,32,58,61,32,49,32,116,104,101,110,32,121,32,58,61,32,50]),(568,[103]),(569,[123,32,120,32,58,61,32,49]),(571,[112,49,59]),(572,[55,59]),(573,[112,49,59]),(574,[112,49,44]),(575,[121,32,58,32,105,110,116,101,103,101,114]),(576,[121,44,32,120,32,58,32,105,110,116,101,103,101,114]),(577,[91,49,93]),(578,[91,48,93]),(579,[118,97,114,32,122]),(580,[118,97,114,32,122,44,32,114]),(581,[40,118,97,114,32,117,44,32,120,41]),(582,[40,118,97,114,32,117,44,32,117,41]),(583,[98,101,103,105,110,32,103,59]),(584,[98,101,103,105,110,32,115,40,120,44,32,49,41,59,32,103,59]),(585,[101,110,100,46]),(586,[101,110,100,46,32,120]),(587,[101,110,100,46]),(588,[101,110,100,46,32,55]),(589,[101,110,100,46]),(590,[101,110,100]),(591,[10]),(592,[9]),(593,[57]),(594,[1635])]
noncomputable def vr0:List Tx:=[[116,101,120,116],[111,117,116],[105],[99],[106],[119],[115,105,103,110]]
noncomputable def vr1:List Tx:=[[115,101,108,102],[116,101,120,116]]
noncomputable def vr2:List Tx:=[[115,101,108,102],[119]]
noncomputable def vr3:List Tx:=[[115,101,108,102],[119]]
noncomputable def vr4:List Tx:=[[115,101,108,102],[119]]
noncomputable def vr5:List Tx:=[[115,101,108,102],[107,105,110,100],[107],[118]]
noncomputable def vr6:List Tx:=[[115,101,108,102],[101],[115]]
noncomputable def vr7:List Tx:=[[115,101,108,102],[101],[115]]
noncomputable def vr8:List Tx:=[[115,101,108,102],[101],[110]]
noncomputable def vr9:List Tx:=[[115,101,108,102],[101],[97],[115]]
noncomputable def vr10:List Tx:=[[115,101,108,102],[111,117,116]]
noncomputable def vr11:List Tx:=[[115,101,108,102],[99],[97],[115],[110],[117,112],[98],[101],[105],[97,114,103,115]]
noncomputable def vr12:List Tx:=[[115,101,108,102],[118,115],[112,115],[110,97,109,101,115],[115,105,122,101],[110],[112,97,114,97,109,115],[118],[98],[115]]
noncomputable def vr13:List Tx:=[[116,101,120,116],[112],[110],[98]]
noncomputable def vr14:List Tx:=[[111,107],[119]]
noncomputable def vr15:List Tx:=[[115,101,108,102]]
noncomputable def vr16:List Tx:=[[115,101,108,102],[105]]
noncomputable def vr17:List Tx:=[[115,101,108,102],[98],[115,99,111,112,101,115],[112,97,114,97,109,115],[118,115],[112,115],[115,115],[110,97,109,101,115],[106],[115,99,111,112,101],[97],[110],[118],[102,105,114,115,116],[122],[115,107,105,112],[112],[113],[115,116,97,114,116],[102,114,101,101],[115]]
noncomputable def vr18:List Tx:=[[115,101,108,102],[110],[115,99,111,112,101,115],[107,105,110,100,115],[108],[115]]
noncomputable def vr19:List Tx:=[[115,101,108,102],[101],[115,99,111,112,101,115],[108],[119]]
noncomputable def vr20:List Tx:=[[115,101,108,102],[101],[115,99,111,112,101,115],[107],[108],[119],[115]]
noncomputable def vr21:List Tx:=[[115,101,108,102],[115],[115,99,111,112,101,115],[102,114,101,101],[107],[108],[119],[106],[101],[116,111,112],[120],[99],[107,49]]
noncomputable def vr22:List Tx:=[[116,114,101,101],[99]]
noncomputable def vr23:List Tx:=[[115,116],[98,97,115,101],[108]]
noncomputable def vr24:List Tx:=[[115],[97],[98],[113]]
noncomputable def vr25:List Tx:=[[99,111,100,101],[102,117,101,108],[115,116],[98,97,115,101],[112,99],[111,117,116],[105],[107],[118],[115],[98],[97],[110],[97,116],[108,105,110,107],[112]]
noncomputable def vr26:List Tx:=[[116,101,120,116],[102,117,101,108]]
noncomputable def vr27:List Tx:=[[97],[98],[113]]
noncomputable def vr28:List Tx:=[[99,101,108,108,115],[115,112,111,116],[118]]
noncomputable def vr29:List Tx:=[[107],[110],[99,101,108,108,115],[120],[121],[104,101,108,100],[102,111,114,109,115]]
noncomputable def vr30:List Tx:=[[107],[110],[99,101,108,108,115],[120],[121],[102,111,114,109,115]]
noncomputable def vr31:List Tx:=[[107],[106],[110],[99,101,108,108,115],[120],[121],[101],[118],[99],[116],[116,97,114,103,101,116],[115,112,111,116],[116,101,120,116],[108,111,119],[111,117,116],[116,105,99,107,115],[114,111,117,110,100,115],[105],[109],[100,101,112,116,104,115],[100]]
noncomputable def vr32:List Tx:=[[116,101,120,116],[102,117,101,108],[103,111,116]]
noncomputable def vr33:List Tx:=[[115,99,114,105,112,116],[99,101,108,108,115],[115,116,97,114,116],[98,111,100,121],[119,114,111,116,101],[110,101,101,100],[100,117,101],[107],[106],[110],[116,101,120,116],[97,102,116,101,114],[111,117,116],[116,105,99,107,115],[102,108,97,119],[112],[119,104,111,108,101],[111,108,100],[110,101,119],[102,117,101,108],[119,97,110,116],[103,111,116],[119]]
noncomputable def tb3:Tb:=⟨[[95,87,79,82,68,83],[95,67,77,80],[105,110,116],[95,108,97,119,95,72,69,65,68],[95,108,97,119,95,84,65,73,76],[95,108,97,119,95,83,76,79,84,83],[95,108,97,119,95,83,84,69,80,83],[95,108,97,119,95,66,65,68],[95,108,97,119,95,84,85,82,78,69,68]],[[95,108,101,120],[95,95,105,110,105,116,95,95],[97,116],[119,97,110,116],[103,111,116],[105,116,101,109],[101,120,112,114],[116,101,114,109],[102,97,99,116,111,114],[99,111,110,100],[115,116,109,116,115],[115,116,109,116],[98,108,111,99,107],[112,97,114,115,101],[95,110,101,101,100],[95,95,105,110,105,116,95,95],[101,109,105,116],[98,108,111,99,107],[102,105,110,100],[97,100,100,114],[118,97,108],[115,116,109,116],[99,111,109,112,105,108,101,95,116,114,101,101],[95,102,114,97,109,101],[95,114,101,99,107,111,110,101,100],[114,117,110],[101,118,97,108,117,97,116,101],[95,108,97,119,95,113,117,111,116],[95,108,97,119,95,112,117,116],[95,108,97,119,95,101,120,112,114],[95,108,97,119,95,99,111,110,100],[95,108,97,119,95,115,116,101,112],[95,108,97,119,95,116,114,121],[108,97,119]],[[95,80,97,114,115,101,114],[95,67,111,109,112,105,108,101,114]],[23,37,44,51,58,65,72,79,86,93,100,107,112,126,133,147,154,159,166,173,180,187,201,208,215,222,229,252,257,264,271,278,285,292],[true,false,false,false,false,false,false,false,false,false,false,false,false,true,true,false,false,false,false,false,false,false,true,true,true,true,true,true,true,true,true,true,true,true]⟩
noncomputable def sp3:Sp:=⟨tb3,gl3,[115,190],[some 1,some 15],[none,some 0,some 0,some 0,some 0,some 0,some 0,some 0,some 0,some 0,some 0,some 0,some 0,none,none,some 1,some 1,some 1,some 1,some 1,some 1,some 1,none,none,none,none,none,none,none,none,none,none,none,none],[(ir0,vr0),(ir1,vr1),(ir2,vr2),(ir3,vr3),(ir4,vr4),(ir5,vr5),(ir6,vr6),(ir7,vr7),(ir8,vr8),(ir9,vr9),(ir10,vr10),(ir11,vr11),(ir12,vr12),(ir13,vr13),(ir14,vr14),(ir15,vr15),(ir16,vr16),(ir17,vr17),(ir18,vr18),(ir19,vr19),(ir20,vr20),(ir21,vr21),(ir22,vr22),(ir23,vr23),(ir24,vr24),(ir25,vr25),(ir26,vr26),(ir27,vr27),(ir28,vr28),(ir29,vr29),(ir30,vr30),(ir31,vr31),(ir32,vr32),(ir33,vr33)]⟩
open PySem PySem.W PySem.W.X PySem.W.Fast
def q3:Program:=view PySem.Challenge.pw_sx_r130_3 [1,2,3,4,5,6,7,8,9,10,11,12,14,15,16,17,18,19,20,21,22,23,24,25,26]
def loose3:List Str:=["_WORDS"]
noncomputable def fFrom (p:Program)(w:World)(N:Nat)(s0:Shared):Option Shared:=
 match s0.heap.isNs mainGlobals&&s0.gens.size==0 with
 | true=>(tw14082659384304107361 tw14364793385576792824 p w s0.heap.objs.size (s0.heap.nsMap mainGlobals "__annotations__") N s0 (topStub p)).bind fun s₁=>match staticsOk (importedModules p.main.body) s0.heap s₁.heap&&namesBound p s₁.heap&&gensDone s₁&&laidKept s0.heap s₁.heap with
   | true=>some s₁
   | false=>none
 | false=>none
theorem from_eq (p:Program)(w:World)(N:Nat)(s0:Shared):topFrom treeTable p w N s0=fFrom p w N s0:=by
 unfold topFrom fFrom;rw [te14082659384304107361,te14364793385576792824];rfl
noncomputable def fOpen (p:Program)(w:World)(N:Nat):Option Shared:=
 (tw10274390034422433532 tw14364793385576792824 (opening p) w N (tw1435165496053646825 (opening p)).1 (tw1435165496053646825 (opening p)).2).bind (tw14289696077712309145 p)
theorem open_eq (p:Program)(w:World)(N:Nat):fencedOpening treeTable p w N=fOpen p w N:=by
 unfold fencedOpening fOpen;rw [te10274390034422433532,te14364793385576792824,te1435165496053646825,te14289696077712309145]
noncomputable def fEnds (p:Program)(w:World)(N:Nat):Option Shared:=(fOpen p w N).bind (fFrom p w N)
theorem ends_eq (p:Program)(w:World)(N:Nat):openEnds treeTable p w N=fEnds p w N:=by
 unfold openEnds fEnds;rw [open_eq];congr 1;funext s; exact from_eq p w N s
open PySem PySem.W
noncomputable def fpO (x:Stmt):Option FnP:=match x with
 | .FunctionDef _ a b _ _ _ s _ _ _=>some (s,a,b)
 | _=>none
noncomputable def clO (x:Stmt):List Stmt:=match x with
 | .ClassDef _ _ _ b _ _ _ _ _ _ _=>b
 | _=>[x]
noncomputable def fnPs (l:List Stmt):List FnP:=(l.flatMap clO).filterMap fpO
noncomputable def pr3:List FnP:=fnPs PySem.Challenge.pw_sx_r130_3.main.body
abbrev DV:=FDef×List Tx
noncomputable def tr3 (p:FnP)(d:DV):List Stmt:=toSs p.1 d.1.body p.2.2
noncomputable def bd1 (q:Str)(p:FnP)(d:DV):(n:Nat)×Cur (Sem (List (Str×Value))) n:=⟨d.1.np,cur d.1.np fun vs=>bindArgs (skl q p.2.1 .none .none) ⟨vs,[]⟩⟩
noncomputable def bd2 (p:FnP)(d:DV):(n:Nat)×Cur (Sem (List (Str×Value))) n:=⟨d.1.np,cur d.1.np fun vs=>pure ((p.2.1.args.map (·.arg)).zip vs)⟩
theorem tr_3:List.zipWith tr3 pr3 sp3.defs=pr3.map (·.2.2):=by kernel_rfl
theorem ok_3:List.zipWith (fun p d=>okSs p.1 tb3 d.2 d.1.body p.2.2) pr3 sp3.defs=pr3.map fun _=>true:=by kernel_rfl
theorem bd_3 (q:Str):List.zipWith (bd1 q) pr3 sp3.defs=List.zipWith bd2 pr3 sp3.defs:=by kernel_rfl
theorem ln_3:pr3.length=sp3.defs.length:=by kernel_rfl
noncomputable def frg (h:Heap):Frag:=(List.range h.objs.size).filterMap fun a=>(h.get? a).map fun o=>(a,o)
theorem frg_aux {h:Heap}{a:Addr}{o:Obj}:∀ {l:List Nat},(l.filterMap fun a=>(h.get? a).map fun o=>(a,o)).lookup a=some o->h.get? a=some o
 | [],e=>by cases e
 | b::l,e=>by
  rw [List.filterMap_cons] at e;cases q:h.get? b with
  | none=>rw [q] at e; exact frg_aux e
  | some ob=>
   rw [q] at e;have e:List.lookup a ((b,ob)::_)=some o:=e;rw [List.lookup_cons] at e;cases z:a==b with
   | true=>rw [z] at e; cases Ag e; cases eq_of_beq z; exact q
   | false=>rw [z] at e; exact frg_aux e
theorem frg_in (h:Heap):(frg h).In h:=fun a o e=>frg_aux e
noncomputable def hpB (h:Heap):Bool:=spB (frg h) sp3 tk3&&allB (fun k=>opB sp3.defs[k]? fun d=>fnB (frg h) tb3 k d.1 d.2) 34
noncomputable def prts (h:Heap):List (FnP×Value×Value):=(List.range 34).map fun k=>prt (fdAt (frg h) tb3 k)
theorem fd_3 {h:Heap}(h1:allB (fun k=>opB sp3.defs[k]? fun d=>fnB (frg h) tb3 k d.1 d.2) 34=true)(h2:prts h=pr3.map fun p=>(p,Value.none,Value.none))(k:Nat)(d:FDef)(vs:List Tx)(e:sp3.defs[k]?=some (d,vs)):∃ p,FnC (frg h) sp3.t k d vs p:=by
 have hk:k<34:=lt_of_get e;have hp:pr3[k]?=some pr3[k]:=List.getElem?_eq_getElem (ln_3▸hk);obtain ⟨d',e',hb⟩:=opB_i (allB_i h1 hk);cases Ag (e.symm.trans e');have t:=congrArg (fun l=>l[k]?) tr_3;have g:=congrArg (fun l=>l[k]?) ok_3;have p:=congrArg (fun l=>l[k]?) h2;have b:=fun q=>congrArg (fun l=>l[k]?) (bd_3 q);simp only [List.getElem?_zipWith,List.getElem?_map,hp,e] at t g b;rw [List.getElem?_map,hp] at p;have p:((List.range 34)[k]?).map _=_:=(List.getElem?_map ..).symm.trans p;rw [List.getElem?_range hk] at p;exact ⟨pr3[k],hb,Ag p,fun q=>eq_of_heq (Sigma.mk.inj (Ag (b q))).2,Ag t,Ag g⟩
open PySem PySem.W PySem.W.X PySem.W.Fast
noncomputable def yf3 (s:Shared):Nat×Bool×List (FnP×Value×Value):=(s.toks,hpB s.heap,prts s.heap)
noncomputable def ya3:Nat×Bool×List (FnP×Value×Value):=(701,true,pr3.map fun p=>(p,Value.none,Value.none))
theorem k1:∀ w:World,(fEnds PySem.Challenge.pw_sx_r130_3 w 3614).map (fun s=>(tw4187177175401517315 q3 loose3 (importedModules PySem.Challenge.pw_sx_r130_3.main.body) (fun s=>recOk [] s) true s,yf3 s))=some (openGood q3 loose3,ya3):=fun w=>by kernel_rfl
theorem hl:LeftO PySem.Challenge.pw_sx_r130_3 q3 loose3 (fun s=>recOk [] s) yf3 (fun _=>ya3) 3614:=fun w=>by
 rw [ends_eq,te4187177175401517315]; exact k1 w
theorem upTo {α:Type}{n:Nat}{f g:Nat->α}(h:(List.range n).map f=(List.range n).map g)(k:Nat)(hk:k<n):f k=g k:=by
 have:=congrArg (fun l=>l[k]?) h;simp only [List.getElem?_map,List.getElem?_range hk] at this;exact Ag this
namespace P
theorem core3:Core sp3.stat sp3.D where
 d:=upTo rfl
 c:=upTo rfl
 g0:=rfl
 g1:=rfl
 i0:=rfl
 i1:=rfl
theorem lawS3:Law3 sp3.stat sp3.D where
 toCore:=core3
 d27:=rfl
 d28:=rfl
 d29:=rfl
 d30:=rfl
 d31:=rfl
 d32:=rfl
 d33:=rfl
 c27:=fun k h1 h2=>by
  have:=upTo (n:=34) (f:=fun k=>cond (Nat.ble 27 k) (sp3.stat.clsOf k) none) (g:=fun _=>none) rfl k (Nat.lt_succ_of_le (Ad h2));rw [h1] at this; exact this
 g2:=rfl
 g3:=rfl
 g4:=rfl
 g5:=rfl
 g6:=rfl
 g7:=rfl
 g8:=rfl
end P
theorem pure3 (nts:List Int):callW sp3.stat sp3.D (199+1) 33 [.frz (nts.map .int)] [] (fun a _=>a=.bool true) (fun _=>False):=P.law_sp (m:=194) P.lawS3 (by decide)
open PySem PySem.W PySem.W.X PySem.W.Fast
theorem ws3:PySem.Challenge.rw_sx_r130_3.wellSaid=true:=by
 rw [te9446332074065402090]; kernel_rfl
end Mine
open PySem PySem.W PySem.W.X PySem.W.Fast PySem.W.ZRun
namespace Mine
theorem df:(defOf q3 "law").isSome=true:=by kernel_rfl
noncomputable def d3:DefRec×List (Str×Expr):=(defOf q3 "law").get df
theorem dfe:defOf q3 "law"=some (d3.1,d3.2):=(Option.some_get df).symm
theorem hp3:PySem.Challenge.pw_sx_r130_3.theDef "law"=some (d3.1.params,d3.1.body,d3.1.scope):=by rw [te10235530238920679567]; kernel_rfl
theorem hk3:kwWritten? d3.1.params.kwonlyargs d3.1.params.kw_defaults=some d3.2:=by kernel_rfl
theorem at33 {h h':Heap} {mg:Str->Option Value} {fa:Addr} (hs:spB (frg h) sp3 tk3=true) (X:(frg h).In h') (hg:h'.Ns mainGlobals mg) (hm:mg "law"=some (.ref fa)):fa=292:=by
 have f:(isRef (nsIn (frg h) mainGlobals (sOf [108,97,119])) 292&&_)=true:=allB_i (k:=33) (and_i (and_i hs).2).1 (by decide);have e:sOf [108,97,119]=("law" : Str):=by kernel_rfl
 have:=mg_of X hg (isRef_i (and_i f).1);rw [e,hm] at this;cases this; rfl
end Mine
theorem PySem.Challenge.cw_sx_r130_3_holds : PySem.Challenge.rw_sx_r130_3.Holds := by
 refine holds_law Mine.ws3 fun said=>?_;refine holds_openX (q:=Mine.q3) (loose:=Mine.loose3) (Xt:=fun s=>recOk [] s) (XP:=fun _ _=>True) (Yf:=Mine.yf3) (Ya:=fun _=>Mine.ya3) (N:=3614) Mine.hl (fun _ _=>trivial) (fun _ _ _ _ _=>trivial) Mine.dfe Mine.hp3 Mine.hk3 (fun s e=>recFacts_of e) rfl said (by decide +kernel) ⟨rfl,rfl,rfl,rfl,rfl,by decide +kernel⟩ ⟨[.list []],by decide +kernel,by decide +kernel⟩ ?_;intro w s₀ s₁ mg mb G y fa o pm cd doc dV kV ho hd hcd hD hmg hg args vals as L hpre hlay hrd hwl hlo;refine Ground.open G ?_;intro T B D TE TW;have y1:s₀.toks=701:=congrArg (·.1) y;have y2:=Mine.and_i (congrArg (·.2.1) y:Mine.hpB s₀.heap=true);have y3:Mine.prts s₀.heap=_:=congrArg (·.2.2) y;have KX:(Mine.frg s₀.heap).In s₁.heap:=(Mine.frg_in _).keeps L.keeps;cases Mine.at33 y2.1 KX T.g hmg
 wrow_args hpre hlay hrd hwl hlo
 refine Mine.law_top (s:=Mine.sp3) (tk:=Mine.tk3) (n:=199) (k:=33) (m:=701) KX T.g T.b T.nolimit T.builtins y2.1 (Mine.fd_3 y2.2 y3) (by kernel_rfl) (by decide) L (by assumption) (by assumption) (by omega) y1 hg (by decide) rfl (by intro cls; rfl) ?_ (Mine.pure3 _)
 first | rfl | wrow_post
