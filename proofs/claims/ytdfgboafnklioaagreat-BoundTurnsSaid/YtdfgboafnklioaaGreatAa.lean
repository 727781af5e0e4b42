/- The abstract machine: values, memory, operations, code; and each operation does what the model does. No condition. -/
import GoSem.Dispatch
import GoSem.Core.Region
import Derived.Laws.Append
import Derived.Laws.CopyRow
import Derived.Deep.MidRow
import Derived.WalkLawsBesides
import Derived.Laws.Slices
import Derived.Laws.Tables
import Derived.Laws.MakeOwn
set_option linter.all false
set_option maxRecDepth 100000
set_option maxHeartbeats 4000000
namespace Go.cO
noncomputable section
theorem am{p:Prop}(h:p:=by omega):p:=h
theorem ac{p:Prop}(h:p:=by simp):p:=h
theorem ci{p:Prop}(h:p:=by assumption):p:=h
theorem dl{p:Prop}(h:p:=by decide):p:=h
inductive T (α:Type) where
 |e
 |n (l:T α)(v:Option α)(r:T α)
namespace T
variable{α:Type}
def get:T α->Nat->Option α
 |.e,_=>none
 |.n l v r,k=>
  match k with
  |0=>v
  |k+1=>if Nat.beq (Nat.mod k 2) 0 then l.get (Nat.div k 2) else r.get (Nat.div k 2)
def qd:Nat->T α->Nat->Option α->T α
 |0,t,_,_=>t
 |f+1,t,k,x=>
  match t with
  |.e=>
   match k with
   |0=>.n .e x .e
   |k+1=>if Nat.beq (Nat.mod k 2) 0 then .n (qd f .e (Nat.div k 2) x) none .e else .n .e none (qd f .e (Nat.div k 2) x)
  |.n l v r=>
   match k with
   |0=>.n l x r
   |k+1=>if Nat.beq (Nat.mod k 2) 0 then .n (qd f l (Nat.div k 2) x) v r else .n l v (qd f r (Nat.div k 2) x)
def set (t:T α)(k:Nat)(x:α):T α:=qd (k+1) t k (some x)
end T
inductive AV where
 |sc (v:Value)
 |ptr (id off:Nat)
 |sl (id off len cap:Nat)
 |op (id off len dq es:Nat)
 |map (id:Nat)
 |fn (f:Fn)(first cap:List AV)
 |yd (l:Nat)
 |iface (t:TypeId)(v:AV)
 |agg (cs:List AV)
 |dD (vs:List AV)
 |no
 |tok (i:Nat)
 deriving Inhabited
inductive Tag where
 |normal|exit (id:Nat)|goto (l:Nat)|ret
 deriving DecidableEq,Inhabited,Repr
inductive fD where
 |mv (x:AV)
 |pick (c a b:AV)
 |bin (op:BinOp)(x y:AV)
 |conv(k:IntKind)(x:AV)
 |part (off n:Nat)(agg:Bool)(x:AV)
 |Bk (len es:Nat)(agg:Bool)(x i:AV)
 |build (zero:List AV)(parts:List (Nat×Nat×AV))
 |lG (off:Nat)(x:AV)
 |zf (len es:Nat)(x i:AV)
 |da (es:Nat)(x i:AV)
 |o_ (len es:Nat)(x:AV)(lo hi mx:Option AV)
 |jM (es:Nat)(x:AV)(lo hi mx:Option AV)
 |extract (i:Nat)(x:AV)
 |pc (x:AV)
 |len (str:Bool)(x:AV)
 |pg (isMax:Bool)(xs:List AV)
 |load (n:Nat)(agg:Bool)(p:AV)
 |alloc (cells:List AV)
 |box (x:AV)
 |gK (es n:Nat)(zero:List AV)(parts:List (Nat×Nat×AV))
 |gL (es bytes:Nat)(zero:List AV)(len cap:AV)
 |CA
 |store (n:Nat)(p v:AV)
 |append (es bytes:Nat)(s x:AV)
 |clear(es:Nat)(zero:List AV)(x:AV)
 |eq (t:TypeId)(neg:Bool)(x y:AV)
 |un (op:UnOp)(x:AV)
 |mf (asserted:TypeId)(Mb:Bool)(I8:Bool)(zero:Option AV)(x:AV)
 |lookup (kt:TypeId)(I8:Bool)(zero:AV)(m k:AV)
 |Bl (kt:TypeId)(m k v:AV)
 deriving Inhabited
inductive AC where
 |ret (t:Tag)(vs:List AV)
 |op (o:fD)(k:AV->AC)
 |hZ (g:AV)(b:Bool)(o:fD)(k:AV->AC)
 |lH (o:fD)(v:AV)(k:AC)
 |Bm (g:AV)(b:Bool)(o:fD)(v:AV)(k:AC)
 |ite (c:AV)(a b:AC)
 |call (f:AV)(args:List AV)(k:AV->AC)
 |dO (g:AV)(b:Bool)(f:AV)(args:List AV)(k:AV->AC)
 |bind (m:AC)(id:Option Nat)(k:List AV->AC)(outs:List AV->List AV)
 |loop (init:List AV)(body:List AV->AC)(outs:List AV->List AV)
 |DP (n:Nat)(f:AV)(body:List AV->AC)(k:AC)(outs:List AV)
 |fin (m:AC)(k:List AV->AC)
 |start (l:AV)(k:AC)
 |fail
inductive AO where
 |row (cells:List AV)
 |ro (cells:List AV)
 |map (es:List (Value×AV))
 |loop (st:LoopState)(dE:Option Tag)(n:Nat)(body:List AV->AC)
structure AH where
 t:T AO
 next:Nat
noncomputable def gy:T AO->Nat->Option AO:=
 T.rec (motive:=λ_=>Nat->Option AO) (λ_=>none) λ_ v _ il ir k=>Nat.rec (motive:=λ_=>Option AO) v (λk _=>Bool.rec (motive:=λ_=>Option AO) (ir (Nat.div k 2)) (il (Nat.div k 2)) (Nat.beq (Nat.mod k 2) 0)) k
noncomputable def vZ (x:Option AO):Nat->Nat->T AO:=
 Nat.rec (motive:=λ_=>Nat->T AO) (λ_=>.e) λ_ ih k=>Nat.rec (motive:=λ_=>T AO) (.n .e x .e) (λk _=>Bool.rec (motive:=λ_=>T AO) (.n .e none (ih (Nat.div k 2))) (.n (ih (Nat.div k 2)) none .e) (Nat.beq (Nat.mod k 2) 0)) k
noncomputable def DR (x:Option AO):T AO->Nat->T AO:=
 T.rec (motive:=λ_=>Nat->T AO) (λk=>vZ x (Nat.succ k) k) λl v r il ir k=>Nat.rec (motive:=λ_=>T AO) (.n l x r) (λk _=>Bool.rec (motive:=λ_=>T AO) (.n l v (ir (Nat.div k 2))) (.n (il (Nat.div k 2)) v r) (Nat.beq (Nat.mod k 2) 0)) k
noncomputable def AH.get (S:AH) (id:Nat):Option AO:=gy S.t id
noncomputable def put (x:Option AO) (t:T AO) (k:Nat):T AO:=DR x t k
def AH.set (S:AH)(id:Nat)(o:AO):AH:=⟨put (some o) S.t id,S.next⟩
def AH.kill (S:AH)(id:Nat):AH:=⟨put none S.t id,S.next⟩
def AH.new (S:AH)(o:AO):AH:=⟨put (some o) S.t S.next,Nat.succ S.next⟩
def uv:AV:=.dD []
def nth:List AV->Nat->AV
 |[],_=>.no
 |v::_,0=>v
 |_::r,n+1=>nth r n
def scalar:Value->Bool
 |.bool _|.int ..|.float ..|.complex ..|.string _|.pointer none|.slice _ 0 0|.map none|.nilFunc|.nilIface=>true
 |_=>false
def qe (f:Value->Option AV):List Value->Option (List AV)
 |[]=>some []
 |v::r=>match f v,qe f r with
  |some a,some b=>some (a::b)
  |_,_=>none
def one?:Option AV->Option AV
 |some (.agg _)|some (.dD _)|some .no=>none
 |o=>o
def sU:Nat->Value->Option AV
 |0,_=>none
 |n+1,.agg cs=>(qe (λv=>one? (sU n v)) cs.toList).map .agg
 |n+1,.tuple cs=>(qe (sU n) cs.toList).map .dD
 |n+1,.iface t v=>(sU n v).map (.iface t)
 |n+1,.func (.func f) a b=>match qe (sU n) a.toList,qe (sU n) b.toList with
  |some a,some b=>some (.fn (.func f) a b)
  |_,_=>none
 |_+1,v=>if scalar v then some (.sc v) else none
mutual
def sk:AV->Option Value
 |.sc v=>some v
 |.agg cs=>(sV cs).map λl=>.agg l.toArray
 |.iface t v=>(sk v).map (.iface t)
 |_=>none
def sV:List AV->Option (List Value)
 |[]=>some []
 |v::r=>match sk v,sV r with
  |some a,some b=>some (a::b)
  |_,_=>none
end
def br {α:Type}(P:Program):Sem α->Option α
 |.pure a=>some a
 |.program k=>br P (k P)
 |.mark _ k=>br P k
 |_=>none
noncomputable def lI:Value->Option (IntKind×Int):=
 Value.rec (motive_1:=λ_=>Option (IntKind×Int)) (motive_2:=λ_=>Unit) (motive_3:=λ_=>Unit)
  (λ_=>none) (λk n=>some (k,n)) (λ_ _=>none) (λ_ _ _=>none) (λ_=>none) (λ_=>none) (λ_ _ _=>none) (λ_=>none) (λ_=>none)
  (λ_ _ _ _ _=>none) none (λ_ _ _=>none) none (λ_ _=>none) (λ_ _=>none) (λ_ _=>()) () (λ_ _ _ _=>())
noncomputable def asInt:AV->Option (IntKind×Int):=
 AV.rec (motive_1:=λ_=>Option (IntKind×Int)) (motive_2:=λ_=>Unit)
  (λv=>lI v) (λ_ _=>none) (λ_ _ _ _=>none) (λ_ _ _ _ _=>none) (λ_=>none) (λ_ _ _ _ _=>none) (λ_=>none) (λ_ _ _=>none) (λ_ _=>none) (λ_ _=>none) none (λ_=>none) () (λ_ _ _ _=>())
noncomputable def K5:Value->Option Bool:=
 Value.rec (motive_1:=λ_=>Option Bool) (motive_2:=λ_=>Unit) (motive_3:=λ_=>Unit)
  (λb=>some b) (λ_ _=>none) (λ_ _=>none) (λ_ _ _=>none) (λ_=>none) (λ_=>none) (λ_ _ _=>none) (λ_=>none) (λ_=>none)
  (λ_ _ _ _ _=>none) none (λ_ _ _=>none) none (λ_ _=>none) (λ_ _=>none) (λ_ _=>()) () (λ_ _ _ _=>())
noncomputable def asBool:AV->Option Bool:=
 AV.rec (motive_1:=λ_=>Option Bool) (motive_2:=λ_=>Unit)
  (λv=>K5 v) (λ_ _=>none) (λ_ _ _ _=>none) (λ_ _ _ _ _=>none) (λ_=>none) (λ_ _ _ _ _=>none) (λ_=>none) (λ_ _ _=>none) (λ_ _=>none) (λ_ _=>none) none (λ_=>none) () (λ_ _ _ _=>())
noncomputable def iN:AV->Option (Nat×Nat):=
 AV.rec (motive_1:=λ_=>Option (Nat×Nat)) (motive_2:=λ_=>Unit)
  (λ_=>none) (λi o=>some (i,o)) (λ_ _ _ _=>none) (λ_ _ _ _ _=>none) (λ_=>none) (λ_ _ _ _ _=>none) (λ_=>none) (λ_ _ _=>none) (λ_ _=>none) (λ_ _=>none) none (λ_=>none) () (λ_ _ _ _=>())
noncomputable def asAgg:AV->Option (List AV):=
 AV.rec (motive_1:=λ_=>Option (List AV)) (motive_2:=λ_=>Unit)
  (λ_=>none) (λ_ _=>none) (λ_ _ _ _=>none) (λ_ _ _ _ _=>none) (λ_=>none) (λ_ _ _ _ _=>none) (λ_=>none) (λ_ _ _=>none) (λcs _=>some cs) (λ_ _=>none) none (λ_=>none) () (λ_ _ _ _=>())
noncomputable def CB:AV->Option (List AV):=
 AV.rec (motive_1:=λ_=>Option (List AV)) (motive_2:=λ_=>Unit)
  (λ_=>none) (λ_ _=>none) (λ_ _ _ _=>none) (λ_ _ _ _ _=>none) (λ_=>none) (λ_ _ _ _ _=>none) (λ_=>none) (λ_ _ _=>none) (λ_ _=>none) (λcs _=>some cs) none (λ_=>none) () (λ_ _ _ _=>())
noncomputable def QF:Value->Bool:=
 Value.rec (motive_1:=λ_=>Bool) (motive_2:=λ_=>Unit) (motive_3:=λ_=>Unit)
  (λ_=>true) (λ_ _=>true) (λ_ _=>true) (λ_ _ _=>true) (λ_=>true) (λ_=>false) (λ_ _ _=>true) (λ_=>true) (λ_=>true)
  (λ_ _ _ _ _=>false) false (λ_ _ _=>true) false (λ_ _=>true) (λ_ _=>true) (λ_ _=>()) () (λ_ _ _ _=>())
noncomputable def QG:Fn->Bool:=Fn.rec (motive:=λ_=>Bool) (λ_=>true) (λ_=>false) (λ_ _=>true) (λ_ _ _ _=>true) (λ_=>true)
noncomputable def live:AV->Bool:=
 AV.rec (motive_1:=λ_=>Bool) (motive_2:=λ_=>Unit)
  (λv=>QF v) (λ_ _=>true) (λ_ _ _ _=>true) (λ_ _ _ _ _=>true) (λ_=>true) (λf _ _ _ _=>QG f) (λ_=>true) (λ_ _ _=>true) (λ_ _=>true) (λ_ _=>true) false (λ_=>false) () (λ_ _ _ _=>())
noncomputable def AV.cells (v:AV):List AV:=
 AV.rec (motive_1:=λ_=>List AV->List AV) (motive_2:=λ_=>Unit)
  (λ_ l=>l) (λ_ _ l=>l) (λ_ _ _ _ l=>l) (λ_ _ _ _ _ l=>l) (λ_ l=>l) (λ_ _ _ _ _ l=>l) (λ_ l=>l) (λ_ _ _ l=>l) (λcs _ _=>cs) (λ_ _ l=>l) (λl=>l) (λ_ l=>l) () (λ_ _ _ _=>()) v [v]
noncomputable def odd:AV->Bool:=
 AV.rec (motive_1:=λ_=>Bool) (motive_2:=λ_=>Unit)
  (λ_=>false) (λ_ _=>false) (λ_ _ _ _=>false) (λ_ _ _ _ _=>false) (λ_=>false) (λ_ _ _ _ _=>false) (λ_=>false) (λ_ _ _=>false) (λ_ _=>false) (λ_ _=>true) true (λ_=>false) () (λ_ _ _ _=>())
noncomputable def K6:AO->Option (List AV):=
 AO.rec (motive:=λ_=>Option (List AV)) (λl=>some l) (λ_=>none) (λ_=>none) (λ_ _ _ _=>none)
noncomputable def CC:AO->Option (List AV):=
 AO.rec (motive:=λ_=>Option (List AV)) (λl=>some l) (λl=>some l) (λ_=>none) (λ_ _ _ _=>none)
noncomputable def K7:IntKind->Nat:=IntKind.rec (motive:=λ_=>Nat) 0 1 2 3 4 5 6 7
def nh (j k:IntKind):Bool:=Nat.beq (K7 j) (K7 k)
noncomputable def Fx:IntKind->Nat:=IntKind.rec (motive:=λ_=>Nat) 127 32767 2147483647 9223372036854775807 255 65535 4294967295 18446744073709551615
def fT (k:IntKind)(n:Int):Int:=
 match n with
 |.ofNat a=>match Nat.ble a (Fx k) with
  |true=>.ofNat a
  |false=>IntKind.wrap k (.ofNat a)
 |.negSucc a=>IntKind.wrap k (.negSucc a)
noncomputable def ltK:Int->Int->Bool:=
 Int.rec (motive:=λ_=>Int->Bool)
  (λa=>Int.rec (motive:=λ_=>Bool) (λb=>Nat.ble (Nat.succ a) b) (λ_=>false))
  (λa=>Int.rec (motive:=λ_=>Bool) (λ_=>true) (λb=>Nat.ble (Nat.succ b) a))
noncomputable def DS (a b:Int):Bool:=ltK a b
noncomputable def eqK:Int->Int->Bool:=
 Int.rec (motive:=λ_=>Int->Bool)
  (λa=>Int.rec (motive:=λ_=>Bool) (λb=>Nat.beq a b) (λ_=>false))
  (λa=>Int.rec (motive:=λ_=>Bool) (λ_=>false) (λb=>Nat.beq a b))
noncomputable def IY (a b:Int):Bool:=eqK a b
def dx (f:IntKind->Int->Int->Option AV)(x y:AV):Option AV:=
 match asInt x with
 |some (k,a)=>match asInt y with
  |some (k',b)=>match nh k k' with
   |true=>f k a b
   |false=>none
  |none=>none
 |none=>none
def v8 (f:ByteArray->ByteArray->Option AV)(x y:AV):Option AV:=
 match x,y with
 |.sc (.string a),.sc (.string b)=>f a b
 |_,_=>none
def either (a b:Option AV):Option AV:=
 match a with
 |some v=>some v
 |none=>b
def V2 (x y:AV):Option AV:=either (dx (λk a b=>some (.sc (.int k (fT k (Int.add a b))))) x y) (v8 (λa b=>if a.size+b.size<=9223372036854775807 then some (.sc (.string (a++b))) else none) x y)
def Mc (x y:AV):Option AV:=dx (λk a b=>some (.sc (.int k (fT k (Int.sub a b))))) x y
def Md (x y:AV):Option AV:=dx (λk a b=>some (.sc (.int k (fT k (Int.mul a b))))) x y
def Mf (x y:AV):Option AV:=dx (λk a b=>if IY b 0 then none else some (.sc (.int k (fT k (a.tdiv b))))) x y
def Mg (x y:AV):Option AV:=dx (λk a b=>if IY b 0 then none else some (.sc (.int k (a.tmod b)))) x y
def Fy (x y:AV):Option AV:=dx (λk a b=>some (.sc (.int k (fT k ((BitVec.ofInt k.bits a&&&BitVec.ofInt k.bits b).toNat))))) x y
def V3 (x y:AV):Option AV:=dx (λk a b=>some (.sc (.int k (fT k ((BitVec.ofInt k.bits a|||BitVec.ofInt k.bits b).toNat))))) x y
def V4 (x y:AV):Option AV:=dx (λk a b=>some (.sc (.int k (fT k ((BitVec.ofInt k.bits a^^^BitVec.ofInt k.bits b).toNat))))) x y
def qg (x y:AV):Option AV:=dx (λk a b=>some (.sc (.int k (fT k ((BitVec.ofInt k.bits a&&&~~~BitVec.ofInt k.bits b).toNat))))) x y
def Fz (x y:AV):Option AV:=
 match x,y with
 |.sc (.int k a),.sc (.int _ b)=>if DS b 0 then none else some (.sc (.int k (fT k (a*2^(min b.toNat k.bits)))))
 |_,_=>none
def FA (x y:AV):Option AV:=
 match x,y with
 |.sc (.int k a),.sc (.int _ b)=>if DS b 0 then none else some (.sc (.int k (a.fdiv (2^(min b.toNat k.bits)))))
 |_,_=>none
def V5 (x y:AV):Option AV:=either (dx (λ_ a b=>some (.sc (.bool (IY a b)))) x y) (v8 (λa b=>some (.sc (.bool (a.toList==b.toList)))) x y)
def V6 (x y:AV):Option AV:=either (dx (λ_ a b=>some (.sc (.bool (not (IY a b))))) x y) (v8 (λa b=>some (.sc (.bool !(a.toList==b.toList)))) x y)
def V7 (x y:AV):Option AV:=either (dx (λ_ a b=>some (.sc (.bool (DS a b)))) x y) (v8 (λa b=>some (.sc (.bool (Op.bytesLess a.toList b.toList)))) x y)
def V8 (x y:AV):Option AV:=either (dx (λ_ a b=>some (.sc (.bool (not (DS b a))))) x y) (v8 (λa b=>some (.sc (.bool (Op.bytesLess a.toList b.toList||a.toList==b.toList)))) x y)
def V9 (x y:AV):Option AV:=either (dx (λ_ a b=>some (.sc (.bool (DS b a)))) x y) (v8 (λa b=>some (.sc (.bool !(Op.bytesLess a.toList b.toList||a.toList==b.toList)))) x y)
def V_ (x y:AV):Option AV:=either (dx (λ_ a b=>some (.sc (.bool (not (DS a b))))) x y) (v8 (λa b=>some (.sc (.bool !(Op.bytesLess a.toList b.toList)))) x y)
noncomputable def I9 (op:BinOp):AV->AV->Option AV:=
 BinOp.rec (motive:=λ_=>AV->AV->Option AV) V2 Mc Md Mf Mg Fy V3 V4 Fz FA qg V5 V6 V7 V8 V9 V_ op
noncomputable def Mh {α:Type}(o:Option α)(n:Nat):Nat:=Option.rec (motive:=λ_=>Nat) n (λ_=>0) o
noncomputable def Wa:Value->Nat:=
 Value.rec (motive_1:=λ_=>Nat) (motive_2:=λ_=>Unit) (motive_3:=λ_=>Unit)
  (λ_=>0) (λ_ _=>0) (λ_ _=>0) (λ_ _ _=>0) (λ_=>0) (λa=>Mh a 1) (λa _ _=>Mh a 2) (λr=>Mh r 3) (λ_=>0)
  (λ_ _ _ _ _=>0) 4 (λ_ _ _=>0) 5 (λ_ _=>0) (λ_ _=>0) (λ_ _=>()) () (λ_ _ _ _=>())
noncomputable def kS:AV->Nat:=
 AV.rec (motive_1:=λ_=>Nat) (motive_2:=λ_=>Unit)
  (λv=>Wa v) (λ_ _=>0) (λ_ _ _ _=>0) (λ_ _ _ _ _=>0) (λ_=>0) (λ_ _ _ _ _=>0) (λ_=>0) (λ_ _ _=>0) (λ_ _=>0) (λ_ _=>0) 0 (λ_=>0) () (λ_ _ _ _=>())
noncomputable def zg:AV->Nat:=
 AV.rec (motive_1:=λ_=>Nat) (motive_2:=λ_=>Unit)
  (λ_=>0) (λ_ _=>1) (λ_ _ _ _=>2) (λ_ _ _ _ _=>2) (λ_=>3) (λ_ _ _ _ _=>4) (λ_=>4) (λ_ _ _=>5) (λ_ _=>0) (λ_ _=>0) 0 (λ_=>0) () (λ_ _ _ _=>())
def K8 (P:Program)(t:TypeId):Bool:=
 match P.underlying t with
 |some (.pointer e)=>match P.info? e with
  |some i=>Nat.ble 1 i.size
  |none=>false
 |_=>false
def ni:Value->Bool
 |.int ..|.float ..|.complex ..|.string _=>false
 |_=>true
def I_ (P:Program)(t:TypeId)(x y:AV):Option Bool:=
 match iN x with
 |some (i,a)=>match iN y with
  |some (j,b)=>match Nat.beq i j&&K8 P t with
   |true=>some (Nat.beq a b)
   |false=>none
  |none=>none
 |none=>match sk x,sk y with
  |some a,some b=>if ni a&&ni b then(match br P (eqGuard .eql t (.tmp 0) (.tmp 0) a b) with|some _=>br P (Op.equal t a b)|none=>none) else none
  |_,_=>none
def jo (P:Program)(t:TypeId):Nat:=
 match P.underlying t with
 |some (.pointer _)=>1
 |some (.slice _)=>2
 |some (.map _ _)=>3
 |some (.func _ _ _)=>4
 |some (.interface _)=>5
 |_=>0
def zh (P:Program)(t:TypeId)(x y:AV):Option Bool:=
 match Nat.ble 1 (kS x)&&Nat.beq (kS x) (zg y)&&Nat.beq (kS x) (jo P t) with
 |true=>some false
 |false=>match Nat.ble 1 (kS y)&&Nat.beq (kS y) (zg x)&&Nat.beq (kS y) (jo P t) with
  |true=>some false
  |false=>match Nat.ble 1 (kS x)&&Nat.ble (kS x) 4&&Nat.beq (kS x) (kS y)&&Nat.beq (kS x) (jo P t) with
   |true=>some true
   |false=>I_ P t x y
def below (a n:Nat):Option Nat:=match Nat.ble (Nat.succ a) n with
 |true=>some a
 |false=>none
def nat?:Int->Option Nat
 |.ofNat a=>some a
 |.negSucc _=>none
def nj (i:AV)(n:Nat):Option Nat:=
 match asInt i with
 |some (_,a)=>match nat? a with
  |some a=>below a n
  |none=>none
 |none=>none
def Ja (i:AV)(n:Nat):Option Nat:=nj i (Nat.succ n)
def fY (i:Option AV)(d n:Nat):Option Nat:=
 match i with
 |none=>some d
 |some i=>Ja i n
noncomputable def zi:List AV->Nat->Option AV:=
 List.rec (motive:=λ_=>Nat->Option AV) (λ_=>none) λv _ ih i=>Nat.rec (motive:=λ_=>Option AV) (some v) (λi _=>ih i) i
noncomputable def kr:Nat->List AV->List AV:=
 Nat.rec (motive:=λ_=>List AV->List AV) (λl=>l) λ_ ih l=>List.rec (motive:=λ_=>List AV) [] (λ_ r _=>ih r) l
noncomputable def ku:Nat->List AV->List AV:=
 Nat.rec (motive:=λ_=>List AV->List AV) (λ_=>[]) λ_ ih l=>List.rec (motive:=λ_=>List AV) [] (λv r _=>v::ih r) l
noncomputable def bD:List AV->Nat:=List.rec (motive:=λ_=>Nat) 0 λ_ _ n=>Nat.succ n
noncomputable def jq:List AV->List AV->List AV:=List.rec (motive:=λ_=>List AV->List AV) (λb=>b) λv _ ih b=>v::ih b
def aH (c:List AV)(off:Nat)(vs:List AV):List AV:=jq (ku off c) (jq vs (kr (Nat.add off (bD vs)) c))
def fo:List AV->List (Nat×Nat×AV)->Option (List AV)
 |cells,[]=>some cells
 |cells,(off,size,v)::rest=>
  match not (odd v)&&Nat.beq (bD v.cells) size&&Nat.ble (Nat.add off size) (bD cells) with
  |true=>fo (aH cells off v.cells) rest
  |false=>none
def fE (agg:Bool)(cs:List AV)(off n:Nat):Option AV:=
 match agg with
 |true=>match Nat.ble (Nat.add off n) (bD cs) with
  |true=>some (.agg (ku n (kr off cs)))
  |false=>none
 |false=>zi cs off
def bh (zero:List AV):Nat->List AV
 |0=>[]
 |n+1=>jq zero (bh zero n)
def n_ (isMax:Bool)(x y:AV):Option AV:=
 match x,y with
 |.sc (.int k a),.sc (.int _ b)=>some (.sc (.int k (if isMax then(if DS a b then b else a) else(if DS b a then b else a))))
 |_,_=>none
def CD (c a b:AV):Option AV:=match asBool c with
 |some true=>some a
 |some false=>some b
 |none=>none
def Ff (P:Program)(t:TypeId)(neg:Bool)(x y:AV):Option AV:=match zh P t x y with
 |some b=>some (.sc (.bool (match neg with|true=>not b|false=>b)))
 |none=>none
def QH (P:Program)(op:UnOp)(v:Value):Option AV:=match br P (Op.unary op v) with
 |some w=>match scalar w with
  |true=>some (.sc w)
  |false=>none
 |none=>none
def US (P:Program)(op:UnOp)(x:AV):Option AV:=match asBool x with
 |some b=>match op with
  |.not=>some (.sc (.bool (not b)))
  |_=>none
 |none=>match x with
  |.sc v=>QH P op v
  |_=>none
def CE (k:IntKind)(x:AV):Option AV:=match asInt x with
 |some (_,n)=>some (.sc (.int k (fT k n)))
 |none=>none
def CF (off n:Nat)(agg:Bool)(x:AV):Option AV:=match asAgg x with
 |some cs=>fE agg cs off n
 |none=>none
def sm (len es:Nat)(agg:Bool)(x i:AV):Option AV:=match asAgg x with
 |some cs=>match nj i len with
  |some i=>fE agg cs (Nat.mul i es) es
  |none=>none
 |none=>none
def kT (zero:List AV)(parts:List (Nat×Nat×AV)):Option AV:=match fo zero parts with
 |some c=>some (.agg c)
 |none=>none
def xH (off:Nat)(x:AV):Option AV:=match iN x with
 |some (id,o)=>some (.ptr id (Nat.add o off))
 |none=>none
def nk (len es:Nat)(x i:AV):Option AV:=match iN x with
 |some (id,o)=>match nj i len with
  |some i=>some (.ptr id (Nat.add o (Nat.mul i es)))
  |none=>none
 |none=>none
def fZ (es:Nat)(x i:AV):Option AV:=match x with
 |.sl id o len _=>match nj i len with
  |some i=>some (.ptr id (Nat.add o (Nat.mul i es)))
  |none=>none
 |.op id o len _ _=>match nj i len with
  |some i=>some (.ptr id (Nat.add o (Nat.mul i es)))
  |none=>none
 |_=>none
def jN (lo hi mx:Option AV)(len cap:Nat):Option (Nat×Nat×Nat):=
 match fY mx cap cap with
 |some m=>match fY hi len m with
  |some h=>match fY lo 0 h with
   |some l=>if mx.isSome&&hi.isNone then none else some (l,h,m)
   |none=>none
  |none=>none
 |none=>none
def kx (len es:Nat)(x:AV)(lo hi mx:Option AV):Option AV:=match x with
 |.ptr id o=>match jN lo hi mx len len with
  |some (l,h,m)=>some (.sl id (if Nat.beq m l then o else Nat.add o (Nat.mul l es)) (Nat.sub h l) (Nat.sub m l))
  |none=>none
 |_=>none
def dL (es:Nat)(x:AV)(lo hi mx:Option AV):Option AV:=match x with
 |.sl id o len cap=>match jN lo hi mx len cap with
  |some (l,h,m)=>some (.sl id (if Nat.beq m l then o else Nat.add o (Nat.mul l es)) (Nat.sub h l) (Nat.sub m l))
  |none=>none
 |.op id o len dq gq=>match Nat.beq es gq with
  |true=>match jN lo hi mx len dq with
   |some (l,h,m)=>match mx with
    |some _=>match Nat.beq dq 0 with
     |true=>some (.op id o 0 0 es)
     |false=>some (.sl id (if Nat.beq m l then o else Nat.add o (Nat.mul l es)) (Nat.sub h l) (Nat.sub m l))
    |none=>some (.op id (Nat.add o (Nat.mul l es)) (Nat.sub h l) (Nat.sub dq l) es)
   |none=>none
  |false=>none
 |.sc (.slice a 0 0)=>match jN lo hi mx 0 0 with
  |some _=>some (.sc (.slice a 0 0))
  |none=>none
 |_=>none
def qh (i:Nat)(x:AV):Option AV:=match CB x with
 |some vs=>zi vs i
 |none=>none
def oc (x:AV):Option AV:=match live x with
 |true=>some x
 |false=>none
def DT (str:Bool)(x:AV):Option AV:=match str with
 |true=>match x with
  |.sc (.string s)=>some (.sc (.int .i64 (.ofNat s.size)))
  |_=>none
 |false=>match x with
  |.sl _ _ n _=>some (.sc (.int .i64 (.ofNat n)))
  |.op _ _ n _ _=>some (.sc (.int .i64 (.ofNat n)))
  |.sc (.slice _ 0 0)=>some (.sc (.int .i64 0))
  |_=>none
def tA (m:Bool)(xs:List AV):Option AV:=match xs with
 |x::rest=>rest.foldlM (n_ m) x
 |[]=>none
def Bn (want:Array (String×TypeId))(PT:Array Method):Bool:=want.toList.all λx=>PT.toList.any λm=>m.name==x.1&&m.sig==x.2
def iO (P:Program)(t:TypeId)(Mb ok:Bool)(zero:Option AV)(x:AV):Option AV:=
 let holds (v:AV):AV:=if ok then .dD [v,.sc (.bool true)] else v
 let FB:Option AV:=if ok then zero.map λz=>.dD [z,.sc (.bool false)] else none
 match x with
 |.sc .nilIface=>FB
 |.iface u v=>
  if Mb then
   match P.underlying t,P.info? u with
   |some (.interface want),some i=>if Bn want i.methods then some (holds x) else FB
   |_,_=>none
  else if u==t then some (holds v) else FB
 |_=>none
def CG (P:Program)(kt:TypeId)(a b:Value):Option Bool:=
 match P.underlying kt,a,b with
 |some (.int _),.int k x,.int k' y=>if nh k k' then some (IY x y) else none
 |_,a,b=>br P (Op.equal kt a b)
def wL (P:Program)(kt:TypeId)(k:Value):List (Value×AV)->Nat->Option (Option (Nat×AV))
 |[],_=>some none
 |(k',v)::r,i=>match CG P kt k k' with
  |some true=>some (some (i,v))
  |some false=>wL P kt k r (i+1)
  |none=>none
def CH (P:Program)(kt:TypeId)(empty:Bool)(k:Value):Bool:=(br P (Instr.checkKey empty 10000 kt k)).isSome
def AH.cells? (S:AH)(id:Nat):Option (List AV):=
 match S.get id with
 |some o=>CC o
 |none=>none
def AH.row? (S:AH)(id:Nat):Option (List AV):=
 match S.get id with
 |some o=>K6 o
 |none=>none
def mQ (S:AH)(n:Nat)(agg:Bool)(p:AV):Option AV:=match iN p with
 |some (id,o)=>match S.cells? id with
  |some c=>fE agg c o n
  |none=>none
 |none=>none
def mapOf (S:AH)(m:AV):Option (List (Value×AV)):=match m with
 |.sc (.map none)=>some []
 |.map id=>match S.get id with
  |some (.map es)=>some es
  |_=>none
 |_=>none
def qi (P:Program)(S:AH)(kt:TypeId)(ok:Bool)(zero:AV)(m k:AV):Option AV:=
 match sk k,mapOf S m with
 |some k,some es=>
  if CH P kt es.isEmpty k then
   match wL P kt k es 0 with
   |some (some (_,v))=>some (if ok then .dD [v,.sc (.bool true)] else v)
   |some none=>some (if ok then .dD [zero,.sc (.bool false)] else zero)
   |none=>none
  else none
 |_,_=>none
def cR (P:Program)(S:AH):fD->Option AV
 |.load n agg p=>mQ S n agg p
 |.lookup kt ok zero m k=>qi P S kt ok zero m k
 |_=>none
def lay (S:AH)(o:AO)(f:Nat->AV):Option (AV×AH):=some (f S.next,S.new o)
def Mi (cells:List AV)(S:AH):Option (AV×AH):=lay S (.row cells) λid=>.ptr id 0
def Bo (x:AV)(S:AH):Option (AV×AH):=match odd x with
 |true=>none
 |false=>lay S (.row x.cells) λid=>.ptr id 0
def eI (es n:Nat)(zero:List AV)(parts:List (Nat×Nat×AV))(S:AH):Option (AV×AH):=
 match fo (bh zero n) parts with
 |some c=>match Nat.beq (bD c) (Nat.mul n es)&&Nat.beq (bD zero) es with
  |true=>lay S (.row c) λid=>.sl id 0 n n
  |false=>none
 |none=>none
def gM (es bytes:Nat)(zero:List AV)(len cap:AV)(S:AH):Option (AV×AH):=match asInt len with
 |some (_,l)=>match asInt cap with
  |some (_,c)=>match nat? l with
   |some l=>match nat? c with
    |some c=>match Nat.ble l c&&Nat.ble (Nat.mul bytes c) 140737488355328&&Nat.ble c 9223372036854775807&&Nat.beq (bD zero) es with
     |true=>lay S (.row (bh zero c)) λid=>.sl id 0 l c
     |false=>none
    |none=>none
   |none=>none
  |none=>none
 |none=>none
def Mj (S:AH):Option (AV×AH):=lay S (.map []) .map
def elems (S:AH)(es:Nat):AV->Option (Nat×List AV)
 |.sc (.slice _ 0 0)=>some (0,[])
 |.sl id o len _|.op id o len _ _=>match S.cells? id with
  |some c=>if Nat.ble (o+len*es) (bD c) then some (len,ku (len*es) (kr o c)) else none
  |none=>none
 |.sc (.string s)=>if es=1 then some (s.size,s.data.toList.map λb=>.sc (.int .u8 b.toNat)) else none
 |_=>none
def ca:Nat:=140737488355328
def cP:Nat:=9223372036854775807
def ph (n:Nat)(p v:AV)(S:AH):Option (AV×AH):=match iN p with
 |some (id,o)=>match S.row? id with
  |some c=>match not (odd v)&&Nat.beq (bD v.cells) n&&Nat.ble (Nat.add o n) (bD c) with
   |true=>some (uv,S.set id (.row (aH c o v.cells)))
   |false=>none
  |none=>none
 |none=>none
def jr (es bytes:Nat)(s x:AV)(S:AH):Option (AV×AH):=match elems S es x with
 |none=>none
 |some (m,news)=>match s with
  |.sc (.slice none 0 0)=>
   if Nat.beq m 0 then some (s,S)
   else if Nat.ble (m*bytes) ca&&Nat.ble m cP then some (.op S.next 0 m m es,S.new (.row news)) else none
  |.sl id o len cap=>match S.get id with
   |some (.row c)=>
    if Nat.ble (o+cap*es) (bD c)&&Nat.ble len cap then
     if Nat.ble (len+m) cap then some (.sl id o (len+m) cap,S.set id (.row (aH c (o+len*es) news)))
     else if Nat.ble ((len+m)*bytes) ca&&Nat.ble (len+m) cP then
      some (.op S.next 0 (len+m) (len+m) es,S.new (.row (jq (ku (len*es) (kr o c)) news)))
     else none
    else none
   |some (.ro c)=>
    if Nat.ble (o+cap*es) (bD c)&&Nat.ble len cap then
     if Nat.ble (len+m) cap then(if Nat.beq m 0 then some (.sl id o len cap,S) else none)
     else if Nat.ble ((len+m)*bytes) ca&&Nat.ble (len+m) cP then
      some (.op S.next 0 (len+m) (len+m) es,S.new (.row (jq (ku (len*es) (kr o c)) news)))
     else none
    else none
   |_=>none
  |.op id o len dq gq=>match S.get id with
   |some (.row c)=>
    if Nat.beq gq es&&Nat.ble (o+dq*es) (bD c)&&Nat.ble len dq then
     if Nat.ble (len+m) dq then some (.op id o (len+m) dq es,S.set id (.row (aH c (o+len*es) news)))
     else if Nat.ble ((len+m)*bytes) ca&&Nat.ble (len+m) cP then
      some (.op S.next 0 (len+m) (len+m) es,(S.kill id).new (.row (jq (ku (len*es) (kr o c)) news)))
     else none
    else none
   |_=>none
  |_=>none
def tY (es:Nat)(zero:List AV)(x:AV)(S:AH):Option (AV×AH):=match x with
 |.sc (.slice none 0 0)|.sc (.map none)=>some (uv,S)
 |.map id=>match S.get id with
  |some (.map _)=>some (uv,S.set id (.map []))
  |_=>none
 |.sl id o len _|.op id o len _ _=>match S.get id with
  |some (.row c)=>if Nat.ble (o+len*es) (bD c)&&Nat.beq (bD zero) es then some (uv,S.set id (.row (aH c o (bh zero len)))) else none
  |some (.ro _)=>if Nat.beq len 0 then some (uv,S) else none
  |_=>none
 |_=>none
def xI (P:Program)(kt:TypeId)(m k v:AV)(S:AH):Option (AV×AH):=match sk k with
 |none=>none
 |some k=>match m with
  |.map id=>match S.get id with
   |some (.map es)=>
    if CH P kt false k then
     match wL P kt k es 0 with
     |some (some (i,_))=>match es[i]? with
      |some (k',_)=>if Instr.sameBits 10000 k' k then some (uv,S.set id (.map (es.set i (k,v)))) else none
      |none=>none
     |some none=>some (uv,S.set id (.map (es++[(k,v)])))
     |none=>none
    else none
   |_=>none
  |_=>none
def eN (r:Option AV)(S:AH):Option (AV×AH):=match r with
 |some v=>some (v,S)
 |none=>none
noncomputable def evalOp (P:Program) (o:fD):AH->Option (AV×AH):=
 fD.rec (motive:=λ_=>AH->Option (AV×AH))
  (λx S=>some (x,S))
  (λc a b=>eN (CD c a b))
  (λop x y=>eN (I9 op x y))
  (λk x=>eN (CE k x))
  (λo n a x=>eN (CF o n a x))
  (λl e a x i=>eN (sm l e a x i))
  (λz ps=>eN (kT z ps))
  (λo x=>eN (xH o x))
  (λl e x i=>eN (nk l e x i))
  (λe x i=>eN (fZ e x i))
  (λl e x a b c=>eN (kx l e x a b c))
  (λe x a b c=>eN (dL e x a b c))
  (λi x=>eN (qh i x))
  (λx=>eN (oc x))
  (λg x=>eN (DT g x))
  (λm xs=>eN (tA m xs))
  (λn a p S=>eN (mQ S n a p) S)
  Mi Bo eI gM Mj ph jr tY
  (λt n x y=>eN (Ff P t n x y))
  (λop x=>eN (US P op x))
  (λt i o z x=>eN (iO P t i o z x))
  (λkt o z m k S=>eN (qi P S kt o z m k) S)
  (xI P) o
mutual
def AV.beq:AV->AV->Bool
 |.sc (.int k a),.sc (.int k' b)=>nh k k'&&IY a b
 |.sc (.bool a),.sc (.bool b)=>a==b
 |.sc (.string a),.sc (.string b)=>a.data.toList==b.data.toList
 |.sc (.slice a 0 0),.sc (.slice b 0 0)=>decide (a=b)
 |.sc (.pointer none),.sc (.pointer none)|.sc (.map none),.sc (.map none)
 |.sc .nilFunc,.sc .nilFunc|.sc .nilIface,.sc .nilIface=>true
 |.ptr i o,.ptr j p=>Nat.beq i j&&Nat.beq o p
 |.sl i o l c,.sl j p m d=>Nat.beq i j&&Nat.beq o p&&Nat.beq l m&&Nat.beq c d
 |.op i o l c e,.op j p m d f=>Nat.beq i j&&Nat.beq o p&&Nat.beq l m&&Nat.beq c d&&Nat.beq e f
 |.map i,.map j=>Nat.beq i j
 |.yd i,.yd j=>Nat.beq i j
 |.fn (.func f) a b,.fn (.func g) c d=>Nat.beq f g&&sW a c&&sW b d
 |.iface t v,.iface u w=>Nat.beq t u&&v.beq w
 |.agg a,.agg b=>sW a b
 |.dD a,.dD b=>sW a b
 |.tok i,.tok j=>Nat.beq i j
 |_,_=>false
def sW:List AV->List AV->Bool
 |[],[]=>true
 |a::r,b::s=>a.beq b&&sW r s
 |_,_=>false
end
noncomputable def DU:AV->Bool:=
 AV.rec (motive_1:=λ_=>Bool) (motive_2:=λ_=>Unit)
  (λ_=>false) (λ_ _=>false) (λ_ _ _ _=>false) (λ_ _ _ _ _=>false) (λ_=>false) (λ_ _ _ _ _=>false) (λ_=>false) (λ_ _ _=>false) (λ_ _=>false) (λ_ _=>false) true (λ_=>true) () (λ_ _ _ _=>())
def Bd (g:AV)(b:Bool):Option Bool:=
 match asBool g with
 |some true=>some b
 |some false=>some (not b)
 |none=>match DU g with
  |true=>none
  |false=>some false
abbrev Out:=Option (Tag×List AV×AH)
def iter (body:List AV->AH->Out):Nat->List AV->AH->Out
 |0,_,_=>none
 |n+1,vs,S=>match body vs S with
  |some (.normal,v_,S')=>iter body n v_ S'
  |r=>r
section
variable(P:Program)(call:AV->List AV->AH->Option (AV×AH))(fuel:Nat)
def qj (r:Option (AV×AH))(ih:AV->AH->Out):Out:=
 match r with
 |some (v,S')=>ih v S'
 |none=>none
def QI (o:fD)(ih:AV->AH->Out)(S:AH):Out:=qj (evalOp P o S) ih
def rC (g:AV)(b:Bool)(o:fD)(ih:AV->AH->Out)(S:AH):Out:=
 match Bd g b with
 |some true=>qj (evalOp P o S) ih
 |some false=>ih uv S
 |none=>none
def pj (o:fD)(v:AV)(ih:AH->Out)(S:AH):Out:=
 match cR P S o with
 |some v'=>match v'.beq v with
  |true=>ih S
  |false=>none
 |none=>none
def qn (g:AV)(b:Bool)(o:fD)(v:AV)(ih:AH->Out)(S:AH):Out:=
 match Bd g b with
 |some true=>pj P o v ih S
 |some false=>ih S
 |none=>none
def xJ (c:AV)(a b:AH->Out)(S:AH):Out:=
 match asBool c with
 |some true=>a S
 |some false=>b S
 |none=>none
def nq (g:AV)(b:Bool)(f:AV)(args:List AV)(ih:AV->AH->Out)(S:AH):Out:=
 match Bd g b with
 |some true=>qj (call f args S) ih
 |some false=>ih uv S
 |none=>none
def fp (m:AH->Out)(id:Option Nat)(k:List AV->AH->Out)(outs:List AV->List AV)(S:AH):Out:=
 match m S with
 |some (.normal,vs,S')=>k vs S'
 |some (.exit i,vs,S')=>match id with
  |some j=>match Nat.beq j i with
   |true=>k vs S'
   |false=>some (.exit i,outs vs,S')
  |none=>some (.exit i,outs vs,S')
 |some (t,vs,S')=>some (t,outs vs,S')
 |none=>none
def tB (init:List AV)(body:List AV->AH->Out)(outs:List AV->List AV)(S:AH):Out:=
 match iter body fuel init S with
 |some (t,vs,S')=>some (t,outs vs,S')
 |none=>none
def xK (n:Nat)(f:AV)(body:List AV->AC)(k:AH->Out)(outs:List AV)(S:AH):Out:=
 match f with
 |.yd _=>none
 |f=>match call f [.yd S.next] (S.new (.loop .ready none n body)) with
  |some (_,S')=>match S'.get S.next with
   |some (.loop .busy _ _ _)=>none
   |some (.loop _ dE n b)=>
    match dE with
    |none=>k (S'.set S.next (.loop .exhausted dE n b))
    |some t=>some (t,outs,S'.set S.next (.loop .exhausted dE n b))
   |_=>none
  |none=>none
def rD (m:AH->Out)(k:List AV->AH->Out)(S:AH):Out:=
 match m S with
 |some (.normal,vs,S')=>k vs S'
 |some (.ret,vs,S')=>k vs S'
 |_=>none
def qo (l:AV)(ih:AH->Out)(S:AH):Out:=
 match l with
 |.yd l=>match S.get l with
  |some (.loop .ready dE n b)=>ih (S.set l (.loop .busy dE n b))
  |_=>none
 |_=>none
noncomputable def run (x:AC):AH->Out:=
 AC.rec (motive:=λ_=>AH->Out)
  (λt vs S=>some (t,vs,S))
  (λo _ ih S=>QI P o ih S)
  (λg b o _ ih S=>rC P g b o ih S)
  (λo v _ ih S=>pj P o v ih S)
  (λg b o v _ ih S=>qn P g b o v ih S)
  (λc _ _ ia ib S=>xJ c ia ib S)
  (λf args _ ih S=>qj (call f args S) ih)
  (λg b f args _ ih S=>nq call g b f args ih S)
  (λ_ id _ outs im ik S=>fp im id ik outs S)
  (λinit _ outs ib S=>tB fuel init ib outs S)
  (λn f body _ outs _ ik S=>xK call n f body ik outs S)
  (λ_ _ im ik S=>rD im ik S)
  (λl _ ih S=>qo l ih S)
  (λ_=>none)
  x
end
def methodOf (P:Program)(t:TypeId)(v:AV)(name:String):Option (FuncId×AV):=
 match P.info? t with
 |some i=>match i.methods.find? (·.name==name) with
  |some m=>if m.path.isEmpty then
    match m.func,P.underlying t with
    |some (f,true),some (.pointer _)=>some (f,v)
    |some (f,false),some (.pointer _)=>none
    |some (f,false),some _=>some (f,v)
    |_,_=>none
   else none
  |none=>none
 |none=>none
abbrev Table:=FuncId->Option (List AV->AC)
def oneOf:List AV->AV
 |[v]=>v
 |vs=>.dD vs
structure qu where
 v:FuncId->List AV->Option AV
 x:FuncId->Option (List AV->AH->Option (AV×AH))
instance:CoeFun qu (λ_=>FuncId->List AV->Option AV):=⟨qu.v⟩
noncomputable def ck (P:Program)(iP:Table)(kn:qu):Nat->AV->List AV->AH->Option (AV×AH)
 |0,_,_,_=>none
 |n+1,f,args,S=>
  match f with
  |.fn (.func f) first cap=>
   match kn.v f (jq first (jq args cap)) with
   |some v=>some (v,S)
   |none=>match iP f with
    |some b=>match run P (ck P iP kn n) n (b (jq first (jq args cap))) S with
     |some (.ret,vs,S')=>some (oneOf vs,S')
     |_=>none
    |none=>match kn.x f with
     |some g=>g (jq first (jq args cap)) S
     |none=>none
  |.fn (.method name) [] []=>match args with
   |.iface t v::rest=>match methodOf P t v name with
    |some (f,r)=>ck P iP kn n (.fn (.func f) [] []) (r::rest) S
    |none=>none
   |_=>none
  |.yd l=>match S.get l with
   |some (.loop .ready _ m body)=>
    match Nat.beq (bD args) m with
    |true=>match run P (ck P iP kn n) n (body (.yd l::args)) S with
     |some (t,_,S')=>match S'.get l with
      |some (.loop .busy _ m' K9)=>
       match t with
       |.normal=>some (.sc (.bool true),S'.set l (.loop .ready none m' K9))
       |t=>some (.sc (.bool false),S'.set l (.loop .done (some t) m' K9))
      |_=>none
     |none=>none
    |false=>none
   |_=>none
  |_=>none
abbrev Fr:=T AV
def Fr.at (F:Fr)(t:Nat):AV:=(T.get F t).getD .no
def Fr.put (F:Fr)(d:Option Nat)(v:AV):Fr:=match d with
 |some d=>T.set F d v
 |none=>F
def Fr.fz (F:Fr):List Nat->Nat->List AV->Fr
 |[],_,_=>F
 |t::ts,i,vs=>Fr.fz (T.set F t (nth vs i)) ts (i+1) vs
def Fr.outs (F:Fr)(l:List Nat):List AV:=l.map F.at
def Fr.drop (F:Fr):List Nat->Fr
 |[]=>F
 |t::ts=>Fr.drop (T.set F t .no) ts
def Fr.ev (F:Fr):Operand->AV
 |.tmp t=>F.at t
 |.const v=>(sU 50 v).getD .no
 |.global _=>.no
 |.func f=>.fn (.func f) [] []
def eJ (P:Program)(t:TypeId):Option Bool:=
 match P.underlying t with
 |some (.struct _)|some (.array _ _)=>some true
 |some _=>some false
 |none=>none
def aQ (P:Program)(t:TypeId):Option Nat:=(P.info? t).map (·.size)
def h9 (P:Program)(t:TypeId):Option Nat:=(P.info? t).map (·.bytes)
def gN (P:Program)(t:TypeId):Option AV:=
 match P.info? t with
 |some i=>match i.zero with
  |some v=>sU 50 v
  |none=>none
 |none=>none
def eS (P:Program)(t:TypeId):Option (List AV):=
 match gN P t with
 |some z=>if odd z then none else some z.cells
 |none=>none
inductive Den where
 |val (v:AV)
 |op (o:fD)
 |call (f:AV)(args:List AV)
 |bad
def Den.CI:Option Den->Den
 |some d=>d
 |none=>.bad
def partsOf (F:Fr)(place:Nat->Option (Nat×Nat)):List (Nat×Operand)->Option (List (Nat×Nat×AV))
 |[]=>some []
 |(i,x)::r=>match place i,partsOf F place r with
  |some (off,size),some ps=>some ((off,size,F.ev x)::ps)
  |_,_=>none
def b8 (P:Program)(F:Fr)(o:Oper):Den:=Den.CI<|
 match o.op with
 |.move x|.assign x=>some (.val (F.ev x))
 |.pick c a b=>some (.op (.pick (F.ev c) (F.ev a) (F.ev b)))
 |.alloc t=>do return .op (.alloc (<-eS P t))
 |.box _ x=>some (.op (.box (F.ev x)))
 |.build t parts=>do
  let z <-eS P t
  match<-P.underlying t with
  |.struct fields=>do
   let places <-fields.toList.mapM λf=>(P.info? f.type).map λi=>(f.offset,i.size)
   return .op (.build z (<-partsOf F (λi=>places[i]?) parts.toList))
  |.array _ e=>do
   let s <-aQ P e
   return .op (.build z (<-partsOf F (λi=>some (i*s,s)) parts.toList))
  |_=>none
 |.buildSlice t len parts=>do
  match<-P.underlying t with
  |.slice e=>do
   let s <-aQ P e
   let z <-eS P e
   if len*s>16777216 then none else
   return .op (.gK s len z (<-partsOf F (λi=>some (i*s,s)) parts.toList))
  |_=>none
 |.load t a=>do return .op (.load (<-aQ P t) (<-eJ P t) (F.ev a))
 |.store t a x=>do return .op (.store (<-aQ P t) (F.ev a) (F.ev x))
 |.nilCheck x=>some (.op (.pc (F.ev x)))
 |.binOp op t x y _=>do
  match op,<-P.underlying t with
  |.eql,.int _|.eql,.string|.neq,.int _|.neq,.string=>some (.op (.bin op (F.ev x) (F.ev y)))
  |.eql,_=>some (.op (.eq t false (F.ev x) (F.ev y)))
  |.neq,_=>some (.op (.eq t true (F.ev x) (F.ev y)))
  |_,_=>some (.op (.bin op (F.ev x) (F.ev y)))
 |.unOp op _ x=>some (.op (.un op (F.ev x)))
 |.convert src dst x=>do
  match<-P.underlying src,<-P.underlying dst with
  |.int _,.int k=>some (.op (.conv k (F.ev x)))
  |_,_=>none
 |.makeInterface t x=>do
  match<-P.underlying t with
  |.interface _=>none
  |_=>some (.val (.iface t (F.ev x)))
 |.makeFunc (.func f) first cap=>some (.val (.fn (.func f) (first.toList.map F.ev) (cap.toList.map F.ev)))
 |.makeMap t r=>match r with
  |none=>do
   match<-P.underlying t with
   |.map _ _=>some (.op .CA)
   |_=>none
  |some _=>none
 |.makeSlice t l c=>do
  match<-P.underlying t with
  |.slice e=>do return .op (.gL (<-aQ P e) (<-h9 P e) (<-eS P e) (F.ev l) (F.ev c))
  |_=>none
 |.slice t x lo hi mx=>do
  match<-P.underlying t with
  |.array n e=>do return .op (.o_ n (<-aQ P e) (F.ev x) (lo.map F.ev) (hi.map F.ev) (mx.map F.ev))
  |.pointer arr=>do
   match<-P.underlying arr with
   |.array n e=>do return .op (.o_ n (<-aQ P e) (F.ev x) (lo.map F.ev) (hi.map F.ev) (mx.map F.ev))
   |_=>none
  |.slice e=>do return .op (.jM (<-aQ P e) (F.ev x) (lo.map F.ev) (hi.map F.ev) (mx.map F.ev))
  |_=>none
 |.fieldAddr s x f=>do
  match<-P.underlying s with
  |.struct fields=>do
   let fd <-fields[f]?
   let n <-aQ P fd.type
   if n=0 then none else return .op (.lG fd.offset (F.ev x))
  |_=>none
 |.field t x f=>do
  match<-P.underlying t with
  |.struct fields=>do
   let fd <-fields[f]?
   return .op (.part fd.offset (<-aQ P fd.type) (<-eJ P fd.type) (F.ev x))
  |_=>none
 |.indexAddr t x i=>do
  match<-P.underlying t with
  |.array n e=>do return .op (.zf n (<-aQ P e) (F.ev x) (F.ev i))
  |.slice e=>do return .op (.da (<-aQ P e) (F.ev x) (F.ev i))
  |_=>none
 |.index t x i=>do
  match<-P.underlying t with
  |.array n e=>do return .op (.Bk n (<-aQ P e) (<-eJ P e) (F.ev x) (F.ev i))
  |_=>none
 |.lookup t m k ok=>do
  match<-P.underlying t with
  |.map kt e=>do
   let _ <-P.underlying kt
   return .op (.lookup kt ok (<-gN P e) (F.ev m) (F.ev k))
  |_=>none
 |.mapUpdate t m k v|.insert t m k v=>do
  match<-P.underlying t with
  |.map kt _=>do
   let _ <-P.underlying kt
   return .op (.Bl kt (F.ev m) (F.ev k) (F.ev v))
  |_=>none
 |.typeAssert x _ t ok=>do
  match<-P.underlying t with
  |.interface _=>some (.op (.mf t true ok (gN P t) (F.ev x)))
  |_=>some (.op (.mf t false ok (gN P t) (F.ev x)))
 |.extract x i=>some (.op (.extract i (F.ev x)))
 |.call c=>match c.callee with
  |.value f=>some (.call (F.ev f) (c.args.toList.map F.ev))
  |.invoke r m=>some (.call (.fn (.method m) [] []) (F.ev r::c.args.toList.map F.ev))
  |.builtin b=>match b,c.args.toList,c.argTypes.toList with
   |.len,[x],[t]=>do
    match<-P.underlying t with
    |.array n _=>some (.val (.sc (.int .i64 n)))
    |.pointer arr=>do
     match<-P.underlying arr with
     |.array n _=>some (.val (.sc (.int .i64 n)))
     |_=>none
    |.slice _=>some (.op (.len false (F.ev x)))
    |.string=>some (.op (.len true (F.ev x)))
    |_=>none
   |.append,[s,x],[t,u]=>do
    match<-P.underlying t,<-P.underlying u with
    |.slice e,.slice _=>do
     let z <-eS P e
     let n <-aQ P e
     let b <-h9 P e
     if Nat.beq (bD z) n then some (.op (.append n b (F.ev s) (F.ev x))) else none
    |.slice e,.string=>do
     let z <-eS P e
     let n <-aQ P e
     let b <-h9 P e
     if Nat.beq (bD z) n then some (.op (.append n b (F.ev s) (F.ev x))) else none
    |_,_=>none
   |.clear,[x],[t]=>do
    match<-P.underlying t with
    |.slice e=>do return .op (.clear (<-aQ P e) (<-eS P e) (F.ev x))
    |.map _ _=>some (.op (.clear 1 [] (F.ev x)))
    |_=>none
   |.max,xs,_=>some (.op (.pg true (xs.map F.ev)))
   |.min,xs,_=>some (.op (.pg false (xs.map F.ev)))
   |_,_,_=>none
 |_=>none
def a_:Op->Bool
 |.store ..|.mapUpdate ..|.insert ..=>true
 |.call c=>match c.callee with
  |.builtin b=>match b with
   |.append|.copy|.clear|.delete=>true
   |_=>false
  |_=>true
 |_=>false
def tZ (P:Program):Op->Bool
 |.load ..|.lookup ..=>true
 |.call c=>match c.callee with
  |.builtin .len=>match(c.argTypes[0]?).bind P.underlying with
   |some (.map _ _)=>true
   |_=>false
  |_=>false
 |_=>false
inductive Step where
 |exec (i:Nat)
 |lH (i:Nat)
 deriving Inhabited
def Mk (ops:Array Oper):List Nat:=(List.range ops.size).filter λi=>match ops[i]? with|some o=>a_ o.op|none=>false
def CJ (b:Array Nat)(xL:List Nat)(i:Nat):Nat:=(xL.filter λe=>(b.getD i 0).testBit e).length
inductive wM where
 |one (i:Nat)
 |vT (i:Nat)(cs:List Nat)
def flat:List wM->List Step
 |[]=>[]
 |.one i::r=>.exec i::flat r
 |.vT i cs::r=>.exec i::(cs.map .lH++flat r)
def nr (P:Program)(ops:Array Oper)(i:Nat):Bool:=match ops[i]? with|some o=>tZ P o.op|none=>false
def kz (ops:Array Oper)(i:Nat):Bool:=match ops[i]? with|some o=>a_ o.op|none=>false
def zj (P:Program)(ops:Array Oper)(b:Array Nat)(xL:List Nat):Nat->List Nat->List wM
 |k,rest=>
  let now:=(List.range ops.size).filter λi=>!xL.contains i&&CJ b xL i==k
  now.map .one++
  match rest with
  |[]=>[]
  |e::rest=>.vT e ((List.range ops.size).filter λi=>nr P ops i&&Nat.ble (CJ b xL i) k&&!(b.getD e 0).testBit i)::zj P ops b xL (k+1) rest
def FC (x y:Nat):Bool:=Nat.beq (Nat.land x y) x
def looks (ops:Array Oper)(o:Oper):List Nat:=
 o.op.operands.toList.filterMap (λ|.tmp t=>some t|_=>none)++match o.guard with
  |some (j,_)=>((ops[j]?).bind (·.dst)).toList
  |none=>[]
def i5 (ops:Array Oper)(b:Array Nat):Bool:=
 ops.toList.zipIdx.all λ(o,i)=>match o.dst with
  |none=>true
  |some d=>ops.toList.zipIdx.all λ(o',j)=>Nat.beq i j||!((o'.dst.toList++looks ops o').any (Nat.beq d))||(b.getD (max i j) 0).testBit (min i j)
def nt (ops:Array Oper)(b:Array Nat):Bool:=(List.range ops.size).all λi=>Nat.blt (b.getD i 0) (2^i)
def Bp (P:Program)(ops:Array Oper)(b:Array Nat):List wM->Nat->Nat->Bool
 |[],done,_=>(List.range ops.size).all λi=>done.testBit i
 |.one i::r,done,em=>
  Nat.blt i ops.size&&!done.testBit i&&FC (b.getD i 0) done&&FC em (b.getD i 0)&&!kz ops i&&Bp P ops b r (done|||2^i) em
 |.vT i cs::r,done,em=>
  Nat.blt i ops.size&&!done.testBit i&&FC (b.getD i 0) done&&FC em (b.getD i 0)&&kz ops i&&
  ((List.range ops.size).all λk=>!nr P ops k||!done.testBit k||(b.getD i 0).testBit k||cs.any (Nat.beq k))&&Bp P ops b r (done|||2^i) (em|||2^i)
def pn (P:Program)(ops:Array Oper)(draw:Bool):Option (List Step):=
 if draw then
  let b:=Region.before ops
  let xL:=Mk ops
  let p:=zj P ops b xL 0 xL
  if P.follows .mixedOrders&&Bp P ops b p 0 0&&i5 ops b&&nt ops b then some (flat p) else none
 else some ((List.range ops.size).map .exec)
abbrev Reads:=List (Nat×Option (AV×Bool)×fD×AV)
def eT (i:Nat):Reads->Option (Option (AV×Bool)×fD×AV)
 |[]=>none
 |(j,r)::rest=>if Nat.beq j i then some r else eT i rest
def az (P:Program)(ops:Array Oper):List Step->Fr->Reads->(Fr->AC)->AC
 |[],F,_,K=>K F
 |.lH i::rest,F,rs,K=>match eT i rs with
  |some (none,o,v)=>.lH o v (az P ops rest F rs K)
  |some (some (g,b),o,v)=>.Bm g b o v (az P ops rest F rs K)
  |none=>.fail
 |.exec i::rest,F,rs,K=>match ops[i]? with
  |none=>az P ops rest F rs K
  |some o=>match o.guard with
   |none=>match b8 P F o with
    |.val v=>az P ops rest (F.put o.dst v) rs K
    |.op a=>.op a λv=>az P ops rest (F.put o.dst v) ((i,none,a,v)::rs) K
    |.call f args=>.call f args λv=>az P ops rest (F.put o.dst v) rs K
    |.bad=>.fail
   |some (j,b)=>match(ops[j]?).bind (·.dst) with
    |none=>.fail
    |some t=>
     let g:=F.at t
     match b8 P F o with
     |.val v=>.hZ g b (.mv v) λv=>az P ops rest (F.put o.dst v) rs K
     |.op a=>.hZ g b a λv=>az P ops rest (F.put o.dst v) ((i,some (g,b),a,v)::rs) K
     |.call f args=>.dO g b f args λv=>az P ops rest (F.put o.dst v) rs K
     |.bad=>.fail
def Ml (t:Nat)(l:List Nat):List Nat:=if l.contains t then l else t::l
def Mo (vars:List Nat)(ops:Array Oper)(acc:List Nat):List Nat:=
 ops.toList.foldl (λacc o=>match o.dst with|some d=>if vars.contains d then Ml d acc else acc|none=>acc) acc
def pZ (vars:List Nat):Code->List Nat->List Nat
 |.region _ ops _,acc=>Mo vars ops acc
 |.seq a b,acc=>pZ vars b (pZ vars a acc)
 |.cond _ a b,acc=>pZ vars b (pZ vars a acc)
 |.block _ b,acc|.loop b,acc|.scope b,acc=>pZ vars b acc
 |_,acc=>acc
def gJ:Code->List Nat->List Nat
 |.region _ ops _,acc=>ops.toList.foldl (λacc o=>match o.dst with|some d=>d::acc|none=>acc) acc
 |.seq a b,acc=>gJ b (gJ a acc)
 |.cond _ a b,acc=>gJ b (gJ a acc)
 |.block _ b,acc|.loop b,acc|.scope b,acc=>gJ b acc
 |_,acc=>acc
def dead:Code->Bool
 |.ret|.exit _|.goto _=>true
 |.seq a b=>dead a||dead b
 |.cond _ a b=>dead a&&dead b
 |_=>false
def dU:Code->Bool
 |.skip|.label _|.region _ _ _=>true
 |.seq a b=>dU a&&dU b
 |_=>false
def behind (F:Fr)(c:Code)(o:List Nat)(vs:List AV):Fr:=(F.drop (gJ c [])).fz o 0 vs
def t_:Code->Bool
 |.region _ _ _=>true
 |_=>false
def pw (l:Nat):Code->Bool
 |.goto l'=>Nat.beq l l'
 |.seq a b=>pw l a||pw l b
 |.cond _ a b=>pw l a||pw l b
 |.block _ b|.loop b=>pw l b
 |_=>false
mutual
def den (P:Program)(vars:List Nat)(round:Bool)(gt:Option Nat):Code->Fr->List Nat->(Fr->AC)->AC
 |.skip,F,_,K=>K F
 |.label _,F,_,K=>K F
 |.region _ ops draw,F,_,K=>match pn P ops draw with
  |some p=>az P ops p F [] K
  |none=>.fail
 |.seq a b,F,out,K=>den P vars round gt a F out λF1=>den P vars round gt b F1 out K
 |.cond c a b,F,out,K=>
  if dead a||dead b then .ite (F.ev c) (den P vars round gt a F out K) (den P vars round gt b F out K)
  else
   let o:=pZ vars (.cond c a b) []
   .bind (.ite (F.ev c) (den P vars round gt a F o λF1=>.ret .normal (F1.outs o)) (den P vars round gt b F o λF1=>.ret .normal (F1.outs o)))
    none (λvs=>K (behind F (.cond c a b) o vs)) (λvs=>(behind F (.cond c a b) o vs).outs out)
 |.block id c,F,out,K=>
  let o:=pZ vars c []
  .bind (den P vars round gt c F o λF1=>.ret .normal (F1.outs o))
   (some (3*id)) (λvs=>K (behind F c o vs)) (λvs=>(behind F c o vs).outs out)
 |.loop c,F,out,_=>
  let o:=pZ vars c []
  .loop (F.outs o) (λvs=>den P vars round gt c (behind F c o vs) o λF1=>.ret .normal (F1.outs o))
   (λvs=>(behind F c o vs).outs out)
 |.rangeFunc f ps assign body,F,out,K=>
  if round||!(dU assign) then .fail else
  .DP ps.size (F.ev f) (λvs=>den P vars true none assign (F.fz ps.toList 1 vs) [] λF1=>.start (nth vs 0) (den P vars true none body F1 [] λ_=>.ret .normal []))
   (K F) (F.outs out)
 |.exit id,F,out,_=>.ret (.exit (3*id)) (F.outs out)
 |.goto l,F,out,_=>match gt with
  |some l'=>if Nat.beq l' l then .ret (.exit (3*l+1)) (F.outs out) else .fail
  |none=>.fail
 |.ret,F,out,_=>.ret .ret (F.outs out)
 |.scope (.seq r1 (.seq r2 (.seq r3 (.seq (.label l) d)))),F,out,K=>
  if !(pw l d&&t_ r1&&t_ r2&&t_ r3) then den P vars round none (.seq r1 (.seq r2 (.seq r3 (.seq (.label l) d)))) F out K else
  let c:=Code.seq r1 (.seq r2 (.seq r3 (.seq (.label l) d)))
  let o:=pZ vars c []
  .bind (.bind (den P vars round (some l) (.seq r1 (.seq r2 (.seq r3 (.seq (.label l) d)))) F o λF1=>.ret (.exit (3*l+2)) (F1.outs o))
    (some (3*l+1)) (λvs=>den P vars round none d (behind F c o vs) o λF1=>.ret (.exit (3*l+2)) (F1.outs o)) (λvs=>vs))
   (some (3*l+2)) (λvs=>K (behind F c o vs)) (λvs=>(behind F c o vs).outs out)
 |.scope c,F,out,K=>den P vars round none c F out K
 |.refuse _,_,_,_=>.fail
end
def di (P:Program):List ResultVar->Nat->List AV->List AV->AC
 |[],_,_,acc=>.ret .ret acc
 |.tmp _::rs,i,vs,acc=>di P rs (i+1) vs (acc++[nth vs i])
 |.cell _ t::rs,i,vs,acc=>match aQ P t,eJ P t with
  |some n,some g=>.op (.load n g (nth vs i)) λx=>di P rs (i+1) vs (acc++[x])
  |_,_=>.fail
def ResultVar.slot:ResultVar->Nat
 |.tmp t=>t
 |.cell a _=>a
def lJ (ops:Array Oper):Option Call:=match ops.back? with
 |some o=>match o.guard,o.dst with
  |none,none=>match o.op with
   |.defer c=>some c
   |_=>none
  |_,_=>none
 |none=>none
def iG:Code->Option (Array Oper×Call)
 |.region _ ops false=>match lJ ops with
  |some c=>some (ops,c)
  |none=>none
 |_=>none
def fF:Code->Bool
 |.seq a b=>(iG a).isSome||fF b
 |_=>false
def fq (P:Program)(g:FuncId):Bool:=match P.funcs[g]? with
 |some fn=>match fn.body with
  |some c=>!fF c&&Nat.ble fn.params.size 2
  |none=>false
 |none=>false
def fits (n:Nat):Code->Bool
 |.region _ ops _=>ops.toList.all λo=>match o.dst with|some d=>Nat.blt d n|none=>true
 |.seq a b=>fits n a&&fits n b
 |.cond _ a b=>fits n a&&fits n b
 |.block _ b|.loop b|.scope b=>fits n b
 |.rangeFunc _ ps a b=>ps.toList.all (λp=>Nat.blt p n)&&fits n a&&fits n b
 |_=>true
def oI (P:Program)(vars:List Nat)(rs:List ResultVar)(out:List Nat):Code->Fr->AC
 |.seq a b,F=>match iG a with
  |some (ops,c)=>az P ops ((List.range (ops.size-1)).map .exec) F [] λF1=>
   match c.callee with
   |.value f=>match F1.ev f with
    |.fn (.func g) fa fc=>
     if fq P g then .fin (den P vars false none b F1 out λF=>.ret .ret (F.outs out)) λvs=>
      .call (.fn (.func g) fa fc) (c.args.toList.map F1.ev) λ_=>di P rs 0 vs []
     else .fail
    |_=>.fail
   |_=>.fail
  |none=>if dU a then den P vars false none a F [] λF1=>oI P vars rs out b F1 else .fail
 |_,_=>.fail
def ub:ResultVar->Bool
 |.tmp _=>true
 |_=>false
def fU (P:Program)(fn:Func)(vars:List Nat)(args:List AV):AC:=
 match fn.body with
 |none=>.fail
 |some c=>
  if !(fits fn.ntmps c) then .fail else
  let out:=fn.results.toList.map ResultVar.slot
  let F0:=Fr.fz .e (List.range (fn.params.size+fn.nfree)) 0 args
  if fF c then oI P vars fn.results.toList out c F0
  else if fn.results.toList.all ub then den P vars false none c F0 out λF=>.ret .ret (F.outs out)
  else .fin (den P vars false none c F0 out λF=>.ret .ret (F.outs out)) λvs=>di P fn.results.toList 0 vs []
theorem FD (x:Option AO):∀f k,k<f->∀j,gy (vZ x f k) j=if j=k then x else none:=by
 intro f;induction f with
 |zero=>intro k h;omega
 |succ f ih=>
  intro k h j;cases k with
  |zero=>cases j with
   |zero=>rfl
   |succ j=>
    show(Bool.rec (gy .e (Nat.div j 2)) (gy .e (Nat.div j 2)) (Nat.beq (Nat.mod j 2) 0):Option AO)=_;cases Nat.beq (Nat.mod j 2) 0<;>simp<;>rfl
  |succ k=>
   have hk:k/2<f:=am;have QJ:=ih (k/2) hk;show gy (Bool.rec (motive:=λ_=>T AO) (.n .e none (vZ x f (Nat.div k 2))) (.n (vZ x f (Nat.div k 2)) none .e) (Nat.beq (Nat.mod k 2) 0)) j=_;cases j with
   |zero=>cases Nat.beq (Nat.mod k 2) 0<;>simp<;>rfl
   |succ j=>
    have e1:(Nat.beq (Nat.mod k 2) 0=true)↔k%2=0:=Nat.beq_eq▸Iff.rfl;have e2:(Nat.beq (Nat.mod j 2) 0=true)↔j%2=0:=Nat.beq_eq▸Iff.rfl;cases hb:Nat.beq (Nat.mod k 2) 0<;>cases hc:Nat.beq (Nat.mod j 2) 0
    .show(Bool.rec (gy (vZ x f (Nat.div k 2)) (Nat.div j 2)) (gy .e (Nat.div j 2)) (Nat.beq (Nat.mod j 2) 0):Option AO)=_;rw[hc];show gy (vZ x f (k/2)) (j/2)=_;rw[QJ];have:k%2≠0:=λh=>by rw[e1.2 h] at hb;cases hb
     have:j%2≠0:=λh=>by rw[e2.2 h] at hc;cases hc
     by_cases h2:j/2=k/2;.rw[if_pos h2,if_pos am]
     .rw[if_neg h2,if_neg am]
    .show(Bool.rec (gy (vZ x f (Nat.div k 2)) (Nat.div j 2)) (gy .e (Nat.div j 2)) (Nat.beq (Nat.mod j 2) 0):Option AO)=_;rw[hc];have:k%2≠0:=λh=>by rw[e1.2 h] at hb;cases hb
     have:=e2.1 hc;rw[if_neg am];rfl
    .show(Bool.rec (gy .e (Nat.div j 2)) (gy (vZ x f (Nat.div k 2)) (Nat.div j 2)) (Nat.beq (Nat.mod j 2) 0):Option AO)=_;rw[hc];have:=e1.1 hb;have:j%2≠0:=λh=>by rw[e2.2 h] at hc;cases hc
     rw[if_neg am];rfl
    .show(Bool.rec (gy .e (Nat.div j 2)) (gy (vZ x f (Nat.div k 2)) (Nat.div j 2)) (Nat.beq (Nat.mod j 2) 0):Option AO)=_;rw[hc];show gy (vZ x f (k/2)) (j/2)=_;rw[QJ];have:=e1.1 hb;have:=e2.1 hc;by_cases h2:j/2=k/2;.rw[if_pos h2,if_pos am]
     .rw[if_neg h2,if_neg am]
theorem jD (l:T AO)(v:Option AO)(r:T AO)(j:Nat):gy (.n l v r) (j+1)=if j%2=0 then gy l (j/2) else gy r (j/2):=by
 show(Bool.rec (gy r (Nat.div j 2)) (gy l (Nat.div j 2)) (Nat.beq (Nat.mod j 2) 0):Option AO)=_;have e:(Nat.beq (Nat.mod j 2) 0=true)↔j%2=0:=Nat.beq_eq▸Iff.rfl;cases hc:Nat.beq (Nat.mod j 2) 0;.rw[if_neg (λh=>by rw[e.2 h] at hc;cases hc)];rfl
 .rw[if_pos (e.1 hc)];rfl
theorem uc (x:Option AO):∀(t:T AO) (k j:Nat),gy (DR x t k) j=if j=k then x else gy t j:=by
 intro t;induction t with
 |e=>intro k j;exact FD x (k+1) k am j
 |n l v r il ir=>
  intro k j;cases k with
  |zero=>
   show gy (.n l x r) j=_;cases j with
   |zero=>rfl
   |succ j=>rw[jD,jD,if_neg (by omega:¬j+1=0)]
  |succ k=>
   show gy (Bool.rec (motive:=λ_=>T AO) (.n l v (DR x r (Nat.div k 2))) (.n (DR x l (Nat.div k 2)) v r) (Nat.beq (Nat.mod k 2) 0)) j=_;have e:(Nat.beq (Nat.mod k 2) 0=true)↔k%2=0:=Nat.beq_eq▸Iff.rfl;cases hc:Nat.beq (Nat.mod k 2) 0
   .have hk:k%2≠0:=λh=>by rw[e.2 h] at hc;cases hc
    show gy (.n l v (DR x r (k/2))) j=_;cases j with
    |zero=>rfl
    |succ j=>
     rw[jD,jD];by_cases hj:j%2=0;.rw[if_pos hj,if_pos hj,if_neg am]
     .rw[if_neg hj,if_neg hj,ir];by_cases h2:j/2=k/2;.rw[if_pos h2,if_pos am]
      .rw[if_neg h2,if_neg am]
   .have hk:=e.1 hc;show gy (.n (DR x l (k/2)) v r) j=_;cases j with
    |zero=>rfl
    |succ j=>
     rw[jD,jD];by_cases hj:j%2=0
     .rw[if_pos hj,if_pos hj,il];by_cases h2:j/2=k/2;.rw[if_pos h2,if_pos am]
      .rw[if_neg h2,if_neg am]
     .rw[if_neg hj,if_neg hj,if_neg am]
theorem AH.db (S:AH)(i j:Nat)(o:AO):(S.set i o).get j=if j=i then some o else S.get j:=uc _ _ _ _
theorem AH.gO (S:AH)(i j:Nat):(S.kill i).get j=if j=i then none else S.get j:=uc _ _ _ _
theorem AH.cg (S:AH)(j:Nat)(o:AO):(S.new o).get j=if j=S.next then some o else S.get j:=uc _ _ _ _
@[simp] theorem AH.QK (S:AH) (i:Nat) (o:AO):(S.set i o).next=S.next:=rfl
@[simp] theorem AH.PU (S:AH) (i:Nat):(S.kill i).next=S.next:=rfl
@[simp] theorem AH.QL (S:AH) (o:AO):(S.new o).next=S.next+1:=rfl
namespace T
variable{α:Type}
theorem FE:∀(f:Nat) (t:T α) (k:Nat) (x:Option α),k<f->∀j,(qd f t k x).get j=if j=k then x else t.get j:=by
 intro f;induction f with
 |zero=>intro t k x h;omega
 |succ f ih=>
  intro t k x h j;have eb:∀m:Nat,(Nat.beq (Nat.mod m 2) 0=true)↔m%2=0:=λm=>Nat.beq_eq▸Iff.rfl;cases t with
  |e=>
   cases k with
   |zero=>cases j with
    |zero=>rfl
    |succ j=>simp only[qd,get];split<;>simp
   |succ k=>
    have hk:k/2<f:=am;have QJ:=ih .e (k/2) x hk;simp only[qd];by_cases hp:k%2=0
    .rw[if_pos ((eb k).2 hp)];cases j with
     |zero=>simp[get]
     |succ j=>
      simp only[get];by_cases hq:j%2=0
      .rw[if_pos ((eb j).2 hq)];show(qd f T.e (k/2) x).get (j/2)=_;rw[QJ];by_cases h2:j/2=k/2;.rw[if_pos h2,if_pos am]
       .rw[if_neg h2,if_neg am];rfl
      .rw[if_neg (λh=>hq ((eb j).1 h)),if_neg am]
    .rw[if_neg (λh=>hp ((eb k).1 h))];cases j with
     |zero=>simp[get]
     |succ j=>
      simp only[get];by_cases hq:j%2=0;.rw[if_pos ((eb j).2 hq),if_neg am]
      .rw[if_neg (λh=>hq ((eb j).1 h))];show(qd f T.e (k/2) x).get (j/2)=_;rw[QJ];by_cases h2:j/2=k/2;.rw[if_pos h2,if_pos am]
       .rw[if_neg h2,if_neg am];rfl
  |n l v r=>
   cases k with
   |zero=>cases j with
    |zero=>rfl
    |succ j=>simp only[qd,get];simp
   |succ k=>
    have hk:k/2<f:=am;simp only[qd];by_cases hp:k%2=0
    .rw[if_pos ((eb k).2 hp)];cases j with
     |zero=>simp[get]
     |succ j=>
      simp only[get];by_cases hq:j%2=0
      .rw[if_pos ((eb j).2 hq),if_pos ((eb j).2 hq)];show(qd f l (k/2) x).get (j/2)=_;rw[ih l (k/2) x hk];by_cases h2:j/2=k/2;.rw[if_pos h2,if_pos am]
       .rw[if_neg h2,if_neg am];rfl
      .rw[if_neg (λh=>hq ((eb j).1 h)),if_neg (λh=>hq ((eb j).1 h)),if_neg am]
    .rw[if_neg (λh=>hp ((eb k).1 h))];cases j with
     |zero=>simp[get]
     |succ j=>
      simp only[get];by_cases hq:j%2=0;.rw[if_pos ((eb j).2 hq),if_pos ((eb j).2 hq),if_neg am]
      .rw[if_neg (λh=>hq ((eb j).1 h)),if_neg (λh=>hq ((eb j).1 h))];show(qd f r (k/2) x).get (j/2)=_;rw[ih r (k/2) x hk];by_cases h2:j/2=k/2;.rw[if_pos h2,if_pos am]
       .rw[if_neg h2,if_neg am];rfl
theorem db (t:T α)(k:Nat)(x:α)(j:Nat):(t.set k x).get j=if j=k then some x else t.get j:=FE (k+1) t k (some x) am j
end T
theorem og:∀(l:List AV) (i:Nat),zi l i=l[i]?
 |[],i=>by simp;rfl
 |v::r,0=>rfl
 |v::r,i+1=>by show zi r i=_;rw[og r i];simp
theorem dV:∀(n:Nat) (l:List AV),kr n l=l.drop n
 |0,l=>rfl
 |n+1,[]=>rfl
 |n+1,v::r=>by show kr n r=_;rw[dV n r];rfl
theorem dF:∀(n:Nat) (l:List AV),ku n l=l.take n
 |0,l=>rfl
 |n+1,[]=>rfl
 |n+1,v::r=>by show v::ku n r=_;rw[dF n r];rfl
theorem aS:∀(l:List AV),bD l=l.length
 |[]=>rfl
 |v::r=>by show Nat.succ (bD r)=_;rw[aS r];rfl
theorem ft:∀(a b:List AV),jq a b=a++b
 |[],b=>rfl
 |v::r,b=>by show v::jq r b=_;rw[ft r b];rfl
theorem bM (c:List AV)(off:Nat)(vs:List AV):aH c off vs=c.take off++(vs++c.drop (off+vs.length)):=by simp[aH,ft,dF,dV,aS]
theorem FG:∀(l:List AV) (i:Nat),nth l i=(l[i]?).getD .no
 |[],i=>by simp[nth]
 |v::r,0=>by simp[nth]
 |v::r,i+1=>by simp[nth,FG r i]
theorem h_ {x:AV}{k:IntKind}{n:Int}(h:asInt x=some (k,n)):x=.sc (.int k n):=by
 cases x<;>first|(cases h;done)|skip
 rename_i v;cases v<;>first|(cases h;done)|(cases h;rfl)
@[simp] theorem PV (k:IntKind) (n:Int):asInt (.sc (.int k n))=some (k,n):=rfl
theorem kA {x:AV}{b:Bool}(h:asBool x=some b):x=.sc (.bool b):=by
 cases x<;>first|(cases h;done)|skip
 rename_i v;cases v<;>first|(cases h;done)|(cases h;rfl)
@[simp] theorem K_ (b:Bool):asBool (.sc (.bool b))=some b:=rfl
theorem gz {x:AV}{i o:Nat}(h:iN x=some (i,o)):x=.ptr i o:=by
 cases x<;>first|(cases h;done)|(cases h;rfl)
@[simp] theorem PW (i o:Nat):iN (.ptr i o)=some (i,o):=rfl
theorem ud {x:AV}{l:List AV}(h:asAgg x=some l):x=.agg l:=by
 cases x<;>first|(cases h;done)|(cases h;rfl)
@[simp] theorem PX (l:List AV):asAgg (.agg l)=some l:=rfl
theorem Bq {x:AV}{l:List AV}(h:CB x=some l):x=.dD l:=by
 cases x<;>first|(cases h;done)|(cases h;rfl)
@[simp] theorem PY (l:List AV):CB (.dD l)=some l:=rfl
theorem FH (x:AV):x.cells=match x with|.agg cs=>cs|v=>[v]:=by cases x<;>rfl
theorem xM (x:AV):odd x=match x with|.no|.dD _=>true|_=>false:=by cases x<;>rfl
theorem Br {o:AO}{l:List AV}(h:K6 o=some l):o=.row l:=by
 cases o<;>first|(cases h;done)|(cases h;rfl)
theorem xN {o:AO}{l:List AV}(h:CC o=some l):o=.row l\/o=.ro l:=by
 cases o<;>first|(cases h;done)|(cases h;first|exact .inl rfl|exact .inr rfl)
theorem Bs (j k:IntKind):nh j k=true↔j=k:=by
 cases j<;>cases k<;>decide
theorem nu {j k:IntKind}(h:nh j k=true):j=k:=(Bs j k).1 h
theorem f_ (a b:Int):DS a b=decide (a<b):=by
 have h:∀m n:Nat,Nat.ble (Nat.succ m) n=decide (m<n):=λm n=>by rw[Bool.eq_iff_iff,Nat.ble_eq,decide_eq_true_iff];exact Iff.rfl
 cases a with
 |ofNat a=>cases b with
  |ofNat b=>show Nat.ble (Nat.succ a) b=_;rw[h,Bool.eq_iff_iff];simp
  |negSucc b=>show false=_;symm;rw[decide_eq_false_iff_not];simp only[Int.negSucc_eq,Int.ofNat_eq_natCast];omega
 |negSucc a=>cases b with
  |ofNat b=>show true=_;symm;rw[decide_eq_true_iff];simp only[Int.negSucc_eq,Int.ofNat_eq_natCast];omega
  |negSucc b=>show Nat.ble (Nat.succ b) a=_;rw[h,Bool.eq_iff_iff,decide_eq_true_iff,decide_eq_true_iff];simp only[Int.negSucc_eq];omega
theorem gP (a b:Int):IY a b=(a==b):=by
 have h:∀m n:Nat,Nat.beq m n=decide (m=n):=λm n=>by rw[Bool.eq_iff_iff,Nat.beq_eq,decide_eq_true_iff]
 cases a with
 |ofNat a=>cases b with
  |ofNat b=>show Nat.beq a b=_;rw[h,Bool.eq_iff_iff];simp;omega
  |negSucc b=>show false=_;symm;rw[beq_eq_false_iff_ne];simp
 |negSucc a=>cases b with
  |ofNat b=>show false=_;symm;rw[beq_eq_false_iff_ne];simp
  |negSucc b=>show Nat.beq a b=_;rw[h,Bool.eq_iff_iff];simp
theorem xO (k:IntKind)(a:Nat)(hle:a<=Fx k):k.wrap (Int.ofNat a)=Int.ofNat a:=by
 have hm:(Int.ofNat a)%(2^k.bits:Int)=Int.ofNat a:=by
  cases k<;>(simp only[IntKind.bits,Int.ofNat_eq_natCast];refine Int.emod_eq_of_lt am ?_)<;>(have:a<=_:=hle;simp only[Fx] at this;omega)
 have hs:(k.signed&&decide (Int.ofNat a≥(2^(k.bits-1):Int)))=false:=by
  clear hm;cases k<;>first|rfl|(show decide _=false;refine decide_eq_false ?_;have:a<=_:=hle;simp only[Fx] at this;simp only[IntKind.bits,Int.ofNat_eq_natCast];omega)
 unfold IntKind.wrap;simp only[hm,hs];simp
theorem bw (k:IntKind)(n:Int):fT k n=k.wrap n:=by
 cases n with
 |negSucc a=>rfl
 |ofNat a=>
  simp only[fT];cases h:Nat.ble a (Fx k) with
  |false=>rfl
  |true=>exact(xO k a (Nat.le_of_ble_eq_true h)).symm
theorem DV {n:Int}{a:Nat}(h:nat? n=some a):n=a:=by cases n<;>simp[nat?] at h;simp[h]
theorem lK {i:AV}{n a:Nat}(h:nj i n=some a):∃k,i=.sc (.int k (a:Int))/\a<n:=by
 unfold nj at h;cases hi:asInt i with
 |none=>simp[hi] at h
 |some kn=>
  obtain⟨k,m⟩:=kn;simp only[hi] at h;cases hm:nat? m with
  |none=>simp[hm] at h
  |some b=>
   simp only[hm,below] at h;cases hb:Nat.ble (Nat.succ b) n with
   |false=>simp[hb] at h
   |true=>simp only[hb,Option.some.injEq] at h;subst h;have:=DV hm;subst this;exact⟨k,h_ hi,Nat.le_of_ble_eq_true hb⟩
theorem wN {i:AV}{n a:Nat}(h:Ja i n=some a):∃k,i=.sc (.int k (a:Int))/\a<=n:=by obtain⟨k,e,h⟩:=lK h;exact⟨k,e,Nat.le_of_lt_succ h⟩
section
class kg where
 val:Nat->Value
 one:∀i,(val i).oneCell'=true
instance(priority:=low) kg.none:kg:=⟨λ_=>.bool true,λ_=>rfl⟩
variable[kg]
abbrev Ren:=Nat->Option (Nat×Nat×Nat)
def Ren.le (ρ aT:Ren):Prop:=∀id x,ρ id=some x->aT id=some x
theorem Ren.le_refl (ρ:Ren):ρ.le ρ:=λ_ _ h=>h
theorem Ren.le_trans {a b c:Ren}(h:a.le b)(k:b.le c):a.le c:=λ_ _ x=>k _ _ (h _ _ x)
def Ren.put (ρ:Ren)(i:Nat)(x:Nat×Nat×Nat):Ren:=λj=>if j=i then some x else ρ j
theorem Ren.kU {ρ:Ren}{i:Nat}{x:Nat×Nat×Nat}(h:ρ i=none):ρ.le (ρ.put i x):=by
 intro j y hy;unfold Ren.put;split;.next e=>subst e;rw[h] at hy;cases hy
 .exact hy
@[simp] theorem Ren.bG (ρ:Ren) (i:Nat) (x:Nat×Nat×Nat):ρ.put i x i=some x:=by simp[Ren.put]
theorem Ren.aK (ρ:Ren){i j:Nat}(x:Nat×Nat×Nat)(h:j≠i):ρ.put i x j=ρ j:=by simp[Ren.put,h]
def FI:Fn->Bool
 |.func _|.method _=>true
 |_=>false
mutual
inductive V (ρ:Ren):AV->Value->Prop
 |sc {v:Value}(h:scalar v=true):V ρ (.sc v) v
 |ptr {id b o l off:Nat}(h:ρ id=some (b,o,l)):V ρ (.ptr id off) (.pointer (some ⟨b,o+off,none⟩))
 |sl {id b o l off len cap:Nat}(h:ρ id=some (b,o,l)):V ρ (.sl id off len cap) (.slice (some ⟨b,o+off,none⟩) len cap)
 |op {id b o l off len dq cap es:Nat}(h:ρ id=some (b,o,l))(h0:len<=dq)(h1:dq<=cap)(h2:o+off+cap*es<=l):
   V ρ (.op id off len dq es) (.slice (some ⟨b,o+off,none⟩) len cap)
 |za {id b o l off x es:Nat}(h:ρ id=some (b,o,l)):V ρ (.op id off 0 0 es) (.slice (some ⟨b,x,none⟩) 0 0)
 |map {id b o l:Nat}(h:ρ id=some (b,o,l)):V ρ (.map id) (.map (some b))
 |fn {f:Fn}{a c:List AV}{a' c':List Value}(hf:FI f=true)(h1:VL ρ a a')(h2:VL ρ c c'):V ρ (.fn f a c) (.func f a'.toArray c'.toArray)
 |yd {id b o l:Nat}(h:ρ id=some (b,o,l)):V ρ (.yd id) (.func (.yield b) #[] #[])
 |iface {t:TypeId}{v:AV}{x:Value}(h:V ρ v x):V ρ (.iface t v) (.iface t x)
 |agg {cs:List AV}{xs:List Value}(h:VL ρ cs xs)(h1:∀x∈xs,x.oneCell'=true):V ρ (.agg cs) (.agg xs.toArray)
 |dD {cs:List AV}{xs:List Value}(h:VL ρ cs xs):V ρ (.dD cs) (.tuple xs.toArray)
 |no {x:Value}:V ρ .no x
 |tok {i:Nat}:V ρ (.tok i) (kg.val i)
inductive VL (ρ:Ren):List AV->List Value->Prop
 |nil:VL ρ [] []
 |cons {v:AV}{x:Value}{vs:List AV}{xs:List Value}(h:V ρ v x)(r:VL ρ vs xs):VL ρ (v::vs) (x::xs)
end
mutual
theorem V.mono {ρ aT:Ren}(hl:ρ.le aT):∀{v:AV} {x:Value},V ρ v x->V aT v x
 |_,_,.sc h=>.sc h
 |_,_,.ptr h=>.ptr (hl _ _ h)
 |_,_,.sl h=>.sl (hl _ _ h)
 |_,_,.op h h0 h1 h2=>.op (hl _ _ h) h0 h1 h2
 |_,_,.za h=>.za (hl _ _ h)
 |_,_,.map h=>.map (hl _ _ h)
 |_,_,.fn hf h1 h2=>.fn hf (VL.mono hl h1) (VL.mono hl h2)
 |_,_,.yd h=>.yd (hl _ _ h)
 |_,_,.iface h=>.iface (V.mono hl h)
 |_,_,.agg h h1=>.agg (VL.mono hl h) h1
 |_,_,.dD h=>.dD (VL.mono hl h)
 |_,_,.no=>.no
 |_,_,.tok=>.tok
theorem VL.mono {ρ aT:Ren}(hl:ρ.le aT):∀{v:List AV} {x:List Value},VL ρ v x->VL aT v x
 |_,_,.nil=>.nil
 |_,_,.cons h r=>.cons (V.mono hl h) (VL.mono hl r)
end
theorem VL.length {ρ:Ren}:∀{a:List AV} {b:List Value},VL ρ a b->a.length=b.length
 |_,_,.nil=>rfl
 |_,_,.cons _ r=>by simp[VL.length r]
theorem VL.get {ρ:Ren}:∀{a:List AV} {b:List Value},VL ρ a b->∀{i:Nat} {v:AV},a[i]?=some v->∃x,b[i]?=some x/\V ρ v x
 |_,_,.nil,i,v,h=>by simp at h
 |_,_,.cons h r,0,v,e=>by simp at e;subst e;exact⟨_,rfl,h⟩
 |_,_,.cons h r,i+1,v,e=>by simp at e;obtain⟨x,e1,e2⟩:=VL.get r e;exact⟨x,by simpa using e1,e2⟩
theorem VL.xP {ρ:Ren}:∀{a:List AV} {b:List Value},a.length=b.length->(∀(i:Nat) (v:AV) (x:Value),a[i]?=some v->b[i]?=some x->V ρ v x)->VL ρ a b
 |[],[],_,_=>.nil
 |[],_::_,h,_=>by simp at h
 |_::_,[],h,_=>by simp at h
 |v::a,x::b,h,g=>.cons (g 0 v x rfl rfl) (VL.xP (by simpa using h) λi v x h1 h2=>g (i+1) v x (by simpa using h1) (by simpa using h2))
theorem VL.append {ρ:Ren}:∀{a:List AV} {b:List Value} {c:List AV} {d:List Value},VL ρ a b->VL ρ c d->VL ρ (a++c) (b++d)
 |_,_,_,_,.nil,k=>k
 |_,_,_,_,.cons h r,k=>.cons h (VL.append r k)
theorem VL.take {ρ:Ren}:∀(n:Nat) {a:List AV} {b:List Value},VL ρ a b->VL ρ (a.take n) (b.take n)
 |0,_,_,_=>by simpa using VL.nil
 |n+1,_,_,.nil=>.nil
 |n+1,_,_,.cons h r=>.cons h (VL.take n r)
theorem VL.drop {ρ:Ren}:∀(n:Nat) {a:List AV} {b:List Value},VL ρ a b->VL ρ (a.drop n) (b.drop n)
 |0,_,_,h=>h
 |n+1,_,_,.nil=>.nil
 |n+1,_,_,.cons h r=>VL.drop n r
theorem VL.nth {ρ:Ren}{a:List AV}{b:List Value}(h:VL ρ a b)(i:Nat)(d:Value):V ρ (nth a i) (b.getD i d):=by
 rw[FG];cases e:a[i]? with
 |none=>exact .no
 |some v=>obtain⟨x,e1,e2⟩:=h.get e;simpa[List.getD,e1] using e2
theorem V.fu {ρ:Ren}{k:IntKind}{n:Int}{x:Value}(h:V ρ (.sc (.int k n)) x):x=.int k n:=by cases h;rfl
theorem V.zk {ρ:Ren}{b:Bool}{x:Value}(h:V ρ (.sc (.bool b)) x):x=.bool b:=by cases h;rfl
theorem V.fh {ρ:Ren}{v x:Value}(h:V ρ (.sc v) x):x=v/\scalar v=true:=by cases h with|sc h=>exact⟨rfl,h⟩
theorem V.kB {ρ:Ren}{i off:Nat}{x:Value}(h:V ρ (.ptr i off) x):∃b o l,ρ i=some (b,o,l)/\x=.pointer (some ⟨b,o+off,none⟩):=by
 cases h with|ptr h=>exact⟨_,_,_,h,rfl⟩
theorem V.xQ {ρ:Ren}{cs:List AV}{x:Value}(h:V ρ (.agg cs) x):∃xs:List Value,x=.agg xs.toArray/\VL ρ cs xs/\∀x∈xs,x.oneCell'=true:=by
 cases h with|agg h h1=>exact⟨_,rfl,h,h1⟩
theorem V.Jc {ρ:Ren}{cs:List AV}{x:Value}(h:V ρ (.dD cs) x):∃xs:List Value,x=.tuple xs.toArray/\VL ρ cs xs:=by
 cases h with|dD h=>exact⟨_,rfl,h⟩
theorem V.bool (ρ:Ren)(b:Bool):V ρ (.sc (.bool b)) (.bool b):=.sc rfl
theorem V.int (ρ:Ren)(k:IntKind)(n:Int):V ρ (.sc (.int k n)) (.int k n):=.sc rfl
theorem V.uv (ρ:Ren):V ρ uv undef:=.dD .nil
theorem V.one {ρ:Ren}{v:AV}{x:Value}(h:V ρ v x)(ho:odd v=false)(ha:∀cs,v≠.agg cs):x.oneCell'=true:=by
 cases h with
 |sc h=>cases x<;>first|rfl|(simp[scalar] at h)
 |agg h h1=>exact absurd rfl (ha _)
 |dD h=>rw[xM] at ho;cases ho
 |no=>rw[xM] at ho;cases ho
 |tok=>exact kg.one _
 |_=>rfl
theorem V.xR {ρ:Ren}{v:AV}{x:Value}(h:V ρ v x)(ho:odd v=false):VL ρ v.cells x.cells.toList/\∀y∈x.cells.toList,y.oneCell'=true:=by
 rw[FH];cases h with
 |agg h h1=>exact⟨by simpa[Value.cells] using h,by simpa[Value.cells] using h1⟩
 |dD h=>rw[xM] at ho;cases ho
 |no=>rw[xM] at ho;cases ho
 |sc h=>
  have h1:=V.one (ρ:=ρ) (.sc h) rfl ac;have hc:x.cells=#[x]:=by cases x<;>first|rfl|(simp[scalar] at h)
  rw[hc];exact⟨.cons (.sc h) .nil,by simpa using h1⟩
 |ptr h=>exact⟨.cons (.ptr h) .nil,by simp[Value.cells,Value.oneCell']⟩
 |sl h=>exact⟨.cons (.sl h) .nil,by simp[Value.cells,Value.oneCell']⟩
 |op h z a b=>exact⟨.cons (.op h z a b) .nil,by simp[Value.cells,Value.oneCell']⟩
 |za h=>exact⟨.cons (.za h) .nil,by simp[Value.cells,Value.oneCell']⟩
 |map h=>exact⟨.cons (.map h) .nil,by simp[Value.cells,Value.oneCell']⟩
 |fn hf a b=>exact⟨.cons (.fn hf a b) .nil,by simp[Value.cells,Value.oneCell']⟩
 |yd h=>exact⟨.cons (.yd h) .nil,by simp[Value.cells,Value.oneCell']⟩
 |iface h=>exact⟨.cons (.iface h) .nil,by simp[Value.cells,Value.oneCell']⟩
 |@tok i=>
  have h1:=kg.one i;have h2:V ρ (.tok i) (kg.val i):=.tok;generalize kg.val i=x at h1 h2⊢;have hc:x.cells=#[x]:=by cases x<;>first|rfl|(simp[Value.oneCell'] at h1)
  rw[hc];exact⟨.cons h2 .nil,by simpa using h1⟩
theorem jO {ρ:Ren}{f:Value->Option AV}(hf:∀v a,f v=some a->V ρ a v):∀{l:List Value} {as:List AV},qe f l=some as->VL ρ as l
 |[],as,h=>by simp[qe] at h;subst h;exact .nil
 |v::r,as,h=>by
  simp only[qe] at h;cases h1:f v with
  |none=>simp[h1] at h
  |some a=>
   cases h2:qe f r with
   |none=>simp[h1,h2] at h
   |some b=>simp[h1,h2] at h;subst h;exact .cons (hf _ _ h1) (jO hf h2)
theorem zl {ρ:Ren}{f:Value->Option AV}(hf:∀v a,f v=some a->V ρ a v):∀{l:List Value} {as:List AV},qe (λv=>one? (f v)) l=some as->∀x∈l,x.oneCell'=true
 |[],as,h,x,hx=>by simp at hx
 |v::r,as,h,x,hx=>by
  simp only[qe] at h;cases h1:one? (f v) with
  |none=>simp[h1] at h
  |some a=>
   cases h2:qe (λv=>one? (f v)) r with
   |none=>simp[h1,h2] at h
   |some b=>
    rcases List.mem_cons.1 hx with rfl|hx
    .cases h3:f x with
     |none=>rw[h3] at h1;simp[one?] at h1
     |some c=>
      rw[h3] at h1;have hv:=hf _ _ h3;refine hv.one ?_ ?_;.cases c<;>first|rfl|(simp[one?] at h1)
      .intro cs e;subst e;simp[one?] at h1
    .exact zl hf h2 x hx
theorem DW {o:Option AV}{a:AV}(h:one? o=some a):o=some a:=by
 unfold one? at h;split at h<;>first|(cases h;done)|exact h
theorem lM {ρ:Ren}:∀{n:Nat} {v:Value} {a:AV},sU n v=some a->V ρ a v:=by
 intro n;induction n with
 |zero=>intro v a h;simp[sU] at h
 |succ n ih=>
  intro v a h;cases v with
  |agg cs=>
   simp only[sU,Option.map_eq_some_iff] at h;obtain⟨l,hl,rfl⟩:=h;have h1:=jO (ρ:=ρ) (f:=λv=>one? (sU n v)) (λv a h=>ih (DW h)) hl;have h2:=zl (ρ:=ρ) (f:=sU n) (λv a h=>ih h) hl;have:=V.agg h1 h2;simpa using this
  |tuple cs=>
   simp only[sU,Option.map_eq_some_iff] at h;obtain⟨l,hl,rfl⟩:=h;have:=V.dD (jO (ρ:=ρ) (λv a h=>ih h) hl);simpa using this
  |iface t v=>
   simp only[sU,Option.map_eq_some_iff] at h;obtain⟨x,hx,rfl⟩:=h;exact .iface (ih hx)
  |func f a b=>
   cases f with
   |func f=>
    simp only[sU] at h;cases h1:qe (sU n) a.toList with
    |none=>simp[h1] at h
    |some a'=>
     cases h2:qe (sU n) b.toList with
     |none=>simp[h1,h2] at h
     |some b'=>
      simp[h1,h2] at h;subst h;have:=V.fn (ρ:=ρ) (f:=.func f) rfl (jO (λv a h=>ih h) h1) (jO (λv a h=>ih h) h2);simpa using this
   |_=>simp[sU,scalar] at h
  |_=>simp only[sU] at h;split at h<;>first|(cases h;done)|(next hs=>cases h;exact .sc hs)
mutual
theorem jE {ρ:Ren}:∀{a:AV} {v x:Value},sk a=some v->V ρ a x->x=v
 |.sc u,v,x,h,hv=>by simp[sk] at h;rw[<-h];exact hv.fh.1
 |.agg cs,v,x,h,hv=>by
  simp only[sk,Option.map_eq_some_iff] at h;obtain⟨l,hl,rfl⟩:=h;obtain⟨xs,rfl,h1,_⟩:=hv.xQ;rw[ue hl h1]
 |.iface t u,v,x,h,hv=>by
  simp only[sk,Option.map_eq_some_iff] at h;obtain⟨l,hl,rfl⟩:=h;cases hv with|iface hv=>rw[jE hl hv]
 |.ptr ..,v,x,h,hv=>by simp[sk] at h
 |.sl ..,v,x,h,hv=>by simp[sk] at h
 |.op ..,v,x,h,hv=>by simp[sk] at h
 |.map ..,v,x,h,hv=>by simp[sk] at h
 |.fn ..,v,x,h,hv=>by simp[sk] at h
 |.yd ..,v,x,h,hv=>by simp[sk] at h
 |.dD ..,v,x,h,hv=>by simp[sk] at h
 |.no,v,x,h,hv=>by simp[sk] at h
theorem ue {ρ:Ren}:∀{a:List AV} {v x:List Value},sV a=some v->VL ρ a x->x=v
 |[],v,x,h,hv=>by simp[sV] at h;cases hv;exact h.symm▸rfl
 |a::r,v,x,h,hv=>by
  simp only[sV] at h;cases h1:sk a with
  |none=>simp[h1] at h
  |some b=>
   cases h2:sV r with
   |none=>simp[h1,h2] at h
   |some c=>
    simp[h1,h2] at h;subst h;cases hv with|cons hv hr=>rw[jE h1 hv,ue h2 hr]
end
theorem gh {α:Type}{P:Program}:∀{s:Sem α} {a:α},br P s=some a->∀w,s.run P w=.ok a w:=by
 intro s;induction s with
 |pure a=>intro b h w;simp[br] at h;subst h;rfl
 |program k ih=>intro b h w;exact ih P h w
 |mark m k ih=>intro b h w;exact ih h w
 |_=>intro b h w;simp[br] at h
end
section
variable[kg]
def px:AO->Bool
 |.ro _=>true
 |_=>false
def FR (ρ:Ren)(F:Fr)(tmps:Array Value):Prop:=∀t,V ρ (F.at t) (tmps.getD t undef)
def La:Option Tag->Option Code->Prop
 |none,none=>True
 |some .ret,some .ret=>True
 |some (.exit i),some (.exit j)=>i=3*j
 |_,_=>False
def FJ (P:Program)(ρ:Ren)(r:Loop)(body:List AV->AC):Prop:=
 ∃(F:Fr) (vars:List Nat),FR ρ F r.tmps/\dU r.assign=true/\fits r.tmps.size r.assign=true/\fits r.tmps.size r.body=true/\(∀p∈r.params.toList,p<r.tmps.size)/\
  body=λvs=>den P vars true none r.assign (F.fz r.params.toList 1 vs) [] λF1=>.start (nth vs 0) (den P vars true none r.body F1 [] λ_=>.ret .normal [])
def OR (P:Program)(ρ:Ren)(w:World)(b o l:Nat):AO->Prop
 |.row cs=>∃(c:Array Value) (e:TypeId),w.heap[b]?=some (.cells c e (0,0))/\c.size=l/\o+cs.length<=l/\
   ∀(i:Nat) v,cs[i]?=some v->∃x,c[o+i]?=some x/\V ρ v x/\x.oneCell'=true
 |.ro cs=>∀(i:Nat) v,cs[i]?=some v->∃x,w.cell? ⟨b,o+i,none⟩=some x/\V ρ v x/\x.oneCell'=true
 |.map es=>∃(gq:Array MapEntry) (clock:Nat),w.heap[b]?=some (.map gq clock)/\gq.size=es.length/\
   ∀(i:Nat) k v,es[i]?=some (k,v)->∃e,gq[i]?=some e/\e.key=k/\V ρ v e.val
 |.loop st dE n body=>∃r:Loop,w.heap[b]?=some (.loop r)/\r.state=st/\La dE r.pending/\r.params.size=n/\FJ P ρ r body
structure R (P:Program)(ρ:Ren)(S:AH)(w:World):Prop where
 iQ:∀{id ob b o l},S.get id=some ob->ρ id=some (b,o,l)->OR P ρ w b o l ob
 inj:∀{i j oi oj b o l o' l'},S.get i=some oi->S.get j=some oj->ρ i=some (b,o,l)->ρ j=some (b,o',l')->(px oi=false\/px oj=false)->i=j
 sX:∀{id x},ρ id=some x->id<S.next
 oN:∀{id b o l},ρ id=some (b,o,l)->b<w.heap.size
 wf:∀{id ob},S.get id=some ob->id<S.next
def zm (S:AH)(ρ:Ren)(b:Nat):Prop:=∃id ob o l,S.get id=some ob/\px ob=false/\ρ id=some (b,o,l)
structure Ext (ρ:Ren)(S:AH)(w:World)(aT:Ren)(S':AH)(w':World):Prop where
 wa:ρ.le aT
 next:S.next<=S'.next
 nv:∀id x,ρ id=none->aT id=some x->S.next<=id
 iR:∀id,ρ id=none->id<S.next->S'.get id=S.get id
 os:w'.os=w.os
 tape:w'.tape=w.tape
 output:w'.output=w.output
 size:w.heap.size<=w'.heap.size
 frame:∀b,b<w.heap.size->¬zm S ρ b->w'.heap[b]?=w.heap[b]?
 owned:∀b,b<w.heap.size->zm S' aT b->zm S ρ b
theorem Ext.refl (ρ:Ren)(S:AH)(w:World):Ext ρ S w ρ S w:=
 ⟨Ren.le_refl _,Nat.le_refl _,λid x h1 h2=>by(rw[h1] at h2;cases h2),λ_ _ _=>rfl,rfl,rfl,rfl,Nat.le_refl _,λ_ _ _=>rfl,λ_ _ h=>h⟩
theorem Ext.trans {ρ aT Jd:Ren}{S S' UT:AH}{w w' xS:World}(h:Ext ρ S w aT S' w')(k:Ext aT S' w' Jd UT xS):Ext ρ S w Jd UT xS where
 wa:=Ren.le_trans h.wa k.wa
 next:=Nat.le_trans h.next k.next
 nv:=λid x h1 h2=>by
  cases e:aT id with
  |some y=>exact h.nv id y h1 e
  |none=>exact Nat.le_trans h.next (k.nv id x e h2)
 iR:=λid h1 h2=>by
  have e:aT id=none:=by
   cases e:aT id with
   |none=>rfl
   |some y=>have:=h.nv id y h1 e;omega
  rw[k.iR id e (Nat.lt_of_lt_of_le h2 h.next),h.iR id h1 h2]
 os:=k.os.trans h.os
 tape:=k.tape.trans h.tape
 output:=k.output.trans h.output
 size:=Nat.le_trans h.size k.size
 frame:=λb h1 h2=>by rw[k.frame b (Nat.lt_of_lt_of_le h1 h.size) (λho=>h2 (h.owned b h1 ho)),h.frame b h1 h2]
 owned:=λb h1 h2=>h.owned b h1 (k.owned b (Nat.lt_of_lt_of_le h1 h.size) h2)
theorem FR.mono {ρ aT:Ren}{F:Fr}{t:Array Value}(hl:ρ.le aT)(h:FR ρ F t):FR aT F t:=λi=>(h i).mono hl
theorem OR.mono {P:Program}{ρ aT:Ren}{w w':World}{b o l:Nat}{ob:AO}(hl:ρ.le aT)(hb:w'.heap[b]?=w.heap[b]?)(h:OR P ρ w b o l ob):OR P aT w' b o l ob:=by
 cases ob with
 |row cs=>
  obtain⟨c,e,h1,h2,h3,h4⟩:=h;exact⟨c,e,hb.trans h1,h2,h3,λi v hi=>let⟨x,a,b,c⟩:=h4 i v hi;⟨x,a,b.mono hl,c⟩⟩
 |ro cs=>
  intro i v hi;obtain⟨x,a,b,c⟩:=h i v hi;refine⟨x,?_,b.mono hl,c⟩;rw[<-a];simp only[World.cell?,hb]
 |map es=>
  obtain⟨gq,clock,h1,h2,h3⟩:=h;exact⟨gq,clock,hb.trans h1,h2,λi k v hi=>let⟨e,a,b,c⟩:=h3 i k v hi;⟨e,a,b,c.mono hl⟩⟩
 |loop st dE n body=>obtain⟨r,h1,h2,h3,h4,F,vars,h5,h6⟩:=h;exact⟨r,hb.trans h1,h2,h3,h4,F,vars,h5.mono hl,h6⟩
structure sn (w w':World):Prop where
 os:w'.os=w.os
 tape:w'.tape=w.tape
 output:w'.output=w.output
theorem R.drawn {P:Program}{ρ:Ren}{S:AH}{w w':World}(h:R P ρ S w)(hh:w'.heap=w.heap)(hs:sn w w'):R P ρ S w'/\Ext ρ S w ρ S w':=
 ⟨⟨λh1 h2=>(h.iQ h1 h2).mono (Ren.le_refl _) (by rw[hh]),h.inj,h.sX,λh1=>by rw[hh];exact h.oN h1,h.wf⟩,
  ⟨Ren.le_refl _,Nat.le_refl _,λid x h1 h2=>by(rw[h1] at h2;cases h2),λ_ _ _=>rfl,hs.os,hs.tape,hs.output,by rw[hh];exact Nat.le_refl _,λ_ _ _=>by rw[hh],λ_ _ h=>h⟩⟩
theorem R.new {P:Program}{ρ:Ren}{S:AH}{w w':World}{ob:AO}{l:Nat}(h:R P ρ S w)(hs:sn w w')(hz:w'.heap.size=w.heap.size+1)
  (ho:∀b,b<w.heap.size->w'.heap[b]?=w.heap[b]?)
  (FL:OR P (ρ.put S.next (w.heap.size,0,l)) w' w.heap.size 0 l ob) (hr:px ob=false):
  R P (ρ.put S.next (w.heap.size,0,l)) (S.new ob) w'/\Ext ρ S w (ρ.put S.next (w.heap.size,0,l)) (S.new ob) w':=by
 have hn:ρ S.next=none:=by
  cases e:ρ S.next with
  |none=>rfl
  |some x=>exact absurd (h.sX e) (Nat.lt_irrefl _)
 have hle:=Ren.kU (x:=(w.heap.size,0,l)) hn;refine⟨⟨?_,?_,?_,?_,λ{j oj} hj=>by
  rw[AH.cg] at hj;split at hj;.next e=>subst e;simp
  .have:=h.wf hj;simp;omega⟩,⟨hle,ac,?_,?_,hs.os,hs.tape,hs.output,am,λb hb _=>ho b hb,?_⟩⟩
 .intro id sY b o l' h1 h2;rw[AH.cg] at h1;by_cases e:id=S.next
  .subst e;rw[if_pos rfl] at h1;cases h1;rw[Ren.bG] at h2;cases h2;exact FL
  .rw[if_neg e] at h1;rw[Ren.aK _ _ e] at h2;exact(h.iQ h1 h2).mono hle (ho b (h.oN h2))
 .intro i j oi oj b o l' o' UU h1 h2 h3 h4 h5;rw[AH.cg] at h1 h2;by_cases ei:i=S.next<;>by_cases ej:j=S.next
  .rw[ei,ej]
  .exfalso;subst ei;rw[Ren.bG] at h3;rw[Ren.aK _ _ ej] at h4;cases h3;exact absurd (h.oN h4) (Nat.lt_irrefl _)
  .exfalso;subst ej;rw[Ren.bG] at h4;rw[Ren.aK _ _ ei] at h3;cases h4;exact absurd (h.oN h3) (Nat.lt_irrefl _)
  .rw[if_neg ei] at h1;rw[if_neg ej] at h2;rw[Ren.aK _ _ ei] at h3;rw[Ren.aK _ _ ej] at h4;exact h.inj h1 h2 h3 h4 h5
 .intro id x hx;by_cases e:id=S.next;.subst e;simp
  .rw[Ren.aK _ _ e] at hx;have:=h.sX hx;simp;omega
 .intro id b o l' hx;by_cases e:id=S.next;.subst e;rw[Ren.bG] at hx;cases hx;omega
  .rw[Ren.aK _ _ e] at hx;have:=h.oN hx;omega
 .intro id x h1 h2;by_cases e:id=S.next;.subst e;exact Nat.le_refl _
  .rw[Ren.aK _ _ e] at h2;rw[h1] at h2;cases h2
 .intro id h1 h2;rw[AH.cg,if_neg am]
 .intro b hb ⟨id,sY,o,l',h1,h2,h3⟩;rw[AH.cg] at h1;by_cases e:id=S.next;.subst e;rw[Ren.bG] at h3;cases h3;exact absurd hb (Nat.lt_irrefl _)
  .rw[if_neg e] at h1;rw[Ren.aK _ _ e] at h3;exact⟨id,sY,o,l',h1,h2,h3⟩
theorem R.set {P:Program}{ρ:Ren}{S:AH}{w w':World}{id b o l:Nat}{ob sY:AO}(h:R P ρ S w)(hg:S.get id=some ob)(hr:px ob=false)(hi:ρ id=some (b,o,l))
  (hs:sn w w') (hz:w'.heap.size=w.heap.size) (uf:∀k,k≠b->w'.heap[k]?=w.heap[k]?) (FL:OR P ρ w' b o l sY) (py:px sY=false):
  R P ρ (S.set id sY) w'/\Ext ρ S w ρ (S.set id sY) w':=by
 refine⟨⟨?_,?_,?_,?_,λ{j oj} hj=>by
  rw[AH.db] at hj;split at hj;.next e=>subst e;exact h.wf hg
  .exact h.wf hj⟩,⟨Ren.le_refl _,Nat.le_refl _,λid x h1 h2=>by(rw[h1] at h2;cases h2),?_,hs.os,hs.tape,hs.output,am,?_,?_⟩⟩
 .intro j oj b' o' l' h1 h2;rw[AH.db] at h1;by_cases e:j=id
  .subst e;rw[if_pos rfl] at h1;cases h1;rw[hi] at h2;cases h2;exact FL
  .rw[if_neg e] at h1;have hb:b'≠b:=λeb=>by subst eb;exact e (h.inj h1 hg h2 hi (.inr hr))
   exact(h.iQ h1 h2).mono (Ren.le_refl _) (uf b' hb)
 .intro i j oi oj b1 o1 l1 o2 l2 h1 h2 h3 h4 h5;rw[AH.db] at h1 h2;by_cases ei:i=id<;>by_cases ej:j=id
  .rw[ei,ej]
  .subst ei;rw[if_neg ej] at h2;exact h.inj hg h2 h3 h4 (.inl hr)
  .subst ej;rw[if_neg ei] at h1;exact h.inj h1 hg h3 h4 (.inr hr)
  .rw[if_neg ei] at h1;rw[if_neg ej] at h2;exact h.inj h1 h2 h3 h4 h5
 .exact h.sX
 .intro j b' o' l' hj;rw[hz];exact h.oN hj
 .intro j h1 h2;rw[AH.db,if_neg];intro e;subst e;rw[hi] at h1;cases h1
 .intro b' h1 h2;refine uf b' λe=>h2 ?_;subst e;exact⟨id,ob,o,l,hg,hr,hi⟩
 .intro b' h1 ⟨j,oj,o',l',h2,h3,h4⟩;rw[AH.db] at h2;by_cases e:j=id
  .subst e;exact⟨j,ob,o',l',hg,hr,h4⟩
  .rw[if_neg e] at h2;exact⟨j,oj,o',l',h2,h3,h4⟩
theorem R.swap {P:Program}{ρ:Ren}{S:AH}{w w':World}{id b o l o':Nat}{ob sY:AO}(h:R P ρ S w)(hg:S.get id=some ob)(hr:px ob=false)(hi:ρ id=some (b,o,l))
  (hs:sn w w') (hz:w'.heap.size=w.heap.size) (uf:∀k,k≠b->w'.heap[k]?=w.heap[k]?) (FL:OR P (ρ.put S.next (b,o',l)) w' b o' l sY) (py:px sY=false):
  R P (ρ.put S.next (b,o',l)) ((S.kill id).new sY) w'/\Ext ρ S w (ρ.put S.next (b,o',l)) ((S.kill id).new sY) w':=by
 have hn:ρ S.next=none:=by
  cases e:ρ S.next with
  |none=>rfl
  |some x=>exact absurd (h.sX e) (Nat.lt_irrefl _)
 have hle:=Ren.kU (x:=(b,o',l)) hn;have gk:∀j,((S.kill id).new sY).get j=if j=S.next then some sY else if j=id then none else S.get j:=λj=>by rw[AH.cg,AH.gO];rfl
 refine⟨⟨?_,?_,?_,?_,λ{j oj} hj=>by
  rw[AH.cg,AH.gO] at hj;split at hj;.next e=>rw[e];exact Nat.lt_succ_self _
  .split at hj;.cases hj
   .have:=h.wf hj;simp;omega⟩,⟨hle,ac,?_,?_,hs.os,hs.tape,hs.output,am,?_,?_⟩⟩
 .intro j oj b1 o1 l1 h1 h2;rw[gk] at h1;by_cases e:j=S.next
  .subst e;rw[if_pos rfl] at h1;cases h1;rw[Ren.bG] at h2;cases h2;exact FL
  .rw[if_neg e] at h1;rw[Ren.aK _ _ e] at h2;by_cases e2:j=id;.rw[if_pos e2] at h1;cases h1
   .rw[if_neg e2] at h1;have hb:b1≠b:=λeb=>by subst eb;exact e2 (h.inj h1 hg h2 hi (.inr hr))
    exact(h.iQ h1 h2).mono hle (uf b1 hb)
 .intro i j oi oj b1 o1 l1 o2 l2 h1 h2 h3 h4 h5;rw[gk] at h1 h2;by_cases ei:i=S.next<;>by_cases ej:j=S.next
  .rw[ei,ej]
  .exfalso;subst ei;rw[if_neg ej] at h2;rw[Ren.bG] at h3;rw[Ren.aK _ _ ej] at h4;cases h3;by_cases e2:j=id;.rw[if_pos e2] at h2;cases h2
   .rw[if_neg e2] at h2;exact e2 (h.inj h2 hg h4 hi (.inr hr))
  .exfalso;subst ej;rw[if_neg ei] at h1;rw[Ren.bG] at h4;rw[Ren.aK _ _ ei] at h3;cases h4;by_cases e2:i=id;.rw[if_pos e2] at h1;cases h1
   .rw[if_neg e2] at h1;exact e2 (h.inj h1 hg h3 hi (.inr hr))
  .rw[if_neg ei] at h1;rw[if_neg ej] at h2;rw[Ren.aK _ _ ei] at h3;rw[Ren.aK _ _ ej] at h4;by_cases e2:i=id;.rw[if_pos e2] at h1;cases h1
   .by_cases e3:j=id;.rw[if_pos e3] at h2;cases h2
    .rw[if_neg e2] at h1;rw[if_neg e3] at h2;exact h.inj h1 h2 h3 h4 h5
 .intro j x hx;by_cases e:j=S.next;.subst e;simp
  .rw[Ren.aK _ _ e] at hx;have:=h.sX hx;simp;omega
 .intro j b1 o1 l1 hx;rw[hz];by_cases e:j=S.next;.subst e;rw[Ren.bG] at hx;cases hx;exact h.oN hi
  .rw[Ren.aK _ _ e] at hx;exact h.oN hx
 .intro j x h1 h2;by_cases e:j=S.next;.subst e;exact Nat.le_refl _
  .rw[Ren.aK _ _ e] at h2;rw[h1] at h2;cases h2
 .intro j h1 h2;rw[gk,if_neg am,if_neg];intro e;subst e;rw[hi] at h1;cases h1
 .intro b1 h1 h2;refine uf b1 λe=>h2 ?_;subst e;exact⟨id,ob,o,l,hg,hr,hi⟩
 .intro b1 h1 ⟨j,oj,o1,l1,h2,h3,h4⟩;rw[gk] at h2;by_cases e:j=S.next
  .subst e;rw[Ren.bG] at h4;cases h4;exact⟨id,ob,o,l,hg,hr,hi⟩
  .rw[if_neg e] at h2;rw[Ren.aK _ _ e] at h4;by_cases e2:j=id;.rw[if_pos e2] at h2;cases h2
   .rw[if_neg e2] at h2;exact⟨j,oj,o1,l1,h2,h3,h4⟩
theorem R.kill {P:Program}{ρ:Ren}{S:AH}{w:World}{id:Nat}{x:Nat×Nat×Nat}(h:R P ρ S w)(hi:ρ id=some x):
  R P ρ (S.kill id) w/\Ext ρ S w ρ (S.kill id) w:=by
 refine⟨⟨?_,?_,h.sX,h.oN,λ{j oj} hj=>by
  rw[AH.gO] at hj;split at hj;.cases hj
  .exact h.wf hj⟩,⟨Ren.le_refl _,Nat.le_refl _,λid x h1 h2=>by(rw[h1] at h2;cases h2),?_,rfl,rfl,rfl,Nat.le_refl _,λ_ _ _=>rfl,?_⟩⟩
 .intro j oj b o l h1 h2;rw[AH.gO] at h1;split at h1;.cases h1
  .exact h.iQ h1 h2
 .intro i j oi oj b o l o' l' h1 h2 h3 h4 h5;rw[AH.gO] at h1 h2;split at h1;.cases h1
  .split at h2;.cases h2
   .exact h.inj h1 h2 h3 h4 h5
 .intro j h1 h2;rw[AH.gO,if_neg];intro e;subst e;rw[hi] at h1;cases h1
 .intro b h1 ⟨j,oj,o,l,h2,h3,h4⟩;rw[AH.gO] at h2;split at h2;.cases h2
  .exact⟨j,oj,o,l,h2,h3,h4⟩
end
section
variable[kg]
variable{P:Program}
inductive Kind where
 |pure|read|alloc|vT
 deriving DecidableEq
def fD.kind:fD->Kind
 |.load ..|.lookup ..=>.read
 |.alloc _|.box _|.gK ..|.gL ..|.CA=>.alloc
 |.store ..|.append ..|.clear ..|.Bl ..=>.vT
 |_=>.pure
def qv (P:Program):fD->Option AV
 |.mv x=>some x
 |.pick c a b=>CD c a b
 |.bin op x y=>I9 op x y
 |.eq t n x y=>Ff P t n x y
 |.un op x=>US P op x
 |.conv k x=>CE k x
 |.part o n a x=>CF o n a x
 |.Bk l e a x i=>sm l e a x i
 |.build z ps=>kT z ps
 |.lG o x=>xH o x
 |.zf l e x i=>nk l e x i
 |.da e x i=>fZ e x i
 |.o_ l e x a b c=>kx l e x a b c
 |.jM e x a b c=>dL e x a b c
 |.extract i x=>qh i x
 |.pc x=>oc x
 |.len g x=>DT g x
 |.pg m xs=>tA m xs
 |.mf t i o z x=>iO P t i o z x
 |_=>none
theorem nw {o:fD}(h:o.kind=.pure)(S:AH):evalOp P o S=eN (qv P o) S:=by
 cases o<;>first|rfl|(cases h;done)
theorem kC {o:fD}(h:o.kind=.read)(S:AH):evalOp P o S=eN (cR P S o) S:=by
 cases o<;>first|rfl|(cases h;done)
theorem ny {r:Option AV}{S S':AH}{v:AV}(h:eN r S=some (v,S')):r=some v/\S'=S:=by
 unfold eN at h;cases r with
 |none=>cases h
 |some x=>simp at h;exact⟨by rw[h.1],h.2.symm⟩
theorem av {ρ:Ren}{F:Fr}{a:Act}(h:FR ρ F a.tmps)(x:Operand):V ρ (F.ev x) (a.eval x):=by
 cases x with
 |tmp t=>exact h t
 |const v=>
  show V ρ ((sU 50 v).getD .no) v;cases e:sU 50 v with
  |none=>exact .no
  |some u=>exact lM e
 |global g=>exact .no
 |func f=>exact .fn (a':=[]) (c':=[]) rfl .nil .nil
theorem jF {ρ:Ren}{F:Fr}{a:Act}(h:FR ρ F a.tmps):∀(l:List Operand),VL ρ (l.map F.ev) (l.map a.eval)
 |[]=>.nil
 |x::r=>.cons (av h x) (jF h r)
theorem oO {op:BinOp}{t:TypeId}{x y:Operand}{k k':IntKind}{a b:Int}(w:World):
 (eqGuard op t x y (.int k a) (.int k' b)).run P w=.ok () w:=by cases op<;>rfl
theorem wb {op:BinOp}{t:TypeId}{x y:Operand}{a b:ByteArray}(w:World):
 (eqGuard op t x y (.string a) (.string b)).run P w=.ok () w:=by cases op<;>rfl
theorem DX {f:IntKind->Int->Int->Option AV}{x y v:AV}(h:dx f x y=some v):∃k a b,x=.sc (.int k a)/\y=.sc (.int k b)/\f k a b=some v:=by
 unfold dx at h;cases hx:asInt x with
 |none=>simp[hx] at h
 |some p=>
  obtain⟨k,a⟩:=p;cases hy:asInt y with
  |none=>simp[hx,hy] at h
  |some q=>
   obtain⟨k',b⟩:=q;simp only[hx,hy] at h;cases hk:nh k k' with
   |false=>simp[hk] at h
   |true=>simp only[hk] at h;have:=nu hk;subst this;exact⟨k,a,b,h_ hx,h_ hy,h⟩
theorem DY {f:ByteArray->ByteArray->Option AV}{x y v:AV}(h:v8 f x y=some v):∃a b,x=.sc (.string a)/\y=.sc (.string b)/\f a b=some v:=by
 unfold v8 at h;split at h;.exact⟨_,_,rfl,rfl,h⟩
 .cases h
theorem fG {a b:Option AV}{v:AV}(h:either a b=some v):a=some v\/b=some v:=by
 unfold either at h;cases a with
 |none=>exact .inr h
 |some x=>exact .inl h
def FM (P:Program)(op:BinOp)(t:TypeId)(x y v:AV):Prop:=
 (∃k a b r,x=.sc (.int k a)/\y=.sc (.int k b)/\v=.sc r/\scalar r=true/\∀w,(binOp op t (.int k a) (.int k b)).run P w=.ok r w)\/
 (∃k a k' b r,x=.sc (.int k a)/\y=.sc (.int k' b)/\v=.sc r/\scalar r=true/\∀w,(binOp op t (.int k a) (.int k' b)).run P w=.ok r w)\/
 (∃a b r,x=.sc (.string a)/\y=.sc (.string b)/\v=.sc r/\scalar r=true/\∀w,(binOp op t (.string a) (.string b)).run P w=.ok r w)
theorem wO (a b:Int):decide (a<=b)=!decide (b<a):=by
 by_cases h:b<a;.simp[h]
 .simp[h];omega
theorem Je {op:BinOp}{t:TypeId}{x y v:AV}(h:I9 op x y=some v):FM P op t x y v:=by
 have I:∀{f:IntKind->Int->Int->Option AV},dx f x y=some v->
   (∀k a b,f k a b=some v->∃r,v=.sc r/\scalar r=true/\∀w,(binOp op t (.int k a) (.int k b)).run P w=.ok r w)->FM P op t x y v:=λh1 h2=>by
  obtain⟨k,a,b,e1,e2,e3⟩:=DX h1;obtain⟨r,e4,e5,e6⟩:=h2 k a b e3;exact .inl ⟨k,a,b,r,e1,e2,e4,e5,e6⟩
 have T:∀{f:ByteArray->ByteArray->Option AV},v8 f x y=some v->
   (∀a b,f a b=some v->∃r,v=.sc r/\scalar r=true/\∀w,(binOp op t (.string a) (.string b)).run P w=.ok r w)->FM P op t x y v:=λh1 h2=>by
  obtain⟨a,b,e1,e2,e3⟩:=DY h1;obtain⟨r,e4,e5,e6⟩:=h2 a b e3;exact .inr (.inr ⟨a,b,r,e1,e2,e4,e5,e6⟩)
 cases op with
 |add=>
  rcases fG (show either _ _=some v from h) with h|h;.exact I h λk a b e=>by cases e;exact⟨_,rfl,rfl,λw=>by simp[binOp,Op.intArith,bw]<;>rfl⟩
  .refine T h λa b e=>?_;split at e
   .next hl=>cases e;refine⟨_,rfl,rfl,λw=>?_⟩;have:¬((9223372036854775807:Int)<(a.size:Int)+(b.size:Int)):=am;simp[binOp,Op.stringOp,IntKind.max,IntKind.signed,IntKind.bits,this]
   .cases e
 |sub=>exact I (show dx _ _ _=_ from h) λk a b e=>by cases e;exact⟨_,rfl,rfl,λw=>by simp[binOp,Op.intArith,bw]<;>rfl⟩
 |mul=>exact I (show dx _ _ _=_ from h) λk a b e=>by cases e;exact⟨_,rfl,rfl,λw=>by simp[binOp,Op.intArith,bw]<;>rfl⟩
 |quo=>
  refine I (show dx _ _ _=_ from h) λk a b e=>?_;simp only[gP] at e;split at e;.cases e
  .next hb=>
   cases e;refine⟨_,rfl,rfl,λw=>?_⟩;have:¬b=0:=by simpa using hb
   simp[binOp,Op.intDiv,bw,this]
 |rem=>
  refine I (show dx _ _ _=_ from h) λk a b e=>?_;simp only[gP] at e;split at e;.cases e
  .next hb=>
   cases e;refine⟨_,rfl,rfl,λw=>?_⟩;have:¬b=0:=by simpa using hb
   simp[binOp,Op.intDiv,bw,this]
 |and=>exact I (show dx _ _ _=_ from h) λk a b e=>by cases e;exact⟨_,rfl,rfl,λw=>by simp[binOp,Op.intBits,bw]⟩
 |or=>exact I (show dx _ _ _=_ from h) λk a b e=>by cases e;exact⟨_,rfl,rfl,λw=>by simp[binOp,Op.intBits,bw]⟩
 |xor=>exact I (show dx _ _ _=_ from h) λk a b e=>by cases e;exact⟨_,rfl,rfl,λw=>by simp[binOp,Op.intBits,bw]⟩
 |andNot=>exact I (show dx _ _ _=_ from h) λk a b e=>by cases e;exact⟨_,rfl,rfl,λw=>by simp[binOp,Op.intBits,bw]⟩
 |shl=>
  replace h:Fz x y=some v:=h;unfold Fz at h;split at h
  .next k a k' b=>
   simp only[f_] at h;split at h;.cases h
   .next hb=>
    cases h;refine .inr (.inl ⟨k,a,k',b,_,rfl,rfl,rfl,rfl,λw=>?_⟩);have:¬b<0:=by simpa using hb
    simp[binOp,Op.shift,bw,this]
  .cases h
 |shr=>
  replace h:FA x y=some v:=h;unfold FA at h;split at h
  .next k a k' b=>
   simp only[f_] at h;split at h;.cases h
   .next hb=>
    cases h;refine .inr (.inl ⟨k,a,k',b,_,rfl,rfl,rfl,rfl,λw=>?_⟩);have:¬b<0:=by simpa using hb
    simp[binOp,Op.shift,this]
  .cases h
 |eql=>
  rcases fG (show either _ _=some v from h) with h|h;.exact I h λk a b e=>by cases e;exact⟨_,rfl,rfl,λw=>by simp[binOp,Op.intCmp,gP]⟩
  .exact T h λa b e=>by cases e;exact⟨_,rfl,rfl,λw=>by simp[binOp,Op.stringOp]⟩
 |neq=>
  rcases fG (show either _ _=some v from h) with h|h;.exact I h λk a b e=>by cases e;exact⟨_,rfl,rfl,λw=>by simp[binOp,Op.intCmp,gP]<;>rfl⟩
  .exact T h λa b e=>by cases e;exact⟨_,rfl,rfl,λw=>by simp[binOp,Op.stringOp]⟩
 |lss=>
  rcases fG (show either _ _=some v from h) with h|h;.exact I h λk a b e=>by cases e;exact⟨_,rfl,rfl,λw=>by simp[binOp,Op.intCmp,f_]⟩
  .exact T h λa b e=>by cases e;exact⟨_,rfl,rfl,λw=>by simp[binOp,Op.stringOp]⟩
 |leq=>
  rcases fG (show either _ _=some v from h) with h|h;.exact I h λk a b e=>by cases e;exact⟨_,rfl,rfl,λw=>by simp[binOp,Op.intCmp,f_,wO]⟩
  .exact T h λa b e=>by cases e;exact⟨_,rfl,rfl,λw=>by simp[binOp,Op.stringOp]⟩
 |gtr=>
  rcases fG (show either _ _=some v from h) with h|h;.exact I h λk a b e=>by cases e;exact⟨_,rfl,rfl,λw=>by simp[binOp,Op.intCmp,f_]⟩
  .exact T h λa b e=>by cases e;exact⟨_,rfl,rfl,λw=>by simp[binOp,Op.stringOp]⟩
 |geq=>
  rcases fG (show either _ _=some v from h) with h|h;.exact I h λk a b e=>by cases e;exact⟨_,rfl,rfl,λw=>by simp[binOp,Op.intCmp,f_,wO]⟩
  .exact T h λa b e=>by cases e;exact⟨_,rfl,rfl,λw=>by simp[binOp,Op.stringOp]⟩
end
section
variable[kg]
variable{P:Program}
theorem wP:∀(vs:List Value) (off k:Nat) (xs:Array Value),off+k+vs.length<=xs.size->
  ((vs.zipIdx k).foldl (λ(cs:Array Value) (p:Value×Nat)=>cs.setIfInBounds (off+p.2) p.1) xs).toList=xs.toList.take (off+k)++(vs++xs.toList.drop (off+k+vs.length))
 |[],off,k,xs,h=>ac
 |v::vs,off,k,xs,h=>by simp only[List.zipIdx_cons,List.foldl_cons];rw[wP vs off (k+1) (xs.setIfInBounds (off+k) v) (by simp at h⊢;omega)];simp only[List.length_cons] at h;have e:=list_seg_step xs.toList (off+k) v vs (by simp;omega);simp only[Array.toList_setIfInBounds];have e':(xs.toList.set (off+k) v).take (off+k+1)++vs++(xs.toList.set (off+k) v).drop (off+k+1+vs.length)=xs.toList.take (off+k)++v::vs++xs.toList.drop (off+k+(vs.length+1)):=e;rw[show off+(k+1)=off+k+1 by omega,<-List.append_assoc,e'];simp
theorem DZ (vs:Array Value)(off:Nat)(xs:Array Value)(h:off+vs.size<=xs.size):
  (vs.zipIdx.foldl (λ(cs:Array Value) (p:Value×Nat)=>cs.setIfInBounds (off+p.2) p.1) xs).toList=xs.toList.take off++(vs.toList++xs.toList.drop (off+vs.size)):=by
 have:=wP vs.toList off 0 xs (by simpa using h);rw[<-Array.foldl_toList,Array.toList_zipIdx];simpa using this
theorem VL.lay {ρ:Ren}{cs vs:List AV}{xs ys:List Value}(h:VL ρ cs xs)(k:VL ρ vs ys)(off:Nat):
  VL ρ (aH cs off vs) (xs.take off++(ys++xs.drop (off+ys.length))):=by
 rw[bM,k.length];exact(h.take off).append (k.append (h.drop _))
theorem pz {ρ:Ren}{F:Fr}{a:Act}(hF:FR ρ F a.tmps){place:Nat->Option (Nat×Nat)}:
  ∀(l:List (Nat×Operand)) {ps:List (Nat×Nat×AV)} {cs UW:List AV} {xs:Array Value},partsOf F place l=some ps->fo cs ps=some UW->VL ρ cs xs.toList->(∀x∈xs.toList,x.oneCell'=true)->
   ∃Fg:Array Value,Instr.fill place xs (l.map λp=>(p.1,a.eval p.2))=some Fg/\VL ρ UW Fg.toList/\∀x∈Fg.toList,x.oneCell'=true
 |[],ps,cs,UW,xs,hp,hf,hv,h1=>by
  simp only[partsOf,Option.some.injEq] at hp;subst hp;simp only[fo,Option.some.injEq] at hf;subst hf;exact⟨xs,rfl,hv,h1⟩
 |(i,x)::r,ps,cs,UW,xs,hp,hf,hv,h1=>by
  simp only[partsOf] at hp;cases oP:place i with
  |none=>simp[oP] at hp
  |some q=>
   obtain⟨off,size⟩:=q;cases hr:partsOf F place r with
   |none=>simp[oP,hr] at hp
   |some ps'=>
    simp only[oP,hr,Option.some.injEq] at hp;subst hp;simp only[fo] at hf;split at hf
    .next hc=>
     simp only[Bool.and_eq_true,Bool.not_eq_true'] at hc;obtain⟨⟨ho,hs⟩,hl⟩:=hc;have bt:bD (F.ev x).cells=size:=Nat.eq_of_beq_eq_true hs;have Bt:off+size<=bD cs:=Nat.le_of_ble_eq_true hl;rw[aS] at bt Bt;obtain⟨Zu,Bu⟩:=(av hF x).xR ho;have dC:(a.eval x).cells.size=size:=by rw[<-bt,Zu.length];simp
     have Wb:cs.length=xs.size:=by rw[hv.length];simp
     have hb:¬((decide ((a.eval x).cells.size≠size)||decide (off+(a.eval x).cells.size>xs.size))=true):=by
      simp only[Bool.or_eq_true,ne_eq,decide_eq_true_eq];rintro(h|h);.exact h dC
      .omega
     have QM:=DZ (a.eval x).cells off xs am;have UX:VL ρ (aH cs off (F.ev x).cells) ((a.eval x).cells.zipIdx.foldl (λ(cs:Array Value) (p:Value×Nat)=>cs.setIfInBounds (off+p.2) p.1) xs).toList:=by rw[QM];simpa using hv.lay Zu off
     have QN:∀y∈((a.eval x).cells.zipIdx.foldl (λ(cs:Array Value) (p:Value×Nat)=>cs.setIfInBounds (off+p.2) p.1) xs).toList,y.oneCell'=true:=by
      rw[QM];intro y hy;rcases List.mem_append.1 hy with hy|hy;.exact h1 y (List.mem_of_mem_take hy)
      .rcases List.mem_append.1 hy with hy|hy;.exact Bu y hy
       .exact h1 y (List.mem_of_mem_drop hy)
     obtain⟨Fg,e1,e2,e3⟩:=pz hF r hr hf UX QN;refine⟨Fg,?_,e2,e3⟩;simp only[List.map_cons,Instr.fill,oP];rw[if_neg hb];exact e1
    .cases hf
theorem fH {t:TypeId}{z:AV}(h:gN P t=some z):∃i zv,P.info? t=some i/\i.zero=some zv/\sU 50 zv=some z:=by
 unfold gN at h;cases hi:P.info? t with
 |none=>simp[hi] at h
 |some i=>
  cases hz:i.zero with
  |none=>simp[hi,hz] at h
  |some zv=>simp[hi,hz] at h;exact⟨i,zv,rfl,hz,h⟩
theorem jP {t:TypeId}{n:Nat}(h:aQ P t=some n):∃i,P.info? t=some i/\i.size=n:=by
 unfold aQ at h;cases hi:P.info? t with
 |none=>simp[hi] at h
 |some i=>simp[hi] at h;exact⟨i,rfl,h⟩
theorem eu {t:TypeId}{n:Nat}(h:aQ P t=some n)(w:World):(sizeOf t).run P w=.ok n w:=by obtain⟨i,h1,h2⟩:=jP h;simp[sizeOf,typeInfo,h1,h2]
theorem kD {t:TypeId}{g:Bool}(h:eJ P t=some g)(w:World):(isAgg t).run P w=.ok g w:=by
 unfold eJ at h;cases hu:P.underlying t with
 |none=>simp[hu] at h
 |some d=>
  unfold isAgg;rw[Sem.run_bind,run_underlying hu w];cases d<;>simp_all
theorem jG {ρ:Ren}{zv:Value}{z:AV}(h:sU 50 zv=some z)(ho:odd z=false):VL ρ z.cells zv.cells.toList/\∀y∈zv.cells.toList,y.oneCell'=true:=
 (lM (ρ:=ρ) h).xR ho
section ops
variable{ρ:Ren}{F:Fr}{a:Act}{o:Oper}
def Yields (P:Program)(ρ:Ren)(a:Act)(o:Oper)(v:AV):Prop:=∃x,V ρ v x/\∀w,(execOp a.eval o).run P w=.ok (.value x) w
theorem Mp (hF:FR ρ F a.tmps){c x y:Operand}{v:AV}(ho:o.op=.pick c x y)(h:CD (F.ev c) (F.ev x) (F.ev y)=some v):Yields P ρ a o v:=by
 unfold CD at h;cases hb:asBool (F.ev c) with
 |none=>simp[hb] at h
 |some b=>
  have hc:=(kA hb▸av hF c).zk;cases b
  .simp[hb] at h;subst h;exact⟨_,av hF y,λw=>by simp[execOp,ho,hc,Go.asBool]⟩
  .simp[hb] at h;subst h;exact⟨_,av hF x,λw=>by simp[execOp,ho,hc,Go.asBool]⟩
theorem QO (hF:FR ρ F a.tmps){op:BinOp}{t u:TypeId}{x y:Operand}{v:AV}(ho:o.op=.binOp op t x y u)(h:I9 op (F.ev x) (F.ev y)=some v):Yields P ρ a o v:=by
 rcases Je (P:=P) (t:=t) h with⟨k,m,n,r,e1,e2,rfl,hs,hr⟩|⟨k,m,k',n,r,e1,e2,rfl,hs,hr⟩|⟨m,n,r,e1,e2,rfl,hs,hr⟩
 .have hx:=(e1▸av hF x).fu;have hy:=(e2▸av hF y).fu;exact⟨r,.sc hs,λw=>by simp[execOp,ho,hx,hy,oO,hr]⟩
 .have hx:=(e1▸av hF x).fu;have hy:=(e2▸av hF y).fu;exact⟨r,.sc hs,λw=>by simp[execOp,ho,hx,hy,oO,hr]⟩
 .have hx:=(e1▸av hF x).fh.1;have hy:=(e2▸av hF y).fh.1;exact⟨r,.sc hs,λw=>by simp[execOp,ho,hx,hy,wb,hr]⟩
theorem Wc (hF:FR ρ F a.tmps){op:UnOp}{t:TypeId}{x:Operand}{v:AV}(ho:o.op=.unOp op t x)(h:US P op (F.ev x)=some v):Yields P ρ a o v:=by
 unfold US at h;cases hb:asBool (F.ev x) with
 |some b=>
  have hx:=(kA hb▸av hF x).zk;simp only[hb] at h;split at h
  .cases h;exact⟨_,.sc rfl,λw=>by simp[execOp,ho,hx,Op.unary]⟩
  .cases h
 |none=>
  simp only[hb] at h;split at h
  .next u hu=>
   have hx:=(hu▸av hF x).fh.1;unfold QH at h;cases hp:br P (Op.unary op u) with
   |none=>simp[hp] at h
   |some r=>
    simp only[hp] at h;split at h
    .next hs=>cases h;have hr:=gh hp;exact⟨r,.sc hs,λw=>by simp[execOp,ho,hx,hr]⟩
    .cases h
  .cases h
theorem Mq (hF:FR ρ F a.tmps){s t:TypeId}{j k:IntKind}{x:Operand}{v:AV}(ho:o.op=.convert s t x)(hs:P.underlying s=some (.int j))(ht:P.underlying t=some (.int k))
  (h:CE k (F.ev x)=some v):Yields P ρ a o v:=by
 unfold CE at h;cases hi:asInt (F.ev x) with
 |none=>simp[hi] at h
 |some p=>obtain⟨k',n⟩:=p;simp[hi] at h;subst h;have hx:=(h_ hi▸av hF x).fu;exact⟨.int k (k.wrap n),by rw[bw];exact .sc rfl,λw=>by simp[execOp,ho,hx,convert,run_underlying hs,run_underlying ht,Conv.intToInt]⟩
theorem qw {cs:List AV}{xs:List Value}{t:TypeId}{n off:Nat}{g:Bool}{v:AV}(hn:aQ P t=some n)(hg:eJ P t=some g)(hc:VL ρ cs xs)(h1:∀x∈xs,x.oneCell'=true)
  (h:fE g cs off n=some v):∃x,V ρ v x/\∀w,(part t xs.toArray off).run P w=.ok x w:=by
 unfold fE at h;cases g with
 |true=>
  simp only at h;split at h
  .next hl=>
   cases h;have Bt:off+n<=bD cs:=Nat.le_of_ble_eq_true hl;rw[aS] at Bt;refine⟨.agg ((xs.drop off).take n).toArray,?_,λw=>?_⟩
   .rw[dF,dV];exact .agg ((hc.drop _).take _) λx hx=>h1 x (List.mem_of_mem_drop (List.mem_of_mem_take hx))
   .simp only[part,Sem.run_bind,kD hg,Result.andThen_ok,if_true,eu hn,Sem.run_pure];congr 2;apply Array.ext';simp[List.extract_eq_take_drop]
  .cases h
 |false=>simp only[og] at h;obtain⟨x,e1,e2⟩:=hc.get h;exact⟨x,e2,λw=>by simp[part,Sem.run_bind,kD hg,e1]⟩
theorem Jf (hF:FR ρ F a.tmps){t:TypeId}{fields:Array Field}{fd:Field}{i n:Nat}{g:Bool}{x:Operand}{v:AV}(ho:o.op=.field t x i)(ht:P.underlying t=some (.struct fields))
  (hf:fields[i]?=some fd) (hn:aQ P fd.type=some n) (hg:eJ P fd.type=some g) (h:CF fd.offset n g (F.ev x)=some v):Yields P ρ a o v:=by
 unfold CF at h;cases ha:asAgg (F.ev x) with
 |none=>simp[ha] at h
 |some cs=>simp only[ha] at h;obtain⟨xs,hx,hv,h1⟩:=(ud ha▸av hF x).xQ;obtain⟨y,hy,hr⟩:=qw hn hg hv h1 h;exact⟨y,hy,λw=>by simp[execOp,ho,Instr.field,run_underlying ht,hf,hx,Go.asAgg,hr]⟩
theorem Mr (hF:FR ρ F a.tmps){t e:TypeId}{len n:Nat}{g:Bool}{x i:Operand}{v:AV}(ho:o.op=.index t x i)(ht:P.underlying t=some (.array len e))
  (hn:aQ P e=some n) (hg:eJ P e=some g) (h:sm len n g (F.ev x) (F.ev i)=some v):Yields P ρ a o v:=by
 unfold sm at h;cases ha:asAgg (F.ev x) with
 |none=>simp[ha] at h
 |some cs=>
  cases hi:nj (F.ev i) len with
  |none=>simp[ha,hi] at h
  |some j=>simp only[ha,hi] at h;obtain⟨xs,hx,hv,h1⟩:=(ud ha▸av hF x).xQ;obtain⟨k,hk,hj⟩:=lK hi;have mX:=(hk▸av hF i).fu;obtain⟨y,hy,hr⟩:=qw hn hg hv h1 h;refine⟨y,hy,λw=>?_⟩;have h0:(0:Int)<=(j:Int)/\(j:Int)<(len:Int):=am;simp only[execOp,ho,Instr.index,mX,asIntOf,Sem.run_bind,Sem.run_pure,Result.andThen_ok,run_underlying ht,hx,h0,and_self,if_true,eu hn,Int.toNat_natCast,hr];rw[show Nat.mul j n=j*n from rfl] at hr;simp[hr]
theorem D0 (hF:FR ρ F a.tmps){i:Nat}{x:Operand}{v:AV}(ho:o.op=.extract x i)(h:qh i (F.ev x)=some v):Yields P ρ a o v:=by
 unfold qh at h;cases ha:CB (F.ev x) with
 |none=>simp[ha] at h
 |some cs=>simp only[ha,og] at h;obtain⟨xs,hx,hv⟩:=(Bq ha▸av hF x).Jc;obtain⟨y,e1,e2⟩:=hv.get h;exact⟨y,e2,λw=>by simp[execOp,ho,Instr.extract,hx,e1]⟩
theorem FN (hF:FR ρ F a.tmps){x:Operand}{v:AV}(ho:o.op=.nilCheck x)(h:oc (F.ev x)=some v):Yields P ρ a o v:=by
 unfold oc at h;cases hl:live (F.ev x) with
 |false=>simp[hl] at h
 |true=>
  simp only[hl,Option.some.injEq] at h;subst h;have hv:=av hF x;refine⟨_,hv,λw=>?_⟩;generalize hx:a.eval x=y at*
  generalize F.ev x=u at*
  cases hv with
  |sc hs=>cases y<;>first|(simp[scalar] at hs;done)|(cases hl;done)|simp[execOp,ho,hx]
  |fn hf h1 h2=>
   rename_i f c d c' d';cases f<;>first|(cases hf;done)|(cases hl;done)|simp[execOp,ho,hx]
  |no=>cases hl
  |tok=>cases hl
  |_=>simp[execOp,ho,hx]
end ops
end
section
variable[kg]
variable{P:Program}{ρ:Ren}{F:Fr}{a:Act}{o:Oper}
theorem xT {op:BinOp}(wc:op=.eql\/op=.neq){t:TypeId}{x y:Operand}{u v:Value}{w:World}
  (h:(eqGuard .eql t (.tmp 0) (.tmp 0) u v).run P w=.ok () w):(eqGuard op t x y u v).run P w=.ok () w:=by
 have hx:(eqGuard op t x y u v).run P w=.ok () w\/(eqGuard op t x y u v).run P w=(eqGuard .eql t (.tmp 0) (.tmp 0) u v).run P w:=by
  rcases wc with rfl|rfl
  all_goals
   unfold eqGuard;cases u<;>cases v<;>first|(right;rfl)|skip
   cases x<;>cases y<;>first|(left;rfl)|(right;rfl)
 rcases hx with hx|hx;.exact hx
 .rw[hx,h]
theorem FO {op:BinOp}(wc:op=.eql\/op=.neq){t:TypeId}{u v:Value}(h:(ni u&&ni v)=true):
  binOp op t u v=(do let r <-Op.equal t u v;pure (.bool (if op=.eql then r else !r))):=by
 rcases wc with rfl|rfl;all_goals cases u<;>cases v<;>first|rfl|(simp[ni] at h)
theorem run_eq {op:BinOp}(wc:op=.eql\/op=.neq){t:TypeId}{x y:Operand}{u v:Value}{r:Bool}(h:(ni u&&ni v)=true)
  {w:World} (hg:(eqGuard .eql t (.tmp 0) (.tmp 0) u v).run P w=.ok () w) (he:(Op.equal t u v).run P w=.ok r w):
  (do eqGuard op t x y u v;binOp op t u v:Sem Value).run P w=.ok (.bool (if op=.eql then r else !r)) w:=by
 rw[Sem.run_bind,xT wc hg,Result.andThen_ok,FO wc h,Sem.run_bind,he];rcases wc with rfl|rfl<;>rfl
theorem aW {t:TypeId}{u v:Value}(h:(∀cs ds,¬(u=.agg cs/\v=.agg ds))/\¬(u=.nilIface/\v=.nilIface))(w:World):
  (eqGuard .eql t (.tmp 0) (.tmp 0) u v).run P w=.ok () w:=by
 cases u<;>cases v<;>first|rfl|(exact absurd ⟨rfl,rfl⟩ (h.1 _ _))|(exact absurd ⟨rfl,rfl⟩ h.2)
theorem Bv {t:TypeId}(h:jo P t=1):∃e,P.underlying t=some (.pointer e):=by
 unfold jo at h;split at h<;>first|(exact⟨_,‹_›⟩)|(simp at h)
theorem Bw {t:TypeId}(h:jo P t=2):∃e,P.underlying t=some (.slice e):=by
 unfold jo at h;split at h<;>first|(exact⟨_,‹_›⟩)|(simp at h)
theorem Bx {t:TypeId}(h:jo P t=3):∃k e,P.underlying t=some (.map k e):=by
 unfold jo at h;split at h<;>first|(exact⟨_,_,‹_›⟩)|(simp at h)
theorem Bz {t:TypeId}(h:jo P t=4):∃k e v,P.underlying t=some (.func k e v):=by
 unfold jo at h;split at h<;>first|(exact⟨_,_,_,‹_›⟩)|(simp at h)
theorem FP {t:TypeId}(h:jo P t=5):∃ms,P.underlying t=some (.interface ms):=by
 unfold jo at h;split at h<;>first|(exact⟨_,‹_›⟩)|(simp at h)
theorem qx {x:AV}{v:Value}(h:V ρ x v):kS x=0\/(kS x=1/\v=.pointer none)\/(kS x=2/\∃n c,v=.slice none n c)\/(kS x=3/\v=.map none)\/(kS x=4/\v=.nilFunc)\/(kS x=5/\v=.nilIface):=by
 cases h with
 |sc h=>
  cases v<;>first|(exact .inl rfl)|skip
  case pointer p=>cases p<;>first|(exact .inl rfl)|(exact .inr (.inl ⟨rfl,rfl⟩))
  case slice p n c=>cases p<;>first|(exact .inl rfl)|(exact .inr (.inr (.inl ⟨rfl,_,_,rfl⟩)))
  case map p=>cases p<;>first|(exact .inl rfl)|(exact .inr (.inr (.inr (.inl ⟨rfl,rfl⟩))))
  case nilFunc=>exact .inr (.inr (.inr (.inr (.inl ⟨rfl,rfl⟩))))
  case nilIface=>exact .inr (.inr (.inr (.inr (.inr ⟨rfl,rfl⟩))))
 |_=>exact .inl rfl
theorem zn {x:AV}{v:Value}(h:V ρ x v):zg x=0\/(zg x=1/\∃p,v=.pointer (some p))\/(zg x=2/\∃p n c,v=.slice (some p) n c)\/(zg x=3/\∃r,v=.map (some r))\/(zg x=4/\∃f b c,v=.func f b c)\/(zg x=5/\∃t u,v=.iface t u):=by
 cases h with
 |ptr _=>exact .inr (.inl ⟨rfl,_,rfl⟩)
 |sl _=>exact .inr (.inr (.inl ⟨rfl,_,_,_,rfl⟩))
 |op _ _ _ _=>exact .inr (.inr (.inl ⟨rfl,_,_,_,rfl⟩))
 |za _=>exact .inr (.inr (.inl ⟨rfl,_,_,_,rfl⟩))
 |map _=>exact .inr (.inr (.inr (.inl ⟨rfl,_,rfl⟩)))
 |fn _ _ _=>exact .inr (.inr (.inr (.inr (.inl ⟨rfl,_,_,_,rfl⟩))))
 |yd _=>exact .inr (.inr (.inr (.inr (.inl ⟨rfl,_,_,_,rfl⟩))))
 |iface _=>exact .inr (.inr (.inr (.inr (.inr ⟨rfl,_,_,rfl⟩))))
 |_=>exact .inl rfl
theorem D1 {t:TypeId}{x y:AV}{u v:Value}{r:Bool}(h:zh P t x y=some r)(hx:V ρ x u)(hy:V ρ y v):
  (ni u&&ni v)=true/\∀w,(eqGuard .eql t (.tmp 0) (.tmp 0) u v).run P w=.ok () w/\(Op.equal t u v).run P w=.ok r w:=by
 unfold zh at h;split at h
 .next hc=>
  cases h;simp only[Bool.and_eq_true] at hc;obtain⟨⟨h0,h1⟩,h2⟩:=hc;have h0:=Nat.le_of_ble_eq_true h0;have h1:=Nat.eq_of_beq_eq_true h1;have h2:=Nat.eq_of_beq_eq_true h2;rcases qx hx with e|⟨e,rfl⟩|⟨e,n,c,rfl⟩|⟨e,rfl⟩|⟨e,rfl⟩|⟨e,rfl⟩;.omega
  all_goals rcases zn hy with e'|⟨e',p,rfl⟩|⟨e',p,m,d,rfl⟩|⟨e',p,rfl⟩|⟨e',f,b,c,rfl⟩|⟨e',q,z,rfl⟩<;>try(exfalso;omega)
  .obtain⟨e,hu⟩:=Bv (h2.symm.trans ‹_›);exact⟨rfl,λw=>⟨aW ⟨ac,ac⟩ w,by show(Op.equalIn (9999+1) t _ _).run P w=_;generalize 9999=d9;simp[Op.equalIn,run_underlying hu]⟩⟩
  .obtain⟨e,hu⟩:=Bw (h2.symm.trans ‹_›);exact⟨rfl,λw=>⟨aW ⟨ac,ac⟩ w,by show(Op.equalIn (9999+1) t _ _).run P w=_;generalize 9999=d9;simp[Op.equalIn,run_underlying hu]⟩⟩
  .obtain⟨k,e,hu⟩:=Bx (h2.symm.trans ‹_›);exact⟨rfl,λw=>⟨aW ⟨ac,ac⟩ w,by show(Op.equalIn (9999+1) t _ _).run P w=_;generalize 9999=d9;simp[Op.equalIn,run_underlying hu]⟩⟩
  .obtain⟨k,e,_,hu⟩:=Bz (h2.symm.trans ‹_›);exact⟨rfl,λw=>⟨aW ⟨ac,ac⟩ w,by show(Op.equalIn (9999+1) t _ _).run P w=_;generalize 9999=d9;simp[Op.equalIn,run_underlying hu]⟩⟩
  .obtain⟨k,hu⟩:=FP (h2.symm.trans ‹_›);exact⟨rfl,λw=>⟨aW ⟨ac,ac⟩ w,by show(Op.equalIn (9999+1) t _ _).run P w=_;generalize 9999=d9;simp[Op.equalIn,run_underlying hu]⟩⟩
 .split at h
  .next hc=>
   cases h;simp only[Bool.and_eq_true] at hc;obtain⟨⟨h0,h1⟩,h2⟩:=hc;have h0:=Nat.le_of_ble_eq_true h0;have h1:=Nat.eq_of_beq_eq_true h1;have h2:=Nat.eq_of_beq_eq_true h2;rcases qx hy with e|⟨e,rfl⟩|⟨e,n,c,rfl⟩|⟨e,rfl⟩|⟨e,rfl⟩|⟨e,rfl⟩;.omega
   all_goals rcases zn hx with e'|⟨e',p,rfl⟩|⟨e',p,m,d,rfl⟩|⟨e',p,rfl⟩|⟨e',f,b,c,rfl⟩|⟨e',q,z,rfl⟩<;>try(exfalso;omega)
   .obtain⟨e,hu⟩:=Bv (h2.symm.trans ‹_›);exact⟨rfl,λw=>⟨aW ⟨ac,ac⟩ w,by show(Op.equalIn (9999+1) t _ _).run P w=_;generalize 9999=d9;simp[Op.equalIn,run_underlying hu]⟩⟩
   .obtain⟨e,hu⟩:=Bw (h2.symm.trans ‹_›);exact⟨rfl,λw=>⟨aW ⟨ac,ac⟩ w,by show(Op.equalIn (9999+1) t _ _).run P w=_;generalize 9999=d9;simp[Op.equalIn,run_underlying hu]⟩⟩
   .obtain⟨k,e,hu⟩:=Bx (h2.symm.trans ‹_›);exact⟨rfl,λw=>⟨aW ⟨ac,ac⟩ w,by show(Op.equalIn (9999+1) t _ _).run P w=_;generalize 9999=d9;simp[Op.equalIn,run_underlying hu]⟩⟩
   .obtain⟨k,e,_,hu⟩:=Bz (h2.symm.trans ‹_›);exact⟨rfl,λw=>⟨aW ⟨ac,ac⟩ w,by show(Op.equalIn (9999+1) t _ _).run P w=_;generalize 9999=d9;simp[Op.equalIn,run_underlying hu]⟩⟩
   .obtain⟨k,hu⟩:=FP (h2.symm.trans ‹_›);exact⟨rfl,λw=>⟨aW ⟨ac,ac⟩ w,by show(Op.equalIn (9999+1) t _ _).run P w=_;generalize 9999=d9;simp[Op.equalIn,run_underlying hu]⟩⟩
  .split at h
   .next hc=>
    cases h;simp only[Bool.and_eq_true] at hc;obtain⟨⟨⟨h0,h4⟩,h1⟩,h2⟩:=hc;have h0:=Nat.le_of_ble_eq_true h0;have h4:=Nat.le_of_ble_eq_true h4;have h1:=Nat.eq_of_beq_eq_true h1;have h2:=Nat.eq_of_beq_eq_true h2;rcases qx hx with e|⟨e,rfl⟩|⟨e,n,c,rfl⟩|⟨e,rfl⟩|⟨e,rfl⟩|⟨e,rfl⟩;.omega
    all_goals rcases qx hy with e'|⟨e',rfl⟩|⟨e',m,d,rfl⟩|⟨e',rfl⟩|⟨e',rfl⟩|⟨e',rfl⟩<;>try(exfalso;omega)
    .obtain⟨e,hu⟩:=Bv (h2.symm.trans ‹_›);exact⟨rfl,λw=>⟨aW ⟨ac,ac⟩ w,by show(Op.equalIn (9999+1) t _ _).run P w=_;generalize 9999=d9;simp[Op.equalIn,run_underlying hu]⟩⟩
    .obtain⟨e,hu⟩:=Bw (h2.symm.trans ‹_›);exact⟨rfl,λw=>⟨aW ⟨ac,ac⟩ w,by show(Op.equalIn (9999+1) t _ _).run P w=_;generalize 9999=d9;simp[Op.equalIn,run_underlying hu]⟩⟩
    .obtain⟨k,e,hu⟩:=Bx (h2.symm.trans ‹_›);exact⟨rfl,λw=>⟨aW ⟨ac,ac⟩ w,by show(Op.equalIn (9999+1) t _ _).run P w=_;generalize 9999=d9;simp[Op.equalIn,run_underlying hu]⟩⟩
    .obtain⟨k,e,_,hu⟩:=Bz (h2.symm.trans ‹_›);exact⟨rfl,λw=>⟨aW ⟨ac,ac⟩ w,by show(Op.equalIn (9999+1) t _ _).run P w=_;generalize 9999=d9;simp[Op.equalIn,run_underlying hu]⟩⟩
   .unfold I_ at h;split at h
    .next i p hp=>
     split at h
     .next j q hq=>
      split at h
      .next hc=>
       cases h;simp only[Bool.and_eq_true] at hc;have Wd:=Nat.eq_of_beq_eq_true hc.1;subst Wd;have gY:=hc.2;unfold K8 at gY;split at gY
       .next e hu=>
        split at gY
        .next inf hi=>
         have dC:=Nat.le_of_ble_eq_true gY;obtain⟨b,o1,l,hb,rfl⟩:=(gz hp▸hx).kB;obtain⟨b',o2,l',wQ,rfl⟩:=(gz hq▸hy).kB;rw[hb] at wQ;cases wQ;refine⟨rfl,λw=>⟨aW ⟨ac,ac⟩ w,?_⟩⟩;have fI:¬inf.size=0:=am;have e1:(Nat.beq p q)=((⟨b,o1+p,none⟩:Addr)==⟨b,o1+q,none⟩):=by
          rw[Bool.eq_iff_iff,Nat.beq_eq,beq_iff_eq];constructor;.rintro rfl;rfl
          .intro h;injection h with h1 h2;omega
         show(Op.equalIn (9999+1) t _ _).run P w=_;generalize 9999=d9;simp[Op.equalIn,run_underlying hu,sizeOf,typeInfo,hi,fI,sameAddr,e1]
        .cases gY
       .cases gY
      .cases h
     .cases h
    .split at h
     .next c d hc hd=>
      split at h
      .next hn=>
       have ex:=jE hc hx;have ey:=jE hd hy;subst ex ey;split at h;.next hg=>exact⟨hn,λw=>⟨gh hg w,gh h w⟩⟩
       .cases h
      .cases h
     .cases h
theorem QP (hF:FR ρ F a.tmps){op:BinOp}{t u:TypeId}{x y:Operand}{v:AV}{n:Bool}(wc:(op=.eql/\n=false)\/(op=.neq/\n=true))(ho:o.op=.binOp op t x y u)
  (h:Ff P t n (F.ev x) (F.ev y)=some v):Yields P ρ a o v:=by
 unfold Ff at h;cases hr:zh P t (F.ev x) (F.ev y) with
 |none=>simp[hr] at h
 |some r=>
  simp[hr] at h;obtain⟨h1,h2⟩:=D1 hr (av hF x) (av hF y);rcases wc with⟨rfl,rfl⟩|⟨rfl,rfl⟩
  .subst h;refine⟨.bool r,.sc rfl,λw=>?_⟩;have:=run_eq (op:=.eql) (x:=x) (y:=y) (.inl rfl) h1 (h2 w).1 (h2 w).2;simp only[execOp,ho];rw[Sem.run_bind,this];rfl
  .subst h;refine⟨.bool (!r),.sc rfl,λw=>?_⟩;have:=run_eq (op:=.neq) (x:=x) (y:=y) (.inr rfl) h1 (h2 w).1 (h2 w).2;simp only[execOp,ho];rw[Sem.run_bind,this];rfl
end
section
variable[kg]
variable{P:Program}{ρ:Ren}{F:Fr}{a:Act}{o:Oper}
theorem nA {want:Array (String×TypeId)}{PT:Array Method}:Instr.missingMethod want PT=none↔Bn want PT=true:=by
 unfold Instr.missingMethod Bn;generalize hl:want.toList.filter (λ(x:String×TypeId)=>match x with|(name,sig)=>!PT.any λm=>m.name==name&&m.sig==sig)=l;have Bt:l=[]↔(want.toList.all λx=>PT.toList.any λm=>m.name==x.1&&m.sig==x.2)=true:=by
  rw[<-hl,List.filter_eq_nil_iff,List.all_eq_true];constructor
  .intro h x hx;have:=h x hx;simpa using this
  .intro h x hx;have:=h x hx;simpa using this
 rw[<-Bt];cases l with
 |nil=>simp[Instr.least]
 |cons a r=>
  simp only[List.map_cons,reduceCtorEq,iff_false];intro h;cases hc:(a.1.contains (Char.ofNat 46)) with
  |true=>
   rw[List.partition_eq_filter_filter] at h;simp only[List.filter_cons,hc,if_true] at h;cases he:(Instr.least (List.filter (not∘λx=>x.contains (Char.ofNat 46)) (a.1::r.map (·.1)))) with
   |none=>simp_all[Instr.least]
   |some _=>simp_all[Instr.least]
  |false=>rw[List.partition_eq_filter_filter] at h;simp_all[List.filter_cons,Instr.least]
theorem gi (b o n:Nat):(⟨b,o,none⟩:Addr).add n=⟨b,o+n,none⟩:=Addr.add_mid b o n
theorem ic {t:TypeId}{zc:List AV}(h:eS P t=some zc):∃z,gN P t=some z/\odd z=false/\zc=z.cells:=by
 unfold eS at h;split at h
 .next z hz=>
  split at h;.cases h
  .next ho=>cases h;exact⟨z,hz,by simpa using ho,rfl⟩
 .cases h
theorem CK (hF:FR ρ F a.tmps){t:TypeId}{parts:Array (Nat×Operand)}{z:AV}{zc:List AV}{ps:List (Nat×Nat×AV)}{v:AV}{place:Nat->Option (Nat×Nat)}(ho:o.op=.build t parts)
  (QQ:eS P t=some zc)
  (Ms:(∃e n,P.underlying t=some (.array n e)/\∃s,aQ P e=some s/\place=λi=>some (i*s,s))\/
    (∃fields places,P.underlying t=some (.struct fields)/\fields.toList.mapM (λf=>(P.info? f.type).map λi=>(f.offset,i.size))=some places/\place=λi=>places[i]?))
  (hp:partsOf F place parts.toList=some ps) (h:kT zc ps=some v):Yields P ρ a o v:=by
 obtain⟨z,hz,mg,rfl⟩:=ic QQ;obtain⟨it,zv,Zv,UY,hof⟩:=fH hz;obtain⟨hc,h1⟩:=jG (ρ:=ρ) hof mg;unfold kT at h;cases hf:fo z.cells ps with
 |none=>simp[hf] at h
 |some c=>
  simp[hf] at h;subst h;obtain⟨Fg,e1,e2,e3⟩:=pz hF parts.toList hp hf hc h1;have hb:P.built t (parts.map λ(i,x)=>(i,a.eval x)).toList=some Fg:=by
   have em:(parts.map λ(i,x)=>(i,a.eval x)).toList=parts.toList.map λp=>(p.1,a.eval p.2):=ac;rw[em];unfold Program.built;rcases Ms with⟨e,n,hu,s,hs,rfl⟩|⟨fields,places,hu,oP,rfl⟩
   .obtain⟨ie,IZ,rfl⟩:=jP hs;simp only[Zv,hu,UY,IZ];exact e1
   .simp only[Zv,hu,UY,oP];have:(λx=>places.toArray[x]?)=λx:Nat=>places[x]?:=by funext x;simp
    rw[this];exact e1
  refine⟨.agg Fg,?_,λw=>?_⟩
  .have:=V.agg e2 e3;simpa using this
  .simp only[execOp,ho];rw[Sem.run_bind,run_build w t _ Fg hb];rfl
theorem Jg (hF:FR ρ F a.tmps){t:TypeId}{fields:Array Field}{fd:Field}{i n:Nat}{x:Operand}{v:AV}(ho:o.op=.fieldAddr t x i)(ht:P.underlying t=some (.struct fields))
  (hf:fields[i]?=some fd) (hn:aQ P fd.type=some n) (h0:n≠0) (h:xH fd.offset (F.ev x)=some v):Yields P ρ a o v:=by
 unfold xH at h;cases hp:iN (F.ev x) with
 |none=>simp[hp] at h
 |some p=>obtain⟨id,off⟩:=p;simp only[hp,Option.some.injEq] at h;subst h;obtain⟨b,o1,l,hb,hx⟩:=(gz hp▸av hF x).kB;refine⟨_,.ptr hb,λw=>?_⟩;simp[execOp,ho,Instr.fieldAt,run_underlying ht,hf,hx,Instr.sureAddr,fieldPlace,eu hn,h0,gi,Nat.add_assoc]
theorem jQ (w:World){t:TypeId}{x i:Value}{k:IntKind}{j len n b o1:Nat}{e:TypeId}(hi:i=.int k (j:Int))(hj:j<len)(hn:aQ P e=some n)
  (h:(P.underlying t=some (.array len e)/\x=.pointer (some ⟨b,o1,none⟩))\/(P.underlying t=some (.slice e)/\∃c,x=.slice (some ⟨b,o1,none⟩) len c)):
  (Instr.indexAt t x i).run P w=.ok (.pointer (some ⟨b,o1+j*n,none⟩)) w:=by
 have h0:(0:Int)<=(j:Int)/\(j:Int)<(len:Int):=am;rcases h with⟨hu,rfl⟩|⟨hu,c,rfl⟩
 .simp only[Instr.indexAt,hi,asIntOf,Sem.run_bind,Sem.run_pure,Result.andThen_ok,run_underlying hu,Instr.sureAddr];by_cases hl:len<=1<;>simp[hl,run_underlying hu,h0,hj,eu hn,gi]
 .simp only[Instr.indexAt,hi,asIntOf,Sem.run_bind,Sem.run_pure,Result.andThen_ok,run_underlying hu];by_cases hl:len<=1<;>simp[hl,run_underlying hu,h0,hj,eu hn,gi]
theorem Jh (hF:FR ρ F a.tmps){t e:TypeId}{len n:Nat}{x i:Operand}{v:AV}(ho:o.op=.indexAddr t x i)(ht:P.underlying t=some (.array len e))
  (hn:aQ P e=some n) (h:nk len n (F.ev x) (F.ev i)=some v):Yields P ρ a o v:=by
 unfold nk at h;cases hp:iN (F.ev x) with
 |none=>simp[hp] at h
 |some p=>
  obtain⟨id,off⟩:=p;cases hi:nj (F.ev i) len with
  |none=>simp[hp,hi] at h
  |some j=>simp only[hp,hi,Option.some.injEq] at h;subst h;obtain⟨b,o1,l,hb,hx⟩:=(gz hp▸av hF x).kB;obtain⟨k,hk,hj⟩:=lK hi;have mX:=(hk▸av hF i).fu;refine⟨_,.ptr hb,λw=>?_⟩;have:=jQ (P:=P) w mX hj hn (.inl ⟨ht,hx⟩);simp only[execOp,ho];rw[Sem.run_bind,this];simp[Nat.add_assoc]
theorem Ji (hF:FR ρ F a.tmps){t e:TypeId}{n:Nat}{x i:Operand}{v:AV}(ho:o.op=.indexAddr t x i)(ht:P.underlying t=some (.slice e))
  (hn:aQ P e=some n) (h:fZ n (F.ev x) (F.ev i)=some v):Yields P ρ a o v:=by
 have hx:=av hF x;unfold fZ at h;split at h
 .next id off len cap e1=>
  rw[e1] at hx;cases hi:nj (F.ev i) len with
  |none=>simp[hi] at h
  |some j=>
   simp only[hi,Option.some.injEq] at h;subst h;obtain⟨k,hk,hj⟩:=lK hi;have mX:=(hk▸av hF i).fu;generalize hy:a.eval x=y at*
   cases hx with
   |sl hb=>refine⟨_,.ptr hb,λw=>?_⟩;have:=jQ (P:=P) w mX hj hn (.inr ⟨ht,_,hy⟩);simp only[execOp,ho];rw[Sem.run_bind,this];simp[Nat.add_assoc]
 .next id off len dq es e1=>
  rw[e1] at hx;cases hi:nj (F.ev i) len with
  |none=>simp[hi] at h
  |some j=>
   simp only[hi,Option.some.injEq] at h;subst h;obtain⟨k,hk,hj⟩:=lK hi;have mX:=(hk▸av hF i).fu;generalize hy:a.eval x=y at*
   cases hx with
   |op hb h0 h1 h2=>
    refine⟨_,.ptr hb,λw=>?_⟩;have:=jQ (P:=P) w mX hj hn (.inr ⟨ht,_,hy⟩);simp only[execOp,ho];rw[Sem.run_bind,this];simp[Nat.add_assoc]
   |za hb=>omega
 .cases h
theorem zp (hF:FR ρ F a.tmps){c:Call}{t e:TypeId}{x:Operand}{v:AV}(ho:o.op=.call c)(cz:c.callee=.builtin .len)(bZ:c.args=#[x])(gA:c.argTypes=#[t])
  (hu:P.underlying t=some (.slice e)) (h:DT false (F.ev x)=some v):Yields P ρ a o v:=by
 have hx:=av hF x;have key:∀{n:Nat} {p:Option Addr} {cp:Nat},a.eval x=.slice p n cp->∀w,(execOp a.eval o).run P w=.ok (.value (.int .i64 (n:Int))) w:=by intro n p cp e' w;simp[execOp,ho,resolve,cz,bZ,gA,invoke,builtin,Builtin.len_,run_underlying hu,e',goInt]
 simp only[DT] at h;split at h
 .next e1=>
  cases h;rw[e1] at hx;generalize hy:a.eval x=y at hx;cases hx with
  |sl hb=>exact⟨_,.sc rfl,key hy⟩
 .next e1=>
  cases h;rw[e1] at hx;generalize hy:a.eval x=y at hx;cases hx with
  |op hb h0 h1 h2=>exact⟨_,.sc rfl,key hy⟩
  |za hb=>exact⟨_,.sc rfl,key hy⟩
 .next e1=>cases h;rw[e1] at hx;exact⟨_,.sc rfl,key hx.fh.1⟩
 .cases h
theorem xU (hF:FR ρ F a.tmps){c:Call}{t:TypeId}{x:Operand}{v:AV}(ho:o.op=.call c)(cz:c.callee=.builtin .len)(bZ:c.args=#[x])(gA:c.argTypes=#[t])
  (hu:P.underlying t=some .string) (h:DT true (F.ev x)=some v):Yields P ρ a o v:=by
 have hx:=av hF x;simp only[DT] at h;split at h
 .next s e1=>cases h;rw[e1] at hx;refine⟨_,.sc rfl,λw=>?_⟩;simp[execOp,ho,resolve,cz,bZ,gA,invoke,builtin,Builtin.len_,run_underlying hu,hx.fh.1,goInt]
 .cases h
theorem sq {c:Call}{t:TypeId}{x:Operand}{n:Nat}(ho:o.op=.call c)(cz:c.callee=.builtin .len)(bZ:c.args=#[x])(gA:c.argTypes=#[t])
  (hu:(∃e,P.underlying t=some (.array n e))\/∃arr e,P.underlying t=some (.pointer arr)/\P.underlying arr=some (.array n e)):Yields P ρ a o (.sc (.int .i64 n)):=by
 refine⟨.int .i64 n,.sc rfl,λw=>?_⟩;rcases hu with⟨e,hu⟩|⟨arr,e,hu,hv⟩;.simp[execOp,ho,resolve,cz,bZ,gA,invoke,builtin,Builtin.len_,run_underlying hu,goInt]
 .simp[execOp,ho,resolve,cz,bZ,gA,invoke,builtin,Builtin.len_,run_underlying hu,run_underlying hv,goInt]
theorem we {m:Bool}{x y v:AV}{u z:Value}(h:n_ m x y=some v)(hx:V ρ x u)(hy:V ρ y z):∃r,V ρ v r/\∀w,((if m then Builtin.max2 u z else Builtin.min2 u z)).run P w=.ok r w:=by
 unfold n_ at h;split at h
 .next k b k' d=>
  cases h;have e1:=hx.fu;have e2:=hy.fu;subst e1 e2;cases m
  .refine⟨_,.sc rfl,λw=>?_⟩;by_cases cA:d<b<;>simp[Builtin.min2,f_,cA]
  .refine⟨_,.sc rfl,λw=>?_⟩;by_cases cA:b<d<;>simp[Builtin.max2,f_,cA]
 .cases h
theorem oQ {m:Bool}:∀{r:List AV} {rs:List Value} {x v:AV} {u:Value},r.foldlM (n_ m) x=some v->V ρ x u->VL ρ r rs->
  ∃z,V ρ v z/\∀w,(rs.foldlM (if m then Builtin.max2 else Builtin.min2) u:Sem Value).run P w=.ok z w
 |[],_,x,v,u,h,hx,.nil=>by simp at h;subst h;exact⟨u,hx,λw=>ac⟩
 |y::r,z::rs,x,v,u,h,hx,.cons hy hr=>by
  simp only[List.foldlM_cons,Option.bind_eq_bind,Option.bind_eq_some_iff] at h;obtain⟨q,hq,h⟩:=h;obtain⟨q',h1,h2⟩:=we (P:=P) hq hx hy;obtain⟨z',h3,h4⟩:=oQ h h1 hr;refine⟨z',h3,λw=>?_⟩;have:=h2 w;cases m
  .simp only[Bool.false_eq_true,if_false] at this h4⊢;simp[List.foldlM_cons,this,h4]
  .simp only[if_true] at this h4⊢;simp[List.foldlM_cons,this,h4]
theorem zq (hF:FR ρ F a.tmps){c:Call}{m:Bool}{v:AV}(ho:o.op=.call c)(cz:c.callee=.builtin (if m then .max else .min))(h:tA m (c.args.toList.map F.ev)=some v):Yields P ρ a o v:=by
 unfold tA at h;cases hl:c.args.toList with
 |nil=>simp[hl] at h
 |cons x r=>
  simp only[hl,List.map_cons] at h;obtain⟨z,h1,h2⟩:=oQ (P:=P) h (av hF x) (jF hF r);refine⟨z,h1,λw=>?_⟩;have:=h2 w;have hm:(c.args.map a.eval).toList=a.eval x::r.map a.eval:=by simp[hl]
  cases m
  .simp only[Bool.false_eq_true,if_false] at cz this;simp[execOp,ho,resolve,cz,invoke,builtin,Builtin.min_,hm,this,hl]
  .simp only[if_true] at cz this;simp[execOp,ho,resolve,cz,invoke,builtin,Builtin.max_,hm,this,hl]
theorem rE {F:Fr}(hF:FR ρ F a.tmps){x:Option Operand}{d n m:Nat}(h:fY (x.map F.ev) d n=some m):
  (x=none/\m=d)\/(∃q,x=some q/\m<=n/\∀n' code w,m<=n'->(Instr.sliceBound (a.eval q) n' code).run P w=.ok m w):=by
 cases x with
 |none=>simp[fY] at h;exact .inl ⟨rfl,h.symm⟩
 |some q=>simp only[Option.map_some,fY] at h;obtain⟨k,hk,hm⟩:=wN h;have hq:=(hk▸av hF q).fu;refine .inr ⟨q,rfl,hm,λn' code w iH=>?_⟩;rw[hq,run_sliceBound w k (m:Int) n' code am am];simp
theorem lN {lo hi mx:Option AV}{len cap l h m:Nat}(hb:jN lo hi mx len cap=some (l,h,m)):
  fY mx cap cap=some m/\fY hi len m=some h/\fY lo 0 h=some l/\(mx.isSome=true->hi.isSome=true):=by
 unfold jN at hb;cases h1:fY mx cap cap with
 |none=>simp[h1] at hb
 |some m'=>
  cases h2:fY hi len m' with
  |none=>simp[h1,h2] at hb
  |some h'=>
   cases h3:fY lo 0 h' with
   |none=>simp[h1,h2,h3] at hb
   |some l'=>
    simp only[h1,h2,h3] at hb;split at hb;.cases hb
    .next hn=>
     cases hb;refine⟨rfl,h2,h3,λhm=>?_⟩;cases hi with
     |some _=>rfl
     |none=>simp[hm] at hn
theorem mR (hF:FR ρ F a.tmps){QR:Bool}{lo hi mx:Option Operand}{len cap xV l h m:Nat}(hb:jN (lo.map F.ev) (hi.map F.ev) (mx.map F.ev) len cap=some (l,h,m))(hc:cap<=xV)(w:World):
  (Instr.sliceBounds QR len xV (lo.map a.eval) (hi.map a.eval) (mx.map a.eval)).run P w=.ok (l,h,if mx.isSome then m else xV) w:=by
 obtain⟨h1,h2,h3,h4⟩:=lN hb;rcases rE (P:=P) hF h1 with⟨rfl,rfl⟩|⟨q1,rfl,g1,We⟩<;>rcases rE (P:=P) hF h2 with⟨rfl,rfl⟩|⟨q2,rfl,g2,zb⟩<;>
  rcases rE (P:=P) hF h3 with⟨rfl,rfl⟩|⟨q3,rfl,g3,hq3⟩
 all_goals first
  |(simp at h4;done)
  |(simp only[Instr.sliceBounds,Option.map_none,Option.map_some]
    simp only[Sem.run_bind,Sem.run_pure,Result.andThen_ok];repeat(first|rw[We _ _ _ am]|rw[zb _ _ _ am]|rw[hq3 _ _ _ am]|simp only[Result.andThen_ok,Sem.run_bind,Sem.run_pure])
    try rfl)
theorem BA (hF:FR ρ F a.tmps){QR:Bool}{lo hi mx:Option Operand}{len cap l h m:Nat}(hb:jN (lo.map F.ev) (hi.map F.ev) (mx.map F.ev) len cap=some (l,h,m))(w:World):
  (Instr.sliceBounds QR len cap (lo.map a.eval) (hi.map a.eval) (mx.map a.eval)).run P w=.ok (l,h,m) w:=by
 rw[mR hF hb (Nat.le_refl _)];obtain⟨h1,_⟩:=lN hb;cases mx with
 |some q=>rfl
 |none=>simp[fY] at h1;subst h1;rfl
theorem xW {lo hi mx:Option AV}{len cap l h m:Nat}(hb:jN lo hi mx len cap=some (l,h,m))(hl:len<=cap):l<=h/\(hi=none->h=len)/\(hi≠none->h<=m)/\m<=cap:=by
 obtain⟨h1,h2,h3,h4⟩:=lN hb;have le:∀{x:Option AV} {d n r:Nat},fY x d n=some r->(x=none/\r=d)\/(x≠none/\r<=n):=by
  intro x d n r h;cases x with
  |none=>simp[fY] at h;exact .inl ⟨rfl,h.symm⟩
  |some q=>simp only[fY] at h;obtain⟨k,_,hm⟩:=wN h;exact .inr ⟨ac,hm⟩
 rcases le h1 with⟨e1,QN⟩|⟨e1,QN⟩<;>rcases le h2 with⟨e2,h2'⟩|⟨e2,h2'⟩<;>rcases le h3 with⟨e3,h3'⟩|⟨e3,h3'⟩<;>
  refine⟨am,λe=>?_,λe=>?_,am⟩<;>first|(exact absurd e e2)|(exact absurd e2 e)|omega
theorem zr (hF:FR ρ F a.tmps){t e:TypeId}{len n:Nat}{x:Operand}{lo hi mx:Option Operand}{v:AV}(ho:o.op=.slice t x lo hi mx)
  (ht:P.underlying t=some (.array len e)\/∃arr,P.underlying t=some (.pointer arr)/\P.underlying arr=some (.array len e))
  (hn:aQ P e=some n) (h:kx len n (F.ev x) (lo.map F.ev) (hi.map F.ev) (mx.map F.ev)=some v):Yields P ρ a o v:=by
 have hx:=av hF x;unfold kx at h;split at h
 .next id off e1=>
  rw[e1] at hx;obtain⟨b,o1,lm,hb,hx⟩:=hx.kB;split at h
  .next l hh m CL=>
   cases h;refine⟨.slice (some ⟨b,o1+(if Nat.beq m l then off else Nat.add off (Nat.mul l n)),none⟩) (hh-l) (m-l),.sl hb,λw=>?_⟩;have Jj:=BA (P:=P) (QR:=false) hF CL w;have FQ:(if m=l then(⟨b,o1+off,none⟩:Addr) else(⟨b,o1+off,none⟩:Addr).add (l*n))=⟨b,o1+(if Nat.beq m l then off else Nat.add off (Nat.mul l n)),none⟩:=by
    by_cases Jk:m=l
    .have:Nat.beq m l=true:=by rw[Nat.beq_eq];exact Jk
     rw[if_pos Jk,if_pos this]
    .have:¬Nat.beq m l=true:=by rw[Nat.beq_eq];exact Jk
     rw[if_neg Jk,if_neg this,gi];simp[Nat.add_assoc]
   rcases ht with hu|⟨arr,hu,hv⟩;.simp[execOp,ho,Instr.sliceAt,run_underlying hu,hx,Instr.sureAddr,Jj,eu hn,FQ]
   .simp[execOp,ho,Instr.sliceAt,run_underlying hu,Instr.slice,hx,asAddr,run_underlying hv,Jj,eu hn,FQ]
  .cases h
 .cases h
theorem D2 (a:Addr):a.add 0=a:=by simp[Addr.add]
theorem FT (hF:FR ρ F a.tmps){t e:TypeId}{n:Nat}{x:Operand}{lo hi mx:Option Operand}{v:AV}(ho:o.op=.slice t x lo hi mx)
  (hu:P.underlying t=some (.slice e)) (hn:aQ P e=some n) (h:dL n (F.ev x) (lo.map F.ev) (hi.map F.ev) (mx.map F.ev)=some v):Yields P ρ a o v:=by
 have hx:=av hF x;have key:∀{p:Option Addr} {len cap xV l hh m:Nat},a.eval x=.slice p len xV->jN (lo.map F.ev) (hi.map F.ev) (mx.map F.ev) len cap=some (l,hh,m)->cap<=xV->
   ∀w,(execOp a.eval o).run P w=.ok (.value (.slice (if(if mx.isSome then m else xV)=l then p else p.map (·.add (l*n))) (hh-l) ((if mx.isSome then m else xV)-l))) w:=by
  intro p len cap xV l hh m e1 Jj hc w;have:=mR (P:=P) (QR:=true) hF Jj hc w;simp[execOp,ho,Instr.sliceAt,run_underlying hu,Instr.slice,e1,this,eu hn]
 have FQ:∀(b o1 off l m:Nat),(if m=l then(some (⟨b,o1+off,none⟩:Addr)) else(some (⟨b,o1+off,none⟩:Addr)).map (·.add (l*n)))=some ⟨b,o1+(if Nat.beq m l then off else Nat.add off (Nat.mul l n)),none⟩:=by
  intro b o1 off l m;by_cases Jk:m=l
  .have:Nat.beq m l=true:=by rw[Nat.beq_eq];exact Jk
   rw[if_pos Jk,if_pos this]
  .have:¬Nat.beq m l=true:=by rw[Nat.beq_eq];exact Jk
   rw[if_neg Jk,if_neg this,Option.map_some,gi];simp[Nat.add_assoc]
 have Zw:∀{len cap l hh m:Nat},jN (lo.map F.ev) (hi.map F.ev) (mx.map F.ev) len cap=some (l,hh,m)->mx.isSome=false->m=cap:=by
  intro len cap l hh m hb hm;obtain⟨h1,_⟩:=lN hb;cases mx with
  |some q=>cases hm
  |none=>simp[fY] at h1;exact h1.symm
 unfold dL at h;split at h
 .next id off len cap e1=>
  rw[e1] at hx;generalize hy:a.eval x=y at hx;cases hx with
  |sl hb=>
   split at h
   .next l hh m CL=>
    cases h;refine⟨_,.sl hb,λw=>?_⟩;have:=key hy CL (Nat.le_refl _) w;have hm:(if mx.isSome=true then m else cap)=m:=by
     cases hq:mx.isSome;.exact(Zw CL hq).symm
     .rfl
    rw[hm,FQ] at this;exact this
   .cases h
 .next id off len dq es e1=>
  rw[e1] at hx;split at h
  .next D3=>
   have D3:=Nat.eq_of_beq_eq_true D3;subst D3;split at h
   .next l hh m CL=>
    generalize hy:a.eval x=y at hx;cases hx with
    |op hb h0 h1 h2=>
     rename_i b o1 lm cap;have hle:=xW CL h0;have hk:=key hy CL h1;cases mx with
     |some q=>
      simp only[Option.map_some] at h;simp only[Option.isSome_some,if_true] at hk;split at h
      .next hz=>
       have hz:=Nat.eq_of_beq_eq_true hz;subst hz;cases h;have hhi:hi.map F.ev≠none:=by obtain⟨_,_,_,g4⟩:=lN CL;intro e;have:=g4 ac;rw[e] at this;cases this
       have Zy:=hle.2.2.1 hhi;have QS:hh=0:=am;have Be:l=0:=am;have Jl:m=0:=am;subst QS Be Jl;exact⟨_,.za hb,λw=>by have:=hk w;simpa using this⟩
      .cases h;refine⟨_,.sl hb,λw=>?_⟩;have:=hk w;rw[FQ] at this;exact this
     |none=>
      simp only[Option.map_none] at h;simp only[Option.isSome_none,Bool.false_eq_true,if_false] at hk;cases h;have hm:=Zw CL rfl;subst hm;have hhc:hh<=m:=by
       by_cases e:hi.map F.ev=none;.rw[hle.2.1 e];exact h0
       .exact hle.2.2.1 e
      by_cases dc:cap=l
      .have e1:hh-l=0:=am;have e2:m-l=0:=am;simp only[Nat.sub_eq,e1,e2];refine⟨_,.za (x:=o1+off) hb,λw=>?_⟩;have:=hk w;rw[if_pos dc,e1,show cap-l=0 by omega] at this;exact this
      .refine⟨_,.op hb (by simp only[Nat.sub_eq];omega) (cap:=cap-l) (by simp only[Nat.sub_eq];omega) ?_,λw=>?_⟩
       .simp only[Nat.add_eq,Nat.mul_eq];have h3:(cap-l)*n=cap*n-l*n:=Nat.sub_mul _ _ _;have h4:l*n<=cap*n:=Nat.mul_le_mul_right _ am;omega
       .have:=hk w;rw[if_neg dc] at this;rw[this];simp[gi,Nat.add_assoc]
    |za hb=>
     rename_i b o1 lm xx;have hle:=xW CL (Nat.le_refl _);have hk:=key hy CL (Nat.le_refl _);have Zy:hh<=0:=by
      by_cases e:hi.map F.ev=none;.rw[hle.2.1 e];exact Nat.le_refl _
      .have:=hle.2.2.1 e;omega
     have QS:hh=0:=am;have Be:l=0:=am;have Jl:m=0:=am;subst QS Be Jl;have Lc:∀w,(execOp a.eval o).run P w=.ok (.value (.slice (some ⟨b,xx,none⟩) 0 0)) w:=λw=>by
      have:=hk w;cases mx<;>simpa using this
     cases mx with
     |some q=>
      simp only[Option.map_some] at h;cases h;exact⟨_,.za hb,Lc⟩
     |none=>simp only[Option.map_none] at h;cases h;exact⟨_,.za hb,Lc⟩
   .cases h
  .cases h
 .next sa e1=>
  rw[e1] at hx;have hy:=hx.fh.1;split at h
  .next p CL=>
   obtain⟨l,hh,m⟩:=p;cases h;have hle:=xW CL (Nat.le_refl _);have hk:=key hy CL (Nat.le_refl _);have Zy:hh<=0:=by
    by_cases e:hi.map F.ev=none;.rw[hle.2.1 e];exact Nat.le_refl _
    .have:=hle.2.2.1 e;omega
   have QS:hh=0:=am;have Be:l=0:=am;have Jl:m=0:=am;subst QS Be Jl;refine⟨_,.sc rfl,λw=>?_⟩;have:=hk w;cases sa<;>cases mx<;>simpa[D2] using this
  .cases h
 .cases h
theorem wR (hF:FR ρ F a.tmps){t u:TypeId}{x:Operand}{Mb ok:Bool}{v:AV}(ho:o.op=.typeAssert x u t ok)
  (hi:∃d,P.underlying t=some d/\Mb=(match d with|.interface _=>true|_=>false)) (h:iO P t Mb ok (gN P t) (F.ev x)=some v):Yields P ρ a o v:=by
 have hx:=av hF x;obtain⟨d,hu,Jm⟩:=hi;have FU:∀{z:AV},(if ok then(gN P t).map λz=>AV.dD [z,.sc (.bool false)] else none)=some z->ok=true/\∃zv,z=.dD [zv,.sc (.bool false)]/\gN P t=some zv:=by
  intro z hz;cases ok;.simp at hz
  .simp only[if_true,Option.map_eq_some_iff] at hz;obtain⟨zv,h1,h2⟩:=hz;exact⟨rfl,zv,h2.symm,h1⟩
 have mS:∀{zv:AV},gN P t=some zv->∃y,V ρ zv y/\∀w,(zeroValue t).run P w=.ok y w:=by intro zv hz;obtain⟨it,y,e1,e2,e3⟩:=fH hz;exact⟨y,lM e3,λw=>by simp[zeroValue,typeInfo,e1,e2]⟩
 unfold iO at h;simp only at h;split at h
 .next e1=>
  rw[e1] at hx;have hy:=hx.fh.1;obtain⟨rfl,zv,rfl,hz⟩:=FU h;obtain⟨y,Mt,QT⟩:=mS hz;refine⟨.tuple #[y,.bool false],.dD (.cons Mt (.cons (.sc rfl) .nil)),λw=>?_⟩;cases d<;>simp[execOp,ho,Instr.typeAssert,run_underlying hu,hy,QT]
 .next u' v' e1=>
  rw[e1] at hx;generalize hy:a.eval x=y at hx;cases hx with
  |iface hv=>
   rename_i vv;split at h
   .next FV=>
    rw[FV] at Jm;cases d<;>simp at Jm
    rename_i want;split at h
    .next ZA i hw Mu=>
     rw[hu] at hw;cases hw;split at h
     .next qy=>
      cases h;cases ok
      .refine⟨.iface u' vv,(by simp only[Bool.false_eq_true,if_false,e1];exact .iface hv),λw=>?_⟩;have hn:Instr.missingMethod want i.methods=none:=nA.2 qy;simp[execOp,ho,Instr.typeAssert,run_underlying hu,hy,typeInfo,Mu,hn]
      .refine⟨.tuple #[.iface u' vv,.bool true],.dD (.cons (by rw[e1];exact .iface hv) (.cons (.sc rfl) .nil)),λw=>?_⟩;have hn:Instr.missingMethod want i.methods=none:=nA.2 qy;simp[execOp,ho,Instr.typeAssert,run_underlying hu,hy,typeInfo,Mu,hn]
     .next QU=>
      obtain⟨rfl,zv,rfl,hz⟩:=FU h;obtain⟨y,Mt,QT⟩:=mS hz;refine⟨.tuple #[y,.bool false],.dD (.cons Mt (.cons (.sc rfl) .nil)),λw=>?_⟩;cases hm:Instr.missingMethod want i.methods with
      |none=>exact absurd (nA.1 hm) QU
      |some m=>simp[execOp,ho,Instr.typeAssert,run_underlying hu,hy,typeInfo,Mu,hm,QT]
    .cases h
   .next FV=>
    have hd:∀ms,d≠.interface ms:=λms e=>by subst e;simp at Jm;exact FV Jm
    split at h
    .next heq=>
     have heq:u'=t:=by simpa using heq
     subst heq;cases h;cases ok
     .refine⟨vv,hv,λw=>?_⟩;cases d<;>first|(exact absurd rfl (hd _))|simp[execOp,ho,Instr.typeAssert,run_underlying hu,hy]
     .refine⟨.tuple #[vv,.bool true],.dD (.cons hv (.cons (.sc rfl) .nil)),λw=>?_⟩;cases d<;>first|(exact absurd rfl (hd _))|simp[execOp,ho,Instr.typeAssert,run_underlying hu,hy]
    .next fI=>
     have fI:¬u'=t:=by simpa using fI
     obtain⟨rfl,zv,rfl,hz⟩:=FU h;obtain⟨y,Mt,QT⟩:=mS hz;refine⟨.tuple #[y,.bool false],.dD (.cons Mt (.cons (.sc rfl) .nil)),λw=>?_⟩;cases d<;>first|(exact absurd rfl (hd _))|simp[execOp,ho,Instr.typeAssert,run_underlying hu,hy,fI,QT]
 .cases h
theorem Ld (hF:FR ρ F a.tmps){x:Operand}(ho:o.op=.move x\/o.op=.assign x):Yields P ρ a o (F.ev x):=
 ⟨_,av hF x,λw=>by rcases ho with ho|ho<;>simp[execOp,ho]⟩
theorem Jn (hF:FR ρ F a.tmps){t:TypeId}{d:TypeDesc}{x:Operand}(ho:o.op=.makeInterface t x)(hu:P.underlying t=some d)(hd:∀ms,d≠.interface ms):Yields P ρ a o (.iface t (F.ev x)):=
 ⟨_,.iface (av hF x),λw=>by cases d<;>first|(exact absurd rfl (hd _))|simp[execOp,ho,Instr.makeInterface,run_underlying hu]⟩
theorem Mv (hF:FR ρ F a.tmps){f:FuncId}{first cap:Array Operand}(ho:o.op=.makeFunc (.func f) first cap):Yields P ρ a o (.fn (.func f) (first.toList.map F.ev) (cap.toList.map F.ev)):=
 ⟨_,.fn rfl (jF hF first.toList) (jF hF cap.toList),λw=>by
   have e1:∀xs:Array Operand,(xs.toList.map a.eval).toArray=xs.map a.eval:=λxs=>by apply Array.ext';simp
   simp[execOp,ho,Instr.makeFunc,e1]⟩
end
section
variable[kg]
variable{P:Program}{ρ:Ren}{F:Fr}{a:Act}{o:Oper}{S:AH}{w:World}
theorem cells?_some {id:Nat}{c:List AV}(h:S.cells? id=some c):S.get id=some (.row c)\/S.get id=some (.ro c):=by
 unfold AH.cells? at h;cases hg:S.get id with
 |none=>simp[hg] at h
 |some ob=>simp[hg] at h;rcases xN h with rfl|rfl<;>simp
theorem D4 {id:Nat}{c:List AV}(h:S.row? id=some c):S.get id=some (.row c):=by
 unfold AH.row? at h;cases hg:S.get id with
 |none=>simp[hg] at h
 |some ob=>simp[hg] at h;rw[Br h]
theorem R.cells (hR:R P ρ S w){id b o1 l:Nat}{c:List AV}(h:S.cells? id=some c)(hi:ρ id=some (b,o1,l)):
  ∀(i:Nat) v,c[i]?=some v->∃x,w.cell? ⟨b,o1+i,none⟩=some x/\V ρ v x/\x.oneCell'=true:=by
 intro i v hv;rcases cells?_some h with hg|hg
 .obtain⟨c',e,h1,h2,h3,h4⟩:=hR.iQ hg hi;obtain⟨x,e1,e2,e3⟩:=h4 i v hv;exact⟨x,by simp[World.cell?,h1,e1],e2,e3⟩
 .exact hR.iQ hg hi i v hv
theorem Jo {α β:Type}{Q:Nat->α->β->Prop}:∀(l:List α),(∀(i:Nat) v,l[i]?=some v->∃x,Q i v x)->∃xs:List β,xs.length=l.length/\∀(i:Nat) v x,l[i]?=some v->xs[i]?=some x->Q i v x:=by
 intro l;induction l generalizing Q with
 |nil=>intro _;exact⟨[],rfl,λi v x h=>by simp at h⟩
 |cons v l ih=>
  intro h;obtain⟨x,hx⟩:=h 0 v rfl;obtain⟨xs,h1,h2⟩:=ih (Q:=λi=>Q (i+1)) λi v hv=>h (i+1) v (by simpa using hv);refine⟨x::xs,by simp[h1],λi u y hu hy=>?_⟩;cases i with
  |zero=>simp at hu hy;subst hu hy;exact hx
  |succ i=>exact h2 i u y (by simpa using hu) (by simpa using hy)
theorem R.om (hR:R P ρ S w){id b o1 l:Nat}{c:List AV}(h:S.cells? id=some c)(hi:ρ id=some (b,o1,l))(off n:Nat)(hl:off+n<=c.length):
  ∃xs:List Value,xs.length=n/\VL ρ ((c.drop off).take n) xs/\(∀x∈xs,x.oneCell'=true)/\∀(j:Nat) v,xs[j]?=some v->w.cell? ((⟨b,o1+off,none⟩:Addr).add j)=some v:=by
 have hc:=hR.cells h hi;obtain⟨xs,h1,h2⟩:=Jo (Q:=λj v x=>w.cell? ⟨b,o1+off+j,none⟩=some x/\V ρ v x/\x.oneCell'=true) ((c.drop off).take n) λj v hv=>by
  have hj:j<n:=by have:=(List.getElem?_eq_some_iff.1 hv).1;simp at this;omega
  rw[List.getElem?_take,if_pos hj,List.getElem?_drop] at hv;obtain⟨x,e1,e2,e3⟩:=hc _ _ hv;exact⟨x,by rw[<-e1,Nat.add_assoc],e2,e3⟩
 have hlen:((c.drop off).take n).length=n:=by simp;omega
 refine⟨xs,am,VL.xP h1.symm λi v x e1 e2=>(h2 i v x e1 e2).2.1,λx hx=>?_,λj v hv=>?_⟩
 .obtain⟨i,kj,rfl⟩:=List.getElem_of_mem hx;have hv:((c.drop off).take n)[i]?=some (((c.drop off).take n)[i]' am):=List.getElem?_eq_getElem am;exact(h2 i _ _ hv ac).2.2
 .have hj:=(List.getElem?_eq_some_iff.1 hv).1;have hu:((c.drop off).take n)[j]?=some (((c.drop off).take n)[j]' am):=List.getElem?_eq_getElem am;rw[gi];exact(h2 j _ _ hu hv).1
def xX (P:Program)(ρ:Ren)(a:Act)(o:Oper)(v:AV)(w:World):Prop:=∃x,V ρ v x/\(execOp a.eval o).run P w=.ok (.value x) w
theorem wS (hR:R P ρ S w){t:TypeId}{n:Nat}{g:Bool}{p v:AV}{x:Value}(hn:aQ P t=some n)(hg:eJ P t=some g)(hx:V ρ p x)(h:mQ S n g p=some v):
  ∃y,V ρ v y/\(Instr.loadAt t x).run P w=.ok y w:=by
 unfold mQ at h;cases hp:iN p with
 |none=>simp[hp] at h
 |some q=>
  obtain⟨id,off⟩:=q;simp only[hp] at h;cases hc:S.cells? id with
  |none=>simp[hc] at h
  |some c=>
   simp only[hc] at h;obtain⟨b,o1,l,hb,rfl⟩:=(gz hp▸hx).kB;unfold fE at h;cases g with
   |true=>
    simp only at h;split at h
    .next hl=>
     cases h;have Bt:off+n<=c.length:=by have:=Nat.le_of_ble_eq_true hl;rw[aS] at this;exact this
     obtain⟨xs,h1,h2,h3,h4⟩:=hR.om hc hb off n Bt;refine⟨.agg xs.toArray,?_,?_⟩;.rw[dF,dV];exact .agg h2 h3
     .have b6:=run_loadCells_list (P:=P) w ⟨b,o1+off,none⟩ xs h4;rw[h1] at b6;simp[Instr.loadAt,Instr.sureAddr,loadVar,kD hg,eu hn,b6]
    .cases h
   |false=>simp only[og] at h;obtain⟨x,e1,e2,e3⟩:=hR.cells hc hb _ _ h;refine⟨x,e2,?_⟩;simp[Instr.loadAt,Instr.sureAddr,loadVar,kD hg,e1]
theorem Mw (hR:R P ρ S w)(hF:FR ρ F a.tmps){t:TypeId}{n:Nat}{g:Bool}{p:Operand}{v:AV}(ho:o.op=.load t p)(hn:aQ P t=some n)(hg:eJ P t=some g)
  (h:mQ S n g (F.ev p)=some v):xX P ρ a o v w:=by
 obtain⟨y,h1,h2⟩:=wS hR hn hg (av hF p) h;exact⟨y,h1,by simp[execOp,ho,h2]⟩
def FW (ρ:Ren)(es:List (Value×AV))(gq:List MapEntry):Prop:=gq.length=es.length/\∀(i:Nat) k v,es[i]?=some (k,v)->∃e,gq[i]?=some e/\e.key=k/\V ρ v e.val
theorem BB (hR:R P ρ S w){m:AV}{es:List (Value×AV)}{x:Value}(h:mapOf S m=some es)(hx:V ρ m x):
  (x=.map none/\es=[])\/(∃id b o1 l gq clock,m=.map id/\ρ id=some (b,o1,l)/\S.get id=some (.map es)/\x=.map (some b)/\w.heap[b]?=some (.map gq clock)/\FW ρ es gq.toList):=by
 unfold mapOf at h;split at h;.cases h;exact .inl ⟨hx.fh.1,rfl⟩
 .next id=>
  split at h
  .next es0 hg=>
   cases h;cases hx with
   |map hb=>obtain⟨gq,clock,h1,h2,h3⟩:=hR.iQ hg hb;exact .inr ⟨id,_,_,_,gq,clock,rfl,hb,hg,rfl,h1,by simpa using h2,λi k v hi=>by obtain⟨e,a,b,c⟩:=h3 i k v hi;exact⟨e,by simpa using a,b,c⟩⟩
  .cases h
 .cases h
theorem zt {kt:TypeId}{x y:Value}{b:Bool}(h:CG P kt x y=some b)(w:World):(Op.equal kt x y).run P w=.ok b w:=by
 unfold CG at h;split at h
 .next d k p k' q hu=>
  split at h
  .next hk=>cases h;have:=nu hk;subst this;show(Op.equalIn (9999+1) kt _ _).run P w=_;generalize 9999=d9;simp[Op.equalIn,run_underlying hu,gP]
  .cases h
 .exact gh h w
def ug (ρ:Ren):Option (Nat×AV)->Option (Nat×Value)->Prop
 |none,none=>True
 |some (i,v),some (j,x)=>i=j/\V ρ v x
 |_,_=>False
theorem iS {kt:TypeId}{k:Value}(w:World):∀{es:List (Value×AV)} {gq:List MapEntry} {i:Nat} {r:Option (Nat×AV)},wL P kt k es i=some r->FW ρ es gq->
  ∃r',(Instr.findAsking kt k gq i).run P w=.ok r' w/\ug ρ r r'
 |[],gq,i,r,h,he=>by
  simp[wL] at h;subst h;have:gq=[]:=List.eq_nil_of_length_eq_zero he.1;subst this;exact⟨none,rfl,trivial⟩
 |(k',v)::es,gq,i,r,h,he=>by
  cases gq with
  |nil=>have:=he.1;simp at this
  |cons e gq=>
   obtain⟨e0,h1,h2,h3⟩:=he.2 0 k' v rfl;simp at h1;subst h1;simp only[wL] at h;cases hk:CG P kt k k' with
   |none=>simp[hk] at h
   |some b=>
    have b6:=zt hk w;rw[<-h2] at b6;cases b with
    |true=>
     simp[hk] at h;subst h;exact⟨some (i,e.val),by simp[Instr.findAsking,b6],rfl,h3⟩
    |false=>simp only[hk] at h;have he':FW ρ es gq:=⟨by have:=he.1;simpa using this,λi k v hi=>by have:=he.2 (i+1) k v (by simpa using hi);simpa using this⟩;obtain⟨r',h4,h5⟩:=iS w h he';exact⟨r',by simp[Instr.findAsking,b6,h4],h5⟩
theorem wg {kt:TypeId}{d:TypeDesc}(hu:P.underlying kt=some d){x y:Value}{b:Bool}(h:Instr.sameNow d x y=some b)(w:World):(Op.equal kt x y).run P w=.ok b w:=by
 unfold Instr.sameNow at h;split at h
 .split at h
  .next hk=>cases h;subst hk;show(Op.equalIn (9999+1) kt _ _).run P w=_;generalize 9999=d9;simp[Op.equalIn,run_underlying hu]
  .cases h
 .cases h;show(Op.equalIn (9999+1) kt _ _).run P w=_;generalize 9999=d9;simp[Op.equalIn,run_underlying hu]
 .cases h;show(Op.equalIn (9999+1) kt _ _).run P w=_;generalize 9999=d9;simp[Op.equalIn,run_underlying hu]
 .cases h
theorem oR {kt:TypeId}{d:TypeDesc}(hu:P.underlying kt=some d){k:Value}(w:World):∀{es:List MapEntry} {i:Nat} {r:Option (Nat×Value)},Instr.findNow d k es i=some r->
  (Instr.findAsking kt k es i).run P w=.ok r w
 |[],i,r,h=>by simp[Instr.findNow] at h;subst h;rfl
 |e::es,i,r,h=>by
  simp only[Instr.findNow] at h;cases hs:Instr.sameNow d k e.key with
  |none=>simp[hs] at h
  |some b=>
   have:=wg hu hs w;cases b with
   |true=>simp[hs] at h;subst h;simp[Instr.findAsking,this]
   |false=>simp only[hs] at h;simp[Instr.findAsking,this,oR hu w h]
theorem iI {kt:TypeId}{d:TypeDesc}(hu:P.underlying kt=some d){k:Value}{es:List MapEntry}{r:Option (Nat×Value)}(h:(Instr.findAsking kt k es).run P w=.ok r w):
  (Instr.findKey kt k es).run P w=.ok r w:=by
 unfold Instr.findKey;rw[Sem.run_bind,run_underlying hu,Result.andThen_ok];cases hn:Instr.findNow d k es 0 with
 |none=>exact h
 |some r'=>have:=oR hu w hn;rw[this] at h;cases h;rfl
theorem sr {kt:TypeId}{e:Bool}{k:Value}(h:CH P kt e k=true)(w:World):(Instr.checkKey e 10000 kt k).run P w=.ok () w:=by
 unfold CH at h;cases hp:br P (Instr.checkKey e 10000 kt k) with
 |none=>simp[hp] at h
 |some u=>exact gh hp w
theorem pC {b:Nat}{es:Array MapEntry}{clock:Nat}(h:w.heap[b]?=some (.map es clock)):(getObj b).run P w=.ok (.map es clock) w:=by simp[getObj,Sem.run,h]
theorem FX (hR:R P ρ S w)(hF:FR ρ F a.tmps){t kt e:TypeId}{d:TypeDesc}{ok:Bool}{z:AV}{m k:Operand}{v:AV}(ho:o.op=.lookup t m k ok)(ht:P.underlying t=some (.map kt e))
  (hk:P.underlying kt=some d) (hz:gN P e=some z) (h:qi P S kt ok z (F.ev m) (F.ev k)=some v):xX P ρ a o v w:=by
 unfold qi at h;split at h
 .next kv es Jp D3=>
  have ek:=jE Jp (av hF k);split at h
  .next gY=>
   have FY:=sr gY w;obtain⟨it,zv,e1,e2,e3⟩:=fH hz;have mS:(zeroValue e).run P w=.ok zv w:=by simp[zeroValue,typeInfo,e1,e2]
   obtain⟨gq,qz,FZ,b6⟩:∃gq:Array MapEntry,FW ρ es gq.toList/\gq.isEmpty=es.isEmpty/\
     ∀r',(Instr.findKey kt kv gq.toList).run P w=.ok r' w->(execOp a.eval o).run P w=
      .ok (.value (let p:=(match r' with|some (_,v)=>(v,true)|none=>(zv,false));if ok then .tuple #[p.1,.bool p.2] else p.1)) w:=by
    rcases BB hR D3 (av hF m) with⟨em,rfl⟩|⟨id,b,o1,l,gq,clock,_,hb,hg,em,hh,qz⟩
    .refine⟨#[],⟨rfl,λi k v hi=>by simp at hi⟩,rfl,λr' py=>?_⟩;simp only[List.isEmpty_nil] at FY;cases r' with
     |none=>simp[execOp,ho,Instr.lookup,run_underlying ht,em,ek,FY,py,mS]
     |some q=>simp[execOp,ho,Instr.lookup,run_underlying ht,em,ek,FY,py,mS]
    .have QV:gq.isEmpty=es.isEmpty:=by
      have:=qz.1;simp at this;cases es with
      |nil=>simp at this;simp[this]
      |cons p es=>rw[List.isEmpty_cons,Array.isEmpty_eq_false_iff];intro e;rw[e] at this;simp at this
     refine⟨gq,qz,QV,λr' py=>?_⟩;rw[<-QV] at FY;have Mx:=pC (P:=P) hh;cases r' with
     |none=>simp[execOp,ho,Instr.lookup,run_underlying ht,em,ek,Mx,FY,py,mS]
     |some q=>simp[execOp,ho,Instr.lookup,run_underlying ht,em,ek,Mx,FY,py,mS]
   split at h
   .next i u hf=>
    obtain⟨r',h1,h2⟩:=iS w hf qz;cases r' with
    |none=>exact h2.elim
    |some q=>
     obtain⟨j,x⟩:=q;have:=b6 _ (iI hk h1);cases h;cases ok;.exact⟨x,h2.2,by simpa using this⟩
     .exact⟨_,.dD (.cons h2.2 (.cons (.sc rfl) .nil)),by simpa using this⟩
   .next hf=>
    obtain⟨r',h1,h2⟩:=iS w hf qz;cases r' with
    |some q=>exact h2.elim
    |none=>
     have:=b6 _ (iI hk h1);cases h;cases ok;.exact⟨zv,lM e3,by simpa using this⟩
     .exact⟨_,.dD (.cons (lM e3) (.cons (.sc rfl) .nil)),by simpa using this⟩
   .cases h
  .cases h
 .cases h
end
section
variable[kg]
variable{P:Program}{ρ:Ren}{F:Fr}{a:Act}{o:Oper}{S:AH}{w:World}
def de:fD->Option (AO×(Nat->AV))
 |.alloc cs=>some (.row cs,λid=>.ptr id 0)
 |.box x=>match odd x with
  |true=>none
  |false=>some (.row x.cells,λid=>.ptr id 0)
 |.gK es n zero parts=>match fo (bh zero n) parts with
  |some c=>match Nat.beq (bD c) (Nat.mul n es)&&Nat.beq (bD zero) es with
   |true=>some (.row c,λid=>.sl id 0 n n)
   |false=>none
  |none=>none
 |.gL es bytes zero len cap=>match asInt len with
  |some (_,l)=>match asInt cap with
   |some (_,c)=>match nat? l with
    |some l=>match nat? c with
     |some c=>match Nat.ble l c&&Nat.ble (Nat.mul bytes c) 140737488355328&&Nat.ble c 9223372036854775807&&Nat.beq (bD zero) es with
      |true=>some (.row (bh zero c),λid=>.sl id 0 l c)
      |false=>none
     |none=>none
    |none=>none
   |none=>none
  |none=>none
 |.CA=>some (.map [],λid=>.map id)
 |_=>none
theorem qA {o:fD}(h:o.kind=.alloc)(S:AH):evalOp P o S=match de o with
  |some (ob,f)=>some (f S.next,S.new ob)
  |none=>none:=by
 cases o<;>first|rfl|(cases h;done)|skip
 case box x=>
  show Bo x S=_;simp only[Bo,de];cases odd x<;>rfl
 case gK es n zero parts=>
  show eI es n zero parts S=_;simp only[eI,de];cases fo (bh zero n) parts with
  |none=>rfl
  |some c=>simp only;cases(Nat.beq (bD c) (Nat.mul n es)&&Nat.beq (bD zero) es)<;>rfl
 case gL es bytes zero len cap=>
  show gM es bytes zero len cap S=_;simp only[gM,de];cases asInt len with
  |none=>rfl
  |some p=>
   cases asInt cap with
   |none=>rfl
   |some q=>
    obtain⟨_,l⟩:=p;obtain⟨_,c⟩:=q;simp only;cases nat? l with
    |none=>rfl
    |some l=>
     cases nat? c with
     |none=>rfl
     |some c=>simp only;cases(Nat.ble l c&&Nat.ble (Nat.mul bytes c) 140737488355328&&Nat.ble c 9223372036854775807&&Nat.beq (bD zero) es)<;>rfl
theorem xY {o:fD}{ob:AO}{f:Nat->AV}(h:de o=some (ob,f)):px ob=false:=by
 unfold de at h;split at h<;>(repeat' split at h)<;>first|(cases h;done)|(cases h;rfl)
def su (P:Program)(ρ:Ren)(a:Act)(o:Oper)(ob:AO)(f:Nat->AV)(w:World):Prop:=
 ∃x w' l,(execOp a.eval o).run P w=.ok (.value x) w'/\sn w w'/\w'.heap.size=w.heap.size+1/\(∀b,b<w.heap.size->w'.heap[b]?=w.heap[b]?)/\
  ∀aT id,ρ.le aT->aT id=some (w.heap.size,0,l)->V aT (f id) x/\OR P aT w' w.heap.size 0 l ob
theorem sw (w:World)(ob:Obj):sn w (w.alloc ob):=⟨rfl,rfl,rfl⟩
theorem alloc_old (w:World)(ob:Obj)(b:Nat)(h:b<w.heap.size):(w.alloc ob).heap[b]?=w.heap[b]?:=by show(w.heap.push ob)[b]?=_;simp[Array.getElem?_push,Nat.ne_of_lt h]
theorem nB (w:World)(ob:Obj):(w.alloc ob).heap[w.heap.size]?=some ob:=by show(w.heap.push ob)[w.heap.size]?=_;simp
theorem ig (w:World)(ob:Obj):(w.alloc ob).heap.size=w.heap.size+1:=by show(w.heap.push ob).size=_;simp
theorem oq {cells:List AV}{c:Array Value}{e:TypeId}{x:Value}{f:Nat->AV}(hc:VL ρ cells c.toList)(h1:∀y∈c.toList,y.oneCell'=true)
  (b6:(execOp a.eval o).run P w=.ok (.value x) (w.alloc (.cells c e)))
  (hv:∀aT id,aT id=some (w.heap.size,0,c.size)->V aT (f id) x):su P ρ a o (.row cells) f w:=by
 refine⟨x,_,c.size,b6,sw w _,ig w _,alloc_old w _,λaT id hl bQ=>⟨hv aT id bQ,c,e,nB w _,rfl,?_,λi v hi=>?_⟩⟩;.have:=hc.length;simp at this;omega
 .obtain⟨y,e1,e2⟩:=hc.get hi;refine⟨y,by simpa using e1,e2.mono hl,h1 y (List.mem_of_getElem? e1)⟩
theorem Jq {t:TypeId}{zc:List AV}(ho:o.op=.alloc t)(hz:eS P t=some zc):su P ρ a o (.row zc) (λid=>.ptr id 0) w:=by obtain⟨z,Fh,mg,rfl⟩:=ic hz;obtain⟨it,zv,e1,e2,e3⟩:=fH Fh;obtain⟨hc,h1⟩:=jG (ρ:=ρ) e3 mg;refine oq (e:=t) hc h1 (x:=.pointer (some ⟨w.heap.size,0,none⟩)) ?_ λaT id h=>V.ptr h;simp[execOp,ho,Instr.alloc,zeroValue,typeInfo,e1,e2,newVar,newRow]
theorem QW (hF:FR ρ F a.tmps){t:TypeId}{x:Operand}(ho:o.op=.box t x)(mg:odd (F.ev x)=false):su P ρ a o (.row (F.ev x).cells) (λid=>.ptr id 0) w:=by obtain⟨hc,h1⟩:=(av hF x).xR mg;refine oq (e:=t) hc h1 (x:=.pointer (some ⟨w.heap.size,0,none⟩)) ?_ λaT id h=>V.ptr h;simp[execOp,ho,Instr.box,newVar,newRow]
theorem gQ (z:List AV):∀n,(bh z n).length=n*z.length
 |0=>by simp[bh]
 |n+1=>by simp[bh,ft,gQ z n,Nat.add_mul];omega
theorem sx (z:List AV):∀(n i:Nat),i<n*z.length->(bh z n)[i]?=z[i%z.length]?
 |0,i,h=>by simp at h
 |n+1,i,h=>by
  simp only[bh,ft];by_cases hi:i<z.length;.rw[List.getElem?_append_left hi,Nat.mod_eq_of_lt hi]
  .rw[List.getElem?_append_right am,sx z n (i-z.length) (by rw[Nat.add_mul] at h;omega)];congr 1;rw[<-Nat.mod_eq_sub_mod am]
theorem nC {z:List AV}{zs:Array Value}{es n m:Nat}(hz:VL ρ z zs.toList)(h1:∀y∈zs.toList,y.oneCell'=true)(D3:z.length=es)(hm:m=n*es):
  VL ρ (bh z n) ((Array.range m).map λi=>zs[i%zs.size]!).toList/\∀y∈((Array.range m).map λi=>zs[i%zs.size]!).toList,y.oneCell'=true:=by
 have hs:zs.size=es:=by have:=hz.length;simp at this;omega
 have gZ:∀i,i<m->∃v x,z[i%es]?=some v/\zs[i%zs.size]! =x/\V ρ v x/\x.oneCell'=true:=by
  intro i hi;have Wf:0<es:=by
   rcases Nat.eq_zero_or_pos es with e|e;.subst e;simp at hm;omega
   .exact e
  have cA:i%es<z.length:=by rw[D3];exact Nat.mod_lt _ Wf
  have hv:z[i%es]?=some z[i%es]:=List.getElem?_eq_getElem cA;obtain⟨x,e1,e2⟩:=hz.get hv;refine⟨_,x,hv,?_,e2,h1 x (List.mem_of_getElem? e1)⟩;rw[hs];rw[Array.getElem?_toList] at e1;simp[getElem!_def,e1]
 refine⟨VL.xP (by simp[gQ,D3,hm]) λi v x hi hx=>?_,λy hy=>?_⟩
 .have Wg:i<m:=by have:=(List.getElem?_eq_some_iff.1 hx).1;simpa using this
  rw[sx z n i (by rw[D3,<-hm];exact Wg),D3] at hi;obtain⟨v',x',e1,e2,e3,e4⟩:=gZ i Wg;rw[e1] at hi;cases hi;simp[Wg] at hx;rw[<-hx,e2];exact e3
 .simp only[Array.toList_map,Array.toList_range,List.mem_map,List.mem_range] at hy;obtain⟨i,hi,rfl⟩:=hy;obtain⟨v',x',e1,e2,e3,e4⟩:=gZ i hi;rw[e2];exact e4
theorem F4 (hF:FR ρ F a.tmps){t e:TypeId}{len es:Nat}{parts:Array (Nat×Operand)}{zc c:List AV}{ps:List (Nat×Nat×AV)}(ho:o.op=.buildSlice t len parts)
  (hu:P.underlying t=some (.slice e)) (hn:aQ P e=some es) (hz:eS P e=some zc) (hle:¬len*es>16777216) (hp:partsOf F (λi=>some (i*es,es)) parts.toList=some ps)
  (hf:fo (bh zc len) ps=some c) (hlen:bD c=len*es) (My:bD zc=es):su P ρ a o (.row c) (λid=>.sl id 0 len len) w:=by
 obtain⟨z,Fh,mg,rfl⟩:=ic hz;obtain⟨it,zv,e1,e2,e3⟩:=fH Fh;obtain⟨hc,h1⟩:=jG (ρ:=ρ) e3 mg;rw[aS] at hlen My;obtain⟨ie,IZ,xZ⟩:=jP hn;obtain⟨zs,UZ,mS⟩:∃zs:Array Value,(VL ρ (bh z.cells len) ((Array.range (len*es)).map λi=>zs[i%zs.size]!).toList/\∀y∈((Array.range (len*es)).map λi=>zs[i%zs.size]!).toList,y.oneCell'=true)/\
   (if len*es=0 then pure #[] else do pure (<-zeroValue e).cells:Sem (Array Value)).run P w=.ok zs w:=by
  by_cases h0:len*es=0
  .refine⟨#[],⟨?_,?_⟩,by simp[h0]⟩
   .have:bh z.cells len=[]:=List.eq_nil_of_length_eq_zero (by rw[gQ,My,h0]);rw[this,h0];simpa using VL.nil
   .rw[h0];intro y hy;simp at hy
  .exact⟨zv.cells,nC hc h1 My rfl,by simp[h0,zeroValue,typeInfo,e1,e2]⟩
 obtain⟨Fg,g1,g2,g3⟩:=pz hF parts.toList hp hf UZ.1 UZ.2;have em:(parts.map λ(i,x)=>(i,a.eval x)).toList=parts.toList.map λp=>(p.1,a.eval p.2):=ac;have dC:Fg.size=len*es:=by have:=g2.length;simp at this;omega
 refine oq (e:=e) g2 g3 (x:=.slice (some ⟨w.heap.size,0,none⟩) len len) ?_ λaT id h=>V.sl h;have Wh:¬(16777216<len*es):=hle;simp only[execOp,ho];rw[Sem.run_bind];have:(Instr.buildSlice t len (parts.map λ(i,x)=>(i,a.eval x))).run P w=.ok (.slice (some ⟨w.heap.size,0,none⟩) len len) (w.alloc (.cells Fg e)):=by
  unfold Instr.buildSlice;rw[Sem.run_bind,run_underlying hu,Result.andThen_ok];simp only;rw[Sem.run_bind,eu hn,Result.andThen_ok];simp only[em];simp only[show((2:Nat)^24)=16777216 from rfl,gt_iff_lt,Wh,if_false];by_cases h0:len*es=0
  .rw[if_pos h0,Sem.run_pure] at mS;injection mS with hq;subst hq;rw[if_pos h0,Sem.run_bind,Sem.run_pure,Result.andThen_ok];simp only[g1];simp[newRow]
  .have hq:zv.cells=zs:=by simpa[h0,zeroValue,typeInfo,e1,e2] using mS
   subst hq;have UY:(zeroValue e).run P w=.ok zv w:=by simp[zeroValue,typeInfo,e1,e2]
   rw[if_neg h0,Sem.run_bind,UY,Result.andThen_ok,Sem.run_bind,Sem.run_pure,Result.andThen_ok];simp only[g1];simp[newRow]
 rw[this];rfl
theorem D5 (hF:FR ρ F a.tmps){t e:TypeId}{es bytes l c:Nat}{x y:Operand}{zc:List AV}{k k':IntKind}(ho:o.op=.makeSlice t x y)(hu:P.underlying t=some (.slice e))
  (hn:aQ P e=some es) (hb:h9 P e=some bytes) (hz:eS P e=some zc) (hx:F.ev x=.sc (.int k (l:Int))) (hy:F.ev y=.sc (.int k' (c:Int))) (Lf:l<=c) (hbc:bytes*c<=140737488355328)
  (abe:c<=9223372036854775807) (My:bD zc=es):su P ρ a o (.row (bh zc c)) (λid=>.sl id 0 l c) w:=by
 obtain⟨z,Fh,mg,rfl⟩:=ic hz;obtain⟨it,zv,e1,e2,e3⟩:=fH Fh;obtain⟨hc,h1⟩:=jG (ρ:=ρ) e3 mg;rw[aS] at My;obtain⟨ie,IZ,rfl⟩:=jP hn;have Mz:it=ie:=by rw[e1] at IZ;cases IZ;rfl
 subst Mz;have Wi:it.bytes=bytes:=by unfold h9 at hb;rw[e1] at hb;exact Option.some.inj hb
 have hex:=(hx▸av hF x).fu;have ZB:=(hy▸av hF y).fu;have ZC:=nC (n:=c) hc h1 My rfl;have hw:IntKind.i64.wrap (l:Int)=l:=xO .i64 l (by show l<=9223372036854775807;omega);have dt:IntKind.i64.wrap (c:Int)=c:=xO .i64 c (by show c<=9223372036854775807;omega);have QX:zv.cells.size=it.size:=by have:=hc.length;simp at this;omega
 refine oq (e:=e) ZC.1 ZC.2 (x:=.slice (some ⟨w.heap.size,0,none⟩) l c) ?_ λaT id h=>V.sl h;have n1:¬((c:Int)<0):=am;have n2:¬((281474976710656:Int)<(it.bytes:Int)*(c:Int)):=by rw[Wi,<-Int.natCast_mul];omega
 have n3:¬((l:Int)<0):=am;have n4:¬((c:Int)<(l:Int)):=am;by_cases h0:c*it.size=0;.simp[execOp,ho,Instr.makeSlice,run_underlying hu,hex,ZB,asInt,Go.asInt,asIntOf,typeInfo,e1,hw,dt,n1,n2,n3,n4,sizeOf,h0,newRow,Array.range_zero']
 .simp[execOp,ho,Instr.makeSlice,run_underlying hu,hex,ZB,asInt,Go.asInt,asIntOf,typeInfo,e1,hw,dt,n1,n2,n3,n4,sizeOf,h0,newRow,zeroValue,e2]
theorem Jr {t k e:TypeId}(ho:o.op=.makeMap t none):su P ρ a o (.map []) (λid=>.map id) w:=by refine⟨.map (some w.heap.size),w.alloc (.map #[] 0),0,?_,sw w _,ig w _,alloc_old w _,λaT id hl bQ=>⟨.map bQ,#[],0,nB w _,rfl,λi k v hi=>by simp at hi⟩⟩;simp[execOp,ho,Instr.makeMap]
end
end
end Go.cO
