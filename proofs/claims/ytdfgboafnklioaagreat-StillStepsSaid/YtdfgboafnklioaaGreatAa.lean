/- The abstract machine: values, memory, operations, code; and each operation does what the model does. No condition. -/
import GoSem.Dispatch
import GoSem.Core.Region
import Derived.Laws.Append
import Derived.Laws.CopyRow
import Derived.Deep.MidRow
import Derived.WalkLawsBesides
import Derived.Laws.Slices
import Derived.Laws.Tables
import Derived.Laws.MakeOwn
set_option linter.all false
set_option maxRecDepth 100000
set_option maxHeartbeats 4000000
namespace Go.cI
noncomputable section
theorem am{p:Prop}(h:p:=by omega):p:=h
theorem ac{p:Prop}(h:p:=by simp):p:=h
theorem ci{p:Prop}(h:p:=by assumption):p:=h
theorem dl{p:Prop}(h:p:=by decide):p:=h
inductive T (α:Type) where
 |e
 |n (l:T α)(v:Option α)(r:T α)
namespace T
variable{α:Type}
def get:T α->Nat->Option α
 |.e,_=>none
 |.n l v r,k=>
  match k with
  |0=>v
  |k+1=>if Nat.beq (Nat.mod k 2) 0 then l.get (Nat.div k 2) else r.get (Nat.div k 2)
def pK:Nat->T α->Nat->Option α->T α
 |0,t,_,_=>t
 |f+1,t,k,x=>
  match t with
  |.e=>
   match k with
   |0=>.n .e x .e
   |k+1=>if Nat.beq (Nat.mod k 2) 0 then .n (pK f .e (Nat.div k 2) x) none .e else .n .e none (pK f .e (Nat.div k 2) x)
  |.n l v r=>
   match k with
   |0=>.n l x r
   |k+1=>if Nat.beq (Nat.mod k 2) 0 then .n (pK f l (Nat.div k 2) x) v r else .n l v (pK f r (Nat.div k 2) x)
def set (t:T α)(k:Nat)(x:α):T α:=pK (k+1) t k (some x)
end T
inductive AV where
 |sc (v:Value)
 |ptr (id off:Nat)
 |sl (id off len cap:Nat)
 |op (id off len cw es:Nat)
 |map (id:Nat)
 |fn (f:Fn)(first cap:List AV)
 |yd (l:Nat)
 |iface (t:TypeId)(v:AV)
 |agg (cs:List AV)
 |dh (vs:List AV)
 |no
 |tok (i:Nat)
 deriving Inhabited
inductive Tag where
 |normal|exit (id:Nat)|goto (l:Nat)|ret
 deriving DecidableEq,Inhabited,Repr
inductive iO where
 |mv (x:AV)
 |pick (c a b:AV)
 |bin (op:BinOp)(x y:AV)
 |conv(k:IntKind)(x:AV)
 |part (off n:Nat)(agg:Bool)(x:AV)
 |D2 (len es:Nat)(agg:Bool)(x i:AV)
 |build (zero:List AV)(parts:List (Nat×Nat×AV))
 |jO (off:Nat)(x:AV)
 |zC (len es:Nat)(x i:AV)
 |dp (es:Nat)(x i:AV)
 |oI (len es:Nat)(x:AV)(lo hi mx:Option AV)
 |ko (es:Nat)(x:AV)(lo hi mx:Option AV)
 |extract (i:Nat)(x:AV)
 |oJ (x:AV)
 |len (str:Bool)(x:AV)
 |rv (isMax:Bool)(xs:List AV)
 |load (n:Nat)(agg:Bool)(p:AV)
 |alloc (cells:List AV)
 |box (x:AV)
 |lK (es n:Nat)(zero:List AV)(parts:List (Nat×Nat×AV))
 |g_ (es bytes:Nat)(zero:List AV)(len cap:AV)
 |store (n:Nat)(p v:AV)
 |append (es bytes:Nat)(s x:AV)
 |eq (t:TypeId)(neg:Bool)(x y:AV)
 |un (op:UnOp)(x:AV)
 |lM (asserted:TypeId)(Mp:Bool)(US:Bool)(zero:Option AV)(x:AV)
 deriving Inhabited
inductive AC where
 |ret (t:Tag)(vs:List AV)
 |op (o:iO)(k:AV->AC)
 |rp (g:AV)(b:Bool)(o:iO)(k:AV->AC)
 |lN (o:iO)(v:AV)(k:AC)
 |BD (g:AV)(b:Bool)(o:iO)(v:AV)(k:AC)
 |ite (c:AV)(a b:AC)
 |call (f:AV)(args:List AV)(k:AV->AC)
 |hZ (g:AV)(b:Bool)(f:AV)(args:List AV)(k:AV->AC)
 |bind (m:AC)(id:Option Nat)(k:List AV->AC)(outs:List AV->List AV)
 |loop (init:List AV)(body:List AV->AC)(outs:List AV->List AV)
 |D3 (n:Nat)(f:AV)(body:List AV->AC)(k:AC)(outs:List AV)
 |fin (m:AC)(k:List AV->AC)
 |start (l:AV)(k:AC)
 |fail
inductive AO where
 |row (cells:List AV)
 |ro (cells:List AV)
 |map (es:List (Value×AV))
 |loop (st:LoopState)(dq:Option Tag)(n:Nat)(body:List AV->AC)
structure AH where
 t:T AO
 next:Nat
noncomputable def fN:T AO->Nat->Option AO:=
 T.rec (motive:=λ_=>Nat->Option AO) (λ_=>none) λ_ v _ il ir k=>Nat.rec (motive:=λ_=>Option AO) v (λk _=>Bool.rec (motive:=λ_=>Option AO) (ir (Nat.div k 2)) (il (Nat.div k 2)) (Nat.beq (Nat.mod k 2) 0)) k
noncomputable def wu (x:Option AO):Nat->Nat->T AO:=
 Nat.rec (motive:=λ_=>Nat->T AO) (λ_=>.e) λ_ ih k=>Nat.rec (motive:=λ_=>T AO) (.n .e x .e) (λk _=>Bool.rec (motive:=λ_=>T AO) (.n .e none (ih (Nat.div k 2))) (.n (ih (Nat.div k 2)) none .e) (Nat.beq (Nat.mod k 2) 0)) k
noncomputable def D4 (x:Option AO):T AO->Nat->T AO:=
 T.rec (motive:=λ_=>Nat->T AO) (λk=>wu x (Nat.succ k) k) λl v r il ir k=>Nat.rec (motive:=λ_=>T AO) (.n l x r) (λk _=>Bool.rec (motive:=λ_=>T AO) (.n l v (ir (Nat.div k 2))) (.n (il (Nat.div k 2)) v r) (Nat.beq (Nat.mod k 2) 0)) k
noncomputable def AH.get (S:AH) (id:Nat):Option AO:=fN S.t id
noncomputable def put (x:Option AO) (t:T AO) (k:Nat):T AO:=D4 x t k
def AH.set (S:AH)(id:Nat)(o:AO):AH:=⟨put (some o) S.t id,S.next⟩
def AH.kill (S:AH)(id:Nat):AH:=⟨put none S.t id,S.next⟩
def AH.new (S:AH)(o:AO):AH:=⟨put (some o) S.t S.next,Nat.succ S.next⟩
def uv:AV:=.dh []
def nth:List AV->Nat->AV
 |[],_=>.no
 |v::_,0=>v
 |_::r,n+1=>nth r n
def scalar:Value->Bool
 |.bool _|.int ..|.float ..|.complex ..|.string _|.pointer none|.slice none 0 0|.map none|.nilFunc|.nilIface=>true
 |_=>false
def pM (f:Value->Option AV):List Value->Option (List AV)
 |[]=>some []
 |v::r=>match f v,pM f r with
  |some a,some b=>some (a::b)
  |_,_=>none
def one?:Option AV->Option AV
 |some (.agg _)|some (.dh _)|some .no=>none
 |o=>o
def sX:Nat->Value->Option AV
 |0,_=>none
 |n+1,.agg cs=>(pM (λv=>one? (sX n v)) cs.toList).map .agg
 |n+1,.tuple cs=>(pM (sX n) cs.toList).map .dh
 |n+1,.iface t v=>(sX n v).map (.iface t)
 |n+1,.func (.func f) a b=>match pM (sX n) a.toList,pM (sX n) b.toList with
  |some a,some b=>some (.fn (.func f) a b)
  |_,_=>none
 |_+1,v=>if scalar v then some (.sc v) else none
mutual
def tD:AV->Option Value
 |.sc v=>some v
 |.agg cs=>(sY cs).map λl=>.agg l.toArray
 |.iface t v=>(tD v).map (.iface t)
 |_=>none
def sY:List AV->Option (List Value)
 |[]=>some []
 |v::r=>match tD v,sY r with
  |some a,some b=>some (a::b)
  |_,_=>none
end
def bE {α:Type}(P:Program):Sem α->Option α
 |.pure a=>some a
 |.program k=>bE P (k P)
 |.mark _ k=>bE P k
 |_=>none
noncomputable def lO:Value->Option (IntKind×Int):=
 Value.rec (motive_1:=λ_=>Option (IntKind×Int)) (motive_2:=λ_=>Unit) (motive_3:=λ_=>Unit)
  (λ_=>none) (λk n=>some (k,n)) (λ_ _=>none) (λ_ _ _=>none) (λ_=>none) (λ_=>none) (λ_ _ _=>none) (λ_=>none) (λ_=>none)
  (λ_ _ _ _ _=>none) none (λ_ _ _=>none) none (λ_ _=>none) (λ_ _=>none) (λ_ _=>()) () (λ_ _ _ _=>())
noncomputable def asInt:AV->Option (IntKind×Int):=
 AV.rec (motive_1:=λ_=>Option (IntKind×Int)) (motive_2:=λ_=>Unit)
  (λv=>lO v) (λ_ _=>none) (λ_ _ _ _=>none) (λ_ _ _ _ _=>none) (λ_=>none) (λ_ _ _ _ _=>none) (λ_=>none) (λ_ _ _=>none) (λ_ _=>none) (λ_ _=>none) none (λ_=>none) () (λ_ _ _ _=>())
noncomputable def Lc:Value->Option Bool:=
 Value.rec (motive_1:=λ_=>Option Bool) (motive_2:=λ_=>Unit) (motive_3:=λ_=>Unit)
  (λb=>some b) (λ_ _=>none) (λ_ _=>none) (λ_ _ _=>none) (λ_=>none) (λ_=>none) (λ_ _ _=>none) (λ_=>none) (λ_=>none)
  (λ_ _ _ _ _=>none) none (λ_ _ _=>none) none (λ_ _=>none) (λ_ _=>none) (λ_ _=>()) () (λ_ _ _ _=>())
noncomputable def asBool:AV->Option Bool:=
 AV.rec (motive_1:=λ_=>Option Bool) (motive_2:=λ_=>Unit)
  (λv=>Lc v) (λ_ _=>none) (λ_ _ _ _=>none) (λ_ _ _ _ _=>none) (λ_=>none) (λ_ _ _ _ _=>none) (λ_=>none) (λ_ _ _=>none) (λ_ _=>none) (λ_ _=>none) none (λ_=>none) () (λ_ _ _ _=>())
noncomputable def h_:AV->Option (Nat×Nat):=
 AV.rec (motive_1:=λ_=>Option (Nat×Nat)) (motive_2:=λ_=>Unit)
  (λ_=>none) (λi o=>some (i,o)) (λ_ _ _ _=>none) (λ_ _ _ _ _=>none) (λ_=>none) (λ_ _ _ _ _=>none) (λ_=>none) (λ_ _ _=>none) (λ_ _=>none) (λ_ _=>none) none (λ_=>none) () (λ_ _ _ _=>())
noncomputable def asAgg:AV->Option (List AV):=
 AV.rec (motive_1:=λ_=>Option (List AV)) (motive_2:=λ_=>Unit)
  (λ_=>none) (λ_ _=>none) (λ_ _ _ _=>none) (λ_ _ _ _ _=>none) (λ_=>none) (λ_ _ _ _ _=>none) (λ_=>none) (λ_ _ _=>none) (λcs _=>some cs) (λ_ _=>none) none (λ_=>none) () (λ_ _ _ _=>())
noncomputable def CK:AV->Option (List AV):=
 AV.rec (motive_1:=λ_=>Option (List AV)) (motive_2:=λ_=>Unit)
  (λ_=>none) (λ_ _=>none) (λ_ _ _ _=>none) (λ_ _ _ _ _=>none) (λ_=>none) (λ_ _ _ _ _=>none) (λ_=>none) (λ_ _ _=>none) (λ_ _=>none) (λcs _=>some cs) none (λ_=>none) () (λ_ _ _ _=>())
noncomputable def Qr:Value->Bool:=
 Value.rec (motive_1:=λ_=>Bool) (motive_2:=λ_=>Unit) (motive_3:=λ_=>Unit)
  (λ_=>true) (λ_ _=>true) (λ_ _=>true) (λ_ _ _=>true) (λ_=>true) (λ_=>false) (λ_ _ _=>true) (λ_=>true) (λ_=>true)
  (λ_ _ _ _ _=>false) false (λ_ _ _=>true) false (λ_ _=>true) (λ_ _=>true) (λ_ _=>()) () (λ_ _ _ _=>())
noncomputable def Qs:Fn->Bool:=Fn.rec (motive:=λ_=>Bool) (λ_=>true) (λ_=>false) (λ_ _=>true) (λ_ _ _ _=>true) (λ_=>true)
noncomputable def live:AV->Bool:=
 AV.rec (motive_1:=λ_=>Bool) (motive_2:=λ_=>Unit)
  (λv=>Qr v) (λ_ _=>true) (λ_ _ _ _=>true) (λ_ _ _ _ _=>true) (λ_=>true) (λf _ _ _ _=>Qs f) (λ_=>true) (λ_ _ _=>true) (λ_ _=>true) (λ_ _=>true) false (λ_=>false) () (λ_ _ _ _=>())
noncomputable def AV.cells (v:AV):List AV:=
 AV.rec (motive_1:=λ_=>List AV->List AV) (motive_2:=λ_=>Unit)
  (λ_ l=>l) (λ_ _ l=>l) (λ_ _ _ _ l=>l) (λ_ _ _ _ _ l=>l) (λ_ l=>l) (λ_ _ _ _ _ l=>l) (λ_ l=>l) (λ_ _ _ l=>l) (λcs _ _=>cs) (λ_ _ l=>l) (λl=>l) (λ_ l=>l) () (λ_ _ _ _=>()) v [v]
noncomputable def odd:AV->Bool:=
 AV.rec (motive_1:=λ_=>Bool) (motive_2:=λ_=>Unit)
  (λ_=>false) (λ_ _=>false) (λ_ _ _ _=>false) (λ_ _ _ _ _=>false) (λ_=>false) (λ_ _ _ _ _=>false) (λ_=>false) (λ_ _ _=>false) (λ_ _=>false) (λ_ _=>true) true (λ_=>false) () (λ_ _ _ _=>())
noncomputable def Ld:AO->Option (List AV):=
 AO.rec (motive:=λ_=>Option (List AV)) (λl=>some l) (λ_=>none) (λ_=>none) (λ_ _ _ _=>none)
noncomputable def CL:AO->Option (List AV):=
 AO.rec (motive:=λ_=>Option (List AV)) (λl=>some l) (λl=>some l) (λ_=>none) (λ_ _ _ _=>none)
noncomputable def Lf:IntKind->Nat:=IntKind.rec (motive:=λ_=>Nat) 0 1 2 3 4 5 6 7
def oK (j k:IntKind):Bool:=Nat.beq (Lf j) (Lf k)
noncomputable def Fo:IntKind->Nat:=IntKind.rec (motive:=λ_=>Nat) 127 32767 2147483647 9223372036854775807 255 65535 4294967295 18446744073709551615
def fu (k:IntKind)(n:Int):Int:=
 match n with
 |.ofNat a=>match Nat.ble a (Fo k) with
  |true=>.ofNat a
  |false=>IntKind.wrap k (.ofNat a)
 |.negSucc a=>IntKind.wrap k (.negSucc a)
noncomputable def ltK:Int->Int->Bool:=
 Int.rec (motive:=λ_=>Int->Bool)
  (λa=>Int.rec (motive:=λ_=>Bool) (λb=>Nat.ble (Nat.succ a) b) (λ_=>false))
  (λa=>Int.rec (motive:=λ_=>Bool) (λ_=>true) (λb=>Nat.ble (Nat.succ b) a))
noncomputable def E_ (a b:Int):Bool:=ltK a b
noncomputable def eqK:Int->Int->Bool:=
 Int.rec (motive:=λ_=>Int->Bool)
  (λa=>Int.rec (motive:=λ_=>Bool) (λb=>Nat.beq a b) (λ_=>false))
  (λa=>Int.rec (motive:=λ_=>Bool) (λ_=>false) (λb=>Nat.beq a b))
noncomputable def Ja (a b:Int):Bool:=eqK a b
def dc (f:IntKind->Int->Int->Option AV)(x y:AV):Option AV:=
 match asInt x with
 |some (k,a)=>match asInt y with
  |some (k',b)=>match oK k k' with
   |true=>f k a b
   |false=>none
  |none=>none
 |none=>none
def wv (f:ByteArray->ByteArray->Option AV)(x y:AV):Option AV:=
 match x,y with
 |.sc (.string a),.sc (.string b)=>f a b
 |_,_=>none
def either (a b:Option AV):Option AV:=
 match a with
 |some v=>some v
 |none=>b
def Wa (x y:AV):Option AV:=either (dc (λk a b=>some (.sc (.int k (fu k (Int.add a b))))) x y) (wv (λa b=>if a.size+b.size<=9223372036854775807 then some (.sc (.string (a++b))) else none) x y)
def Mq (x y:AV):Option AV:=dc (λk a b=>some (.sc (.int k (fu k (Int.sub a b))))) x y
def Mr (x y:AV):Option AV:=dc (λk a b=>some (.sc (.int k (fu k (Int.mul a b))))) x y
def Ms (x y:AV):Option AV:=dc (λk a b=>if Ja b 0 then none else some (.sc (.int k (fu k (a.tdiv b))))) x y
def Mt (x y:AV):Option AV:=dc (λk a b=>if Ja b 0 then none else some (.sc (.int k (a.tmod b)))) x y
def Fp (x y:AV):Option AV:=dc (λk a b=>some (.sc (.int k (fu k ((BitVec.ofInt k.bits a&&&BitVec.ofInt k.bits b).toNat))))) x y
def Wb (x y:AV):Option AV:=dc (λk a b=>some (.sc (.int k (fu k ((BitVec.ofInt k.bits a|||BitVec.ofInt k.bits b).toNat))))) x y
def Wc (x y:AV):Option AV:=dc (λk a b=>some (.sc (.int k (fu k ((BitVec.ofInt k.bits a^^^BitVec.ofInt k.bits b).toNat))))) x y
def pN (x y:AV):Option AV:=dc (λk a b=>some (.sc (.int k (fu k ((BitVec.ofInt k.bits a&&&~~~BitVec.ofInt k.bits b).toNat))))) x y
def Fq (x y:AV):Option AV:=
 match x,y with
 |.sc (.int k a),.sc (.int _ b)=>if E_ b 0 then none else some (.sc (.int k (fu k (a*2^(min b.toNat k.bits)))))
 |_,_=>none
def Fs (x y:AV):Option AV:=
 match x,y with
 |.sc (.int k a),.sc (.int _ b)=>if E_ b 0 then none else some (.sc (.int k (a.fdiv (2^(min b.toNat k.bits)))))
 |_,_=>none
def Wd (x y:AV):Option AV:=either (dc (λ_ a b=>some (.sc (.bool (Ja a b)))) x y) (wv (λa b=>some (.sc (.bool (a.toList==b.toList)))) x y)
def We (x y:AV):Option AV:=either (dc (λ_ a b=>some (.sc (.bool (not (Ja a b))))) x y) (wv (λa b=>some (.sc (.bool !(a.toList==b.toList)))) x y)
def Wf (x y:AV):Option AV:=either (dc (λ_ a b=>some (.sc (.bool (E_ a b)))) x y) (wv (λa b=>some (.sc (.bool (Op.bytesLess a.toList b.toList)))) x y)
def Wg (x y:AV):Option AV:=either (dc (λ_ a b=>some (.sc (.bool (not (E_ b a))))) x y) (wv (λa b=>some (.sc (.bool (Op.bytesLess a.toList b.toList||a.toList==b.toList)))) x y)
def Wh (x y:AV):Option AV:=either (dc (λ_ a b=>some (.sc (.bool (E_ b a)))) x y) (wv (λa b=>some (.sc (.bool !(Op.bytesLess a.toList b.toList||a.toList==b.toList)))) x y)
def Wi (x y:AV):Option AV:=either (dc (λ_ a b=>some (.sc (.bool (not (E_ a b))))) x y) (wv (λa b=>some (.sc (.bool !(Op.bytesLess a.toList b.toList)))) x y)
noncomputable def Jc (op:BinOp):AV->AV->Option AV:=
 BinOp.rec (motive:=λ_=>AV->AV->Option AV) Wa Mq Mr Ms Mt Fp Wb Wc Fq Fs pN Wd We Wf Wg Wh Wi op
noncomputable def Mu {α:Type}(o:Option α)(n:Nat):Nat:=Option.rec (motive:=λ_=>Nat) n (λ_=>0) o
noncomputable def Wj:Value->Nat:=
 Value.rec (motive_1:=λ_=>Nat) (motive_2:=λ_=>Unit) (motive_3:=λ_=>Unit)
  (λ_=>0) (λ_ _=>0) (λ_ _=>0) (λ_ _ _=>0) (λ_=>0) (λa=>Mu a 1) (λa _ _=>Mu a 2) (λr=>Mu r 3) (λ_=>0)
  (λ_ _ _ _ _=>0) 4 (λ_ _ _=>0) 5 (λ_ _=>0) (λ_ _=>0) (λ_ _=>()) () (λ_ _ _ _=>())
noncomputable def kp:AV->Nat:=
 AV.rec (motive_1:=λ_=>Nat) (motive_2:=λ_=>Unit)
  (λv=>Wj v) (λ_ _=>0) (λ_ _ _ _=>0) (λ_ _ _ _ _=>0) (λ_=>0) (λ_ _ _ _ _=>0) (λ_=>0) (λ_ _ _=>0) (λ_ _=>0) (λ_ _=>0) 0 (λ_=>0) () (λ_ _ _ _=>())
noncomputable def zD:AV->Nat:=
 AV.rec (motive_1:=λ_=>Nat) (motive_2:=λ_=>Unit)
  (λ_=>0) (λ_ _=>1) (λ_ _ _ _=>2) (λ_ _ _ _ _=>2) (λ_=>3) (λ_ _ _ _ _=>4) (λ_=>4) (λ_ _ _=>5) (λ_ _=>0) (λ_ _=>0) 0 (λ_=>0) () (λ_ _ _ _=>())
def zE (P:Program)(t:TypeId):Bool:=
 match P.underlying t with
 |some (.pointer e)=>match P.info? e with
  |some i=>Nat.ble 1 i.size
  |none=>false
 |_=>false
def mV:Value->Bool
 |.int ..|.float ..|.complex ..|.string _=>false
 |_=>true
def Ft (P:Program)(t:TypeId)(x y:AV):Option Bool:=
 match h_ x with
 |some (i,a)=>match h_ y with
  |some (j,b)=>match Nat.beq i j&&zE P t with
   |true=>some (Nat.beq a b)
   |false=>none
  |none=>none
 |none=>match tD x,tD y with
  |some a,some b=>if mV a&&mV b then(match bE P (eqGuard .eql t (.tmp 0) (.tmp 0) a b) with|some _=>bE P (Op.equal t a b)|none=>none) else none
  |_,_=>none
def iB (P:Program)(t:TypeId):Nat:=
 match P.underlying t with
 |some (.pointer _)=>1
 |some (.slice _)=>2
 |some (.map _ _)=>3
 |some (.func _ _ _)=>4
 |some (.interface _)=>5
 |_=>0
def zn (P:Program)(t:TypeId)(x y:AV):Option Bool:=
 match Nat.ble 1 (kp x)&&Nat.beq (kp x) (zD y)&&Nat.beq (kp x) (iB P t) with
 |true=>some false
 |false=>match Nat.ble 1 (kp y)&&Nat.beq (kp y) (zD x)&&Nat.beq (kp y) (iB P t) with
  |true=>some false
  |false=>match Nat.ble 1 (kp x)&&Nat.ble (kp x) 4&&Nat.beq (kp x) (kp y)&&Nat.beq (kp x) (iB P t) with
   |true=>some true
   |false=>Ft P t x y
def below (a n:Nat):Option Nat:=match Nat.ble (Nat.succ a) n with
 |true=>some a
 |false=>none
def nat?:Int->Option Nat
 |.ofNat a=>some a
 |.negSucc _=>none
def oL (i:AV)(n:Nat):Option Nat:=
 match asInt i with
 |some (_,a)=>match nat? a with
  |some a=>below a n
  |none=>none
 |none=>none
def Jd (i:AV)(n:Nat):Option Nat:=oL i (Nat.succ n)
def fE (i:Option AV)(d n:Nat):Option Nat:=
 match i with
 |none=>some d
 |some i=>Jd i n
noncomputable def zG:List AV->Nat->Option AV:=
 List.rec (motive:=λ_=>Nat->Option AV) (λ_=>none) λv _ ih i=>Nat.rec (motive:=λ_=>Option AV) (some v) (λi _=>ih i) i
noncomputable def jP:Nat->List AV->List AV:=
 Nat.rec (motive:=λ_=>List AV->List AV) (λl=>l) λ_ ih l=>List.rec (motive:=λ_=>List AV) [] (λ_ r _=>ih r) l
noncomputable def jQ:Nat->List AV->List AV:=
 Nat.rec (motive:=λ_=>List AV->List AV) (λ_=>[]) λ_ ih l=>List.rec (motive:=λ_=>List AV) [] (λv r _=>v::ih r) l
noncomputable def bS:List AV->Nat:=List.rec (motive:=λ_=>Nat) 0 λ_ _ n=>Nat.succ n
noncomputable def jf:List AV->List AV->List AV:=List.rec (motive:=λ_=>List AV->List AV) (λb=>b) λv _ ih b=>v::ih b
def bn (c:List AV)(off:Nat)(vs:List AV):List AV:=jf (jQ off c) (jf vs (jP (Nat.add off (bS vs)) c))
def eg:List AV->List (Nat×Nat×AV)->Option (List AV)
 |cells,[]=>some cells
 |cells,(off,size,v)::rest=>
  match not (odd v)&&Nat.beq (bS v.cells) size&&Nat.ble (Nat.add off size) (bS cells) with
  |true=>eg (bn cells off v.cells) rest
  |false=>none
def fB (agg:Bool)(cs:List AV)(off n:Nat):Option AV:=
 match agg with
 |true=>match Nat.ble (Nat.add off n) (bS cs) with
  |true=>some (.agg (jQ n (jP off cs)))
  |false=>none
 |false=>zG cs off
def cn (zero:List AV):Nat->List AV
 |0=>[]
 |n+1=>jf zero (cn zero n)
def tE (isMax:Bool)(x y:AV):Option AV:=
 match x,y with
 |.sc (.int k a),.sc (.int _ b)=>some (.sc (.int k (if isMax then(if E_ a b then b else a) else(if E_ b a then b else a))))
 |_,_=>none
def CM (c a b:AV):Option AV:=match asBool c with
 |some true=>some a
 |some false=>some b
 |none=>none
def CN (P:Program)(t:TypeId)(neg:Bool)(x y:AV):Option AV:=match zn P t x y with
 |some b=>some (.sc (.bool (match neg with|true=>not b|false=>b)))
 |none=>none
def Qt (P:Program)(op:UnOp)(v:Value):Option AV:=match bE P (Op.unary op v) with
 |some w=>match scalar w with
  |true=>some (.sc w)
  |false=>none
 |none=>none
def UT (P:Program)(op:UnOp)(x:AV):Option AV:=match asBool x with
 |some b=>match op with
  |.not=>some (.sc (.bool (not b)))
  |_=>none
 |none=>match x with
  |.sc v=>Qt P op v
  |_=>none
def CO (k:IntKind)(x:AV):Option AV:=match asInt x with
 |some (_,n)=>some (.sc (.int k (fu k n)))
 |none=>none
def CP (off n:Nat)(agg:Bool)(x:AV):Option AV:=match asAgg x with
 |some cs=>fB agg cs off n
 |none=>none
def w5 (len es:Nat)(agg:Bool)(x i:AV):Option AV:=match asAgg x with
 |some cs=>match oL i len with
  |some i=>fB agg cs (Nat.mul i es) es
  |none=>none
 |none=>none
def kq (zero:List AV)(parts:List (Nat×Nat×AV)):Option AV:=match eg zero parts with
 |some c=>some (.agg c)
 |none=>none
def xT (off:Nat)(x:AV):Option AV:=match h_ x with
 |some (id,o)=>some (.ptr id (Nat.add o off))
 |none=>none
def mW (len es:Nat)(x i:AV):Option AV:=match h_ x with
 |some (id,o)=>match oL i len with
  |some i=>some (.ptr id (Nat.add o (Nat.mul i es)))
  |none=>none
 |none=>none
def fC (es:Nat)(x i:AV):Option AV:=match x with
 |.sl id o len _=>match oL i len with
  |some i=>some (.ptr id (Nat.add o (Nat.mul i es)))
  |none=>none
 |.op id o len _ _=>match oL i len with
  |some i=>some (.ptr id (Nat.add o (Nat.mul i es)))
  |none=>none
 |_=>none
def kr (lo hi mx:Option AV)(len cap:Nat):Option (Nat×Nat×Nat):=
 match fE mx cap cap with
 |some m=>match fE hi len m with
  |some h=>match fE lo 0 h with
   |some l=>if mx.isSome&&hi.isNone then none else some (l,h,m)
   |none=>none
  |none=>none
 |none=>none
def jR (len es:Nat)(x:AV)(lo hi mx:Option AV):Option AV:=match x with
 |.ptr id o=>match kr lo hi mx len len with
  |some (l,h,m)=>some (.sl id (if Nat.beq m l then o else Nat.add o (Nat.mul l es)) (Nat.sub h l) (Nat.sub m l))
  |none=>none
 |_=>none
def dD (es:Nat)(x:AV)(lo hi mx:Option AV):Option AV:=match x with
 |.sl id o len cap=>match kr lo hi mx len cap with
  |some (l,h,m)=>some (.sl id (if Nat.beq m l then o else Nat.add o (Nat.mul l es)) (Nat.sub h l) (Nat.sub m l))
  |none=>none
 |.op id o len cw pP=>match Nat.beq es pP with
  |true=>match kr lo hi mx len cw with
   |some (l,h,m)=>match mx with
    |some _=>match Nat.beq cw 0 with
     |true=>some (.op id o 0 0 es)
     |false=>some (.sl id (if Nat.beq m l then o else Nat.add o (Nat.mul l es)) (Nat.sub h l) (Nat.sub m l))
    |none=>some (.op id (Nat.add o (Nat.mul l es)) (Nat.sub h l) (Nat.sub cw l) es)
   |none=>none
  |false=>none
 |.sc (.slice none 0 0)=>match kr lo hi mx 0 0 with
  |some _=>some (.sc (.slice none 0 0))
  |none=>none
 |_=>none
def pQ (i:Nat)(x:AV):Option AV:=match CK x with
 |some vs=>zG vs i
 |none=>none
def nL (x:AV):Option AV:=match live x with
 |true=>some x
 |false=>none
def D5 (str:Bool)(x:AV):Option AV:=match str with
 |true=>match x with
  |.sc (.string s)=>some (.sc (.int .i64 (.ofNat s.size)))
  |_=>none
 |false=>match x with
  |.sl _ _ n _=>some (.sc (.int .i64 (.ofNat n)))
  |.op _ _ n _ _=>some (.sc (.int .i64 (.ofNat n)))
  |.sc (.slice none 0 0)=>some (.sc (.int .i64 0))
  |_=>none
def tF (m:Bool)(xs:List AV):Option AV:=match xs with
 |x::rest=>rest.foldlM (tE m) x
 |[]=>none
def BE (want:Array (String×TypeId))(PK:Array Method):Bool:=want.toList.all λx=>PK.toList.any λm=>m.name==x.1&&m.sig==x.2
def ic (P:Program)(t:TypeId)(Mp ok:Bool)(zero:Option AV)(x:AV):Option AV:=
 let holds (v:AV):AV:=if ok then .dh [v,.sc (.bool true)] else v
 let Fu:Option AV:=if ok then zero.map λz=>.dh [z,.sc (.bool false)] else none
 match x with
 |.sc .nilIface=>Fu
 |.iface u v=>
  if Mp then
   match P.underlying t,P.info? u with
   |some (.interface want),some i=>if BE want i.methods then some (holds x) else Fu
   |_,_=>none
  else if u==t then some (holds v) else Fu
 |_=>none
def AH.cells? (S:AH)(id:Nat):Option (List AV):=
 match S.get id with
 |some o=>CL o
 |none=>none
def AH.row? (S:AH)(id:Nat):Option (List AV):=
 match S.get id with
 |some o=>Ld o
 |none=>none
def mB (S:AH)(n:Nat)(agg:Bool)(p:AV):Option AV:=match h_ p with
 |some (id,o)=>match S.cells? id with
  |some c=>fB agg c o n
  |none=>none
 |none=>none
def cJ (P:Program)(S:AH):iO->Option AV
 |.load n agg p=>mB S n agg p
 |_=>none
def lay (S:AH)(o:AO)(f:Nat->AV):Option (AV×AH):=some (f S.next,S.new o)
def Mv (cells:List AV)(S:AH):Option (AV×AH):=lay S (.row cells) λid=>.ptr id 0
def BF (x:AV)(S:AH):Option (AV×AH):=match odd x with
 |true=>none
 |false=>lay S (.row x.cells) λid=>.ptr id 0
def gf (es n:Nat)(zero:List AV)(parts:List (Nat×Nat×AV))(S:AH):Option (AV×AH):=
 match eg (cn zero n) parts with
 |some c=>match Nat.beq (bS c) (Nat.mul n es)&&Nat.beq (bS zero) es with
  |true=>lay S (.row c) λid=>.sl id 0 n n
  |false=>none
 |none=>none
def jg (es bytes:Nat)(zero:List AV)(len cap:AV)(S:AH):Option (AV×AH):=match asInt len with
 |some (_,l)=>match asInt cap with
  |some (_,c)=>match nat? l with
   |some l=>match nat? c with
    |some c=>match Nat.ble l c&&Nat.ble (Nat.mul bytes c) 140737488355328&&Nat.ble c 9223372036854775807&&Nat.beq (bS zero) es with
     |true=>lay S (.row (cn zero c)) λid=>.sl id 0 l c
     |false=>none
    |none=>none
   |none=>none
  |none=>none
 |none=>none
def elems (S:AH)(es:Nat):AV->Option (Nat×List AV)
 |.sc (.slice none 0 0)=>some (0,[])
 |.sl id o len _|.op id o len _ _=>match S.cells? id with
  |some c=>if Nat.ble (o+len*es) (bS c) then some (len,jQ (len*es) (jP o c)) else none
  |none=>none
 |.sc (.string s)=>if es=1 then some (s.size,s.data.toList.map λb=>.sc (.int .u8 b.toNat)) else none
 |_=>none
def cK:Nat:=140737488355328
def dL:Nat:=9223372036854775807
def oM (n:Nat)(p v:AV)(S:AH):Option (AV×AH):=match h_ p with
 |some (id,o)=>match S.row? id with
  |some c=>match not (odd v)&&Nat.beq (bS v.cells) n&&Nat.ble (Nat.add o n) (bS c) with
   |true=>some (uv,S.set id (.row (bn c o v.cells)))
   |false=>none
  |none=>none
 |none=>none
def iT (es bytes:Nat)(s x:AV)(S:AH):Option (AV×AH):=match elems S es x with
 |none=>none
 |some (m,news)=>match s with
  |.sc (.slice none 0 0)=>
   if Nat.beq m 0 then some (s,S)
   else if Nat.ble (m*bytes) cK&&Nat.ble m dL then some (.op S.next 0 m m es,S.new (.row news)) else none
  |.sl id o len cap=>match S.get id with
   |some (.row c)=>
    if Nat.ble (o+cap*es) (bS c)&&Nat.ble len cap then
     if Nat.ble (len+m) cap then some (.sl id o (len+m) cap,S.set id (.row (bn c (o+len*es) news)))
     else if Nat.ble ((len+m)*bytes) cK&&Nat.ble (len+m) dL then
      some (.op S.next 0 (len+m) (len+m) es,S.new (.row (jf (jQ (len*es) (jP o c)) news)))
     else none
    else none
   |some (.ro c)=>
    if Nat.ble (o+cap*es) (bS c)&&Nat.ble len cap then
     if Nat.ble (len+m) cap then(if Nat.beq m 0 then some (.sl id o len cap,S) else none)
     else if Nat.ble ((len+m)*bytes) cK&&Nat.ble (len+m) dL then
      some (.op S.next 0 (len+m) (len+m) es,S.new (.row (jf (jQ (len*es) (jP o c)) news)))
     else none
    else none
   |_=>none
  |.op id o len cw pP=>match S.get id with
   |some (.row c)=>
    if Nat.beq pP es&&Nat.ble (o+cw*es) (bS c)&&Nat.ble len cw then
     if Nat.ble (len+m) cw then some (.op id o (len+m) cw es,S.set id (.row (bn c (o+len*es) news)))
     else if Nat.ble ((len+m)*bytes) cK&&Nat.ble (len+m) dL then
      some (.op S.next 0 (len+m) (len+m) es,(S.kill id).new (.row (jf (jQ (len*es) (jP o c)) news)))
     else none
    else none
   |_=>none
  |_=>none
def eO (r:Option AV)(S:AH):Option (AV×AH):=match r with
 |some v=>some (v,S)
 |none=>none
noncomputable def evalOp (P:Program) (o:iO):AH->Option (AV×AH):=
 iO.rec (motive:=λ_=>AH->Option (AV×AH))
  (λx S=>some (x,S))
  (λc a b=>eO (CM c a b))
  (λop x y=>eO (Jc op x y))
  (λk x=>eO (CO k x))
  (λo n a x=>eO (CP o n a x))
  (λl e a x i=>eO (w5 l e a x i))
  (λz ps=>eO (kq z ps))
  (λo x=>eO (xT o x))
  (λl e x i=>eO (mW l e x i))
  (λe x i=>eO (fC e x i))
  (λl e x a b c=>eO (jR l e x a b c))
  (λe x a b c=>eO (dD e x a b c))
  (λi x=>eO (pQ i x))
  (λx=>eO (nL x))
  (λg x=>eO (D5 g x))
  (λm xs=>eO (tF m xs))
  (λn a p S=>eO (mB S n a p) S)
  Mv BF gf jg oM iT
  (λt n x y=>eO (CN P t n x y))
  (λop x=>eO (UT P op x))
  (λt i o z x=>eO (ic P t i o z x)) o
mutual
def AV.beq:AV->AV->Bool
 |.sc (.int k a),.sc (.int k' b)=>oK k k'&&Ja a b
 |.sc (.bool a),.sc (.bool b)=>a==b
 |.sc (.string a),.sc (.string b)=>a.data.toList==b.data.toList
 |.sc (.pointer none),.sc (.pointer none)|.sc (.slice none 0 0),.sc (.slice none 0 0)|.sc (.map none),.sc (.map none)
 |.sc .nilFunc,.sc .nilFunc|.sc .nilIface,.sc .nilIface=>true
 |.ptr i o,.ptr j p=>Nat.beq i j&&Nat.beq o p
 |.sl i o l c,.sl j p m d=>Nat.beq i j&&Nat.beq o p&&Nat.beq l m&&Nat.beq c d
 |.op i o l c e,.op j p m d f=>Nat.beq i j&&Nat.beq o p&&Nat.beq l m&&Nat.beq c d&&Nat.beq e f
 |.map i,.map j=>Nat.beq i j
 |.yd i,.yd j=>Nat.beq i j
 |.fn (.func f) a b,.fn (.func g) c d=>Nat.beq f g&&lQ a c&&lQ b d
 |.iface t v,.iface u w=>Nat.beq t u&&v.beq w
 |.agg a,.agg b=>lQ a b
 |.dh a,.dh b=>lQ a b
 |.tok i,.tok j=>Nat.beq i j
 |_,_=>false
def lQ:List AV->List AV->Bool
 |[],[]=>true
 |a::r,b::s=>a.beq b&&lQ r s
 |_,_=>false
end
noncomputable def D6:AV->Bool:=
 AV.rec (motive_1:=λ_=>Bool) (motive_2:=λ_=>Unit)
  (λ_=>false) (λ_ _=>false) (λ_ _ _ _=>false) (λ_ _ _ _ _=>false) (λ_=>false) (λ_ _ _ _ _=>false) (λ_=>false) (λ_ _ _=>false) (λ_ _=>false) (λ_ _=>false) true (λ_=>true) () (λ_ _ _ _=>())
def Bs (g:AV)(b:Bool):Option Bool:=
 match asBool g with
 |some true=>some b
 |some false=>some (not b)
 |none=>match D6 g with
  |true=>none
  |false=>some false
abbrev Out:=Option (Tag×List AV×AH)
def iter (body:List AV->AH->Out):Nat->List AV->AH->Out
 |0,_,_=>none
 |n+1,vs,S=>match body vs S with
  |some (.normal,wx,S')=>iter body n wx S'
  |r=>r
section
variable(P:Program)(call:AV->List AV->AH->Option (AV×AH))(fuel:Nat)
def pT (r:Option (AV×AH))(ih:AV->AH->Out):Out:=
 match r with
 |some (v,S')=>ih v S'
 |none=>none
def Qu (o:iO)(ih:AV->AH->Out)(S:AH):Out:=pT (evalOp P o S) ih
def ry (g:AV)(b:Bool)(o:iO)(ih:AV->AH->Out)(S:AH):Out:=
 match Bs g b with
 |some true=>pT (evalOp P o S) ih
 |some false=>ih uv S
 |none=>none
def oN (o:iO)(v:AV)(ih:AH->Out)(S:AH):Out:=
 match cJ P S o with
 |some v'=>match v'.beq v with
  |true=>ih S
  |false=>none
 |none=>none
def pU (g:AV)(b:Bool)(o:iO)(v:AV)(ih:AH->Out)(S:AH):Out:=
 match Bs g b with
 |some true=>oN P o v ih S
 |some false=>ih S
 |none=>none
def xU (c:AV)(a b:AH->Out)(S:AH):Out:=
 match asBool c with
 |some true=>a S
 |some false=>b S
 |none=>none
def mX (g:AV)(b:Bool)(f:AV)(args:List AV)(ih:AV->AH->Out)(S:AH):Out:=
 match Bs g b with
 |some true=>pT (call f args S) ih
 |some false=>ih uv S
 |none=>none
def eX (m:AH->Out)(id:Option Nat)(k:List AV->AH->Out)(outs:List AV->List AV)(S:AH):Out:=
 match m S with
 |some (.normal,vs,S')=>k vs S'
 |some (.exit i,vs,S')=>match id with
  |some j=>match Nat.beq j i with
   |true=>k vs S'
   |false=>some (.exit i,outs vs,S')
  |none=>some (.exit i,outs vs,S')
 |some (t,vs,S')=>some (t,outs vs,S')
 |none=>none
def tG (init:List AV)(body:List AV->AH->Out)(outs:List AV->List AV)(S:AH):Out:=
 match iter body fuel init S with
 |some (t,vs,S')=>some (t,outs vs,S')
 |none=>none
def xV (n:Nat)(f:AV)(body:List AV->AC)(k:AH->Out)(outs:List AV)(S:AH):Out:=
 match f with
 |.yd _=>none
 |f=>match call f [.yd S.next] (S.new (.loop .ready none n body)) with
  |some (_,S')=>match S'.get S.next with
   |some (.loop .busy _ _ _)=>none
   |some (.loop _ dq n b)=>
    match dq with
    |none=>k (S'.set S.next (.loop .exhausted dq n b))
    |some t=>some (t,outs,S'.set S.next (.loop .exhausted dq n b))
   |_=>none
  |none=>none
def rz (m:AH->Out)(k:List AV->AH->Out)(S:AH):Out:=
 match m S with
 |some (.normal,vs,S')=>k vs S'
 |some (.ret,vs,S')=>k vs S'
 |_=>none
def pV (l:AV)(ih:AH->Out)(S:AH):Out:=
 match l with
 |.yd l=>match S.get l with
  |some (.loop .ready dq n b)=>ih (S.set l (.loop .busy dq n b))
  |_=>none
 |_=>none
noncomputable def run (x:AC):AH->Out:=
 AC.rec (motive:=λ_=>AH->Out)
  (λt vs S=>some (t,vs,S))
  (λo _ ih S=>Qu P o ih S)
  (λg b o _ ih S=>ry P g b o ih S)
  (λo v _ ih S=>oN P o v ih S)
  (λg b o v _ ih S=>pU P g b o v ih S)
  (λc _ _ ia ib S=>xU c ia ib S)
  (λf args _ ih S=>pT (call f args S) ih)
  (λg b f args _ ih S=>mX call g b f args ih S)
  (λ_ id _ outs im ik S=>eX im id ik outs S)
  (λinit _ outs ib S=>tG fuel init ib outs S)
  (λn f body _ outs _ ik S=>xV call n f body ik outs S)
  (λ_ _ im ik S=>rz im ik S)
  (λl _ ih S=>pV l ih S)
  (λ_=>none)
  x
end
def methodOf (P:Program)(t:TypeId)(v:AV)(name:String):Option (FuncId×AV):=
 match P.info? t with
 |some i=>match i.methods.find? (·.name==name) with
  |some m=>if m.path.isEmpty then
    match m.func,P.underlying t with
    |some (f,true),some (.pointer _)=>some (f,v)
    |some (f,false),some (.pointer _)=>none
    |some (f,false),some _=>some (f,v)
    |_,_=>none
   else none
  |none=>none
 |none=>none
abbrev Table:=FuncId->Option (List AV->AC)
def oneOf:List AV->AV
 |[v]=>v
 |vs=>.dh vs
structure w6 where
 v:FuncId->List AV->Option AV
 x:FuncId->Option (List AV->AH->Option (AV×AH))
instance:CoeFun w6 (λ_=>FuncId->List AV->Option AV):=⟨w6.v⟩
noncomputable def b_ (P:Program)(iA:Table)(kn:w6):Nat->AV->List AV->AH->Option (AV×AH)
 |0,_,_,_=>none
 |n+1,f,args,S=>
  match f with
  |.fn (.func f) first cap=>
   match kn.v f (jf first (jf args cap)) with
   |some v=>some (v,S)
   |none=>match iA f with
    |some b=>match run P (b_ P iA kn n) n (b (jf first (jf args cap))) S with
     |some (.ret,vs,S')=>some (oneOf vs,S')
     |_=>none
    |none=>match kn.x f with
     |some g=>g (jf first (jf args cap)) S
     |none=>none
  |.fn (.method name) [] []=>match args with
   |.iface t v::rest=>match methodOf P t v name with
    |some (f,r)=>b_ P iA kn n (.fn (.func f) [] []) (r::rest) S
    |none=>none
   |_=>none
  |.yd l=>match S.get l with
   |some (.loop .ready _ m body)=>
    match Nat.beq (bS args) m with
    |true=>match run P (b_ P iA kn n) n (body (.yd l::args)) S with
     |some (t,_,S')=>match S'.get l with
      |some (.loop .busy _ m' Lg)=>
       match t with
       |.normal=>some (.sc (.bool true),S'.set l (.loop .ready none m' Lg))
       |t=>some (.sc (.bool false),S'.set l (.loop .done (some t) m' Lg))
      |_=>none
     |none=>none
    |false=>none
   |_=>none
  |_=>none
abbrev Fr:=T AV
def Fr.at (F:Fr)(t:Nat):AV:=(T.get F t).getD .no
def Fr.put (F:Fr)(d:Option Nat)(v:AV):Fr:=match d with
 |some d=>T.set F d v
 |none=>F
def Fr.fb (F:Fr):List Nat->Nat->List AV->Fr
 |[],_,_=>F
 |t::ts,i,vs=>Fr.fb (T.set F t (nth vs i)) ts (i+1) vs
def Fr.outs (F:Fr)(l:List Nat):List AV:=l.map F.at
def Fr.drop (F:Fr):List Nat->Fr
 |[]=>F
 |t::ts=>Fr.drop (T.set F t .no) ts
def Fr.ev (F:Fr):Operand->AV
 |.tmp t=>F.at t
 |.const v=>(sX 50 v).getD .no
 |.global _=>.no
 |.func f=>.fn (.func f) [] []
def et (P:Program)(t:TypeId):Option Bool:=
 match P.underlying t with
 |some (.struct _)|some (.array _ _)=>some true
 |some _=>some false
 |none=>none
def aU (P:Program)(t:TypeId):Option Nat:=(P.info? t).map (·.size)
def gH (P:Program)(t:TypeId):Option Nat:=(P.info? t).map (·.bytes)
def iP (P:Program)(t:TypeId):Option AV:=
 match P.info? t with
 |some i=>match i.zero with
  |some v=>sX 50 v
  |none=>none
 |none=>none
def fw (P:Program)(t:TypeId):Option (List AV):=
 match iP P t with
 |some z=>if odd z then none else some z.cells
 |none=>none
inductive Den where
 |val (v:AV)
 |op (o:iO)
 |call (f:AV)(args:List AV)
 |bad
def Den.CQ:Option Den->Den
 |some d=>d
 |none=>.bad
def partsOf (F:Fr)(place:Nat->Option (Nat×Nat)):List (Nat×Operand)->Option (List (Nat×Nat×AV))
 |[]=>some []
 |(i,x)::r=>match place i,partsOf F place r with
  |some (off,size),some ps=>some ((off,size,F.ev x)::ps)
  |_,_=>none
def bV (P:Program)(F:Fr)(o:Oper):Den:=Den.CQ<|
 match o.op with
 |.move x|.assign x=>some (.val (F.ev x))
 |.pick c a b=>some (.op (.pick (F.ev c) (F.ev a) (F.ev b)))
 |.alloc t=>do return .op (.alloc (<-fw P t))
 |.box _ x=>some (.op (.box (F.ev x)))
 |.build t parts=>do
  let z <-fw P t
  match<-P.underlying t with
  |.struct fields=>do
   let places <-fields.toList.mapM λf=>(P.info? f.type).map λi=>(f.offset,i.size)
   return .op (.build z (<-partsOf F (λi=>places[i]?) parts.toList))
  |.array _ e=>do
   let s <-aU P e
   return .op (.build z (<-partsOf F (λi=>some (i*s,s)) parts.toList))
  |_=>none
 |.buildSlice t len parts=>do
  match<-P.underlying t with
  |.slice e=>do
   let s <-aU P e
   let z <-fw P e
   if len*s>16777216 then none else
   return .op (.lK s len z (<-partsOf F (λi=>some (i*s,s)) parts.toList))
  |_=>none
 |.load t a=>do return .op (.load (<-aU P t) (<-et P t) (F.ev a))
 |.store t a x=>do return .op (.store (<-aU P t) (F.ev a) (F.ev x))
 |.nilCheck x=>some (.op (.oJ (F.ev x)))
 |.binOp op t x y _=>do
  match op,<-P.underlying t with
  |.eql,.int _|.eql,.string|.neq,.int _|.neq,.string=>some (.op (.bin op (F.ev x) (F.ev y)))
  |.eql,_=>some (.op (.eq t false (F.ev x) (F.ev y)))
  |.neq,_=>some (.op (.eq t true (F.ev x) (F.ev y)))
  |_,_=>some (.op (.bin op (F.ev x) (F.ev y)))
 |.unOp op _ x=>some (.op (.un op (F.ev x)))
 |.convert src dst x=>do
  match<-P.underlying src,<-P.underlying dst with
  |.int _,.int k=>some (.op (.conv k (F.ev x)))
  |_,_=>none
 |.makeInterface t x=>do
  match<-P.underlying t with
  |.interface _=>none
  |_=>some (.val (.iface t (F.ev x)))
 |.makeFunc (.func f) first cap=>some (.val (.fn (.func f) (first.toList.map F.ev) (cap.toList.map F.ev)))
 |.makeSlice t l c=>do
  match<-P.underlying t with
  |.slice e=>do return .op (.g_ (<-aU P e) (<-gH P e) (<-fw P e) (F.ev l) (F.ev c))
  |_=>none
 |.slice t x lo hi mx=>do
  match<-P.underlying t with
  |.array n e=>do return .op (.oI n (<-aU P e) (F.ev x) (lo.map F.ev) (hi.map F.ev) (mx.map F.ev))
  |.pointer arr=>do
   match<-P.underlying arr with
   |.array n e=>do return .op (.oI n (<-aU P e) (F.ev x) (lo.map F.ev) (hi.map F.ev) (mx.map F.ev))
   |_=>none
  |.slice e=>do return .op (.ko (<-aU P e) (F.ev x) (lo.map F.ev) (hi.map F.ev) (mx.map F.ev))
  |_=>none
 |.fieldAddr s x f=>do
  match<-P.underlying s with
  |.struct fields=>do
   let fd <-fields[f]?
   let n <-aU P fd.type
   if n=0 then none else return .op (.jO fd.offset (F.ev x))
  |_=>none
 |.field t x f=>do
  match<-P.underlying t with
  |.struct fields=>do
   let fd <-fields[f]?
   return .op (.part fd.offset (<-aU P fd.type) (<-et P fd.type) (F.ev x))
  |_=>none
 |.indexAddr t x i=>do
  match<-P.underlying t with
  |.array n e=>do return .op (.zC n (<-aU P e) (F.ev x) (F.ev i))
  |.slice e=>do return .op (.dp (<-aU P e) (F.ev x) (F.ev i))
  |_=>none
 |.index t x i=>do
  match<-P.underlying t with
  |.array n e=>do return .op (.D2 n (<-aU P e) (<-et P e) (F.ev x) (F.ev i))
  |_=>none
 |.typeAssert x _ t ok=>do
  match<-P.underlying t with
  |.interface _=>some (.op (.lM t true ok (iP P t) (F.ev x)))
  |_=>some (.op (.lM t false ok (iP P t) (F.ev x)))
 |.extract x i=>some (.op (.extract i (F.ev x)))
 |.call c=>match c.callee with
  |.value f=>some (.call (F.ev f) (c.args.toList.map F.ev))
  |.invoke r m=>some (.call (.fn (.method m) [] []) (F.ev r::c.args.toList.map F.ev))
  |.builtin b=>match b,c.args.toList,c.argTypes.toList with
   |.len,[x],[t]=>do
    match<-P.underlying t with
    |.array n _=>some (.val (.sc (.int .i64 n)))
    |.pointer arr=>do
     match<-P.underlying arr with
     |.array n _=>some (.val (.sc (.int .i64 n)))
     |_=>none
    |.slice _=>some (.op (.len false (F.ev x)))
    |.string=>some (.op (.len true (F.ev x)))
    |_=>none
   |.append,[s,x],[t,u]=>do
    match<-P.underlying t,<-P.underlying u with
    |.slice e,.slice _=>do
     let z <-fw P e
     let n <-aU P e
     let b <-gH P e
     if Nat.beq (bS z) n then some (.op (.append n b (F.ev s) (F.ev x))) else none
    |.slice e,.string=>do
     let z <-fw P e
     let n <-aU P e
     let b <-gH P e
     if Nat.beq (bS z) n then some (.op (.append n b (F.ev s) (F.ev x))) else none
    |_,_=>none
   |.max,xs,_=>some (.op (.rv true (xs.map F.ev)))
   |.min,xs,_=>some (.op (.rv false (xs.map F.ev)))
   |_,_,_=>none
 |_=>none
def bD:Op->Bool
 |.store ..|.mapUpdate ..|.insert ..=>true
 |.call c=>match c.callee with
  |.builtin b=>match b with
   |.append|.copy|.clear|.delete=>true
   |_=>false
  |_=>true
 |_=>false
def xW (P:Program):Op->Bool
 |.load ..|.lookup ..=>true
 |.call c=>match c.callee with
  |.builtin .len=>match(c.argTypes[0]?).bind P.underlying with
   |some (.map _ _)=>true
   |_=>false
  |_=>false
 |_=>false
inductive Step where
 |exec (i:Nat)
 |lN (i:Nat)
 deriving Inhabited
def Mw (ops:Array Oper):List Nat:=(List.range ops.size).filter λi=>match ops[i]? with|some o=>bD o.op|none=>false
def CR (b:Array Nat)(xX:List Nat)(i:Nat):Nat:=(xX.filter λe=>(b.getD i 0).testBit e).length
inductive w7 where
 |one (i:Nat)
 |wj (i:Nat)(cs:List Nat)
def flat:List w7->List Step
 |[]=>[]
 |.one i::r=>.exec i::flat r
 |.wj i cs::r=>.exec i::(cs.map .lN++flat r)
def mY (P:Program)(ops:Array Oper)(i:Nat):Bool:=match ops[i]? with|some o=>xW P o.op|none=>false
def jS (ops:Array Oper)(i:Nat):Bool:=match ops[i]? with|some o=>bD o.op|none=>false
def zH (P:Program)(ops:Array Oper)(b:Array Nat)(xX:List Nat):Nat->List Nat->List w7
 |k,rest=>
  let now:=(List.range ops.size).filter λi=>!xX.contains i&&CR b xX i==k
  now.map .one++
  match rest with
  |[]=>[]
  |e::rest=>.wj e ((List.range ops.size).filter λi=>mY P ops i&&Nat.ble (CR b xX i) k&&!(b.getD e 0).testBit i)::zH P ops b xX (k+1) rest
def Fw (x y:Nat):Bool:=Nat.beq (Nat.land x y) x
def looks (ops:Array Oper)(o:Oper):List Nat:=
 o.op.operands.toList.filterMap (λ|.tmp t=>some t|_=>none)++match o.guard with
  |some (j,_)=>((ops[j]?).bind (·.dst)).toList
  |none=>[]
def iC (ops:Array Oper)(b:Array Nat):Bool:=
 ops.toList.zipIdx.all λ(o,i)=>match o.dst with
  |none=>true
  |some d=>ops.toList.zipIdx.all λ(o',j)=>Nat.beq i j||!((o'.dst.toList++looks ops o').any (Nat.beq d))||(b.getD (max i j) 0).testBit (min i j)
def mZ (ops:Array Oper)(b:Array Nat):Bool:=(List.range ops.size).all λi=>Nat.blt (b.getD i 0) (2^i)
def BG (P:Program)(ops:Array Oper)(b:Array Nat):List w7->Nat->Nat->Bool
 |[],done,_=>(List.range ops.size).all λi=>done.testBit i
 |.one i::r,done,em=>
  Nat.blt i ops.size&&!done.testBit i&&Fw (b.getD i 0) done&&Fw em (b.getD i 0)&&!jS ops i&&BG P ops b r (done|||2^i) em
 |.wj i cs::r,done,em=>
  Nat.blt i ops.size&&!done.testBit i&&Fw (b.getD i 0) done&&Fw em (b.getD i 0)&&jS ops i&&
  ((List.range ops.size).all λk=>!mY P ops k||!done.testBit k||(b.getD i 0).testBit k||cs.any (Nat.beq k))&&BG P ops b r (done|||2^i) (em|||2^i)
def oO (P:Program)(ops:Array Oper)(draw:Bool):Option (List Step):=
 if draw then
  let b:=Region.before ops
  let xX:=Mw ops
  let p:=zH P ops b xX 0 xX
  if P.follows .mixedOrders&&BG P ops b p 0 0&&iC ops b&&mZ ops b then some (flat p) else none
 else some ((List.range ops.size).map .exec)
abbrev Reads:=List (Nat×Option (AV×Bool)×iO×AV)
def eE (i:Nat):Reads->Option (Option (AV×Bool)×iO×AV)
 |[]=>none
 |(j,r)::rest=>if Nat.beq j i then some r else eE i rest
def aB (P:Program)(ops:Array Oper):List Step->Fr->Reads->(Fr->AC)->AC
 |[],F,_,K=>K F
 |.lN i::rest,F,rs,K=>match eE i rs with
  |some (none,o,v)=>.lN o v (aB P ops rest F rs K)
  |some (some (g,b),o,v)=>.BD g b o v (aB P ops rest F rs K)
  |none=>.fail
 |.exec i::rest,F,rs,K=>match ops[i]? with
  |none=>aB P ops rest F rs K
  |some o=>match o.guard with
   |none=>match bV P F o with
    |.val v=>aB P ops rest (F.put o.dst v) rs K
    |.op a=>.op a λv=>aB P ops rest (F.put o.dst v) ((i,none,a,v)::rs) K
    |.call f args=>.call f args λv=>aB P ops rest (F.put o.dst v) rs K
    |.bad=>.fail
   |some (j,b)=>match(ops[j]?).bind (·.dst) with
    |none=>.fail
    |some t=>
     let g:=F.at t
     match bV P F o with
     |.val v=>.rp g b (.mv v) λv=>aB P ops rest (F.put o.dst v) rs K
     |.op a=>.rp g b a λv=>aB P ops rest (F.put o.dst v) ((i,some (g,b),a,v)::rs) K
     |.call f args=>.hZ g b f args λv=>aB P ops rest (F.put o.dst v) rs K
     |.bad=>.fail
def Mx (t:Nat)(l:List Nat):List Nat:=if l.contains t then l else t::l
def My (vars:List Nat)(ops:Array Oper)(acc:List Nat):List Nat:=
 ops.toList.foldl (λacc o=>match o.dst with|some d=>if vars.contains d then Mx d acc else acc|none=>acc) acc
def pF (vars:List Nat):Code->List Nat->List Nat
 |.region _ ops _,acc=>My vars ops acc
 |.seq a b,acc=>pF vars b (pF vars a acc)
 |.cond _ a b,acc=>pF vars b (pF vars a acc)
 |.block _ b,acc|.loop b,acc|.scope b,acc=>pF vars b acc
 |_,acc=>acc
def ga:Code->List Nat->List Nat
 |.region _ ops _,acc=>ops.toList.foldl (λacc o=>match o.dst with|some d=>d::acc|none=>acc) acc
 |.seq a b,acc=>ga b (ga a acc)
 |.cond _ a b,acc=>ga b (ga a acc)
 |.block _ b,acc|.loop b,acc|.scope b,acc=>ga b acc
 |_,acc=>acc
def dead:Code->Bool
 |.ret|.exit _|.goto _=>true
 |.seq a b=>dead a||dead b
 |.cond _ a b=>dead a&&dead b
 |_=>false
def dM:Code->Bool
 |.skip|.label _|.region _ _ _=>true
 |.seq a b=>dM a&&dM b
 |_=>false
def behind (F:Fr)(c:Code)(o:List Nat)(vs:List AV):Fr:=(F.drop (ga c [])).fb o 0 vs
def ue:Code->Bool
 |.region _ _ _=>true
 |_=>false
def oP (l:Nat):Code->Bool
 |.goto l'=>Nat.beq l l'
 |.seq a b=>oP l a||oP l b
 |.cond _ a b=>oP l a||oP l b
 |.block _ b|.loop b=>oP l b
 |_=>false
mutual
def den (P:Program)(vars:List Nat)(round:Bool)(gt:Option Nat):Code->Fr->List Nat->(Fr->AC)->AC
 |.skip,F,_,K=>K F
 |.label _,F,_,K=>K F
 |.region _ ops draw,F,_,K=>match oO P ops draw with
  |some p=>aB P ops p F [] K
  |none=>.fail
 |.seq a b,F,out,K=>den P vars round gt a F out λF1=>den P vars round gt b F1 out K
 |.cond c a b,F,out,K=>
  if dead a||dead b then .ite (F.ev c) (den P vars round gt a F out K) (den P vars round gt b F out K)
  else
   let o:=pF vars (.cond c a b) []
   .bind (.ite (F.ev c) (den P vars round gt a F o λF1=>.ret .normal (F1.outs o)) (den P vars round gt b F o λF1=>.ret .normal (F1.outs o)))
    none (λvs=>K (behind F (.cond c a b) o vs)) (λvs=>(behind F (.cond c a b) o vs).outs out)
 |.block id c,F,out,K=>
  let o:=pF vars c []
  .bind (den P vars round gt c F o λF1=>.ret .normal (F1.outs o))
   (some (3*id)) (λvs=>K (behind F c o vs)) (λvs=>(behind F c o vs).outs out)
 |.loop c,F,out,_=>
  let o:=pF vars c []
  .loop (F.outs o) (λvs=>den P vars round gt c (behind F c o vs) o λF1=>.ret .normal (F1.outs o))
   (λvs=>(behind F c o vs).outs out)
 |.rangeFunc f ps assign body,F,out,K=>
  if round||!(dM assign) then .fail else
  .D3 ps.size (F.ev f) (λvs=>den P vars true none assign (F.fb ps.toList 1 vs) [] λF1=>.start (nth vs 0) (den P vars true none body F1 [] λ_=>.ret .normal []))
   (K F) (F.outs out)
 |.exit id,F,out,_=>.ret (.exit (3*id)) (F.outs out)
 |.goto l,F,out,_=>match gt with
  |some l'=>if Nat.beq l' l then .ret (.exit (3*l+1)) (F.outs out) else .fail
  |none=>.fail
 |.ret,F,out,_=>.ret .ret (F.outs out)
 |.scope (.seq r1 (.seq r2 (.seq r3 (.seq (.label l) d)))),F,out,K=>
  if !(oP l d&&ue r1&&ue r2&&ue r3) then den P vars round none (.seq r1 (.seq r2 (.seq r3 (.seq (.label l) d)))) F out K else
  let c:=Code.seq r1 (.seq r2 (.seq r3 (.seq (.label l) d)))
  let o:=pF vars c []
  .bind (.bind (den P vars round (some l) (.seq r1 (.seq r2 (.seq r3 (.seq (.label l) d)))) F o λF1=>.ret (.exit (3*l+2)) (F1.outs o))
    (some (3*l+1)) (λvs=>den P vars round none d (behind F c o vs) o λF1=>.ret (.exit (3*l+2)) (F1.outs o)) (λvs=>vs))
   (some (3*l+2)) (λvs=>K (behind F c o vs)) (λvs=>(behind F c o vs).outs out)
 |.scope c,F,out,K=>den P vars round none c F out K
 |.refuse _,_,_,_=>.fail
end
def cY (P:Program):List ResultVar->Nat->List AV->List AV->AC
 |[],_,_,acc=>.ret .ret acc
 |.tmp _::rs,i,vs,acc=>cY P rs (i+1) vs (acc++[nth vs i])
 |.cell _ t::rs,i,vs,acc=>match aU P t,et P t with
  |some n,some g=>.op (.load n g (nth vs i)) λx=>cY P rs (i+1) vs (acc++[x])
  |_,_=>.fail
def ResultVar.slot:ResultVar->Nat
 |.tmp t=>t
 |.cell a _=>a
def kV (ops:Array Oper):Option Call:=match ops.back? with
 |some o=>match o.guard,o.dst with
  |none,none=>match o.op with
   |.defer c=>some c
   |_=>none
  |_,_=>none
 |none=>none
def hG:Code->Option (Array Oper×Call)
 |.region _ ops false=>match kV ops with
  |some c=>some (ops,c)
  |none=>none
 |_=>none
def ff:Code->Bool
 |.seq a b=>(hG a).isSome||ff b
 |_=>false
def eY (P:Program)(g:FuncId):Bool:=match P.funcs[g]? with
 |some fn=>match fn.body with
  |some c=>!ff c&&Nat.ble fn.params.size 2
  |none=>false
 |none=>false
def fits (n:Nat):Code->Bool
 |.region _ ops _=>ops.toList.all λo=>match o.dst with|some d=>Nat.blt d n|none=>true
 |.seq a b=>fits n a&&fits n b
 |.cond _ a b=>fits n a&&fits n b
 |.block _ b|.loop b|.scope b=>fits n b
 |.rangeFunc _ ps a b=>ps.toList.all (λp=>Nat.blt p n)&&fits n a&&fits n b
 |_=>true
def oc (P:Program)(vars:List Nat)(rs:List ResultVar)(out:List Nat):Code->Fr->AC
 |.seq a b,F=>match hG a with
  |some (ops,c)=>aB P ops ((List.range (ops.size-1)).map .exec) F [] λF1=>
   match c.callee with
   |.value f=>match F1.ev f with
    |.fn (.func g) fa fc=>
     if eY P g then .fin (den P vars false none b F1 out λF=>.ret .ret (F.outs out)) λvs=>
      .call (.fn (.func g) fa fc) (c.args.toList.map F1.ev) λ_=>cY P rs 0 vs []
     else .fail
    |_=>.fail
   |_=>.fail
  |none=>if dM a then den P vars false none a F [] λF1=>oc P vars rs out b F1 else .fail
 |_,_=>.fail
def uf:ResultVar->Bool
 |.tmp _=>true
 |_=>false
def fx (P:Program)(fn:Func)(vars:List Nat)(args:List AV):AC:=
 match fn.body with
 |none=>.fail
 |some c=>
  if !(fits fn.ntmps c) then .fail else
  let out:=fn.results.toList.map ResultVar.slot
  let F0:=Fr.fb .e (List.range (fn.params.size+fn.nfree)) 0 args
  if ff c then oc P vars fn.results.toList out c F0
  else if fn.results.toList.all uf then den P vars false none c F0 out λF=>.ret .ret (F.outs out)
  else .fin (den P vars false none c F0 out λF=>.ret .ret (F.outs out)) λvs=>cY P fn.results.toList 0 vs []
theorem Fx (x:Option AO):∀f k,k<f->∀j,fN (wu x f k) j=if j=k then x else none:=by
 intro f;induction f with
 |zero=>intro k h;omega
 |succ f ih=>
  intro k h j;cases k with
  |zero=>cases j with
   |zero=>rfl
   |succ j=>
    show(Bool.rec (fN .e (Nat.div j 2)) (fN .e (Nat.div j 2)) (Nat.beq (Nat.mod j 2) 0):Option AO)=_;cases Nat.beq (Nat.mod j 2) 0<;>simp<;>rfl
  |succ k=>
   have hk:k/2<f:=am;have Qv:=ih (k/2) hk;show fN (Bool.rec (motive:=λ_=>T AO) (.n .e none (wu x f (Nat.div k 2))) (.n (wu x f (Nat.div k 2)) none .e) (Nat.beq (Nat.mod k 2) 0)) j=_;cases j with
   |zero=>cases Nat.beq (Nat.mod k 2) 0<;>simp<;>rfl
   |succ j=>
    have e1:(Nat.beq (Nat.mod k 2) 0=true)↔k%2=0:=Nat.beq_eq▸Iff.rfl;have e2:(Nat.beq (Nat.mod j 2) 0=true)↔j%2=0:=Nat.beq_eq▸Iff.rfl;cases hb:Nat.beq (Nat.mod k 2) 0<;>cases hc:Nat.beq (Nat.mod j 2) 0
    .show(Bool.rec (fN (wu x f (Nat.div k 2)) (Nat.div j 2)) (fN .e (Nat.div j 2)) (Nat.beq (Nat.mod j 2) 0):Option AO)=_;rw[hc];show fN (wu x f (k/2)) (j/2)=_;rw[Qv];have:k%2≠0:=λh=>by rw[e1.2 h] at hb;cases hb
     have:j%2≠0:=λh=>by rw[e2.2 h] at hc;cases hc
     by_cases h2:j/2=k/2;.rw[if_pos h2,if_pos am]
     .rw[if_neg h2,if_neg am]
    .show(Bool.rec (fN (wu x f (Nat.div k 2)) (Nat.div j 2)) (fN .e (Nat.div j 2)) (Nat.beq (Nat.mod j 2) 0):Option AO)=_;rw[hc];have:k%2≠0:=λh=>by rw[e1.2 h] at hb;cases hb
     have:=e2.1 hc;rw[if_neg am];rfl
    .show(Bool.rec (fN .e (Nat.div j 2)) (fN (wu x f (Nat.div k 2)) (Nat.div j 2)) (Nat.beq (Nat.mod j 2) 0):Option AO)=_;rw[hc];have:=e1.1 hb;have:j%2≠0:=λh=>by rw[e2.2 h] at hc;cases hc
     rw[if_neg am];rfl
    .show(Bool.rec (fN .e (Nat.div j 2)) (fN (wu x f (Nat.div k 2)) (Nat.div j 2)) (Nat.beq (Nat.mod j 2) 0):Option AO)=_;rw[hc];show fN (wu x f (k/2)) (j/2)=_;rw[Qv];have:=e1.1 hb;have:=e2.1 hc;by_cases h2:j/2=k/2;.rw[if_pos h2,if_pos am]
     .rw[if_neg h2,if_neg am]
theorem i6 (l:T AO)(v:Option AO)(r:T AO)(j:Nat):fN (.n l v r) (j+1)=if j%2=0 then fN l (j/2) else fN r (j/2):=by
 show(Bool.rec (fN r (Nat.div j 2)) (fN l (Nat.div j 2)) (Nat.beq (Nat.mod j 2) 0):Option AO)=_;have e:(Nat.beq (Nat.mod j 2) 0=true)↔j%2=0:=Nat.beq_eq▸Iff.rfl;cases hc:Nat.beq (Nat.mod j 2) 0;.rw[if_neg (λh=>by rw[e.2 h] at hc;cases hc)];rfl
 .rw[if_pos (e.1 hc)];rfl
theorem ug (x:Option AO):∀(t:T AO) (k j:Nat),fN (D4 x t k) j=if j=k then x else fN t j:=by
 intro t;induction t with
 |e=>intro k j;exact Fx x (k+1) k am j
 |n l v r il ir=>
  intro k j;cases k with
  |zero=>
   show fN (.n l x r) j=_;cases j with
   |zero=>rfl
   |succ j=>rw[i6,i6,if_neg (by omega:¬j+1=0)]
  |succ k=>
   show fN (Bool.rec (motive:=λ_=>T AO) (.n l v (D4 x r (Nat.div k 2))) (.n (D4 x l (Nat.div k 2)) v r) (Nat.beq (Nat.mod k 2) 0)) j=_;have e:(Nat.beq (Nat.mod k 2) 0=true)↔k%2=0:=Nat.beq_eq▸Iff.rfl;cases hc:Nat.beq (Nat.mod k 2) 0
   .have hk:k%2≠0:=λh=>by rw[e.2 h] at hc;cases hc
    show fN (.n l v (D4 x r (k/2))) j=_;cases j with
    |zero=>rfl
    |succ j=>
     rw[i6,i6];by_cases hj:j%2=0;.rw[if_pos hj,if_pos hj,if_neg am]
     .rw[if_neg hj,if_neg hj,ir];by_cases h2:j/2=k/2;.rw[if_pos h2,if_pos am]
      .rw[if_neg h2,if_neg am]
   .have hk:=e.1 hc;show fN (.n (D4 x l (k/2)) v r) j=_;cases j with
    |zero=>rfl
    |succ j=>
     rw[i6,i6];by_cases hj:j%2=0
     .rw[if_pos hj,if_pos hj,il];by_cases h2:j/2=k/2;.rw[if_pos h2,if_pos am]
      .rw[if_neg h2,if_neg am]
     .rw[if_neg hj,if_neg hj,if_neg am]
theorem AH.dE (S:AH)(i j:Nat)(o:AO):(S.set i o).get j=if j=i then some o else S.get j:=ug _ _ _ _
theorem AH.gg (S:AH)(i j:Nat):(S.kill i).get j=if j=i then none else S.get j:=ug _ _ _ _
theorem AH.b8 (S:AH)(j:Nat)(o:AO):(S.new o).get j=if j=S.next then some o else S.get j:=ug _ _ _ _
@[simp] theorem AH.Qw (S:AH) (i:Nat) (o:AO):(S.set i o).next=S.next:=rfl
@[simp] theorem AH.PL (S:AH) (i:Nat):(S.kill i).next=S.next:=rfl
@[simp] theorem AH.Qx (S:AH) (o:AO):(S.new o).next=S.next+1:=rfl
namespace T
variable{α:Type}
theorem Fy:∀(f:Nat) (t:T α) (k:Nat) (x:Option α),k<f->∀j,(pK f t k x).get j=if j=k then x else t.get j:=by
 intro f;induction f with
 |zero=>intro t k x h;omega
 |succ f ih=>
  intro t k x h j;have eb:∀m:Nat,(Nat.beq (Nat.mod m 2) 0=true)↔m%2=0:=λm=>Nat.beq_eq▸Iff.rfl;cases t with
  |e=>
   cases k with
   |zero=>cases j with
    |zero=>rfl
    |succ j=>simp only[pK,get];split<;>simp
   |succ k=>
    have hk:k/2<f:=am;have Qv:=ih .e (k/2) x hk;simp only[pK];by_cases hp:k%2=0
    .rw[if_pos ((eb k).2 hp)];cases j with
     |zero=>simp[get]
     |succ j=>
      simp only[get];by_cases hq:j%2=0
      .rw[if_pos ((eb j).2 hq)];show(pK f T.e (k/2) x).get (j/2)=_;rw[Qv];by_cases h2:j/2=k/2;.rw[if_pos h2,if_pos am]
       .rw[if_neg h2,if_neg am];rfl
      .rw[if_neg (λh=>hq ((eb j).1 h)),if_neg am]
    .rw[if_neg (λh=>hp ((eb k).1 h))];cases j with
     |zero=>simp[get]
     |succ j=>
      simp only[get];by_cases hq:j%2=0;.rw[if_pos ((eb j).2 hq),if_neg am]
      .rw[if_neg (λh=>hq ((eb j).1 h))];show(pK f T.e (k/2) x).get (j/2)=_;rw[Qv];by_cases h2:j/2=k/2;.rw[if_pos h2,if_pos am]
       .rw[if_neg h2,if_neg am];rfl
  |n l v r=>
   cases k with
   |zero=>cases j with
    |zero=>rfl
    |succ j=>simp only[pK,get];simp
   |succ k=>
    have hk:k/2<f:=am;simp only[pK];by_cases hp:k%2=0
    .rw[if_pos ((eb k).2 hp)];cases j with
     |zero=>simp[get]
     |succ j=>
      simp only[get];by_cases hq:j%2=0
      .rw[if_pos ((eb j).2 hq),if_pos ((eb j).2 hq)];show(pK f l (k/2) x).get (j/2)=_;rw[ih l (k/2) x hk];by_cases h2:j/2=k/2;.rw[if_pos h2,if_pos am]
       .rw[if_neg h2,if_neg am];rfl
      .rw[if_neg (λh=>hq ((eb j).1 h)),if_neg (λh=>hq ((eb j).1 h)),if_neg am]
    .rw[if_neg (λh=>hp ((eb k).1 h))];cases j with
     |zero=>simp[get]
     |succ j=>
      simp only[get];by_cases hq:j%2=0;.rw[if_pos ((eb j).2 hq),if_pos ((eb j).2 hq),if_neg am]
      .rw[if_neg (λh=>hq ((eb j).1 h)),if_neg (λh=>hq ((eb j).1 h))];show(pK f r (k/2) x).get (j/2)=_;rw[ih r (k/2) x hk];by_cases h2:j/2=k/2;.rw[if_pos h2,if_pos am]
       .rw[if_neg h2,if_neg am];rfl
theorem dE (t:T α)(k:Nat)(x:α)(j:Nat):(t.set k x).get j=if j=k then some x else t.get j:=Fy (k+1) t k (some x) am j
end T
theorem nM:∀(l:List AV) (i:Nat),zG l i=l[i]?
 |[],i=>by simp;rfl
 |v::r,0=>rfl
 |v::r,i+1=>by show zG r i=_;rw[nM r i];simp
theorem dN:∀(n:Nat) (l:List AV),jP n l=l.drop n
 |0,l=>rfl
 |n+1,[]=>rfl
 |n+1,v::r=>by show jP n r=_;rw[dN n r];rfl
theorem dt:∀(n:Nat) (l:List AV),jQ n l=l.take n
 |0,l=>rfl
 |n+1,[]=>rfl
 |n+1,v::r=>by show v::jQ n r=_;rw[dt n r];rfl
theorem bB:∀(l:List AV),bS l=l.length
 |[]=>rfl
 |v::r=>by show Nat.succ (bS r)=_;rw[bB r];rfl
theorem fK:∀(a b:List AV),jf a b=a++b
 |[],b=>rfl
 |v::r,b=>by show v::jf r b=_;rw[fK r b];rfl
theorem cb (c:List AV)(off:Nat)(vs:List AV):bn c off vs=c.take off++(vs++c.drop (off+vs.length)):=by simp[bn,fK,dt,dN,bB]
theorem Fz:∀(l:List AV) (i:Nat),nth l i=(l[i]?).getD .no
 |[],i=>by simp[nth]
 |v::r,0=>by simp[nth]
 |v::r,i+1=>by simp[nth,Fz r i]
theorem gI {x k}{n:Int}(h:asInt x=some (k,n)):x=.sc (.int k n):=by
 cases x<;>first|(cases h;done)|skip
 rename_i v;cases v<;>first|(cases h;done)|(cases h;rfl)
@[simp] theorem PM (k:IntKind) (n:Int):asInt (.sc (.int k n))=some (k,n):=rfl
theorem jT {x}{b:Bool}(h:asBool x=some b):x=.sc (.bool b):=by
 cases x<;>first|(cases h;done)|skip
 rename_i v;cases v<;>first|(cases h;done)|(cases h;rfl)
@[simp] theorem Lh (b:Bool):asBool (.sc (.bool b))=some b:=rfl
theorem fO {x}{i o:Nat}(h:h_ x=some (i,o)):x=.ptr i o:=by
 cases x<;>first|(cases h;done)|(cases h;rfl)
@[simp] theorem PN (i o:Nat):h_ (.ptr i o)=some (i,o):=rfl
theorem uh {x l}(h:asAgg x=some l):x=.agg l:=by
 cases x<;>first|(cases h;done)|(cases h;rfl)
@[simp] theorem PO (l:List AV):asAgg (.agg l)=some l:=rfl
theorem BH {x l}(h:CK x=some l):x=.dh l:=by
 cases x<;>first|(cases h;done)|(cases h;rfl)
@[simp] theorem PR (l:List AV):CK (.dh l)=some l:=rfl
theorem FA (x:AV):x.cells=match x with|.agg cs=>cs|v=>[v]:=by cases x<;>rfl
theorem xY (x:AV):odd x=match x with|.no|.dh _=>true|_=>false:=by cases x<;>rfl
theorem BI {o l}(h:Ld o=some l):o=.row l:=by
 cases o<;>first|(cases h;done)|(cases h;rfl)
theorem xZ {o l}(h:CL o=some l):o=.row l\/o=.ro l:=by
 cases o<;>first|(cases h;done)|(cases h;first|exact .inl rfl|exact .inr rfl)
theorem BJ (j k:IntKind):oK j k=true↔j=k:=by
 cases j<;>cases k<;>decide
theorem si {j k}(h:oK j k=true):j=k:=(BJ j k).1 h
theorem fP (a b:Int):E_ a b=decide (a<b):=by
 have h:∀m n:Nat,Nat.ble (Nat.succ m) n=decide (m<n):=λm n=>by rw[Bool.eq_iff_iff,Nat.ble_eq,decide_eq_true_iff];exact Iff.rfl
 cases a with
 |ofNat a=>cases b with
  |ofNat b=>show Nat.ble (Nat.succ a) b=_;rw[h,Bool.eq_iff_iff];simp
  |negSucc b=>show false=_;symm;rw[decide_eq_false_iff_not];simp only[Int.negSucc_eq,Int.ofNat_eq_natCast];omega
 |negSucc a=>cases b with
  |ofNat b=>show true=_;symm;rw[decide_eq_true_iff];simp only[Int.negSucc_eq,Int.ofNat_eq_natCast];omega
  |negSucc b=>show Nat.ble (Nat.succ b) a=_;rw[h,Bool.eq_iff_iff,decide_eq_true_iff,decide_eq_true_iff];simp only[Int.negSucc_eq];omega
theorem dX (a b:Int):Ja a b=(a==b):=by
 have h:∀m n:Nat,Nat.beq m n=decide (m=n):=λm n=>by rw[Bool.eq_iff_iff,Nat.beq_eq,decide_eq_true_iff]
 cases a with
 |ofNat a=>cases b with
  |ofNat b=>show Nat.beq a b=_;rw[h,Bool.eq_iff_iff];simp;omega
  |negSucc b=>show false=_;symm;rw[beq_eq_false_iff_ne];simp
 |negSucc a=>cases b with
  |ofNat b=>show false=_;symm;rw[beq_eq_false_iff_ne];simp
  |negSucc b=>show Nat.beq a b=_;rw[h,Bool.eq_iff_iff];simp
theorem x4 (k:IntKind)(a:Nat)(hle:a<=Fo k):k.wrap (Int.ofNat a)=Int.ofNat a:=by
 have hm:(Int.ofNat a)%(2^k.bits:Int)=Int.ofNat a:=by
  cases k<;>(simp only[IntKind.bits,Int.ofNat_eq_natCast];refine Int.emod_eq_of_lt am ?_)<;>(have:a<=_:=hle;simp only[Fo] at this;omega)
 have hs:(k.signed&&decide (Int.ofNat a≥(2^(k.bits-1):Int)))=false:=by
  clear hm;cases k<;>first|rfl|(show decide _=false;refine decide_eq_false ?_;have:a<=_:=hle;simp only[Fo] at this;simp only[IntKind.bits,Int.ofNat_eq_natCast];omega)
 unfold IntKind.wrap;simp only[hm,hs];simp
theorem br (k:IntKind)(n:Int):fu k n=k.wrap n:=by
 cases n with
 |negSucc a=>rfl
 |ofNat a=>
  simp only[fu];cases h:Nat.ble a (Fo k) with
  |false=>rfl
  |true=>exact(x4 k a (Nat.le_of_ble_eq_true h)).symm
theorem D7 {n:Int}{a:Nat}(h:nat? n=some a):n=a:=by cases n<;>simp[nat?] at h;simp[h]
theorem kW {i}{n a:Nat}(h:oL i n=some a):∃k,i=.sc (.int k (a:Int))/\a<n:=by
 unfold oL at h;cases hi:asInt i with
 |none=>simp[hi] at h
 |some kn=>
  obtain⟨k,m⟩:=kn;simp only[hi] at h;cases hm:nat? m with
  |none=>simp[hm] at h
  |some b=>
   simp only[hm,below] at h;cases hb:Nat.ble (Nat.succ b) n with
   |false=>simp[hb] at h
   |true=>simp only[hb,Option.some.injEq] at h;subst h;have:=D7 hm;subst this;exact⟨k,gI hi,Nat.le_of_ble_eq_true hb⟩
theorem w8 {i}{n a:Nat}(h:Jd i n=some a):∃k,i=.sc (.int k (a:Int))/\a<=n:=by obtain⟨k,e,h⟩:=kW h;exact⟨k,e,Nat.le_of_lt_succ h⟩
section
class jJ where
 val:Nat->Value
 one:∀i,(val i).oneCell'=true
instance(priority:=low) jJ.none:jJ:=⟨λ_=>.bool true,λ_=>rfl⟩
variable[jJ]
abbrev Ren:=Nat->Option (Nat×Nat×Nat)
def Ren.le (ρ ba:Ren):Prop:=∀id x,ρ id=some x->ba id=some x
theorem Ren.le_refl (ρ:Ren):ρ.le ρ:=λ_ _ h=>h
theorem Ren.le_trans {a b c:Ren}(h:a.le b)(k:b.le c):a.le c:=λ_ _ x=>k _ _ (h _ _ x)
def Ren.put (ρ:Ren)(i:Nat)(x:Nat×Nat×Nat):Ren:=λj=>if j=i then some x else ρ j
theorem Ren.kt {ρ:Ren}{i:Nat}{x:Nat×Nat×Nat}(h:ρ i=none):ρ.le (ρ.put i x):=by
 intro j y hy;unfold Ren.put;split;.next e=>subst e;rw[h] at hy;cases hy
 .exact hy
@[simp] theorem Ren.bI (ρ:Ren) (i:Nat) (x:Nat×Nat×Nat):ρ.put i x i=some x:=by simp[Ren.put]
theorem Ren.aN (ρ:Ren){i j:Nat}(x:Nat×Nat×Nat)(h:j≠i):ρ.put i x j=ρ j:=by simp[Ren.put,h]
def FB:Fn->Bool
 |.func _|.method _=>true
 |_=>false
mutual
inductive V (ρ:Ren):AV->Value->Prop
 |sc {v}(h:scalar v=true):V ρ (.sc v) v
 |ptr {id b o l off:Nat}(h:ρ id=some (b,o,l)):V ρ (.ptr id off) (.pointer (some ⟨b,o+off,none⟩))
 |sl {id b o l off len cap:Nat}(h:ρ id=some (b,o,l)):V ρ (.sl id off len cap) (.slice (some ⟨b,o+off,none⟩) len cap)
 |op {id b o l off len cw cap es:Nat}(h:ρ id=some (b,o,l))(h0:len<=cw)(h1:cw<=cap)(h2:o+off+cap*es<=l):
   V ρ (.op id off len cw es) (.slice (some ⟨b,o+off,none⟩) len cap)
 |zI {id b o l off x es:Nat}(h:ρ id=some (b,o,l)):V ρ (.op id off 0 0 es) (.slice (some ⟨b,x,none⟩) 0 0)
 |map {id b o l:Nat}(h:ρ id=some (b,o,l)):V ρ (.map id) (.map (some b))
 |fn {f a c a' c'}(hf:FB f=true)(h1:VL ρ a a')(h2:VL ρ c c'):V ρ (.fn f a c) (.func f a'.toArray c'.toArray)
 |yd {id b o l:Nat}(h:ρ id=some (b,o,l)):V ρ (.yd id) (.func (.yield b) #[] #[])
 |iface {t v x}(h:V ρ v x):V ρ (.iface t v) (.iface t x)
 |agg {cs xs}(h:VL ρ cs xs)(h1:∀x∈xs,x.oneCell'=true):V ρ (.agg cs) (.agg xs.toArray)
 |dh {cs xs}(h:VL ρ cs xs):V ρ (.dh cs) (.tuple xs.toArray)
 |no {x}:V ρ .no x
 |tok {i:Nat}:V ρ (.tok i) (jJ.val i)
inductive VL (ρ:Ren):List AV->List Value->Prop
 |nil:VL ρ [] []
 |cons {v x vs xs}(h:V ρ v x)(r:VL ρ vs xs):VL ρ (v::vs) (x::xs)
end
mutual
theorem V.mono {ρ ba}(hl:ρ.le ba):∀{v} {x},V ρ v x->V ba v x
 |_,_,.sc h=>.sc h
 |_,_,.ptr h=>.ptr (hl _ _ h)
 |_,_,.sl h=>.sl (hl _ _ h)
 |_,_,.op h h0 h1 h2=>.op (hl _ _ h) h0 h1 h2
 |_,_,.zI h=>.zI (hl _ _ h)
 |_,_,.map h=>.map (hl _ _ h)
 |_,_,.fn hf h1 h2=>.fn hf (VL.mono hl h1) (VL.mono hl h2)
 |_,_,.yd h=>.yd (hl _ _ h)
 |_,_,.iface h=>.iface (V.mono hl h)
 |_,_,.agg h h1=>.agg (VL.mono hl h) h1
 |_,_,.dh h=>.dh (VL.mono hl h)
 |_,_,.no=>.no
 |_,_,.tok=>.tok
theorem VL.mono {ρ ba}(hl:ρ.le ba):∀{v} {x},VL ρ v x->VL ba v x
 |_,_,.nil=>.nil
 |_,_,.cons h r=>.cons (V.mono hl h) (VL.mono hl r)
end
theorem VL.length {ρ}:∀{a} {b},VL ρ a b->a.length=b.length
 |_,_,.nil=>rfl
 |_,_,.cons _ r=>by simp[VL.length r]
theorem VL.get {ρ}:∀{a} {b},VL ρ a b->∀{i:Nat} {v},a[i]?=some v->∃x,b[i]?=some x/\V ρ v x
 |_,_,.nil,i,v,h=>by simp at h
 |_,_,.cons h r,0,v,e=>by simp at e;subst e;exact⟨_,rfl,h⟩
 |_,_,.cons h r,i+1,v,e=>by simp at e;obtain⟨x,e1,e2⟩:=VL.get r e;exact⟨x,by simpa using e1,e2⟩
theorem VL.x5 {ρ}:∀{a} {b},a.length=b.length->(∀(i:Nat) (v:AV) (x:Value),a[i]?=some v->b[i]?=some x->V ρ v x)->VL ρ a b
 |[],[],_,_=>.nil
 |[],_::_,h,_=>by simp at h
 |_::_,[],h,_=>by simp at h
 |v::a,x::b,h,g=>.cons (g 0 v x rfl rfl) (VL.x5 (by simpa using h) λi v x h1 h2=>g (i+1) v x (by simpa using h1) (by simpa using h2))
theorem VL.append {ρ}:∀{a} {b} {c} {d},VL ρ a b->VL ρ c d->VL ρ (a++c) (b++d)
 |_,_,_,_,.nil,k=>k
 |_,_,_,_,.cons h r,k=>.cons h (VL.append r k)
theorem VL.take {ρ}:∀(n:Nat) {a} {b},VL ρ a b->VL ρ (a.take n) (b.take n)
 |0,_,_,_=>by simpa using VL.nil
 |n+1,_,_,.nil=>.nil
 |n+1,_,_,.cons h r=>.cons h (VL.take n r)
theorem VL.drop {ρ}:∀(n:Nat) {a} {b},VL ρ a b->VL ρ (a.drop n) (b.drop n)
 |0,_,_,h=>h
 |n+1,_,_,.nil=>.nil
 |n+1,_,_,.cons h r=>VL.drop n r
theorem VL.nth {ρ a b}(h:VL ρ a b)(i:Nat)(d:Value):V ρ (nth a i) (b.getD i d):=by
 rw[Fz];cases e:a[i]? with
 |none=>exact .no
 |some v=>obtain⟨x,e1,e2⟩:=h.get e;simpa[List.getD,e1] using e2
theorem V.eZ {ρ k}{n:Int}{x}(h:V ρ (.sc (.int k n)) x):x=.int k n:=by cases h;rfl
theorem V.zJ {ρ}{b:Bool}{x}(h:V ρ (.sc (.bool b)) x):x=.bool b:=by cases h;rfl
theorem V.fQ {ρ v x}(h:V ρ (.sc v) x):x=v/\scalar v=true:=by cases h with|sc h=>exact⟨rfl,h⟩
theorem V.jU {ρ}{i off:Nat}{x}(h:V ρ (.ptr i off) x):∃b o l,ρ i=some (b,o,l)/\x=.pointer (some ⟨b,o+off,none⟩):=by
 cases h with|ptr h=>exact⟨_,_,_,h,rfl⟩
theorem V.x6 {ρ cs x}(h:V ρ (.agg cs) x):∃xs:List Value,x=.agg xs.toArray/\VL ρ cs xs/\∀x∈xs,x.oneCell'=true:=by
 cases h with|agg h h1=>exact⟨_,rfl,h,h1⟩
theorem V.Je {ρ cs x}(h:V ρ (.dh cs) x):∃xs:List Value,x=.tuple xs.toArray/\VL ρ cs xs:=by
 cases h with|dh h=>exact⟨_,rfl,h⟩
theorem V.bool (ρ:Ren)(b:Bool):V ρ (.sc (.bool b)) (.bool b):=.sc rfl
theorem V.int (ρ:Ren)(k:IntKind)(n:Int):V ρ (.sc (.int k n)) (.int k n):=.sc rfl
theorem V.uv (ρ:Ren):V ρ uv undef:=.dh .nil
theorem V.one {ρ v x}(h:V ρ v x)(ho:odd v=false)(ha:∀cs,v≠.agg cs):x.oneCell'=true:=by
 cases h with
 |sc h=>cases x<;>first|rfl|(simp[scalar] at h)
 |agg h h1=>exact absurd rfl (ha _)
 |dh h=>rw[xY] at ho;cases ho
 |no=>rw[xY] at ho;cases ho
 |tok=>exact jJ.one _
 |_=>rfl
theorem V.x7 {ρ v x}(h:V ρ v x)(ho:odd v=false):VL ρ v.cells x.cells.toList/\∀y∈x.cells.toList,y.oneCell'=true:=by
 rw[FA];cases h with
 |agg h h1=>exact⟨by simpa[Value.cells] using h,by simpa[Value.cells] using h1⟩
 |dh h=>rw[xY] at ho;cases ho
 |no=>rw[xY] at ho;cases ho
 |sc h=>
  have h1:=V.one (ρ:=ρ) (.sc h) rfl ac;have hc:x.cells=#[x]:=by cases x<;>first|rfl|(simp[scalar] at h)
  rw[hc];exact⟨.cons (.sc h) .nil,by simpa using h1⟩
 |ptr h=>exact⟨.cons (.ptr h) .nil,by simp[Value.cells,Value.oneCell']⟩
 |sl h=>exact⟨.cons (.sl h) .nil,by simp[Value.cells,Value.oneCell']⟩
 |op h z a b=>exact⟨.cons (.op h z a b) .nil,by simp[Value.cells,Value.oneCell']⟩
 |zI h=>exact⟨.cons (.zI h) .nil,by simp[Value.cells,Value.oneCell']⟩
 |map h=>exact⟨.cons (.map h) .nil,by simp[Value.cells,Value.oneCell']⟩
 |fn hf a b=>exact⟨.cons (.fn hf a b) .nil,by simp[Value.cells,Value.oneCell']⟩
 |yd h=>exact⟨.cons (.yd h) .nil,by simp[Value.cells,Value.oneCell']⟩
 |iface h=>exact⟨.cons (.iface h) .nil,by simp[Value.cells,Value.oneCell']⟩
 |@tok i=>
  have h1:=jJ.one i;have h2:V ρ (.tok i) (jJ.val i):=.tok;generalize jJ.val i=x at h1 h2⊢;have hc:x.cells=#[x]:=by cases x<;>first|rfl|(simp[Value.oneCell'] at h1)
  rw[hc];exact⟨.cons h2 .nil,by simpa using h1⟩
theorem jh {ρ f}(hf:∀v a,f v=some a->V ρ a v):∀{l} {as},pM f l=some as->VL ρ as l
 |[],as,h=>by simp[pM] at h;subst h;exact .nil
 |v::r,as,h=>by
  simp only[pM] at h;cases h1:f v with
  |none=>simp[h1] at h
  |some a=>
   cases h2:pM f r with
   |none=>simp[h1,h2] at h
   |some b=>simp[h1,h2] at h;subst h;exact .cons (hf _ _ h1) (jh hf h2)
theorem zK {ρ:Ren}{f:Value->Option AV}(hf:∀v a,f v=some a->V ρ a v):∀{l:List Value} {as:List AV},pM (λv=>one? (f v)) l=some as->∀x∈l,x.oneCell'=true
 |[],as,h,x,hx=>by simp at hx
 |v::r,as,h,x,hx=>by
  simp only[pM] at h;cases h1:one? (f v) with
  |none=>simp[h1] at h
  |some a=>
   cases h2:pM (λv=>one? (f v)) r with
   |none=>simp[h1,h2] at h
   |some b=>
    rcases List.mem_cons.1 hx with rfl|hx
    .cases h3:f x with
     |none=>rw[h3] at h1;simp[one?] at h1
     |some c=>
      rw[h3] at h1;have hv:=hf _ _ h3;refine hv.one ?_ ?_;.cases c<;>first|rfl|(simp[one?] at h1)
      .intro cs e;subst e;simp[one?] at h1
    .exact zK hf h2 x hx
theorem D8 {o a}(h:one? o=some a):o=some a:=by
 unfold one? at h;split at h<;>first|(cases h;done)|exact h
theorem rA {ρ:Ren}:∀{n:Nat} {v:Value} {a:AV},sX n v=some a->V ρ a v:=by
 intro n;induction n with
 |zero=>intro v a h;simp[sX] at h
 |succ n ih=>
  intro v a h;cases v with
  |agg cs=>
   simp only[sX,Option.map_eq_some_iff] at h;obtain⟨l,hl,rfl⟩:=h;have h1:=jh (ρ:=ρ) (f:=λv=>one? (sX n v)) (λv a h=>ih (D8 h)) hl;have h2:=zK (ρ:=ρ) (f:=sX n) (λv a h=>ih h) hl;have:=V.agg h1 h2;simpa using this
  |tuple cs=>
   simp only[sX,Option.map_eq_some_iff] at h;obtain⟨l,hl,rfl⟩:=h;have:=V.dh (jh (ρ:=ρ) (λv a h=>ih h) hl);simpa using this
  |iface t v=>
   simp only[sX,Option.map_eq_some_iff] at h;obtain⟨x,hx,rfl⟩:=h;exact .iface (ih hx)
  |func f a b=>
   cases f with
   |func f=>
    simp only[sX] at h;cases h1:pM (sX n) a.toList with
    |none=>simp[h1] at h
    |some a'=>
     cases h2:pM (sX n) b.toList with
     |none=>simp[h1,h2] at h
     |some b'=>
      simp[h1,h2] at h;subst h;have:=V.fn (ρ:=ρ) (f:=.func f) rfl (jh (λv a h=>ih h) h1) (jh (λv a h=>ih h) h2);simpa using this
   |_=>simp[sX,scalar] at h
  |_=>simp only[sX] at h;split at h<;>first|(cases h;done)|(next hs=>cases h;exact .sc hs)
mutual
theorem nN {ρ}:∀{a} {v x},tD a=some v->V ρ a x->x=v
 |.sc u,v,x,h,hv=>by simp[tD] at h;rw[<-h];exact hv.fQ.1
 |.agg cs,v,x,h,hv=>by
  simp only[tD,Option.map_eq_some_iff] at h;obtain⟨l,hl,rfl⟩:=h;obtain⟨xs,rfl,h1,_⟩:=hv.x6;rw[uj hl h1]
 |.iface t u,v,x,h,hv=>by
  simp only[tD,Option.map_eq_some_iff] at h;obtain⟨l,hl,rfl⟩:=h;cases hv with|iface hv=>rw[nN hl hv]
 |.ptr ..,v,x,h,hv=>by simp[tD] at h
 |.sl ..,v,x,h,hv=>by simp[tD] at h
 |.op ..,v,x,h,hv=>by simp[tD] at h
 |.map ..,v,x,h,hv=>by simp[tD] at h
 |.fn ..,v,x,h,hv=>by simp[tD] at h
 |.yd ..,v,x,h,hv=>by simp[tD] at h
 |.dh ..,v,x,h,hv=>by simp[tD] at h
 |.no,v,x,h,hv=>by simp[tD] at h
theorem uj {ρ}:∀{a} {v x},sY a=some v->VL ρ a x->x=v
 |[],v,x,h,hv=>by simp[sY] at h;cases hv;exact h.symm▸rfl
 |a::r,v,x,h,hv=>by
  simp only[sY] at h;cases h1:tD a with
  |none=>simp[h1] at h
  |some b=>
   cases h2:sY r with
   |none=>simp[h1,h2] at h
   |some c=>
    simp[h1,h2] at h;subst h;cases hv with|cons hv hr=>rw[nN h1 hv,uj h2 hr]
end
theorem ku {α:Type}{P:Program}:∀{s:Sem α} {a:α},bE P s=some a->∀w,s.run P w=.ok a w:=by
 intro s;induction s with
 |pure a=>intro b h w;simp[bE] at h;subst h;rfl
 |program k ih=>intro b h w;exact ih P h w
 |mark m k ih=>intro b h w;exact ih h w
 |_=>intro b h w;simp[bE] at h
end
section
variable[jJ]
def oQ:AO->Bool
 |.ro _=>true
 |_=>false
def FR (ρ:Ren)(F:Fr)(tmps:Array Value):Prop:=∀t,V ρ (F.at t) (tmps.getD t undef)
def Li:Option Tag->Option Code->Prop
 |none,none=>True
 |some .ret,some .ret=>True
 |some (.exit i),some (.exit j)=>i=3*j
 |_,_=>False
def FC (P:Program)(ρ:Ren)(r:Loop)(body:List AV->AC):Prop:=
 ∃(F:Fr) (vars:List Nat),FR ρ F r.tmps/\dM r.assign=true/\fits r.tmps.size r.assign=true/\fits r.tmps.size r.body=true/\(∀p∈r.params.toList,p<r.tmps.size)/\
  body=λvs=>den P vars true none r.assign (F.fb r.params.toList 1 vs) [] λF1=>.start (nth vs 0) (den P vars true none r.body F1 [] λ_=>.ret .normal [])
def OR (P:Program)(ρ:Ren)(w:World)(b o l:Nat):AO->Prop
 |.row cs=>∃(c:Array Value) (e:TypeId),w.heap[b]?=some (.cells c e (0,0))/\c.size=l/\o+cs.length<=l/\
   ∀(i:Nat) v,cs[i]?=some v->∃x,c[o+i]?=some x/\V ρ v x/\x.oneCell'=true
 |.ro cs=>∀(i:Nat) v,cs[i]?=some v->∃x,w.cell? ⟨b,o+i,none⟩=some x/\V ρ v x/\x.oneCell'=true
 |.map es=>∃(pP:Array MapEntry) (clock:Nat),w.heap[b]?=some (.map pP clock)/\pP.size=es.length/\
   ∀(i:Nat) k v,es[i]?=some (k,v)->∃e,pP[i]?=some e/\e.key=k/\V ρ v e.val
 |.loop st dq n body=>∃r:Loop,w.heap[b]?=some (.loop r)/\r.state=st/\Li dq r.pending/\r.params.size=n/\FC P ρ r body
structure R (P:Program)(ρ:Ren)(S:AH)(w:World):Prop where
 ji:∀{id ob b o l},S.get id=some ob->ρ id=some (b,o,l)->OR P ρ w b o l ob
 inj:∀{i j oi oj b o l o' l'},S.get i=some oi->S.get j=some oj->ρ i=some (b,o,l)->ρ j=some (b,o',l')->(oQ oi=false\/oQ oj=false)->i=j
 sZ:∀{id x},ρ id=some x->id<S.next
 ou:∀{id b o l},ρ id=some (b,o,l)->b<w.heap.size
 wf:∀{id ob},S.get id=some ob->id<S.next
def zM (S:AH)(ρ:Ren)(b:Nat):Prop:=∃id ob o l,S.get id=some ob/\oQ ob=false/\ρ id=some (b,o,l)
structure Ext (ρ:Ren)(S:AH)(w:World)(ba:Ren)(S':AH)(w':World):Prop where
 wy:ρ.le ba
 next:S.next<=S'.next
 m8:∀id x,ρ id=none->ba id=some x->S.next<=id
 iD:∀id,ρ id=none->id<S.next->S'.get id=S.get id
 os:w'.os=w.os
 tape:w'.tape=w.tape
 output:w'.output=w.output
 size:w.heap.size<=w'.heap.size
 frame:∀b,b<w.heap.size->¬zM S ρ b->w'.heap[b]?=w.heap[b]?
 owned:∀b,b<w.heap.size->zM S' ba b->zM S ρ b
theorem Ext.refl (ρ:Ren)(S:AH)(w:World):Ext ρ S w ρ S w:=
 ⟨Ren.le_refl _,Nat.le_refl _,λid x h1 h2=>by(rw[h1] at h2;cases h2),λ_ _ _=>rfl,rfl,rfl,rfl,Nat.le_refl _,λ_ _ _=>rfl,λ_ _ h=>h⟩
theorem Ext.trans {ρ ba Jf S S' UU w w' x8}(h:Ext ρ S w ba S' w')(k:Ext ba S' w' Jf UU x8):Ext ρ S w Jf UU x8 where
 wy:=Ren.le_trans h.wy k.wy
 next:=Nat.le_trans h.next k.next
 m8:=λid x h1 h2=>by
  cases e:ba id with
  |some y=>exact h.m8 id y h1 e
  |none=>exact Nat.le_trans h.next (k.m8 id x e h2)
 iD:=λid h1 h2=>by
  have e:ba id=none:=by
   cases e:ba id with
   |none=>rfl
   |some y=>have:=h.m8 id y h1 e;omega
  rw[k.iD id e (Nat.lt_of_lt_of_le h2 h.next),h.iD id h1 h2]
 os:=k.os.trans h.os
 tape:=k.tape.trans h.tape
 output:=k.output.trans h.output
 size:=Nat.le_trans h.size k.size
 frame:=λb h1 h2=>by rw[k.frame b (Nat.lt_of_lt_of_le h1 h.size) (λho=>h2 (h.owned b h1 ho)),h.frame b h1 h2]
 owned:=λb h1 h2=>h.owned b h1 (k.owned b (Nat.lt_of_lt_of_le h1 h.size) h2)
theorem FR.mono {ρ ba F t}(hl:ρ.le ba)(h:FR ρ F t):FR ba F t:=λi=>(h i).mono hl
theorem OR.mono {P ρ ba w w'}{b o l:Nat}{ob}(hl:ρ.le ba)(hb:w'.heap[b]?=w.heap[b]?)(h:OR P ρ w b o l ob):OR P ba w' b o l ob:=by
 cases ob with
 |row cs=>
  obtain⟨c,e,h1,h2,h3,h4⟩:=h;exact⟨c,e,hb.trans h1,h2,h3,λi v hi=>let⟨x,a,b,c⟩:=h4 i v hi;⟨x,a,b.mono hl,c⟩⟩
 |ro cs=>
  intro i v hi;obtain⟨x,a,b,c⟩:=h i v hi;refine⟨x,?_,b.mono hl,c⟩;rw[<-a];simp only[World.cell?,hb]
 |map es=>
  obtain⟨pP,clock,h1,h2,h3⟩:=h;exact⟨pP,clock,hb.trans h1,h2,λi k v hi=>let⟨e,a,b,c⟩:=h3 i k v hi;⟨e,a,b,c.mono hl⟩⟩
 |loop st dq n body=>obtain⟨r,h1,h2,h3,h4,F,vars,h5,h6⟩:=h;exact⟨r,hb.trans h1,h2,h3,h4,F,vars,h5.mono hl,h6⟩
structure sj (w w':World):Prop where
 os:w'.os=w.os
 tape:w'.tape=w.tape
 output:w'.output=w.output
theorem R.drawn {P ρ S w w'}(h:R P ρ S w)(hh:w'.heap=w.heap)(hs:sj w w'):R P ρ S w'/\Ext ρ S w ρ S w':=
 ⟨⟨λh1 h2=>(h.ji h1 h2).mono (Ren.le_refl _) (by rw[hh]),h.inj,h.sZ,λh1=>by rw[hh];exact h.ou h1,h.wf⟩,
  ⟨Ren.le_refl _,Nat.le_refl _,λid x h1 h2=>by(rw[h1] at h2;cases h2),λ_ _ _=>rfl,hs.os,hs.tape,hs.output,by rw[hh];exact Nat.le_refl _,λ_ _ _=>by rw[hh],λ_ _ h=>h⟩⟩
theorem R.new {P ρ S w w' ob}{l:Nat}(h:R P ρ S w)(hs:sj w w')(hz:w'.heap.size=w.heap.size+1)
  (ho:∀b,b<w.heap.size->w'.heap[b]?=w.heap[b]?)
  (FD:OR P (ρ.put S.next (w.heap.size,0,l)) w' w.heap.size 0 l ob) (hr:oQ ob=false):
  R P (ρ.put S.next (w.heap.size,0,l)) (S.new ob) w'/\Ext ρ S w (ρ.put S.next (w.heap.size,0,l)) (S.new ob) w':=by
 have hn:ρ S.next=none:=by
  cases e:ρ S.next with
  |none=>rfl
  |some x=>exact absurd (h.sZ e) (Nat.lt_irrefl _)
 have hle:=Ren.kt (x:=(w.heap.size,0,l)) hn;refine⟨⟨?_,?_,?_,?_,λ{j oj} hj=>by
  rw[AH.b8] at hj;split at hj;.next e=>subst e;simp
  .have:=h.wf hj;simp;omega⟩,⟨hle,ac,?_,?_,hs.os,hs.tape,hs.output,am,λb hb _=>ho b hb,?_⟩⟩
 .intro id s_ b o l' h1 h2;rw[AH.b8] at h1;by_cases e:id=S.next
  .subst e;rw[if_pos rfl] at h1;cases h1;rw[Ren.bI] at h2;cases h2;exact FD
  .rw[if_neg e] at h1;rw[Ren.aN _ _ e] at h2;exact(h.ji h1 h2).mono hle (ho b (h.ou h2))
 .intro i j oi oj b o l' o' UW h1 h2 h3 h4 h5;rw[AH.b8] at h1 h2;by_cases ei:i=S.next<;>by_cases ej:j=S.next
  .rw[ei,ej]
  .exfalso;subst ei;rw[Ren.bI] at h3;rw[Ren.aN _ _ ej] at h4;cases h3;exact absurd (h.ou h4) (Nat.lt_irrefl _)
  .exfalso;subst ej;rw[Ren.bI] at h4;rw[Ren.aN _ _ ei] at h3;cases h4;exact absurd (h.ou h3) (Nat.lt_irrefl _)
  .rw[if_neg ei] at h1;rw[if_neg ej] at h2;rw[Ren.aN _ _ ei] at h3;rw[Ren.aN _ _ ej] at h4;exact h.inj h1 h2 h3 h4 h5
 .intro id x hx;by_cases e:id=S.next;.subst e;simp
  .rw[Ren.aN _ _ e] at hx;have:=h.sZ hx;simp;omega
 .intro id b o l' hx;by_cases e:id=S.next;.subst e;rw[Ren.bI] at hx;cases hx;omega
  .rw[Ren.aN _ _ e] at hx;have:=h.ou hx;omega
 .intro id x h1 h2;by_cases e:id=S.next;.subst e;exact Nat.le_refl _
  .rw[Ren.aN _ _ e] at h2;rw[h1] at h2;cases h2
 .intro id h1 h2;rw[AH.b8,if_neg am]
 .intro b hb ⟨id,s_,o,l',h1,h2,h3⟩;rw[AH.b8] at h1;by_cases e:id=S.next;.subst e;rw[Ren.bI] at h3;cases h3;exact absurd hb (Nat.lt_irrefl _)
  .rw[if_neg e] at h1;rw[Ren.aN _ _ e] at h3;exact⟨id,s_,o,l',h1,h2,h3⟩
theorem R.set {P ρ S w w'}{id b o l:Nat}{ob s_}(h:R P ρ S w)(hg:S.get id=some ob)(hr:oQ ob=false)(hi:ρ id=some (b,o,l))
  (hs:sj w w') (hz:w'.heap.size=w.heap.size) (uk:∀k,k≠b->w'.heap[k]?=w.heap[k]?) (FD:OR P ρ w' b o l s_) (ta:oQ s_=false):
  R P ρ (S.set id s_) w'/\Ext ρ S w ρ (S.set id s_) w':=by
 refine⟨⟨?_,?_,?_,?_,λ{j oj} hj=>by
  rw[AH.dE] at hj;split at hj;.next e=>subst e;exact h.wf hg
  .exact h.wf hj⟩,⟨Ren.le_refl _,Nat.le_refl _,λid x h1 h2=>by(rw[h1] at h2;cases h2),?_,hs.os,hs.tape,hs.output,am,?_,?_⟩⟩
 .intro j oj b' o' l' h1 h2;rw[AH.dE] at h1;by_cases e:j=id
  .subst e;rw[if_pos rfl] at h1;cases h1;rw[hi] at h2;cases h2;exact FD
  .rw[if_neg e] at h1;have hb:b'≠b:=λeb=>by subst eb;exact e (h.inj h1 hg h2 hi (.inr hr))
   exact(h.ji h1 h2).mono (Ren.le_refl _) (uk b' hb)
 .intro i j oi oj b1 o1 l1 o2 l2 h1 h2 h3 h4 h5;rw[AH.dE] at h1 h2;by_cases ei:i=id<;>by_cases ej:j=id
  .rw[ei,ej]
  .subst ei;rw[if_neg ej] at h2;exact h.inj hg h2 h3 h4 (.inl hr)
  .subst ej;rw[if_neg ei] at h1;exact h.inj h1 hg h3 h4 (.inr hr)
  .rw[if_neg ei] at h1;rw[if_neg ej] at h2;exact h.inj h1 h2 h3 h4 h5
 .exact h.sZ
 .intro j b' o' l' hj;rw[hz];exact h.ou hj
 .intro j h1 h2;rw[AH.dE,if_neg];intro e;subst e;rw[hi] at h1;cases h1
 .intro b' h1 h2;refine uk b' λe=>h2 ?_;subst e;exact⟨id,ob,o,l,hg,hr,hi⟩
 .intro b' h1 ⟨j,oj,o',l',h2,h3,h4⟩;rw[AH.dE] at h2;by_cases e:j=id
  .subst e;exact⟨j,ob,o',l',hg,hr,h4⟩
  .rw[if_neg e] at h2;exact⟨j,oj,o',l',h2,h3,h4⟩
theorem R.swap {P ρ S w w'}{id b o l o':Nat}{ob s_}(h:R P ρ S w)(hg:S.get id=some ob)(hr:oQ ob=false)(hi:ρ id=some (b,o,l))
  (hs:sj w w') (hz:w'.heap.size=w.heap.size) (uk:∀k,k≠b->w'.heap[k]?=w.heap[k]?) (FD:OR P (ρ.put S.next (b,o',l)) w' b o' l s_) (ta:oQ s_=false):
  R P (ρ.put S.next (b,o',l)) ((S.kill id).new s_) w'/\Ext ρ S w (ρ.put S.next (b,o',l)) ((S.kill id).new s_) w':=by
 have hn:ρ S.next=none:=by
  cases e:ρ S.next with
  |none=>rfl
  |some x=>exact absurd (h.sZ e) (Nat.lt_irrefl _)
 have hle:=Ren.kt (x:=(b,o',l)) hn;have gk:∀j,((S.kill id).new s_).get j=if j=S.next then some s_ else if j=id then none else S.get j:=λj=>by rw[AH.b8,AH.gg];rfl
 refine⟨⟨?_,?_,?_,?_,λ{j oj} hj=>by
  rw[AH.b8,AH.gg] at hj;split at hj;.next e=>rw[e];exact Nat.lt_succ_self _
  .split at hj;.cases hj
   .have:=h.wf hj;simp;omega⟩,⟨hle,ac,?_,?_,hs.os,hs.tape,hs.output,am,?_,?_⟩⟩
 .intro j oj b1 o1 l1 h1 h2;rw[gk] at h1;by_cases e:j=S.next
  .subst e;rw[if_pos rfl] at h1;cases h1;rw[Ren.bI] at h2;cases h2;exact FD
  .rw[if_neg e] at h1;rw[Ren.aN _ _ e] at h2;by_cases e2:j=id;.rw[if_pos e2] at h1;cases h1
   .rw[if_neg e2] at h1;have hb:b1≠b:=λeb=>by subst eb;exact e2 (h.inj h1 hg h2 hi (.inr hr))
    exact(h.ji h1 h2).mono hle (uk b1 hb)
 .intro i j oi oj b1 o1 l1 o2 l2 h1 h2 h3 h4 h5;rw[gk] at h1 h2;by_cases ei:i=S.next<;>by_cases ej:j=S.next
  .rw[ei,ej]
  .exfalso;subst ei;rw[if_neg ej] at h2;rw[Ren.bI] at h3;rw[Ren.aN _ _ ej] at h4;cases h3;by_cases e2:j=id;.rw[if_pos e2] at h2;cases h2
   .rw[if_neg e2] at h2;exact e2 (h.inj h2 hg h4 hi (.inr hr))
  .exfalso;subst ej;rw[if_neg ei] at h1;rw[Ren.bI] at h4;rw[Ren.aN _ _ ei] at h3;cases h4;by_cases e2:i=id;.rw[if_pos e2] at h1;cases h1
   .rw[if_neg e2] at h1;exact e2 (h.inj h1 hg h3 hi (.inr hr))
  .rw[if_neg ei] at h1;rw[if_neg ej] at h2;rw[Ren.aN _ _ ei] at h3;rw[Ren.aN _ _ ej] at h4;by_cases e2:i=id;.rw[if_pos e2] at h1;cases h1
   .by_cases e3:j=id;.rw[if_pos e3] at h2;cases h2
    .rw[if_neg e2] at h1;rw[if_neg e3] at h2;exact h.inj h1 h2 h3 h4 h5
 .intro j x hx;by_cases e:j=S.next;.subst e;simp
  .rw[Ren.aN _ _ e] at hx;have:=h.sZ hx;simp;omega
 .intro j b1 o1 l1 hx;rw[hz];by_cases e:j=S.next;.subst e;rw[Ren.bI] at hx;cases hx;exact h.ou hi
  .rw[Ren.aN _ _ e] at hx;exact h.ou hx
 .intro j x h1 h2;by_cases e:j=S.next;.subst e;exact Nat.le_refl _
  .rw[Ren.aN _ _ e] at h2;rw[h1] at h2;cases h2
 .intro j h1 h2;rw[gk,if_neg am,if_neg];intro e;subst e;rw[hi] at h1;cases h1
 .intro b1 h1 h2;refine uk b1 λe=>h2 ?_;subst e;exact⟨id,ob,o,l,hg,hr,hi⟩
 .intro b1 h1 ⟨j,oj,o1,l1,h2,h3,h4⟩;rw[gk] at h2;by_cases e:j=S.next
  .subst e;rw[Ren.bI] at h4;cases h4;exact⟨id,ob,o,l,hg,hr,hi⟩
  .rw[if_neg e] at h2;rw[Ren.aN _ _ e] at h4;by_cases e2:j=id;.rw[if_pos e2] at h2;cases h2
   .rw[if_neg e2] at h2;exact⟨j,oj,o1,l1,h2,h3,h4⟩
theorem R.kill {P ρ S w}{id:Nat}{x}(h:R P ρ S w)(hi:ρ id=some x):
  R P ρ (S.kill id) w/\Ext ρ S w ρ (S.kill id) w:=by
 refine⟨⟨?_,?_,h.sZ,h.ou,λ{j oj} hj=>by
  rw[AH.gg] at hj;split at hj;.cases hj
  .exact h.wf hj⟩,⟨Ren.le_refl _,Nat.le_refl _,λid x h1 h2=>by(rw[h1] at h2;cases h2),?_,rfl,rfl,rfl,Nat.le_refl _,λ_ _ _=>rfl,?_⟩⟩
 .intro j oj b o l h1 h2;rw[AH.gg] at h1;split at h1;.cases h1
  .exact h.ji h1 h2
 .intro i j oi oj b o l o' l' h1 h2 h3 h4 h5;rw[AH.gg] at h1 h2;split at h1;.cases h1
  .split at h2;.cases h2
   .exact h.inj h1 h2 h3 h4 h5
 .intro j h1 h2;rw[AH.gg,if_neg];intro e;subst e;rw[hi] at h1;cases h1
 .intro b h1 ⟨j,oj,o,l,h2,h3,h4⟩;rw[AH.gg] at h2;split at h2;.cases h2
  .exact⟨j,oj,o,l,h2,h3,h4⟩
end
section
variable[jJ]
variable{P:Program}
inductive Kind where
 |pure|read|alloc|wj
 deriving DecidableEq
def iO.kind:iO->Kind
 |.load ..=>.read
 |.alloc _|.box _|.lK ..|.g_ ..=>.alloc
 |.store ..|.append ..=>.wj
 |_=>.pure
def pX (P:Program):iO->Option AV
 |.mv x=>some x
 |.pick c a b=>CM c a b
 |.bin op x y=>Jc op x y
 |.eq t n x y=>CN P t n x y
 |.un op x=>UT P op x
 |.conv k x=>CO k x
 |.part o n a x=>CP o n a x
 |.D2 l e a x i=>w5 l e a x i
 |.build z ps=>kq z ps
 |.jO o x=>xT o x
 |.zC l e x i=>mW l e x i
 |.dp e x i=>fC e x i
 |.oI l e x a b c=>jR l e x a b c
 |.ko e x a b c=>dD e x a b c
 |.extract i x=>pQ i x
 |.oJ x=>nL x
 |.len g x=>D5 g x
 |.rv m xs=>tF m xs
 |.lM t i o z x=>ic P t i o z x
 |_=>none
theorem m9 {o}(h:o.kind=.pure)(S:AH):evalOp P o S=eO (pX P o) S:=by
 cases o<;>first|rfl|(cases h;done)
theorem jV {o}(h:o.kind=.read)(S:AH):evalOp P o S=eO (cJ P S o) S:=by
 cases o<;>first|rfl|(cases h;done)
theorem m_ {r S S' v}(h:eO r S=some (v,S')):r=some v/\S'=S:=by
 unfold eO at h;cases r with
 |none=>cases h
 |some x=>simp at h;exact⟨by rw[h.1],h.2.symm⟩
theorem aC {ρ:Ren}{F:Fr}{a:Act}(h:FR ρ F a.tmps)(x:Operand):V ρ (F.ev x) (a.eval x):=by
 cases x with
 |tmp t=>exact h t
 |const v=>
  show V ρ ((sX 50 v).getD .no) v;cases e:sX 50 v with
  |none=>exact .no
  |some u=>exact rA e
 |global g=>exact .no
 |func f=>exact .fn (a':=[]) (c':=[]) rfl .nil .nil
theorem i7 {ρ:Ren}{F:Fr}{a:Act}(h:FR ρ F a.tmps):∀(l:List Operand),VL ρ (l.map F.ev) (l.map a.eval)
 |[]=>.nil
 |x::r=>.cons (aC h x) (i7 h r)
theorem ox {op t x y k k'}{a b:Int}(w:World):
 (eqGuard op t x y (.int k a) (.int k' b)).run P w=.ok () w:=by cases op<;>rfl
theorem wz {op t x y a b}(w:World):
 (eqGuard op t x y (.string a) (.string b)).run P w=.ok () w:=by cases op<;>rfl
theorem D9 {f x y v}(h:dc f x y=some v):∃k a b,x=.sc (.int k a)/\y=.sc (.int k b)/\f k a b=some v:=by
 unfold dc at h;cases hx:asInt x with
 |none=>simp[hx] at h
 |some p=>
  obtain⟨k,a⟩:=p;cases hy:asInt y with
  |none=>simp[hx,hy] at h
  |some q=>
   obtain⟨k',b⟩:=q;simp only[hx,hy] at h;cases hk:oK k k' with
   |false=>simp[hk] at h
   |true=>simp only[hk] at h;have:=si hk;subst this;exact⟨k,a,b,gI hx,gI hy,h⟩
theorem D_ {f x y v}(h:wv f x y=some v):∃a b,x=.sc (.string a)/\y=.sc (.string b)/\f a b=some v:=by
 unfold wv at h;split at h;.exact⟨_,_,rfl,rfl,h⟩
 .cases h
theorem fg {a b v}(h:either a b=some v):a=some v\/b=some v:=by
 unfold either at h;cases a with
 |none=>exact .inr h
 |some x=>exact .inl h
def FE (P:Program)(op:BinOp)(t:TypeId)(x y v:AV):Prop:=
 (∃k a b r,x=.sc (.int k a)/\y=.sc (.int k b)/\v=.sc r/\scalar r=true/\∀w,(binOp op t (.int k a) (.int k b)).run P w=.ok r w)\/
 (∃k a k' b r,x=.sc (.int k a)/\y=.sc (.int k' b)/\v=.sc r/\scalar r=true/\∀w,(binOp op t (.int k a) (.int k' b)).run P w=.ok r w)\/
 (∃a b r,x=.sc (.string a)/\y=.sc (.string b)/\v=.sc r/\scalar r=true/\∀w,(binOp op t (.string a) (.string b)).run P w=.ok r w)
theorem w9 (a b:Int):decide (a<=b)=!decide (b<a):=by
 by_cases h:b<a;.simp[h]
 .simp[h];omega
theorem Jg {op t x y v}(h:Jc op x y=some v):FE P op t x y v:=by
 have I:∀{f:IntKind->Int->Int->Option AV},dc f x y=some v->
   (∀k a b,f k a b=some v->∃r,v=.sc r/\scalar r=true/\∀w,(binOp op t (.int k a) (.int k b)).run P w=.ok r w)->FE P op t x y v:=λh1 h2=>by
  obtain⟨k,a,b,e1,e2,e3⟩:=D9 h1;obtain⟨r,e4,e5,e6⟩:=h2 k a b e3;exact .inl ⟨k,a,b,r,e1,e2,e4,e5,e6⟩
 have T:∀{f:ByteArray->ByteArray->Option AV},wv f x y=some v->
   (∀a b,f a b=some v->∃r,v=.sc r/\scalar r=true/\∀w,(binOp op t (.string a) (.string b)).run P w=.ok r w)->FE P op t x y v:=λh1 h2=>by
  obtain⟨a,b,e1,e2,e3⟩:=D_ h1;obtain⟨r,e4,e5,e6⟩:=h2 a b e3;exact .inr (.inr ⟨a,b,r,e1,e2,e4,e5,e6⟩)
 cases op with
 |add=>
  rcases fg (show either _ _=some v from h) with h|h;.exact I h λk a b e=>by cases e;exact⟨_,rfl,rfl,λw=>by simp[binOp,Op.intArith,br]<;>rfl⟩
  .refine T h λa b e=>?_;split at e
   .next hl=>cases e;refine⟨_,rfl,rfl,λw=>?_⟩;have:¬((9223372036854775807:Int)<(a.size:Int)+(b.size:Int)):=am;simp[binOp,Op.stringOp,IntKind.max,IntKind.signed,IntKind.bits,this]
   .cases e
 |sub=>exact I (show dc _ _ _=_ from h) λk a b e=>by cases e;exact⟨_,rfl,rfl,λw=>by simp[binOp,Op.intArith,br]<;>rfl⟩
 |mul=>exact I (show dc _ _ _=_ from h) λk a b e=>by cases e;exact⟨_,rfl,rfl,λw=>by simp[binOp,Op.intArith,br]<;>rfl⟩
 |quo=>
  refine I (show dc _ _ _=_ from h) λk a b e=>?_;simp only[dX] at e;split at e;.cases e
  .next hb=>
   cases e;refine⟨_,rfl,rfl,λw=>?_⟩;have:¬b=0:=by simpa using hb
   simp[binOp,Op.intDiv,br,this]
 |rem=>
  refine I (show dc _ _ _=_ from h) λk a b e=>?_;simp only[dX] at e;split at e;.cases e
  .next hb=>
   cases e;refine⟨_,rfl,rfl,λw=>?_⟩;have:¬b=0:=by simpa using hb
   simp[binOp,Op.intDiv,br,this]
 |and=>exact I (show dc _ _ _=_ from h) λk a b e=>by cases e;exact⟨_,rfl,rfl,λw=>by simp[binOp,Op.intBits,br]⟩
 |or=>exact I (show dc _ _ _=_ from h) λk a b e=>by cases e;exact⟨_,rfl,rfl,λw=>by simp[binOp,Op.intBits,br]⟩
 |xor=>exact I (show dc _ _ _=_ from h) λk a b e=>by cases e;exact⟨_,rfl,rfl,λw=>by simp[binOp,Op.intBits,br]⟩
 |andNot=>exact I (show dc _ _ _=_ from h) λk a b e=>by cases e;exact⟨_,rfl,rfl,λw=>by simp[binOp,Op.intBits,br]⟩
 |shl=>
  replace h:Fq x y=some v:=h;unfold Fq at h;split at h
  .next k a k' b=>
   simp only[fP] at h;split at h;.cases h
   .next hb=>
    cases h;refine .inr (.inl ⟨k,a,k',b,_,rfl,rfl,rfl,rfl,λw=>?_⟩);have:¬b<0:=by simpa using hb
    simp[binOp,Op.shift,br,this]
  .cases h
 |shr=>
  replace h:Fs x y=some v:=h;unfold Fs at h;split at h
  .next k a k' b=>
   simp only[fP] at h;split at h;.cases h
   .next hb=>
    cases h;refine .inr (.inl ⟨k,a,k',b,_,rfl,rfl,rfl,rfl,λw=>?_⟩);have:¬b<0:=by simpa using hb
    simp[binOp,Op.shift,this]
  .cases h
 |eql=>
  rcases fg (show either _ _=some v from h) with h|h;.exact I h λk a b e=>by cases e;exact⟨_,rfl,rfl,λw=>by simp[binOp,Op.intCmp,dX]⟩
  .exact T h λa b e=>by cases e;exact⟨_,rfl,rfl,λw=>by simp[binOp,Op.stringOp]⟩
 |neq=>
  rcases fg (show either _ _=some v from h) with h|h;.exact I h λk a b e=>by cases e;exact⟨_,rfl,rfl,λw=>by simp[binOp,Op.intCmp,dX]<;>rfl⟩
  .exact T h λa b e=>by cases e;exact⟨_,rfl,rfl,λw=>by simp[binOp,Op.stringOp]⟩
 |lss=>
  rcases fg (show either _ _=some v from h) with h|h;.exact I h λk a b e=>by cases e;exact⟨_,rfl,rfl,λw=>by simp[binOp,Op.intCmp,fP]⟩
  .exact T h λa b e=>by cases e;exact⟨_,rfl,rfl,λw=>by simp[binOp,Op.stringOp]⟩
 |leq=>
  rcases fg (show either _ _=some v from h) with h|h;.exact I h λk a b e=>by cases e;exact⟨_,rfl,rfl,λw=>by simp[binOp,Op.intCmp,fP,w9]⟩
  .exact T h λa b e=>by cases e;exact⟨_,rfl,rfl,λw=>by simp[binOp,Op.stringOp]⟩
 |gtr=>
  rcases fg (show either _ _=some v from h) with h|h;.exact I h λk a b e=>by cases e;exact⟨_,rfl,rfl,λw=>by simp[binOp,Op.intCmp,fP]⟩
  .exact T h λa b e=>by cases e;exact⟨_,rfl,rfl,λw=>by simp[binOp,Op.stringOp]⟩
 |geq=>
  rcases fg (show either _ _=some v from h) with h|h;.exact I h λk a b e=>by cases e;exact⟨_,rfl,rfl,λw=>by simp[binOp,Op.intCmp,fP,w9]⟩
  .exact T h λa b e=>by cases e;exact⟨_,rfl,rfl,λw=>by simp[binOp,Op.stringOp]⟩
end
section
variable[jJ]
variable{P:Program}
theorem w_:∀(vs:List Value) (off k:Nat) (xs:Array Value),off+k+vs.length<=xs.size->
  ((vs.zipIdx k).foldl (λ(cs:Array Value) (p:Value×Nat)=>cs.setIfInBounds (off+p.2) p.1) xs).toList=xs.toList.take (off+k)++(vs++xs.toList.drop (off+k+vs.length))
 |[],off,k,xs,h=>ac
 |v::vs,off,k,xs,h=>by simp only[List.zipIdx_cons,List.foldl_cons];rw[w_ vs off (k+1) (xs.setIfInBounds (off+k) v) (by simp at h⊢;omega)];simp only[List.length_cons] at h;have e:=list_seg_step xs.toList (off+k) v vs (by simp;omega);simp only[Array.toList_setIfInBounds];have e':(xs.toList.set (off+k) v).take (off+k+1)++vs++(xs.toList.set (off+k) v).drop (off+k+1+vs.length)=xs.toList.take (off+k)++v::vs++xs.toList.drop (off+k+(vs.length+1)):=e;rw[show off+(k+1)=off+k+1 by omega,<-List.append_assoc,e'];simp
theorem Ea (vs:Array Value)(off:Nat)(xs:Array Value)(h:off+vs.size<=xs.size):
  (vs.zipIdx.foldl (λ(cs:Array Value) (p:Value×Nat)=>cs.setIfInBounds (off+p.2) p.1) xs).toList=xs.toList.take off++(vs.toList++xs.toList.drop (off+vs.size)):=by
 have:=w_ vs.toList off 0 xs (by simpa using h);rw[<-Array.foldl_toList,Array.toList_zipIdx];simpa using this
theorem VL.lay {ρ cs vs xs ys}(h:VL ρ cs xs)(k:VL ρ vs ys)(off:Nat):
  VL ρ (bn cs off vs) (xs.take off++(ys++xs.drop (off+ys.length))):=by
 rw[cb,k.length];exact(h.take off).append (k.append (h.drop _))
theorem oR {ρ:Ren}{F:Fr}{a:Act}(hF:FR ρ F a.tmps){place:Nat->Option (Nat×Nat)}:
  ∀(l:List (Nat×Operand)) {ps:List (Nat×Nat×AV)} {cs UX:List AV} {xs:Array Value},partsOf F place l=some ps->eg cs ps=some UX->VL ρ cs xs.toList->(∀x∈xs.toList,x.oneCell'=true)->
   ∃Fa:Array Value,Instr.fill place xs (l.map λp=>(p.1,a.eval p.2))=some Fa/\VL ρ UX Fa.toList/\∀x∈Fa.toList,x.oneCell'=true
 |[],ps,cs,UX,xs,hp,hf,hv,h1=>by
  simp only[partsOf,Option.some.injEq] at hp;subst hp;simp only[eg,Option.some.injEq] at hf;subst hf;exact⟨xs,rfl,hv,h1⟩
 |(i,x)::r,ps,cs,UX,xs,hp,hf,hv,h1=>by
  simp only[partsOf] at hp;cases sk:place i with
  |none=>simp[sk] at hp
  |some q=>
   obtain⟨off,size⟩:=q;cases hr:partsOf F place r with
   |none=>simp[sk,hr] at hp
   |some ps'=>
    simp only[sk,hr,Option.some.injEq] at hp;subst hp;simp only[eg] at hf;split at hf
    .next hc=>
     simp only[Bool.and_eq_true,Bool.not_eq_true'] at hc;obtain⟨⟨ho,hs⟩,hl⟩:=hc;have aZ:bS (F.ev x).cells=size:=Nat.eq_of_beq_eq_true hs;have BK:off+size<=bS cs:=Nat.le_of_ble_eq_true hl;rw[bB] at aZ BK;obtain⟨ZT,BL⟩:=(aC hF x).x7 ho;have dk:(a.eval x).cells.size=size:=by rw[<-aZ,ZT.length];simp
     have Wk:cs.length=xs.size:=by rw[hv.length];simp
     have hb:¬((decide ((a.eval x).cells.size≠size)||decide (off+(a.eval x).cells.size>xs.size))=true):=by
      simp only[Bool.or_eq_true,ne_eq,decide_eq_true_eq];rintro(h|h);.exact h dk
      .omega
     have Qy:=Ea (a.eval x).cells off xs am;have UY:VL ρ (bn cs off (F.ev x).cells) ((a.eval x).cells.zipIdx.foldl (λ(cs:Array Value) (p:Value×Nat)=>cs.setIfInBounds (off+p.2) p.1) xs).toList:=by rw[Qy];simpa using hv.lay ZT off
     have Qz:∀y∈((a.eval x).cells.zipIdx.foldl (λ(cs:Array Value) (p:Value×Nat)=>cs.setIfInBounds (off+p.2) p.1) xs).toList,y.oneCell'=true:=by
      rw[Qy];intro y hy;rcases List.mem_append.1 hy with hy|hy;.exact h1 y (List.mem_of_mem_take hy)
      .rcases List.mem_append.1 hy with hy|hy;.exact BL y hy
       .exact h1 y (List.mem_of_mem_drop hy)
     obtain⟨Fa,e1,e2,e3⟩:=oR hF r hr hf UY Qz;refine⟨Fa,?_,e2,e3⟩;simp only[List.map_cons,Instr.fill,sk];rw[if_neg hb];exact e1
    .cases hf
theorem gJ {t z}(h:iP P t=some z):∃i zv,P.info? t=some i/\i.zero=some zv/\sX 50 zv=some z:=by
 unfold iP at h;cases hi:P.info? t with
 |none=>simp[hi] at h
 |some i=>
  cases hz:i.zero with
  |none=>simp[hi,hz] at h
  |some zv=>simp[hi,hz] at h;exact⟨i,zv,rfl,hz,h⟩
theorem jj {t}{n:Nat}(h:aU P t=some n):∃i,P.info? t=some i/\i.size=n:=by
 unfold aU at h;cases hi:P.info? t with
 |none=>simp[hi] at h
 |some i=>simp[hi] at h;exact⟨i,rfl,h⟩
theorem dY {t}{n:Nat}(h:aU P t=some n)(w:World):(sizeOf t).run P w=.ok n w:=by obtain⟨i,h1,h2⟩:=jj h;simp[sizeOf,typeInfo,h1,h2]
theorem jW {t}{g:Bool}(h:et P t=some g)(w:World):(isAgg t).run P w=.ok g w:=by
 unfold et at h;cases hu:P.underlying t with
 |none=>simp[hu] at h
 |some d=>
  unfold isAgg;rw[Sem.run_bind,run_underlying hu w];cases d<;>simp_all
theorem kX {ρ zv z}(h:sX 50 zv=some z)(ho:odd z=false):VL ρ z.cells zv.cells.toList/\∀y∈zv.cells.toList,y.oneCell'=true:=
 (rA (ρ:=ρ) h).x7 ho
section ops
variable{ρ:Ren}{F:Fr}{a:Act}{o:Oper}
def Yields (P:Program)(ρ:Ren)(a:Act)(o:Oper)(v:AV):Prop:=∃x,V ρ v x/\∀w,(execOp a.eval o).run P w=.ok (.value x) w
theorem Mz (hF:FR ρ F a.tmps){c x y v}(ho:o.op=.pick c x y)(h:CM (F.ev c) (F.ev x) (F.ev y)=some v):Yields P ρ a o v:=by
 unfold CM at h;cases hb:asBool (F.ev c) with
 |none=>simp[hb] at h
 |some b=>
  have hc:=(jT hb▸aC hF c).zJ;cases b
  .simp[hb] at h;subst h;exact⟨_,aC hF y,λw=>by simp[execOp,ho,hc,Go.asBool]⟩
  .simp[hb] at h;subst h;exact⟨_,aC hF x,λw=>by simp[execOp,ho,hc,Go.asBool]⟩
theorem QA (hF:FR ρ F a.tmps){op t u x y v}(ho:o.op=.binOp op t x y u)(h:Jc op (F.ev x) (F.ev y)=some v):Yields P ρ a o v:=by
 rcases Jg (P:=P) (t:=t) h with⟨k,m,n,r,e1,e2,rfl,hs,hr⟩|⟨k,m,k',n,r,e1,e2,rfl,hs,hr⟩|⟨m,n,r,e1,e2,rfl,hs,hr⟩
 .have hx:=(e1▸aC hF x).eZ;have hy:=(e2▸aC hF y).eZ;exact⟨r,.sc hs,λw=>by simp[execOp,ho,hx,hy,ox,hr]⟩
 .have hx:=(e1▸aC hF x).eZ;have hy:=(e2▸aC hF y).eZ;exact⟨r,.sc hs,λw=>by simp[execOp,ho,hx,hy,ox,hr]⟩
 .have hx:=(e1▸aC hF x).fQ.1;have hy:=(e2▸aC hF y).fQ.1;exact⟨r,.sc hs,λw=>by simp[execOp,ho,hx,hy,wz,hr]⟩
theorem Wl (hF:FR ρ F a.tmps){op t x v}(ho:o.op=.unOp op t x)(h:UT P op (F.ev x)=some v):Yields P ρ a o v:=by
 unfold UT at h;cases hb:asBool (F.ev x) with
 |some b=>
  have hx:=(jT hb▸aC hF x).zJ;simp only[hb] at h;split at h
  .cases h;exact⟨_,.sc rfl,λw=>by simp[execOp,ho,hx,Op.unary]⟩
  .cases h
 |none=>
  simp only[hb] at h;split at h
  .next u hu=>
   have hx:=(hu▸aC hF x).fQ.1;unfold Qt at h;cases hp:bE P (Op.unary op u) with
   |none=>simp[hp] at h
   |some r=>
    simp only[hp] at h;split at h
    .next hs=>cases h;have hr:=ku hp;exact⟨r,.sc hs,λw=>by simp[execOp,ho,hx,hr]⟩
    .cases h
  .cases h
theorem MA (hF:FR ρ F a.tmps){s t j k x v}(ho:o.op=.convert s t x)(hs:P.underlying s=some (.int j))(ht:P.underlying t=some (.int k))
  (h:CO k (F.ev x)=some v):Yields P ρ a o v:=by
 unfold CO at h;cases hi:asInt (F.ev x) with
 |none=>simp[hi] at h
 |some p=>obtain⟨k',n⟩:=p;simp[hi] at h;subst h;have hx:=(gI hi▸aC hF x).eZ;exact⟨.int k (k.wrap n),by rw[br];exact .sc rfl,λw=>by simp[execOp,ho,hx,convert,run_underlying hs,run_underlying ht,Conv.intToInt]⟩
theorem pY {cs xs t}{n off:Nat}{g:Bool}{v}(hn:aU P t=some n)(hg:et P t=some g)(hc:VL ρ cs xs)(h1:∀x∈xs,x.oneCell'=true)
  (h:fB g cs off n=some v):∃x,V ρ v x/\∀w,(part t xs.toArray off).run P w=.ok x w:=by
 unfold fB at h;cases g with
 |true=>
  simp only at h;split at h
  .next hl=>
   cases h;have BK:off+n<=bS cs:=Nat.le_of_ble_eq_true hl;rw[bB] at BK;refine⟨.agg ((xs.drop off).take n).toArray,?_,λw=>?_⟩
   .rw[dt,dN];exact .agg ((hc.drop _).take _) λx hx=>h1 x (List.mem_of_mem_drop (List.mem_of_mem_take hx))
   .simp only[part,Sem.run_bind,jW hg,Result.andThen_ok,if_true,dY hn,Sem.run_pure];congr 2;apply Array.ext';simp[List.extract_eq_take_drop]
  .cases h
 |false=>simp only[nM] at h;obtain⟨x,e1,e2⟩:=hc.get h;exact⟨x,e2,λw=>by simp[part,Sem.run_bind,jW hg,e1]⟩
theorem Jh (hF:FR ρ F a.tmps){t fields fd}{i n:Nat}{g:Bool}{x v}(ho:o.op=.field t x i)(ht:P.underlying t=some (.struct fields))
  (hf:fields[i]?=some fd) (hn:aU P fd.type=some n) (hg:et P fd.type=some g) (h:CP fd.offset n g (F.ev x)=some v):Yields P ρ a o v:=by
 unfold CP at h;cases ha:asAgg (F.ev x) with
 |none=>simp[ha] at h
 |some cs=>simp only[ha] at h;obtain⟨xs,hx,hv,h1⟩:=(uh ha▸aC hF x).x6;obtain⟨y,hy,hr⟩:=pY hn hg hv h1 h;exact⟨y,hy,λw=>by simp[execOp,ho,Instr.field,run_underlying ht,hf,hx,Go.asAgg,hr]⟩
theorem MB (hF:FR ρ F a.tmps){t e}{len n:Nat}{g:Bool}{x i v}(ho:o.op=.index t x i)(ht:P.underlying t=some (.array len e))
  (hn:aU P e=some n) (hg:et P e=some g) (h:w5 len n g (F.ev x) (F.ev i)=some v):Yields P ρ a o v:=by
 unfold w5 at h;cases ha:asAgg (F.ev x) with
 |none=>simp[ha] at h
 |some cs=>
  cases hi:oL (F.ev i) len with
  |none=>simp[ha,hi] at h
  |some j=>simp only[ha,hi] at h;obtain⟨xs,hx,hv,h1⟩:=(uh ha▸aC hF x).x6;obtain⟨k,hk,hj⟩:=kW hi;have mK:=(hk▸aC hF i).eZ;obtain⟨y,hy,hr⟩:=pY hn hg hv h1 h;refine⟨y,hy,λw=>?_⟩;have h0:(0:Int)<=(j:Int)/\(j:Int)<(len:Int):=am;simp only[execOp,ho,Instr.index,mK,asIntOf,Sem.run_bind,Sem.run_pure,Result.andThen_ok,run_underlying ht,hx,h0,and_self,if_true,dY hn,Int.toNat_natCast,hr];rw[show Nat.mul j n=j*n from rfl] at hr;simp[hr]
theorem Eb (hF:FR ρ F a.tmps){i:Nat}{x v}(ho:o.op=.extract x i)(h:pQ i (F.ev x)=some v):Yields P ρ a o v:=by
 unfold pQ at h;cases ha:CK (F.ev x) with
 |none=>simp[ha] at h
 |some cs=>simp only[ha,nM] at h;obtain⟨xs,hx,hv⟩:=(BH ha▸aC hF x).Je;obtain⟨y,e1,e2⟩:=hv.get h;exact⟨y,e2,λw=>by simp[execOp,ho,Instr.extract,hx,e1]⟩
theorem FG (hF:FR ρ F a.tmps){x v}(ho:o.op=.nilCheck x)(h:nL (F.ev x)=some v):Yields P ρ a o v:=by
 unfold nL at h;cases hl:live (F.ev x) with
 |false=>simp[hl] at h
 |true=>
  simp only[hl,Option.some.injEq] at h;subst h;have hv:=aC hF x;refine⟨_,hv,λw=>?_⟩;generalize hx:a.eval x=y at*
  generalize F.ev x=u at*
  cases hv with
  |sc hs=>cases y<;>first|(simp[scalar] at hs;done)|(cases hl;done)|simp[execOp,ho,hx]
  |fn hf h1 h2=>
   rename_i f c d c' d';cases f<;>first|(cases hf;done)|(cases hl;done)|simp[execOp,ho,hx]
  |no=>cases hl
  |tok=>cases hl
  |_=>simp[execOp,ho,hx]
end ops
end
section
variable[jJ]
variable{P:Program}{ρ:Ren}{F:Fr}{a:Act}{o:Oper}
theorem x9 {op}(wA:op=.eql\/op=.neq){t x y u v w}
  (h:(eqGuard .eql t (.tmp 0) (.tmp 0) u v).run P w=.ok () w):(eqGuard op t x y u v).run P w=.ok () w:=by
 have hx:(eqGuard op t x y u v).run P w=.ok () w\/(eqGuard op t x y u v).run P w=(eqGuard .eql t (.tmp 0) (.tmp 0) u v).run P w:=by
  rcases wA with rfl|rfl
  all_goals
   unfold eqGuard;cases u<;>cases v<;>first|(right;rfl)|skip
   cases x<;>cases y<;>first|(left;rfl)|(right;rfl)
 rcases hx with hx|hx;.exact hx
 .rw[hx,h]
theorem FH {op}(wA:op=.eql\/op=.neq){t u v}(h:(mV u&&mV v)=true):
  binOp op t u v=(do let r <-Op.equal t u v;pure (.bool (if op=.eql then r else !r))):=by
 rcases wA with rfl|rfl;all_goals cases u<;>cases v<;>first|rfl|(simp[mV] at h)
theorem run_eq {op}(wA:op=.eql\/op=.neq){t x y u v}{r:Bool}(h:(mV u&&mV v)=true)
  {w} (hg:(eqGuard .eql t (.tmp 0) (.tmp 0) u v).run P w=.ok () w) (he:(Op.equal t u v).run P w=.ok r w):
  (do eqGuard op t x y u v;binOp op t u v:Sem Value).run P w=.ok (.bool (if op=.eql then r else !r)) w:=by
 rw[Sem.run_bind,x9 wA hg,Result.andThen_ok,FH wA h,Sem.run_bind,he];rcases wA with rfl|rfl<;>rfl
theorem bg {t u v}(h:(∀cs ds,¬(u=.agg cs/\v=.agg ds))/\¬(u=.nilIface/\v=.nilIface))(w:World):
  (eqGuard .eql t (.tmp 0) (.tmp 0) u v).run P w=.ok () w:=by
 cases u<;>cases v<;>first|rfl|(exact absurd ⟨rfl,rfl⟩ (h.1 _ _))|(exact absurd ⟨rfl,rfl⟩ h.2)
theorem BM {t}(h:iB P t=1):∃e,P.underlying t=some (.pointer e):=by
 unfold iB at h;split at h<;>first|(exact⟨_,‹_›⟩)|(simp at h)
theorem BN {t}(h:iB P t=2):∃e,P.underlying t=some (.slice e):=by
 unfold iB at h;split at h<;>first|(exact⟨_,‹_›⟩)|(simp at h)
theorem BO {t}(h:iB P t=3):∃k e,P.underlying t=some (.map k e):=by
 unfold iB at h;split at h<;>first|(exact⟨_,_,‹_›⟩)|(simp at h)
theorem BP {t}(h:iB P t=4):∃k e v,P.underlying t=some (.func k e v):=by
 unfold iB at h;split at h<;>first|(exact⟨_,_,_,‹_›⟩)|(simp at h)
theorem FI {t}(h:iB P t=5):∃ms,P.underlying t=some (.interface ms):=by
 unfold iB at h;split at h<;>first|(exact⟨_,‹_›⟩)|(simp at h)
theorem pZ {x v}(h:V ρ x v):kp x=0\/(kp x=1/\v=.pointer none)\/(kp x=2/\∃n c,v=.slice none n c)\/(kp x=3/\v=.map none)\/(kp x=4/\v=.nilFunc)\/(kp x=5/\v=.nilIface):=by
 cases h with
 |sc h=>
  cases v<;>first|(exact .inl rfl)|skip
  case pointer p=>cases p<;>first|(exact .inl rfl)|(exact .inr (.inl ⟨rfl,rfl⟩))
  case slice p n c=>cases p<;>first|(exact .inl rfl)|(exact .inr (.inr (.inl ⟨rfl,_,_,rfl⟩)))
  case map p=>cases p<;>first|(exact .inl rfl)|(exact .inr (.inr (.inr (.inl ⟨rfl,rfl⟩))))
  case nilFunc=>exact .inr (.inr (.inr (.inr (.inl ⟨rfl,rfl⟩))))
  case nilIface=>exact .inr (.inr (.inr (.inr (.inr ⟨rfl,rfl⟩))))
 |_=>exact .inl rfl
theorem zN {x v}(h:V ρ x v):zD x=0\/(zD x=1/\∃p,v=.pointer (some p))\/(zD x=2/\∃p n c,v=.slice (some p) n c)\/(zD x=3/\∃r,v=.map (some r))\/(zD x=4/\∃f b c,v=.func f b c)\/(zD x=5/\∃t u,v=.iface t u):=by
 cases h with
 |ptr _=>exact .inr (.inl ⟨rfl,_,rfl⟩)
 |sl _=>exact .inr (.inr (.inl ⟨rfl,_,_,_,rfl⟩))
 |op _ _ _ _=>exact .inr (.inr (.inl ⟨rfl,_,_,_,rfl⟩))
 |zI _=>exact .inr (.inr (.inl ⟨rfl,_,_,_,rfl⟩))
 |map _=>exact .inr (.inr (.inr (.inl ⟨rfl,_,rfl⟩)))
 |fn _ _ _=>exact .inr (.inr (.inr (.inr (.inl ⟨rfl,_,_,_,rfl⟩))))
 |yd _=>exact .inr (.inr (.inr (.inr (.inl ⟨rfl,_,_,_,rfl⟩))))
 |iface _=>exact .inr (.inr (.inr (.inr (.inr ⟨rfl,_,_,rfl⟩))))
 |_=>exact .inl rfl
theorem Ec {t x y u v}{r:Bool}(h:zn P t x y=some r)(hx:V ρ x u)(hy:V ρ y v):
  (mV u&&mV v)=true/\∀w,(eqGuard .eql t (.tmp 0) (.tmp 0) u v).run P w=.ok () w/\(Op.equal t u v).run P w=.ok r w:=by
 unfold zn at h;split at h
 .next hc=>
  cases h;simp only[Bool.and_eq_true] at hc;obtain⟨⟨h0,h1⟩,h2⟩:=hc;have h0:=Nat.le_of_ble_eq_true h0;have h1:=Nat.eq_of_beq_eq_true h1;have h2:=Nat.eq_of_beq_eq_true h2;rcases pZ hx with e|⟨e,rfl⟩|⟨e,n,c,rfl⟩|⟨e,rfl⟩|⟨e,rfl⟩|⟨e,rfl⟩;.omega
  all_goals rcases zN hy with e'|⟨e',p,rfl⟩|⟨e',p,m,d,rfl⟩|⟨e',p,rfl⟩|⟨e',f,b,c,rfl⟩|⟨e',q,z,rfl⟩<;>try(exfalso;omega)
  .obtain⟨e,hu⟩:=BM (h2.symm.trans ‹_›);exact⟨rfl,λw=>⟨bg ⟨ac,ac⟩ w,by show(Op.equalIn (9999+1) t _ _).run P w=_;generalize 9999=d9;simp[Op.equalIn,run_underlying hu]⟩⟩
  .obtain⟨e,hu⟩:=BN (h2.symm.trans ‹_›);exact⟨rfl,λw=>⟨bg ⟨ac,ac⟩ w,by show(Op.equalIn (9999+1) t _ _).run P w=_;generalize 9999=d9;simp[Op.equalIn,run_underlying hu]⟩⟩
  .obtain⟨k,e,hu⟩:=BO (h2.symm.trans ‹_›);exact⟨rfl,λw=>⟨bg ⟨ac,ac⟩ w,by show(Op.equalIn (9999+1) t _ _).run P w=_;generalize 9999=d9;simp[Op.equalIn,run_underlying hu]⟩⟩
  .obtain⟨k,e,_,hu⟩:=BP (h2.symm.trans ‹_›);exact⟨rfl,λw=>⟨bg ⟨ac,ac⟩ w,by show(Op.equalIn (9999+1) t _ _).run P w=_;generalize 9999=d9;simp[Op.equalIn,run_underlying hu]⟩⟩
  .obtain⟨k,hu⟩:=FI (h2.symm.trans ‹_›);exact⟨rfl,λw=>⟨bg ⟨ac,ac⟩ w,by show(Op.equalIn (9999+1) t _ _).run P w=_;generalize 9999=d9;simp[Op.equalIn,run_underlying hu]⟩⟩
 .split at h
  .next hc=>
   cases h;simp only[Bool.and_eq_true] at hc;obtain⟨⟨h0,h1⟩,h2⟩:=hc;have h0:=Nat.le_of_ble_eq_true h0;have h1:=Nat.eq_of_beq_eq_true h1;have h2:=Nat.eq_of_beq_eq_true h2;rcases pZ hy with e|⟨e,rfl⟩|⟨e,n,c,rfl⟩|⟨e,rfl⟩|⟨e,rfl⟩|⟨e,rfl⟩;.omega
   all_goals rcases zN hx with e'|⟨e',p,rfl⟩|⟨e',p,m,d,rfl⟩|⟨e',p,rfl⟩|⟨e',f,b,c,rfl⟩|⟨e',q,z,rfl⟩<;>try(exfalso;omega)
   .obtain⟨e,hu⟩:=BM (h2.symm.trans ‹_›);exact⟨rfl,λw=>⟨bg ⟨ac,ac⟩ w,by show(Op.equalIn (9999+1) t _ _).run P w=_;generalize 9999=d9;simp[Op.equalIn,run_underlying hu]⟩⟩
   .obtain⟨e,hu⟩:=BN (h2.symm.trans ‹_›);exact⟨rfl,λw=>⟨bg ⟨ac,ac⟩ w,by show(Op.equalIn (9999+1) t _ _).run P w=_;generalize 9999=d9;simp[Op.equalIn,run_underlying hu]⟩⟩
   .obtain⟨k,e,hu⟩:=BO (h2.symm.trans ‹_›);exact⟨rfl,λw=>⟨bg ⟨ac,ac⟩ w,by show(Op.equalIn (9999+1) t _ _).run P w=_;generalize 9999=d9;simp[Op.equalIn,run_underlying hu]⟩⟩
   .obtain⟨k,e,_,hu⟩:=BP (h2.symm.trans ‹_›);exact⟨rfl,λw=>⟨bg ⟨ac,ac⟩ w,by show(Op.equalIn (9999+1) t _ _).run P w=_;generalize 9999=d9;simp[Op.equalIn,run_underlying hu]⟩⟩
   .obtain⟨k,hu⟩:=FI (h2.symm.trans ‹_›);exact⟨rfl,λw=>⟨bg ⟨ac,ac⟩ w,by show(Op.equalIn (9999+1) t _ _).run P w=_;generalize 9999=d9;simp[Op.equalIn,run_underlying hu]⟩⟩
  .split at h
   .next hc=>
    cases h;simp only[Bool.and_eq_true] at hc;obtain⟨⟨⟨h0,h4⟩,h1⟩,h2⟩:=hc;have h0:=Nat.le_of_ble_eq_true h0;have h4:=Nat.le_of_ble_eq_true h4;have h1:=Nat.eq_of_beq_eq_true h1;have h2:=Nat.eq_of_beq_eq_true h2;rcases pZ hx with e|⟨e,rfl⟩|⟨e,n,c,rfl⟩|⟨e,rfl⟩|⟨e,rfl⟩|⟨e,rfl⟩;.omega
    all_goals rcases pZ hy with e'|⟨e',rfl⟩|⟨e',m,d,rfl⟩|⟨e',rfl⟩|⟨e',rfl⟩|⟨e',rfl⟩<;>try(exfalso;omega)
    .obtain⟨e,hu⟩:=BM (h2.symm.trans ‹_›);exact⟨rfl,λw=>⟨bg ⟨ac,ac⟩ w,by show(Op.equalIn (9999+1) t _ _).run P w=_;generalize 9999=d9;simp[Op.equalIn,run_underlying hu]⟩⟩
    .obtain⟨e,hu⟩:=BN (h2.symm.trans ‹_›);exact⟨rfl,λw=>⟨bg ⟨ac,ac⟩ w,by show(Op.equalIn (9999+1) t _ _).run P w=_;generalize 9999=d9;simp[Op.equalIn,run_underlying hu]⟩⟩
    .obtain⟨k,e,hu⟩:=BO (h2.symm.trans ‹_›);exact⟨rfl,λw=>⟨bg ⟨ac,ac⟩ w,by show(Op.equalIn (9999+1) t _ _).run P w=_;generalize 9999=d9;simp[Op.equalIn,run_underlying hu]⟩⟩
    .obtain⟨k,e,_,hu⟩:=BP (h2.symm.trans ‹_›);exact⟨rfl,λw=>⟨bg ⟨ac,ac⟩ w,by show(Op.equalIn (9999+1) t _ _).run P w=_;generalize 9999=d9;simp[Op.equalIn,run_underlying hu]⟩⟩
   .unfold Ft at h;split at h
    .next i p hp=>
     split at h
     .next j q hq=>
      split at h
      .next hc=>
       cases h;simp only[Bool.and_eq_true] at hc;have hij:=Nat.eq_of_beq_eq_true hc.1;subst hij;have ig:=hc.2;unfold zE at ig;split at ig
       .next e hu=>
        split at ig
        .next inf hi=>
         have dk:=Nat.le_of_ble_eq_true ig;obtain⟨b,o1,l,hb,rfl⟩:=(fO hp▸hx).jU;obtain⟨b',o2,l',zp,rfl⟩:=(fO hq▸hy).jU;rw[hb] at zp;cases zp;refine⟨rfl,λw=>⟨bg ⟨ac,ac⟩ w,?_⟩⟩;have fF:¬inf.size=0:=am;have e1:(Nat.beq p q)=((⟨b,o1+p,none⟩:Addr)==⟨b,o1+q,none⟩):=by
          rw[Bool.eq_iff_iff,Nat.beq_eq,beq_iff_eq];constructor;.rintro rfl;rfl
          .intro h;injection h with h1 h2;omega
         show(Op.equalIn (9999+1) t _ _).run P w=_;generalize 9999=d9;simp[Op.equalIn,run_underlying hu,sizeOf,typeInfo,hi,fF,sameAddr,e1]
        .cases ig
       .cases ig
      .cases h
     .cases h
    .split at h
     .next c d hc hd=>
      split at h
      .next hn=>
       have ex:=nN hc hx;have ey:=nN hd hy;subst ex ey;split at h;.next hg=>exact⟨hn,λw=>⟨ku hg w,ku h w⟩⟩
       .cases h
      .cases h
     .cases h
theorem QB (hF:FR ρ F a.tmps){op t u x y v}{n:Bool}(wA:(op=.eql/\n=false)\/(op=.neq/\n=true))(ho:o.op=.binOp op t x y u)
  (h:CN P t n (F.ev x) (F.ev y)=some v):Yields P ρ a o v:=by
 unfold CN at h;cases hr:zn P t (F.ev x) (F.ev y) with
 |none=>simp[hr] at h
 |some r=>
  simp[hr] at h;obtain⟨h1,h2⟩:=Ec hr (aC hF x) (aC hF y);rcases wA with⟨rfl,rfl⟩|⟨rfl,rfl⟩
  .subst h;refine⟨.bool r,.sc rfl,λw=>?_⟩;have:=run_eq (op:=.eql) (x:=x) (y:=y) (.inl rfl) h1 (h2 w).1 (h2 w).2;simp only[execOp,ho];rw[Sem.run_bind,this];rfl
  .subst h;refine⟨.bool (!r),.sc rfl,λw=>?_⟩;have:=run_eq (op:=.neq) (x:=x) (y:=y) (.inr rfl) h1 (h2 w).1 (h2 w).2;simp only[execOp,ho];rw[Sem.run_bind,this];rfl
end
section
variable[jJ]
variable{P:Program}{ρ:Ren}{F:Fr}{a:Act}{o:Oper}
theorem na {want PK}:Instr.missingMethod want PK=none↔BE want PK=true:=by
 unfold Instr.missingMethod BE;generalize hl:want.toList.filter (λ(x:String×TypeId)=>match x with|(name,sig)=>!PK.any λm=>m.name==name&&m.sig==sig)=l;have BK:l=[]↔(want.toList.all λx=>PK.toList.any λm=>m.name==x.1&&m.sig==x.2)=true:=by
  rw[<-hl,List.filter_eq_nil_iff,List.all_eq_true];constructor
  .intro h x hx;have:=h x hx;simpa using this
  .intro h x hx;have:=h x hx;simpa using this
 rw[<-BK];cases l with
 |nil=>simp[Instr.least]
 |cons a r=>
  simp only[List.map_cons,reduceCtorEq,iff_false];intro h;cases hc:(a.1.contains (Char.ofNat 46)) with
  |true=>
   rw[List.partition_eq_filter_filter] at h;simp only[List.filter_cons,hc,if_true] at h;cases he:(Instr.least (List.filter (not∘λx=>x.contains (Char.ofNat 46)) (a.1::r.map (·.1)))) with
   |none=>simp_all[Instr.least]
   |some _=>simp_all[Instr.least]
  |false=>rw[List.partition_eq_filter_filter] at h;simp_all[List.filter_cons,Instr.least]
theorem fG (b o n:Nat):(⟨b,o,none⟩:Addr).add n=⟨b,o+n,none⟩:=Addr.add_mid b o n
theorem jk {t zc}(h:fw P t=some zc):∃z,iP P t=some z/\odd z=false/\zc=z.cells:=by
 unfold fw at h;split at h
 .next z hz=>
  split at h;.cases h
  .next ho=>cases h;exact⟨z,hz,by simpa using ho,rfl⟩
 .cases h
theorem CS (hF:FR ρ F a.tmps){t:TypeId}{parts:Array (Nat×Operand)}{z:AV}{zc:List AV}{ps:List (Nat×Nat×AV)}{v:AV}{place:Nat->Option (Nat×Nat)}(ho:o.op=.build t parts)
  (Wm:fw P t=some zc)
  (MC:(∃e n,P.underlying t=some (.array n e)/\∃s,aU P e=some s/\place=λi=>some (i*s,s))\/
    (∃fields places,P.underlying t=some (.struct fields)/\fields.toList.mapM (λf=>(P.info? f.type).map λi=>(f.offset,i.size))=some places/\place=λi=>places[i]?))
  (hp:partsOf F place parts.toList=some ps) (h:kq zc ps=some v):Yields P ρ a o v:=by
 obtain⟨z,hz,nb,rfl⟩:=jk Wm;obtain⟨it,zv,ZU,UZ,hof⟩:=gJ hz;obtain⟨hc,h1⟩:=kX (ρ:=ρ) hof nb;unfold kq at h;cases hf:eg z.cells ps with
 |none=>simp[hf] at h
 |some c=>
  simp[hf] at h;subst h;obtain⟨Fa,e1,e2,e3⟩:=oR hF parts.toList hp hf hc h1;have hb:P.built t (parts.map λ(i,x)=>(i,a.eval x)).toList=some Fa:=by
   have em:(parts.map λ(i,x)=>(i,a.eval x)).toList=parts.toList.map λp=>(p.1,a.eval p.2):=ac;rw[em];unfold Program.built;rcases MC with⟨e,n,hu,s,hs,rfl⟩|⟨fields,places,hu,sk,rfl⟩
   .obtain⟨ie,IV,rfl⟩:=jj hs;simp only[ZU,hu,UZ,IV];exact e1
   .simp only[ZU,hu,UZ,sk];have:(λx=>places.toArray[x]?)=λx:Nat=>places[x]?:=by funext x;simp
    rw[this];exact e1
  refine⟨.agg Fa,?_,λw=>?_⟩
  .have:=V.agg e2 e3;simpa using this
  .simp only[execOp,ho];rw[Sem.run_bind,run_build w t _ Fa hb];rfl
theorem Ji (hF:FR ρ F a.tmps){t fields fd}{i n:Nat}{x v}(ho:o.op=.fieldAddr t x i)(ht:P.underlying t=some (.struct fields))
  (hf:fields[i]?=some fd) (hn:aU P fd.type=some n) (h0:n≠0) (h:xT fd.offset (F.ev x)=some v):Yields P ρ a o v:=by
 unfold xT at h;cases hp:h_ (F.ev x) with
 |none=>simp[hp] at h
 |some p=>obtain⟨id,off⟩:=p;simp only[hp,Option.some.injEq] at h;subst h;obtain⟨b,o1,l,hb,hx⟩:=(fO hp▸aC hF x).jU;refine⟨_,.ptr hb,λw=>?_⟩;simp[execOp,ho,Instr.fieldAt,run_underlying ht,hf,hx,Instr.sureAddr,fieldPlace,dY hn,h0,fG,Nat.add_assoc]
theorem jl (w:World){t x i k}{j len n b o1:Nat}{e}(hi:i=.int k (j:Int))(hj:j<len)(hn:aU P e=some n)
  (h:(P.underlying t=some (.array len e)/\x=.pointer (some ⟨b,o1,none⟩))\/(P.underlying t=some (.slice e)/\∃c,x=.slice (some ⟨b,o1,none⟩) len c)):
  (Instr.indexAt t x i).run P w=.ok (.pointer (some ⟨b,o1+j*n,none⟩)) w:=by
 have h0:(0:Int)<=(j:Int)/\(j:Int)<(len:Int):=am;rcases h with⟨hu,rfl⟩|⟨hu,c,rfl⟩
 .simp only[Instr.indexAt,hi,asIntOf,Sem.run_bind,Sem.run_pure,Result.andThen_ok,run_underlying hu,Instr.sureAddr];by_cases hl:len<=1<;>simp[hl,run_underlying hu,h0,hj,dY hn,fG]
 .simp only[Instr.indexAt,hi,asIntOf,Sem.run_bind,Sem.run_pure,Result.andThen_ok,run_underlying hu];by_cases hl:len<=1<;>simp[hl,run_underlying hu,h0,hj,dY hn,fG]
theorem Jj (hF:FR ρ F a.tmps){t e}{len n:Nat}{x i v}(ho:o.op=.indexAddr t x i)(ht:P.underlying t=some (.array len e))
  (hn:aU P e=some n) (h:mW len n (F.ev x) (F.ev i)=some v):Yields P ρ a o v:=by
 unfold mW at h;cases hp:h_ (F.ev x) with
 |none=>simp[hp] at h
 |some p=>
  obtain⟨id,off⟩:=p;cases hi:oL (F.ev i) len with
  |none=>simp[hp,hi] at h
  |some j=>simp only[hp,hi,Option.some.injEq] at h;subst h;obtain⟨b,o1,l,hb,hx⟩:=(fO hp▸aC hF x).jU;obtain⟨k,hk,hj⟩:=kW hi;have mK:=(hk▸aC hF i).eZ;refine⟨_,.ptr hb,λw=>?_⟩;have:=jl (P:=P) w mK hj hn (.inl ⟨ht,hx⟩);simp only[execOp,ho];rw[Sem.run_bind,this];simp[Nat.add_assoc]
theorem Jk (hF:FR ρ F a.tmps){t e}{n:Nat}{x i v}(ho:o.op=.indexAddr t x i)(ht:P.underlying t=some (.slice e))
  (hn:aU P e=some n) (h:fC n (F.ev x) (F.ev i)=some v):Yields P ρ a o v:=by
 have hx:=aC hF x;unfold fC at h;split at h
 .next id off len cap e1=>
  rw[e1] at hx;cases hi:oL (F.ev i) len with
  |none=>simp[hi] at h
  |some j=>
   simp only[hi,Option.some.injEq] at h;subst h;obtain⟨k,hk,hj⟩:=kW hi;have mK:=(hk▸aC hF i).eZ;generalize hy:a.eval x=y at*
   cases hx with
   |sl hb=>refine⟨_,.ptr hb,λw=>?_⟩;have:=jl (P:=P) w mK hj hn (.inr ⟨ht,_,hy⟩);simp only[execOp,ho];rw[Sem.run_bind,this];simp[Nat.add_assoc]
 .next id off len cw es e1=>
  rw[e1] at hx;cases hi:oL (F.ev i) len with
  |none=>simp[hi] at h
  |some j=>
   simp only[hi,Option.some.injEq] at h;subst h;obtain⟨k,hk,hj⟩:=kW hi;have mK:=(hk▸aC hF i).eZ;generalize hy:a.eval x=y at*
   cases hx with
   |op hb h0 h1 h2=>
    refine⟨_,.ptr hb,λw=>?_⟩;have:=jl (P:=P) w mK hj hn (.inr ⟨ht,_,hy⟩);simp only[execOp,ho];rw[Sem.run_bind,this];simp[Nat.add_assoc]
   |zI hb=>omega
 .cases h
theorem zO (hF:FR ρ F a.tmps){c t e x v}(ho:o.op=.call c)(cL:c.callee=.builtin .len)(cy:c.args=#[x])(iU:c.argTypes=#[t])
  (hu:P.underlying t=some (.slice e)) (h:D5 false (F.ev x)=some v):Yields P ρ a o v:=by
 have hx:=aC hF x;have key:∀{n:Nat} {p:Option Addr} {cp:Nat},a.eval x=.slice p n cp->∀w,(execOp a.eval o).run P w=.ok (.value (.int .i64 (n:Int))) w:=by intro n p cp e' w;simp[execOp,ho,resolve,cL,cy,iU,invoke,builtin,Builtin.len_,run_underlying hu,e',goInt]
 simp only[D5] at h;split at h
 .next e1=>
  cases h;rw[e1] at hx;generalize hy:a.eval x=y at hx;cases hx with
  |sl hb=>exact⟨_,.sc rfl,key hy⟩
 .next e1=>
  cases h;rw[e1] at hx;generalize hy:a.eval x=y at hx;cases hx with
  |op hb h0 h1 h2=>exact⟨_,.sc rfl,key hy⟩
  |zI hb=>exact⟨_,.sc rfl,key hy⟩
 .next e1=>cases h;rw[e1] at hx;exact⟨_,.sc rfl,key hx.fQ.1⟩
 .cases h
theorem x_ (hF:FR ρ F a.tmps){c t x v}(ho:o.op=.call c)(cL:c.callee=.builtin .len)(cy:c.args=#[x])(iU:c.argTypes=#[t])
  (hu:P.underlying t=some .string) (h:D5 true (F.ev x)=some v):Yields P ρ a o v:=by
 have hx:=aC hF x;simp only[D5] at h;split at h
 .next s e1=>cases h;rw[e1] at hx;refine⟨_,.sc rfl,λw=>?_⟩;simp[execOp,ho,resolve,cL,cy,iU,invoke,builtin,Builtin.len_,run_underlying hu,hx.fQ.1,goInt]
 .cases h
theorem sm {c t x}{n:Nat}(ho:o.op=.call c)(cL:c.callee=.builtin .len)(cy:c.args=#[x])(iU:c.argTypes=#[t])
  (hu:(∃e,P.underlying t=some (.array n e))\/∃arr e,P.underlying t=some (.pointer arr)/\P.underlying arr=some (.array n e)):Yields P ρ a o (.sc (.int .i64 n)):=by
 refine⟨.int .i64 n,.sc rfl,λw=>?_⟩;rcases hu with⟨e,hu⟩|⟨arr,e,hu,hv⟩;.simp[execOp,ho,resolve,cL,cy,iU,invoke,builtin,Builtin.len_,run_underlying hu,goInt]
 .simp[execOp,ho,resolve,cL,cy,iU,invoke,builtin,Builtin.len_,run_underlying hu,run_underlying hv,goInt]
theorem wB {m:Bool}{x y v u z}(h:tE m x y=some v)(hx:V ρ x u)(hy:V ρ y z):∃r,V ρ v r/\∀w,((if m then Builtin.max2 u z else Builtin.min2 u z)).run P w=.ok r w:=by
 unfold tE at h;split at h
 .next k b k' d=>
  cases h;have e1:=hx.eZ;have e2:=hy.eZ;subst e1 e2;cases m
  .refine⟨_,.sc rfl,λw=>?_⟩;by_cases du:d<b<;>simp[Builtin.min2,fP,du]
  .refine⟨_,.sc rfl,λw=>?_⟩;by_cases du:b<d<;>simp[Builtin.max2,fP,du]
 .cases h
theorem oy {m:Bool}:∀{r} {rs} {x v} {u},r.foldlM (tE m) x=some v->V ρ x u->VL ρ r rs->
  ∃z,V ρ v z/\∀w,(rs.foldlM (if m then Builtin.max2 else Builtin.min2) u:Sem Value).run P w=.ok z w
 |[],_,x,v,u,h,hx,.nil=>by simp at h;subst h;exact⟨u,hx,λw=>ac⟩
 |y::r,z::rs,x,v,u,h,hx,.cons hy hr=>by
  simp only[List.foldlM_cons,Option.bind_eq_bind,Option.bind_eq_some_iff] at h;obtain⟨q,hq,h⟩:=h;obtain⟨q',h1,h2⟩:=wB (P:=P) hq hx hy;obtain⟨z',h3,h4⟩:=oy h h1 hr;refine⟨z',h3,λw=>?_⟩;have:=h2 w;cases m
  .simp only[Bool.false_eq_true,if_false] at this h4⊢;simp[List.foldlM_cons,this,h4]
  .simp only[if_true] at this h4⊢;simp[List.foldlM_cons,this,h4]
theorem zP (hF:FR ρ F a.tmps){c}{m:Bool}{v}(ho:o.op=.call c)(cL:c.callee=.builtin (if m then .max else .min))(h:tF m (c.args.toList.map F.ev)=some v):Yields P ρ a o v:=by
 unfold tF at h;cases hl:c.args.toList with
 |nil=>simp[hl] at h
 |cons x r=>
  simp only[hl,List.map_cons] at h;obtain⟨z,h1,h2⟩:=oy (P:=P) h (aC hF x) (i7 hF r);refine⟨z,h1,λw=>?_⟩;have:=h2 w;have hm:(c.args.map a.eval).toList=a.eval x::r.map a.eval:=by simp[hl]
  cases m
  .simp only[Bool.false_eq_true,if_false] at cL this;simp[execOp,ho,resolve,cL,invoke,builtin,Builtin.min_,hm,this,hl]
  .simp only[if_true] at cL this;simp[execOp,ho,resolve,cL,invoke,builtin,Builtin.max_,hm,this,hl]
theorem rB {F}(hF:FR ρ F a.tmps){x}{d n m:Nat}(h:fE (x.map F.ev) d n=some m):
  (x=none/\m=d)\/(∃q,x=some q/\m<=n/\∀n' code w,m<=n'->(Instr.sliceBound (a.eval q) n' code).run P w=.ok m w):=by
 cases x with
 |none=>simp[fE] at h;exact .inl ⟨rfl,h.symm⟩
 |some q=>simp only[Option.map_some,fE] at h;obtain⟨k,hk,hm⟩:=w8 h;have hq:=(hk▸aC hF q).eZ;refine .inr ⟨q,rfl,hm,λn' code w gD=>?_⟩;rw[hq,run_sliceBound w k (m:Int) n' code am am];simp
theorem kY {lo hi mx}{len cap l h m:Nat}(hb:kr lo hi mx len cap=some (l,h,m)):
  fE mx cap cap=some m/\fE hi len m=some h/\fE lo 0 h=some l/\(mx.isSome=true->hi.isSome=true):=by
 unfold kr at hb;cases h1:fE mx cap cap with
 |none=>simp[h1] at hb
 |some m'=>
  cases h2:fE hi len m' with
  |none=>simp[h1,h2] at hb
  |some h'=>
   cases h3:fE lo 0 h' with
   |none=>simp[h1,h2,h3] at hb
   |some l'=>
    simp only[h1,h2,h3] at hb;split at hb;.cases hb
    .next hn=>
     cases hb;refine⟨rfl,h2,h3,λhm=>?_⟩;cases hi with
     |some _=>rfl
     |none=>simp[hm] at hn
theorem mC (hF:FR ρ F a.tmps){QC:Bool}{lo hi mx:Option Operand}{len cap ya l h m:Nat}(hb:kr (lo.map F.ev) (hi.map F.ev) (mx.map F.ev) len cap=some (l,h,m))(hc:cap<=ya)(w:World):
  (Instr.sliceBounds QC len ya (lo.map a.eval) (hi.map a.eval) (mx.map a.eval)).run P w=.ok (l,h,if mx.isSome then m else ya) w:=by
 obtain⟨h1,h2,h3,h4⟩:=kY hb;rcases rB (P:=P) hF h1 with⟨rfl,rfl⟩|⟨q1,rfl,g1,hq1⟩<;>rcases rB (P:=P) hF h2 with⟨rfl,rfl⟩|⟨q2,rfl,g2,Fb⟩<;>
  rcases rB (P:=P) hF h3 with⟨rfl,rfl⟩|⟨q3,rfl,g3,hq3⟩
 all_goals first
  |(simp at h4;done)
  |(simp only[Instr.sliceBounds,Option.map_none,Option.map_some]
    simp only[Sem.run_bind,Sem.run_pure,Result.andThen_ok];repeat(first|rw[hq1 _ _ _ am]|rw[Fb _ _ _ am]|rw[hq3 _ _ _ am]|simp only[Result.andThen_ok,Sem.run_bind,Sem.run_pure])
    try rfl)
theorem BQ (hF:FR ρ F a.tmps){QC:Bool}{lo hi mx:Option Operand}{len cap l h m:Nat}(hb:kr (lo.map F.ev) (hi.map F.ev) (mx.map F.ev) len cap=some (l,h,m))(w:World):
  (Instr.sliceBounds QC len cap (lo.map a.eval) (hi.map a.eval) (mx.map a.eval)).run P w=.ok (l,h,m) w:=by
 rw[mC hF hb (Nat.le_refl _)];obtain⟨h1,_⟩:=kY hb;cases mx with
 |some q=>rfl
 |none=>simp[fE] at h1;subst h1;rfl
theorem yb {lo hi mx}{len cap l h m:Nat}(hb:kr lo hi mx len cap=some (l,h,m))(hl:len<=cap):l<=h/\(hi=none->h=len)/\(hi≠none->h<=m)/\m<=cap:=by
 obtain⟨h1,h2,h3,h4⟩:=kY hb;have le:∀{x:Option AV} {d n r:Nat},fE x d n=some r->(x=none/\r=d)\/(x≠none/\r<=n):=by
  intro x d n r h;cases x with
  |none=>simp[fE] at h;exact .inl ⟨rfl,h.symm⟩
  |some q=>simp only[fE] at h;obtain⟨k,_,hm⟩:=w8 h;exact .inr ⟨ac,hm⟩
 rcases le h1 with⟨e1,Qz⟩|⟨e1,Qz⟩<;>rcases le h2 with⟨e2,h2'⟩|⟨e2,h2'⟩<;>rcases le h3 with⟨e3,h3'⟩|⟨e3,h3'⟩<;>
  refine⟨am,λe=>?_,λe=>?_,am⟩<;>first|(exact absurd e e2)|(exact absurd e2 e)|omega
theorem zQ (hF:FR ρ F a.tmps){t e:TypeId}{len n:Nat}{x:Operand}{lo hi mx:Option Operand}{v:AV}(ho:o.op=.slice t x lo hi mx)
  (ht:P.underlying t=some (.array len e)\/∃arr,P.underlying t=some (.pointer arr)/\P.underlying arr=some (.array len e))
  (hn:aU P e=some n) (h:jR len n (F.ev x) (lo.map F.ev) (hi.map F.ev) (mx.map F.ev)=some v):Yields P ρ a o v:=by
 have hx:=aC hF x;unfold jR at h;split at h
 .next id off e1=>
  rw[e1] at hx;obtain⟨b,o1,lm,hb,hx⟩:=hx.jU;split at h
  .next l hh m CT=>
   cases h;refine⟨.slice (some ⟨b,o1+(if Nat.beq m l then off else Nat.add off (Nat.mul l n)),none⟩) (hh-l) (m-l),.sl hb,λw=>?_⟩;have Jl:=BQ (P:=P) (QC:=false) hF CT w;have FJ:(if m=l then(⟨b,o1+off,none⟩:Addr) else(⟨b,o1+off,none⟩:Addr).add (l*n))=⟨b,o1+(if Nat.beq m l then off else Nat.add off (Nat.mul l n)),none⟩:=by
    by_cases Jm:m=l
    .have:Nat.beq m l=true:=by rw[Nat.beq_eq];exact Jm
     rw[if_pos Jm,if_pos this]
    .have:¬Nat.beq m l=true:=by rw[Nat.beq_eq];exact Jm
     rw[if_neg Jm,if_neg this,fG];simp[Nat.add_assoc]
   rcases ht with hu|⟨arr,hu,hv⟩;.simp[execOp,ho,Instr.sliceAt,run_underlying hu,hx,Instr.sureAddr,Jl,dY hn,FJ]
   .simp[execOp,ho,Instr.sliceAt,run_underlying hu,Instr.slice,hx,asAddr,run_underlying hv,Jl,dY hn,FJ]
  .cases h
 .cases h
theorem FL (hF:FR ρ F a.tmps){t e:TypeId}{n:Nat}{x:Operand}{lo hi mx:Option Operand}{v:AV}(ho:o.op=.slice t x lo hi mx)
  (hu:P.underlying t=some (.slice e)) (hn:aU P e=some n) (h:dD n (F.ev x) (lo.map F.ev) (hi.map F.ev) (mx.map F.ev)=some v):Yields P ρ a o v:=by
 have hx:=aC hF x;have key:∀{p:Option Addr} {len cap ya l hh m:Nat},a.eval x=.slice p len ya->kr (lo.map F.ev) (hi.map F.ev) (mx.map F.ev) len cap=some (l,hh,m)->cap<=ya->
   ∀w,(execOp a.eval o).run P w=.ok (.value (.slice (if(if mx.isSome then m else ya)=l then p else p.map (·.add (l*n))) (hh-l) ((if mx.isSome then m else ya)-l))) w:=by
  intro p len cap ya l hh m e1 Jl hc w;have:=mC (P:=P) (QC:=true) hF Jl hc w;simp[execOp,ho,Instr.sliceAt,run_underlying hu,Instr.slice,e1,this,dY hn]
 have FJ:∀(b o1 off l m:Nat),(if m=l then(some (⟨b,o1+off,none⟩:Addr)) else(some (⟨b,o1+off,none⟩:Addr)).map (·.add (l*n)))=some ⟨b,o1+(if Nat.beq m l then off else Nat.add off (Nat.mul l n)),none⟩:=by
  intro b o1 off l m;by_cases Jm:m=l
  .have:Nat.beq m l=true:=by rw[Nat.beq_eq];exact Jm
   rw[if_pos Jm,if_pos this]
  .have:¬Nat.beq m l=true:=by rw[Nat.beq_eq];exact Jm
   rw[if_neg Jm,if_neg this,Option.map_some,fG];simp[Nat.add_assoc]
 have ZV:∀{len cap l hh m:Nat},kr (lo.map F.ev) (hi.map F.ev) (mx.map F.ev) len cap=some (l,hh,m)->mx.isSome=false->m=cap:=by
  intro len cap l hh m hb hm;obtain⟨h1,_⟩:=kY hb;cases mx with
  |some q=>cases hm
  |none=>simp[fE] at h1;exact h1.symm
 unfold dD at h;split at h
 .next id off len cap e1=>
  rw[e1] at hx;generalize hy:a.eval x=y at hx;cases hx with
  |sl hb=>
   split at h
   .next l hh m CT=>
    cases h;refine⟨_,.sl hb,λw=>?_⟩;have:=key hy CT (Nat.le_refl _) w;have hm:(if mx.isSome=true then m else cap)=m:=by
     cases hq:mx.isSome;.exact(ZV CT hq).symm
     .rfl
    rw[hm,FJ] at this;exact this
   .cases h
 .next id off len cw es e1=>
  rw[e1] at hx;split at h
  .next CU=>
   have CU:=Nat.eq_of_beq_eq_true CU;subst CU;split at h
   .next l hh m CT=>
    generalize hy:a.eval x=y at hx;cases hx with
    |op hb h0 h1 h2=>
     rename_i b o1 lm cap;have hle:=yb CT h0;have hk:=key hy CT h1;cases mx with
     |some q=>
      simp only[Option.map_some] at h;simp only[Option.isSome_some,if_true] at hk;split at h
      .next hz=>
       have hz:=Nat.eq_of_beq_eq_true hz;subst hz;cases h;have hhi:hi.map F.ev≠none:=by obtain⟨_,_,_,g4⟩:=kY CT;intro e;have:=g4 ac;rw[e] at this;cases this
       have ZW:=hle.2.2.1 hhi;have QD:hh=0:=am;have Bt:l=0:=am;have Jn:m=0:=am;subst QD Bt Jn;exact⟨_,.zI hb,λw=>by have:=hk w;simpa using this⟩
      .cases h;refine⟨_,.sl hb,λw=>?_⟩;have:=hk w;rw[FJ] at this;exact this
     |none=>
      simp only[Option.map_none] at h;simp only[Option.isSome_none,Bool.false_eq_true,if_false] at hk;cases h;have hm:=ZV CT rfl;subst hm;have hhc:hh<=m:=by
       by_cases e:hi.map F.ev=none;.rw[hle.2.1 e];exact h0
       .exact hle.2.2.1 e
      by_cases dH:cap=l
      .have e1:hh-l=0:=am;have e2:m-l=0:=am;simp only[Nat.sub_eq,e1,e2];refine⟨_,.zI (x:=o1+off) hb,λw=>?_⟩;have:=hk w;rw[if_pos dH,e1,show cap-l=0 by omega] at this;exact this
      .refine⟨_,.op hb (by simp only[Nat.sub_eq];omega) (cap:=cap-l) (by simp only[Nat.sub_eq];omega) ?_,λw=>?_⟩
       .simp only[Nat.add_eq,Nat.mul_eq];have h3:(cap-l)*n=cap*n-l*n:=Nat.sub_mul _ _ _;have h4:l*n<=cap*n:=Nat.mul_le_mul_right _ am;omega
       .have:=hk w;rw[if_neg dH] at this;rw[this];simp[fG,Nat.add_assoc]
    |zI hb=>
     rename_i b o1 lm xx;have hle:=yb CT (Nat.le_refl _);have hk:=key hy CT (Nat.le_refl _);have ZW:hh<=0:=by
      by_cases e:hi.map F.ev=none;.rw[hle.2.1 e];exact Nat.le_refl _
      .have:=hle.2.2.1 e;omega
     have QD:hh=0:=am;have Bt:l=0:=am;have Jn:m=0:=am;subst QD Bt Jn;have Lj:∀w,(execOp a.eval o).run P w=.ok (.value (.slice (some ⟨b,xx,none⟩) 0 0)) w:=λw=>by
      have:=hk w;cases mx<;>simpa using this
     cases mx with
     |some q=>
      simp only[Option.map_some] at h;cases h;exact⟨_,.zI hb,Lj⟩
     |none=>simp only[Option.map_none] at h;cases h;exact⟨_,.zI hb,Lj⟩
   .cases h
  .cases h
 .next e1=>
  rw[e1] at hx;have hy:=hx.fQ.1;split at h
  .next p CT=>
   obtain⟨l,hh,m⟩:=p;cases h;have hle:=yb CT (Nat.le_refl _);have hk:=key hy CT (Nat.le_refl _);have ZW:hh<=0:=by
    by_cases e:hi.map F.ev=none;.rw[hle.2.1 e];exact Nat.le_refl _
    .have:=hle.2.2.1 e;omega
   have QD:hh=0:=am;have Bt:l=0:=am;have Jn:m=0:=am;subst QD Bt Jn;refine⟨_,.sc rfl,λw=>?_⟩;have:=hk w;cases mx<;>simpa using this
  .cases h
 .cases h
theorem xa (hF:FR ρ F a.tmps){t u x}{Mp ok:Bool}{v}(ho:o.op=.typeAssert x u t ok)
  (hi:∃d,P.underlying t=some d/\Mp=(match d with|.interface _=>true|_=>false)) (h:ic P t Mp ok (iP P t) (F.ev x)=some v):Yields P ρ a o v:=by
 have hx:=aC hF x;obtain⟨d,hu,Jo⟩:=hi;have FM:∀{z:AV},(if ok then(iP P t).map λz=>AV.dh [z,.sc (.bool false)] else none)=some z->ok=true/\∃zv,z=.dh [zv,.sc (.bool false)]/\iP P t=some zv:=by
  intro z hz;cases ok;.simp at hz
  .simp only[if_true,Option.map_eq_some_iff] at hz;obtain⟨zv,h1,h2⟩:=hz;exact⟨rfl,zv,h2.symm,h1⟩
 have um:∀{zv:AV},iP P t=some zv->∃y,V ρ zv y/\∀w,(zeroValue t).run P w=.ok y w:=by intro zv hz;obtain⟨it,y,e1,e2,e3⟩:=gJ hz;exact⟨y,rA e3,λw=>by simp[zeroValue,typeInfo,e1,e2]⟩
 unfold ic at h;simp only at h;split at h
 .next e1=>
  rw[e1] at hx;have hy:=hx.fQ.1;obtain⟨rfl,zv,rfl,hz⟩:=FM h;obtain⟨y,MD,QE⟩:=um hz;refine⟨.tuple #[y,.bool false],.dh (.cons MD (.cons (.sc rfl) .nil)),λw=>?_⟩;cases d<;>simp[execOp,ho,Instr.typeAssert,run_underlying hu,hy,QE]
 .next u' v' e1=>
  rw[e1] at hx;generalize hy:a.eval x=y at hx;cases hx with
  |iface hv=>
   rename_i vv;split at h
   .next FN=>
    rw[FN] at Jo;cases d<;>simp at Jo
    rename_i want;split at h
    .next ZX i hw ME=>
     rw[hu] at hw;cases hw;split at h
     .next p6=>
      cases h;cases ok
      .refine⟨.iface u' vv,(by simp only[Bool.false_eq_true,if_false,e1];exact .iface hv),λw=>?_⟩;have hn:Instr.missingMethod want i.methods=none:=na.2 p6;simp[execOp,ho,Instr.typeAssert,run_underlying hu,hy,typeInfo,ME,hn]
      .refine⟨.tuple #[.iface u' vv,.bool true],.dh (.cons (by rw[e1];exact .iface hv) (.cons (.sc rfl) .nil)),λw=>?_⟩;have hn:Instr.missingMethod want i.methods=none:=na.2 p6;simp[execOp,ho,Instr.typeAssert,run_underlying hu,hy,typeInfo,ME,hn]
     .next QF=>
      obtain⟨rfl,zv,rfl,hz⟩:=FM h;obtain⟨y,MD,QE⟩:=um hz;refine⟨.tuple #[y,.bool false],.dh (.cons MD (.cons (.sc rfl) .nil)),λw=>?_⟩;cases hm:Instr.missingMethod want i.methods with
      |none=>exact absurd (na.1 hm) QF
      |some m=>simp[execOp,ho,Instr.typeAssert,run_underlying hu,hy,typeInfo,ME,hm,QE]
    .cases h
   .next FN=>
    have hd:∀ms,d≠.interface ms:=λms e=>by subst e;simp at Jo;exact FN Jo
    split at h
    .next heq=>
     have heq:u'=t:=by simpa using heq
     subst heq;cases h;cases ok
     .refine⟨vv,hv,λw=>?_⟩;cases d<;>first|(exact absurd rfl (hd _))|simp[execOp,ho,Instr.typeAssert,run_underlying hu,hy]
     .refine⟨.tuple #[vv,.bool true],.dh (.cons hv (.cons (.sc rfl) .nil)),λw=>?_⟩;cases d<;>first|(exact absurd rfl (hd _))|simp[execOp,ho,Instr.typeAssert,run_underlying hu,hy]
    .next fF=>
     have fF:¬u'=t:=by simpa using fF
     obtain⟨rfl,zv,rfl,hz⟩:=FM h;obtain⟨y,MD,QE⟩:=um hz;refine⟨.tuple #[y,.bool false],.dh (.cons MD (.cons (.sc rfl) .nil)),λw=>?_⟩;cases d<;>first|(exact absurd rfl (hd _))|simp[execOp,ho,Instr.typeAssert,run_underlying hu,hy,fF,QE]
 .cases h
theorem Ll (hF:FR ρ F a.tmps){x}(ho:o.op=.move x\/o.op=.assign x):Yields P ρ a o (F.ev x):=
 ⟨_,aC hF x,λw=>by rcases ho with ho|ho<;>simp[execOp,ho]⟩
theorem Jp (hF:FR ρ F a.tmps){t d x}(ho:o.op=.makeInterface t x)(hu:P.underlying t=some d)(hd:∀ms,d≠.interface ms):Yields P ρ a o (.iface t (F.ev x)):=
 ⟨_,.iface (aC hF x),λw=>by cases d<;>first|(exact absurd rfl (hd _))|simp[execOp,ho,Instr.makeInterface,run_underlying hu]⟩
theorem MF (hF:FR ρ F a.tmps){f first cap}(ho:o.op=.makeFunc (.func f) first cap):Yields P ρ a o (.fn (.func f) (first.toList.map F.ev) (cap.toList.map F.ev)):=
 ⟨_,.fn rfl (i7 hF first.toList) (i7 hF cap.toList),λw=>by
   have e1:∀xs:Array Operand,(xs.toList.map a.eval).toArray=xs.map a.eval:=λxs=>by apply Array.ext';simp
   simp[execOp,ho,Instr.makeFunc,e1]⟩
end
section
variable[jJ]
variable{P:Program}{ρ:Ren}{F:Fr}{a:Act}{o:Oper}{S:AH}{w:World}
theorem cells?_some {id:Nat}{c}(h:S.cells? id=some c):S.get id=some (.row c)\/S.get id=some (.ro c):=by
 unfold AH.cells? at h;cases hg:S.get id with
 |none=>simp[hg] at h
 |some ob=>simp[hg] at h;rcases xZ h with rfl|rfl<;>simp
theorem Ed {id:Nat}{c}(h:S.row? id=some c):S.get id=some (.row c):=by
 unfold AH.row? at h;cases hg:S.get id with
 |none=>simp[hg] at h
 |some ob=>simp[hg] at h;rw[BI h]
theorem R.cells (hR:R P ρ S w){id b o1 l:Nat}{c}(h:S.cells? id=some c)(hi:ρ id=some (b,o1,l)):
  ∀(i:Nat) v,c[i]?=some v->∃x,w.cell? ⟨b,o1+i,none⟩=some x/\V ρ v x/\x.oneCell'=true:=by
 intro i v hv;rcases cells?_some h with hg|hg
 .obtain⟨c',e,h1,h2,h3,h4⟩:=hR.ji hg hi;obtain⟨x,e1,e2,e3⟩:=h4 i v hv;exact⟨x,by simp[World.cell?,h1,e1],e2,e3⟩
 .exact hR.ji hg hi i v hv
theorem Jq {α β:Type}{Q:Nat->α->β->Prop}:∀(l:List α),(∀(i:Nat) v,l[i]?=some v->∃x,Q i v x)->∃xs:List β,xs.length=l.length/\∀(i:Nat) v x,l[i]?=some v->xs[i]?=some x->Q i v x:=by
 intro l;induction l generalizing Q with
 |nil=>intro _;exact⟨[],rfl,λi v x h=>by simp at h⟩
 |cons v l ih=>
  intro h;obtain⟨x,hx⟩:=h 0 v rfl;obtain⟨xs,h1,h2⟩:=ih (Q:=λi=>Q (i+1)) λi v hv=>h (i+1) v (by simpa using hv);refine⟨x::xs,by simp[h1],λi u y hu hy=>?_⟩;cases i with
  |zero=>simp at hu hy;subst hu hy;exact hx
  |succ i=>exact h2 i u y (by simpa using hu) (by simpa using hy)
theorem R.nO (hR:R P ρ S w){id b o1 l:Nat}{c:List AV}(h:S.cells? id=some c)(hi:ρ id=some (b,o1,l))(off n:Nat)(hl:off+n<=c.length):
  ∃xs:List Value,xs.length=n/\VL ρ ((c.drop off).take n) xs/\(∀x∈xs,x.oneCell'=true)/\∀(j:Nat) v,xs[j]?=some v->w.cell? ((⟨b,o1+off,none⟩:Addr).add j)=some v:=by
 have hc:=hR.cells h hi;obtain⟨xs,h1,h2⟩:=Jq (Q:=λj v x=>w.cell? ⟨b,o1+off+j,none⟩=some x/\V ρ v x/\x.oneCell'=true) ((c.drop off).take n) λj v hv=>by
  have hj:j<n:=by have:=(List.getElem?_eq_some_iff.1 hv).1;simp at this;omega
  rw[List.getElem?_take,if_pos hj,List.getElem?_drop] at hv;obtain⟨x,e1,e2,e3⟩:=hc _ _ hv;exact⟨x,by rw[<-e1,Nat.add_assoc],e2,e3⟩
 have hlen:((c.drop off).take n).length=n:=by simp;omega
 refine⟨xs,am,VL.x5 h1.symm λi v x e1 e2=>(h2 i v x e1 e2).2.1,λx hx=>?_,λj v hv=>?_⟩
 .obtain⟨i,jK,rfl⟩:=List.getElem_of_mem hx;have hv:((c.drop off).take n)[i]?=some (((c.drop off).take n)[i]' am):=List.getElem?_eq_getElem am;exact(h2 i _ _ hv ac).2.2
 .have hj:=(List.getElem?_eq_some_iff.1 hv).1;have hu:((c.drop off).take n)[j]?=some (((c.drop off).take n)[j]' am):=List.getElem?_eq_getElem am;rw[fG];exact(h2 j _ _ hu hv).1
def CV (P:Program)(ρ:Ren)(a:Act)(o:Oper)(v:AV)(w:World):Prop:=∃x,V ρ v x/\(execOp a.eval o).run P w=.ok (.value x) w
theorem xb (hR:R P ρ S w){t}{n:Nat}{g:Bool}{p v x}(hn:aU P t=some n)(hg:et P t=some g)(hx:V ρ p x)(h:mB S n g p=some v):
  ∃y,V ρ v y/\(Instr.loadAt t x).run P w=.ok y w:=by
 unfold mB at h;cases hp:h_ p with
 |none=>simp[hp] at h
 |some q=>
  obtain⟨id,off⟩:=q;simp only[hp] at h;cases hc:S.cells? id with
  |none=>simp[hc] at h
  |some c=>
   simp only[hc] at h;obtain⟨b,o1,l,hb,rfl⟩:=(fO hp▸hx).jU;unfold fB at h;cases g with
   |true=>
    simp only at h;split at h
    .next hl=>
     cases h;have BK:off+n<=c.length:=by have:=Nat.le_of_ble_eq_true hl;rw[bB] at this;exact this
     obtain⟨xs,h1,h2,h3,h4⟩:=hR.nO hc hb off n BK;refine⟨.agg xs.toArray,?_,?_⟩;.rw[dt,dN];exact .agg h2 h3
     .have cf:=run_loadCells_list (P:=P) w ⟨b,o1+off,none⟩ xs h4;rw[h1] at cf;simp[Instr.loadAt,Instr.sureAddr,loadVar,jW hg,dY hn,cf]
    .cases h
   |false=>simp only[nM] at h;obtain⟨x,e1,e2,e3⟩:=hR.cells hc hb _ _ h;refine⟨x,e2,?_⟩;simp[Instr.loadAt,Instr.sureAddr,loadVar,jW hg,e1]
theorem MG (hR:R P ρ S w)(hF:FR ρ F a.tmps){t}{n:Nat}{g:Bool}{p v}(ho:o.op=.load t p)(hn:aU P t=some n)(hg:et P t=some g)
  (h:mB S n g (F.ev p)=some v):CV P ρ a o v w:=by
 obtain⟨y,h1,h2⟩:=xb hR hn hg (aC hF p) h;exact⟨y,h1,by simp[execOp,ho,h2]⟩
end
section
variable[jJ]
variable{P:Program}{ρ:Ren}{F:Fr}{a:Act}{o:Oper}{S:AH}{w:World}
def cU:iO->Option (AO×(Nat->AV))
 |.alloc cs=>some (.row cs,λid=>.ptr id 0)
 |.box x=>match odd x with
  |true=>none
  |false=>some (.row x.cells,λid=>.ptr id 0)
 |.lK es n zero parts=>match eg (cn zero n) parts with
  |some c=>match Nat.beq (bS c) (Nat.mul n es)&&Nat.beq (bS zero) es with
   |true=>some (.row c,λid=>.sl id 0 n n)
   |false=>none
  |none=>none
 |.g_ es bytes zero len cap=>match asInt len with
  |some (_,l)=>match asInt cap with
   |some (_,c)=>match nat? l with
    |some l=>match nat? c with
     |some c=>match Nat.ble l c&&Nat.ble (Nat.mul bytes c) 140737488355328&&Nat.ble c 9223372036854775807&&Nat.beq (bS zero) es with
      |true=>some (.row (cn zero c),λid=>.sl id 0 l c)
      |false=>none
     |none=>none
    |none=>none
   |none=>none
  |none=>none
 |_=>none
theorem p9 {o}(h:o.kind=.alloc)(S:AH):evalOp P o S=match cU o with
  |some (ob,f)=>some (f S.next,S.new ob)
  |none=>none:=by
 cases o<;>first|rfl|(cases h;done)|skip
 case box x=>
  show BF x S=_;simp only[BF,cU];cases odd x<;>rfl
 case lK es n zero parts=>
  show gf es n zero parts S=_;simp only[gf,cU];cases eg (cn zero n) parts with
  |none=>rfl
  |some c=>simp only;cases(Nat.beq (bS c) (Nat.mul n es)&&Nat.beq (bS zero) es)<;>rfl
 case g_ es bytes zero len cap=>
  show jg es bytes zero len cap S=_;simp only[jg,cU];cases asInt len with
  |none=>rfl
  |some p=>
   cases asInt cap with
   |none=>rfl
   |some q=>
    obtain⟨_,l⟩:=p;obtain⟨_,c⟩:=q;simp only;cases nat? l with
    |none=>rfl
    |some l=>
     cases nat? c with
     |none=>rfl
     |some c=>simp only;cases(Nat.ble l c&&Nat.ble (Nat.mul bytes c) 140737488355328&&Nat.ble c 9223372036854775807&&Nat.beq (bS zero) es)<;>rfl
theorem yc {o ob f}(h:cU o=some (ob,f)):oQ ob=false:=by
 unfold cU at h;split at h<;>(repeat' split at h)<;>first|(cases h;done)|(cases h;rfl)
def uo (P:Program)(ρ:Ren)(a:Act)(o:Oper)(ob:AO)(f:Nat->AV)(w:World):Prop:=
 ∃x w' l,(execOp a.eval o).run P w=.ok (.value x) w'/\sj w w'/\w'.heap.size=w.heap.size+1/\(∀b,b<w.heap.size->w'.heap[b]?=w.heap[b]?)/\
  ∀ba id,ρ.le ba->ba id=some (w.heap.size,0,l)->V ba (f id) x/\OR P ba w' w.heap.size 0 l ob
theorem zR (w:World)(ob:Obj):sj w (w.alloc ob):=⟨rfl,rfl,rfl⟩
theorem alloc_old (w:World)(ob:Obj)(b:Nat)(h:b<w.heap.size):(w.alloc ob).heap[b]?=w.heap[b]?:=by show(w.heap.push ob)[b]?=_;simp[Array.getElem?_push,Nat.ne_of_lt h]
theorem p_ (w:World)(ob:Obj):(w.alloc ob).heap[w.heap.size]?=some ob:=by show(w.heap.push ob)[w.heap.size]?=_;simp
theorem jm (w:World)(ob:Obj):(w.alloc ob).heap.size=w.heap.size+1:=by show(w.heap.push ob).size=_;simp
theorem nP {cells c e x f}(hc:VL ρ cells c.toList)(h1:∀y∈c.toList,y.oneCell'=true)
  (cf:(execOp a.eval o).run P w=.ok (.value x) (w.alloc (.cells c e)))
  (hv:∀ba id,ba id=some (w.heap.size,0,c.size)->V ba (f id) x):uo P ρ a o (.row cells) f w:=by
 refine⟨x,_,c.size,cf,zR w _,jm w _,alloc_old w _,λba id hl bR=>⟨hv ba id bR,c,e,p_ w _,rfl,?_,λi v hi=>?_⟩⟩;.have:=hc.length;simp at this;omega
 .obtain⟨y,e1,e2⟩:=hc.get hi;refine⟨y,by simpa using e1,e2.mono hl,h1 y (List.mem_of_getElem? e1)⟩
theorem Jr {t zc}(ho:o.op=.alloc t)(hz:fw P t=some zc):uo P ρ a o (.row zc) (λid=>.ptr id 0) w:=by obtain⟨z,IW,nb,rfl⟩:=jk hz;obtain⟨it,zv,e1,e2,e3⟩:=gJ IW;obtain⟨hc,h1⟩:=kX (ρ:=ρ) e3 nb;refine nP (e:=t) hc h1 (x:=.pointer (some ⟨w.heap.size,0,none⟩)) ?_ λba id h=>V.ptr h;simp[execOp,ho,Instr.alloc,zeroValue,typeInfo,e1,e2,newVar,newRow]
theorem QG (hF:FR ρ F a.tmps){t x}(ho:o.op=.box t x)(nb:odd (F.ev x)=false):uo P ρ a o (.row (F.ev x).cells) (λid=>.ptr id 0) w:=by obtain⟨hc,h1⟩:=(aC hF x).x7 nb;refine nP (e:=t) hc h1 (x:=.pointer (some ⟨w.heap.size,0,none⟩)) ?_ λba id h=>V.ptr h;simp[execOp,ho,Instr.box,newVar,newRow]
theorem jn (z:List AV):∀n,(cn z n).length=n*z.length
 |0=>by simp[cn]
 |n+1=>by simp[cn,fK,jn z n,Nat.add_mul];omega
theorem sn (z:List AV):∀(n i:Nat),i<n*z.length->(cn z n)[i]?=z[i%z.length]?
 |0,i,h=>by simp at h
 |n+1,i,h=>by
  simp only[cn,fK];by_cases hi:i<z.length;.rw[List.getElem?_append_left hi,Nat.mod_eq_of_lt hi]
  .rw[List.getElem?_append_right am,sn z n (i-z.length) (by rw[Nat.add_mul] at h;omega)];congr 1;rw[<-Nat.mod_eq_sub_mod am]
theorem sq {z:List AV}{zs:Array Value}{es n m:Nat}(hz:VL ρ z zs.toList)(h1:∀y∈zs.toList,y.oneCell'=true)(CU:z.length=es)(hm:m=n*es):
  VL ρ (cn z n) ((Array.range m).map λi=>zs[i%zs.size]!).toList/\∀y∈((Array.range m).map λi=>zs[i%zs.size]!).toList,y.oneCell'=true:=by
 have hs:zs.size=es:=by have:=hz.length;simp at this;omega
 have lR:∀i,i<m->∃v x,z[i%es]?=some v/\zs[i%zs.size]! =x/\V ρ v x/\x.oneCell'=true:=by
  intro i hi;have Wn:0<es:=by
   rcases Nat.eq_zero_or_pos es with e|e;.subst e;simp at hm;omega
   .exact e
  have du:i%es<z.length:=by rw[CU];exact Nat.mod_lt _ Wn
  have hv:z[i%es]?=some z[i%es]:=List.getElem?_eq_getElem du;obtain⟨x,e1,e2⟩:=hz.get hv;refine⟨_,x,hv,?_,e2,h1 x (List.mem_of_getElem? e1)⟩;rw[hs];rw[Array.getElem?_toList] at e1;simp[getElem!_def,e1]
 refine⟨VL.x5 (by simp[jn,CU,hm]) λi v x hi hx=>?_,λy hy=>?_⟩
 .have Wo:i<m:=by have:=(List.getElem?_eq_some_iff.1 hx).1;simpa using this
  rw[sn z n i (by rw[CU,<-hm];exact Wo),CU] at hi;obtain⟨v',x',e1,e2,e3,e4⟩:=lR i Wo;rw[e1] at hi;cases hi;simp[Wo] at hx;rw[<-hx,e2];exact e3
 .simp only[Array.toList_map,Array.toList_range,List.mem_map,List.mem_range] at hy;obtain⟨i,hi,rfl⟩:=hy;obtain⟨v',x',e1,e2,e3,e4⟩:=lR i hi;rw[e2];exact e4
theorem FO (hF:FR ρ F a.tmps){t e:TypeId}{len es:Nat}{parts:Array (Nat×Operand)}{zc c:List AV}{ps:List (Nat×Nat×AV)}(ho:o.op=.buildSlice t len parts)
  (hu:P.underlying t=some (.slice e)) (hn:aU P e=some es) (hz:fw P e=some zc) (hle:¬len*es>16777216) (hp:partsOf F (λi=>some (i*es,es)) parts.toList=some ps)
  (hf:eg (cn zc len) ps=some c) (hlen:bS c=len*es) (Lm:bS zc=es):uo P ρ a o (.row c) (λid=>.sl id 0 len len) w:=by
 obtain⟨z,IW,nb,rfl⟩:=jk hz;obtain⟨it,zv,e1,e2,e3⟩:=gJ IW;obtain⟨hc,h1⟩:=kX (ρ:=ρ) e3 nb;rw[bB] at hlen Lm;obtain⟨ie,IV,ye⟩:=jj hn;obtain⟨zs,Js,um⟩:∃zs:Array Value,(VL ρ (cn z.cells len) ((Array.range (len*es)).map λi=>zs[i%zs.size]!).toList/\∀y∈((Array.range (len*es)).map λi=>zs[i%zs.size]!).toList,y.oneCell'=true)/\
   (if len*es=0 then pure #[] else do pure (<-zeroValue e).cells:Sem (Array Value)).run P w=.ok zs w:=by
  by_cases h0:len*es=0
  .refine⟨#[],⟨?_,?_⟩,by simp[h0]⟩
   .have:cn z.cells len=[]:=List.eq_nil_of_length_eq_zero (by rw[jn,Lm,h0]);rw[this,h0];simpa using VL.nil
   .rw[h0];intro y hy;simp at hy
  .exact⟨zv.cells,sq hc h1 Lm rfl,by simp[h0,zeroValue,typeInfo,e1,e2]⟩
 obtain⟨Fa,g1,g2,g3⟩:=oR hF parts.toList hp hf Js.1 Js.2;have em:(parts.map λ(i,x)=>(i,a.eval x)).toList=parts.toList.map λp=>(p.1,a.eval p.2):=ac;have dk:Fa.size=len*es:=by have:=g2.length;simp at this;omega
 refine nP (e:=e) g2 g3 (x:=.slice (some ⟨w.heap.size,0,none⟩) len len) ?_ λba id h=>V.sl h;have Wp:¬(16777216<len*es):=hle;simp only[execOp,ho];rw[Sem.run_bind];have:(Instr.buildSlice t len (parts.map λ(i,x)=>(i,a.eval x))).run P w=.ok (.slice (some ⟨w.heap.size,0,none⟩) len len) (w.alloc (.cells Fa e)):=by
  unfold Instr.buildSlice;rw[Sem.run_bind,run_underlying hu,Result.andThen_ok];simp only;rw[Sem.run_bind,dY hn,Result.andThen_ok];simp only[em];simp only[show((2:Nat)^24)=16777216 from rfl,gt_iff_lt,Wp,if_false];by_cases h0:len*es=0
  .rw[if_pos h0,Sem.run_pure] at um;injection um with hq;subst hq;rw[if_pos h0,Sem.run_bind,Sem.run_pure,Result.andThen_ok];simp only[g1];simp[newRow]
  .have hq:zv.cells=zs:=by simpa[h0,zeroValue,typeInfo,e1,e2] using um
   subst hq;have UZ:(zeroValue e).run P w=.ok zv w:=by simp[zeroValue,typeInfo,e1,e2]
   rw[if_neg h0,Sem.run_bind,UZ,Result.andThen_ok,Sem.run_bind,Sem.run_pure,Result.andThen_ok];simp only[g1];simp[newRow]
 rw[this];rfl
theorem Ee (hF:FR ρ F a.tmps){t e:TypeId}{es bytes l c:Nat}{x y:Operand}{zc:List AV}{k k':IntKind}(ho:o.op=.makeSlice t x y)(hu:P.underlying t=some (.slice e))
  (hn:aU P e=some es) (hb:gH P e=some bytes) (hz:fw P e=some zc) (hx:F.ev x=.sc (.int k (l:Int))) (hy:F.ev y=.sc (.int k' (c:Int))) (Jt:l<=c) (hbc:bytes*c<=140737488355328)
  (abg:c<=9223372036854775807) (Lm:bS zc=es):uo P ρ a o (.row (cn zc c)) (λid=>.sl id 0 l c) w:=by
 obtain⟨z,IW,nb,rfl⟩:=jk hz;obtain⟨it,zv,e1,e2,e3⟩:=gJ IW;obtain⟨hc,h1⟩:=kX (ρ:=ρ) e3 nb;rw[bB] at Lm;obtain⟨ie,IV,rfl⟩:=jj hn;have MH:it=ie:=by rw[e1] at IV;cases IV;rfl
 subst MH;have Wr:it.bytes=bytes:=by unfold gH at hb;rw[e1] at hb;exact Option.some.inj hb
 have hex:=(hx▸aC hF x).eZ;have ZY:=(hy▸aC hF y).eZ;have ZZ:=sq (n:=c) hc h1 Lm rfl;have hw:IntKind.i64.wrap (l:Int)=l:=x4 .i64 l (by show l<=9223372036854775807;omega);have c_:IntKind.i64.wrap (c:Int)=c:=x4 .i64 c (by show c<=9223372036854775807;omega);have QH:zv.cells.size=it.size:=by have:=hc.length;simp at this;omega
 refine nP (e:=e) ZZ.1 ZZ.2 (x:=.slice (some ⟨w.heap.size,0,none⟩) l c) ?_ λba id h=>V.sl h;have n1:¬((c:Int)<0):=am;have n2:¬((281474976710656:Int)<(it.bytes:Int)*(c:Int)):=by rw[Wr,<-Int.natCast_mul];omega
 have n3:¬((l:Int)<0):=am;have n4:¬((c:Int)<(l:Int)):=am;by_cases h0:c*it.size=0;.simp[execOp,ho,Instr.makeSlice,run_underlying hu,hex,ZY,asInt,Go.asInt,asIntOf,typeInfo,e1,hw,c_,n1,n2,n3,n4,sizeOf,h0,newRow,Array.range_zero']
 .simp[execOp,ho,Instr.makeSlice,run_underlying hu,hex,ZY,asInt,Go.asInt,asIntOf,typeInfo,e1,hw,c_,n1,n2,n3,n4,sizeOf,h0,newRow,zeroValue,e2]
end
end
end Go.cI
