/- The abstract machine: values, memory, operations, code; and each operation does what the model does. No condition. -/
import GoSem.Dispatch
import GoSem.Core.Region
import Derived.Laws.Append
import Derived.Laws.CopyRow
import Derived.Deep.MidRow
import Derived.WalkLawsBesides
import Derived.Laws.Slices
import Derived.Laws.Tables
import Derived.Laws.MakeOwn
set_option linter.all false
set_option maxRecDepth 100000
set_option maxHeartbeats 4000000
namespace Go.cG
noncomputable section
theorem am{p:Prop}(h:p:=by omega):p:=h
theorem ac{p:Prop}(h:p:=by simp):p:=h
theorem be{p:Prop}(h:p:=by assumption):p:=h
theorem ce{p:Prop}(h:p:=by decide):p:=h
inductive T (α:Type) where
 |e
 |n (l:T α)(v:Option α)(r:T α)
namespace T
variable{α:Type}
def get:T α->Nat->Option α
 |.e,_=>none
 |.n l v r,k=>
  match k with
  |0=>v
  |k+1=>if Nat.beq (Nat.mod k 2) 0 then l.get (Nat.div k 2) else r.get (Nat.div k 2)
def qv:Nat->T α->Nat->Option α->T α
 |0,t,_,_=>t
 |f+1,t,k,x=>
  match t with
  |.e=>
   match k with
   |0=>.n .e x .e
   |k+1=>if Nat.beq (Nat.mod k 2) 0 then .n (qv f .e (Nat.div k 2) x) none .e else .n .e none (qv f .e (Nat.div k 2) x)
  |.n l v r=>
   match k with
   |0=>.n l x r
   |k+1=>if Nat.beq (Nat.mod k 2) 0 then .n (qv f l (Nat.div k 2) x) v r else .n l v (qv f r (Nat.div k 2) x)
def set (t:T α)(k:Nat)(x:α):T α:=qv (k+1) t k (some x)
end T
inductive AV where
 |sc (v:Value)
 |ptr (id off:Nat)
 |sl (id off len cap:Nat)
 |op (id off len cH es:Nat)
 |map (id:Nat)
 |fn (f:Fn)(first cap:List AV)
 |yd (l:Nat)
 |iface (t:TypeId)(v:AV)
 |agg (cs:List AV)
 |ed (vs:List AV)
 |no
 |tok (i:Nat)
 deriving Inhabited
inductive Tag where
 |normal|exit (id:Nat)|goto (l:Nat)|ret
 deriving DecidableEq,Inhabited,Repr
inductive fK where
 |mv (x:AV)
 |pick (c a b:AV)
 |bin (op:BinOp)(x y:AV)
 |conv(k:IntKind)(x:AV)
 |part (off n:Nat)(agg:Bool)(x:AV)
 |Ee (len es:Nat)(agg:Bool)(x i:AV)
 |build (zero:List AV)(parts:List (Nat×Nat×AV))
 |kA (off:Nat)(x:AV)
 |zA (len es:Nat)(x i:AV)
 |cC (es:Nat)(x i:AV)
 |pk (len es:Nat)(x:AV)(lo hi mx:Option AV)
 |i_ (es:Nat)(x:AV)(lo hi mx:Option AV)
 |extract (i:Nat)(x:AV)
 |pn (x:AV)
 |len (str:Bool)(x:AV)
 |nt (isMax:Bool)(xs:List AV)
 |load (n:Nat)(agg:Bool)(p:AV)
 |alloc (cells:List AV)
 |box (x:AV)
 |nu (es n:Nat)(zero:List AV)(parts:List (Nat×Nat×AV))
 |gS (es bytes:Nat)(zero:List AV)(len cap:AV)
 |xh
 |store (n:Nat)(p v:AV)
 |append (es bytes:Nat)(s x:AV)
 |eq (t:TypeId)(neg:Bool)(x y:AV)
 |un (op:UnOp)(x:AV)
 |mh (asserted:TypeId)(MG:Bool)(JH:Bool)(zero:Option AV)(x:AV)
 |lookup (kt:TypeId)(JH:Bool)(zero:AV)(m k:AV)
 |uu (kt:TypeId)(m k v:AV)
 deriving Inhabited
inductive AC where
 |ret (t:Tag)(vs:List AV)
 |op (o:fK)(k:AV->AC)
 |qh (g:AV)(b:Bool)(o:fK)(k:AV->AC)
 |rN (o:fK)(v:AV)(k:AC)
 |BB (g:AV)(b:Bool)(o:fK)(v:AV)(k:AC)
 |ite (c:AV)(a b:AC)
 |call (f:AV)(args:List AV)(k:AV->AC)
 |iQ (g:AV)(b:Bool)(f:AV)(args:List AV)(k:AV->AC)
 |bind (m:AC)(id:Option Nat)(k:List AV->AC)(outs:List AV->List AV)
 |loop (init:List AV)(body:List AV->AC)(outs:List AV->List AV)
 |Ef (n:Nat)(f:AV)(body:List AV->AC)(k:AC)(outs:List AV)
 |fin (m:AC)(k:List AV->AC)
 |start (l:AV)(k:AC)
 |fail
inductive AO where
 |row (cells:List AV)
 |ro (cells:List AV)
 |map (es:List (Value×AV))
 |loop (st:LoopState)(dI:Option Tag)(n:Nat)(body:List AV->AC)
structure AH where
 t:T AO
 next:Nat
noncomputable def gC:T AO->Nat->Option AO:=
 T.rec (motive:=λ_=>Nat->Option AO) (λ_=>none) λ_ v _ il ir k=>Nat.rec (motive:=λ_=>Option AO) v (λk _=>Bool.rec (motive:=λ_=>Option AO) (ir (Nat.div k 2)) (il (Nat.div k 2)) (Nat.beq (Nat.mod k 2) 0)) k
noncomputable def wH (x:Option AO):Nat->Nat->T AO:=
 Nat.rec (motive:=λ_=>Nat->T AO) (λ_=>.e) λ_ ih k=>Nat.rec (motive:=λ_=>T AO) (.n .e x .e) (λk _=>Bool.rec (motive:=λ_=>T AO) (.n .e none (ih (Nat.div k 2))) (.n (ih (Nat.div k 2)) none .e) (Nat.beq (Nat.mod k 2) 0)) k
noncomputable def Eg (x:Option AO):T AO->Nat->T AO:=
 T.rec (motive:=λ_=>Nat->T AO) (λk=>wH x (Nat.succ k) k) λl v r il ir k=>Nat.rec (motive:=λ_=>T AO) (.n l x r) (λk _=>Bool.rec (motive:=λ_=>T AO) (.n l v (ir (Nat.div k 2))) (.n (il (Nat.div k 2)) v r) (Nat.beq (Nat.mod k 2) 0)) k
noncomputable def AH.get (S:AH) (id:Nat):Option AO:=gC S.t id
noncomputable def put (x:Option AO) (t:T AO) (k:Nat):T AO:=Eg x t k
def AH.set (S:AH)(id:Nat)(o:AO):AH:=⟨put (some o) S.t id,S.next⟩
def AH.kill (S:AH)(id:Nat):AH:=⟨put none S.t id,S.next⟩
def AH.new (S:AH)(o:AO):AH:=⟨put (some o) S.t S.next,Nat.succ S.next⟩
def uv:AV:=.ed []
def nth:List AV->Nat->AV
 |[],_=>.no
 |v::_,0=>v
 |_::r,n+1=>nth r n
def scalar:Value->Bool
 |.bool _|.int ..|.float ..|.complex ..|.string _|.pointer none|.slice none 0 0|.map none|.nilFunc|.nilIface=>true
 |_=>false
def qw (f:Value->Option AV):List Value->Option (List AV)
 |[]=>some []
 |v::r=>match f v,qw f r with
  |some a,some b=>some (a::b)
  |_,_=>none
def one?:Option AV->Option AV
 |some (.agg _)|some (.ed _)|some .no=>none
 |o=>o
def tn:Nat->Value->Option AV
 |0,_=>none
 |n+1,.agg cs=>(qw (λv=>one? (tn n v)) cs.toList).map .agg
 |n+1,.tuple cs=>(qw (tn n) cs.toList).map .ed
 |n+1,.iface t v=>(tn n v).map (.iface t)
 |n+1,.func (.func f) a b=>match qw (tn n) a.toList,qw (tn n) b.toList with
  |some a,some b=>some (.fn (.func f) a b)
  |_,_=>none
 |_+1,v=>if scalar v then some (.sc v) else none
mutual
def qi:AV->Option Value
 |.sc v=>some v
 |.agg cs=>(tp cs).map λl=>.agg l.toArray
 |.iface t v=>(qi v).map (.iface t)
 |_=>none
def tp:List AV->Option (List Value)
 |[]=>some []
 |v::r=>match qi v,tp r with
  |some a,some b=>some (a::b)
  |_,_=>none
end
def bj {α:Type}(P:Program):Sem α->Option α
 |.pure a=>some a
 |.program k=>bj P (k P)
 |.mark _ k=>bj P k
 |_=>none
noncomputable def mj:Value->Option (IntKind×Int):=
 Value.rec (motive_1:=λ_=>Option (IntKind×Int)) (motive_2:=λ_=>Unit) (motive_3:=λ_=>Unit)
  (λ_=>none) (λk n=>some (k,n)) (λ_ _=>none) (λ_ _ _=>none) (λ_=>none) (λ_=>none) (λ_ _ _=>none) (λ_=>none) (λ_=>none)
  (λ_ _ _ _ _=>none) none (λ_ _ _=>none) none (λ_ _=>none) (λ_ _=>none) (λ_ _=>()) () (λ_ _ _ _=>())
noncomputable def asInt:AV->Option (IntKind×Int):=
 AV.rec (motive_1:=λ_=>Option (IntKind×Int)) (motive_2:=λ_=>Unit)
  (λv=>mj v) (λ_ _=>none) (λ_ _ _ _=>none) (λ_ _ _ _ _=>none) (λ_=>none) (λ_ _ _ _ _=>none) (λ_=>none) (λ_ _ _=>none) (λ_ _=>none) (λ_ _=>none) none (λ_=>none) () (λ_ _ _ _=>())
noncomputable def LG:Value->Option Bool:=
 Value.rec (motive_1:=λ_=>Option Bool) (motive_2:=λ_=>Unit) (motive_3:=λ_=>Unit)
  (λb=>some b) (λ_ _=>none) (λ_ _=>none) (λ_ _ _=>none) (λ_=>none) (λ_=>none) (λ_ _ _=>none) (λ_=>none) (λ_=>none)
  (λ_ _ _ _ _=>none) none (λ_ _ _=>none) none (λ_ _=>none) (λ_ _=>none) (λ_ _=>()) () (λ_ _ _ _=>())
noncomputable def asBool:AV->Option Bool:=
 AV.rec (motive_1:=λ_=>Option Bool) (motive_2:=λ_=>Unit)
  (λv=>LG v) (λ_ _=>none) (λ_ _ _ _=>none) (λ_ _ _ _ _=>none) (λ_=>none) (λ_ _ _ _ _=>none) (λ_=>none) (λ_ _ _=>none) (λ_ _=>none) (λ_ _=>none) none (λ_=>none) () (λ_ _ _ _=>())
noncomputable def iR:AV->Option (Nat×Nat):=
 AV.rec (motive_1:=λ_=>Option (Nat×Nat)) (motive_2:=λ_=>Unit)
  (λ_=>none) (λi o=>some (i,o)) (λ_ _ _ _=>none) (λ_ _ _ _ _=>none) (λ_=>none) (λ_ _ _ _ _=>none) (λ_=>none) (λ_ _ _=>none) (λ_ _=>none) (λ_ _=>none) none (λ_=>none) () (λ_ _ _ _=>())
noncomputable def asAgg:AV->Option (List AV):=
 AV.rec (motive_1:=λ_=>Option (List AV)) (motive_2:=λ_=>Unit)
  (λ_=>none) (λ_ _=>none) (λ_ _ _ _=>none) (λ_ _ _ _ _=>none) (λ_=>none) (λ_ _ _ _ _=>none) (λ_=>none) (λ_ _ _=>none) (λcs _=>some cs) (λ_ _=>none) none (λ_=>none) () (λ_ _ _ _=>())
noncomputable def CV:AV->Option (List AV):=
 AV.rec (motive_1:=λ_=>Option (List AV)) (motive_2:=λ_=>Unit)
  (λ_=>none) (λ_ _=>none) (λ_ _ _ _=>none) (λ_ _ _ _ _=>none) (λ_=>none) (λ_ _ _ _ _=>none) (λ_=>none) (λ_ _ _=>none) (λ_ _=>none) (λcs _=>some cs) none (λ_=>none) () (λ_ _ _ _=>())
noncomputable def QO:Value->Bool:=
 Value.rec (motive_1:=λ_=>Bool) (motive_2:=λ_=>Unit) (motive_3:=λ_=>Unit)
  (λ_=>true) (λ_ _=>true) (λ_ _=>true) (λ_ _ _=>true) (λ_=>true) (λ_=>false) (λ_ _ _=>true) (λ_=>true) (λ_=>true)
  (λ_ _ _ _ _=>false) false (λ_ _ _=>true) false (λ_ _=>true) (λ_ _=>true) (λ_ _=>()) () (λ_ _ _ _=>())
noncomputable def QP:Fn->Bool:=Fn.rec (motive:=λ_=>Bool) (λ_=>true) (λ_=>false) (λ_ _=>true) (λ_ _ _ _=>true) (λ_=>true)
noncomputable def live:AV->Bool:=
 AV.rec (motive_1:=λ_=>Bool) (motive_2:=λ_=>Unit)
  (λv=>QO v) (λ_ _=>true) (λ_ _ _ _=>true) (λ_ _ _ _ _=>true) (λ_=>true) (λf _ _ _ _=>QP f) (λ_=>true) (λ_ _ _=>true) (λ_ _=>true) (λ_ _=>true) false (λ_=>false) () (λ_ _ _ _=>())
noncomputable def AV.cells (v:AV):List AV:=
 AV.rec (motive_1:=λ_=>List AV->List AV) (motive_2:=λ_=>Unit)
  (λ_ l=>l) (λ_ _ l=>l) (λ_ _ _ _ l=>l) (λ_ _ _ _ _ l=>l) (λ_ l=>l) (λ_ _ _ _ _ l=>l) (λ_ l=>l) (λ_ _ _ l=>l) (λcs _ _=>cs) (λ_ _ l=>l) (λl=>l) (λ_ l=>l) () (λ_ _ _ _=>()) v [v]
noncomputable def odd:AV->Bool:=
 AV.rec (motive_1:=λ_=>Bool) (motive_2:=λ_=>Unit)
  (λ_=>false) (λ_ _=>false) (λ_ _ _ _=>false) (λ_ _ _ _ _=>false) (λ_=>false) (λ_ _ _ _ _=>false) (λ_=>false) (λ_ _ _=>false) (λ_ _=>false) (λ_ _=>true) true (λ_=>false) () (λ_ _ _ _=>())
noncomputable def LH:AO->Option (List AV):=
 AO.rec (motive:=λ_=>Option (List AV)) (λl=>some l) (λ_=>none) (λ_=>none) (λ_ _ _ _=>none)
noncomputable def CW:AO->Option (List AV):=
 AO.rec (motive:=λ_=>Option (List AV)) (λl=>some l) (λl=>some l) (λ_=>none) (λ_ _ _ _=>none)
noncomputable def LI:IntKind->Nat:=IntKind.rec (motive:=λ_=>Nat) 0 1 2 3 4 5 6 7
def ml (j k:IntKind):Bool:=Nat.beq (LI j) (LI k)
noncomputable def FM:IntKind->Nat:=IntKind.rec (motive:=λ_=>Nat) 127 32767 2147483647 9223372036854775807 255 65535 4294967295 18446744073709551615
def fL (k:IntKind)(n:Int):Int:=
 match n with
 |.ofNat a=>match Nat.ble a (FM k) with
  |true=>.ofNat a
  |false=>IntKind.wrap k (.ofNat a)
 |.negSucc a=>IntKind.wrap k (.negSucc a)
noncomputable def ltK:Int->Int->Bool:=
 Int.rec (motive:=λ_=>Int->Bool)
  (λa=>Int.rec (motive:=λ_=>Bool) (λb=>Nat.ble (Nat.succ a) b) (λ_=>false))
  (λa=>Int.rec (motive:=λ_=>Bool) (λ_=>true) (λb=>Nat.ble (Nat.succ b) a))
noncomputable def Eh (a b:Int):Bool:=ltK a b
noncomputable def eqK:Int->Int->Bool:=
 Int.rec (motive:=λ_=>Int->Bool)
  (λa=>Int.rec (motive:=λ_=>Bool) (λb=>Nat.beq a b) (λ_=>false))
  (λa=>Int.rec (motive:=λ_=>Bool) (λ_=>false) (λb=>Nat.beq a b))
noncomputable def FN (a b:Int):Bool:=eqK a b
def dB (f:IntKind->Int->Int->Option AV)(x y:AV):Option AV:=
 match asInt x with
 |some (k,a)=>match asInt y with
  |some (k',b)=>match ml k k' with
   |true=>f k a b
   |false=>none
  |none=>none
 |none=>none
def wI (f:ByteArray->ByteArray->Option AV)(x y:AV):Option AV:=
 match x,y with
 |.sc (.string a),.sc (.string b)=>f a b
 |_,_=>none
def either (a b:Option AV):Option AV:=
 match a with
 |some v=>some v
 |none=>b
def Wi (x y:AV):Option AV:=either (dB (λk a b=>some (.sc (.int k (fL k (Int.add a b))))) x y) (wI (λa b=>if a.size+b.size<=9223372036854775807 then some (.sc (.string (a++b))) else none) x y)
def MH (x y:AV):Option AV:=dB (λk a b=>some (.sc (.int k (fL k (Int.sub a b))))) x y
def MI (x y:AV):Option AV:=dB (λk a b=>some (.sc (.int k (fL k (Int.mul a b))))) x y
def MJ (x y:AV):Option AV:=dB (λk a b=>if FN b 0 then none else some (.sc (.int k (fL k (a.tdiv b))))) x y
def MK (x y:AV):Option AV:=dB (λk a b=>if FN b 0 then none else some (.sc (.int k (a.tmod b)))) x y
def FO (x y:AV):Option AV:=dB (λk a b=>some (.sc (.int k (fL k ((BitVec.ofInt k.bits a&&&BitVec.ofInt k.bits b).toNat))))) x y
def Wj (x y:AV):Option AV:=dB (λk a b=>some (.sc (.int k (fL k ((BitVec.ofInt k.bits a|||BitVec.ofInt k.bits b).toNat))))) x y
def Wk (x y:AV):Option AV:=dB (λk a b=>some (.sc (.int k (fL k ((BitVec.ofInt k.bits a^^^BitVec.ofInt k.bits b).toNat))))) x y
def qx (x y:AV):Option AV:=dB (λk a b=>some (.sc (.int k (fL k ((BitVec.ofInt k.bits a&&&~~~BitVec.ofInt k.bits b).toNat))))) x y
def FP (x y:AV):Option AV:=
 match x,y with
 |.sc (.int k a),.sc (.int _ b)=>if Eh b 0 then none else some (.sc (.int k (fL k (a*2^(min b.toNat k.bits)))))
 |_,_=>none
def FQ (x y:AV):Option AV:=
 match x,y with
 |.sc (.int k a),.sc (.int _ b)=>if Eh b 0 then none else some (.sc (.int k (a.fdiv (2^(min b.toNat k.bits)))))
 |_,_=>none
def Wl (x y:AV):Option AV:=either (dB (λ_ a b=>some (.sc (.bool (FN a b)))) x y) (wI (λa b=>some (.sc (.bool (a.toList==b.toList)))) x y)
def Wm (x y:AV):Option AV:=either (dB (λ_ a b=>some (.sc (.bool (not (FN a b))))) x y) (wI (λa b=>some (.sc (.bool !(a.toList==b.toList)))) x y)
def Wn (x y:AV):Option AV:=either (dB (λ_ a b=>some (.sc (.bool (Eh a b)))) x y) (wI (λa b=>some (.sc (.bool (Op.bytesLess a.toList b.toList)))) x y)
def Wo (x y:AV):Option AV:=either (dB (λ_ a b=>some (.sc (.bool (not (Eh b a))))) x y) (wI (λa b=>some (.sc (.bool (Op.bytesLess a.toList b.toList||a.toList==b.toList)))) x y)
def Wp (x y:AV):Option AV:=either (dB (λ_ a b=>some (.sc (.bool (Eh b a)))) x y) (wI (λa b=>some (.sc (.bool !(Op.bytesLess a.toList b.toList||a.toList==b.toList)))) x y)
def Wr (x y:AV):Option AV:=either (dB (λ_ a b=>some (.sc (.bool (not (Eh a b))))) x y) (wI (λa b=>some (.sc (.bool !(Op.bytesLess a.toList b.toList)))) x y)
noncomputable def JI (op:BinOp):AV->AV->Option AV:=
 BinOp.rec (motive:=λ_=>AV->AV->Option AV) Wi MH MI MJ MK FO Wj Wk FP FQ qx Wl Wm Wn Wo Wp Wr op
noncomputable def ML {α:Type}(o:Option α)(n:Nat):Nat:=Option.rec (motive:=λ_=>Nat) n (λ_=>0) o
noncomputable def Ws:Value->Nat:=
 Value.rec (motive_1:=λ_=>Nat) (motive_2:=λ_=>Unit) (motive_3:=λ_=>Unit)
  (λ_=>0) (λ_ _=>0) (λ_ _=>0) (λ_ _ _=>0) (λ_=>0) (λa=>ML a 1) (λa _ _=>ML a 2) (λr=>ML r 3) (λ_=>0)
  (λ_ _ _ _ _=>0) 4 (λ_ _ _=>0) 5 (λ_ _=>0) (λ_ _=>0) (λ_ _=>()) () (λ_ _ _ _=>())
noncomputable def kY:AV->Nat:=
 AV.rec (motive_1:=λ_=>Nat) (motive_2:=λ_=>Unit)
  (λv=>Ws v) (λ_ _=>0) (λ_ _ _ _=>0) (λ_ _ _ _ _=>0) (λ_=>0) (λ_ _ _ _ _=>0) (λ_=>0) (λ_ _ _=>0) (λ_ _=>0) (λ_ _=>0) 0 (λ_=>0) () (λ_ _ _ _=>())
noncomputable def zC:AV->Nat:=
 AV.rec (motive_1:=λ_=>Nat) (motive_2:=λ_=>Unit)
  (λ_=>0) (λ_ _=>1) (λ_ _ _ _=>2) (λ_ _ _ _ _=>2) (λ_=>3) (λ_ _ _ _ _=>4) (λ_=>4) (λ_ _ _=>5) (λ_ _=>0) (λ_ _=>0) 0 (λ_=>0) () (λ_ _ _ _=>())
def LJ (P:Program)(t:TypeId):Bool:=
 match P.underlying t with
 |some (.pointer e)=>match P.info? e with
  |some i=>Nat.ble 1 i.size
  |none=>false
 |_=>false
def nv:Value->Bool
 |.int ..|.float ..|.complex ..|.string _=>false
 |_=>true
def JJ (P:Program)(t:TypeId)(x y:AV):Option Bool:=
 match iR x with
 |some (i,a)=>match iR y with
  |some (j,b)=>match Nat.beq i j&&LJ P t with
   |true=>some (Nat.beq a b)
   |false=>none
  |none=>none
 |none=>match qi x,qi y with
  |some a,some b=>if nv a&&nv b then(match bj P (eqGuard .eql t (.tmp 0) (.tmp 0) a b) with|some _=>bj P (Op.equal t a b)|none=>none) else none
  |_,_=>none
def jm (P:Program)(t:TypeId):Nat:=
 match P.underlying t with
 |some (.pointer _)=>1
 |some (.slice _)=>2
 |some (.map _ _)=>3
 |some (.func _ _ _)=>4
 |some (.interface _)=>5
 |_=>0
def zD (P:Program)(t:TypeId)(x y:AV):Option Bool:=
 match Nat.ble 1 (kY x)&&Nat.beq (kY x) (zC y)&&Nat.beq (kY x) (jm P t) with
 |true=>some false
 |false=>match Nat.ble 1 (kY y)&&Nat.beq (kY y) (zC x)&&Nat.beq (kY y) (jm P t) with
  |true=>some false
  |false=>match Nat.ble 1 (kY x)&&Nat.ble (kY x) 4&&Nat.beq (kY x) (kY y)&&Nat.beq (kY x) (jm P t) with
   |true=>some true
   |false=>JJ P t x y
def below (a n:Nat):Option Nat:=match Nat.ble (Nat.succ a) n with
 |true=>some a
 |false=>none
def nat?:Int->Option Nat
 |.ofNat a=>some a
 |.negSucc _=>none
def pq (i:AV)(n:Nat):Option Nat:=
 match asInt i with
 |some (_,a)=>match nat? a with
  |some a=>below a n
  |none=>none
 |none=>none
def JK (i:AV)(n:Nat):Option Nat:=pq i (Nat.succ n)
def gq (i:Option AV)(d n:Nat):Option Nat:=
 match i with
 |none=>some d
 |some i=>JK i n
noncomputable def zE:List AV->Nat->Option AV:=
 List.rec (motive:=λ_=>Nat->Option AV) (λ_=>none) λv _ ih i=>Nat.rec (motive:=λ_=>Option AV) (some v) (λi _=>ih i) i
noncomputable def kB:Nat->List AV->List AV:=
 Nat.rec (motive:=λ_=>List AV->List AV) (λl=>l) λ_ ih l=>List.rec (motive:=λ_=>List AV) [] (λ_ r _=>ih r) l
noncomputable def kC:Nat->List AV->List AV:=
 Nat.rec (motive:=λ_=>List AV->List AV) (λ_=>[]) λ_ ih l=>List.rec (motive:=λ_=>List AV) [] (λv r _=>v::ih r) l
noncomputable def ca:List AV->Nat:=List.rec (motive:=λ_=>Nat) 0 λ_ _ n=>Nat.succ n
noncomputable def jH:List AV->List AV->List AV:=List.rec (motive:=λ_=>List AV->List AV) (λb=>b) λv _ ih b=>v::ih b
def bu (c:List AV)(off:Nat)(vs:List AV):List AV:=jH (kC off c) (jH vs (kB (Nat.add off (ca vs)) c))
def fX:List AV->List (Nat×Nat×AV)->Option (List AV)
 |cells,[]=>some cells
 |cells,(off,size,v)::rest=>
  match not (odd v)&&Nat.beq (ca v.cells) size&&Nat.ble (Nat.add off size) (ca cells) with
  |true=>fX (bu cells off v.cells) rest
  |false=>none
def gh (agg:Bool)(cs:List AV)(off n:Nat):Option AV:=
 match agg with
 |true=>match Nat.ble (Nat.add off n) (ca cs) with
  |true=>some (.agg (kC n (kB off cs)))
  |false=>none
 |false=>zE cs off
def cD (zero:List AV):Nat->List AV
 |0=>[]
 |n+1=>jH zero (cD zero n)
def oD (isMax:Bool)(x y:AV):Option AV:=
 match x,y with
 |.sc (.int k a),.sc (.int _ b)=>some (.sc (.int k (if isMax then(if Eh a b then b else a) else(if Eh b a then b else a))))
 |_,_=>none
def CX (c a b:AV):Option AV:=match asBool c with
 |some true=>some a
 |some false=>some b
 |none=>none
def Fy (P:Program)(t:TypeId)(neg:Bool)(x y:AV):Option AV:=match zD P t x y with
 |some b=>some (.sc (.bool (match neg with|true=>not b|false=>b)))
 |none=>none
def QQ (P:Program)(op:UnOp)(v:Value):Option AV:=match bj P (Op.unary op v) with
 |some w=>match scalar w with
  |true=>some (.sc w)
  |false=>none
 |none=>none
def U0 (P:Program)(op:UnOp)(x:AV):Option AV:=match asBool x with
 |some b=>match op with
  |.not=>some (.sc (.bool (not b)))
  |_=>none
 |none=>match x with
  |.sc v=>QQ P op v
  |_=>none
def CY (k:IntKind)(x:AV):Option AV:=match asInt x with
 |some (_,n)=>some (.sc (.int k (fL k n)))
 |none=>none
def CZ (off n:Nat)(agg:Bool)(x:AV):Option AV:=match asAgg x with
 |some cs=>gh agg cs off n
 |none=>none
def xi (len es:Nat)(agg:Bool)(x i:AV):Option AV:=match asAgg x with
 |some cs=>match pq i len with
  |some i=>gh agg cs (Nat.mul i es) es
  |none=>none
 |none=>none
def kZ (zero:List AV)(parts:List (Nat×Nat×AV)):Option AV:=match fX zero parts with
 |some c=>some (.agg c)
 |none=>none
def x8 (off:Nat)(x:AV):Option AV:=match iR x with
 |some (id,o)=>some (.ptr id (Nat.add o off))
 |none=>none
def nw (len es:Nat)(x i:AV):Option AV:=match iR x with
 |some (id,o)=>match pq i len with
  |some i=>some (.ptr id (Nat.add o (Nat.mul i es)))
  |none=>none
 |none=>none
def gi (es:Nat)(x i:AV):Option AV:=match x with
 |.sl id o len _=>match pq i len with
  |some i=>some (.ptr id (Nat.add o (Nat.mul i es)))
  |none=>none
 |.op id o len _ _=>match pq i len with
  |some i=>some (.ptr id (Nat.add o (Nat.mul i es)))
  |none=>none
 |_=>none
def k8 (lo hi mx:Option AV)(len cap:Nat):Option (Nat×Nat×Nat):=
 match gq mx cap cap with
 |some m=>match gq hi len m with
  |some h=>match gq lo 0 h with
   |some l=>if mx.isSome&&hi.isNone then none else some (l,h,m)
   |none=>none
  |none=>none
 |none=>none
def kD (len es:Nat)(x:AV)(lo hi mx:Option AV):Option AV:=match x with
 |.ptr id o=>match k8 lo hi mx len len with
  |some (l,h,m)=>some (.sl id (if Nat.beq m l then o else Nat.add o (Nat.mul l es)) (Nat.sub h l) (Nat.sub m l))
  |none=>none
 |_=>none
def dV (es:Nat)(x:AV)(lo hi mx:Option AV):Option AV:=match x with
 |.sl id o len cap=>match k8 lo hi mx len cap with
  |some (l,h,m)=>some (.sl id (if Nat.beq m l then o else Nat.add o (Nat.mul l es)) (Nat.sub h l) (Nat.sub m l))
  |none=>none
 |.op id o len cH gJ=>match Nat.beq es gJ with
  |true=>match k8 lo hi mx len cH with
   |some (l,h,m)=>match mx with
    |some _=>match Nat.beq cH 0 with
     |true=>some (.op id o 0 0 es)
     |false=>some (.sl id (if Nat.beq m l then o else Nat.add o (Nat.mul l es)) (Nat.sub h l) (Nat.sub m l))
    |none=>some (.op id (Nat.add o (Nat.mul l es)) (Nat.sub h l) (Nat.sub cH l) es)
   |none=>none
  |false=>none
 |.sc (.slice none 0 0)=>match k8 lo hi mx 0 0 with
  |some _=>some (.sc (.slice none 0 0))
  |none=>none
 |_=>none
def qy (i:Nat)(x:AV):Option AV:=match CV x with
 |some vs=>zE vs i
 |none=>none
def oE (x:AV):Option AV:=match live x with
 |true=>some x
 |false=>none
def Ei (str:Bool)(x:AV):Option AV:=match str with
 |true=>match x with
  |.sc (.string s)=>some (.sc (.int .i64 (.ofNat s.size)))
  |_=>none
 |false=>match x with
  |.sl _ _ n _=>some (.sc (.int .i64 (.ofNat n)))
  |.op _ _ n _ _=>some (.sc (.int .i64 (.ofNat n)))
  |.sc (.slice none 0 0)=>some (.sc (.int .i64 0))
  |_=>none
def tO (m:Bool)(xs:List AV):Option AV:=match xs with
 |x::rest=>rest.foldlM (oD m) x
 |[]=>none
def BC (want:Array (String×TypeId))(P6:Array Method):Bool:=want.toList.all λx=>P6.toList.any λm=>m.name==x.1&&m.sig==x.2
def iS (P:Program)(t:TypeId)(MG ok:Bool)(zero:Option AV)(x:AV):Option AV:=
 let holds (v:AV):AV:=if ok then .ed [v,.sc (.bool true)] else v
 let FT:Option AV:=if ok then zero.map λz=>.ed [z,.sc (.bool false)] else none
 match x with
 |.sc .nilIface=>FT
 |.iface u v=>
  if MG then
   match P.underlying t,P.info? u with
   |some (.interface want),some i=>if BC want i.methods then some (holds x) else FT
   |_,_=>none
  else if u==t then some (holds v) else FT
 |_=>none
def xj (P:Program)(kt:TypeId)(a b:Value):Option Bool:=
 match P.underlying kt,a,b with
 |some (.int _),.int k x,.int k' y=>if ml k k' then some (FN x y) else none
 |_,a,b=>bj P (Op.equal kt a b)
def qz (P:Program)(kt:TypeId)(k:Value):List (Value×AV)->Nat->Option (Option (Nat×AV))
 |[],_=>some none
 |(k',v)::r,i=>match xj P kt k k' with
  |some true=>some (some (i,v))
  |some false=>qz P kt k r (i+1)
  |none=>none
def xk (P:Program)(kt:TypeId)(empty:Bool)(k:Value):Bool:=(bj P (Instr.checkKey empty 10000 kt k)).isSome
def AH.cells? (S:AH)(id:Nat):Option (List AV):=
 match S.get id with
 |some o=>CW o
 |none=>none
def AH.row? (S:AH)(id:Nat):Option (List AV):=
 match S.get id with
 |some o=>LH o
 |none=>none
def mV (S:AH)(n:Nat)(agg:Bool)(p:AV):Option AV:=match iR p with
 |some (id,o)=>match S.cells? id with
  |some c=>gh agg c o n
  |none=>none
 |none=>none
def mapOf (S:AH)(m:AV):Option (List (Value×AV)):=match m with
 |.sc (.map none)=>some []
 |.map id=>match S.get id with
  |some (.map es)=>some es
  |_=>none
 |_=>none
def kE (P:Program)(S:AH)(kt:TypeId)(ok:Bool)(zero:AV)(m k:AV):Option AV:=
 match qi k,mapOf S m with
 |some k,some es=>
  if xk P kt es.isEmpty k then
   match qz P kt k es 0 with
   |some (some (_,v))=>some (if ok then .ed [v,.sc (.bool true)] else v)
   |some none=>some (if ok then .ed [zero,.sc (.bool false)] else zero)
   |none=>none
  else none
 |_,_=>none
def cT (P:Program)(S:AH):fK->Option AV
 |.load n agg p=>mV S n agg p
 |.lookup kt ok zero m k=>kE P S kt ok zero m k
 |_=>none
def lay (S:AH)(o:AO)(f:Nat->AV):Option (AV×AH):=some (f S.next,S.new o)
def MN (cells:List AV)(S:AH):Option (AV×AH):=lay S (.row cells) λid=>.ptr id 0
def BD (x:AV)(S:AH):Option (AV×AH):=match odd x with
 |true=>none
 |false=>lay S (.row x.cells) λid=>.ptr id 0
def jn (es n:Nat)(zero:List AV)(parts:List (Nat×Nat×AV))(S:AH):Option (AV×AH):=
 match fX (cD zero n) parts with
 |some c=>match Nat.beq (ca c) (Nat.mul n es)&&Nat.beq (ca zero) es with
  |true=>lay S (.row c) λid=>.sl id 0 n n
  |false=>none
 |none=>none
def jI (es bytes:Nat)(zero:List AV)(len cap:AV)(S:AH):Option (AV×AH):=match asInt len with
 |some (_,l)=>match asInt cap with
  |some (_,c)=>match nat? l with
   |some l=>match nat? c with
    |some c=>match Nat.ble l c&&Nat.ble (Nat.mul bytes c) 140737488355328&&Nat.ble c 9223372036854775807&&Nat.beq (ca zero) es with
     |true=>lay S (.row (cD zero c)) λid=>.sl id 0 l c
     |false=>none
    |none=>none
   |none=>none
  |none=>none
 |none=>none
def MO (S:AH):Option (AV×AH):=lay S (.map []) .map
def elems (S:AH)(es:Nat):AV->Option (Nat×List AV)
 |.sc (.slice none 0 0)=>some (0,[])
 |.sl id o len _|.op id o len _ _=>match S.cells? id with
  |some c=>if Nat.ble (o+len*es) (ca c) then some (len,kC (len*es) (kB o c)) else none
  |none=>none
 |.sc (.string s)=>if es=1 then some (s.size,s.data.toList.map λb=>.sc (.int .u8 b.toNat)) else none
 |_=>none
def dJ:Nat:=140737488355328
def eO:Nat:=9223372036854775807
def pw (n:Nat)(p v:AV)(S:AH):Option (AV×AH):=match iR p with
 |some (id,o)=>match S.row? id with
  |some c=>match not (odd v)&&Nat.beq (ca v.cells) n&&Nat.ble (Nat.add o n) (ca c) with
   |true=>some (uv,S.set id (.row (bu c o v.cells)))
   |false=>none
  |none=>none
 |none=>none
def jo (es bytes:Nat)(s x:AV)(S:AH):Option (AV×AH):=match elems S es x with
 |none=>none
 |some (m,news)=>match s with
  |.sc (.slice none 0 0)=>
   if Nat.beq m 0 then some (s,S)
   else if Nat.ble (m*bytes) dJ&&Nat.ble m eO then some (.op S.next 0 m m es,S.new (.row news)) else none
  |.sl id o len cap=>match S.get id with
   |some (.row c)=>
    if Nat.ble (o+cap*es) (ca c)&&Nat.ble len cap then
     if Nat.ble (len+m) cap then some (.sl id o (len+m) cap,S.set id (.row (bu c (o+len*es) news)))
     else if Nat.ble ((len+m)*bytes) dJ&&Nat.ble (len+m) eO then
      some (.op S.next 0 (len+m) (len+m) es,S.new (.row (jH (kC (len*es) (kB o c)) news)))
     else none
    else none
   |some (.ro c)=>
    if Nat.ble (o+cap*es) (ca c)&&Nat.ble len cap then
     if Nat.ble (len+m) cap then(if Nat.beq m 0 then some (.sl id o len cap,S) else none)
     else if Nat.ble ((len+m)*bytes) dJ&&Nat.ble (len+m) eO then
      some (.op S.next 0 (len+m) (len+m) es,S.new (.row (jH (kC (len*es) (kB o c)) news)))
     else none
    else none
   |_=>none
  |.op id o len cH gJ=>match S.get id with
   |some (.row c)=>
    if Nat.beq gJ es&&Nat.ble (o+cH*es) (ca c)&&Nat.ble len cH then
     if Nat.ble (len+m) cH then some (.op id o (len+m) cH es,S.set id (.row (bu c (o+len*es) news)))
     else if Nat.ble ((len+m)*bytes) dJ&&Nat.ble (len+m) eO then
      some (.op S.next 0 (len+m) (len+m) es,(S.kill id).new (.row (jH (kC (len*es) (kB o c)) news)))
     else none
    else none
   |_=>none
  |_=>none
def qA (P:Program)(kt:TypeId)(m k v:AV)(S:AH):Option (AV×AH):=match qi k with
 |none=>none
 |some k=>match m with
  |.map id=>match S.get id with
   |some (.map es)=>
    if xk P kt false k then
     match qz P kt k es 0 with
     |some (some (i,_))=>match es[i]? with
      |some (k',_)=>if Instr.sameBits 10000 k' k then some (uv,S.set id (.map (es.set i (k,v)))) else none
      |none=>none
     |some none=>some (uv,S.set id (.map (es++[(k,v)])))
     |none=>none
    else none
   |_=>none
  |_=>none
def eU (r:Option AV)(S:AH):Option (AV×AH):=match r with
 |some v=>some (v,S)
 |none=>none
noncomputable def evalOp (P:Program) (o:fK):AH->Option (AV×AH):=
 fK.rec (motive:=λ_=>AH->Option (AV×AH))
  (λx S=>some (x,S))
  (λc a b=>eU (CX c a b))
  (λop x y=>eU (JI op x y))
  (λk x=>eU (CY k x))
  (λo n a x=>eU (CZ o n a x))
  (λl e a x i=>eU (xi l e a x i))
  (λz ps=>eU (kZ z ps))
  (λo x=>eU (x8 o x))
  (λl e x i=>eU (nw l e x i))
  (λe x i=>eU (gi e x i))
  (λl e x a b c=>eU (kD l e x a b c))
  (λe x a b c=>eU (dV e x a b c))
  (λi x=>eU (qy i x))
  (λx=>eU (oE x))
  (λg x=>eU (Ei g x))
  (λm xs=>eU (tO m xs))
  (λn a p S=>eU (mV S n a p) S)
  MN BD jn jI MO pw jo
  (λt n x y=>eU (Fy P t n x y))
  (λop x=>eU (U0 P op x))
  (λt i o z x=>eU (iS P t i o z x))
  (λkt o z m k S=>eU (kE P S kt o z m k) S)
  (qA P) o
mutual
def AV.beq:AV->AV->Bool
 |.sc (.int k a),.sc (.int k' b)=>ml k k'&&FN a b
 |.sc (.bool a),.sc (.bool b)=>a==b
 |.sc (.string a),.sc (.string b)=>a.data.toList==b.data.toList
 |.sc (.pointer none),.sc (.pointer none)|.sc (.slice none 0 0),.sc (.slice none 0 0)|.sc (.map none),.sc (.map none)
 |.sc .nilFunc,.sc .nilFunc|.sc .nilIface,.sc .nilIface=>true
 |.ptr i o,.ptr j p=>Nat.beq i j&&Nat.beq o p
 |.sl i o l c,.sl j p m d=>Nat.beq i j&&Nat.beq o p&&Nat.beq l m&&Nat.beq c d
 |.op i o l c e,.op j p m d f=>Nat.beq i j&&Nat.beq o p&&Nat.beq l m&&Nat.beq c d&&Nat.beq e f
 |.map i,.map j=>Nat.beq i j
 |.yd i,.yd j=>Nat.beq i j
 |.fn (.func f) a b,.fn (.func g) c d=>Nat.beq f g&&rO a c&&rO b d
 |.iface t v,.iface u w=>Nat.beq t u&&v.beq w
 |.agg a,.agg b=>rO a b
 |.ed a,.ed b=>rO a b
 |.tok i,.tok j=>Nat.beq i j
 |_,_=>false
def rO:List AV->List AV->Bool
 |[],[]=>true
 |a::r,b::s=>a.beq b&&rO r s
 |_,_=>false
end
noncomputable def Ej:AV->Bool:=
 AV.rec (motive_1:=λ_=>Bool) (motive_2:=λ_=>Unit)
  (λ_=>false) (λ_ _=>false) (λ_ _ _ _=>false) (λ_ _ _ _ _=>false) (λ_=>false) (λ_ _ _ _ _=>false) (λ_=>false) (λ_ _ _=>false) (λ_ _=>false) (λ_ _=>false) true (λ_=>true) () (λ_ _ _ _=>())
def Bu (g:AV)(b:Bool):Option Bool:=
 match asBool g with
 |some true=>some b
 |some false=>some (not b)
 |none=>match Ej g with
  |true=>none
  |false=>some false
abbrev Out:=Option (Tag×List AV×AH)
def iter (body:List AV->AH->Out):Nat->List AV->AH->Out
 |0,_,_=>none
 |n+1,vs,S=>match body vs S with
  |some (.normal,wJ,S')=>iter body n wJ S'
  |r=>r
section
variable(P:Program)(call:AV->List AV->AH->Option (AV×AH))(fuel:Nat)
def qB (r:Option (AV×AH))(ih:AV->AH->Out):Out:=
 match r with
 |some (v,S')=>ih v S'
 |none=>none
def QR (o:fK)(ih:AV->AH->Out)(S:AH):Out:=qB (evalOp P o S) ih
def rP (g:AV)(b:Bool)(o:fK)(ih:AV->AH->Out)(S:AH):Out:=
 match Bu g b with
 |some true=>qB (evalOp P o S) ih
 |some false=>ih uv S
 |none=>none
def px (o:fK)(v:AV)(ih:AH->Out)(S:AH):Out:=
 match cT P S o with
 |some v'=>match v'.beq v with
  |true=>ih S
  |false=>none
 |none=>none
def qC (g:AV)(b:Bool)(o:fK)(v:AV)(ih:AH->Out)(S:AH):Out:=
 match Bu g b with
 |some true=>px P o v ih S
 |some false=>ih S
 |none=>none
def x9 (c:AV)(a b:AH->Out)(S:AH):Out:=
 match asBool c with
 |some true=>a S
 |some false=>b S
 |none=>none
def ny (g:AV)(b:Bool)(f:AV)(args:List AV)(ih:AV->AH->Out)(S:AH):Out:=
 match Bu g b with
 |some true=>qB (call f args S) ih
 |some false=>ih uv S
 |none=>none
def fA (m:AH->Out)(id:Option Nat)(k:List AV->AH->Out)(outs:List AV->List AV)(S:AH):Out:=
 match m S with
 |some (.normal,vs,S')=>k vs S'
 |some (.exit i,vs,S')=>match id with
  |some j=>match Nat.beq j i with
   |true=>k vs S'
   |false=>some (.exit i,outs vs,S')
  |none=>some (.exit i,outs vs,S')
 |some (t,vs,S')=>some (t,outs vs,S')
 |none=>none
def tQ (init:List AV)(body:List AV->AH->Out)(outs:List AV->List AV)(S:AH):Out:=
 match iter body fuel init S with
 |some (t,vs,S')=>some (t,outs vs,S')
 |none=>none
def x_ (n:Nat)(f:AV)(body:List AV->AC)(k:AH->Out)(outs:List AV)(S:AH):Out:=
 match f with
 |.yd _=>none
 |f=>match call f [.yd S.next] (S.new (.loop .ready none n body)) with
  |some (_,S')=>match S'.get S.next with
   |some (.loop .busy _ _ _)=>none
   |some (.loop _ dI n b)=>
    match dI with
    |none=>k (S'.set S.next (.loop .exhausted dI n b))
    |some t=>some (t,outs,S'.set S.next (.loop .exhausted dI n b))
   |_=>none
  |none=>none
def rQ (m:AH->Out)(k:List AV->AH->Out)(S:AH):Out:=
 match m S with
 |some (.normal,vs,S')=>k vs S'
 |some (.ret,vs,S')=>k vs S'
 |_=>none
def qD (l:AV)(ih:AH->Out)(S:AH):Out:=
 match l with
 |.yd l=>match S.get l with
  |some (.loop .ready dI n b)=>ih (S.set l (.loop .busy dI n b))
  |_=>none
 |_=>none
noncomputable def run (x:AC):AH->Out:=
 AC.rec (motive:=λ_=>AH->Out)
  (λt vs S=>some (t,vs,S))
  (λo _ ih S=>QR P o ih S)
  (λg b o _ ih S=>rP P g b o ih S)
  (λo v _ ih S=>px P o v ih S)
  (λg b o v _ ih S=>qC P g b o v ih S)
  (λc _ _ ia ib S=>x9 c ia ib S)
  (λf args _ ih S=>qB (call f args S) ih)
  (λg b f args _ ih S=>ny call g b f args ih S)
  (λ_ id _ outs im ik S=>fA im id ik outs S)
  (λinit _ outs ib S=>tQ fuel init ib outs S)
  (λn f body _ outs _ ik S=>x_ call n f body ik outs S)
  (λ_ _ im ik S=>rQ im ik S)
  (λl _ ih S=>qD l ih S)
  (λ_=>none)
  x
end
def methodOf (P:Program)(t:TypeId)(v:AV)(name:String):Option (FuncId×AV):=
 match P.info? t with
 |some i=>match i.methods.find? (·.name==name) with
  |some m=>if m.path.isEmpty then
    match m.func,P.underlying t with
    |some (f,true),some (.pointer _)=>some (f,v)
    |some (f,false),some (.pointer _)=>none
    |some (f,false),some _=>some (f,v)
    |_,_=>none
   else none
  |none=>none
 |none=>none
abbrev Table:=FuncId->Option (List AV->AC)
def oneOf:List AV->AV
 |[v]=>v
 |vs=>.ed vs
structure qE where
 v:FuncId->List AV->Option AV
 x:FuncId->Option (List AV->AH->Option (AV×AH))
instance:CoeFun qE (λ_=>FuncId->List AV->Option AV):=⟨qE.v⟩
noncomputable def cn (P:Program)(iT:Table)(kn:qE):Nat->AV->List AV->AH->Option (AV×AH)
 |0,_,_,_=>none
 |n+1,f,args,S=>
  match f with
  |.fn (.func f) first cap=>
   match kn.v f (jH first (jH args cap)) with
   |some v=>some (v,S)
   |none=>match iT f with
    |some b=>match run P (cn P iT kn n) n (b (jH first (jH args cap))) S with
     |some (.ret,vs,S')=>some (oneOf vs,S')
     |_=>none
    |none=>match kn.x f with
     |some g=>g (jH first (jH args cap)) S
     |none=>none
  |.fn (.method name) [] []=>match args with
   |.iface t v::rest=>match methodOf P t v name with
    |some (f,r)=>cn P iT kn n (.fn (.func f) [] []) (r::rest) S
    |none=>none
   |_=>none
  |.yd l=>match S.get l with
   |some (.loop .ready _ m body)=>
    match Nat.beq (ca args) m with
    |true=>match run P (cn P iT kn n) n (body (.yd l::args)) S with
     |some (t,_,S')=>match S'.get l with
      |some (.loop .busy _ m' LK)=>
       match t with
       |.normal=>some (.sc (.bool true),S'.set l (.loop .ready none m' LK))
       |t=>some (.sc (.bool false),S'.set l (.loop .done (some t) m' LK))
      |_=>none
     |none=>none
    |false=>none
   |_=>none
  |_=>none
abbrev Fr:=T AV
def Fr.at (F:Fr)(t:Nat):AV:=(T.get F t).getD .no
def Fr.put (F:Fr)(d:Option Nat)(v:AV):Fr:=match d with
 |some d=>T.set F d v
 |none=>F
def Fr.fI (F:Fr):List Nat->Nat->List AV->Fr
 |[],_,_=>F
 |t::ts,i,vs=>Fr.fI (T.set F t (nth vs i)) ts (i+1) vs
def Fr.outs (F:Fr)(l:List Nat):List AV:=l.map F.at
def Fr.drop (F:Fr):List Nat->Fr
 |[]=>F
 |t::ts=>Fr.drop (T.set F t .no) ts
def Fr.ev (F:Fr):Operand->AV
 |.tmp t=>F.at t
 |.const v=>(tn 50 v).getD .no
 |.global _=>.no
 |.func f=>.fn (.func f) [] []
def eP (P:Program)(t:TypeId):Option Bool:=
 match P.underlying t with
 |some (.struct _)|some (.array _ _)=>some true
 |some _=>some false
 |none=>none
def aU (P:Program)(t:TypeId):Option Nat:=(P.info? t).map (·.size)
def iq (P:Program)(t:TypeId):Option Nat:=(P.info? t).map (·.bytes)
def gT (P:Program)(t:TypeId):Option AV:=
 match P.info? t with
 |some i=>match i.zero with
  |some v=>tn 50 v
  |none=>none
 |none=>none
def fY (P:Program)(t:TypeId):Option (List AV):=
 match gT P t with
 |some z=>if odd z then none else some z.cells
 |none=>none
inductive Den where
 |val (v:AV)
 |op (o:fK)
 |call (f:AV)(args:List AV)
 |bad
def Den.C6:Option Den->Den
 |some d=>d
 |none=>.bad
def partsOf (F:Fr)(place:Nat->Option (Nat×Nat)):List (Nat×Operand)->Option (List (Nat×Nat×AV))
 |[]=>some []
 |(i,x)::r=>match place i,partsOf F place r with
  |some (off,size),some ps=>some ((off,size,F.ev x)::ps)
  |_,_=>none
def bZ (P:Program)(F:Fr)(o:Oper):Den:=Den.C6<|
 match o.op with
 |.move x|.assign x=>some (.val (F.ev x))
 |.pick c a b=>some (.op (.pick (F.ev c) (F.ev a) (F.ev b)))
 |.alloc t=>do return .op (.alloc (<-fY P t))
 |.box _ x=>some (.op (.box (F.ev x)))
 |.build t parts=>do
  let z <-fY P t
  match<-P.underlying t with
  |.struct fields=>do
   let places <-fields.toList.mapM λf=>(P.info? f.type).map λi=>(f.offset,i.size)
   return .op (.build z (<-partsOf F (λi=>places[i]?) parts.toList))
  |.array _ e=>do
   let s <-aU P e
   return .op (.build z (<-partsOf F (λi=>some (i*s,s)) parts.toList))
  |_=>none
 |.buildSlice t len parts=>do
  match<-P.underlying t with
  |.slice e=>do
   let s <-aU P e
   let z <-fY P e
   if len*s>16777216 then none else
   return .op (.nu s len z (<-partsOf F (λi=>some (i*s,s)) parts.toList))
  |_=>none
 |.load t a=>do return .op (.load (<-aU P t) (<-eP P t) (F.ev a))
 |.store t a x=>do return .op (.store (<-aU P t) (F.ev a) (F.ev x))
 |.nilCheck x=>some (.op (.pn (F.ev x)))
 |.binOp op t x y _=>do
  match op,<-P.underlying t with
  |.eql,.int _|.eql,.string|.neq,.int _|.neq,.string=>some (.op (.bin op (F.ev x) (F.ev y)))
  |.eql,_=>some (.op (.eq t false (F.ev x) (F.ev y)))
  |.neq,_=>some (.op (.eq t true (F.ev x) (F.ev y)))
  |_,_=>some (.op (.bin op (F.ev x) (F.ev y)))
 |.unOp op _ x=>some (.op (.un op (F.ev x)))
 |.convert src dst x=>do
  match<-P.underlying src,<-P.underlying dst with
  |.int _,.int k=>some (.op (.conv k (F.ev x)))
  |_,_=>none
 |.makeInterface t x=>do
  match<-P.underlying t with
  |.interface _=>none
  |_=>some (.val (.iface t (F.ev x)))
 |.makeFunc (.func f) first cap=>some (.val (.fn (.func f) (first.toList.map F.ev) (cap.toList.map F.ev)))
 |.makeMap t r=>match r with
  |none=>do
   match<-P.underlying t with
   |.map _ _=>some (.op .xh)
   |_=>none
  |some _=>none
 |.makeSlice t l c=>do
  match<-P.underlying t with
  |.slice e=>do return .op (.gS (<-aU P e) (<-iq P e) (<-fY P e) (F.ev l) (F.ev c))
  |_=>none
 |.slice t x lo hi mx=>do
  match<-P.underlying t with
  |.array n e=>do return .op (.pk n (<-aU P e) (F.ev x) (lo.map F.ev) (hi.map F.ev) (mx.map F.ev))
  |.pointer arr=>do
   match<-P.underlying arr with
   |.array n e=>do return .op (.pk n (<-aU P e) (F.ev x) (lo.map F.ev) (hi.map F.ev) (mx.map F.ev))
   |_=>none
  |.slice e=>do return .op (.i_ (<-aU P e) (F.ev x) (lo.map F.ev) (hi.map F.ev) (mx.map F.ev))
  |_=>none
 |.fieldAddr s x f=>do
  match<-P.underlying s with
  |.struct fields=>do
   let fd <-fields[f]?
   let n <-aU P fd.type
   if n=0 then none else return .op (.kA fd.offset (F.ev x))
  |_=>none
 |.field t x f=>do
  match<-P.underlying t with
  |.struct fields=>do
   let fd <-fields[f]?
   return .op (.part fd.offset (<-aU P fd.type) (<-eP P fd.type) (F.ev x))
  |_=>none
 |.indexAddr t x i=>do
  match<-P.underlying t with
  |.array n e=>do return .op (.zA n (<-aU P e) (F.ev x) (F.ev i))
  |.slice e=>do return .op (.cC (<-aU P e) (F.ev x) (F.ev i))
  |_=>none
 |.index t x i=>do
  match<-P.underlying t with
  |.array n e=>do return .op (.Ee n (<-aU P e) (<-eP P e) (F.ev x) (F.ev i))
  |_=>none
 |.lookup t m k ok=>do
  match<-P.underlying t with
  |.map kt e=>do
   let _ <-P.underlying kt
   return .op (.lookup kt ok (<-gT P e) (F.ev m) (F.ev k))
  |_=>none
 |.mapUpdate t m k v|.insert t m k v=>do
  match<-P.underlying t with
  |.map kt _=>do
   let _ <-P.underlying kt
   return .op (.uu kt (F.ev m) (F.ev k) (F.ev v))
  |_=>none
 |.typeAssert x _ t ok=>do
  match<-P.underlying t with
  |.interface _=>some (.op (.mh t true ok (gT P t) (F.ev x)))
  |_=>some (.op (.mh t false ok (gT P t) (F.ev x)))
 |.extract x i=>some (.op (.extract i (F.ev x)))
 |.call c=>match c.callee with
  |.value f=>some (.call (F.ev f) (c.args.toList.map F.ev))
  |.invoke r m=>some (.call (.fn (.method m) [] []) (F.ev r::c.args.toList.map F.ev))
  |.builtin b=>match b,c.args.toList,c.argTypes.toList with
   |.len,[x],[t]=>do
    match<-P.underlying t with
    |.array n _=>some (.val (.sc (.int .i64 n)))
    |.pointer arr=>do
     match<-P.underlying arr with
     |.array n _=>some (.val (.sc (.int .i64 n)))
     |_=>none
    |.slice _=>some (.op (.len false (F.ev x)))
    |.string=>some (.op (.len true (F.ev x)))
    |_=>none
   |.append,[s,x],[t,u]=>do
    match<-P.underlying t,<-P.underlying u with
    |.slice e,.slice _=>do
     let z <-fY P e
     let n <-aU P e
     let b <-iq P e
     if Nat.beq (ca z) n then some (.op (.append n b (F.ev s) (F.ev x))) else none
    |.slice e,.string=>do
     let z <-fY P e
     let n <-aU P e
     let b <-iq P e
     if Nat.beq (ca z) n then some (.op (.append n b (F.ev s) (F.ev x))) else none
    |_,_=>none
   |.max,xs,_=>some (.op (.nt true (xs.map F.ev)))
   |.min,xs,_=>some (.op (.nt false (xs.map F.ev)))
   |_,_,_=>none
 |_=>none
def bw:Op->Bool
 |.store ..|.mapUpdate ..|.insert ..=>true
 |.call c=>match c.callee with
  |.builtin b=>match b with
   |.append|.copy|.clear|.delete=>true
   |_=>false
  |_=>true
 |_=>false
def ux (P:Program):Op->Bool
 |.load ..|.lookup ..=>true
 |.call c=>match c.callee with
  |.builtin .len=>match(c.argTypes[0]?).bind P.underlying with
   |some (.map _ _)=>true
   |_=>false
  |_=>false
 |_=>false
inductive Step where
 |exec (i:Nat)
 |rN (i:Nat)
 deriving Inhabited
def MP (ops:Array Oper):List Nat:=(List.range ops.size).filter λi=>match ops[i]? with|some o=>bw o.op|none=>false
def C7 (b:Array Nat)(ya:List Nat)(i:Nat):Nat:=(ya.filter λe=>(b.getD i 0).testBit e).length
inductive xl where
 |one (i:Nat)
 |wA (i:Nat)(cs:List Nat)
def flat:List xl->List Step
 |[]=>[]
 |.one i::r=>.exec i::flat r
 |.wA i cs::r=>.exec i::(cs.map .rN++flat r)
def nA (P:Program)(ops:Array Oper)(i:Nat):Bool:=match ops[i]? with|some o=>ux P o.op|none=>false
def kF (ops:Array Oper)(i:Nat):Bool:=match ops[i]? with|some o=>bw o.op|none=>false
def zG (P:Program)(ops:Array Oper)(b:Array Nat)(ya:List Nat):Nat->List Nat->List xl
 |k,rest=>
  let now:=(List.range ops.size).filter λi=>!ya.contains i&&C7 b ya i==k
  now.map .one++
  match rest with
  |[]=>[]
  |e::rest=>.wA e ((List.range ops.size).filter λi=>nA P ops i&&Nat.ble (C7 b ya i) k&&!(b.getD e 0).testBit i)::zG P ops b ya (k+1) rest
def FU (x y:Nat):Bool:=Nat.beq (Nat.land x y) x
def looks (ops:Array Oper)(o:Oper):List Nat:=
 o.op.operands.toList.filterMap (λ|.tmp t=>some t|_=>none)++match o.guard with
  |some (j,_)=>((ops[j]?).bind (·.dst)).toList
  |none=>[]
def ja (ops:Array Oper)(b:Array Nat):Bool:=
 ops.toList.zipIdx.all λ(o,i)=>match o.dst with
  |none=>true
  |some d=>ops.toList.zipIdx.all λ(o',j)=>Nat.beq i j||!((o'.dst.toList++looks ops o').any (Nat.beq d))||(b.getD (max i j) 0).testBit (min i j)
def nB (ops:Array Oper)(b:Array Nat):Bool:=(List.range ops.size).all λi=>Nat.blt (b.getD i 0) (2^i)
def BE (P:Program)(ops:Array Oper)(b:Array Nat):List xl->Nat->Nat->Bool
 |[],done,_=>(List.range ops.size).all λi=>done.testBit i
 |.one i::r,done,em=>
  Nat.blt i ops.size&&!done.testBit i&&FU (b.getD i 0) done&&FU em (b.getD i 0)&&!kF ops i&&BE P ops b r (done|||2^i) em
 |.wA i cs::r,done,em=>
  Nat.blt i ops.size&&!done.testBit i&&FU (b.getD i 0) done&&FU em (b.getD i 0)&&kF ops i&&
  ((List.range ops.size).all λk=>!nA P ops k||!done.testBit k||(b.getD i 0).testBit k||cs.any (Nat.beq k))&&BE P ops b r (done|||2^i) (em|||2^i)
def py (P:Program)(ops:Array Oper)(draw:Bool):Option (List Step):=
 if draw then
  let b:=Region.before ops
  let ya:=MP ops
  let p:=zG P ops b ya 0 ya
  if P.follows .mixedOrders&&BE P ops b p 0 0&&ja ops b&&nB ops b then some (flat p) else none
 else some ((List.range ops.size).map .exec)
abbrev Reads:=List (Nat×Option (AV×Bool)×fK×AV)
def eW (i:Nat):Reads->Option (Option (AV×Bool)×fK×AV)
 |[]=>none
 |(j,r)::rest=>if Nat.beq j i then some r else eW i rest
def aD (P:Program)(ops:Array Oper):List Step->Fr->Reads->(Fr->AC)->AC
 |[],F,_,K=>K F
 |.rN i::rest,F,rs,K=>match eW i rs with
  |some (none,o,v)=>.rN o v (aD P ops rest F rs K)
  |some (some (g,b),o,v)=>.BB g b o v (aD P ops rest F rs K)
  |none=>.fail
 |.exec i::rest,F,rs,K=>match ops[i]? with
  |none=>aD P ops rest F rs K
  |some o=>match o.guard with
   |none=>match bZ P F o with
    |.val v=>aD P ops rest (F.put o.dst v) rs K
    |.op a=>.op a λv=>aD P ops rest (F.put o.dst v) ((i,none,a,v)::rs) K
    |.call f args=>.call f args λv=>aD P ops rest (F.put o.dst v) rs K
    |.bad=>.fail
   |some (j,b)=>match(ops[j]?).bind (·.dst) with
    |none=>.fail
    |some t=>
     let g:=F.at t
     match bZ P F o with
     |.val v=>.qh g b (.mv v) λv=>aD P ops rest (F.put o.dst v) rs K
     |.op a=>.qh g b a λv=>aD P ops rest (F.put o.dst v) ((i,some (g,b),a,v)::rs) K
     |.call f args=>.iQ g b f args λv=>aD P ops rest (F.put o.dst v) rs K
     |.bad=>.fail
def MQ (t:Nat)(l:List Nat):List Nat:=if l.contains t then l else t::l
def MR (vars:List Nat)(ops:Array Oper)(acc:List Nat):List Nat:=
 ops.toList.foldl (λacc o=>match o.dst with|some d=>if vars.contains d then MQ d acc else acc|none=>acc) acc
def qj (vars:List Nat):Code->List Nat->List Nat
 |.region _ ops _,acc=>MR vars ops acc
 |.seq a b,acc=>qj vars b (qj vars a acc)
 |.cond _ a b,acc=>qj vars b (qj vars a acc)
 |.block _ b,acc|.loop b,acc|.scope b,acc=>qj vars b acc
 |_,acc=>acc
def gR:Code->List Nat->List Nat
 |.region _ ops _,acc=>ops.toList.foldl (λacc o=>match o.dst with|some d=>d::acc|none=>acc) acc
 |.seq a b,acc=>gR b (gR a acc)
 |.cond _ a b,acc=>gR b (gR a acc)
 |.block _ b,acc|.loop b,acc|.scope b,acc=>gR b acc
 |_,acc=>acc
def dead:Code->Bool
 |.ret|.exit _|.goto _=>true
 |.seq a b=>dead a||dead b
 |.cond _ a b=>dead a&&dead b
 |_=>false
def eh:Code->Bool
 |.skip|.label _|.region _ _ _=>true
 |.seq a b=>eh a&&eh b
 |_=>false
def behind (F:Fr)(c:Code)(o:List Nat)(vs:List AV):Fr:=(F.drop (gR c [])).fI o 0 vs
def uy:Code->Bool
 |.region _ _ _=>true
 |_=>false
def pz (l:Nat):Code->Bool
 |.goto l'=>Nat.beq l l'
 |.seq a b=>pz l a||pz l b
 |.cond _ a b=>pz l a||pz l b
 |.block _ b|.loop b=>pz l b
 |_=>false
mutual
def den (P:Program)(vars:List Nat)(round:Bool)(gt:Option Nat):Code->Fr->List Nat->(Fr->AC)->AC
 |.skip,F,_,K=>K F
 |.label _,F,_,K=>K F
 |.region _ ops draw,F,_,K=>match py P ops draw with
  |some p=>aD P ops p F [] K
  |none=>.fail
 |.seq a b,F,out,K=>den P vars round gt a F out λF1=>den P vars round gt b F1 out K
 |.cond c a b,F,out,K=>
  if dead a||dead b then .ite (F.ev c) (den P vars round gt a F out K) (den P vars round gt b F out K)
  else
   let o:=qj vars (.cond c a b) []
   .bind (.ite (F.ev c) (den P vars round gt a F o λF1=>.ret .normal (F1.outs o)) (den P vars round gt b F o λF1=>.ret .normal (F1.outs o)))
    none (λvs=>K (behind F (.cond c a b) o vs)) (λvs=>(behind F (.cond c a b) o vs).outs out)
 |.block id c,F,out,K=>
  let o:=qj vars c []
  .bind (den P vars round gt c F o λF1=>.ret .normal (F1.outs o))
   (some (3*id)) (λvs=>K (behind F c o vs)) (λvs=>(behind F c o vs).outs out)
 |.loop c,F,out,_=>
  let o:=qj vars c []
  .loop (F.outs o) (λvs=>den P vars round gt c (behind F c o vs) o λF1=>.ret .normal (F1.outs o))
   (λvs=>(behind F c o vs).outs out)
 |.rangeFunc f ps assign body,F,out,K=>
  if round||!(eh assign) then .fail else
  .Ef ps.size (F.ev f) (λvs=>den P vars true none assign (F.fI ps.toList 1 vs) [] λF1=>.start (nth vs 0) (den P vars true none body F1 [] λ_=>.ret .normal []))
   (K F) (F.outs out)
 |.exit id,F,out,_=>.ret (.exit (3*id)) (F.outs out)
 |.goto l,F,out,_=>match gt with
  |some l'=>if Nat.beq l' l then .ret (.exit (3*l+1)) (F.outs out) else .fail
  |none=>.fail
 |.ret,F,out,_=>.ret .ret (F.outs out)
 |.scope (.seq r1 (.seq r2 (.seq r3 (.seq (.label l) d)))),F,out,K=>
  if !(pz l d&&uy r1&&uy r2&&uy r3) then den P vars round none (.seq r1 (.seq r2 (.seq r3 (.seq (.label l) d)))) F out K else
  let c:=Code.seq r1 (.seq r2 (.seq r3 (.seq (.label l) d)))
  let o:=qj vars c []
  .bind (.bind (den P vars round (some l) (.seq r1 (.seq r2 (.seq r3 (.seq (.label l) d)))) F o λF1=>.ret (.exit (3*l+2)) (F1.outs o))
    (some (3*l+1)) (λvs=>den P vars round none d (behind F c o vs) o λF1=>.ret (.exit (3*l+2)) (F1.outs o)) (λvs=>vs))
   (some (3*l+2)) (λvs=>K (behind F c o vs)) (λvs=>(behind F c o vs).outs out)
 |.scope c,F,out,K=>den P vars round none c F out K
 |.refuse _,_,_,_=>.fail
end
def dj (P:Program):List ResultVar->Nat->List AV->List AV->AC
 |[],_,_,acc=>.ret .ret acc
 |.tmp _::rs,i,vs,acc=>dj P rs (i+1) vs (acc++[nth vs i])
 |.cell _ t::rs,i,vs,acc=>match aU P t,eP P t with
  |some n,some g=>.op (.load n g (nth vs i)) λx=>dj P rs (i+1) vs (acc++[x])
  |_,_=>.fail
def ResultVar.slot:ResultVar->Nat
 |.tmp t=>t
 |.cell a _=>a
def lQ (ops:Array Oper):Option Call:=match ops.back? with
 |some o=>match o.guard,o.dst with
  |none,none=>match o.op with
   |.defer c=>some c
   |_=>none
  |_,_=>none
 |none=>none
def iI:Code->Option (Array Oper×Call)
 |.region _ ops false=>match lQ ops with
  |some c=>some (ops,c)
  |none=>none
 |_=>none
def fM:Code->Bool
 |.seq a b=>(iI a).isSome||fM b
 |_=>false
def fB (P:Program)(g:FuncId):Bool:=match P.funcs[g]? with
 |some fn=>match fn.body with
  |some c=>!fM c&&Nat.ble fn.params.size 2
  |none=>false
 |none=>false
def fits (n:Nat):Code->Bool
 |.region _ ops _=>ops.toList.all λo=>match o.dst with|some d=>Nat.blt d n|none=>true
 |.seq a b=>fits n a&&fits n b
 |.cond _ a b=>fits n a&&fits n b
 |.block _ b|.loop b|.scope b=>fits n b
 |.rangeFunc _ ps a b=>ps.toList.all (λp=>Nat.blt p n)&&fits n a&&fits n b
 |_=>true
def oV (P:Program)(vars:List Nat)(rs:List ResultVar)(out:List Nat):Code->Fr->AC
 |.seq a b,F=>match iI a with
  |some (ops,c)=>aD P ops ((List.range (ops.size-1)).map .exec) F [] λF1=>
   match c.callee with
   |.value f=>match F1.ev f with
    |.fn (.func g) fa fc=>
     if fB P g then .fin (den P vars false none b F1 out λF=>.ret .ret (F.outs out)) λvs=>
      .call (.fn (.func g) fa fc) (c.args.toList.map F1.ev) λ_=>dj P rs 0 vs []
     else .fail
    |_=>.fail
   |_=>.fail
  |none=>if eh a then den P vars false none a F [] λF1=>oV P vars rs out b F1 else .fail
 |_,_=>.fail
def uz:ResultVar->Bool
 |.tmp _=>true
 |_=>false
def fZ (P:Program)(fn:Func)(vars:List Nat)(args:List AV):AC:=
 match fn.body with
 |none=>.fail
 |some c=>
  if !(fits fn.ntmps c) then .fail else
  let out:=fn.results.toList.map ResultVar.slot
  let F0:=Fr.fI .e (List.range (fn.params.size+fn.nfree)) 0 args
  if fM c then oV P vars fn.results.toList out c F0
  else if fn.results.toList.all uz then den P vars false none c F0 out λF=>.ret .ret (F.outs out)
  else .fin (den P vars false none c F0 out λF=>.ret .ret (F.outs out)) λvs=>dj P fn.results.toList 0 vs []
theorem FV (x:Option AO):∀f k,k<f->∀j,gC (wH x f k) j=if j=k then x else none:=by
 intro f;induction f with
 |zero=>intro k h;omega
 |succ f ih=>
  intro k h j;cases k with
  |zero=>cases j with
   |zero=>rfl
   |succ j=>
    show(Bool.rec (gC .e (Nat.div j 2)) (gC .e (Nat.div j 2)) (Nat.beq (Nat.mod j 2) 0):Option AO)=_;cases Nat.beq (Nat.mod j 2) 0<;>simp<;>rfl
  |succ k=>
   have hk:k/2<f:=am;have QS:=ih (k/2) hk;show gC (Bool.rec (motive:=λ_=>T AO) (.n .e none (wH x f (Nat.div k 2))) (.n (wH x f (Nat.div k 2)) none .e) (Nat.beq (Nat.mod k 2) 0)) j=_;cases j with
   |zero=>cases Nat.beq (Nat.mod k 2) 0<;>simp<;>rfl
   |succ j=>
    have e1:(Nat.beq (Nat.mod k 2) 0=true)↔k%2=0:=Nat.beq_eq▸Iff.rfl;have e2:(Nat.beq (Nat.mod j 2) 0=true)↔j%2=0:=Nat.beq_eq▸Iff.rfl;cases hb:Nat.beq (Nat.mod k 2) 0<;>cases hc:Nat.beq (Nat.mod j 2) 0
    .show(Bool.rec (gC (wH x f (Nat.div k 2)) (Nat.div j 2)) (gC .e (Nat.div j 2)) (Nat.beq (Nat.mod j 2) 0):Option AO)=_;rw[hc];show gC (wH x f (k/2)) (j/2)=_;rw[QS];have:k%2≠0:=λh=>by rw[e1.2 h] at hb;cases hb
     have:j%2≠0:=λh=>by rw[e2.2 h] at hc;cases hc
     by_cases h2:j/2=k/2;.rw[if_pos h2,if_pos am]
     .rw[if_neg h2,if_neg am]
    .show(Bool.rec (gC (wH x f (Nat.div k 2)) (Nat.div j 2)) (gC .e (Nat.div j 2)) (Nat.beq (Nat.mod j 2) 0):Option AO)=_;rw[hc];have:k%2≠0:=λh=>by rw[e1.2 h] at hb;cases hb
     have:=e2.1 hc;rw[if_neg am];rfl
    .show(Bool.rec (gC .e (Nat.div j 2)) (gC (wH x f (Nat.div k 2)) (Nat.div j 2)) (Nat.beq (Nat.mod j 2) 0):Option AO)=_;rw[hc];have:=e1.1 hb;have:j%2≠0:=λh=>by rw[e2.2 h] at hc;cases hc
     rw[if_neg am];rfl
    .show(Bool.rec (gC .e (Nat.div j 2)) (gC (wH x f (Nat.div k 2)) (Nat.div j 2)) (Nat.beq (Nat.mod j 2) 0):Option AO)=_;rw[hc];show gC (wH x f (k/2)) (j/2)=_;rw[QS];have:=e1.1 hb;have:=e2.1 hc;by_cases h2:j/2=k/2;.rw[if_pos h2,if_pos am]
     .rw[if_neg h2,if_neg am]
theorem jA (l:T AO)(v:Option AO)(r:T AO)(j:Nat):gC (.n l v r) (j+1)=if j%2=0 then gC l (j/2) else gC r (j/2):=by
 show(Bool.rec (gC r (Nat.div j 2)) (gC l (Nat.div j 2)) (Nat.beq (Nat.mod j 2) 0):Option AO)=_;have e:(Nat.beq (Nat.mod j 2) 0=true)↔j%2=0:=Nat.beq_eq▸Iff.rfl;cases hc:Nat.beq (Nat.mod j 2) 0;.rw[if_neg (λh=>by rw[e.2 h] at hc;cases hc)];rfl
 .rw[if_pos (e.1 hc)];rfl
theorem uA (x:Option AO):∀(t:T AO) (k j:Nat),gC (Eg x t k) j=if j=k then x else gC t j:=by
 intro t;induction t with
 |e=>intro k j;exact FV x (k+1) k am j
 |n l v r il ir=>
  intro k j;cases k with
  |zero=>
   show gC (.n l x r) j=_;cases j with
   |zero=>rfl
   |succ j=>rw[jA,jA,if_neg (by omega:¬j+1=0)]
  |succ k=>
   show gC (Bool.rec (motive:=λ_=>T AO) (.n l v (Eg x r (Nat.div k 2))) (.n (Eg x l (Nat.div k 2)) v r) (Nat.beq (Nat.mod k 2) 0)) j=_;have e:(Nat.beq (Nat.mod k 2) 0=true)↔k%2=0:=Nat.beq_eq▸Iff.rfl;cases hc:Nat.beq (Nat.mod k 2) 0
   .have hk:k%2≠0:=λh=>by rw[e.2 h] at hc;cases hc
    show gC (.n l v (Eg x r (k/2))) j=_;cases j with
    |zero=>rfl
    |succ j=>
     rw[jA,jA];by_cases hj:j%2=0;.rw[if_pos hj,if_pos hj,if_neg am]
     .rw[if_neg hj,if_neg hj,ir];by_cases h2:j/2=k/2;.rw[if_pos h2,if_pos am]
      .rw[if_neg h2,if_neg am]
   .have hk:=e.1 hc;show gC (.n (Eg x l (k/2)) v r) j=_;cases j with
    |zero=>rfl
    |succ j=>
     rw[jA,jA];by_cases hj:j%2=0
     .rw[if_pos hj,if_pos hj,il];by_cases h2:j/2=k/2;.rw[if_pos h2,if_pos am]
      .rw[if_neg h2,if_neg am]
     .rw[if_neg hj,if_neg hj,if_neg am]
theorem AH.dc (S:AH)(i j:Nat)(o:AO):(S.set i o).get j=if j=i then some o else S.get j:=uA _ _ _ _
theorem AH.gU (S:AH)(i j:Nat):(S.kill i).get j=if j=i then none else S.get j:=uA _ _ _ _
theorem AH.cg (S:AH)(j:Nat)(o:AO):(S.new o).get j=if j=S.next then some o else S.get j:=uA _ _ _ _
@[simp] theorem AH.QT (S:AH) (i:Nat) (o:AO):(S.set i o).next=S.next:=rfl
@[simp] theorem AH.P7 (S:AH) (i:Nat):(S.kill i).next=S.next:=rfl
@[simp] theorem AH.QU (S:AH) (o:AO):(S.new o).next=S.next+1:=rfl
namespace T
variable{α:Type}
theorem FW:∀(f:Nat) (t:T α) (k:Nat) (x:Option α),k<f->∀j,(qv f t k x).get j=if j=k then x else t.get j:=by
 intro f;induction f with
 |zero=>intro t k x h;omega
 |succ f ih=>
  intro t k x h j;have eb:∀m:Nat,(Nat.beq (Nat.mod m 2) 0=true)↔m%2=0:=λm=>Nat.beq_eq▸Iff.rfl;cases t with
  |e=>
   cases k with
   |zero=>cases j with
    |zero=>rfl
    |succ j=>simp only[qv,get];split<;>simp
   |succ k=>
    have hk:k/2<f:=am;have QS:=ih .e (k/2) x hk;simp only[qv];by_cases hp:k%2=0
    .rw[if_pos ((eb k).2 hp)];cases j with
     |zero=>simp[get]
     |succ j=>
      simp only[get];by_cases hq:j%2=0
      .rw[if_pos ((eb j).2 hq)];show(qv f T.e (k/2) x).get (j/2)=_;rw[QS];by_cases h2:j/2=k/2;.rw[if_pos h2,if_pos am]
       .rw[if_neg h2,if_neg am];rfl
      .rw[if_neg (λh=>hq ((eb j).1 h)),if_neg am]
    .rw[if_neg (λh=>hp ((eb k).1 h))];cases j with
     |zero=>simp[get]
     |succ j=>
      simp only[get];by_cases hq:j%2=0;.rw[if_pos ((eb j).2 hq),if_neg am]
      .rw[if_neg (λh=>hq ((eb j).1 h))];show(qv f T.e (k/2) x).get (j/2)=_;rw[QS];by_cases h2:j/2=k/2;.rw[if_pos h2,if_pos am]
       .rw[if_neg h2,if_neg am];rfl
  |n l v r=>
   cases k with
   |zero=>cases j with
    |zero=>rfl
    |succ j=>simp only[qv,get];simp
   |succ k=>
    have hk:k/2<f:=am;simp only[qv];by_cases hp:k%2=0
    .rw[if_pos ((eb k).2 hp)];cases j with
     |zero=>simp[get]
     |succ j=>
      simp only[get];by_cases hq:j%2=0
      .rw[if_pos ((eb j).2 hq),if_pos ((eb j).2 hq)];show(qv f l (k/2) x).get (j/2)=_;rw[ih l (k/2) x hk];by_cases h2:j/2=k/2;.rw[if_pos h2,if_pos am]
       .rw[if_neg h2,if_neg am];rfl
      .rw[if_neg (λh=>hq ((eb j).1 h)),if_neg (λh=>hq ((eb j).1 h)),if_neg am]
    .rw[if_neg (λh=>hp ((eb k).1 h))];cases j with
     |zero=>simp[get]
     |succ j=>
      simp only[get];by_cases hq:j%2=0;.rw[if_pos ((eb j).2 hq),if_pos ((eb j).2 hq),if_neg am]
      .rw[if_neg (λh=>hq ((eb j).1 h)),if_neg (λh=>hq ((eb j).1 h))];show(qv f r (k/2) x).get (j/2)=_;rw[ih r (k/2) x hk];by_cases h2:j/2=k/2;.rw[if_pos h2,if_pos am]
       .rw[if_neg h2,if_neg am];rfl
theorem dc (t:T α)(k:Nat)(x:α)(j:Nat):(t.set k x).get j=if j=k then some x else t.get j:=FW (k+1) t k (some x) am j
end T
theorem oF:∀(l:List AV) (i:Nat),zE l i=l[i]?
 |[],i=>by simp;rfl
 |v::r,0=>rfl
 |v::r,i+1=>by show zE r i=_;rw[oF r i];simp
theorem eo:∀(n:Nat) (l:List AV),kB n l=l.drop n
 |0,l=>rfl
 |n+1,[]=>rfl
 |n+1,v::r=>by show kB n r=_;rw[eo n r];rfl
theorem dK:∀(n:Nat) (l:List AV),kC n l=l.take n
 |0,l=>rfl
 |n+1,[]=>rfl
 |n+1,v::r=>by show v::kC n r=_;rw[dK n r];rfl
theorem bK:∀(l:List AV),ca l=l.length
 |[]=>rfl
 |v::r=>by show Nat.succ (ca r)=_;rw[bK r];rfl
theorem gB:∀(a b:List AV),jH a b=a++b
 |[],b=>rfl
 |v::r,b=>by show v::jH r b=_;rw[gB r b];rfl
theorem cr (c:List AV)(off:Nat)(vs:List AV):bu c off vs=c.take off++(vs++c.drop (off+vs.length)):=by simp[bu,gB,dK,eo,bK]
theorem FX:∀(l:List AV) (i:Nat),nth l i=(l[i]?).getD .no
 |[],i=>by simp[nth]
 |v::r,0=>by simp[nth]
 |v::r,i+1=>by simp[nth,FX r i]
theorem iu {x:AV}{k:IntKind}{n:Int}(h:asInt x=some (k,n)):x=.sc (.int k n):=by
 cases x<;>first|(cases h;done)|skip
 rename_i v;cases v<;>first|(cases h;done)|(cases h;rfl)
@[simp] theorem P8 (k:IntKind) (n:Int):asInt (.sc (.int k n))=some (k,n):=rfl
theorem kG {x:AV}{b:Bool}(h:asBool x=some b):x=.sc (.bool b):=by
 cases x<;>first|(cases h;done)|skip
 rename_i v;cases v<;>first|(cases h;done)|(cases h;rfl)
@[simp] theorem LL (b:Bool):asBool (.sc (.bool b))=some b:=rfl
theorem gD {x:AV}{i o:Nat}(h:iR x=some (i,o)):x=.ptr i o:=by
 cases x<;>first|(cases h;done)|(cases h;rfl)
@[simp] theorem P9 (i o:Nat):iR (.ptr i o)=some (i,o):=rfl
theorem uB {x:AV}{l:List AV}(h:asAgg x=some l):x=.agg l:=by
 cases x<;>first|(cases h;done)|(cases h;rfl)
@[simp] theorem P_ (l:List AV):asAgg (.agg l)=some l:=rfl
theorem BF {x:AV}{l:List AV}(h:CV x=some l):x=.ed l:=by
 cases x<;>first|(cases h;done)|(cases h;rfl)
@[simp] theorem Qa (l:List AV):CV (.ed l)=some l:=rfl
theorem FY (x:AV):x.cells=match x with|.agg cs=>cs|v=>[v]:=by cases x<;>rfl
theorem yb (x:AV):odd x=match x with|.no|.ed _=>true|_=>false:=by cases x<;>rfl
theorem BG {o:AO}{l:List AV}(h:LH o=some l):o=.row l:=by
 cases o<;>first|(cases h;done)|(cases h;rfl)
theorem yc {o:AO}{l:List AV}(h:CW o=some l):o=.row l\/o=.ro l:=by
 cases o<;>first|(cases h;done)|(cases h;first|exact .inl rfl|exact .inr rfl)
theorem BH (j k:IntKind):ml j k=true↔j=k:=by
 cases j<;>cases k<;>decide
theorem nC {j k:IntKind}(h:ml j k=true):j=k:=(BH j k).1 h
theorem gj (a b:Int):Eh a b=decide (a<b):=by
 have h:∀m n:Nat,Nat.ble (Nat.succ m) n=decide (m<n):=λm n=>by rw[Bool.eq_iff_iff,Nat.ble_eq,decide_eq_true_iff];exact Iff.rfl
 cases a with
 |ofNat a=>cases b with
  |ofNat b=>show Nat.ble (Nat.succ a) b=_;rw[h,Bool.eq_iff_iff];simp
  |negSucc b=>show false=_;symm;rw[decide_eq_false_iff_not];simp only[Int.negSucc_eq,Int.ofNat_eq_natCast];omega
 |negSucc a=>cases b with
  |ofNat b=>show true=_;symm;rw[decide_eq_true_iff];simp only[Int.negSucc_eq,Int.ofNat_eq_natCast];omega
  |negSucc b=>show Nat.ble (Nat.succ b) a=_;rw[h,Bool.eq_iff_iff,decide_eq_true_iff,decide_eq_true_iff];simp only[Int.negSucc_eq];omega
theorem gl (a b:Int):FN a b=(a==b):=by
 have h:∀m n:Nat,Nat.beq m n=decide (m=n):=λm n=>by rw[Bool.eq_iff_iff,Nat.beq_eq,decide_eq_true_iff]
 cases a with
 |ofNat a=>cases b with
  |ofNat b=>show Nat.beq a b=_;rw[h,Bool.eq_iff_iff];simp;omega
  |negSucc b=>show false=_;symm;rw[beq_eq_false_iff_ne];simp
 |negSucc a=>cases b with
  |ofNat b=>show false=_;symm;rw[beq_eq_false_iff_ne];simp
  |negSucc b=>show Nat.beq a b=_;rw[h,Bool.eq_iff_iff];simp
theorem ye (k:IntKind)(a:Nat)(hle:a<=FM k):k.wrap (Int.ofNat a)=Int.ofNat a:=by
 have hm:(Int.ofNat a)%(2^k.bits:Int)=Int.ofNat a:=by
  cases k<;>(simp only[IntKind.bits,Int.ofNat_eq_natCast];refine Int.emod_eq_of_lt am ?_)<;>(have:a<=_:=hle;simp only[FM] at this;omega)
 have hs:(k.signed&&decide (Int.ofNat a≥(2^(k.bits-1):Int)))=false:=by
  clear hm;cases k<;>first|rfl|(show decide _=false;refine decide_eq_false ?_;have:a<=_:=hle;simp only[FM] at this;simp only[IntKind.bits,Int.ofNat_eq_natCast];omega)
 unfold IntKind.wrap;simp only[hm,hs];simp
theorem bx (k:IntKind)(n:Int):fL k n=k.wrap n:=by
 cases n with
 |negSucc a=>rfl
 |ofNat a=>
  simp only[fL];cases h:Nat.ble a (FM k) with
  |false=>rfl
  |true=>exact(ye k a (Nat.le_of_ble_eq_true h)).symm
theorem Ek {n:Int}{a:Nat}(h:nat? n=some a):n=a:=by cases n<;>simp[nat?] at h;simp[h]
theorem lR {i:AV}{n a:Nat}(h:pq i n=some a):∃k,i=.sc (.int k (a:Int))/\a<n:=by
 unfold pq at h;cases hi:asInt i with
 |none=>simp[hi] at h
 |some kn=>
  obtain⟨k,m⟩:=kn;simp only[hi] at h;cases hm:nat? m with
  |none=>simp[hm] at h
  |some b=>
   simp only[hm,below] at h;cases hb:Nat.ble (Nat.succ b) n with
   |false=>simp[hb] at h
   |true=>simp only[hb,Option.some.injEq] at h;subst h;have:=Ek hm;subst this;exact⟨k,iu hi,Nat.le_of_ble_eq_true hb⟩
theorem xm {i:AV}{n a:Nat}(h:JK i n=some a):∃k,i=.sc (.int k (a:Int))/\a<=n:=by obtain⟨k,e,h⟩:=lR h;exact⟨k,e,Nat.le_of_lt_succ h⟩
section
class km where
 val:Nat->Value
 one:∀i,(val i).oneCell'=true
instance(priority:=low) km.none:km:=⟨λ_=>.bool true,λ_=>rfl⟩
variable[km]
abbrev Ren:=Nat->Option (Nat×Nat×Nat)
def Ren.le (ρ aZ:Ren):Prop:=∀id x,ρ id=some x->aZ id=some x
theorem Ren.le_refl (ρ:Ren):ρ.le ρ:=λ_ _ h=>h
theorem Ren.le_trans {a b c:Ren}(h:a.le b)(k:b.le c):a.le c:=λ_ _ x=>k _ _ (h _ _ x)
def Ren.put (ρ:Ren)(i:Nat)(x:Nat×Nat×Nat):Ren:=λj=>if j=i then some x else ρ j
theorem Ren.k9 {ρ:Ren}{i:Nat}{x:Nat×Nat×Nat}(h:ρ i=none):ρ.le (ρ.put i x):=by
 intro j y hy;unfold Ren.put;split;.next e=>subst e;rw[h] at hy;cases hy
 .exact hy
@[simp] theorem Ren.bI (ρ:Ren) (i:Nat) (x:Nat×Nat×Nat):ρ.put i x i=some x:=by simp[Ren.put]
theorem Ren.aO (ρ:Ren){i j:Nat}(x:Nat×Nat×Nat)(h:j≠i):ρ.put i x j=ρ j:=by simp[Ren.put,h]
def FZ:Fn->Bool
 |.func _|.method _=>true
 |_=>false
mutual
inductive V (ρ:Ren):AV->Value->Prop
 |sc {v:Value}(h:scalar v=true):V ρ (.sc v) v
 |ptr {id b o l off:Nat}(h:ρ id=some (b,o,l)):V ρ (.ptr id off) (.pointer (some ⟨b,o+off,none⟩))
 |sl {id b o l off len cap:Nat}(h:ρ id=some (b,o,l)):V ρ (.sl id off len cap) (.slice (some ⟨b,o+off,none⟩) len cap)
 |op {id b o l off len cH cap es:Nat}(h:ρ id=some (b,o,l))(h0:len<=cH)(h1:cH<=cap)(h2:o+off+cap*es<=l):
   V ρ (.op id off len cH es) (.slice (some ⟨b,o+off,none⟩) len cap)
 |zH {id b o l off x es:Nat}(h:ρ id=some (b,o,l)):V ρ (.op id off 0 0 es) (.slice (some ⟨b,x,none⟩) 0 0)
 |map {id b o l:Nat}(h:ρ id=some (b,o,l)):V ρ (.map id) (.map (some b))
 |fn {f:Fn}{a c:List AV}{a' c':List Value}(hf:FZ f=true)(h1:VL ρ a a')(h2:VL ρ c c'):V ρ (.fn f a c) (.func f a'.toArray c'.toArray)
 |yd {id b o l:Nat}(h:ρ id=some (b,o,l)):V ρ (.yd id) (.func (.yield b) #[] #[])
 |iface {t:TypeId}{v:AV}{x:Value}(h:V ρ v x):V ρ (.iface t v) (.iface t x)
 |agg {cs:List AV}{xs:List Value}(h:VL ρ cs xs)(h1:∀x∈xs,x.oneCell'=true):V ρ (.agg cs) (.agg xs.toArray)
 |ed {cs:List AV}{xs:List Value}(h:VL ρ cs xs):V ρ (.ed cs) (.tuple xs.toArray)
 |no {x:Value}:V ρ .no x
 |tok {i:Nat}:V ρ (.tok i) (km.val i)
inductive VL (ρ:Ren):List AV->List Value->Prop
 |nil:VL ρ [] []
 |cons {v:AV}{x:Value}{vs:List AV}{xs:List Value}(h:V ρ v x)(r:VL ρ vs xs):VL ρ (v::vs) (x::xs)
end
mutual
theorem V.mono {ρ aZ:Ren}(hl:ρ.le aZ):∀{v:AV} {x:Value},V ρ v x->V aZ v x
 |_,_,.sc h=>.sc h
 |_,_,.ptr h=>.ptr (hl _ _ h)
 |_,_,.sl h=>.sl (hl _ _ h)
 |_,_,.op h h0 h1 h2=>.op (hl _ _ h) h0 h1 h2
 |_,_,.zH h=>.zH (hl _ _ h)
 |_,_,.map h=>.map (hl _ _ h)
 |_,_,.fn hf h1 h2=>.fn hf (VL.mono hl h1) (VL.mono hl h2)
 |_,_,.yd h=>.yd (hl _ _ h)
 |_,_,.iface h=>.iface (V.mono hl h)
 |_,_,.agg h h1=>.agg (VL.mono hl h) h1
 |_,_,.ed h=>.ed (VL.mono hl h)
 |_,_,.no=>.no
 |_,_,.tok=>.tok
theorem VL.mono {ρ aZ:Ren}(hl:ρ.le aZ):∀{v:List AV} {x:List Value},VL ρ v x->VL aZ v x
 |_,_,.nil=>.nil
 |_,_,.cons h r=>.cons (V.mono hl h) (VL.mono hl r)
end
theorem VL.length {ρ:Ren}:∀{a:List AV} {b:List Value},VL ρ a b->a.length=b.length
 |_,_,.nil=>rfl
 |_,_,.cons _ r=>by simp[VL.length r]
theorem VL.get {ρ:Ren}:∀{a:List AV} {b:List Value},VL ρ a b->∀{i:Nat} {v:AV},a[i]?=some v->∃x,b[i]?=some x/\V ρ v x
 |_,_,.nil,i,v,h=>by simp at h
 |_,_,.cons h r,0,v,e=>by simp at e;subst e;exact⟨_,rfl,h⟩
 |_,_,.cons h r,i+1,v,e=>by simp at e;obtain⟨x,e1,e2⟩:=VL.get r e;exact⟨x,by simpa using e1,e2⟩
theorem VL.yf {ρ:Ren}:∀{a:List AV} {b:List Value},a.length=b.length->(∀(i:Nat) (v:AV) (x:Value),a[i]?=some v->b[i]?=some x->V ρ v x)->VL ρ a b
 |[],[],_,_=>.nil
 |[],_::_,h,_=>by simp at h
 |_::_,[],h,_=>by simp at h
 |v::a,x::b,h,g=>.cons (g 0 v x rfl rfl) (VL.yf (by simpa using h) λi v x h1 h2=>g (i+1) v x (by simpa using h1) (by simpa using h2))
theorem VL.append {ρ:Ren}:∀{a:List AV} {b:List Value} {c:List AV} {d:List Value},VL ρ a b->VL ρ c d->VL ρ (a++c) (b++d)
 |_,_,_,_,.nil,k=>k
 |_,_,_,_,.cons h r,k=>.cons h (VL.append r k)
theorem VL.take {ρ:Ren}:∀(n:Nat) {a:List AV} {b:List Value},VL ρ a b->VL ρ (a.take n) (b.take n)
 |0,_,_,_=>by simpa using VL.nil
 |n+1,_,_,.nil=>.nil
 |n+1,_,_,.cons h r=>.cons h (VL.take n r)
theorem VL.drop {ρ:Ren}:∀(n:Nat) {a:List AV} {b:List Value},VL ρ a b->VL ρ (a.drop n) (b.drop n)
 |0,_,_,h=>h
 |n+1,_,_,.nil=>.nil
 |n+1,_,_,.cons h r=>VL.drop n r
theorem VL.nth {ρ:Ren}{a:List AV}{b:List Value}(h:VL ρ a b)(i:Nat)(d:Value):V ρ (nth a i) (b.getD i d):=by
 rw[FX];cases e:a[i]? with
 |none=>exact .no
 |some v=>obtain⟨x,e1,e2⟩:=h.get e;simpa[List.getD,e1] using e2
theorem V.fC {ρ:Ren}{k:IntKind}{n:Int}{x:Value}(h:V ρ (.sc (.int k n)) x):x=.int k n:=by cases h;rfl
theorem V.zI {ρ:Ren}{b:Bool}{x:Value}(h:V ρ (.sc (.bool b)) x):x=.bool b:=by cases h;rfl
theorem V.gn {ρ:Ren}{v x:Value}(h:V ρ (.sc v) x):x=v/\scalar v=true:=by cases h with|sc h=>exact⟨rfl,h⟩
theorem V.kH {ρ:Ren}{i off:Nat}{x:Value}(h:V ρ (.ptr i off) x):∃b o l,ρ i=some (b,o,l)/\x=.pointer (some ⟨b,o+off,none⟩):=by
 cases h with|ptr h=>exact⟨_,_,_,h,rfl⟩
theorem V.yg {ρ:Ren}{cs:List AV}{x:Value}(h:V ρ (.agg cs) x):∃xs:List Value,x=.agg xs.toArray/\VL ρ cs xs/\∀x∈xs,x.oneCell'=true:=by
 cases h with|agg h h1=>exact⟨_,rfl,h,h1⟩
theorem V.JL {ρ:Ren}{cs:List AV}{x:Value}(h:V ρ (.ed cs) x):∃xs:List Value,x=.tuple xs.toArray/\VL ρ cs xs:=by
 cases h with|ed h=>exact⟨_,rfl,h⟩
theorem V.bool (ρ:Ren)(b:Bool):V ρ (.sc (.bool b)) (.bool b):=.sc rfl
theorem V.int (ρ:Ren)(k:IntKind)(n:Int):V ρ (.sc (.int k n)) (.int k n):=.sc rfl
theorem V.uv (ρ:Ren):V ρ uv undef:=.ed .nil
theorem V.one {ρ:Ren}{v:AV}{x:Value}(h:V ρ v x)(ho:odd v=false)(ha:∀cs,v≠.agg cs):x.oneCell'=true:=by
 cases h with
 |sc h=>cases x<;>first|rfl|(simp[scalar] at h)
 |agg h h1=>exact absurd rfl (ha _)
 |ed h=>rw[yb] at ho;cases ho
 |no=>rw[yb] at ho;cases ho
 |tok=>exact km.one _
 |_=>rfl
theorem V.yh {ρ:Ren}{v:AV}{x:Value}(h:V ρ v x)(ho:odd v=false):VL ρ v.cells x.cells.toList/\∀y∈x.cells.toList,y.oneCell'=true:=by
 rw[FY];cases h with
 |agg h h1=>exact⟨by simpa[Value.cells] using h,by simpa[Value.cells] using h1⟩
 |ed h=>rw[yb] at ho;cases ho
 |no=>rw[yb] at ho;cases ho
 |sc h=>
  have h1:=V.one (ρ:=ρ) (.sc h) rfl ac;have hc:x.cells=#[x]:=by cases x<;>first|rfl|(simp[scalar] at h)
  rw[hc];exact⟨.cons (.sc h) .nil,by simpa using h1⟩
 |ptr h=>exact⟨.cons (.ptr h) .nil,by simp[Value.cells,Value.oneCell']⟩
 |sl h=>exact⟨.cons (.sl h) .nil,by simp[Value.cells,Value.oneCell']⟩
 |op h z a b=>exact⟨.cons (.op h z a b) .nil,by simp[Value.cells,Value.oneCell']⟩
 |zH h=>exact⟨.cons (.zH h) .nil,by simp[Value.cells,Value.oneCell']⟩
 |map h=>exact⟨.cons (.map h) .nil,by simp[Value.cells,Value.oneCell']⟩
 |fn hf a b=>exact⟨.cons (.fn hf a b) .nil,by simp[Value.cells,Value.oneCell']⟩
 |yd h=>exact⟨.cons (.yd h) .nil,by simp[Value.cells,Value.oneCell']⟩
 |iface h=>exact⟨.cons (.iface h) .nil,by simp[Value.cells,Value.oneCell']⟩
 |@tok i=>
  have h1:=km.one i;have h2:V ρ (.tok i) (km.val i):=.tok;generalize km.val i=x at h1 h2⊢;have hc:x.cells=#[x]:=by cases x<;>first|rfl|(simp[Value.oneCell'] at h1)
  rw[hc];exact⟨.cons h2 .nil,by simpa using h1⟩
theorem jJ {ρ:Ren}{f:Value->Option AV}(hf:∀v a,f v=some a->V ρ a v):∀{l:List Value} {as:List AV},qw f l=some as->VL ρ as l
 |[],as,h=>by simp[qw] at h;subst h;exact .nil
 |v::r,as,h=>by
  simp only[qw] at h;cases h1:f v with
  |none=>simp[h1] at h
  |some a=>
   cases h2:qw f r with
   |none=>simp[h1,h2] at h
   |some b=>simp[h1,h2] at h;subst h;exact .cons (hf _ _ h1) (jJ hf h2)
theorem zJ {ρ:Ren}{f:Value->Option AV}(hf:∀v a,f v=some a->V ρ a v):∀{l:List Value} {as:List AV},qw (λv=>one? (f v)) l=some as->∀x∈l,x.oneCell'=true
 |[],as,h,x,hx=>by simp at hx
 |v::r,as,h,x,hx=>by
  simp only[qw] at h;cases h1:one? (f v) with
  |none=>simp[h1] at h
  |some a=>
   cases h2:qw (λv=>one? (f v)) r with
   |none=>simp[h1,h2] at h
   |some b=>
    rcases List.mem_cons.1 hx with rfl|hx
    .cases h3:f x with
     |none=>rw[h3] at h1;simp[one?] at h1
     |some c=>
      rw[h3] at h1;have hv:=hf _ _ h3;refine hv.one ?_ ?_;.cases c<;>first|rfl|(simp[one?] at h1)
      .intro cs e;subst e;simp[one?] at h1
    .exact zJ hf h2 x hx
theorem El {o:Option AV}{a:AV}(h:one? o=some a):o=some a:=by
 unfold one? at h;split at h<;>first|(cases h;done)|exact h
theorem lS {ρ:Ren}:∀{n:Nat} {v:Value} {a:AV},tn n v=some a->V ρ a v:=by
 intro n;induction n with
 |zero=>intro v a h;simp[tn] at h
 |succ n ih=>
  intro v a h;cases v with
  |agg cs=>
   simp only[tn,Option.map_eq_some_iff] at h;obtain⟨l,hl,rfl⟩:=h;have h1:=jJ (ρ:=ρ) (f:=λv=>one? (tn n v)) (λv a h=>ih (El h)) hl;have h2:=zJ (ρ:=ρ) (f:=tn n) (λv a h=>ih h) hl;have:=V.agg h1 h2;simpa using this
  |tuple cs=>
   simp only[tn,Option.map_eq_some_iff] at h;obtain⟨l,hl,rfl⟩:=h;have:=V.ed (jJ (ρ:=ρ) (λv a h=>ih h) hl);simpa using this
  |iface t v=>
   simp only[tn,Option.map_eq_some_iff] at h;obtain⟨x,hx,rfl⟩:=h;exact .iface (ih hx)
  |func f a b=>
   cases f with
   |func f=>
    simp only[tn] at h;cases h1:qw (tn n) a.toList with
    |none=>simp[h1] at h
    |some a'=>
     cases h2:qw (tn n) b.toList with
     |none=>simp[h1,h2] at h
     |some b'=>
      simp[h1,h2] at h;subst h;have:=V.fn (ρ:=ρ) (f:=.func f) rfl (jJ (λv a h=>ih h) h1) (jJ (λv a h=>ih h) h2);simpa using this
   |_=>simp[tn,scalar] at h
  |_=>simp only[tn] at h;split at h<;>first|(cases h;done)|(next hs=>cases h;exact .sc hs)
mutual
theorem jB {ρ:Ren}:∀{a:AV} {v x:Value},qi a=some v->V ρ a x->x=v
 |.sc u,v,x,h,hv=>by simp[qi] at h;rw[<-h];exact hv.gn.1
 |.agg cs,v,x,h,hv=>by
  simp only[qi,Option.map_eq_some_iff] at h;obtain⟨l,hl,rfl⟩:=h;obtain⟨xs,rfl,h1,_⟩:=hv.yg;rw[uC hl h1]
 |.iface t u,v,x,h,hv=>by
  simp only[qi,Option.map_eq_some_iff] at h;obtain⟨l,hl,rfl⟩:=h;cases hv with|iface hv=>rw[jB hl hv]
 |.ptr ..,v,x,h,hv=>by simp[qi] at h
 |.sl ..,v,x,h,hv=>by simp[qi] at h
 |.op ..,v,x,h,hv=>by simp[qi] at h
 |.map ..,v,x,h,hv=>by simp[qi] at h
 |.fn ..,v,x,h,hv=>by simp[qi] at h
 |.yd ..,v,x,h,hv=>by simp[qi] at h
 |.ed ..,v,x,h,hv=>by simp[qi] at h
 |.no,v,x,h,hv=>by simp[qi] at h
theorem uC {ρ:Ren}:∀{a:List AV} {v x:List Value},tp a=some v->VL ρ a x->x=v
 |[],v,x,h,hv=>by simp[tp] at h;cases hv;exact h.symm▸rfl
 |a::r,v,x,h,hv=>by
  simp only[tp] at h;cases h1:qi a with
  |none=>simp[h1] at h
  |some b=>
   cases h2:tp r with
   |none=>simp[h1,h2] at h
   |some c=>
    simp[h1,h2] at h;subst h;cases hv with|cons hv hr=>rw[jB h1 hv,uC h2 hr]
end
theorem gr {α:Type}{P:Program}:∀{s:Sem α} {a:α},bj P s=some a->∀w,s.run P w=.ok a w:=by
 intro s;induction s with
 |pure a=>intro b h w;simp[bj] at h;subst h;rfl
 |program k ih=>intro b h w;exact ih P h w
 |mark m k ih=>intro b h w;exact ih h w
 |_=>intro b h w;simp[bj] at h
end
section
variable[km]
def pC:AO->Bool
 |.ro _=>true
 |_=>false
def FR (ρ:Ren)(F:Fr)(tmps:Array Value):Prop:=∀t,V ρ (F.at t) (tmps.getD t undef)
def LM:Option Tag->Option Code->Prop
 |none,none=>True
 |some .ret,some .ret=>True
 |some (.exit i),some (.exit j)=>i=3*j
 |_,_=>False
def F4 (P:Program)(ρ:Ren)(r:Loop)(body:List AV->AC):Prop:=
 ∃(F:Fr) (vars:List Nat),FR ρ F r.tmps/\eh r.assign=true/\fits r.tmps.size r.assign=true/\fits r.tmps.size r.body=true/\(∀p∈r.params.toList,p<r.tmps.size)/\
  body=λvs=>den P vars true none r.assign (F.fI r.params.toList 1 vs) [] λF1=>.start (nth vs 0) (den P vars true none r.body F1 [] λ_=>.ret .normal [])
def OR (P:Program)(ρ:Ren)(w:World)(b o l:Nat):AO->Prop
 |.row cs=>∃(c:Array Value) (e:TypeId),w.heap[b]?=some (.cells c e (0,0))/\c.size=l/\o+cs.length<=l/\
   ∀(i:Nat) v,cs[i]?=some v->∃x,c[o+i]?=some x/\V ρ v x/\x.oneCell'=true
 |.ro cs=>∀(i:Nat) v,cs[i]?=some v->∃x,w.cell? ⟨b,o+i,none⟩=some x/\V ρ v x/\x.oneCell'=true
 |.map es=>∃(gJ:Array MapEntry) (clock:Nat),w.heap[b]?=some (.map gJ clock)/\gJ.size=es.length/\
   ∀(i:Nat) k v,es[i]?=some (k,v)->∃e,gJ[i]?=some e/\e.key=k/\V ρ v e.val
 |.loop st dI n body=>∃r:Loop,w.heap[b]?=some (.loop r)/\r.state=st/\LM dI r.pending/\r.params.size=n/\F4 P ρ r body
structure R (P:Program)(ρ:Ren)(S:AH)(w:World):Prop where
 jb:∀{id ob b o l},S.get id=some ob->ρ id=some (b,o,l)->OR P ρ w b o l ob
 inj:∀{i j oi oj b o l o' l'},S.get i=some oi->S.get j=some oj->ρ i=some (b,o,l)->ρ j=some (b,o',l')->(pC oi=false\/pC oj=false)->i=j
 tq:∀{id x},ρ id=some x->id<S.next
 o0:∀{id b o l},ρ id=some (b,o,l)->b<w.heap.size
 wf:∀{id ob},S.get id=some ob->id<S.next
def zK (S:AH)(ρ:Ren)(b:Nat):Prop:=∃id ob o l,S.get id=some ob/\pC ob=false/\ρ id=some (b,o,l)
structure Ext (ρ:Ren)(S:AH)(w:World)(aZ:Ren)(S':AH)(w':World):Prop where
 wK:ρ.le aZ
 next:S.next<=S'.next
 nD:∀id x,ρ id=none->aZ id=some x->S.next<=id
 jc:∀id,ρ id=none->id<S.next->S'.get id=S.get id
 os:w'.os=w.os
 tape:w'.tape=w.tape
 output:w'.output=w.output
 size:w.heap.size<=w'.heap.size
 frame:∀b,b<w.heap.size->¬zK S ρ b->w'.heap[b]?=w.heap[b]?
 owned:∀b,b<w.heap.size->zK S' aZ b->zK S ρ b
theorem Ext.refl (ρ:Ren)(S:AH)(w:World):Ext ρ S w ρ S w:=
 ⟨Ren.le_refl _,Nat.le_refl _,λid x h1 h2=>by(rw[h1] at h2;cases h2),λ_ _ _=>rfl,rfl,rfl,rfl,Nat.le_refl _,λ_ _ _=>rfl,λ_ _ h=>h⟩
theorem Ext.trans {ρ aZ JM:Ren}{S S' U1:AH}{w w' yi:World}(h:Ext ρ S w aZ S' w')(k:Ext aZ S' w' JM U1 yi):Ext ρ S w JM U1 yi where
 wK:=Ren.le_trans h.wK k.wK
 next:=Nat.le_trans h.next k.next
 nD:=λid x h1 h2=>by
  cases e:aZ id with
  |some y=>exact h.nD id y h1 e
  |none=>exact Nat.le_trans h.next (k.nD id x e h2)
 jc:=λid h1 h2=>by
  have e:aZ id=none:=by
   cases e:aZ id with
   |none=>rfl
   |some y=>have:=h.nD id y h1 e;omega
  rw[k.jc id e (Nat.lt_of_lt_of_le h2 h.next),h.jc id h1 h2]
 os:=k.os.trans h.os
 tape:=k.tape.trans h.tape
 output:=k.output.trans h.output
 size:=Nat.le_trans h.size k.size
 frame:=λb h1 h2=>by rw[k.frame b (Nat.lt_of_lt_of_le h1 h.size) (λho=>h2 (h.owned b h1 ho)),h.frame b h1 h2]
 owned:=λb h1 h2=>h.owned b h1 (k.owned b (Nat.lt_of_lt_of_le h1 h.size) h2)
theorem FR.mono {ρ aZ:Ren}{F:Fr}{t:Array Value}(hl:ρ.le aZ)(h:FR ρ F t):FR aZ F t:=λi=>(h i).mono hl
theorem OR.mono {P:Program}{ρ aZ:Ren}{w w':World}{b o l:Nat}{ob:AO}(hl:ρ.le aZ)(hb:w'.heap[b]?=w.heap[b]?)(h:OR P ρ w b o l ob):OR P aZ w' b o l ob:=by
 cases ob with
 |row cs=>
  obtain⟨c,e,h1,h2,h3,h4⟩:=h;exact⟨c,e,hb.trans h1,h2,h3,λi v hi=>let⟨x,a,b,c⟩:=h4 i v hi;⟨x,a,b.mono hl,c⟩⟩
 |ro cs=>
  intro i v hi;obtain⟨x,a,b,c⟩:=h i v hi;refine⟨x,?_,b.mono hl,c⟩;rw[<-a];simp only[World.cell?,hb]
 |map es=>
  obtain⟨gJ,clock,h1,h2,h3⟩:=h;exact⟨gJ,clock,hb.trans h1,h2,λi k v hi=>let⟨e,a,b,c⟩:=h3 i k v hi;⟨e,a,b,c.mono hl⟩⟩
 |loop st dI n body=>obtain⟨r,h1,h2,h3,h4,F,vars,h5,h6⟩:=h;exact⟨r,hb.trans h1,h2,h3,h4,F,vars,h5.mono hl,h6⟩
structure sD (w w':World):Prop where
 os:w'.os=w.os
 tape:w'.tape=w.tape
 output:w'.output=w.output
theorem R.drawn {P:Program}{ρ:Ren}{S:AH}{w w':World}(h:R P ρ S w)(hh:w'.heap=w.heap)(hs:sD w w'):R P ρ S w'/\Ext ρ S w ρ S w':=
 ⟨⟨λh1 h2=>(h.jb h1 h2).mono (Ren.le_refl _) (by rw[hh]),h.inj,h.tq,λh1=>by rw[hh];exact h.o0 h1,h.wf⟩,
  ⟨Ren.le_refl _,Nat.le_refl _,λid x h1 h2=>by(rw[h1] at h2;cases h2),λ_ _ _=>rfl,hs.os,hs.tape,hs.output,by rw[hh];exact Nat.le_refl _,λ_ _ _=>by rw[hh],λ_ _ h=>h⟩⟩
theorem R.new {P:Program}{ρ:Ren}{S:AH}{w w':World}{ob:AO}{l:Nat}(h:R P ρ S w)(hs:sD w w')(hz:w'.heap.size=w.heap.size+1)
  (ho:∀b,b<w.heap.size->w'.heap[b]?=w.heap[b]?)
  (F5:OR P (ρ.put S.next (w.heap.size,0,l)) w' w.heap.size 0 l ob) (hr:pC ob=false):
  R P (ρ.put S.next (w.heap.size,0,l)) (S.new ob) w'/\Ext ρ S w (ρ.put S.next (w.heap.size,0,l)) (S.new ob) w':=by
 have hn:ρ S.next=none:=by
  cases e:ρ S.next with
  |none=>rfl
  |some x=>exact absurd (h.tq e) (Nat.lt_irrefl _)
 have hle:=Ren.k9 (x:=(w.heap.size,0,l)) hn;refine⟨⟨?_,?_,?_,?_,λ{j oj} hj=>by
  rw[AH.cg] at hj;split at hj;.next e=>subst e;simp
  .have:=h.wf hj;simp;omega⟩,⟨hle,ac,?_,?_,hs.os,hs.tape,hs.output,am,λb hb _=>ho b hb,?_⟩⟩
 .intro id tr b o l' h1 h2;rw[AH.cg] at h1;by_cases e:id=S.next
  .subst e;rw[if_pos rfl] at h1;cases h1;rw[Ren.bI] at h2;cases h2;exact F5
  .rw[if_neg e] at h1;rw[Ren.aO _ _ e] at h2;exact(h.jb h1 h2).mono hle (ho b (h.o0 h2))
 .intro i j oi oj b o l' o' U2 h1 h2 h3 h4 h5;rw[AH.cg] at h1 h2;by_cases ei:i=S.next<;>by_cases ej:j=S.next
  .rw[ei,ej]
  .exfalso;subst ei;rw[Ren.bI] at h3;rw[Ren.aO _ _ ej] at h4;cases h3;exact absurd (h.o0 h4) (Nat.lt_irrefl _)
  .exfalso;subst ej;rw[Ren.bI] at h4;rw[Ren.aO _ _ ei] at h3;cases h4;exact absurd (h.o0 h3) (Nat.lt_irrefl _)
  .rw[if_neg ei] at h1;rw[if_neg ej] at h2;rw[Ren.aO _ _ ei] at h3;rw[Ren.aO _ _ ej] at h4;exact h.inj h1 h2 h3 h4 h5
 .intro id x hx;by_cases e:id=S.next;.subst e;simp
  .rw[Ren.aO _ _ e] at hx;have:=h.tq hx;simp;omega
 .intro id b o l' hx;by_cases e:id=S.next;.subst e;rw[Ren.bI] at hx;cases hx;omega
  .rw[Ren.aO _ _ e] at hx;have:=h.o0 hx;omega
 .intro id x h1 h2;by_cases e:id=S.next;.subst e;exact Nat.le_refl _
  .rw[Ren.aO _ _ e] at h2;rw[h1] at h2;cases h2
 .intro id h1 h2;rw[AH.cg,if_neg am]
 .intro b hb ⟨id,tr,o,l',h1,h2,h3⟩;rw[AH.cg] at h1;by_cases e:id=S.next;.subst e;rw[Ren.bI] at h3;cases h3;exact absurd hb (Nat.lt_irrefl _)
  .rw[if_neg e] at h1;rw[Ren.aO _ _ e] at h3;exact⟨id,tr,o,l',h1,h2,h3⟩
theorem R.set {P:Program}{ρ:Ren}{S:AH}{w w':World}{id b o l:Nat}{ob tr:AO}(h:R P ρ S w)(hg:S.get id=some ob)(hr:pC ob=false)(hi:ρ id=some (b,o,l))
  (hs:sD w w') (hz:w'.heap.size=w.heap.size) (uD:∀k,k≠b->w'.heap[k]?=w.heap[k]?) (F5:OR P ρ w' b o l tr) (pD:pC tr=false):
  R P ρ (S.set id tr) w'/\Ext ρ S w ρ (S.set id tr) w':=by
 refine⟨⟨?_,?_,?_,?_,λ{j oj} hj=>by
  rw[AH.dc] at hj;split at hj;.next e=>subst e;exact h.wf hg
  .exact h.wf hj⟩,⟨Ren.le_refl _,Nat.le_refl _,λid x h1 h2=>by(rw[h1] at h2;cases h2),?_,hs.os,hs.tape,hs.output,am,?_,?_⟩⟩
 .intro j oj b' o' l' h1 h2;rw[AH.dc] at h1;by_cases e:j=id
  .subst e;rw[if_pos rfl] at h1;cases h1;rw[hi] at h2;cases h2;exact F5
  .rw[if_neg e] at h1;have hb:b'≠b:=λeb=>by subst eb;exact e (h.inj h1 hg h2 hi (.inr hr))
   exact(h.jb h1 h2).mono (Ren.le_refl _) (uD b' hb)
 .intro i j oi oj b1 o1 l1 o2 l2 h1 h2 h3 h4 h5;rw[AH.dc] at h1 h2;by_cases ei:i=id<;>by_cases ej:j=id
  .rw[ei,ej]
  .subst ei;rw[if_neg ej] at h2;exact h.inj hg h2 h3 h4 (.inl hr)
  .subst ej;rw[if_neg ei] at h1;exact h.inj h1 hg h3 h4 (.inr hr)
  .rw[if_neg ei] at h1;rw[if_neg ej] at h2;exact h.inj h1 h2 h3 h4 h5
 .exact h.tq
 .intro j b' o' l' hj;rw[hz];exact h.o0 hj
 .intro j h1 h2;rw[AH.dc,if_neg];intro e;subst e;rw[hi] at h1;cases h1
 .intro b' h1 h2;refine uD b' λe=>h2 ?_;subst e;exact⟨id,ob,o,l,hg,hr,hi⟩
 .intro b' h1 ⟨j,oj,o',l',h2,h3,h4⟩;rw[AH.dc] at h2;by_cases e:j=id
  .subst e;exact⟨j,ob,o',l',hg,hr,h4⟩
  .rw[if_neg e] at h2;exact⟨j,oj,o',l',h2,h3,h4⟩
theorem R.swap {P:Program}{ρ:Ren}{S:AH}{w w':World}{id b o l o':Nat}{ob tr:AO}(h:R P ρ S w)(hg:S.get id=some ob)(hr:pC ob=false)(hi:ρ id=some (b,o,l))
  (hs:sD w w') (hz:w'.heap.size=w.heap.size) (uD:∀k,k≠b->w'.heap[k]?=w.heap[k]?) (F5:OR P (ρ.put S.next (b,o',l)) w' b o' l tr) (pD:pC tr=false):
  R P (ρ.put S.next (b,o',l)) ((S.kill id).new tr) w'/\Ext ρ S w (ρ.put S.next (b,o',l)) ((S.kill id).new tr) w':=by
 have hn:ρ S.next=none:=by
  cases e:ρ S.next with
  |none=>rfl
  |some x=>exact absurd (h.tq e) (Nat.lt_irrefl _)
 have hle:=Ren.k9 (x:=(b,o',l)) hn;have gk:∀j,((S.kill id).new tr).get j=if j=S.next then some tr else if j=id then none else S.get j:=λj=>by rw[AH.cg,AH.gU];rfl
 refine⟨⟨?_,?_,?_,?_,λ{j oj} hj=>by
  rw[AH.cg,AH.gU] at hj;split at hj;.next e=>rw[e];exact Nat.lt_succ_self _
  .split at hj;.cases hj
   .have:=h.wf hj;simp;omega⟩,⟨hle,ac,?_,?_,hs.os,hs.tape,hs.output,am,?_,?_⟩⟩
 .intro j oj b1 o1 l1 h1 h2;rw[gk] at h1;by_cases e:j=S.next
  .subst e;rw[if_pos rfl] at h1;cases h1;rw[Ren.bI] at h2;cases h2;exact F5
  .rw[if_neg e] at h1;rw[Ren.aO _ _ e] at h2;by_cases e2:j=id;.rw[if_pos e2] at h1;cases h1
   .rw[if_neg e2] at h1;have hb:b1≠b:=λeb=>by subst eb;exact e2 (h.inj h1 hg h2 hi (.inr hr))
    exact(h.jb h1 h2).mono hle (uD b1 hb)
 .intro i j oi oj b1 o1 l1 o2 l2 h1 h2 h3 h4 h5;rw[gk] at h1 h2;by_cases ei:i=S.next<;>by_cases ej:j=S.next
  .rw[ei,ej]
  .exfalso;subst ei;rw[if_neg ej] at h2;rw[Ren.bI] at h3;rw[Ren.aO _ _ ej] at h4;cases h3;by_cases e2:j=id;.rw[if_pos e2] at h2;cases h2
   .rw[if_neg e2] at h2;exact e2 (h.inj h2 hg h4 hi (.inr hr))
  .exfalso;subst ej;rw[if_neg ei] at h1;rw[Ren.bI] at h4;rw[Ren.aO _ _ ei] at h3;cases h4;by_cases e2:i=id;.rw[if_pos e2] at h1;cases h1
   .rw[if_neg e2] at h1;exact e2 (h.inj h1 hg h3 hi (.inr hr))
  .rw[if_neg ei] at h1;rw[if_neg ej] at h2;rw[Ren.aO _ _ ei] at h3;rw[Ren.aO _ _ ej] at h4;by_cases e2:i=id;.rw[if_pos e2] at h1;cases h1
   .by_cases e3:j=id;.rw[if_pos e3] at h2;cases h2
    .rw[if_neg e2] at h1;rw[if_neg e3] at h2;exact h.inj h1 h2 h3 h4 h5
 .intro j x hx;by_cases e:j=S.next;.subst e;simp
  .rw[Ren.aO _ _ e] at hx;have:=h.tq hx;simp;omega
 .intro j b1 o1 l1 hx;rw[hz];by_cases e:j=S.next;.subst e;rw[Ren.bI] at hx;cases hx;exact h.o0 hi
  .rw[Ren.aO _ _ e] at hx;exact h.o0 hx
 .intro j x h1 h2;by_cases e:j=S.next;.subst e;exact Nat.le_refl _
  .rw[Ren.aO _ _ e] at h2;rw[h1] at h2;cases h2
 .intro j h1 h2;rw[gk,if_neg am,if_neg];intro e;subst e;rw[hi] at h1;cases h1
 .intro b1 h1 h2;refine uD b1 λe=>h2 ?_;subst e;exact⟨id,ob,o,l,hg,hr,hi⟩
 .intro b1 h1 ⟨j,oj,o1,l1,h2,h3,h4⟩;rw[gk] at h2;by_cases e:j=S.next
  .subst e;rw[Ren.bI] at h4;cases h4;exact⟨id,ob,o,l,hg,hr,hi⟩
  .rw[if_neg e] at h2;rw[Ren.aO _ _ e] at h4;by_cases e2:j=id;.rw[if_pos e2] at h2;cases h2
   .rw[if_neg e2] at h2;exact⟨j,oj,o1,l1,h2,h3,h4⟩
theorem R.kill {P:Program}{ρ:Ren}{S:AH}{w:World}{id:Nat}{x:Nat×Nat×Nat}(h:R P ρ S w)(hi:ρ id=some x):
  R P ρ (S.kill id) w/\Ext ρ S w ρ (S.kill id) w:=by
 refine⟨⟨?_,?_,h.tq,h.o0,λ{j oj} hj=>by
  rw[AH.gU] at hj;split at hj;.cases hj
  .exact h.wf hj⟩,⟨Ren.le_refl _,Nat.le_refl _,λid x h1 h2=>by(rw[h1] at h2;cases h2),?_,rfl,rfl,rfl,Nat.le_refl _,λ_ _ _=>rfl,?_⟩⟩
 .intro j oj b o l h1 h2;rw[AH.gU] at h1;split at h1;.cases h1
  .exact h.jb h1 h2
 .intro i j oi oj b o l o' l' h1 h2 h3 h4 h5;rw[AH.gU] at h1 h2;split at h1;.cases h1
  .split at h2;.cases h2
   .exact h.inj h1 h2 h3 h4 h5
 .intro j h1 h2;rw[AH.gU,if_neg];intro e;subst e;rw[hi] at h1;cases h1
 .intro b h1 ⟨j,oj,o,l,h2,h3,h4⟩;rw[AH.gU] at h2;split at h2;.cases h2
  .exact⟨j,oj,o,l,h2,h3,h4⟩
end
section
variable[km]
variable{P:Program}
inductive Kind where
 |pure|read|alloc|wA
 deriving DecidableEq
def fK.kind:fK->Kind
 |.load ..|.lookup ..=>.read
 |.alloc _|.box _|.nu ..|.gS ..|.xh=>.alloc
 |.store ..|.append ..|.uu ..=>.wA
 |_=>.pure
def qF (P:Program):fK->Option AV
 |.mv x=>some x
 |.pick c a b=>CX c a b
 |.bin op x y=>JI op x y
 |.eq t n x y=>Fy P t n x y
 |.un op x=>U0 P op x
 |.conv k x=>CY k x
 |.part o n a x=>CZ o n a x
 |.Ee l e a x i=>xi l e a x i
 |.build z ps=>kZ z ps
 |.kA o x=>x8 o x
 |.zA l e x i=>nw l e x i
 |.cC e x i=>gi e x i
 |.pk l e x a b c=>kD l e x a b c
 |.i_ e x a b c=>dV e x a b c
 |.extract i x=>qy i x
 |.pn x=>oE x
 |.len g x=>Ei g x
 |.nt m xs=>tO m xs
 |.mh t i o z x=>iS P t i o z x
 |_=>none
theorem nE {o:fK}(h:o.kind=.pure)(S:AH):evalOp P o S=eU (qF P o) S:=by
 cases o<;>first|rfl|(cases h;done)
theorem kI {o:fK}(h:o.kind=.read)(S:AH):evalOp P o S=eU (cT P S o) S:=by
 cases o<;>first|rfl|(cases h;done)
theorem nF {r:Option AV}{S S':AH}{v:AV}(h:eU r S=some (v,S')):r=some v/\S'=S:=by
 unfold eU at h;cases r with
 |none=>cases h
 |some x=>simp at h;exact⟨by rw[h.1],h.2.symm⟩
theorem aB {ρ:Ren}{F:Fr}{a:Act}(h:FR ρ F a.tmps)(x:Operand):V ρ (F.ev x) (a.eval x):=by
 cases x with
 |tmp t=>exact h t
 |const v=>
  show V ρ ((tn 50 v).getD .no) v;cases e:tn 50 v with
  |none=>exact .no
  |some u=>exact lS e
 |global g=>exact .no
 |func f=>exact .fn (a':=[]) (c':=[]) rfl .nil .nil
theorem jC {ρ:Ren}{F:Fr}{a:Act}(h:FR ρ F a.tmps):∀(l:List Operand),VL ρ (l.map F.ev) (l.map a.eval)
 |[]=>.nil
 |x::r=>.cons (aB h x) (jC h r)
theorem o4 {op:BinOp}{t:TypeId}{x y:Operand}{k k':IntKind}{a b:Int}(w:World):
 (eqGuard op t x y (.int k a) (.int k' b)).run P w=.ok () w:=by cases op<;>rfl
theorem wL {op:BinOp}{t:TypeId}{x y:Operand}{a b:ByteArray}(w:World):
 (eqGuard op t x y (.string a) (.string b)).run P w=.ok () w:=by cases op<;>rfl
theorem Em {f:IntKind->Int->Int->Option AV}{x y v:AV}(h:dB f x y=some v):∃k a b,x=.sc (.int k a)/\y=.sc (.int k b)/\f k a b=some v:=by
 unfold dB at h;cases hx:asInt x with
 |none=>simp[hx] at h
 |some p=>
  obtain⟨k,a⟩:=p;cases hy:asInt y with
  |none=>simp[hx,hy] at h
  |some q=>
   obtain⟨k',b⟩:=q;simp only[hx,hy] at h;cases hk:ml k k' with
   |false=>simp[hk] at h
   |true=>simp only[hk] at h;have:=nC hk;subst this;exact⟨k,a,b,iu hx,iu hy,h⟩
theorem En {f:ByteArray->ByteArray->Option AV}{x y v:AV}(h:wI f x y=some v):∃a b,x=.sc (.string a)/\y=.sc (.string b)/\f a b=some v:=by
 unfold wI at h;split at h;.exact⟨_,_,rfl,rfl,h⟩
 .cases h
theorem fN {a b:Option AV}{v:AV}(h:either a b=some v):a=some v\/b=some v:=by
 unfold either at h;cases a with
 |none=>exact .inr h
 |some x=>exact .inl h
def F6 (P:Program)(op:BinOp)(t:TypeId)(x y v:AV):Prop:=
 (∃k a b r,x=.sc (.int k a)/\y=.sc (.int k b)/\v=.sc r/\scalar r=true/\∀w,(binOp op t (.int k a) (.int k b)).run P w=.ok r w)\/
 (∃k a k' b r,x=.sc (.int k a)/\y=.sc (.int k' b)/\v=.sc r/\scalar r=true/\∀w,(binOp op t (.int k a) (.int k' b)).run P w=.ok r w)\/
 (∃a b r,x=.sc (.string a)/\y=.sc (.string b)/\v=.sc r/\scalar r=true/\∀w,(binOp op t (.string a) (.string b)).run P w=.ok r w)
theorem xn (a b:Int):decide (a<=b)=!decide (b<a):=by
 by_cases h:b<a;.simp[h]
 .simp[h];omega
theorem JN {op:BinOp}{t:TypeId}{x y v:AV}(h:JI op x y=some v):F6 P op t x y v:=by
 have I:∀{f:IntKind->Int->Int->Option AV},dB f x y=some v->
   (∀k a b,f k a b=some v->∃r,v=.sc r/\scalar r=true/\∀w,(binOp op t (.int k a) (.int k b)).run P w=.ok r w)->F6 P op t x y v:=λh1 h2=>by
  obtain⟨k,a,b,e1,e2,e3⟩:=Em h1;obtain⟨r,e4,e5,e6⟩:=h2 k a b e3;exact .inl ⟨k,a,b,r,e1,e2,e4,e5,e6⟩
 have T:∀{f:ByteArray->ByteArray->Option AV},wI f x y=some v->
   (∀a b,f a b=some v->∃r,v=.sc r/\scalar r=true/\∀w,(binOp op t (.string a) (.string b)).run P w=.ok r w)->F6 P op t x y v:=λh1 h2=>by
  obtain⟨a,b,e1,e2,e3⟩:=En h1;obtain⟨r,e4,e5,e6⟩:=h2 a b e3;exact .inr (.inr ⟨a,b,r,e1,e2,e4,e5,e6⟩)
 cases op with
 |add=>
  rcases fN (show either _ _=some v from h) with h|h;.exact I h λk a b e=>by cases e;exact⟨_,rfl,rfl,λw=>by simp[binOp,Op.intArith,bx]<;>rfl⟩
  .refine T h λa b e=>?_;split at e
   .next hl=>cases e;refine⟨_,rfl,rfl,λw=>?_⟩;have:¬((9223372036854775807:Int)<(a.size:Int)+(b.size:Int)):=am;simp[binOp,Op.stringOp,IntKind.max,IntKind.signed,IntKind.bits,this]
   .cases e
 |sub=>exact I (show dB _ _ _=_ from h) λk a b e=>by cases e;exact⟨_,rfl,rfl,λw=>by simp[binOp,Op.intArith,bx]<;>rfl⟩
 |mul=>exact I (show dB _ _ _=_ from h) λk a b e=>by cases e;exact⟨_,rfl,rfl,λw=>by simp[binOp,Op.intArith,bx]<;>rfl⟩
 |quo=>
  refine I (show dB _ _ _=_ from h) λk a b e=>?_;simp only[gl] at e;split at e;.cases e
  .next hb=>
   cases e;refine⟨_,rfl,rfl,λw=>?_⟩;have:¬b=0:=by simpa using hb
   simp[binOp,Op.intDiv,bx,this]
 |rem=>
  refine I (show dB _ _ _=_ from h) λk a b e=>?_;simp only[gl] at e;split at e;.cases e
  .next hb=>
   cases e;refine⟨_,rfl,rfl,λw=>?_⟩;have:¬b=0:=by simpa using hb
   simp[binOp,Op.intDiv,bx,this]
 |and=>exact I (show dB _ _ _=_ from h) λk a b e=>by cases e;exact⟨_,rfl,rfl,λw=>by simp[binOp,Op.intBits,bx]⟩
 |or=>exact I (show dB _ _ _=_ from h) λk a b e=>by cases e;exact⟨_,rfl,rfl,λw=>by simp[binOp,Op.intBits,bx]⟩
 |xor=>exact I (show dB _ _ _=_ from h) λk a b e=>by cases e;exact⟨_,rfl,rfl,λw=>by simp[binOp,Op.intBits,bx]⟩
 |andNot=>exact I (show dB _ _ _=_ from h) λk a b e=>by cases e;exact⟨_,rfl,rfl,λw=>by simp[binOp,Op.intBits,bx]⟩
 |shl=>
  replace h:FP x y=some v:=h;unfold FP at h;split at h
  .next k a k' b=>
   simp only[gj] at h;split at h;.cases h
   .next hb=>
    cases h;refine .inr (.inl ⟨k,a,k',b,_,rfl,rfl,rfl,rfl,λw=>?_⟩);have:¬b<0:=by simpa using hb
    simp[binOp,Op.shift,bx,this]
  .cases h
 |shr=>
  replace h:FQ x y=some v:=h;unfold FQ at h;split at h
  .next k a k' b=>
   simp only[gj] at h;split at h;.cases h
   .next hb=>
    cases h;refine .inr (.inl ⟨k,a,k',b,_,rfl,rfl,rfl,rfl,λw=>?_⟩);have:¬b<0:=by simpa using hb
    simp[binOp,Op.shift,this]
  .cases h
 |eql=>
  rcases fN (show either _ _=some v from h) with h|h;.exact I h λk a b e=>by cases e;exact⟨_,rfl,rfl,λw=>by simp[binOp,Op.intCmp,gl]⟩
  .exact T h λa b e=>by cases e;exact⟨_,rfl,rfl,λw=>by simp[binOp,Op.stringOp]⟩
 |neq=>
  rcases fN (show either _ _=some v from h) with h|h;.exact I h λk a b e=>by cases e;exact⟨_,rfl,rfl,λw=>by simp[binOp,Op.intCmp,gl]<;>rfl⟩
  .exact T h λa b e=>by cases e;exact⟨_,rfl,rfl,λw=>by simp[binOp,Op.stringOp]⟩
 |lss=>
  rcases fN (show either _ _=some v from h) with h|h;.exact I h λk a b e=>by cases e;exact⟨_,rfl,rfl,λw=>by simp[binOp,Op.intCmp,gj]⟩
  .exact T h λa b e=>by cases e;exact⟨_,rfl,rfl,λw=>by simp[binOp,Op.stringOp]⟩
 |leq=>
  rcases fN (show either _ _=some v from h) with h|h;.exact I h λk a b e=>by cases e;exact⟨_,rfl,rfl,λw=>by simp[binOp,Op.intCmp,gj,xn]⟩
  .exact T h λa b e=>by cases e;exact⟨_,rfl,rfl,λw=>by simp[binOp,Op.stringOp]⟩
 |gtr=>
  rcases fN (show either _ _=some v from h) with h|h;.exact I h λk a b e=>by cases e;exact⟨_,rfl,rfl,λw=>by simp[binOp,Op.intCmp,gj]⟩
  .exact T h λa b e=>by cases e;exact⟨_,rfl,rfl,λw=>by simp[binOp,Op.stringOp]⟩
 |geq=>
  rcases fN (show either _ _=some v from h) with h|h;.exact I h λk a b e=>by cases e;exact⟨_,rfl,rfl,λw=>by simp[binOp,Op.intCmp,gj,xn]⟩
  .exact T h λa b e=>by cases e;exact⟨_,rfl,rfl,λw=>by simp[binOp,Op.stringOp]⟩
end
section
variable[km]
variable{P:Program}
theorem xo:∀(vs:List Value) (off k:Nat) (xs:Array Value),off+k+vs.length<=xs.size->
  ((vs.zipIdx k).foldl (λ(cs:Array Value) (p:Value×Nat)=>cs.setIfInBounds (off+p.2) p.1) xs).toList=xs.toList.take (off+k)++(vs++xs.toList.drop (off+k+vs.length))
 |[],off,k,xs,h=>ac
 |v::vs,off,k,xs,h=>by simp only[List.zipIdx_cons,List.foldl_cons];rw[xo vs off (k+1) (xs.setIfInBounds (off+k) v) (by simp at h⊢;omega)];simp only[List.length_cons] at h;have e:=list_seg_step xs.toList (off+k) v vs (by simp;omega);simp only[Array.toList_setIfInBounds];have e':(xs.toList.set (off+k) v).take (off+k+1)++vs++(xs.toList.set (off+k) v).drop (off+k+1+vs.length)=xs.toList.take (off+k)++v::vs++xs.toList.drop (off+k+(vs.length+1)):=e;rw[show off+(k+1)=off+k+1 by omega,<-List.append_assoc,e'];simp
theorem Eo (vs:Array Value)(off:Nat)(xs:Array Value)(h:off+vs.size<=xs.size):
  (vs.zipIdx.foldl (λ(cs:Array Value) (p:Value×Nat)=>cs.setIfInBounds (off+p.2) p.1) xs).toList=xs.toList.take off++(vs.toList++xs.toList.drop (off+vs.size)):=by
 have:=xo vs.toList off 0 xs (by simpa using h);rw[<-Array.foldl_toList,Array.toList_zipIdx];simpa using this
theorem VL.lay {ρ:Ren}{cs vs:List AV}{xs ys:List Value}(h:VL ρ cs xs)(k:VL ρ vs ys)(off:Nat):
  VL ρ (bu cs off vs) (xs.take off++(ys++xs.drop (off+ys.length))):=by
 rw[cr,k.length];exact(h.take off).append (k.append (h.drop _))
theorem pE {ρ:Ren}{F:Fr}{a:Act}(hF:FR ρ F a.tmps){place:Nat->Option (Nat×Nat)}:
  ∀(l:List (Nat×Operand)) {ps:List (Nat×Nat×AV)} {cs U3:List AV} {xs:Array Value},partsOf F place l=some ps->fX cs ps=some U3->VL ρ cs xs.toList->(∀x∈xs.toList,x.oneCell'=true)->
   ∃Fz:Array Value,Instr.fill place xs (l.map λp=>(p.1,a.eval p.2))=some Fz/\VL ρ U3 Fz.toList/\∀x∈Fz.toList,x.oneCell'=true
 |[],ps,cs,U3,xs,hp,hf,hv,h1=>by
  simp only[partsOf,Option.some.injEq] at hp;subst hp;simp only[fX,Option.some.injEq] at hf;subst hf;exact⟨xs,rfl,hv,h1⟩
 |(i,x)::r,ps,cs,U3,xs,hp,hf,hv,h1=>by
  simp only[partsOf] at hp;cases sE:place i with
  |none=>simp[sE] at hp
  |some q=>
   obtain⟨off,size⟩:=q;cases hr:partsOf F place r with
   |none=>simp[sE,hr] at hp
   |some ps'=>
    simp only[sE,hr,Option.some.injEq] at hp;subst hp;simp only[fX] at hf;split at hf
    .next hc=>
     simp only[Bool.and_eq_true,Bool.not_eq_true'] at hc;obtain⟨⟨ho,hs⟩,hl⟩:=hc;have bt:ca (F.ev x).cells=size:=Nat.eq_of_beq_eq_true hs;have BI:off+size<=ca cs:=Nat.le_of_ble_eq_true hl;rw[bK] at bt BI;obtain⟨Z4,BJ⟩:=(aB hF x).yh ho;have dH:(a.eval x).cells.size=size:=by rw[<-bt,Z4.length];simp
     have Wt:cs.length=xs.size:=by rw[hv.length];simp
     have hb:¬((decide ((a.eval x).cells.size≠size)||decide (off+(a.eval x).cells.size>xs.size))=true):=by
      simp only[Bool.or_eq_true,ne_eq,decide_eq_true_eq];rintro(h|h);.exact h dH
      .omega
     have QV:=Eo (a.eval x).cells off xs am;have U4:VL ρ (bu cs off (F.ev x).cells) ((a.eval x).cells.zipIdx.foldl (λ(cs:Array Value) (p:Value×Nat)=>cs.setIfInBounds (off+p.2) p.1) xs).toList:=by rw[QV];simpa using hv.lay Z4 off
     have QW:∀y∈((a.eval x).cells.zipIdx.foldl (λ(cs:Array Value) (p:Value×Nat)=>cs.setIfInBounds (off+p.2) p.1) xs).toList,y.oneCell'=true:=by
      rw[QV];intro y hy;rcases List.mem_append.1 hy with hy|hy;.exact h1 y (List.mem_of_mem_take hy)
      .rcases List.mem_append.1 hy with hy|hy;.exact BJ y hy
       .exact h1 y (List.mem_of_mem_drop hy)
     obtain⟨Fz,e1,e2,e3⟩:=pE hF r hr hf U4 QW;refine⟨Fz,?_,e2,e3⟩;simp only[List.map_cons,Instr.fill,sE];rw[if_neg hb];exact e1
    .cases hf
theorem gE {t:TypeId}{z:AV}(h:gT P t=some z):∃i zv,P.info? t=some i/\i.zero=some zv/\tn 50 zv=some z:=by
 unfold gT at h;cases hi:P.info? t with
 |none=>simp[hi] at h
 |some i=>
  cases hz:i.zero with
  |none=>simp[hi,hz] at h
  |some zv=>simp[hi,hz] at h;exact⟨i,zv,rfl,hz,h⟩
theorem jK {t:TypeId}{n:Nat}(h:aU P t=some n):∃i,P.info? t=some i/\i.size=n:=by
 unfold aU at h;cases hi:P.info? t with
 |none=>simp[hi] at h
 |some i=>simp[hi] at h;exact⟨i,rfl,h⟩
theorem eE {t:TypeId}{n:Nat}(h:aU P t=some n)(w:World):(sizeOf t).run P w=.ok n w:=by obtain⟨i,h1,h2⟩:=jK h;simp[sizeOf,typeInfo,h1,h2]
theorem kJ {t:TypeId}{g:Bool}(h:eP P t=some g)(w:World):(isAgg t).run P w=.ok g w:=by
 unfold eP at h;cases hu:P.underlying t with
 |none=>simp[hu] at h
 |some d=>
  unfold isAgg;rw[Sem.run_bind,run_underlying hu w];cases d<;>simp_all
theorem lT {ρ:Ren}{zv:Value}{z:AV}(h:tn 50 zv=some z)(ho:odd z=false):VL ρ z.cells zv.cells.toList/\∀y∈zv.cells.toList,y.oneCell'=true:=
 (lS (ρ:=ρ) h).yh ho
section ops
variable{ρ:Ren}{F:Fr}{a:Act}{o:Oper}
def Yields (P:Program)(ρ:Ren)(a:Act)(o:Oper)(v:AV):Prop:=∃x,V ρ v x/\∀w,(execOp a.eval o).run P w=.ok (.value x) w
theorem MS (hF:FR ρ F a.tmps){c x y:Operand}{v:AV}(ho:o.op=.pick c x y)(h:CX (F.ev c) (F.ev x) (F.ev y)=some v):Yields P ρ a o v:=by
 unfold CX at h;cases hb:asBool (F.ev c) with
 |none=>simp[hb] at h
 |some b=>
  have hc:=(kG hb▸aB hF c).zI;cases b
  .simp[hb] at h;subst h;exact⟨_,aB hF y,λw=>by simp[execOp,ho,hc,Go.asBool]⟩
  .simp[hb] at h;subst h;exact⟨_,aB hF x,λw=>by simp[execOp,ho,hc,Go.asBool]⟩
theorem QX (hF:FR ρ F a.tmps){op:BinOp}{t u:TypeId}{x y:Operand}{v:AV}(ho:o.op=.binOp op t x y u)(h:JI op (F.ev x) (F.ev y)=some v):Yields P ρ a o v:=by
 rcases JN (P:=P) (t:=t) h with⟨k,m,n,r,e1,e2,rfl,hs,hr⟩|⟨k,m,k',n,r,e1,e2,rfl,hs,hr⟩|⟨m,n,r,e1,e2,rfl,hs,hr⟩
 .have hx:=(e1▸aB hF x).fC;have hy:=(e2▸aB hF y).fC;exact⟨r,.sc hs,λw=>by simp[execOp,ho,hx,hy,o4,hr]⟩
 .have hx:=(e1▸aB hF x).fC;have hy:=(e2▸aB hF y).fC;exact⟨r,.sc hs,λw=>by simp[execOp,ho,hx,hy,o4,hr]⟩
 .have hx:=(e1▸aB hF x).gn.1;have hy:=(e2▸aB hF y).gn.1;exact⟨r,.sc hs,λw=>by simp[execOp,ho,hx,hy,wL,hr]⟩
theorem Wu (hF:FR ρ F a.tmps){op:UnOp}{t:TypeId}{x:Operand}{v:AV}(ho:o.op=.unOp op t x)(h:U0 P op (F.ev x)=some v):Yields P ρ a o v:=by
 unfold U0 at h;cases hb:asBool (F.ev x) with
 |some b=>
  have hx:=(kG hb▸aB hF x).zI;simp only[hb] at h;split at h
  .cases h;exact⟨_,.sc rfl,λw=>by simp[execOp,ho,hx,Op.unary]⟩
  .cases h
 |none=>
  simp only[hb] at h;split at h
  .next u hu=>
   have hx:=(hu▸aB hF x).gn.1;unfold QQ at h;cases hp:bj P (Op.unary op u) with
   |none=>simp[hp] at h
   |some r=>
    simp only[hp] at h;split at h
    .next hs=>cases h;have hr:=gr hp;exact⟨r,.sc hs,λw=>by simp[execOp,ho,hx,hr]⟩
    .cases h
  .cases h
theorem MT (hF:FR ρ F a.tmps){s t:TypeId}{j k:IntKind}{x:Operand}{v:AV}(ho:o.op=.convert s t x)(hs:P.underlying s=some (.int j))(ht:P.underlying t=some (.int k))
  (h:CY k (F.ev x)=some v):Yields P ρ a o v:=by
 unfold CY at h;cases hi:asInt (F.ev x) with
 |none=>simp[hi] at h
 |some p=>obtain⟨k',n⟩:=p;simp[hi] at h;subst h;have hx:=(iu hi▸aB hF x).fC;exact⟨.int k (k.wrap n),by rw[bx];exact .sc rfl,λw=>by simp[execOp,ho,hx,convert,run_underlying hs,run_underlying ht,Conv.intToInt]⟩
theorem qG {cs:List AV}{xs:List Value}{t:TypeId}{n off:Nat}{g:Bool}{v:AV}(hn:aU P t=some n)(hg:eP P t=some g)(hc:VL ρ cs xs)(h1:∀x∈xs,x.oneCell'=true)
  (h:gh g cs off n=some v):∃x,V ρ v x/\∀w,(part t xs.toArray off).run P w=.ok x w:=by
 unfold gh at h;cases g with
 |true=>
  simp only at h;split at h
  .next hl=>
   cases h;have BI:off+n<=ca cs:=Nat.le_of_ble_eq_true hl;rw[bK] at BI;refine⟨.agg ((xs.drop off).take n).toArray,?_,λw=>?_⟩
   .rw[dK,eo];exact .agg ((hc.drop _).take _) λx hx=>h1 x (List.mem_of_mem_drop (List.mem_of_mem_take hx))
   .simp only[part,Sem.run_bind,kJ hg,Result.andThen_ok,if_true,eE hn,Sem.run_pure];congr 2;apply Array.ext';simp[List.extract_eq_take_drop]
  .cases h
 |false=>simp only[oF] at h;obtain⟨x,e1,e2⟩:=hc.get h;exact⟨x,e2,λw=>by simp[part,Sem.run_bind,kJ hg,e1]⟩
theorem JO (hF:FR ρ F a.tmps){t:TypeId}{fields:Array Field}{fd:Field}{i n:Nat}{g:Bool}{x:Operand}{v:AV}(ho:o.op=.field t x i)(ht:P.underlying t=some (.struct fields))
  (hf:fields[i]?=some fd) (hn:aU P fd.type=some n) (hg:eP P fd.type=some g) (h:CZ fd.offset n g (F.ev x)=some v):Yields P ρ a o v:=by
 unfold CZ at h;cases ha:asAgg (F.ev x) with
 |none=>simp[ha] at h
 |some cs=>simp only[ha] at h;obtain⟨xs,hx,hv,h1⟩:=(uB ha▸aB hF x).yg;obtain⟨y,hy,hr⟩:=qG hn hg hv h1 h;exact⟨y,hy,λw=>by simp[execOp,ho,Instr.field,run_underlying ht,hf,hx,Go.asAgg,hr]⟩
theorem MU (hF:FR ρ F a.tmps){t e:TypeId}{len n:Nat}{g:Bool}{x i:Operand}{v:AV}(ho:o.op=.index t x i)(ht:P.underlying t=some (.array len e))
  (hn:aU P e=some n) (hg:eP P e=some g) (h:xi len n g (F.ev x) (F.ev i)=some v):Yields P ρ a o v:=by
 unfold xi at h;cases ha:asAgg (F.ev x) with
 |none=>simp[ha] at h
 |some cs=>
  cases hi:pq (F.ev i) len with
  |none=>simp[ha,hi] at h
  |some j=>simp only[ha,hi] at h;obtain⟨xs,hx,hv,h1⟩:=(uB ha▸aB hF x).yg;obtain⟨k,hk,hj⟩:=lR hi;have m_:=(hk▸aB hF i).fC;obtain⟨y,hy,hr⟩:=qG hn hg hv h1 h;refine⟨y,hy,λw=>?_⟩;have h0:(0:Int)<=(j:Int)/\(j:Int)<(len:Int):=am;simp only[execOp,ho,Instr.index,m_,asIntOf,Sem.run_bind,Sem.run_pure,Result.andThen_ok,run_underlying ht,hx,h0,and_self,if_true,eE hn,Int.toNat_natCast,hr];rw[show Nat.mul j n=j*n from rfl] at hr;simp[hr]
theorem Er (hF:FR ρ F a.tmps){i:Nat}{x:Operand}{v:AV}(ho:o.op=.extract x i)(h:qy i (F.ev x)=some v):Yields P ρ a o v:=by
 unfold qy at h;cases ha:CV (F.ev x) with
 |none=>simp[ha] at h
 |some cs=>simp only[ha,oF] at h;obtain⟨xs,hx,hv⟩:=(BF ha▸aB hF x).JL;obtain⟨y,e1,e2⟩:=hv.get h;exact⟨y,e2,λw=>by simp[execOp,ho,Instr.extract,hx,e1]⟩
theorem F7 (hF:FR ρ F a.tmps){x:Operand}{v:AV}(ho:o.op=.nilCheck x)(h:oE (F.ev x)=some v):Yields P ρ a o v:=by
 unfold oE at h;cases hl:live (F.ev x) with
 |false=>simp[hl] at h
 |true=>
  simp only[hl,Option.some.injEq] at h;subst h;have hv:=aB hF x;refine⟨_,hv,λw=>?_⟩;generalize hx:a.eval x=y at*
  generalize F.ev x=u at*
  cases hv with
  |sc hs=>cases y<;>first|(simp[scalar] at hs;done)|(cases hl;done)|simp[execOp,ho,hx]
  |fn hf h1 h2=>
   rename_i f c d c' d';cases f<;>first|(cases hf;done)|(cases hl;done)|simp[execOp,ho,hx]
  |no=>cases hl
  |tok=>cases hl
  |_=>simp[execOp,ho,hx]
end ops
end
section
variable[km]
variable{P:Program}{ρ:Ren}{F:Fr}{a:Act}{o:Oper}
theorem yj {op:BinOp}(wM:op=.eql\/op=.neq){t:TypeId}{x y:Operand}{u v:Value}{w:World}
  (h:(eqGuard .eql t (.tmp 0) (.tmp 0) u v).run P w=.ok () w):(eqGuard op t x y u v).run P w=.ok () w:=by
 have hx:(eqGuard op t x y u v).run P w=.ok () w\/(eqGuard op t x y u v).run P w=(eqGuard .eql t (.tmp 0) (.tmp 0) u v).run P w:=by
  rcases wM with rfl|rfl
  all_goals
   unfold eqGuard;cases u<;>cases v<;>first|(right;rfl)|skip
   cases x<;>cases y<;>first|(left;rfl)|(right;rfl)
 rcases hx with hx|hx;.exact hx
 .rw[hx,h]
theorem F8 {op:BinOp}(wM:op=.eql\/op=.neq){t:TypeId}{u v:Value}(h:(nv u&&nv v)=true):
  binOp op t u v=(do let r <-Op.equal t u v;pure (.bool (if op=.eql then r else !r))):=by
 rcases wM with rfl|rfl;all_goals cases u<;>cases v<;>first|rfl|(simp[nv] at h)
theorem run_eq {op:BinOp}(wM:op=.eql\/op=.neq){t:TypeId}{x y:Operand}{u v:Value}{r:Bool}(h:(nv u&&nv v)=true)
  {w:World} (hg:(eqGuard .eql t (.tmp 0) (.tmp 0) u v).run P w=.ok () w) (he:(Op.equal t u v).run P w=.ok r w):
  (do eqGuard op t x y u v;binOp op t u v:Sem Value).run P w=.ok (.bool (if op=.eql then r else !r)) w:=by
 rw[Sem.run_bind,yj wM hg,Result.andThen_ok,F8 wM h,Sem.run_bind,he];rcases wM with rfl|rfl<;>rfl
theorem a_ {t:TypeId}{u v:Value}(h:(∀cs ds,¬(u=.agg cs/\v=.agg ds))/\¬(u=.nilIface/\v=.nilIface))(w:World):
  (eqGuard .eql t (.tmp 0) (.tmp 0) u v).run P w=.ok () w:=by
 cases u<;>cases v<;>first|rfl|(exact absurd ⟨rfl,rfl⟩ (h.1 _ _))|(exact absurd ⟨rfl,rfl⟩ h.2)
theorem BK {t:TypeId}(h:jm P t=1):∃e,P.underlying t=some (.pointer e):=by
 unfold jm at h;split at h<;>first|(exact⟨_,‹_›⟩)|(simp at h)
theorem BL {t:TypeId}(h:jm P t=2):∃e,P.underlying t=some (.slice e):=by
 unfold jm at h;split at h<;>first|(exact⟨_,‹_›⟩)|(simp at h)
theorem BM {t:TypeId}(h:jm P t=3):∃k e,P.underlying t=some (.map k e):=by
 unfold jm at h;split at h<;>first|(exact⟨_,_,‹_›⟩)|(simp at h)
theorem BN {t:TypeId}(h:jm P t=4):∃k e v,P.underlying t=some (.func k e v):=by
 unfold jm at h;split at h<;>first|(exact⟨_,_,_,‹_›⟩)|(simp at h)
theorem F9 {t:TypeId}(h:jm P t=5):∃ms,P.underlying t=some (.interface ms):=by
 unfold jm at h;split at h<;>first|(exact⟨_,‹_›⟩)|(simp at h)
theorem qH {x:AV}{v:Value}(h:V ρ x v):kY x=0\/(kY x=1/\v=.pointer none)\/(kY x=2/\∃n c,v=.slice none n c)\/(kY x=3/\v=.map none)\/(kY x=4/\v=.nilFunc)\/(kY x=5/\v=.nilIface):=by
 cases h with
 |sc h=>
  cases v<;>first|(exact .inl rfl)|skip
  case pointer p=>cases p<;>first|(exact .inl rfl)|(exact .inr (.inl ⟨rfl,rfl⟩))
  case slice p n c=>cases p<;>first|(exact .inl rfl)|(exact .inr (.inr (.inl ⟨rfl,_,_,rfl⟩)))
  case map p=>cases p<;>first|(exact .inl rfl)|(exact .inr (.inr (.inr (.inl ⟨rfl,rfl⟩))))
  case nilFunc=>exact .inr (.inr (.inr (.inr (.inl ⟨rfl,rfl⟩))))
  case nilIface=>exact .inr (.inr (.inr (.inr (.inr ⟨rfl,rfl⟩))))
 |_=>exact .inl rfl
theorem zM {x:AV}{v:Value}(h:V ρ x v):zC x=0\/(zC x=1/\∃p,v=.pointer (some p))\/(zC x=2/\∃p n c,v=.slice (some p) n c)\/(zC x=3/\∃r,v=.map (some r))\/(zC x=4/\∃f b c,v=.func f b c)\/(zC x=5/\∃t u,v=.iface t u):=by
 cases h with
 |ptr _=>exact .inr (.inl ⟨rfl,_,rfl⟩)
 |sl _=>exact .inr (.inr (.inl ⟨rfl,_,_,_,rfl⟩))
 |op _ _ _ _=>exact .inr (.inr (.inl ⟨rfl,_,_,_,rfl⟩))
 |zH _=>exact .inr (.inr (.inl ⟨rfl,_,_,_,rfl⟩))
 |map _=>exact .inr (.inr (.inr (.inl ⟨rfl,_,rfl⟩)))
 |fn _ _ _=>exact .inr (.inr (.inr (.inr (.inl ⟨rfl,_,_,_,rfl⟩))))
 |yd _=>exact .inr (.inr (.inr (.inr (.inl ⟨rfl,_,_,_,rfl⟩))))
 |iface _=>exact .inr (.inr (.inr (.inr (.inr ⟨rfl,_,_,rfl⟩))))
 |_=>exact .inl rfl
theorem Es {t:TypeId}{x y:AV}{u v:Value}{r:Bool}(h:zD P t x y=some r)(hx:V ρ x u)(hy:V ρ y v):
  (nv u&&nv v)=true/\∀w,(eqGuard .eql t (.tmp 0) (.tmp 0) u v).run P w=.ok () w/\(Op.equal t u v).run P w=.ok r w:=by
 unfold zD at h;split at h
 .next hc=>
  cases h;simp only[Bool.and_eq_true] at hc;obtain⟨⟨h0,h1⟩,h2⟩:=hc;have h0:=Nat.le_of_ble_eq_true h0;have h1:=Nat.eq_of_beq_eq_true h1;have h2:=Nat.eq_of_beq_eq_true h2;rcases qH hx with e|⟨e,rfl⟩|⟨e,n,c,rfl⟩|⟨e,rfl⟩|⟨e,rfl⟩|⟨e,rfl⟩;.omega
  all_goals rcases zM hy with e'|⟨e',p,rfl⟩|⟨e',p,m,d,rfl⟩|⟨e',p,rfl⟩|⟨e',f,b,c,rfl⟩|⟨e',q,z,rfl⟩<;>try(exfalso;omega)
  .obtain⟨e,hu⟩:=BK (h2.symm.trans ‹_›);exact⟨rfl,λw=>⟨a_ ⟨ac,ac⟩ w,by show(Op.equalIn (9999+1) t _ _).run P w=_;generalize 9999=d9;simp[Op.equalIn,run_underlying hu]⟩⟩
  .obtain⟨e,hu⟩:=BL (h2.symm.trans ‹_›);exact⟨rfl,λw=>⟨a_ ⟨ac,ac⟩ w,by show(Op.equalIn (9999+1) t _ _).run P w=_;generalize 9999=d9;simp[Op.equalIn,run_underlying hu]⟩⟩
  .obtain⟨k,e,hu⟩:=BM (h2.symm.trans ‹_›);exact⟨rfl,λw=>⟨a_ ⟨ac,ac⟩ w,by show(Op.equalIn (9999+1) t _ _).run P w=_;generalize 9999=d9;simp[Op.equalIn,run_underlying hu]⟩⟩
  .obtain⟨k,e,_,hu⟩:=BN (h2.symm.trans ‹_›);exact⟨rfl,λw=>⟨a_ ⟨ac,ac⟩ w,by show(Op.equalIn (9999+1) t _ _).run P w=_;generalize 9999=d9;simp[Op.equalIn,run_underlying hu]⟩⟩
  .obtain⟨k,hu⟩:=F9 (h2.symm.trans ‹_›);exact⟨rfl,λw=>⟨a_ ⟨ac,ac⟩ w,by show(Op.equalIn (9999+1) t _ _).run P w=_;generalize 9999=d9;simp[Op.equalIn,run_underlying hu]⟩⟩
 .split at h
  .next hc=>
   cases h;simp only[Bool.and_eq_true] at hc;obtain⟨⟨h0,h1⟩,h2⟩:=hc;have h0:=Nat.le_of_ble_eq_true h0;have h1:=Nat.eq_of_beq_eq_true h1;have h2:=Nat.eq_of_beq_eq_true h2;rcases qH hy with e|⟨e,rfl⟩|⟨e,n,c,rfl⟩|⟨e,rfl⟩|⟨e,rfl⟩|⟨e,rfl⟩;.omega
   all_goals rcases zM hx with e'|⟨e',p,rfl⟩|⟨e',p,m,d,rfl⟩|⟨e',p,rfl⟩|⟨e',f,b,c,rfl⟩|⟨e',q,z,rfl⟩<;>try(exfalso;omega)
   .obtain⟨e,hu⟩:=BK (h2.symm.trans ‹_›);exact⟨rfl,λw=>⟨a_ ⟨ac,ac⟩ w,by show(Op.equalIn (9999+1) t _ _).run P w=_;generalize 9999=d9;simp[Op.equalIn,run_underlying hu]⟩⟩
   .obtain⟨e,hu⟩:=BL (h2.symm.trans ‹_›);exact⟨rfl,λw=>⟨a_ ⟨ac,ac⟩ w,by show(Op.equalIn (9999+1) t _ _).run P w=_;generalize 9999=d9;simp[Op.equalIn,run_underlying hu]⟩⟩
   .obtain⟨k,e,hu⟩:=BM (h2.symm.trans ‹_›);exact⟨rfl,λw=>⟨a_ ⟨ac,ac⟩ w,by show(Op.equalIn (9999+1) t _ _).run P w=_;generalize 9999=d9;simp[Op.equalIn,run_underlying hu]⟩⟩
   .obtain⟨k,e,_,hu⟩:=BN (h2.symm.trans ‹_›);exact⟨rfl,λw=>⟨a_ ⟨ac,ac⟩ w,by show(Op.equalIn (9999+1) t _ _).run P w=_;generalize 9999=d9;simp[Op.equalIn,run_underlying hu]⟩⟩
   .obtain⟨k,hu⟩:=F9 (h2.symm.trans ‹_›);exact⟨rfl,λw=>⟨a_ ⟨ac,ac⟩ w,by show(Op.equalIn (9999+1) t _ _).run P w=_;generalize 9999=d9;simp[Op.equalIn,run_underlying hu]⟩⟩
  .split at h
   .next hc=>
    cases h;simp only[Bool.and_eq_true] at hc;obtain⟨⟨⟨h0,h4⟩,h1⟩,h2⟩:=hc;have h0:=Nat.le_of_ble_eq_true h0;have h4:=Nat.le_of_ble_eq_true h4;have h1:=Nat.eq_of_beq_eq_true h1;have h2:=Nat.eq_of_beq_eq_true h2;rcases qH hx with e|⟨e,rfl⟩|⟨e,n,c,rfl⟩|⟨e,rfl⟩|⟨e,rfl⟩|⟨e,rfl⟩;.omega
    all_goals rcases qH hy with e'|⟨e',rfl⟩|⟨e',m,d,rfl⟩|⟨e',rfl⟩|⟨e',rfl⟩|⟨e',rfl⟩<;>try(exfalso;omega)
    .obtain⟨e,hu⟩:=BK (h2.symm.trans ‹_›);exact⟨rfl,λw=>⟨a_ ⟨ac,ac⟩ w,by show(Op.equalIn (9999+1) t _ _).run P w=_;generalize 9999=d9;simp[Op.equalIn,run_underlying hu]⟩⟩
    .obtain⟨e,hu⟩:=BL (h2.symm.trans ‹_›);exact⟨rfl,λw=>⟨a_ ⟨ac,ac⟩ w,by show(Op.equalIn (9999+1) t _ _).run P w=_;generalize 9999=d9;simp[Op.equalIn,run_underlying hu]⟩⟩
    .obtain⟨k,e,hu⟩:=BM (h2.symm.trans ‹_›);exact⟨rfl,λw=>⟨a_ ⟨ac,ac⟩ w,by show(Op.equalIn (9999+1) t _ _).run P w=_;generalize 9999=d9;simp[Op.equalIn,run_underlying hu]⟩⟩
    .obtain⟨k,e,_,hu⟩:=BN (h2.symm.trans ‹_›);exact⟨rfl,λw=>⟨a_ ⟨ac,ac⟩ w,by show(Op.equalIn (9999+1) t _ _).run P w=_;generalize 9999=d9;simp[Op.equalIn,run_underlying hu]⟩⟩
   .unfold JJ at h;split at h
    .next i p hp=>
     split at h
     .next j q hq=>
      split at h
      .next hc=>
       cases h;simp only[Bool.and_eq_true] at hc;have hij:=Nat.eq_of_beq_eq_true hc.1;subst hij;have hK:=hc.2;unfold LJ at hK;split at hK
       .next e hu=>
        split at hK
        .next inf hi=>
         have dH:=Nat.le_of_ble_eq_true hK;obtain⟨b,o1,l,hb,rfl⟩:=(gD hp▸hx).kH;obtain⟨b',o2,l',zr,rfl⟩:=(gD hq▸hy).kH;rw[hb] at zr;cases zr;refine⟨rfl,λw=>⟨a_ ⟨ac,ac⟩ w,?_⟩⟩;have gQ:¬inf.size=0:=am;have e1:(Nat.beq p q)=((⟨b,o1+p,none⟩:Addr)==⟨b,o1+q,none⟩):=by
          rw[Bool.eq_iff_iff,Nat.beq_eq,beq_iff_eq];constructor;.rintro rfl;rfl
          .intro h;injection h with h1 h2;omega
         show(Op.equalIn (9999+1) t _ _).run P w=_;generalize 9999=d9;simp[Op.equalIn,run_underlying hu,sizeOf,typeInfo,hi,gQ,sameAddr,e1]
        .cases hK
       .cases hK
      .cases h
     .cases h
    .split at h
     .next c d hc hd=>
      split at h
      .next hn=>
       have ex:=jB hc hx;have ey:=jB hd hy;subst ex ey;split at h;.next hg=>exact⟨hn,λw=>⟨gr hg w,gr h w⟩⟩
       .cases h
      .cases h
     .cases h
theorem QY (hF:FR ρ F a.tmps){op:BinOp}{t u:TypeId}{x y:Operand}{v:AV}{n:Bool}(wM:(op=.eql/\n=false)\/(op=.neq/\n=true))(ho:o.op=.binOp op t x y u)
  (h:Fy P t n (F.ev x) (F.ev y)=some v):Yields P ρ a o v:=by
 unfold Fy at h;cases hr:zD P t (F.ev x) (F.ev y) with
 |none=>simp[hr] at h
 |some r=>
  simp[hr] at h;obtain⟨h1,h2⟩:=Es hr (aB hF x) (aB hF y);rcases wM with⟨rfl,rfl⟩|⟨rfl,rfl⟩
  .subst h;refine⟨.bool r,.sc rfl,λw=>?_⟩;have:=run_eq (op:=.eql) (x:=x) (y:=y) (.inl rfl) h1 (h2 w).1 (h2 w).2;simp only[execOp,ho];rw[Sem.run_bind,this];rfl
  .subst h;refine⟨.bool (!r),.sc rfl,λw=>?_⟩;have:=run_eq (op:=.neq) (x:=x) (y:=y) (.inr rfl) h1 (h2 w).1 (h2 w).2;simp only[execOp,ho];rw[Sem.run_bind,this];rfl
end
section
variable[km]
variable{P:Program}{ρ:Ren}{F:Fr}{a:Act}{o:Oper}
theorem nG {want:Array (String×TypeId)}{P6:Array Method}:Instr.missingMethod want P6=none↔BC want P6=true:=by
 unfold Instr.missingMethod BC;generalize hl:want.toList.filter (λ(x:String×TypeId)=>match x with|(name,sig)=>!P6.any λm=>m.name==name&&m.sig==sig)=l;have BI:l=[]↔(want.toList.all λx=>P6.toList.any λm=>m.name==x.1&&m.sig==x.2)=true:=by
  rw[<-hl,List.filter_eq_nil_iff,List.all_eq_true];constructor
  .intro h x hx;have:=h x hx;simpa using this
  .intro h x hx;have:=h x hx;simpa using this
 rw[<-BI];cases l with
 |nil=>simp[Instr.least]
 |cons a r=>
  simp only[List.map_cons,reduceCtorEq,iff_false];intro h;cases hc:(a.1.contains (Char.ofNat 46)) with
  |true=>
   rw[List.partition_eq_filter_filter] at h;simp only[List.filter_cons,hc,if_true] at h;cases he:(Instr.least (List.filter (not∘λx=>x.contains (Char.ofNat 46)) (a.1::r.map (·.1)))) with
   |none=>simp_all[Instr.least]
   |some _=>simp_all[Instr.least]
  |false=>rw[List.partition_eq_filter_filter] at h;simp_all[List.filter_cons,Instr.least]
theorem gx (b o n:Nat):(⟨b,o,none⟩:Addr).add n=⟨b,o+n,none⟩:=Addr.add_mid b o n
theorem jL {t:TypeId}{zc:List AV}(h:fY P t=some zc):∃z,gT P t=some z/\odd z=false/\zc=z.cells:=by
 unfold fY at h;split at h
 .next z hz=>
  split at h;.cases h
  .next ho=>cases h;exact⟨z,hz,by simpa using ho,rfl⟩
 .cases h
theorem C8 (hF:FR ρ F a.tmps){t:TypeId}{parts:Array (Nat×Operand)}{z:AV}{zc:List AV}{ps:List (Nat×Nat×AV)}{v:AV}{place:Nat->Option (Nat×Nat)}(ho:o.op=.build t parts)
  (Wv:fY P t=some zc)
  (MV:(∃e n,P.underlying t=some (.array n e)/\∃s,aU P e=some s/\place=λi=>some (i*s,s))\/
    (∃fields places,P.underlying t=some (.struct fields)/\fields.toList.mapM (λf=>(P.info? f.type).map λi=>(f.offset,i.size))=some places/\place=λi=>places[i]?))
  (hp:partsOf F place parts.toList=some ps) (h:kZ zc ps=some v):Yields P ρ a o v:=by
 obtain⟨z,hz,nH,rfl⟩:=jL Wv;obtain⟨it,zv,Z5,U5,hof⟩:=gE hz;obtain⟨hc,h1⟩:=lT (ρ:=ρ) hof nH;unfold kZ at h;cases hf:fX z.cells ps with
 |none=>simp[hf] at h
 |some c=>
  simp[hf] at h;subst h;obtain⟨Fz,e1,e2,e3⟩:=pE hF parts.toList hp hf hc h1;have hb:P.built t (parts.map λ(i,x)=>(i,a.eval x)).toList=some Fz:=by
   have em:(parts.map λ(i,x)=>(i,a.eval x)).toList=parts.toList.map λp=>(p.1,a.eval p.2):=ac;rw[em];unfold Program.built;rcases MV with⟨e,n,hu,s,hs,rfl⟩|⟨fields,places,hu,sE,rfl⟩
   .obtain⟨ie,Jp,rfl⟩:=jK hs;simp only[Z5,hu,U5,Jp];exact e1
   .simp only[Z5,hu,U5,sE];have:(λx=>places.toArray[x]?)=λx:Nat=>places[x]?:=by funext x;simp
    rw[this];exact e1
  refine⟨.agg Fz,?_,λw=>?_⟩
  .have:=V.agg e2 e3;simpa using this
  .simp only[execOp,ho];rw[Sem.run_bind,run_build w t _ Fz hb];rfl
theorem JP (hF:FR ρ F a.tmps){t:TypeId}{fields:Array Field}{fd:Field}{i n:Nat}{x:Operand}{v:AV}(ho:o.op=.fieldAddr t x i)(ht:P.underlying t=some (.struct fields))
  (hf:fields[i]?=some fd) (hn:aU P fd.type=some n) (h0:n≠0) (h:x8 fd.offset (F.ev x)=some v):Yields P ρ a o v:=by
 unfold x8 at h;cases hp:iR (F.ev x) with
 |none=>simp[hp] at h
 |some p=>obtain⟨id,off⟩:=p;simp only[hp,Option.some.injEq] at h;subst h;obtain⟨b,o1,l,hb,hx⟩:=(gD hp▸aB hF x).kH;refine⟨_,.ptr hb,λw=>?_⟩;simp[execOp,ho,Instr.fieldAt,run_underlying ht,hf,hx,Instr.sureAddr,fieldPlace,eE hn,h0,gx,Nat.add_assoc]
theorem jM (w:World){t:TypeId}{x i:Value}{k:IntKind}{j len n b o1:Nat}{e:TypeId}(hi:i=.int k (j:Int))(hj:j<len)(hn:aU P e=some n)
  (h:(P.underlying t=some (.array len e)/\x=.pointer (some ⟨b,o1,none⟩))\/(P.underlying t=some (.slice e)/\∃c,x=.slice (some ⟨b,o1,none⟩) len c)):
  (Instr.indexAt t x i).run P w=.ok (.pointer (some ⟨b,o1+j*n,none⟩)) w:=by
 have h0:(0:Int)<=(j:Int)/\(j:Int)<(len:Int):=am;rcases h with⟨hu,rfl⟩|⟨hu,c,rfl⟩
 .simp only[Instr.indexAt,hi,asIntOf,Sem.run_bind,Sem.run_pure,Result.andThen_ok,run_underlying hu,Instr.sureAddr];by_cases hl:len<=1<;>simp[hl,run_underlying hu,h0,hj,eE hn,gx]
 .simp only[Instr.indexAt,hi,asIntOf,Sem.run_bind,Sem.run_pure,Result.andThen_ok,run_underlying hu];by_cases hl:len<=1<;>simp[hl,run_underlying hu,h0,hj,eE hn,gx]
theorem JQ (hF:FR ρ F a.tmps){t e:TypeId}{len n:Nat}{x i:Operand}{v:AV}(ho:o.op=.indexAddr t x i)(ht:P.underlying t=some (.array len e))
  (hn:aU P e=some n) (h:nw len n (F.ev x) (F.ev i)=some v):Yields P ρ a o v:=by
 unfold nw at h;cases hp:iR (F.ev x) with
 |none=>simp[hp] at h
 |some p=>
  obtain⟨id,off⟩:=p;cases hi:pq (F.ev i) len with
  |none=>simp[hp,hi] at h
  |some j=>simp only[hp,hi,Option.some.injEq] at h;subst h;obtain⟨b,o1,l,hb,hx⟩:=(gD hp▸aB hF x).kH;obtain⟨k,hk,hj⟩:=lR hi;have m_:=(hk▸aB hF i).fC;refine⟨_,.ptr hb,λw=>?_⟩;have:=jM (P:=P) w m_ hj hn (.inl ⟨ht,hx⟩);simp only[execOp,ho];rw[Sem.run_bind,this];simp[Nat.add_assoc]
theorem JR (hF:FR ρ F a.tmps){t e:TypeId}{n:Nat}{x i:Operand}{v:AV}(ho:o.op=.indexAddr t x i)(ht:P.underlying t=some (.slice e))
  (hn:aU P e=some n) (h:gi n (F.ev x) (F.ev i)=some v):Yields P ρ a o v:=by
 have hx:=aB hF x;unfold gi at h;split at h
 .next id off len cap e1=>
  rw[e1] at hx;cases hi:pq (F.ev i) len with
  |none=>simp[hi] at h
  |some j=>
   simp only[hi,Option.some.injEq] at h;subst h;obtain⟨k,hk,hj⟩:=lR hi;have m_:=(hk▸aB hF i).fC;generalize hy:a.eval x=y at*
   cases hx with
   |sl hb=>refine⟨_,.ptr hb,λw=>?_⟩;have:=jM (P:=P) w m_ hj hn (.inr ⟨ht,_,hy⟩);simp only[execOp,ho];rw[Sem.run_bind,this];simp[Nat.add_assoc]
 .next id off len cH es e1=>
  rw[e1] at hx;cases hi:pq (F.ev i) len with
  |none=>simp[hi] at h
  |some j=>
   simp only[hi,Option.some.injEq] at h;subst h;obtain⟨k,hk,hj⟩:=lR hi;have m_:=(hk▸aB hF i).fC;generalize hy:a.eval x=y at*
   cases hx with
   |op hb h0 h1 h2=>
    refine⟨_,.ptr hb,λw=>?_⟩;have:=jM (P:=P) w m_ hj hn (.inr ⟨ht,_,hy⟩);simp only[execOp,ho];rw[Sem.run_bind,this];simp[Nat.add_assoc]
   |zH hb=>omega
 .cases h
theorem zN (hF:FR ρ F a.tmps){c:Call}{t e:TypeId}{x:Operand}{v:AV}(ho:o.op=.call c)(cU:c.callee=.builtin .len)(cI:c.args=#[x])(jq:c.argTypes=#[t])
  (hu:P.underlying t=some (.slice e)) (h:Ei false (F.ev x)=some v):Yields P ρ a o v:=by
 have hx:=aB hF x;have key:∀{n:Nat} {p:Option Addr} {cp:Nat},a.eval x=.slice p n cp->∀w,(execOp a.eval o).run P w=.ok (.value (.int .i64 (n:Int))) w:=by intro n p cp e' w;simp[execOp,ho,resolve,cU,cI,jq,invoke,builtin,Builtin.len_,run_underlying hu,e',goInt]
 simp only[Ei] at h;split at h
 .next e1=>
  cases h;rw[e1] at hx;generalize hy:a.eval x=y at hx;cases hx with
  |sl hb=>exact⟨_,.sc rfl,key hy⟩
 .next e1=>
  cases h;rw[e1] at hx;generalize hy:a.eval x=y at hx;cases hx with
  |op hb h0 h1 h2=>exact⟨_,.sc rfl,key hy⟩
  |zH hb=>exact⟨_,.sc rfl,key hy⟩
 .next e1=>cases h;rw[e1] at hx;exact⟨_,.sc rfl,key hx.gn.1⟩
 .cases h
theorem yk (hF:FR ρ F a.tmps){c:Call}{t:TypeId}{x:Operand}{v:AV}(ho:o.op=.call c)(cU:c.callee=.builtin .len)(cI:c.args=#[x])(jq:c.argTypes=#[t])
  (hu:P.underlying t=some .string) (h:Ei true (F.ev x)=some v):Yields P ρ a o v:=by
 have hx:=aB hF x;simp only[Ei] at h;split at h
 .next s e1=>cases h;rw[e1] at hx;refine⟨_,.sc rfl,λw=>?_⟩;simp[execOp,ho,resolve,cU,cI,jq,invoke,builtin,Builtin.len_,run_underlying hu,hx.gn.1,goInt]
 .cases h
theorem sF {c:Call}{t:TypeId}{x:Operand}{n:Nat}(ho:o.op=.call c)(cU:c.callee=.builtin .len)(cI:c.args=#[x])(jq:c.argTypes=#[t])
  (hu:(∃e,P.underlying t=some (.array n e))\/∃arr e,P.underlying t=some (.pointer arr)/\P.underlying arr=some (.array n e)):Yields P ρ a o (.sc (.int .i64 n)):=by
 refine⟨.int .i64 n,.sc rfl,λw=>?_⟩;rcases hu with⟨e,hu⟩|⟨arr,e,hu,hv⟩;.simp[execOp,ho,resolve,cU,cI,jq,invoke,builtin,Builtin.len_,run_underlying hu,goInt]
 .simp[execOp,ho,resolve,cU,cI,jq,invoke,builtin,Builtin.len_,run_underlying hu,run_underlying hv,goInt]
theorem wN {m:Bool}{x y v:AV}{u z:Value}(h:oD m x y=some v)(hx:V ρ x u)(hy:V ρ y z):∃r,V ρ v r/\∀w,((if m then Builtin.max2 u z else Builtin.min2 u z)).run P w=.ok r w:=by
 unfold oD at h;split at h
 .next k b k' d=>
  cases h;have e1:=hx.fC;have e2:=hy.fC;subst e1 e2;cases m
  .refine⟨_,.sc rfl,λw=>?_⟩;by_cases de:d<b<;>simp[Builtin.min2,gj,de]
  .refine⟨_,.sc rfl,λw=>?_⟩;by_cases de:b<d<;>simp[Builtin.max2,gj,de]
 .cases h
theorem o5 {m:Bool}:∀{r:List AV} {rs:List Value} {x v:AV} {u:Value},r.foldlM (oD m) x=some v->V ρ x u->VL ρ r rs->
  ∃z,V ρ v z/\∀w,(rs.foldlM (if m then Builtin.max2 else Builtin.min2) u:Sem Value).run P w=.ok z w
 |[],_,x,v,u,h,hx,.nil=>by simp at h;subst h;exact⟨u,hx,λw=>ac⟩
 |y::r,z::rs,x,v,u,h,hx,.cons hy hr=>by
  simp only[List.foldlM_cons,Option.bind_eq_bind,Option.bind_eq_some_iff] at h;obtain⟨q,hq,h⟩:=h;obtain⟨q',h1,h2⟩:=wN (P:=P) hq hx hy;obtain⟨z',h3,h4⟩:=o5 h h1 hr;refine⟨z',h3,λw=>?_⟩;have:=h2 w;cases m
  .simp only[Bool.false_eq_true,if_false] at this h4⊢;simp[List.foldlM_cons,this,h4]
  .simp only[if_true] at this h4⊢;simp[List.foldlM_cons,this,h4]
theorem zO (hF:FR ρ F a.tmps){c:Call}{m:Bool}{v:AV}(ho:o.op=.call c)(cU:c.callee=.builtin (if m then .max else .min))(h:tO m (c.args.toList.map F.ev)=some v):Yields P ρ a o v:=by
 unfold tO at h;cases hl:c.args.toList with
 |nil=>simp[hl] at h
 |cons x r=>
  simp only[hl,List.map_cons] at h;obtain⟨z,h1,h2⟩:=o5 (P:=P) h (aB hF x) (jC hF r);refine⟨z,h1,λw=>?_⟩;have:=h2 w;have hm:(c.args.map a.eval).toList=a.eval x::r.map a.eval:=by simp[hl]
  cases m
  .simp only[Bool.false_eq_true,if_false] at cU this;simp[execOp,ho,resolve,cU,invoke,builtin,Builtin.min_,hm,this,hl]
  .simp only[if_true] at cU this;simp[execOp,ho,resolve,cU,invoke,builtin,Builtin.max_,hm,this,hl]
theorem rR {F:Fr}(hF:FR ρ F a.tmps){x:Option Operand}{d n m:Nat}(h:gq (x.map F.ev) d n=some m):
  (x=none/\m=d)\/(∃q,x=some q/\m<=n/\∀n' code w,m<=n'->(Instr.sliceBound (a.eval q) n' code).run P w=.ok m w):=by
 cases x with
 |none=>simp[gq] at h;exact .inl ⟨rfl,h.symm⟩
 |some q=>simp only[Option.map_some,gq] at h;obtain⟨k,hk,hm⟩:=xm h;have hq:=(hk▸aB hF q).fC;refine .inr ⟨q,rfl,hm,λn' code w hX=>?_⟩;rw[hq,run_sliceBound w k (m:Int) n' code am am];simp
theorem lU {lo hi mx:Option AV}{len cap l h m:Nat}(hb:k8 lo hi mx len cap=some (l,h,m)):
  gq mx cap cap=some m/\gq hi len m=some h/\gq lo 0 h=some l/\(mx.isSome=true->hi.isSome=true):=by
 unfold k8 at hb;cases h1:gq mx cap cap with
 |none=>simp[h1] at hb
 |some m'=>
  cases h2:gq hi len m' with
  |none=>simp[h1,h2] at hb
  |some h'=>
   cases h3:gq lo 0 h' with
   |none=>simp[h1,h2,h3] at hb
   |some l'=>
    simp only[h1,h2,h3] at hb;split at hb;.cases hb
    .next hn=>
     cases hb;refine⟨rfl,h2,h3,λhm=>?_⟩;cases hi with
     |some _=>rfl
     |none=>simp[hm] at hn
theorem mW (hF:FR ρ F a.tmps){QZ:Bool}{lo hi mx:Option Operand}{len cap yl l h m:Nat}(hb:k8 (lo.map F.ev) (hi.map F.ev) (mx.map F.ev) len cap=some (l,h,m))(hc:cap<=yl)(w:World):
  (Instr.sliceBounds QZ len yl (lo.map a.eval) (hi.map a.eval) (mx.map a.eval)).run P w=.ok (l,h,if mx.isSome then m else yl) w:=by
 obtain⟨h1,h2,h3,h4⟩:=lU hb;rcases rR (P:=P) hF h1 with⟨rfl,rfl⟩|⟨q1,rfl,g1,hq1⟩<;>rcases rR (P:=P) hF h2 with⟨rfl,rfl⟩|⟨q2,rfl,g2,FA⟩<;>
  rcases rR (P:=P) hF h3 with⟨rfl,rfl⟩|⟨q3,rfl,g3,hq3⟩
 all_goals first
  |(simp at h4;done)
  |(simp only[Instr.sliceBounds,Option.map_none,Option.map_some]
    simp only[Sem.run_bind,Sem.run_pure,Result.andThen_ok];repeat(first|rw[hq1 _ _ _ am]|rw[FA _ _ _ am]|rw[hq3 _ _ _ am]|simp only[Result.andThen_ok,Sem.run_bind,Sem.run_pure])
    try rfl)
theorem BO (hF:FR ρ F a.tmps){QZ:Bool}{lo hi mx:Option Operand}{len cap l h m:Nat}(hb:k8 (lo.map F.ev) (hi.map F.ev) (mx.map F.ev) len cap=some (l,h,m))(w:World):
  (Instr.sliceBounds QZ len cap (lo.map a.eval) (hi.map a.eval) (mx.map a.eval)).run P w=.ok (l,h,m) w:=by
 rw[mW hF hb (Nat.le_refl _)];obtain⟨h1,_⟩:=lU hb;cases mx with
 |some q=>rfl
 |none=>simp[gq] at h1;subst h1;rfl
theorem ym {lo hi mx:Option AV}{len cap l h m:Nat}(hb:k8 lo hi mx len cap=some (l,h,m))(hl:len<=cap):l<=h/\(hi=none->h=len)/\(hi≠none->h<=m)/\m<=cap:=by
 obtain⟨h1,h2,h3,h4⟩:=lU hb;have le:∀{x:Option AV} {d n r:Nat},gq x d n=some r->(x=none/\r=d)\/(x≠none/\r<=n):=by
  intro x d n r h;cases x with
  |none=>simp[gq] at h;exact .inl ⟨rfl,h.symm⟩
  |some q=>simp only[gq] at h;obtain⟨k,_,hm⟩:=xm h;exact .inr ⟨ac,hm⟩
 rcases le h1 with⟨e1,QW⟩|⟨e1,QW⟩<;>rcases le h2 with⟨e2,h2'⟩|⟨e2,h2'⟩<;>rcases le h3 with⟨e3,h3'⟩|⟨e3,h3'⟩<;>
  refine⟨am,λe=>?_,λe=>?_,am⟩<;>first|(exact absurd e e2)|(exact absurd e2 e)|omega
theorem zP (hF:FR ρ F a.tmps){t e:TypeId}{len n:Nat}{x:Operand}{lo hi mx:Option Operand}{v:AV}(ho:o.op=.slice t x lo hi mx)
  (ht:P.underlying t=some (.array len e)\/∃arr,P.underlying t=some (.pointer arr)/\P.underlying arr=some (.array len e))
  (hn:aU P e=some n) (h:kD len n (F.ev x) (lo.map F.ev) (hi.map F.ev) (mx.map F.ev)=some v):Yields P ρ a o v:=by
 have hx:=aB hF x;unfold kD at h;split at h
 .next id off e1=>
  rw[e1] at hx;obtain⟨b,o1,lm,hb,hx⟩:=hx.kH;split at h
  .next l hh m C9=>
   cases h;refine⟨.slice (some ⟨b,o1+(if Nat.beq m l then off else Nat.add off (Nat.mul l n)),none⟩) (hh-l) (m-l),.sl hb,λw=>?_⟩;have C_:=BO (P:=P) (QZ:=false) hF C9 w;have F_:(if m=l then(⟨b,o1+off,none⟩:Addr) else(⟨b,o1+off,none⟩:Addr).add (l*n))=⟨b,o1+(if Nat.beq m l then off else Nat.add off (Nat.mul l n)),none⟩:=by
    by_cases JS:m=l
    .have:Nat.beq m l=true:=by rw[Nat.beq_eq];exact JS
     rw[if_pos JS,if_pos this]
    .have:¬Nat.beq m l=true:=by rw[Nat.beq_eq];exact JS
     rw[if_neg JS,if_neg this,gx];simp[Nat.add_assoc]
   rcases ht with hu|⟨arr,hu,hv⟩;.simp[execOp,ho,Instr.sliceAt,run_underlying hu,hx,Instr.sureAddr,C_,eE hn,F_]
   .simp[execOp,ho,Instr.sliceAt,run_underlying hu,Instr.slice,hx,asAddr,run_underlying hv,C_,eE hn,F_]
  .cases h
 .cases h
theorem Ga (hF:FR ρ F a.tmps){t e:TypeId}{n:Nat}{x:Operand}{lo hi mx:Option Operand}{v:AV}(ho:o.op=.slice t x lo hi mx)
  (hu:P.underlying t=some (.slice e)) (hn:aU P e=some n) (h:dV n (F.ev x) (lo.map F.ev) (hi.map F.ev) (mx.map F.ev)=some v):Yields P ρ a o v:=by
 have hx:=aB hF x;have key:∀{p:Option Addr} {len cap yl l hh m:Nat},a.eval x=.slice p len yl->k8 (lo.map F.ev) (hi.map F.ev) (mx.map F.ev) len cap=some (l,hh,m)->cap<=yl->
   ∀w,(execOp a.eval o).run P w=.ok (.value (.slice (if(if mx.isSome then m else yl)=l then p else p.map (·.add (l*n))) (hh-l) ((if mx.isSome then m else yl)-l))) w:=by
  intro p len cap yl l hh m e1 C_ hc w;have:=mW (P:=P) (QZ:=true) hF C_ hc w;simp[execOp,ho,Instr.sliceAt,run_underlying hu,Instr.slice,e1,this,eE hn]
 have F_:∀(b o1 off l m:Nat),(if m=l then(some (⟨b,o1+off,none⟩:Addr)) else(some (⟨b,o1+off,none⟩:Addr)).map (·.add (l*n)))=some ⟨b,o1+(if Nat.beq m l then off else Nat.add off (Nat.mul l n)),none⟩:=by
  intro b o1 off l m;by_cases JS:m=l
  .have:Nat.beq m l=true:=by rw[Nat.beq_eq];exact JS
   rw[if_pos JS,if_pos this]
  .have:¬Nat.beq m l=true:=by rw[Nat.beq_eq];exact JS
   rw[if_neg JS,if_neg this,Option.map_some,gx];simp[Nat.add_assoc]
 have Z6:∀{len cap l hh m:Nat},k8 (lo.map F.ev) (hi.map F.ev) (mx.map F.ev) len cap=some (l,hh,m)->mx.isSome=false->m=cap:=by
  intro len cap l hh m hb hm;obtain⟨h1,_⟩:=lU hb;cases mx with
  |some q=>cases hm
  |none=>simp[gq] at h1;exact h1.symm
 unfold dV at h;split at h
 .next id off len cap e1=>
  rw[e1] at hx;generalize hy:a.eval x=y at hx;cases hx with
  |sl hb=>
   split at h
   .next l hh m C9=>
    cases h;refine⟨_,.sl hb,λw=>?_⟩;have:=key hy C9 (Nat.le_refl _) w;have hm:(if mx.isSome=true then m else cap)=m:=by
     cases hq:mx.isSome;.exact(Z6 C9 hq).symm
     .rfl
    rw[hm,F_] at this;exact this
   .cases h
 .next id off len cH es e1=>
  rw[e1] at hx;split at h
  .next zt=>
   have zt:=Nat.eq_of_beq_eq_true zt;subst zt;split at h
   .next l hh m C9=>
    generalize hy:a.eval x=y at hx;cases hx with
    |op hb h0 h1 h2=>
     rename_i b o1 lm cap;have hle:=ym C9 h0;have hk:=key hy C9 h1;cases mx with
     |some q=>
      simp only[Option.map_some] at h;simp only[Option.isSome_some,if_true] at hk;split at h
      .next hz=>
       have hz:=Nat.eq_of_beq_eq_true hz;subst hz;cases h;have hhi:hi.map F.ev≠none:=by obtain⟨_,_,_,g4⟩:=lU C9;intro e;have:=g4 ac;rw[e] at this;cases this
       have Z7:=hle.2.2.1 hhi;have Q0:hh=0:=am;have zQ:l=0:=am;have JT:m=0:=am;subst Q0 zQ JT;exact⟨_,.zH hb,λw=>by have:=hk w;simpa using this⟩
      .cases h;refine⟨_,.sl hb,λw=>?_⟩;have:=hk w;rw[F_] at this;exact this
     |none=>
      simp only[Option.map_none] at h;simp only[Option.isSome_none,Bool.false_eq_true,if_false] at hk;cases h;have hm:=Z6 C9 rfl;subst hm;have hhc:hh<=m:=by
       by_cases e:hi.map F.ev=none;.rw[hle.2.1 e];exact h0
       .exact hle.2.2.1 e
      by_cases dY:cap=l
      .have e1:hh-l=0:=am;have e2:m-l=0:=am;simp only[Nat.sub_eq,e1,e2];refine⟨_,.zH (x:=o1+off) hb,λw=>?_⟩;have:=hk w;rw[if_pos dY,e1,show cap-l=0 by omega] at this;exact this
      .refine⟨_,.op hb (by simp only[Nat.sub_eq];omega) (cap:=cap-l) (by simp only[Nat.sub_eq];omega) ?_,λw=>?_⟩
       .simp only[Nat.add_eq,Nat.mul_eq];have h3:(cap-l)*n=cap*n-l*n:=Nat.sub_mul _ _ _;have h4:l*n<=cap*n:=Nat.mul_le_mul_right _ am;omega
       .have:=hk w;rw[if_neg dY] at this;rw[this];simp[gx,Nat.add_assoc]
    |zH hb=>
     rename_i b o1 lm xx;have hle:=ym C9 (Nat.le_refl _);have hk:=key hy C9 (Nat.le_refl _);have Z7:hh<=0:=by
      by_cases e:hi.map F.ev=none;.rw[hle.2.1 e];exact Nat.le_refl _
      .have:=hle.2.2.1 e;omega
     have Q0:hh=0:=am;have zQ:l=0:=am;have JT:m=0:=am;subst Q0 zQ JT;have Qb:∀w,(execOp a.eval o).run P w=.ok (.value (.slice (some ⟨b,xx,none⟩) 0 0)) w:=λw=>by
      have:=hk w;cases mx<;>simpa using this
     cases mx with
     |some q=>
      simp only[Option.map_some] at h;cases h;exact⟨_,.zH hb,Qb⟩
     |none=>simp only[Option.map_none] at h;cases h;exact⟨_,.zH hb,Qb⟩
   .cases h
  .cases h
 .next e1=>
  rw[e1] at hx;have hy:=hx.gn.1;split at h
  .next p C9=>
   obtain⟨l,hh,m⟩:=p;cases h;have hle:=ym C9 (Nat.le_refl _);have hk:=key hy C9 (Nat.le_refl _);have Z7:hh<=0:=by
    by_cases e:hi.map F.ev=none;.rw[hle.2.1 e];exact Nat.le_refl _
    .have:=hle.2.2.1 e;omega
   have Q0:hh=0:=am;have zQ:l=0:=am;have JT:m=0:=am;subst Q0 zQ JT;refine⟨_,.sc rfl,λw=>?_⟩;have:=hk w;cases mx<;>simpa using this
  .cases h
 .cases h
theorem xp (hF:FR ρ F a.tmps){t u:TypeId}{x:Operand}{MG ok:Bool}{v:AV}(ho:o.op=.typeAssert x u t ok)
  (hi:∃d,P.underlying t=some d/\MG=(match d with|.interface _=>true|_=>false)) (h:iS P t MG ok (gT P t) (F.ev x)=some v):Yields P ρ a o v:=by
 have hx:=aB hF x;obtain⟨d,hu,JU⟩:=hi;have Gb:∀{z:AV},(if ok then(gT P t).map λz=>AV.ed [z,.sc (.bool false)] else none)=some z->ok=true/\∃zv,z=.ed [zv,.sc (.bool false)]/\gT P t=some zv:=by
  intro z hz;cases ok;.simp at hz
  .simp only[if_true,Option.map_eq_some_iff] at hz;obtain⟨zv,h1,h2⟩:=hz;exact⟨rfl,zv,h2.symm,h1⟩
 have mX:∀{zv:AV},gT P t=some zv->∃y,V ρ zv y/\∀w,(zeroValue t).run P w=.ok y w:=by intro zv hz;obtain⟨it,y,e1,e2,e3⟩:=gE hz;exact⟨y,lS e3,λw=>by simp[zeroValue,typeInfo,e1,e2]⟩
 unfold iS at h;simp only at h;split at h
 .next e1=>
  rw[e1] at hx;have hy:=hx.gn.1;obtain⟨rfl,zv,rfl,hz⟩:=Gb h;obtain⟨y,MW,Q1⟩:=mX hz;refine⟨.tuple #[y,.bool false],.ed (.cons MW (.cons (.sc rfl) .nil)),λw=>?_⟩;cases d<;>simp[execOp,ho,Instr.typeAssert,run_underlying hu,hy,Q1]
 .next u' v' e1=>
  rw[e1] at hx;generalize hy:a.eval x=y at hx;cases hx with
  |iface hv=>
   rename_i vv;split at h
   .next Gc=>
    rw[Gc] at JU;cases d<;>simp at JU
    rename_i want;split at h
    .next Z8 i hw MX=>
     rw[hu] at hw;cases hw;split at h
     .next qI=>
      cases h;cases ok
      .refine⟨.iface u' vv,(by simp only[Bool.false_eq_true,if_false,e1];exact .iface hv),λw=>?_⟩;have hn:Instr.missingMethod want i.methods=none:=nG.2 qI;simp[execOp,ho,Instr.typeAssert,run_underlying hu,hy,typeInfo,MX,hn]
      .refine⟨.tuple #[.iface u' vv,.bool true],.ed (.cons (by rw[e1];exact .iface hv) (.cons (.sc rfl) .nil)),λw=>?_⟩;have hn:Instr.missingMethod want i.methods=none:=nG.2 qI;simp[execOp,ho,Instr.typeAssert,run_underlying hu,hy,typeInfo,MX,hn]
     .next Q2=>
      obtain⟨rfl,zv,rfl,hz⟩:=Gb h;obtain⟨y,MW,Q1⟩:=mX hz;refine⟨.tuple #[y,.bool false],.ed (.cons MW (.cons (.sc rfl) .nil)),λw=>?_⟩;cases hm:Instr.missingMethod want i.methods with
      |none=>exact absurd (nG.1 hm) Q2
      |some m=>simp[execOp,ho,Instr.typeAssert,run_underlying hu,hy,typeInfo,MX,hm,Q1]
    .cases h
   .next Gc=>
    have hd:∀ms,d≠.interface ms:=λms e=>by subst e;simp at JU;exact Gc JU
    split at h
    .next heq=>
     have heq:u'=t:=by simpa using heq
     subst heq;cases h;cases ok
     .refine⟨vv,hv,λw=>?_⟩;cases d<;>first|(exact absurd rfl (hd _))|simp[execOp,ho,Instr.typeAssert,run_underlying hu,hy]
     .refine⟨.tuple #[vv,.bool true],.ed (.cons hv (.cons (.sc rfl) .nil)),λw=>?_⟩;cases d<;>first|(exact absurd rfl (hd _))|simp[execOp,ho,Instr.typeAssert,run_underlying hu,hy]
    .next gQ=>
     have gQ:¬u'=t:=by simpa using gQ
     obtain⟨rfl,zv,rfl,hz⟩:=Gb h;obtain⟨y,MW,Q1⟩:=mX hz;refine⟨.tuple #[y,.bool false],.ed (.cons MW (.cons (.sc rfl) .nil)),λw=>?_⟩;cases d<;>first|(exact absurd rfl (hd _))|simp[execOp,ho,Instr.typeAssert,run_underlying hu,hy,gQ,Q1]
 .cases h
theorem LN (hF:FR ρ F a.tmps){x:Operand}(ho:o.op=.move x\/o.op=.assign x):Yields P ρ a o (F.ev x):=
 ⟨_,aB hF x,λw=>by rcases ho with ho|ho<;>simp[execOp,ho]⟩
theorem JV (hF:FR ρ F a.tmps){t:TypeId}{d:TypeDesc}{x:Operand}(ho:o.op=.makeInterface t x)(hu:P.underlying t=some d)(hd:∀ms,d≠.interface ms):Yields P ρ a o (.iface t (F.ev x)):=
 ⟨_,.iface (aB hF x),λw=>by cases d<;>first|(exact absurd rfl (hd _))|simp[execOp,ho,Instr.makeInterface,run_underlying hu]⟩
theorem MY (hF:FR ρ F a.tmps){f:FuncId}{first cap:Array Operand}(ho:o.op=.makeFunc (.func f) first cap):Yields P ρ a o (.fn (.func f) (first.toList.map F.ev) (cap.toList.map F.ev)):=
 ⟨_,.fn rfl (jC hF first.toList) (jC hF cap.toList),λw=>by
   have e1:∀xs:Array Operand,(xs.toList.map a.eval).toArray=xs.map a.eval:=λxs=>by apply Array.ext';simp
   simp[execOp,ho,Instr.makeFunc,e1]⟩
end
section
variable[km]
variable{P:Program}{ρ:Ren}{F:Fr}{a:Act}{o:Oper}{S:AH}{w:World}
theorem cells?_some {id:Nat}{c:List AV}(h:S.cells? id=some c):S.get id=some (.row c)\/S.get id=some (.ro c):=by
 unfold AH.cells? at h;cases hg:S.get id with
 |none=>simp[hg] at h
 |some ob=>simp[hg] at h;rcases yc h with rfl|rfl<;>simp
theorem Et {id:Nat}{c:List AV}(h:S.row? id=some c):S.get id=some (.row c):=by
 unfold AH.row? at h;cases hg:S.get id with
 |none=>simp[hg] at h
 |some ob=>simp[hg] at h;rw[BG h]
theorem R.cells (hR:R P ρ S w){id b o1 l:Nat}{c:List AV}(h:S.cells? id=some c)(hi:ρ id=some (b,o1,l)):
  ∀(i:Nat) v,c[i]?=some v->∃x,w.cell? ⟨b,o1+i,none⟩=some x/\V ρ v x/\x.oneCell'=true:=by
 intro i v hv;rcases cells?_some h with hg|hg
 .obtain⟨c',e,h1,h2,h3,h4⟩:=hR.jb hg hi;obtain⟨x,e1,e2,e3⟩:=h4 i v hv;exact⟨x,by simp[World.cell?,h1,e1],e2,e3⟩
 .exact hR.jb hg hi i v hv
theorem JW {α β:Type}{Q:Nat->α->β->Prop}:∀(l:List α),(∀(i:Nat) v,l[i]?=some v->∃x,Q i v x)->∃xs:List β,xs.length=l.length/\∀(i:Nat) v x,l[i]?=some v->xs[i]?=some x->Q i v x:=by
 intro l;induction l generalizing Q with
 |nil=>intro _;exact⟨[],rfl,λi v x h=>by simp at h⟩
 |cons v l ih=>
  intro h;obtain⟨x,hx⟩:=h 0 v rfl;obtain⟨xs,h1,h2⟩:=ih (Q:=λi=>Q (i+1)) λi v hv=>h (i+1) v (by simpa using hv);refine⟨x::xs,by simp[h1],λi u y hu hy=>?_⟩;cases i with
  |zero=>simp at hu hy;subst hu hy;exact hx
  |succ i=>exact h2 i u y (by simpa using hu) (by simpa using hy)
theorem R.oG (hR:R P ρ S w){id b o1 l:Nat}{c:List AV}(h:S.cells? id=some c)(hi:ρ id=some (b,o1,l))(off n:Nat)(hl:off+n<=c.length):
  ∃xs:List Value,xs.length=n/\VL ρ ((c.drop off).take n) xs/\(∀x∈xs,x.oneCell'=true)/\∀(j:Nat) v,xs[j]?=some v->w.cell? ((⟨b,o1+off,none⟩:Addr).add j)=some v:=by
 have hc:=hR.cells h hi;obtain⟨xs,h1,h2⟩:=JW (Q:=λj v x=>w.cell? ⟨b,o1+off+j,none⟩=some x/\V ρ v x/\x.oneCell'=true) ((c.drop off).take n) λj v hv=>by
  have hj:j<n:=by have:=(List.getElem?_eq_some_iff.1 hv).1;simp at this;omega
  rw[List.getElem?_take,if_pos hj,List.getElem?_drop] at hv;obtain⟨x,e1,e2,e3⟩:=hc _ _ hv;exact⟨x,by rw[<-e1,Nat.add_assoc],e2,e3⟩
 have hlen:((c.drop off).take n).length=n:=by simp;omega
 refine⟨xs,am,VL.yf h1.symm λi v x e1 e2=>(h2 i v x e1 e2).2.1,λx hx=>?_,λj v hv=>?_⟩
 .obtain⟨i,ko,rfl⟩:=List.getElem_of_mem hx;have hv:((c.drop off).take n)[i]?=some (((c.drop off).take n)[i]' am):=List.getElem?_eq_getElem am;exact(h2 i _ _ hv ac).2.2
 .have hj:=(List.getElem?_eq_some_iff.1 hv).1;have hu:((c.drop off).take n)[j]?=some (((c.drop off).take n)[j]' am):=List.getElem?_eq_getElem am;rw[gx];exact(h2 j _ _ hu hv).1
def yn (P:Program)(ρ:Ren)(a:Act)(o:Oper)(v:AV)(w:World):Prop:=∃x,V ρ v x/\(execOp a.eval o).run P w=.ok (.value x) w
theorem xq (hR:R P ρ S w){t:TypeId}{n:Nat}{g:Bool}{p v:AV}{x:Value}(hn:aU P t=some n)(hg:eP P t=some g)(hx:V ρ p x)(h:mV S n g p=some v):
  ∃y,V ρ v y/\(Instr.loadAt t x).run P w=.ok y w:=by
 unfold mV at h;cases hp:iR p with
 |none=>simp[hp] at h
 |some q=>
  obtain⟨id,off⟩:=q;simp only[hp] at h;cases hc:S.cells? id with
  |none=>simp[hc] at h
  |some c=>
   simp only[hc] at h;obtain⟨b,o1,l,hb,rfl⟩:=(gD hp▸hx).kH;unfold gh at h;cases g with
   |true=>
    simp only at h;split at h
    .next hl=>
     cases h;have BI:off+n<=c.length:=by have:=Nat.le_of_ble_eq_true hl;rw[bK] at this;exact this
     obtain⟨xs,h1,h2,h3,h4⟩:=hR.oG hc hb off n BI;refine⟨.agg xs.toArray,?_,?_⟩;.rw[dK,eo];exact .agg h2 h3
     .have bX:=run_loadCells_list (P:=P) w ⟨b,o1+off,none⟩ xs h4;rw[h1] at bX;simp[Instr.loadAt,Instr.sureAddr,loadVar,kJ hg,eE hn,bX]
    .cases h
   |false=>simp only[oF] at h;obtain⟨x,e1,e2,e3⟩:=hR.cells hc hb _ _ h;refine⟨x,e2,?_⟩;simp[Instr.loadAt,Instr.sureAddr,loadVar,kJ hg,e1]
theorem MZ (hR:R P ρ S w)(hF:FR ρ F a.tmps){t:TypeId}{n:Nat}{g:Bool}{p:Operand}{v:AV}(ho:o.op=.load t p)(hn:aU P t=some n)(hg:eP P t=some g)
  (h:mV S n g (F.ev p)=some v):yn P ρ a o v w:=by
 obtain⟨y,h1,h2⟩:=xq hR hn hg (aB hF p) h;exact⟨y,h1,by simp[execOp,ho,h2]⟩
def Ge (ρ:Ren)(es:List (Value×AV))(gJ:List MapEntry):Prop:=gJ.length=es.length/\∀(i:Nat) k v,es[i]?=some (k,v)->∃e,gJ[i]?=some e/\e.key=k/\V ρ v e.val
theorem BP (hR:R P ρ S w){m:AV}{es:List (Value×AV)}{x:Value}(h:mapOf S m=some es)(hx:V ρ m x):
  (x=.map none/\es=[])\/(∃id b o1 l gJ clock,m=.map id/\ρ id=some (b,o1,l)/\S.get id=some (.map es)/\x=.map (some b)/\w.heap[b]?=some (.map gJ clock)/\Ge ρ es gJ.toList):=by
 unfold mapOf at h;split at h;.cases h;exact .inl ⟨hx.gn.1,rfl⟩
 .next id=>
  split at h
  .next es0 hg=>
   cases h;cases hx with
   |map hb=>obtain⟨gJ,clock,h1,h2,h3⟩:=hR.jb hg hb;exact .inr ⟨id,_,_,_,gJ,clock,rfl,hb,hg,rfl,h1,by simpa using h2,λi k v hi=>by obtain⟨e,a,b,c⟩:=h3 i k v hi;exact⟨e,by simpa using a,b,c⟩⟩
  .cases h
 .cases h
theorem zR {kt:TypeId}{x y:Value}{b:Bool}(h:xj P kt x y=some b)(w:World):(Op.equal kt x y).run P w=.ok b w:=by
 unfold xj at h;split at h
 .next d k p k' q hu=>
  split at h
  .next hk=>cases h;have:=nC hk;subst this;show(Op.equalIn (9999+1) kt _ _).run P w=_;generalize 9999=d9;simp[Op.equalIn,run_underlying hu,gl]
  .cases h
 .exact gr h w
def uE (ρ:Ren):Option (Nat×AV)->Option (Nat×Value)->Prop
 |none,none=>True
 |some (i,v),some (j,x)=>i=j/\V ρ v x
 |_,_=>False
theorem iU {kt:TypeId}{k:Value}(w:World):∀{es:List (Value×AV)} {gJ:List MapEntry} {i:Nat} {r:Option (Nat×AV)},qz P kt k es i=some r->Ge ρ es gJ->
  ∃r',(Instr.findAsking kt k gJ i).run P w=.ok r' w/\uE ρ r r'
 |[],gJ,i,r,h,he=>by
  simp[qz] at h;subst h;have:gJ=[]:=List.eq_nil_of_length_eq_zero he.1;subst this;exact⟨none,rfl,trivial⟩
 |(k',v)::es,gJ,i,r,h,he=>by
  cases gJ with
  |nil=>have:=he.1;simp at this
  |cons e gJ=>
   obtain⟨e0,h1,h2,h3⟩:=he.2 0 k' v rfl;simp at h1;subst h1;simp only[qz] at h;cases hk:xj P kt k k' with
   |none=>simp[hk] at h
   |some b=>
    have bX:=zR hk w;rw[<-h2] at bX;cases b with
    |true=>
     simp[hk] at h;subst h;exact⟨some (i,e.val),by simp[Instr.findAsking,bX],rfl,h3⟩
    |false=>simp only[hk] at h;have he':Ge ρ es gJ:=⟨by have:=he.1;simpa using this,λi k v hi=>by have:=he.2 (i+1) k v (by simpa using hi);simpa using this⟩;obtain⟨r',h4,h5⟩:=iU w h he';exact⟨r',by simp[Instr.findAsking,bX,h4],h5⟩
theorem wO {kt:TypeId}{d:TypeDesc}(hu:P.underlying kt=some d){x y:Value}{b:Bool}(h:Instr.sameNow d x y=some b)(w:World):(Op.equal kt x y).run P w=.ok b w:=by
 unfold Instr.sameNow at h;split at h
 .split at h
  .next hk=>cases h;subst hk;show(Op.equalIn (9999+1) kt _ _).run P w=_;generalize 9999=d9;simp[Op.equalIn,run_underlying hu]
  .cases h
 .cases h;show(Op.equalIn (9999+1) kt _ _).run P w=_;generalize 9999=d9;simp[Op.equalIn,run_underlying hu]
 .cases h;show(Op.equalIn (9999+1) kt _ _).run P w=_;generalize 9999=d9;simp[Op.equalIn,run_underlying hu]
 .cases h
theorem o6 {kt:TypeId}{d:TypeDesc}(hu:P.underlying kt=some d){k:Value}(w:World):∀{es:List MapEntry} {i:Nat} {r:Option (Nat×Value)},Instr.findNow d k es i=some r->
  (Instr.findAsking kt k es i).run P w=.ok r w
 |[],i,r,h=>by simp[Instr.findNow] at h;subst h;rfl
 |e::es,i,r,h=>by
  simp only[Instr.findNow] at h;cases hs:Instr.sameNow d k e.key with
  |none=>simp[hs] at h
  |some b=>
   have:=wO hu hs w;cases b with
   |true=>simp[hs] at h;subst h;simp[Instr.findAsking,this]
   |false=>simp only[hs] at h;simp[Instr.findAsking,this,o6 hu w h]
theorem iJ {kt:TypeId}{d:TypeDesc}(hu:P.underlying kt=some d){k:Value}{es:List MapEntry}{r:Option (Nat×Value)}(h:(Instr.findAsking kt k es).run P w=.ok r w):
  (Instr.findKey kt k es).run P w=.ok r w:=by
 unfold Instr.findKey;rw[Sem.run_bind,run_underlying hu,Result.andThen_ok];cases hn:Instr.findNow d k es 0 with
 |none=>exact h
 |some r'=>have:=o6 hu w hn;rw[this] at h;cases h;rfl
theorem sG {kt:TypeId}{e:Bool}{k:Value}(h:xk P kt e k=true)(w:World):(Instr.checkKey e 10000 kt k).run P w=.ok () w:=by
 unfold xk at h;cases hp:bj P (Instr.checkKey e 10000 kt k) with
 |none=>simp[hp] at h
 |some u=>exact gr hp w
theorem uF {b:Nat}{es:Array MapEntry}{clock:Nat}(h:w.heap[b]?=some (.map es clock)):(getObj b).run P w=.ok (.map es clock) w:=by simp[getObj,Sem.run,h]
theorem Gf (hR:R P ρ S w)(hF:FR ρ F a.tmps){t kt e:TypeId}{d:TypeDesc}{ok:Bool}{z:AV}{m k:Operand}{v:AV}(ho:o.op=.lookup t m k ok)(ht:P.underlying t=some (.map kt e))
  (hk:P.underlying kt=some d) (hz:gT P e=some z) (h:kE P S kt ok z (F.ev m) (F.ev k)=some v):yn P ρ a o v w:=by
 unfold kE at h;split at h
 .next kv es JX zt=>
  have ek:=jB JX (aB hF k);split at h
  .next hK=>
   have JY:=sG hK w;obtain⟨it,zv,e1,e2,e3⟩:=gE hz;have mX:(zeroValue e).run P w=.ok zv w:=by simp[zeroValue,typeInfo,e1,e2]
   obtain⟨gJ,qJ,Gg,bX⟩:∃gJ:Array MapEntry,Ge ρ es gJ.toList/\gJ.isEmpty=es.isEmpty/\
     ∀r',(Instr.findKey kt kv gJ.toList).run P w=.ok r' w->(execOp a.eval o).run P w=
      .ok (.value (let p:=(match r' with|some (_,v)=>(v,true)|none=>(zv,false));if ok then .tuple #[p.1,.bool p.2] else p.1)) w:=by
    rcases BP hR zt (aB hF m) with⟨em,rfl⟩|⟨id,b,o1,l,gJ,clock,_,hb,hg,em,hh,qJ⟩
    .refine⟨#[],⟨rfl,λi k v hi=>by simp at hi⟩,rfl,λr' pD=>?_⟩;simp only[List.isEmpty_nil] at JY;cases r' with
     |none=>simp[execOp,ho,Instr.lookup,run_underlying ht,em,ek,JY,pD,mX]
     |some q=>simp[execOp,ho,Instr.lookup,run_underlying ht,em,ek,JY,pD,mX]
    .have Q3:gJ.isEmpty=es.isEmpty:=by
      have:=qJ.1;simp at this;cases es with
      |nil=>simp at this;simp[this]
      |cons p es=>rw[List.isEmpty_cons,Array.isEmpty_eq_false_iff];intro e;rw[e] at this;simp at this
     refine⟨gJ,qJ,Q3,λr' pD=>?_⟩;rw[<-Q3] at JY;have Qc:=uF (P:=P) hh;cases r' with
     |none=>simp[execOp,ho,Instr.lookup,run_underlying ht,em,ek,Qc,JY,pD,mX]
     |some q=>simp[execOp,ho,Instr.lookup,run_underlying ht,em,ek,Qc,JY,pD,mX]
   split at h
   .next i u hf=>
    obtain⟨r',h1,h2⟩:=iU w hf qJ;cases r' with
    |none=>exact h2.elim
    |some q=>
     obtain⟨j,x⟩:=q;have:=bX _ (iJ hk h1);cases h;cases ok;.exact⟨x,h2.2,by simpa using this⟩
     .exact⟨_,.ed (.cons h2.2 (.cons (.sc rfl) .nil)),by simpa using this⟩
   .next hf=>
    obtain⟨r',h1,h2⟩:=iU w hf qJ;cases r' with
    |some q=>exact h2.elim
    |none=>
     have:=bX _ (iJ hk h1);cases h;cases ok;.exact⟨zv,lS e3,by simpa using this⟩
     .exact⟨_,.ed (.cons (lS e3) (.cons (.sc rfl) .nil)),by simpa using this⟩
   .cases h
  .cases h
 .cases h
end
section
variable[km]
variable{P:Program}{ρ:Ren}{F:Fr}{a:Act}{o:Oper}{S:AH}{w:World}
def df:fK->Option (AO×(Nat->AV))
 |.alloc cs=>some (.row cs,λid=>.ptr id 0)
 |.box x=>match odd x with
  |true=>none
  |false=>some (.row x.cells,λid=>.ptr id 0)
 |.nu es n zero parts=>match fX (cD zero n) parts with
  |some c=>match Nat.beq (ca c) (Nat.mul n es)&&Nat.beq (ca zero) es with
   |true=>some (.row c,λid=>.sl id 0 n n)
   |false=>none
  |none=>none
 |.gS es bytes zero len cap=>match asInt len with
  |some (_,l)=>match asInt cap with
   |some (_,c)=>match nat? l with
    |some l=>match nat? c with
     |some c=>match Nat.ble l c&&Nat.ble (Nat.mul bytes c) 140737488355328&&Nat.ble c 9223372036854775807&&Nat.beq (ca zero) es with
      |true=>some (.row (cD zero c),λid=>.sl id 0 l c)
      |false=>none
     |none=>none
    |none=>none
   |none=>none
  |none=>none
 |.xh=>some (.map [],λid=>.map id)
 |_=>none
theorem qK {o:fK}(h:o.kind=.alloc)(S:AH):evalOp P o S=match df o with
  |some (ob,f)=>some (f S.next,S.new ob)
  |none=>none:=by
 cases o<;>first|rfl|(cases h;done)|skip
 case box x=>
  show BD x S=_;simp only[BD,df];cases odd x<;>rfl
 case nu es n zero parts=>
  show jn es n zero parts S=_;simp only[jn,df];cases fX (cD zero n) parts with
  |none=>rfl
  |some c=>simp only;cases(Nat.beq (ca c) (Nat.mul n es)&&Nat.beq (ca zero) es)<;>rfl
 case gS es bytes zero len cap=>
  show jI es bytes zero len cap S=_;simp only[jI,df];cases asInt len with
  |none=>rfl
  |some p=>
   cases asInt cap with
   |none=>rfl
   |some q=>
    obtain⟨_,l⟩:=p;obtain⟨_,c⟩:=q;simp only;cases nat? l with
    |none=>rfl
    |some l=>
     cases nat? c with
     |none=>rfl
     |some c=>simp only;cases(Nat.ble l c&&Nat.ble (Nat.mul bytes c) 140737488355328&&Nat.ble c 9223372036854775807&&Nat.beq (ca zero) es)<;>rfl
theorem yo {o:fK}{ob:AO}{f:Nat->AV}(h:df o=some (ob,f)):pC ob=false:=by
 unfold df at h;split at h<;>(repeat' split at h)<;>first|(cases h;done)|(cases h;rfl)
def sH (P:Program)(ρ:Ren)(a:Act)(o:Oper)(ob:AO)(f:Nat->AV)(w:World):Prop:=
 ∃x w' l,(execOp a.eval o).run P w=.ok (.value x) w'/\sD w w'/\w'.heap.size=w.heap.size+1/\(∀b,b<w.heap.size->w'.heap[b]?=w.heap[b]?)/\
  ∀aZ id,ρ.le aZ->aZ id=some (w.heap.size,0,l)->V aZ (f id) x/\OR P aZ w' w.heap.size 0 l ob
theorem sI (w:World)(ob:Obj):sD w (w.alloc ob):=⟨rfl,rfl,rfl⟩
theorem alloc_old (w:World)(ob:Obj)(b:Nat)(h:b<w.heap.size):(w.alloc ob).heap[b]?=w.heap[b]?:=by show(w.heap.push ob)[b]?=_;simp[Array.getElem?_push,Nat.ne_of_lt h]
theorem nI (w:World)(ob:Obj):(w.alloc ob).heap[w.heap.size]?=some ob:=by show(w.heap.push ob)[w.heap.size]?=_;simp
theorem iv (w:World)(ob:Obj):(w.alloc ob).heap.size=w.heap.size+1:=by show(w.heap.push ob).size=_;simp
theorem oH {cells:List AV}{c:Array Value}{e:TypeId}{x:Value}{f:Nat->AV}(hc:VL ρ cells c.toList)(h1:∀y∈c.toList,y.oneCell'=true)
  (bX:(execOp a.eval o).run P w=.ok (.value x) (w.alloc (.cells c e)))
  (hv:∀aZ id,aZ id=some (w.heap.size,0,c.size)->V aZ (f id) x):sH P ρ a o (.row cells) f w:=by
 refine⟨x,_,c.size,bX,sI w _,iv w _,alloc_old w _,λaZ id hl bT=>⟨hv aZ id bT,c,e,nI w _,rfl,?_,λi v hi=>?_⟩⟩;.have:=hc.length;simp at this;omega
 .obtain⟨y,e1,e2⟩:=hc.get hi;refine⟨y,by simpa using e1,e2.mono hl,h1 y (List.mem_of_getElem? e1)⟩
theorem JZ {t:TypeId}{zc:List AV}(ho:o.op=.alloc t)(hz:fY P t=some zc):sH P ρ a o (.row zc) (λid=>.ptr id 0) w:=by obtain⟨z,Jq,nH,rfl⟩:=jL hz;obtain⟨it,zv,e1,e2,e3⟩:=gE Jq;obtain⟨hc,h1⟩:=lT (ρ:=ρ) e3 nH;refine oH (e:=t) hc h1 (x:=.pointer (some ⟨w.heap.size,0,none⟩)) ?_ λaZ id h=>V.ptr h;simp[execOp,ho,Instr.alloc,zeroValue,typeInfo,e1,e2,newVar,newRow]
theorem Q4 (hF:FR ρ F a.tmps){t:TypeId}{x:Operand}(ho:o.op=.box t x)(nH:odd (F.ev x)=false):sH P ρ a o (.row (F.ev x).cells) (λid=>.ptr id 0) w:=by obtain⟨hc,h1⟩:=(aB hF x).yh nH;refine oH (e:=t) hc h1 (x:=.pointer (some ⟨w.heap.size,0,none⟩)) ?_ λaZ id h=>V.ptr h;simp[execOp,ho,Instr.box,newVar,newRow]
theorem jN (z:List AV):∀n,(cD z n).length=n*z.length
 |0=>by simp[cD]
 |n+1=>by simp[cD,gB,jN z n,Nat.add_mul];omega
theorem sJ (z:List AV):∀(n i:Nat),i<n*z.length->(cD z n)[i]?=z[i%z.length]?
 |0,i,h=>by simp at h
 |n+1,i,h=>by
  simp only[cD,gB];by_cases hi:i<z.length;.rw[List.getElem?_append_left hi,Nat.mod_eq_of_lt hi]
  .rw[List.getElem?_append_right am,sJ z n (i-z.length) (by rw[Nat.add_mul] at h;omega)];congr 1;rw[<-Nat.mod_eq_sub_mod am]
theorem sK {z:List AV}{zs:Array Value}{es n m:Nat}(hz:VL ρ z zs.toList)(h1:∀y∈zs.toList,y.oneCell'=true)(zt:z.length=es)(hm:m=n*es):
  VL ρ (cD z n) ((Array.range m).map λi=>zs[i%zs.size]!).toList/\∀y∈((Array.range m).map λi=>zs[i%zs.size]!).toList,y.oneCell'=true:=by
 have hs:zs.size=es:=by have:=hz.length;simp at this;omega
 have jd:∀i,i<m->∃v x,z[i%es]?=some v/\zs[i%zs.size]! =x/\V ρ v x/\x.oneCell'=true:=by
  intro i hi;have Ww:0<es:=by
   rcases Nat.eq_zero_or_pos es with e|e;.subst e;simp at hm;omega
   .exact e
  have de:i%es<z.length:=by rw[zt];exact Nat.mod_lt _ Ww
  have hv:z[i%es]?=some z[i%es]:=List.getElem?_eq_getElem de;obtain⟨x,e1,e2⟩:=hz.get hv;refine⟨_,x,hv,?_,e2,h1 x (List.mem_of_getElem? e1)⟩;rw[hs];rw[Array.getElem?_toList] at e1;simp[getElem!_def,e1]
 refine⟨VL.yf (by simp[jN,zt,hm]) λi v x hi hx=>?_,λy hy=>?_⟩
 .have Wx:i<m:=by have:=(List.getElem?_eq_some_iff.1 hx).1;simpa using this
  rw[sJ z n i (by rw[zt,<-hm];exact Wx),zt] at hi;obtain⟨v',x',e1,e2,e3,e4⟩:=jd i Wx;rw[e1] at hi;cases hi;simp[Wx] at hx;rw[<-hx,e2];exact e3
 .simp only[Array.toList_map,Array.toList_range,List.mem_map,List.mem_range] at hy;obtain⟨i,hi,rfl⟩:=hy;obtain⟨v',x',e1,e2,e3,e4⟩:=jd i hi;rw[e2];exact e4
theorem Gh (hF:FR ρ F a.tmps){t e:TypeId}{len es:Nat}{parts:Array (Nat×Operand)}{zc c:List AV}{ps:List (Nat×Nat×AV)}(ho:o.op=.buildSlice t len parts)
  (hu:P.underlying t=some (.slice e)) (hn:aU P e=some es) (hz:fY P e=some zc) (hle:¬len*es>16777216) (hp:partsOf F (λi=>some (i*es,es)) parts.toList=some ps)
  (hf:fX (cD zc len) ps=some c) (hlen:ca c=len*es) (M0:ca zc=es):sH P ρ a o (.row c) (λid=>.sl id 0 len len) w:=by
 obtain⟨z,Jq,nH,rfl⟩:=jL hz;obtain⟨it,zv,e1,e2,e3⟩:=gE Jq;obtain⟨hc,h1⟩:=lT (ρ:=ρ) e3 nH;rw[bK] at hlen M0;obtain⟨ie,Jp,yp⟩:=jK hn;obtain⟨zs,U6,mX⟩:∃zs:Array Value,(VL ρ (cD z.cells len) ((Array.range (len*es)).map λi=>zs[i%zs.size]!).toList/\∀y∈((Array.range (len*es)).map λi=>zs[i%zs.size]!).toList,y.oneCell'=true)/\
   (if len*es=0 then pure #[] else do pure (<-zeroValue e).cells:Sem (Array Value)).run P w=.ok zs w:=by
  by_cases h0:len*es=0
  .refine⟨#[],⟨?_,?_⟩,by simp[h0]⟩
   .have:cD z.cells len=[]:=List.eq_nil_of_length_eq_zero (by rw[jN,M0,h0]);rw[this,h0];simpa using VL.nil
   .rw[h0];intro y hy;simp at hy
  .exact⟨zv.cells,sK hc h1 M0 rfl,by simp[h0,zeroValue,typeInfo,e1,e2]⟩
 obtain⟨Fz,g1,g2,g3⟩:=pE hF parts.toList hp hf U6.1 U6.2;have em:(parts.map λ(i,x)=>(i,a.eval x)).toList=parts.toList.map λp=>(p.1,a.eval p.2):=ac;have dH:Fz.size=len*es:=by have:=g2.length;simp at this;omega
 refine oH (e:=e) g2 g3 (x:=.slice (some ⟨w.heap.size,0,none⟩) len len) ?_ λaZ id h=>V.sl h;have Wy:¬(16777216<len*es):=hle;simp only[execOp,ho];rw[Sem.run_bind];have:(Instr.buildSlice t len (parts.map λ(i,x)=>(i,a.eval x))).run P w=.ok (.slice (some ⟨w.heap.size,0,none⟩) len len) (w.alloc (.cells Fz e)):=by
  unfold Instr.buildSlice;rw[Sem.run_bind,run_underlying hu,Result.andThen_ok];simp only;rw[Sem.run_bind,eE hn,Result.andThen_ok];simp only[em];simp only[show((2:Nat)^24)=16777216 from rfl,gt_iff_lt,Wy,if_false];by_cases h0:len*es=0
  .rw[if_pos h0,Sem.run_pure] at mX;injection mX with hq;subst hq;rw[if_pos h0,Sem.run_bind,Sem.run_pure,Result.andThen_ok];simp only[g1];simp[newRow]
  .have hq:zv.cells=zs:=by simpa[h0,zeroValue,typeInfo,e1,e2] using mX
   subst hq;have U5:(zeroValue e).run P w=.ok zv w:=by simp[zeroValue,typeInfo,e1,e2]
   rw[if_neg h0,Sem.run_bind,U5,Result.andThen_ok,Sem.run_bind,Sem.run_pure,Result.andThen_ok];simp only[g1];simp[newRow]
 rw[this];rfl
theorem Eu (hF:FR ρ F a.tmps){t e:TypeId}{es bytes l c:Nat}{x y:Operand}{zc:List AV}{k k':IntKind}(ho:o.op=.makeSlice t x y)(hu:P.underlying t=some (.slice e))
  (hn:aU P e=some es) (hb:iq P e=some bytes) (hz:fY P e=some zc) (hx:F.ev x=.sc (.int k (l:Int))) (hy:F.ev y=.sc (.int k' (c:Int))) (LO:l<=c) (hbc:bytes*c<=140737488355328)
  (abh:c<=9223372036854775807) (M0:ca zc=es):sH P ρ a o (.row (cD zc c)) (λid=>.sl id 0 l c) w:=by
 obtain⟨z,Jq,nH,rfl⟩:=jL hz;obtain⟨it,zv,e1,e2,e3⟩:=gE Jq;obtain⟨hc,h1⟩:=lT (ρ:=ρ) e3 nH;rw[bK] at M0;obtain⟨ie,Jp,rfl⟩:=jK hn;have M1:it=ie:=by rw[e1] at Jp;cases Jp;rfl
 subst M1;have Wz:it.bytes=bytes:=by unfold iq at hb;rw[e1] at hb;exact Option.some.inj hb
 have hex:=(hx▸aB hF x).fC;have Z9:=(hy▸aB hF y).fC;have Z_:=sK (n:=c) hc h1 M0 rfl;have hw:IntKind.i64.wrap (l:Int)=l:=ye .i64 l (by show l<=9223372036854775807;omega);have dL:IntKind.i64.wrap (c:Int)=c:=ye .i64 c (by show c<=9223372036854775807;omega);have Q5:zv.cells.size=it.size:=by have:=hc.length;simp at this;omega
 refine oH (e:=e) Z_.1 Z_.2 (x:=.slice (some ⟨w.heap.size,0,none⟩) l c) ?_ λaZ id h=>V.sl h;have n1:¬((c:Int)<0):=am;have n2:¬((281474976710656:Int)<(it.bytes:Int)*(c:Int)):=by rw[Wz,<-Int.natCast_mul];omega
 have n3:¬((l:Int)<0):=am;have n4:¬((c:Int)<(l:Int)):=am;by_cases h0:c*it.size=0;.simp[execOp,ho,Instr.makeSlice,run_underlying hu,hex,Z9,asInt,Go.asInt,asIntOf,typeInfo,e1,hw,dL,n1,n2,n3,n4,sizeOf,h0,newRow,Array.range_zero']
 .simp[execOp,ho,Instr.makeSlice,run_underlying hu,hex,Z9,asInt,Go.asInt,asIntOf,typeInfo,e1,hw,dL,n1,n2,n3,n4,sizeOf,h0,newRow,zeroValue,e2]
theorem J0 {t k e:TypeId}(ho:o.op=.makeMap t none):sH P ρ a o (.map []) (λid=>.map id) w:=by refine⟨.map (some w.heap.size),w.alloc (.map #[] 0),0,?_,sI w _,iv w _,alloc_old w _,λaZ id hl bT=>⟨.map bT,#[],0,nI w _,rfl,λi k v hi=>by simp at hi⟩⟩;simp[execOp,ho,Instr.makeMap]
end
end
end Go.cG
