/- The abstract machine: values, memory, operations, code; and each operation does what the model does. No condition. -/
import GoSem.Dispatch
import GoSem.Core.Region
import Derived.Laws.Append
import Derived.Laws.CopyRow
import Derived.Deep.MidRow
import Derived.WalkLawsBesides
import Derived.Laws.Slices
import Derived.Laws.Tables
import Derived.Laws.MakeOwn
set_option linter.all false
set_option maxRecDepth 100000
set_option maxHeartbeats 4000000
namespace Go.cY
noncomputable section
section
inductive T (α:Type) where
 |e
 |n (l:T α)(v:Option α)(r:T α)
namespace T
variable{α:Type}
def get:T α→Nat→Option α
 |.e,_=>none
 |.n l v r,k=>
  match k with
  |0=>v
  |k+1=>if Nat.beq (Nat.mod k 2) 0 then l.get (Nat.div k 2) else r.get (Nat.div k 2)
def oZ:Nat→T α→Nat→Option α→T α
 |0,t,_,_=>t
 |f+1,t,k,x=>
  match t with
  |.e=>
   match k with
   |0=>.n .e x .e
   |k+1=>if Nat.beq (Nat.mod k 2) 0 then .n (oZ f .e (Nat.div k 2) x) none .e else .n .e none (oZ f .e (Nat.div k 2) x)
  |.n l v r=>
   match k with
   |0=>.n l x r
   |k+1=>if Nat.beq (Nat.mod k 2) 0 then .n (oZ f l (Nat.div k 2) x) v r else .n l v (oZ f r (Nat.div k 2) x)
def set (t:T α)(k:Nat)(x:α):T α:=oZ (k+1) t k (some x)
end T
inductive AV where
 |sc (v:Value)
 |ptr (id off:Nat)
 |sl (id off len cap:Nat)
 |op (id off len cO es:Nat)
 |map (id:Nat)
 |fn (f:Fn)(first cap:List AV)
 |yd (l:Nat)
 |iface (t:TypeId)(v:AV)
 |agg (cs:List AV)
 |cP (vs:List AV)
 |no
 |tok (i:Nat)
 deriving Inhabited
inductive Tag where
 |normal|exit (id:Nat)|goto (l:Nat)|ret
 deriving DecidableEq,Inhabited,Repr
inductive fV where
 |mv (x:AV)
 |pick (c a b:AV)
 |bin (op:BinOp)(x y:AV)
 |conv(k:IntKind)(x:AV)
 |part (off n:Nat)(agg:Bool)(x:AV)
 |Ct (len es:Nat)(agg:Bool)(x i:AV)
 |JX (x i:AV)
 |build (zero:List AV)(parts:List (Nat×Nat×AV))
 |nN (off:Nat)(x:AV)
 |xZ (len es:Nat)(x i:AV)
 |fu (es:Nat)(x i:AV)
 |n8 (len es:Nat)(x:AV)(lo hi mx:Option AV)
 |n9 (es:Nat)(x:AV)(lo hi mx:Option AV)
 |sF (x:AV)(lo hi:Option AV)
 |extract (i:Nat)(x:AV)
 |n_ (x:AV)
 |len (str:Bool)(x:AV)
 |cap (x:AV)
 |qo (isMax:Bool)(xs:List AV)
 |load (n:Nat)(agg:Bool)(p:AV)
 |wG (m:AV)
 |alloc (cells:List AV)
 |box (x:AV)
 |kU (es n:Nat)(zero:List AV)(parts:List (Nat×Nat×AV))
 |kV (es bytes:Nat)(zero:List AV)(len cap:AV)
 |Bk
 |store (n:Nat)(p v:AV)
 |append (es bytes:Nat)(s x:AV)
 |copy (es:Nat)(d s:AV)
 |clear(es:Nat)(zero:List AV)(x:AV)
 |eq (t:TypeId)(neg:Bool)(x y:AV)
 |un (op:UnOp)(x:AV)
 |kW (asserted:TypeId)(JY:Bool)(Hb:Bool)(zero:Option AV)(x:AV)
 |lookup (kt:TypeId)(Hb:Bool)(zero:AV)(m k:AV)
 |zQ (kt:TypeId)(m k v:AV)
 |zR (kt:TypeId)(m k:AV)
 deriving Inhabited
inductive AC where
 |ret (t:Tag)(vs:List AV)
 |op (o:fV)(k:AV→AC)
 |sG (g:AV)(b:Bool)(o:fV)(k:AV→AC)
 |kA (o:fV)(v:AV)(k:AC)
 |zS (g:AV)(b:Bool)(o:fV)(v:AV)(k:AC)
 |ite (c:AV)(a b:AC)
 |call (f:AV)(args:List AV)(k:AV→AC)
 |hG (g:AV)(b:Bool)(f:AV)(args:List AV)(k:AV→AC)
 |bind (m:AC)(id:Option Nat)(k:List AV→AC)(outs:List AV→List AV)
 |loop (init:List AV)(body:List AV→AC)(outs:List AV→List AV)
 |Cu (n:Nat)(f:AV)(body:List AV→AC)(k:AC)(outs:List AV)
 |fin (m:AC)(k:List AV→AC)
 |start (l:AV)(k:AC)
 |fail
inductive AO where
 |row (cells:List AV)
 |ro (cells:List AV)
 |map (es:List (Value×AV))
 |loop (st:LoopState)(de:Option Tag)(n:Nat)(body:List AV→AC)
structure AH where
 t:T AO
 next:Nat
noncomputable def fN:T AO→Nat→Option AO:=
 T.rec (motive:=fun _=>Nat→Option AO) (fun _=>none) fun _ v _ il ir k=>Nat.rec (motive:=fun _=>Option AO) v (fun k _=>Bool.rec (motive:=fun _=>Option AO) (ir (Nat.div k 2)) (il (Nat.div k 2)) (Nat.beq (Nat.mod k 2) 0)) k
noncomputable def uG (x:Option AO):Nat→Nat→T AO:=
 Nat.rec (motive:=fun _=>Nat→T AO) (fun _=>.e) fun _ ih k=>Nat.rec (motive:=fun _=>T AO) (.n .e x .e) (fun k _=>Bool.rec (motive:=fun _=>T AO) (.n .e none (ih (Nat.div k 2))) (.n (ih (Nat.div k 2)) none .e) (Nat.beq (Nat.mod k 2) 0)) k
noncomputable def Cv (x:Option AO):T AO→Nat→T AO:=
 T.rec (motive:=fun _=>Nat→T AO) (fun k=>uG x (Nat.succ k) k) fun l v r il ir k=>Nat.rec (motive:=fun _=>T AO) (.n l x r) (fun k _=>Bool.rec (motive:=fun _=>T AO) (.n l v (ir (Nat.div k 2))) (.n (il (Nat.div k 2)) v r) (Nat.beq (Nat.mod k 2) 0)) k
noncomputable def AH.get (S:AH) (id:Nat):Option AO:=fN S.t id
noncomputable def put (x:Option AO) (t:T AO) (k:Nat):T AO:=Cv x t k
def AH.set (S:AH)(id:Nat)(o:AO):AH:=⟨put (some o) S.t id,S.next⟩
def AH.kill (S:AH)(id:Nat):AH:=⟨put none S.t id,S.next⟩
def AH.new (S:AH)(o:AO):AH:=⟨put (some o) S.t S.next,Nat.succ S.next⟩
def uv:AV:=.cP []
def nth:List AV→Nat→AV
 |[],_=>.no
 |v::_,0=>v
 |_::r,n+1=>nth r n
def scalar:Value→Bool
 |.bool _|.int ..|.float ..|.complex ..|.string _|.pointer none|.slice none 0 0|.map none|.nilFunc|.nilIface=>true
 |_=>false
def o0 (f:Value→Option AV):List Value→Option (List AV)
 |[]=>some []
 |v::r=>match f v,o0 f r with
  |some a,some b=>some (a::b)
  |_,_=>none
def one?:Option AV→Option AV
 |some (.agg _)|some (.cP _)|some .no=>none
 |o=>o
def rM:Nat→Value→Option AV
 |0,_=>none
 |n+1,.agg cs=>(o0 (fun v=>one? (rM n v)) cs.toList).map .agg
 |n+1,.tuple cs=>(o0 (rM n) cs.toList).map .cP
 |n+1,.iface t v=>(rM n v).map (.iface t)
 |n+1,.func (.func f) a b=>match o0 (rM n) a.toList,o0 (rM n) b.toList with
  |some a,some b=>some (.fn (.func f) a b)
  |_,_=>none
 |_+1,v=>if scalar v then some (.sc v) else none
mutual
def qu:AV→Option Value
 |.sc v=>some v
 |.agg cs=>(rN cs).map fun l=>.agg l.toArray
 |.iface t v=>(qu v).map (.iface t)
 |_=>none
def rN:List AV→Option (List Value)
 |[]=>some []
 |v::r=>match qu v,rN r with
  |some a,some b=>some (a::b)
  |_,_=>none
end
def bm {α:Type}(P:Program):Sem α→Option α
 |.pure a=>some a
 |.program k=>bm P (k P)
 |.mark _ k=>bm P k
 |_=>none
noncomputable def kX:Value→Option (IntKind×Int):=
 Value.rec (motive_1:=fun _=>Option (IntKind×Int)) (motive_2:=fun _=>Unit) (motive_3:=fun _=>Unit)
  (fun _=>none) (fun k n=>some (k,n)) (fun _ _=>none) (fun _ _ _=>none) (fun _=>none) (fun _=>none) (fun _ _ _=>none) (fun _=>none) (fun _=>none)
  (fun _ _ _ _ _=>none) none (fun _ _ _=>none) none (fun _ _=>none) (fun _ _=>none) (fun _ _=>()) () (fun _ _ _ _=>())
noncomputable def asInt:AV→Option (IntKind×Int):=
 AV.rec (motive_1:=fun _=>Option (IntKind×Int)) (motive_2:=fun _=>Unit)
  (fun v=>kX v) (fun _ _=>none) (fun _ _ _ _=>none) (fun _ _ _ _ _=>none) (fun _=>none) (fun _ _ _ _ _=>none) (fun _=>none) (fun _ _ _=>none) (fun _ _=>none) (fun _ _=>none) none (fun _=>none) () (fun _ _ _ _=>())
noncomputable def I5:Value→Option Bool:=
 Value.rec (motive_1:=fun _=>Option Bool) (motive_2:=fun _=>Unit) (motive_3:=fun _=>Unit)
  (fun b=>some b) (fun _ _=>none) (fun _ _=>none) (fun _ _ _=>none) (fun _=>none) (fun _=>none) (fun _ _ _=>none) (fun _=>none) (fun _=>none)
  (fun _ _ _ _ _=>none) none (fun _ _ _=>none) none (fun _ _=>none) (fun _ _=>none) (fun _ _=>()) () (fun _ _ _ _=>())
noncomputable def asBool:AV→Option Bool:=
 AV.rec (motive_1:=fun _=>Option Bool) (motive_2:=fun _=>Unit)
  (fun v=>I5 v) (fun _ _=>none) (fun _ _ _ _=>none) (fun _ _ _ _ _=>none) (fun _=>none) (fun _ _ _ _ _=>none) (fun _=>none) (fun _ _ _=>none) (fun _ _=>none) (fun _ _=>none) none (fun _=>none) () (fun _ _ _ _=>())
noncomputable def hH:AV→Option (Nat×Nat):=
 AV.rec (motive_1:=fun _=>Option (Nat×Nat)) (motive_2:=fun _=>Unit)
  (fun _=>none) (fun i o=>some (i,o)) (fun _ _ _ _=>none) (fun _ _ _ _ _=>none) (fun _=>none) (fun _ _ _ _ _=>none) (fun _=>none) (fun _ _ _=>none) (fun _ _=>none) (fun _ _=>none) none (fun _=>none) () (fun _ _ _ _=>())
noncomputable def asAgg:AV→Option (List AV):=
 AV.rec (motive_1:=fun _=>Option (List AV)) (motive_2:=fun _=>Unit)
  (fun _=>none) (fun _ _=>none) (fun _ _ _ _=>none) (fun _ _ _ _ _=>none) (fun _=>none) (fun _ _ _ _ _=>none) (fun _=>none) (fun _ _ _=>none) (fun cs _=>some cs) (fun _ _=>none) none (fun _=>none) () (fun _ _ _ _=>())
noncomputable def Bl:AV→Option (List AV):=
 AV.rec (motive_1:=fun _=>Option (List AV)) (motive_2:=fun _=>Unit)
  (fun _=>none) (fun _ _=>none) (fun _ _ _ _=>none) (fun _ _ _ _ _=>none) (fun _=>none) (fun _ _ _ _ _=>none) (fun _=>none) (fun _ _ _=>none) (fun _ _=>none) (fun cs _=>some cs) none (fun _=>none) () (fun _ _ _ _=>())
noncomputable def NG:Value→Bool:=
 Value.rec (motive_1:=fun _=>Bool) (motive_2:=fun _=>Unit) (motive_3:=fun _=>Unit)
  (fun _=>true) (fun _ _=>true) (fun _ _=>true) (fun _ _ _=>true) (fun _=>true) (fun _=>false) (fun _ _ _=>true) (fun _=>true) (fun _=>true)
  (fun _ _ _ _ _=>false) false (fun _ _ _=>true) false (fun _ _=>true) (fun _ _=>true) (fun _ _=>()) () (fun _ _ _ _=>())
noncomputable def NH:Fn→Bool:=Fn.rec (motive:=fun _=>Bool) (fun _=>true) (fun _=>false) (fun _ _=>true) (fun _ _ _ _=>true) (fun _=>true)
noncomputable def live:AV→Bool:=
 AV.rec (motive_1:=fun _=>Bool) (motive_2:=fun _=>Unit)
  (fun v=>NG v) (fun _ _=>true) (fun _ _ _ _=>true) (fun _ _ _ _ _=>true) (fun _=>true) (fun f _ _ _ _=>NH f) (fun _=>true) (fun _ _ _=>true) (fun _ _=>true) (fun _ _=>true) false (fun _=>false) () (fun _ _ _ _=>())
noncomputable def AV.cells (v:AV):List AV:=
 AV.rec (motive_1:=fun _=>List AV→List AV) (motive_2:=fun _=>Unit)
  (fun _ l=>l) (fun _ _ l=>l) (fun _ _ _ _ l=>l) (fun _ _ _ _ _ l=>l) (fun _ l=>l) (fun _ _ _ _ _ l=>l) (fun _ l=>l) (fun _ _ _ l=>l) (fun cs _ _=>cs) (fun _ _ l=>l) (fun l=>l) (fun _ l=>l) () (fun _ _ _ _=>()) v [v]
noncomputable def ep:AV→Bool:=
 AV.rec (motive_1:=fun _=>Bool) (motive_2:=fun _=>Unit)
  (fun _=>false) (fun _ _=>false) (fun _ _ _ _=>false) (fun _ _ _ _ _=>false) (fun _=>false) (fun _ _ _ _ _=>false) (fun _=>false) (fun _ _ _=>false) (fun _ _=>false) (fun _ _=>true) true (fun _=>false) () (fun _ _ _ _=>())
noncomputable def I6:AO→Option (List AV):=
 AO.rec (motive:=fun _=>Option (List AV)) (fun l=>some l) (fun _=>none) (fun _=>none) (fun _ _ _ _=>none)
noncomputable def Bm:AO→Option (List AV):=
 AO.rec (motive:=fun _=>Option (List AV)) (fun l=>some l) (fun l=>some l) (fun _=>none) (fun _ _ _ _=>none)
noncomputable def I7:IntKind→Nat:=IntKind.rec (motive:=fun _=>Nat) 0 1 2 3 4 5 6 7
def mn (j k:IntKind):Bool:=Nat.beq (I7 j) (I7 k)
noncomputable def DP:IntKind→Nat:=IntKind.rec (motive:=fun _=>Nat) 127 32767 2147483647 9223372036854775807 255 65535 4294967295 18446744073709551615
def fw (k:IntKind)(n:Int):Int:=
 match n with
 |.ofNat a=>match Nat.ble a (DP k) with
  |true=>.ofNat a
  |false=>IntKind.wrap k (.ofNat a)
 |.negSucc a=>IntKind.wrap k (.negSucc a)
noncomputable def XO:Int→Int→Bool:=
 Int.rec (motive:=fun _=>Int→Bool)
  (fun a=>Int.rec (motive:=fun _=>Bool) (fun b=>Nat.ble (Nat.succ a) b) (fun _=>false))
  (fun a=>Int.rec (motive:=fun _=>Bool) (fun _=>true) (fun b=>Nat.ble (Nat.succ b) a))
noncomputable def Dz (a b:Int):Bool:=XO a b
noncomputable def XP:Int→Int→Bool:=
 Int.rec (motive:=fun _=>Int→Bool)
  (fun a=>Int.rec (motive:=fun _=>Bool) (fun b=>Nat.beq a b) (fun _=>false))
  (fun a=>Int.rec (motive:=fun _=>Bool) (fun _=>false) (fun b=>Nat.beq a b))
noncomputable def G1 (a b:Int):Bool:=XP a b
def cZ (f:IntKind→Int→Int→Option AV)(x y:AV):Option AV:=
 match asInt x with
 |some (k,a)=>match asInt y with
  |some (k',b)=>match mn k k' with
   |true=>f k a b
   |false=>none
  |none=>none
 |none=>none
def uH (f:ByteArray→ByteArray→Option AV)(x y:AV):Option AV:=
 match x,y with
 |.sc (.string a),.sc (.string b)=>f a b
 |_,_=>none
def either (a b:Option AV):Option AV:=
 match a with
 |some v=>some v
 |none=>b
def SJ (x y:AV):Option AV:=either (cZ (fun k a b=>some (.sc (.int k (fw k (Int.add a b))))) x y) (uH (fun a b=>if a.size+b.size≤9223372036854775807 then some (.sc (.string (a++b))) else none) x y)
def JZ (x y:AV):Option AV:=cZ (fun k a b=>some (.sc (.int k (fw k (Int.sub a b))))) x y
def J0 (x y:AV):Option AV:=cZ (fun k a b=>some (.sc (.int k (fw k (Int.mul a b))))) x y
def J1 (x y:AV):Option AV:=cZ (fun k a b=>if G1 b 0 then none else some (.sc (.int k (fw k (a.tdiv b))))) x y
def J2 (x y:AV):Option AV:=cZ (fun k a b=>if G1 b 0 then none else some (.sc (.int k (a.tmod b)))) x y
def DR (x y:AV):Option AV:=cZ (fun k a b=>some (.sc (.int k (fw k ((BitVec.ofInt k.bits a&&&BitVec.ofInt k.bits b).toNat))))) x y
def SK (x y:AV):Option AV:=cZ (fun k a b=>some (.sc (.int k (fw k ((BitVec.ofInt k.bits a|||BitVec.ofInt k.bits b).toNat))))) x y
def SL (x y:AV):Option AV:=cZ (fun k a b=>some (.sc (.int k (fw k ((BitVec.ofInt k.bits a^^^BitVec.ofInt k.bits b).toNat))))) x y
def o4 (x y:AV):Option AV:=cZ (fun k a b=>some (.sc (.int k (fw k ((BitVec.ofInt k.bits a&&&~~~BitVec.ofInt k.bits b).toNat))))) x y
def DS (x y:AV):Option AV:=
 match x,y with
 |.sc (.int k a),.sc (.int _ b)=>if Dz b 0 then none else some (.sc (.int k (fw k (a*2^(min b.toNat k.bits)))))
 |_,_=>none
def DT (x y:AV):Option AV:=
 match x,y with
 |.sc (.int k a),.sc (.int _ b)=>if Dz b 0 then none else some (.sc (.int k (a.fdiv (2^(min b.toNat k.bits)))))
 |_,_=>none
def SM (x y:AV):Option AV:=either (cZ (fun _ a b=>some (.sc (.bool (G1 a b)))) x y) (uH (fun a b=>some (.sc (.bool (a.toList==b.toList)))) x y)
def SN (x y:AV):Option AV:=either (cZ (fun _ a b=>some (.sc (.bool (not (G1 a b))))) x y) (uH (fun a b=>some (.sc (.bool !(a.toList==b.toList)))) x y)
def SO (x y:AV):Option AV:=either (cZ (fun _ a b=>some (.sc (.bool (Dz a b)))) x y) (uH (fun a b=>some (.sc (.bool (Op.bytesLess a.toList b.toList)))) x y)
def SP (x y:AV):Option AV:=either (cZ (fun _ a b=>some (.sc (.bool (not (Dz b a))))) x y) (uH (fun a b=>some (.sc (.bool (Op.bytesLess a.toList b.toList||a.toList==b.toList)))) x y)
def SQ (x y:AV):Option AV:=either (cZ (fun _ a b=>some (.sc (.bool (Dz b a)))) x y) (uH (fun a b=>some (.sc (.bool !(Op.bytesLess a.toList b.toList||a.toList==b.toList)))) x y)
def SR (x y:AV):Option AV:=either (cZ (fun _ a b=>some (.sc (.bool (not (Dz a b))))) x y) (uH (fun a b=>some (.sc (.bool !(Op.bytesLess a.toList b.toList)))) x y)
noncomputable def Hc (op:BinOp):AV→AV→Option AV:=
 BinOp.rec (motive:=fun _=>AV→AV→Option AV) SJ JZ J0 J1 J2 DR SK SL DS DT o4 SM SN SO SP SQ SR op
noncomputable def J3 {α:Type}(o:Option α)(n:Nat):Nat:=Option.rec (motive:=fun _=>Nat) n (fun _=>0) o
noncomputable def SS:Value→Nat:=
 Value.rec (motive_1:=fun _=>Nat) (motive_2:=fun _=>Unit) (motive_3:=fun _=>Unit)
  (fun _=>0) (fun _ _=>0) (fun _ _=>0) (fun _ _ _=>0) (fun _=>0) (fun a=>J3 a 1) (fun a _ _=>J3 a 2) (fun r=>J3 r 3) (fun _=>0)
  (fun _ _ _ _ _=>0) 4 (fun _ _ _=>0) 5 (fun _ _=>0) (fun _ _=>0) (fun _ _=>()) () (fun _ _ _ _=>())
noncomputable def jW:AV→Nat:=
 AV.rec (motive_1:=fun _=>Nat) (motive_2:=fun _=>Unit)
  (fun v=>SS v) (fun _ _=>0) (fun _ _ _ _=>0) (fun _ _ _ _ _=>0) (fun _=>0) (fun _ _ _ _ _=>0) (fun _=>0) (fun _ _ _=>0) (fun _ _=>0) (fun _ _=>0) 0 (fun _=>0) () (fun _ _ _ _=>())
noncomputable def x4:AV→Nat:=
 AV.rec (motive_1:=fun _=>Nat) (motive_2:=fun _=>Unit)
  (fun _=>0) (fun _ _=>1) (fun _ _ _ _=>2) (fun _ _ _ _ _=>2) (fun _=>3) (fun _ _ _ _ _=>4) (fun _=>4) (fun _ _ _=>5) (fun _ _=>0) (fun _ _=>0) 0 (fun _=>0) () (fun _ _ _ _=>())
def I8 (P:Program)(t:TypeId):Bool:=
 match P.underlying t with
 |some (.pointer e)=>match P.info? e with
  |some i=>Nat.ble 1 i.size
  |none=>false
 |_=>false
def mo:Value→Bool
 |.int ..|.float ..|.complex ..|.string _=>false
 |_=>true
def Hd (P:Program)(t:TypeId)(x y:AV):Option Bool:=
 match hH x with
 |some (i,a)=>match hH y with
  |some (j,b)=>match Nat.beq i j&&I8 P t with
   |true=>some (Nat.beq a b)
   |false=>none
  |none=>none
 |none=>match qu x,qu y with
  |some a,some b=>if mo a&&mo b then(match bm P (eqGuard .eql t (.tmp 0) (.tmp 0) a b) with|some _=>bm P (Op.equal t a b)|none=>none) else none
  |_,_=>none
def iI (P:Program)(t:TypeId):Nat:=
 match P.underlying t with
 |some (.pointer _)=>1
 |some (.slice _)=>2
 |some (.map _ _)=>3
 |some (.func _ _ _)=>4
 |some (.interface _)=>5
 |_=>0
def x5 (P:Program)(t:TypeId)(x y:AV):Option Bool:=
 match Nat.ble 1 (jW x)&&Nat.beq (jW x) (x4 y)&&Nat.beq (jW x) (iI P t) with
 |true=>some false
 |false=>match Nat.ble 1 (jW y)&&Nat.beq (jW y) (x4 x)&&Nat.beq (jW y) (iI P t) with
  |true=>some false
  |false=>match Nat.ble 1 (jW x)&&Nat.ble (jW x) 4&&Nat.beq (jW x) (jW y)&&Nat.beq (jW x) (iI P t) with
   |true=>some true
   |false=>Hd P t x y
def below (a n:Nat):Option Nat:=match Nat.ble (Nat.succ a) n with
 |true=>some a
 |false=>none
def nat?:Int→Option Nat
 |.ofNat a=>some a
 |.negSucc _=>none
def mq (i:AV)(n:Nat):Option Nat:=
 match asInt i with
 |some (_,a)=>match nat? a with
  |some a=>below a n
  |none=>none
 |none=>none
def He (i:AV)(n:Nat):Option Nat:=mq i (Nat.succ n)
def gB (i:Option AV)(d n:Nat):Option Nat:=
 match i with
 |none=>some d
 |some i=>He i n
noncomputable def x6:List AV→Nat→Option AV:=
 List.rec (motive:=fun _=>Nat→Option AV) (fun _=>none) fun v _ ih i=>Nat.rec (motive:=fun _=>Option AV) (some v) (fun i _=>ih i) i
noncomputable def jx:Nat→List AV→List AV:=
 Nat.rec (motive:=fun _=>List AV→List AV) (fun l=>l) fun _ ih l=>List.rec (motive:=fun _=>List AV) [] (fun _ r _=>ih r) l
noncomputable def hK:Nat→List AV→List AV:=
 Nat.rec (motive:=fun _=>List AV→List AV) (fun _=>[]) fun _ ih l=>List.rec (motive:=fun _=>List AV) [] (fun v r _=>v::ih r) l
noncomputable def bI:List AV→Nat:=List.rec (motive:=fun _=>Nat) 0 fun _ _ n=>Nat.succ n
noncomputable def iY:List AV→List AV→List AV:=List.rec (motive:=fun _=>List AV→List AV) (fun b=>b) fun v _ ih b=>v::ih b
def aL (c:List AV)(off:Nat)(vs:List AV):List AV:=iY (hK off c) (iY vs (jx (Nat.add off (bI vs)) c))
def fx:List AV→List (Nat×Nat×AV)→Option (List AV)
 |cells,[]=>some cells
 |cells,(off,size,v)::rest=>
  match not (ep v)&&Nat.beq (bI v.cells) size&&Nat.ble (Nat.add off size) (bI cells) with
  |true=>fx (aL cells off v.cells) rest
  |false=>none
def eZ (agg:Bool)(cs:List AV)(off n:Nat):Option AV:=
 match agg with
 |true=>match Nat.ble (Nat.add off n) (bI cs) with
  |true=>some (.agg (hK n (jx off cs)))
  |false=>none
 |false=>x6 cs off
def bH (zero:List AV):Nat→List AV
 |0=>[]
 |n+1=>iY zero (bH zero n)
def sg (isMax:Bool)(x y:AV):Option AV:=
 match x,y with
 |.sc (.int k a),.sc (.int _ b)=>some (.sc (.int k (if isMax then(if Dz a b then b else a) else(if Dz b a then b else a))))
 |_,_=>none
def Bn (c a b:AV):Option AV:=match asBool c with
 |some true=>some a
 |some false=>some b
 |none=>none
def DA (P:Program)(t:TypeId)(neg:Bool)(x y:AV):Option AV:=match x5 P t x y with
 |some b=>some (.sc (.bool (match neg with|true=>not b|false=>b)))
 |none=>none
def NI (P:Program)(op:UnOp)(v:Value):Option AV:=match bm P (Op.unary op v) with
 |some w=>match scalar w with
  |true=>some (.sc w)
  |false=>none
 |none=>none
def Ry (P:Program)(op:UnOp)(x:AV):Option AV:=match asBool x with
 |some b=>match op with
  |.not=>some (.sc (.bool (not b)))
  |_=>none
 |none=>match x with
  |.sc v=>NI P op v
  |_=>none
def Bo (k:IntKind)(x:AV):Option AV:=match asInt x with
 |some (_,n)=>some (.sc (.int k (fw k n)))
 |none=>none
def Bp (off n:Nat)(agg:Bool)(x:AV):Option AV:=match asAgg x with
 |some cs=>eZ agg cs off n
 |none=>none
def vC (len es:Nat)(agg:Bool)(x i:AV):Option AV:=match asAgg x with
 |some cs=>match mq i len with
  |some i=>eZ agg cs (Nat.mul i es) es
  |none=>none
 |none=>none
def Bq (x i:AV):Option AV:=match x with
 |.sc (.string s)=>match mq i s.size with
  |some i=>match s[i]? with
   |some b=>some (.sc (.int .u8 b.toNat))
   |none=>none
  |none=>none
 |_=>none
def jX (zero:List AV)(parts:List (Nat×Nat×AV)):Option AV:=match fx zero parts with
 |some c=>some (.agg c)
 |none=>none
def wH (off:Nat)(x:AV):Option AV:=match hH x with
 |some (id,o)=>some (.ptr id (Nat.add o off))
 |none=>none
def mw (len es:Nat)(x i:AV):Option AV:=match hH x with
 |some (id,o)=>match mq i len with
  |some i=>some (.ptr id (Nat.add o (Nat.mul i es)))
  |none=>none
 |none=>none
def fC (es:Nat)(x i:AV):Option AV:=match x with
 |.sl id o len _=>match mq i len with
  |some i=>some (.ptr id (Nat.add o (Nat.mul i es)))
  |none=>none
 |.op id o len _ _=>match mq i len with
  |some i=>some (.ptr id (Nat.add o (Nat.mul i es)))
  |none=>none
 |_=>none
def kB (lo hi mx:Option AV)(len cap:Nat):Option (Nat×Nat×Nat):=
 match gB mx cap cap with
 |some m=>match gB hi len m with
  |some h=>match gB lo 0 h with
   |some l=>if mx.isSome&&hi.isNone then none else some (l,h,m)
   |none=>none
  |none=>none
 |none=>none
def jy (len es:Nat)(x:AV)(lo hi mx:Option AV):Option AV:=match x with
 |.ptr id o=>match kB lo hi mx len len with
  |some (l,h,m)=>some (.sl id (if Nat.beq m l then o else Nat.add o (Nat.mul l es)) (Nat.sub h l) (Nat.sub m l))
  |none=>none
 |_=>none
def eS (es:Nat)(x:AV)(lo hi mx:Option AV):Option AV:=match x with
 |.sl id o len cap=>match kB lo hi mx len cap with
  |some (l,h,m)=>some (.sl id (if Nat.beq m l then o else Nat.add o (Nat.mul l es)) (Nat.sub h l) (Nat.sub m l))
  |none=>none
 |.op id o len cO dV=>match Nat.beq es dV with
  |true=>match kB lo hi mx len cO with
   |some (l,h,m)=>match mx with
    |some _=>match Nat.beq cO 0 with
     |true=>some (.op id o 0 0 es)
     |false=>some (.sl id (if Nat.beq m l then o else Nat.add o (Nat.mul l es)) (Nat.sub h l) (Nat.sub m l))
    |none=>some (.op id (Nat.add o (Nat.mul l es)) (Nat.sub h l) (Nat.sub cO l) es)
   |none=>none
  |false=>none
 |.sc (.slice none 0 0)=>match kB lo hi mx 0 0 with
  |some _=>some (.sc (.slice none 0 0))
  |none=>none
 |_=>none
def nq (x:AV)(lo hi:Option AV):Option AV:=match x with
 |.sc (.string s)=>match kB lo hi none s.size s.size with
  |some (l,h,_)=>some (.sc (.string (s.extract l h)))
  |none=>none
 |_=>none
def o5 (i:Nat)(x:AV):Option AV:=match Bl x with
 |some vs=>x6 vs i
 |none=>none
def nr (x:AV):Option AV:=match live x with
 |true=>some x
 |false=>none
def Cw (str:Bool)(x:AV):Option AV:=match str with
 |true=>match x with
  |.sc (.string s)=>some (.sc (.int .i64 (.ofNat s.size)))
  |_=>none
 |false=>match x with
  |.sl _ _ n _=>some (.sc (.int .i64 (.ofNat n)))
  |.op _ _ n _ _=>some (.sc (.int .i64 (.ofNat n)))
  |.sc (.slice none 0 0)=>some (.sc (.int .i64 0))
  |_=>none
def Hf (x:AV):Option AV:=match x with
 |.sl _ _ _ c=>some (.sc (.int .i64 (.ofNat c)))
 |.sc (.slice none 0 0)=>some (.sc (.int .i64 0))
 |_=>none
def si (m:Bool)(xs:List AV):Option AV:=match xs with
 |x::rest=>rest.foldlM (sg m) x
 |[]=>none
def zU (want:Array (String×TypeId))(MT:Array Method):Bool:=want.toList.all fun x=>MT.toList.any fun m=>m.name==x.1&&m.sig==x.2
def hO (P:Program)(t:TypeId)(JY ok:Bool)(zero:Option AV)(x:AV):Option AV:=
 let holds (v:AV):AV:=if ok then .cP [v,.sc (.bool true)] else v
 let DU:Option AV:=if ok then zero.map fun z=>.cP [z,.sc (.bool false)] else none
 match x with
 |.sc .nilIface=>DU
 |.iface u v=>
  if JY then
   match P.underlying t,P.info? u with
   |some (.interface want),some i=>if zU want i.methods then some (holds x) else DU
   |_,_=>none
  else if u==t then some (holds v) else DU
 |_=>none
def Br (P:Program)(kt:TypeId)(a b:Value):Option Bool:=
 match P.underlying kt,a,b with
 |some (.int _),.int k x,.int k' y=>if mn k k' then some (G1 x y) else none
 |_,a,b=>bm P (Op.equal kt a b)
def sH (P:Program)(kt:TypeId)(k:Value):List (Value×AV)→Nat→Option (Option (Nat×AV))
 |[],_=>some none
 |(k',v)::r,i=>match Br P kt k k' with
  |some true=>some (some (i,v))
  |some false=>sH P kt k r (i+1)
  |none=>none
def vD (P:Program)(kt:TypeId)(empty:Bool)(k:Value):Bool:=(bm P (Instr.checkKey empty 10000 kt k)).isSome
def AH.cells? (S:AH)(id:Nat):Option (List AV):=
 match S.get id with
 |some o=>Bm o
 |none=>none
def AH.row? (S:AH)(id:Nat):Option (List AV):=
 match S.get id with
 |some o=>I6 o
 |none=>none
def lX (S:AH)(n:Nat)(agg:Bool)(p:AV):Option AV:=match hH p with
 |some (id,o)=>match S.cells? id with
  |some c=>eZ agg c o n
  |none=>none
 |none=>none
def mapOf (S:AH)(m:AV):Option (List (Value×AV)):=match m with
 |.sc (.map none)=>some []
 |.map id=>match S.get id with
  |some (.map es)=>some es
  |_=>none
 |_=>none
def o6 (P:Program)(S:AH)(kt:TypeId)(ok:Bool)(zero:AV)(m k:AV):Option AV:=
 match qu k,mapOf S m with
 |some k,some es=>
  if vD P kt es.isEmpty k then
   match sH P kt k es 0 with
   |some (some (_,v))=>some (if ok then .cP [v,.sc (.bool true)] else v)
   |some none=>some (if ok then .cP [zero,.sc (.bool false)] else zero)
   |none=>none
  else none
 |_,_=>none
def o7 (S:AH)(m:AV):Option AV:=match mapOf S m with
 |some es=>some (.sc (.int .i64 es.length))
 |none=>none
def cB (P:Program)(S:AH):fV→Option AV
 |.load n agg p=>lX S n agg p
 |.lookup kt ok zero m k=>o6 P S kt ok zero m k
 |.wG m=>o7 S m
 |_=>none
def lay (S:AH)(o:AO)(f:Nat→AV):Option (AV×AH):=some (f S.next,S.new o)
def J4 (cells:List AV)(S:AH):Option (AV×AH):=lay S (.row cells) fun id=>.ptr id 0
def zV (x:AV)(S:AH):Option (AV×AH):=match ep x with
 |true=>none
 |false=>lay S (.row x.cells) fun id=>.ptr id 0
def gg (es n:Nat)(zero:List AV)(parts:List (Nat×Nat×AV))(S:AH):Option (AV×AH):=
 match fx (bH zero n) parts with
 |some c=>match Nat.beq (bI c) (Nat.mul n es)&&Nat.beq (bI zero) es with
  |true=>lay S (.row c) fun id=>.sl id 0 n n
  |false=>none
 |none=>none
def iZ (es bytes:Nat)(zero:List AV)(len cap:AV)(S:AH):Option (AV×AH):=match asInt len with
 |some (_,l)=>match asInt cap with
  |some (_,c)=>match nat? l with
   |some l=>match nat? c with
    |some c=>match Nat.ble l c&&Nat.ble (Nat.mul bytes c) 140737488355328&&Nat.ble c 9223372036854775807&&Nat.beq (bI zero) es with
     |true=>lay S (.row (bH zero c)) fun id=>.sl id 0 l c
     |false=>none
    |none=>none
   |none=>none
  |none=>none
 |none=>none
def J5 (S:AH):Option (AV×AH):=lay S (.map []) .map
def elems (S:AH)(es:Nat):AV→Option (Nat×List AV)
 |.sc (.slice none 0 0)=>some (0,[])
 |.sl id o len _|.op id o len _ _=>match S.cells? id with
  |some c=>if Nat.ble (o+len*es) (bI c) then some (len,hK (len*es) (jx o c)) else none
  |none=>none
 |.sc (.string s)=>if es=1 then some (s.size,s.data.toList.map fun b=>.sc (.int .u8 b.toNat)) else none
 |_=>none
def cU:Nat:=140737488355328
def dM:Nat:=9223372036854775807
def oc (n:Nat)(p v:AV)(S:AH):Option (AV×AH):=match hH p with
 |some (id,o)=>match S.row? id with
  |some c=>match not (ep v)&&Nat.beq (bI v.cells) n&&Nat.ble (Nat.add o n) (bI c) with
   |true=>some (uv,S.set id (.row (aL c o v.cells)))
   |false=>none
  |none=>none
 |none=>none
def iJ (es bytes:Nat)(s x:AV)(S:AH):Option (AV×AH):=match elems S es x with
 |none=>none
 |some (m,news)=>match s with
  |.sc (.slice none 0 0)=>
   if Nat.beq m 0 then some (s,S)
   else if Nat.ble (m*bytes) cU&&Nat.ble m dM then some (.op S.next 0 m m es,S.new (.row news)) else none
  |.sl id o len cap=>match S.get id with
   |some (.row c)=>
    if Nat.ble (o+cap*es) (bI c)&&Nat.ble len cap then
     if Nat.ble (len+m) cap then some (.sl id o (len+m) cap,S.set id (.row (aL c (o+len*es) news)))
     else if Nat.ble ((len+m)*bytes) cU&&Nat.ble (len+m) dM then
      some (.op S.next 0 (len+m) (len+m) es,S.new (.row (iY (hK (len*es) (jx o c)) news)))
     else none
    else none
   |some (.ro c)=>
    if Nat.ble (o+cap*es) (bI c)&&Nat.ble len cap then
     if Nat.ble (len+m) cap then(if Nat.beq m 0 then some (.sl id o len cap,S) else none)
     else if Nat.ble ((len+m)*bytes) cU&&Nat.ble (len+m) dM then
      some (.op S.next 0 (len+m) (len+m) es,S.new (.row (iY (hK (len*es) (jx o c)) news)))
     else none
    else none
   |_=>none
  |.op id o len cO dV=>match S.get id with
   |some (.row c)=>
    if Nat.beq dV es&&Nat.ble (o+cO*es) (bI c)&&Nat.ble len cO then
     if Nat.ble (len+m) cO then some (.op id o (len+m) cO es,S.set id (.row (aL c (o+len*es) news)))
     else if Nat.ble ((len+m)*bytes) cU&&Nat.ble (len+m) dM then
      some (.op S.next 0 (len+m) (len+m) es,(S.kill id).new (.row (iY (hK (len*es) (jx o c)) news)))
     else none
    else none
   |_=>none
  |_=>none
def DV (es:Nat)(d s:AV)(S:AH):Option (AV×AH):=match elems S es s with
 |none=>none
 |some (m,news)=>match d with
  |.sc (.slice none 0 0)=>some (.sc (.int .i64 0),S)
  |.sl id o len _|.op id o len _ _=>match S.get id with
   |some (.row c)=>
    if Nat.ble (o+len*es) (bI c) then some (.sc (.int .i64 (Nat.min m len)),S.set id (.row (aL c o (hK (Nat.min m len*es) news)))) else none
   |_=>none
  |_=>none
def zW (es:Nat)(zero:List AV)(x:AV)(S:AH):Option (AV×AH):=match x with
 |.sc (.slice none 0 0)|.sc (.map none)=>some (uv,S)
 |.map id=>match S.get id with
  |some (.map _)=>some (uv,S.set id (.map []))
  |_=>none
 |.sl id o len _|.op id o len _ _=>match S.get id with
  |some (.row c)=>if Nat.ble (o+len*es) (bI c)&&Nat.beq (bI zero) es then some (uv,S.set id (.row (aL c o (bH zero len)))) else none
  |some (.ro _)=>if Nat.beq len 0 then some (uv,S) else none
  |_=>none
 |_=>none
def wI (P:Program)(kt:TypeId)(m k v:AV)(S:AH):Option (AV×AH):=match qu k with
 |none=>none
 |some k=>match m with
  |.map id=>match S.get id with
   |some (.map es)=>
    if vD P kt false k then
     match sH P kt k es 0 with
     |some (some (i,_))=>match es[i]? with
      |some (k',_)=>if Instr.sameBits 10000 k' k then some (uv,S.set id (.map (es.set i (k,v)))) else none
      |none=>none
     |some none=>some (uv,S.set id (.map (es++[(k,v)])))
     |none=>none
    else none
   |_=>none
  |_=>none
def wJ (P:Program)(kt:TypeId)(m k:AV)(S:AH):Option (AV×AH):=match qu k with
 |none=>none
 |some k=>match m with
  |.sc (.map none)=>if vD P kt true k then some (uv,S) else none
  |.map id=>match S.get id with
   |some (.map es)=>
    if vD P kt es.isEmpty k then
     match sH P kt k es 0 with
     |some (some (i,_))=>some (uv,S.set id (.map (es.eraseIdx i)))
     |some none=>some (uv,S)
     |none=>none
    else none
   |_=>none
  |_=>none
def et (r:Option AV)(S:AH):Option (AV×AH):=match r with
 |some v=>some (v,S)
 |none=>none
noncomputable def evalOp (P:Program) (o:fV):AH→Option (AV×AH):=
 fV.rec (motive:=fun _=>AH→Option (AV×AH))
  (fun x S=>some (x,S))
  (fun c a b=>et (Bn c a b))
  (fun op x y=>et (Hc op x y))
  (fun k x=>et (Bo k x))
  (fun o n a x=>et (Bp o n a x))
  (fun l e a x i=>et (vC l e a x i))
  (fun x i=>et (Bq x i))
  (fun z ps=>et (jX z ps))
  (fun o x=>et (wH o x))
  (fun l e x i=>et (mw l e x i))
  (fun e x i=>et (fC e x i))
  (fun l e x a b c=>et (jy l e x a b c))
  (fun e x a b c=>et (eS e x a b c))
  (fun x a b=>et (nq x a b))
  (fun i x=>et (o5 i x))
  (fun x=>et (nr x))
  (fun g x=>et (Cw g x))
  (fun x=>et (Hf x))
  (fun m xs=>et (si m xs))
  (fun n a p S=>et (lX S n a p) S)
  (fun m S=>et (o7 S m) S)
  J4 zV gg iZ J5 oc iJ DV zW
  (fun t n x y=>et (DA P t n x y))
  (fun op x=>et (Ry P op x))
  (fun t i o z x=>et (hO P t i o z x))
  (fun kt o z m k S=>et (o6 P S kt o z m k) S)
  (wI P) (wJ P) o
mutual
def AV.beq:AV→AV→Bool
 |.sc (.int k a),.sc (.int k' b)=>mn k k'&&G1 a b
 |.sc (.bool a),.sc (.bool b)=>a==b
 |.sc (.string a),.sc (.string b)=>a.data.toList==b.data.toList
 |.sc (.pointer none),.sc (.pointer none)|.sc (.slice none 0 0),.sc (.slice none 0 0)|.sc (.map none),.sc (.map none)
 |.sc .nilFunc,.sc .nilFunc|.sc .nilIface,.sc .nilIface=>true
 |.ptr i o,.ptr j p=>Nat.beq i j&&Nat.beq o p
 |.sl i o l c,.sl j p m d=>Nat.beq i j&&Nat.beq o p&&Nat.beq l m&&Nat.beq c d
 |.op i o l c e,.op j p m d f=>Nat.beq i j&&Nat.beq o p&&Nat.beq l m&&Nat.beq c d&&Nat.beq e f
 |.map i,.map j=>Nat.beq i j
 |.yd i,.yd j=>Nat.beq i j
 |.fn (.func f) a b,.fn (.func g) c d=>Nat.beq f g&&o8 a c&&o8 b d
 |.iface t v,.iface u w=>Nat.beq t u&&v.beq w
 |.agg a,.agg b=>o8 a b
 |.cP a,.cP b=>o8 a b
 |.tok i,.tok j=>Nat.beq i j
 |_,_=>false
def o8:List AV→List AV→Bool
 |[],[]=>true
 |a::r,b::s=>a.beq b&&o8 r s
 |_,_=>false
end
noncomputable def Cy:AV→Bool:=
 AV.rec (motive_1:=fun _=>Bool) (motive_2:=fun _=>Unit)
  (fun _=>false) (fun _ _=>false) (fun _ _ _ _=>false) (fun _ _ _ _ _=>false) (fun _=>false) (fun _ _ _ _ _=>false) (fun _=>false) (fun _ _ _=>false) (fun _ _=>false) (fun _ _=>false) true (fun _=>true) () (fun _ _ _ _=>())
def zI (g:AV)(b:Bool):Option Bool:=
 match asBool g with
 |some true=>some b
 |some false=>some (not b)
 |none=>match Cy g with
  |true=>none
  |false=>some false
abbrev Out:=Option (Tag×List AV×AH)
def iter (body:List AV→AH→Out):Nat→List AV→AH→Out
 |0,_,_=>none
 |n+1,vs,S=>match body vs S with
  |some (.normal,uI,S')=>iter body n uI S'
  |r=>r
section
variable(P:Program)(call:AV→List AV→AH→Option (AV×AH))(fuel:Nat)
def o9 (r:Option (AV×AH))(ih:AV→AH→Out):Out:=
 match r with
 |some (v,S')=>ih v S'
 |none=>none
def NJ (o:fV)(ih:AV→AH→Out)(S:AH):Out:=o9 (evalOp P o S) ih
def qv (g:AV)(b:Bool)(o:fV)(ih:AV→AH→Out)(S:AH):Out:=
 match zI g b with
 |some true=>o9 (evalOp P o S) ih
 |some false=>ih uv S
 |none=>none
def og (o:fV)(v:AV)(ih:AH→Out)(S:AH):Out:=
 match cB P S o with
 |some v'=>match v'.beq v with
  |true=>ih S
  |false=>none
 |none=>none
def o_ (g:AV)(b:Bool)(o:fV)(v:AV)(ih:AH→Out)(S:AH):Out:=
 match zI g b with
 |some true=>og P o v ih S
 |some false=>ih S
 |none=>none
def wK (c:AV)(a b:AH→Out)(S:AH):Out:=
 match asBool c with
 |some true=>a S
 |some false=>b S
 |none=>none
def my (g:AV)(b:Bool)(f:AV)(args:List AV)(ih:AV→AH→Out)(S:AH):Out:=
 match zI g b with
 |some true=>o9 (call f args S) ih
 |some false=>ih uv S
 |none=>none
def eT (m:AH→Out)(id:Option Nat)(k:List AV→AH→Out)(outs:List AV→List AV)(S:AH):Out:=
 match m S with
 |some (.normal,vs,S')=>k vs S'
 |some (.exit i,vs,S')=>match id with
  |some j=>match Nat.beq j i with
   |true=>k vs S'
   |false=>some (.exit i,outs vs,S')
  |none=>some (.exit i,outs vs,S')
 |some (t,vs,S')=>some (t,outs vs,S')
 |none=>none
def sj (init:List AV)(body:List AV→AH→Out)(outs:List AV→List AV)(S:AH):Out:=
 match iter body fuel init S with
 |some (t,vs,S')=>some (t,outs vs,S')
 |none=>none
def wL (n:Nat)(f:AV)(body:List AV→AC)(k:AH→Out)(outs:List AV)(S:AH):Out:=
 match f with
 |.yd _=>none
 |f=>match call f [.yd S.next] (S.new (.loop .ready none n body)) with
  |some (_,S')=>match S'.get S.next with
   |some (.loop .busy _ _ _)=>none
   |some (.loop _ de n b)=>
    match de with
    |none=>k (S'.set S.next (.loop .exhausted de n b))
    |some t=>some (t,outs,S'.set S.next (.loop .exhausted de n b))
   |_=>none
  |none=>none
def qw (m:AH→Out)(k:List AV→AH→Out)(S:AH):Out:=
 match m S with
 |some (.normal,vs,S')=>k vs S'
 |some (.ret,vs,S')=>k vs S'
 |_=>none
def pc (l:AV)(ih:AH→Out)(S:AH):Out:=
 match l with
 |.yd l=>match S.get l with
  |some (.loop .ready de n b)=>ih (S.set l (.loop .busy de n b))
  |_=>none
 |_=>none
noncomputable def run (x:AC):AH→Out:=
 AC.rec (motive:=fun _=>AH→Out)
  (fun t vs S=>some (t,vs,S))
  (fun o _ ih S=>NJ P o ih S)
  (fun g b o _ ih S=>qv P g b o ih S)
  (fun o v _ ih S=>og P o v ih S)
  (fun g b o v _ ih S=>o_ P g b o v ih S)
  (fun c _ _ ia ib S=>wK c ia ib S)
  (fun f args _ ih S=>o9 (call f args S) ih)
  (fun g b f args _ ih S=>my call g b f args ih S)
  (fun _ id _ outs im ik S=>eT im id ik outs S)
  (fun init _ outs ib S=>sj fuel init ib outs S)
  (fun n f body _ outs _ ik S=>wL call n f body ik outs S)
  (fun _ _ im ik S=>qw im ik S)
  (fun l _ ih S=>pc l ih S)
  (fun _=>none)
  x
end
def methodOf (P:Program)(t:TypeId)(v:AV)(name:String):Option (FuncId×AV):=
 match P.info? t with
 |some i=>match i.methods.find? (·.name==name) with
  |some m=>if m.path.isEmpty then
    match m.func,P.underlying t with
    |some (f,true),some (.pointer _)=>some (f,v)
    |some (f,false),some (.pointer _)=>none
    |some (f,false),some _=>some (f,v)
    |_,_=>none
   else none
  |none=>none
 |none=>none
abbrev Table:=FuncId→Option (List AV→AC)
def oneOf:List AV→AV
 |[v]=>v
 |vs=>.cP vs
structure vE where
 v:FuncId→List AV→Option AV
 x:FuncId→Option (List AV→AH→Option (AV×AH))
instance:CoeFun vE (fun _=>FuncId→List AV→Option AV):=⟨vE.v⟩
noncomputable def b6 (P:Program)(iP:Table)(kn:vE):Nat→AV→List AV→AH→Option (AV×AH)
 |0,_,_,_=>none
 |n+1,f,args,S=>
  match f with
  |.fn (.func f) first cap=>
   match kn.v f (iY first (iY args cap)) with
   |some v=>some (v,S)
   |none=>match iP f with
    |some b=>match run P (b6 P iP kn n) n (b (iY first (iY args cap))) S with
     |some (.ret,vs,S')=>some (oneOf vs,S')
     |_=>none
    |none=>match kn.x f with
     |some g=>g (iY first (iY args cap)) S
     |none=>none
  |.fn (.method name) [] []=>match args with
   |.iface t v::rest=>match methodOf P t v name with
    |some (f,r)=>b6 P iP kn n (.fn (.func f) [] []) (r::rest) S
    |none=>none
   |_=>none
  |.yd l=>match S.get l with
   |some (.loop .ready _ m body)=>
    match Nat.beq (bI args) m with
    |true=>match run P (b6 P iP kn n) n (body (.yd l::args)) S with
     |some (t,_,S')=>match S'.get l with
      |some (.loop .busy _ m' I9)=>
       match t with
       |.normal=>some (.sc (.bool true),S'.set l (.loop .ready none m' I9))
       |t=>some (.sc (.bool false),S'.set l (.loop .done (some t) m' I9))
      |_=>none
     |none=>none
    |false=>none
   |_=>none
  |_=>none
end
section
abbrev Fr:=T AV
def Fr.at (F:Fr)(t:Nat):AV:=(T.get F t).getD .no
def Fr.put (F:Fr)(d:Option Nat)(v:AV):Fr:=match d with
 |some d=>T.set F d v
 |none=>F
def Fr.eX (F:Fr):List Nat→Nat→List AV→Fr
 |[],_,_=>F
 |t::ts,i,vs=>Fr.eX (T.set F t (nth vs i)) ts (i+1) vs
def Fr.outs (F:Fr)(l:List Nat):List AV:=l.map F.at
def Fr.drop (F:Fr):List Nat→Fr
 |[]=>F
 |t::ts=>Fr.drop (T.set F t .no) ts
def Fr.ev (F:Fr):Operand→AV
 |.tmp t=>F.at t
 |.const v=>(rM 50 v).getD .no
 |.global _=>.no
 |.func f=>.fn (.func f) [] []
def dZ (P:Program)(t:TypeId):Option Bool:=
 match P.underlying t with
 |some (.struct _)|some (.array _ _)=>some true
 |some _=>some false
 |none=>none
def aG (P:Program)(t:TypeId):Option Nat:=(P.info? t).map (·.size)
def gE (P:Program)(t:TypeId):Option Nat:=(P.info? t).map (·.bytes)
def gh (P:Program)(t:TypeId):Option AV:=
 match P.info? t with
 |some i=>match i.zero with
  |some v=>rM 50 v
  |none=>none
 |none=>none
def ez (P:Program)(t:TypeId):Option (List AV):=
 match gh P t with
 |some z=>if ep z then none else some z.cells
 |none=>none
inductive Den where
 |val (v:AV)
 |op (o:fV)
 |call (f:AV)(args:List AV)
 |bad
def Den.Bs:Option Den→Den
 |some d=>d
 |none=>.bad
def partsOf (F:Fr)(place:Nat→Option (Nat×Nat)):List (Nat×Operand)→Option (List (Nat×Nat×AV))
 |[]=>some []
 |(i,x)::r=>match place i,partsOf F place r with
  |some (off,size),some ps=>some ((off,size,F.ev x)::ps)
  |_,_=>none
def bR (P:Program)(F:Fr)(o:Oper):Den:=Den.Bs<|
 match o.op with
 |.move x|.assign x=>some (.val (F.ev x))
 |.pick c a b=>some (.op (.pick (F.ev c) (F.ev a) (F.ev b)))
 |.alloc t=>do return .op (.alloc (←ez P t))
 |.box _ x=>some (.op (.box (F.ev x)))
 |.build t parts=>do
  let z ←ez P t
  match←P.underlying t with
  |.struct fields=>do
   let kY ←fields.toList.mapM fun f=>(P.info? f.type).map fun i=>(f.offset,i.size)
   return .op (.build z (←partsOf F (fun i=>kY[i]?) parts.toList))
  |.array _ e=>do
   let s ←aG P e
   return .op (.build z (←partsOf F (fun i=>some (i*s,s)) parts.toList))
  |_=>none
 |.buildSlice t len parts=>do
  match←P.underlying t with
  |.slice e=>do
   let s ←aG P e
   let z ←ez P e
   if len*s>16777216 then none else
   return .op (.kU s len z (←partsOf F (fun i=>some (i*s,s)) parts.toList))
  |_=>none
 |.load t a=>do return .op (.load (←aG P t) (←dZ P t) (F.ev a))
 |.store t a x=>do return .op (.store (←aG P t) (F.ev a) (F.ev x))
 |.nilCheck x=>some (.op (.n_ (F.ev x)))
 |.binOp op t x y _=>do
  match op,←P.underlying t with
  |.eql,.int _|.eql,.string|.neq,.int _|.neq,.string=>some (.op (.bin op (F.ev x) (F.ev y)))
  |.eql,_=>some (.op (.eq t false (F.ev x) (F.ev y)))
  |.neq,_=>some (.op (.eq t true (F.ev x) (F.ev y)))
  |_,_=>some (.op (.bin op (F.ev x) (F.ev y)))
 |.unOp op _ x=>some (.op (.un op (F.ev x)))
 |.convert src dst x=>do
  match←P.underlying src,←P.underlying dst with
  |.int _,.int k=>some (.op (.conv k (F.ev x)))
  |_,_=>none
 |.makeInterface t x=>do
  match←P.underlying t with
  |.interface _=>none
  |_=>some (.val (.iface t (F.ev x)))
 |.makeFunc (.func f) first cap=>some (.val (.fn (.func f) (first.toList.map F.ev) (cap.toList.map F.ev)))
 |.makeMap t r=>match r with
  |none=>do
   match←P.underlying t with
   |.map _ _=>some (.op .Bk)
   |_=>none
  |some _=>none
 |.makeSlice t l c=>do
  match←P.underlying t with
  |.slice e=>do return .op (.kV (←aG P e) (←gE P e) (←ez P e) (F.ev l) (F.ev c))
  |_=>none
 |.slice t x lo hi mx=>do
  match←P.underlying t with
  |.array n e=>do return .op (.n8 n (←aG P e) (F.ev x) (lo.map F.ev) (hi.map F.ev) (mx.map F.ev))
  |.pointer arr=>do
   match←P.underlying arr with
   |.array n e=>do return .op (.n8 n (←aG P e) (F.ev x) (lo.map F.ev) (hi.map F.ev) (mx.map F.ev))
   |_=>none
  |.slice e=>do return .op (.n9 (←aG P e) (F.ev x) (lo.map F.ev) (hi.map F.ev) (mx.map F.ev))
  |.string=>match mx with
   |none=>some (.op (.sF (F.ev x) (lo.map F.ev) (hi.map F.ev)))
   |some _=>none
  |_=>none
 |.fieldAddr s x f=>do
  match←P.underlying s with
  |.struct fields=>do
   let fd ←fields[f]?
   let n ←aG P fd.type
   if n=0 then none else return .op (.nN fd.offset (F.ev x))
  |_=>none
 |.field t x f=>do
  match←P.underlying t with
  |.struct fields=>do
   let fd ←fields[f]?
   return .op (.part fd.offset (←aG P fd.type) (←dZ P fd.type) (F.ev x))
  |_=>none
 |.indexAddr t x i=>do
  match←P.underlying t with
  |.array n e=>do return .op (.xZ n (←aG P e) (F.ev x) (F.ev i))
  |.slice e=>do return .op (.fu (←aG P e) (F.ev x) (F.ev i))
  |_=>none
 |.index t x i=>do
  match←P.underlying t with
  |.array n e=>do return .op (.Ct n (←aG P e) (←dZ P e) (F.ev x) (F.ev i))
  |.string=>some (.op (.JX (F.ev x) (F.ev i)))
  |_=>none
 |.lookup t m k ok=>do
  match←P.underlying t with
  |.map kt e=>do
   let _ ←P.underlying kt
   return .op (.lookup kt ok (←gh P e) (F.ev m) (F.ev k))
  |_=>none
 |.mapUpdate t m k v|.insert t m k v=>do
  match←P.underlying t with
  |.map kt _=>do
   let _ ←P.underlying kt
   return .op (.zQ kt (F.ev m) (F.ev k) (F.ev v))
  |_=>none
 |.typeAssert x _ t ok=>do
  match←P.underlying t with
  |.interface _=>some (.op (.kW t true ok (gh P t) (F.ev x)))
  |_=>some (.op (.kW t false ok (gh P t) (F.ev x)))
 |.extract x i=>some (.op (.extract i (F.ev x)))
 |.call c=>match c.callee with
  |.value f=>some (.call (F.ev f) (c.args.toList.map F.ev))
  |.invoke r m=>some (.call (.fn (.method m) [] []) (F.ev r::c.args.toList.map F.ev))
  |.builtin b=>match b,c.args.toList,c.argTypes.toList with
   |.len,[x],[t]=>do
    match←P.underlying t with
    |.array n _=>some (.val (.sc (.int .i64 n)))
    |.pointer arr=>do
     match←P.underlying arr with
     |.array n _=>some (.val (.sc (.int .i64 n)))
     |_=>none
    |.slice _=>some (.op (.len false (F.ev x)))
    |.string=>some (.op (.len true (F.ev x)))
    |.map _ _=>some (.op (.wG (F.ev x)))
    |_=>none
   |.cap,[x],[t]=>do
    match←P.underlying t with
    |.slice _=>some (.op (.cap (F.ev x)))
    |_=>none
   |.append,[s,x],[t,u]=>do
    match←P.underlying t,←P.underlying u with
    |.slice e,.slice _=>do
     let z ←ez P e
     let n ←aG P e
     let b ←gE P e
     if Nat.beq (bI z) n then some (.op (.append n b (F.ev s) (F.ev x))) else none
    |.slice e,.string=>do
     let z ←ez P e
     let n ←aG P e
     let b ←gE P e
     if Nat.beq (bI z) n then some (.op (.append n b (F.ev s) (F.ev x))) else none
    |_,_=>none
   |.copy,[d,s],[t,_]=>do
    match←P.underlying t with
    |.slice e=>do return .op (.copy (←aG P e) (F.ev d) (F.ev s))
    |_=>none
   |.clear,[x],[t]=>do
    match←P.underlying t with
    |.slice e=>do return .op (.clear (←aG P e) (←ez P e) (F.ev x))
    |.map _ _=>some (.op (.clear 1 [] (F.ev x)))
    |_=>none
   |.delete,[m,k],[t,_]=>do
    match←P.underlying t with
    |.map kt _=>do
     let _ ←P.underlying kt
     return .op (.zR kt (F.ev m) (F.ev k))
    |_=>none
   |.max,xs,_=>some (.op (.qo true (xs.map F.ev)))
   |.min,xs,_=>some (.op (.qo false (xs.map F.ev)))
   |_,_,_=>none
 |_=>none
def aN:Op→Bool
 |.store ..|.mapUpdate ..|.insert ..=>true
 |.call c=>match c.callee with
  |.builtin b=>match b with
   |.append|.copy|.clear|.delete=>true
   |_=>false
  |_=>true
 |_=>false
def om (P:Program):Op→Bool
 |.load ..|.lookup ..=>true
 |.call c=>match c.callee with
  |.builtin .len=>match(c.argTypes[0]?).bind P.underlying with
   |some (.map _ _)=>true
   |_=>false
  |_=>false
 |_=>false
inductive Step where
 |exec (i:Nat)
 |kA (i:Nat)
 deriving Inhabited
def J6 (ops:Array Oper):List Nat:=(List.range ops.size).filter fun i=>match ops[i]? with|some o=>aN o.op|none=>false
def Bt (b:Array Nat)(wM:List Nat)(i:Nat):Nat:=(wM.filter fun e=>(b.getD i 0).testBit e).length
inductive vF where
 |one (i:Nat)
 |uz (i:Nat)(cs:List Nat)
def flat:List vF→List Step
 |[]=>[]
 |.one i::r=>.exec i::flat r
 |.uz i cs::r=>.exec i::(cs.map .kA++flat r)
def mz (P:Program)(ops:Array Oper)(i:Nat):Bool:=match ops[i]? with|some o=>om P o.op|none=>false
def jz (ops:Array Oper)(i:Nat):Bool:=match ops[i]? with|some o=>aN o.op|none=>false
def x7 (P:Program)(ops:Array Oper)(b:Array Nat)(wM:List Nat):Nat→List Nat→List vF
 |k,rest=>
  let now:=(List.range ops.size).filter fun i=>!wM.contains i&&Bt b wM i==k
  now.map .one++
  match rest with
  |[]=>[]
  |e::rest=>.uz e ((List.range ops.size).filter fun i=>mz P ops i&&Nat.ble (Bt b wM i) k&&!(b.getD e 0).testBit i)::x7 P ops b wM (k+1) rest
def DW (x y:Nat):Bool:=Nat.beq (Nat.land x y) x
def looks (ops:Array Oper)(o:Oper):List Nat:=
 o.op.operands.toList.filterMap (fun|.tmp t=>some t|_=>none)++match o.guard with
  |some (j,_)=>((ops[j]?).bind (·.dst)).toList
  |none=>[]
def ij (ops:Array Oper)(b:Array Nat):Bool:=
 ops.toList.zipIdx.all fun(o,i)=>match o.dst with
  |none=>true
  |some d=>ops.toList.zipIdx.all fun(o',j)=>Nat.beq i j||!((o'.dst.toList++looks ops o').any (Nat.beq d))||(b.getD (max i j) 0).testBit (min i j)
def mA (ops:Array Oper)(b:Array Nat):Bool:=(List.range ops.size).all fun i=>Nat.blt (b.getD i 0) (2^i)
def zX (P:Program)(ops:Array Oper)(b:Array Nat):List vF→Nat→Nat→Bool
 |[],done,_=>(List.range ops.size).all fun i=>done.testBit i
 |.one i::r,done,em=>
  Nat.blt i ops.size&&!done.testBit i&&DW (b.getD i 0) done&&DW em (b.getD i 0)&&!jz ops i&&zX P ops b r (done|||2^i) em
 |.uz i cs::r,done,em=>
  Nat.blt i ops.size&&!done.testBit i&&DW (b.getD i 0) done&&DW em (b.getD i 0)&&jz ops i&&
  ((List.range ops.size).all fun k=>!mz P ops k||!done.testBit k||(b.getD i 0).testBit k||cs.any (Nat.beq k))&&zX P ops b r (done|||2^i) (em|||2^i)
def oq (P:Program)(ops:Array Oper)(draw:Bool):Option (List Step):=
 if draw then
  let b:=Region.before ops
  let wM:=J6 ops
  let p:=x7 P ops b wM 0 wM
  if P.follows .mixedOrders&&zX P ops b p 0 0&&ij ops b&&mA ops b then some (flat p) else none
 else some ((List.range ops.size).map .exec)
abbrev Reads:=List (Nat×Option (AV×Bool)×fV×AV)
def eA (i:Nat):Reads→Option (Option (AV×Bool)×fV×AV)
 |[]=>none
 |(j,r)::rest=>if Nat.beq j i then some r else eA i rest
def aw (P:Program)(ops:Array Oper):List Step→Fr→Reads→(Fr→AC)→AC
 |[],F,_,K=>K F
 |.kA i::rest,F,rs,K=>match eA i rs with
  |some (none,o,v)=>.kA o v (aw P ops rest F rs K)
  |some (some (g,b),o,v)=>.zS g b o v (aw P ops rest F rs K)
  |none=>.fail
 |.exec i::rest,F,rs,K=>match ops[i]? with
  |none=>aw P ops rest F rs K
  |some o=>match o.guard with
   |none=>match bR P F o with
    |.val v=>aw P ops rest (F.put o.dst v) rs K
    |.op a=>.op a fun v=>aw P ops rest (F.put o.dst v) ((i,none,a,v)::rs) K
    |.call f args=>.call f args fun v=>aw P ops rest (F.put o.dst v) rs K
    |.bad=>.fail
   |some (j,b)=>match(ops[j]?).bind (·.dst) with
    |none=>.fail
    |some t=>
     let g:=F.at t
     match bR P F o with
     |.val v=>.sG g b (.mv v) fun v=>aw P ops rest (F.put o.dst v) rs K
     |.op a=>.sG g b a fun v=>aw P ops rest (F.put o.dst v) ((i,some (g,b),a,v)::rs) K
     |.call f args=>.hG g b f args fun v=>aw P ops rest (F.put o.dst v) rs K
     |.bad=>.fail
def J7 (t:Nat)(l:List Nat):List Nat:=if l.contains t then l else t::l
def J8 (vars:List Nat)(ops:Array Oper)(acc:List Nat):List Nat:=
 ops.toList.foldl (fun acc o=>match o.dst with|some d=>if vars.contains d then J7 d acc else acc|none=>acc) acc
def oV (vars:List Nat):Code→List Nat→List Nat
 |.region _ ops _,acc=>J8 vars ops acc
 |.seq a b,acc=>oV vars b (oV vars a acc)
 |.cond _ a b,acc=>oV vars b (oV vars a acc)
 |.block _ b,acc|.loop b,acc|.scope b,acc=>oV vars b acc
 |_,acc=>acc
def gf:Code→List Nat→List Nat
 |.region _ ops _,acc=>ops.toList.foldl (fun acc o=>match o.dst with|some d=>d::acc|none=>acc) acc
 |.seq a b,acc=>gf b (gf a acc)
 |.cond _ a b,acc=>gf b (gf a acc)
 |.block _ b,acc|.loop b,acc|.scope b,acc=>gf b acc
 |_,acc=>acc
def dead:Code→Bool
 |.ret|.exit _|.goto _=>true
 |.seq a b=>dead a||dead b
 |.cond _ a b=>dead a&&dead b
 |_=>false
def dE:Code→Bool
 |.skip|.label _|.region _ _ _=>true
 |.seq a b=>dE a&&dE b
 |_=>false
def behind (F:Fr)(c:Code)(o:List Nat)(vs:List AV):Fr:=(F.drop (gf c [])).eX o 0 vs
def sI:Code→Bool
 |.region _ _ _=>true
 |_=>false
def ot (l:Nat):Code→Bool
 |.goto l'=>Nat.beq l l'
 |.seq a b=>ot l a||ot l b
 |.cond _ a b=>ot l a||ot l b
 |.block _ b|.loop b=>ot l b
 |_=>false
mutual
def den (P:Program)(vars:List Nat)(round:Bool)(gt:Option Nat):Code→Fr→List Nat→(Fr→AC)→AC
 |.skip,F,_,K=>K F
 |.label _,F,_,K=>K F
 |.region _ ops draw,F,_,K=>match oq P ops draw with
  |some p=>aw P ops p F [] K
  |none=>.fail
 |.seq a b,F,out,K=>den P vars round gt a F out fun F1=>den P vars round gt b F1 out K
 |.cond c a b,F,out,K=>
  if dead a||dead b then .ite (F.ev c) (den P vars round gt a F out K) (den P vars round gt b F out K)
  else
   let o:=oV vars (.cond c a b) []
   .bind (.ite (F.ev c) (den P vars round gt a F o fun F1=>.ret .normal (F1.outs o)) (den P vars round gt b F o fun F1=>.ret .normal (F1.outs o)))
    none (fun vs=>K (behind F (.cond c a b) o vs)) (fun vs=>(behind F (.cond c a b) o vs).outs out)
 |.block id c,F,out,K=>
  let o:=oV vars c []
  .bind (den P vars round gt c F o fun F1=>.ret .normal (F1.outs o))
   (some (3*id)) (fun vs=>K (behind F c o vs)) (fun vs=>(behind F c o vs).outs out)
 |.loop c,F,out,_=>
  let o:=oV vars c []
  .loop (F.outs o) (fun vs=>den P vars round gt c (behind F c o vs) o fun F1=>.ret .normal (F1.outs o))
   (fun vs=>(behind F c o vs).outs out)
 |.rangeFunc f ps assign body,F,out,K=>
  if round||!(dE assign) then .fail else
  .Cu ps.size (F.ev f) (fun vs=>den P vars true none assign (F.eX ps.toList 1 vs) [] fun F1=>.start (nth vs 0) (den P vars true none body F1 [] fun _=>.ret .normal []))
   (K F) (F.outs out)
 |.exit id,F,out,_=>.ret (.exit (3*id)) (F.outs out)
 |.goto l,F,out,_=>match gt with
  |some l'=>if Nat.beq l' l then .ret (.exit (3*l+1)) (F.outs out) else .fail
  |none=>.fail
 |.ret,F,out,_=>.ret .ret (F.outs out)
 |.scope (.seq r1 (.seq r2 (.seq r3 (.seq (.label l) d)))),F,out,K=>
  if !(ot l d&&sI r1&&sI r2&&sI r3) then den P vars round none (.seq r1 (.seq r2 (.seq r3 (.seq (.label l) d)))) F out K else
  let c:=Code.seq r1 (.seq r2 (.seq r3 (.seq (.label l) d)))
  let o:=oV vars c []
  .bind (.bind (den P vars round (some l) (.seq r1 (.seq r2 (.seq r3 (.seq (.label l) d)))) F o fun F1=>.ret (.exit (3*l+2)) (F1.outs o))
    (some (3*l+1)) (fun vs=>den P vars round none d (behind F c o vs) o fun F1=>.ret (.exit (3*l+2)) (F1.outs o)) (fun vs=>vs))
   (some (3*l+2)) (fun vs=>K (behind F c o vs)) (fun vs=>(behind F c o vs).outs out)
 |.scope c,F,out,K=>den P vars round none c F out K
 |.refuse _,_,_,_=>.fail
end
def cQ (P:Program):List ResultVar→Nat→List AV→List AV→AC
 |[],_,_,acc=>.ret .ret acc
 |.tmp _::rs,i,vs,acc=>cQ P rs (i+1) vs (acc++[nth vs i])
 |.cell _ t::rs,i,vs,acc=>match aG P t,dZ P t with
  |some n,some g=>.op (.load n g (nth vs i)) fun x=>cQ P rs (i+1) vs (acc++[x])
  |_,_=>.fail
def ResultVar.slot:ResultVar→Nat
 |.tmp t=>t
 |.cell a _=>a
def kC (ops:Array Oper):Option Call:=match ops.back? with
 |some o=>match o.guard,o.dst with
  |none,none=>match o.op with
   |.defer c=>some c
   |_=>none
  |_,_=>none
 |none=>none
def gW:Code→Option (Array Oper×Call)
 |.region _ ops false=>match kC ops with
  |some c=>some (ops,c)
  |none=>none
 |_=>none
def e_:Code→Bool
 |.seq a b=>(gW a).isSome||e_ b
 |_=>false
def eU (P:Program)(g:FuncId):Bool:=match P.funcs[g]? with
 |some fn=>match fn.body with
  |some c=>!e_ c&&Nat.ble fn.params.size 2
  |none=>false
 |none=>false
def fits (n:Nat):Code→Bool
 |.region _ ops _=>ops.toList.all fun o=>match o.dst with|some d=>Nat.blt d n|none=>true
 |.seq a b=>fits n a&&fits n b
 |.cond _ a b=>fits n a&&fits n b
 |.block _ b|.loop b|.scope b=>fits n b
 |.rangeFunc _ ps a b=>ps.toList.all (fun p=>Nat.blt p n)&&fits n a&&fits n b
 |_=>true
def nK (P:Program)(vars:List Nat)(rs:List ResultVar)(out:List Nat):Code→Fr→AC
 |.seq a b,F=>match gW a with
  |some (ops,c)=>aw P ops ((List.range (ops.size-1)).map .exec) F [] fun F1=>
   match c.callee with
   |.value f=>match F1.ev f with
    |.fn (.func g) fa fc=>
     if eU P g then .fin (den P vars false none b F1 out fun F=>.ret .ret (F.outs out)) fun vs=>
      .call (.fn (.func g) fa fc) (c.args.toList.map F1.ev) fun _=>cQ P rs 0 vs []
     else .fail
    |_=>.fail
   |_=>.fail
  |none=>if dE a then den P vars false none a F [] fun F1=>nK P vars rs out b F1 else .fail
 |_,_=>.fail
def sJ:ResultVar→Bool
 |.tmp _=>true
 |_=>false
def fy (P:Program)(fn:Func)(vars:List Nat)(args:List AV):AC:=
 match fn.body with
 |none=>.fail
 |some c=>
  if !(fits fn.ntmps c) then .fail else
  let out:=fn.results.toList.map ResultVar.slot
  let F0:=Fr.eX .e (List.range (fn.params.size+fn.nfree)) 0 args
  if e_ c then nK P vars fn.results.toList out c F0
  else if fn.results.toList.all sJ then den P vars false none c F0 out fun F=>.ret .ret (F.outs out)
  else .fin (den P vars false none c F0 out fun F=>.ret .ret (F.outs out)) fun vs=>cQ P fn.results.toList 0 vs []
end
section
theorem DX (x:Option AO):∀f k,k<f→∀j,fN (uG x f k) j=if j=k then x else none:=by
 intro f
 induction f with
 |zero=>intro k h;omega
 |succ f ih=>
  intro k h j
  cases k with
  |zero=>cases j with
   |zero=>rfl
   |succ j=>
    show(Bool.rec (fN .e (Nat.div j 2)) (fN .e (Nat.div j 2)) (Nat.beq (Nat.mod j 2) 0):Option AO)=_
    cases Nat.beq (Nat.mod j 2) 0<;>simp<;>rfl
  |succ k=>
   have hk:k/2<f:=by omega
   have NK:=ih (k/2) hk
   show fN (Bool.rec (motive:=fun _=>T AO) (.n .e none (uG x f (Nat.div k 2))) (.n (uG x f (Nat.div k 2)) none .e) (Nat.beq (Nat.mod k 2) 0)) j=_
   cases j with
   |zero=>cases Nat.beq (Nat.mod k 2) 0<;>simp<;>rfl
   |succ j=>
    have e1:(Nat.beq (Nat.mod k 2) 0=true)↔k%2=0:=Nat.beq_eq▸Iff.rfl
    have e2:(Nat.beq (Nat.mod j 2) 0=true)↔j%2=0:=Nat.beq_eq▸Iff.rfl
    cases hb:Nat.beq (Nat.mod k 2) 0<;>cases hc:Nat.beq (Nat.mod j 2) 0
    ·show(Bool.rec (fN (uG x f (Nat.div k 2)) (Nat.div j 2)) (fN .e (Nat.div j 2)) (Nat.beq (Nat.mod j 2) 0):Option AO)=_
     rw[hc]
     show fN (uG x f (k/2)) (j/2)=_
     rw[NK]
     have:k%2≠0:=fun h=>by rw[e1.2 h] at hb;cases hb
     have:j%2≠0:=fun h=>by rw[e2.2 h] at hc;cases hc
     by_cases h2:j/2=k/2
     ·rw[if_pos h2,if_pos (by omega)]
     ·rw[if_neg h2,if_neg (by omega)]
    ·show(Bool.rec (fN (uG x f (Nat.div k 2)) (Nat.div j 2)) (fN .e (Nat.div j 2)) (Nat.beq (Nat.mod j 2) 0):Option AO)=_
     rw[hc]
     have:k%2≠0:=fun h=>by rw[e1.2 h] at hb;cases hb
     have:=e2.1 hc
     rw[if_neg (by omega)];rfl
    ·show(Bool.rec (fN .e (Nat.div j 2)) (fN (uG x f (Nat.div k 2)) (Nat.div j 2)) (Nat.beq (Nat.mod j 2) 0):Option AO)=_
     rw[hc]
     have:=e1.1 hb
     have:j%2≠0:=fun h=>by rw[e2.2 h] at hc;cases hc
     rw[if_neg (by omega)];rfl
    ·show(Bool.rec (fN .e (Nat.div j 2)) (fN (uG x f (Nat.div k 2)) (Nat.div j 2)) (Nat.beq (Nat.mod j 2) 0):Option AO)=_
     rw[hc]
     show fN (uG x f (k/2)) (j/2)=_
     rw[NK]
     have:=e1.1 hb
     have:=e2.1 hc
     by_cases h2:j/2=k/2
     ·rw[if_pos h2,if_pos (by omega)]
     ·rw[if_neg h2,if_neg (by omega)]
theorem iQ (l:T AO)(v:Option AO)(r:T AO)(j:Nat):fN (.n l v r) (j+1)=if j%2=0 then fN l (j/2) else fN r (j/2):=by
 show(Bool.rec (fN r (Nat.div j 2)) (fN l (Nat.div j 2)) (Nat.beq (Nat.mod j 2) 0):Option AO)=_
 have e:(Nat.beq (Nat.mod j 2) 0=true)↔j%2=0:=Nat.beq_eq▸Iff.rfl
 cases hc:Nat.beq (Nat.mod j 2) 0
 ·rw[if_neg (fun h=>by rw[e.2 h] at hc;cases hc)];rfl
 ·rw[if_pos (e.1 hc)];rfl
theorem sK (x:Option AO):∀(t:T AO) (k j:Nat),fN (Cv x t k) j=if j=k then x else fN t j:=by
 intro t
 induction t with
 |e=>intro k j;exact DX x (k+1) k (by omega) j
 |n l v r il ir=>
  intro k j
  cases k with
  |zero=>
   show fN (.n l x r) j=_
   cases j with
   |zero=>rfl
   |succ j=>rw[iQ,iQ,if_neg (by omega:¬j+1=0)]
  |succ k=>
   show fN (Bool.rec (motive:=fun _=>T AO) (.n l v (Cv x r (Nat.div k 2))) (.n (Cv x l (Nat.div k 2)) v r) (Nat.beq (Nat.mod k 2) 0)) j=_
   have e:(Nat.beq (Nat.mod k 2) 0=true)↔k%2=0:=Nat.beq_eq▸Iff.rfl
   cases hc:Nat.beq (Nat.mod k 2) 0
   ·have hk:k%2≠0:=fun h=>by rw[e.2 h] at hc;cases hc
    show fN (.n l v (Cv x r (k/2))) j=_
    cases j with
    |zero=>rfl
    |succ j=>
     rw[iQ,iQ]
     by_cases hj:j%2=0
     ·rw[if_pos hj,if_pos hj,if_neg (by omega)]
     ·rw[if_neg hj,if_neg hj,ir]
      by_cases h2:j/2=k/2
      ·rw[if_pos h2,if_pos (by omega)]
      ·rw[if_neg h2,if_neg (by omega)]
   ·have hk:=e.1 hc
    show fN (.n (Cv x l (k/2)) v r) j=_
    cases j with
    |zero=>rfl
    |succ j=>
     rw[iQ,iQ]
     by_cases hj:j%2=0
     ·rw[if_pos hj,if_pos hj,il]
      by_cases h2:j/2=k/2
      ·rw[if_pos h2,if_pos (by omega)]
      ·rw[if_neg h2,if_neg (by omega)]
     ·rw[if_neg hj,if_neg hj,if_neg (by omega)]
theorem AH.du (S:AH)(i j:Nat)(o:AO):(S.set i o).get j=if j=i then some o else S.get j:=sK _ _ _ _
theorem AH.gi (S:AH)(i j:Nat):(S.kill i).get j=if j=i then none else S.get j:=sK _ _ _ _
theorem AH.bZ (S:AH)(j:Nat)(o:AO):(S.new o).get j=if j=S.next then some o else S.get j:=sK _ _ _ _
@[simp] theorem AH.NL (S:AH) (i:Nat) (o:AO):(S.set i o).next=S.next:=rfl
@[simp] theorem AH.MU (S:AH) (i:Nat):(S.kill i).next=S.next:=rfl
@[simp] theorem AH.NM (S:AH) (o:AO):(S.new o).next=S.next+1:=rfl
namespace T
variable{α:Type}
theorem DY:∀(f:Nat) (t:T α) (k:Nat) (x:Option α),k<f→∀j,(oZ f t k x).get j=if j=k then x else t.get j:=by
 intro f
 induction f with
 |zero=>intro t k x h;omega
 |succ f ih=>
  intro t k x h j
  have eb:∀m:Nat,(Nat.beq (Nat.mod m 2) 0=true)↔m%2=0:=fun m=>Nat.beq_eq▸Iff.rfl
  cases t with
  |e=>
   cases k with
   |zero=>cases j with
    |zero=>rfl
    |succ j=>simp only[oZ,get];split<;>simp
   |succ k=>
    have hk:k/2<f:=by omega
    have NK:=ih .e (k/2) x hk
    simp only[oZ]
    by_cases hp:k%2=0
    ·rw[if_pos ((eb k).2 hp)]
     cases j with
     |zero=>simp[get]
     |succ j=>
      simp only[get]
      by_cases hq:j%2=0
      ·rw[if_pos ((eb j).2 hq)]
       show(oZ f T.e (k/2) x).get (j/2)=_
       rw[NK]
       by_cases h2:j/2=k/2
       ·rw[if_pos h2,if_pos (by omega)]
       ·rw[if_neg h2,if_neg (by omega)];rfl
      ·rw[if_neg (fun h=>hq ((eb j).1 h)),if_neg (by omega)]
    ·rw[if_neg (fun h=>hp ((eb k).1 h))]
     cases j with
     |zero=>simp[get]
     |succ j=>
      simp only[get]
      by_cases hq:j%2=0
      ·rw[if_pos ((eb j).2 hq),if_neg (by omega)]
      ·rw[if_neg (fun h=>hq ((eb j).1 h))]
       show(oZ f T.e (k/2) x).get (j/2)=_
       rw[NK]
       by_cases h2:j/2=k/2
       ·rw[if_pos h2,if_pos (by omega)]
       ·rw[if_neg h2,if_neg (by omega)];rfl
  |n l v r=>
   cases k with
   |zero=>cases j with
    |zero=>rfl
    |succ j=>simp only[oZ,get];simp
   |succ k=>
    have hk:k/2<f:=by omega
    simp only[oZ]
    by_cases hp:k%2=0
    ·rw[if_pos ((eb k).2 hp)]
     cases j with
     |zero=>simp[get]
     |succ j=>
      simp only[get]
      by_cases hq:j%2=0
      ·rw[if_pos ((eb j).2 hq),if_pos ((eb j).2 hq)]
       show(oZ f l (k/2) x).get (j/2)=_
       rw[ih l (k/2) x hk]
       by_cases h2:j/2=k/2
       ·rw[if_pos h2,if_pos (by omega)]
       ·rw[if_neg h2,if_neg (by omega)];rfl
      ·rw[if_neg (fun h=>hq ((eb j).1 h)),if_neg (fun h=>hq ((eb j).1 h)),if_neg (by omega)]
    ·rw[if_neg (fun h=>hp ((eb k).1 h))]
     cases j with
     |zero=>simp[get]
     |succ j=>
      simp only[get]
      by_cases hq:j%2=0
      ·rw[if_pos ((eb j).2 hq),if_pos ((eb j).2 hq),if_neg (by omega)]
      ·rw[if_neg (fun h=>hq ((eb j).1 h)),if_neg (fun h=>hq ((eb j).1 h))]
       show(oZ f r (k/2) x).get (j/2)=_
       rw[ih r (k/2) x hk]
       by_cases h2:j/2=k/2
       ·rw[if_pos h2,if_pos (by omega)]
       ·rw[if_neg h2,if_neg (by omega)];rfl
theorem du (t:T α)(k:Nat)(x:α)(j:Nat):(t.set k x).get j=if j=k then some x else t.get j:=DY (k+1) t k (some x) (by omega) j
end T
theorem nt:∀(l:List AV) (i:Nat),x6 l i=l[i]?
 |[],i=>by simp;rfl
 |v::r,0=>rfl
 |v::r,i+1=>by show x6 r i=_;rw[nt r i];simp
theorem dF:∀(n:Nat) (l:List AV),jx n l=l.drop n
 |0,l=>rfl
 |n+1,[]=>rfl
 |n+1,v::r=>by show jx n r=_;rw[dF n r];rfl
theorem ct:∀(n:Nat) (l:List AV),hK n l=l.take n
 |0,l=>rfl
 |n+1,[]=>rfl
 |n+1,v::r=>by show v::hK n r=_;rw[ct n r];rfl
theorem aZ:∀(l:List AV),bI l=l.length
 |[]=>rfl
 |v::r=>by show Nat.succ (bI r)=_;rw[aZ r];rfl
theorem fK:∀(a b:List AV),iY a b=a++b
 |[],b=>rfl
 |v::r,b=>by show v::iY r b=_;rw[fK r b];rfl
theorem bD (c:List AV)(off:Nat)(vs:List AV):aL c off vs=c.take off++(vs++c.drop (off+vs.length)):=by
 simp[aL,fK,ct,dF,aZ]
theorem DZ:∀(l:List AV) (i:Nat),nth l i=(l[i]?).getD .no
 |[],i=>by simp[nth]
 |v::r,0=>by simp[nth]
 |v::r,i+1=>by simp[nth,DZ r i]
theorem gF {x k}{n:Int}(h:asInt x=some (k,n)):x=.sc (.int k n):=by
 cases x<;>first|(cases h;done)|skip
 rename_i v
 cases v<;>first|(cases h;done)|(cases h;rfl)
@[simp] theorem MV (k:IntKind) (n:Int):asInt (.sc (.int k n))=some (k,n):=rfl
theorem jA {x}{b:Bool}(h:asBool x=some b):x=.sc (.bool b):=by
 cases x<;>first|(cases h;done)|skip
 rename_i v
 cases v<;>first|(cases h;done)|(cases h;rfl)
@[simp] theorem I_ (b:Bool):asBool (.sc (.bool b))=some b:=rfl
theorem fO {x}{i o:Nat}(h:hH x=some (i,o)):x=.ptr i o:=by
 cases x<;>first|(cases h;done)|(cases h;rfl)
@[simp] theorem MW (i o:Nat):hH (.ptr i o)=some (i,o):=rfl
theorem sL {x l}(h:asAgg x=some l):x=.agg l:=by
 cases x<;>first|(cases h;done)|(cases h;rfl)
@[simp] theorem MX (l:List AV):asAgg (.agg l)=some l:=rfl
theorem zY {x l}(h:Bl x=some l):x=.cP l:=by
 cases x<;>first|(cases h;done)|(cases h;rfl)
@[simp] theorem MY (l:List AV):Bl (.cP l)=some l:=rfl
theorem D0 (x:AV):x.cells=match x with|.agg cs=>cs|v=>[v]:=by cases x<;>rfl
theorem wN (x:AV):ep x=match x with|.no|.cP _=>true|_=>false:=by cases x<;>rfl
theorem zZ {o l}(h:I6 o=some l):o=.row l:=by
 cases o<;>first|(cases h;done)|(cases h;rfl)
theorem wO {o l}(h:Bm o=some l):o=.row l∨o=.ro l:=by
 cases o<;>first|(cases h;done)|(cases h;first|exact .inl rfl|exact .inr rfl)
theorem z0 (j k:IntKind):mn j k=true↔j=k:=by
 cases j<;>cases k<;>decide
theorem mB {j k}(h:mn j k=true):j=k:=(z0 j k).1 h
theorem fP (a b:Int):Dz a b=decide (a<b):=by
 have h:∀m n:Nat,Nat.ble (Nat.succ m) n=decide (m<n):=fun m n=>by
  rw[Bool.eq_iff_iff,Nat.ble_eq,decide_eq_true_iff];exact Iff.rfl
 cases a with
 |ofNat a=>cases b with
  |ofNat b=>show Nat.ble (Nat.succ a) b=_;rw[h,Bool.eq_iff_iff];simp
  |negSucc b=>show false=_;symm;rw[decide_eq_false_iff_not];simp only[Int.negSucc_eq,Int.ofNat_eq_natCast];omega
 |negSucc a=>cases b with
  |ofNat b=>show true=_;symm;rw[decide_eq_true_iff];simp only[Int.negSucc_eq,Int.ofNat_eq_natCast];omega
  |negSucc b=>show Nat.ble (Nat.succ b) a=_;rw[h,Bool.eq_iff_iff,decide_eq_true_iff,decide_eq_true_iff];simp only[Int.negSucc_eq];omega
theorem fD (a b:Int):G1 a b=(a==b):=by
 have h:∀m n:Nat,Nat.beq m n=decide (m=n):=fun m n=>by
  rw[Bool.eq_iff_iff,Nat.beq_eq,decide_eq_true_iff]
 cases a with
 |ofNat a=>cases b with
  |ofNat b=>show Nat.beq a b=_;rw[h,Bool.eq_iff_iff];simp;omega
  |negSucc b=>show false=_;symm;rw[beq_eq_false_iff_ne];simp
 |negSucc a=>cases b with
  |ofNat b=>show false=_;symm;rw[beq_eq_false_iff_ne];simp
  |negSucc b=>show Nat.beq a b=_;rw[h,Bool.eq_iff_iff];simp
theorem wP (k:IntKind)(a:Nat)(hle:a≤DP k):k.wrap (Int.ofNat a)=Int.ofNat a:=by
 have hm:(Int.ofNat a)%(2^k.bits:Int)=Int.ofNat a:=by
  cases k<;>(simp only[IntKind.bits,Int.ofNat_eq_natCast];refine Int.emod_eq_of_lt (by omega) ?_)<;>(have:a≤_:=hle;simp only[DP] at this;omega)
 have hs:(k.signed&&decide (Int.ofNat a≥(2^(k.bits-1):Int)))=false:=by
  clear hm
  cases k<;>first|rfl|(show decide _=false;refine decide_eq_false ?_;have:a≤_:=hle;simp only[DP] at this;simp only[IntKind.bits,Int.ofNat_eq_natCast];omega)
 unfold IntKind.wrap
 simp only[hm,hs]
 simp
theorem bo (k:IntKind)(n:Int):fw k n=k.wrap n:=by
 cases n with
 |negSucc a=>rfl
 |ofNat a=>
  simp only[fw]
  cases h:Nat.ble a (DP k) with
  |false=>rfl
  |true=>exact(wP k a (Nat.le_of_ble_eq_true h)).symm
theorem Cz {n:Int}{a:Nat}(h:nat? n=some a):n=a:=by cases n<;>simp[nat?] at h;simp[h]
theorem iR {i}{n a:Nat}(h:mq i n=some a):∃k,i=.sc (.int k (a:Int))∧a<n:=by
 unfold mq at h
 cases hi:asInt i with
 |none=>simp[hi] at h
 |some kn=>
  obtain⟨k,m⟩:=kn
  simp only[hi] at h
  cases hm:nat? m with
  |none=>simp[hm] at h
  |some b=>
   simp only[hm,below] at h
   cases hb:Nat.ble (Nat.succ b) n with
   |false=>simp[hb] at h
   |true=>
    simp only[hb,Option.some.injEq] at h
    subst h
    have:=Cz hm
    subst this
    exact⟨k,gF hi,Nat.le_of_ble_eq_true hb⟩
theorem vG {i}{n a:Nat}(h:He i n=some a):∃k,i=.sc (.int k (a:Int))∧a≤n:=by
 obtain⟨k,e,h⟩:=iR h
 exact⟨k,e,Nat.le_of_lt_succ h⟩
end
section
class jo where
 val:Nat→Value
 one:∀i,(val i).oneCell'=true
instance(priority:=low) jo.none:jo:=⟨fun _=>.bool true,fun _=>rfl⟩
variable[jo]
abbrev a_:=Nat→Option (Nat×Nat×Nat)
def a_.le (ρ aU:a_):Prop:=∀id x,ρ id=some x→aU id=some x
theorem a_.le_refl (ρ:a_):ρ.le ρ:=fun _ _ h=>h
theorem a_.le_trans {a b c:a_}(h:a.le b)(k:b.le c):a.le c:=fun _ _ x=>k _ _ (h _ _ x)
def a_.put (ρ:a_)(i:Nat)(x:Nat×Nat×Nat):a_:=fun j=>if j=i then some x else ρ j
theorem a_.jY {ρ:a_}{i:Nat}{x:Nat×Nat×Nat}(h:ρ i=none):ρ.le (ρ.put i x):=by
 intro j y hy
 unfold a_.put
 split
 ·next e=>subst e;rw[h] at hy;cases hy
 ·exact hy
@[simp] theorem a_.bA (ρ:a_) (i:Nat) (x:Nat×Nat×Nat):ρ.put i x i=some x:=by simp[a_.put]
theorem a_.aE (ρ:a_){i j:Nat}(x:Nat×Nat×Nat)(h:j≠i):ρ.put i x j=ρ j:=by simp[a_.put,h]
def D1:Fn→Bool
 |.func _|.method _=>true
 |_=>false
mutual
inductive V (ρ:a_):AV→Value→Prop
 |sc {v}(h:scalar v=true):V ρ (.sc v) v
 |ptr {id b o l off:Nat}(h:ρ id=some (b,o,l)):V ρ (.ptr id off) (.pointer (some ⟨b,o+off,none⟩))
 |sl {id b o l off len cap:Nat}(h:ρ id=some (b,o,l)):V ρ (.sl id off len cap) (.slice (some ⟨b,o+off,none⟩) len cap)
 |op {id b o l off len cO cap es:Nat}(h:ρ id=some (b,o,l))(h0:len≤cO)(h1:cO≤cap)(h2:o+off+cap*es≤l):
   V ρ (.op id off len cO es) (.slice (some ⟨b,o+off,none⟩) len cap)
 |wQ {id b o l off x es:Nat}(h:ρ id=some (b,o,l)):V ρ (.op id off 0 0 es) (.slice (some ⟨b,x,none⟩) 0 0)
 |map {id b o l:Nat}(h:ρ id=some (b,o,l)):V ρ (.map id) (.map (some b))
 |fn {f a c a' c'}(hf:D1 f=true)(h1:VL ρ a a')(h2:VL ρ c c'):V ρ (.fn f a c) (.func f a'.toArray c'.toArray)
 |yd {id b o l:Nat}(h:ρ id=some (b,o,l)):V ρ (.yd id) (.func (.yield b) #[] #[])
 |iface {t v x}(h:V ρ v x):V ρ (.iface t v) (.iface t x)
 |agg {cs xs}(h:VL ρ cs xs)(h1:∀x∈xs,x.oneCell'=true):V ρ (.agg cs) (.agg xs.toArray)
 |cP {cs xs}(h:VL ρ cs xs):V ρ (.cP cs) (.tuple xs.toArray)
 |no {x}:V ρ .no x
 |tok {i:Nat}:V ρ (.tok i) (jo.val i)
inductive VL (ρ:a_):List AV→List Value→Prop
 |nil:VL ρ [] []
 |cons {v x vs xs}(h:V ρ v x)(r:VL ρ vs xs):VL ρ (v::vs) (x::xs)
end
mutual
theorem V.mono {ρ aU}(hl:ρ.le aU):∀{v} {x},V ρ v x→V aU v x
 |_,_,.sc h=>.sc h
 |_,_,.ptr h=>.ptr (hl _ _ h)
 |_,_,.sl h=>.sl (hl _ _ h)
 |_,_,.op h h0 h1 h2=>.op (hl _ _ h) h0 h1 h2
 |_,_,.wQ h=>.wQ (hl _ _ h)
 |_,_,.map h=>.map (hl _ _ h)
 |_,_,.fn hf h1 h2=>.fn hf (VL.mono hl h1) (VL.mono hl h2)
 |_,_,.yd h=>.yd (hl _ _ h)
 |_,_,.iface h=>.iface (V.mono hl h)
 |_,_,.agg h h1=>.agg (VL.mono hl h) h1
 |_,_,.cP h=>.cP (VL.mono hl h)
 |_,_,.no=>.no
 |_,_,.tok=>.tok
theorem VL.mono {ρ aU}(hl:ρ.le aU):∀{v} {x},VL ρ v x→VL aU v x
 |_,_,.nil=>.nil
 |_,_,.cons h r=>.cons (V.mono hl h) (VL.mono hl r)
end
theorem VL.length {ρ}:∀{a} {b},VL ρ a b→a.length=b.length
 |_,_,.nil=>rfl
 |_,_,.cons _ r=>by simp[VL.length r]
theorem VL.get {ρ}:∀{a} {b},VL ρ a b→∀{i:Nat} {v},a[i]?=some v→∃x,b[i]?=some x∧V ρ v x
 |_,_,.nil,i,v,h=>by simp at h
 |_,_,.cons h r,0,v,e=>by simp at e;subst e;exact⟨_,rfl,h⟩
 |_,_,.cons h r,i+1,v,e=>by simp at e;obtain⟨x,e1,e2⟩:=VL.get r e;exact⟨x,by simpa using e1,e2⟩
theorem VL.sM {ρ}:∀{a} {b},a.length=b.length→(∀(i:Nat) (v:AV) (x:Value),a[i]?=some v→b[i]?=some x→V ρ v x)→VL ρ a b
 |[],[],_,_=>.nil
 |[],_::_,h,_=>by simp at h
 |_::_,[],h,_=>by simp at h
 |v::a,x::b,h,g=>.cons (g 0 v x rfl rfl) (VL.sM (by simpa using h) fun i v x h1 h2=>g (i+1) v x (by simpa using h1) (by simpa using h2))
theorem VL.append {ρ}:∀{a} {b} {c} {d},VL ρ a b→VL ρ c d→VL ρ (a++c) (b++d)
 |_,_,_,_,.nil,k=>k
 |_,_,_,_,.cons h r,k=>.cons h (VL.append r k)
theorem VL.take {ρ}:∀(n:Nat) {a} {b},VL ρ a b→VL ρ (a.take n) (b.take n)
 |0,_,_,_=>by simpa using VL.nil
 |n+1,_,_,.nil=>.nil
 |n+1,_,_,.cons h r=>.cons h (VL.take n r)
theorem VL.drop {ρ}:∀(n:Nat) {a} {b},VL ρ a b→VL ρ (a.drop n) (b.drop n)
 |0,_,_,h=>h
 |n+1,_,_,.nil=>.nil
 |n+1,_,_,.cons h r=>VL.drop n r
theorem VL.nth {ρ a b}(h:VL ρ a b)(i:Nat)(d:Value):V ρ (nth a i) (b.getD i d):=by
 rw[DZ]
 cases e:a[i]? with
 |none=>exact .no
 |some v=>obtain⟨x,e1,e2⟩:=h.get e;simpa[List.getD,e1] using e2
theorem V.d_ {ρ k}{n:Int}{x}(h:V ρ (.sc (.int k n)) x):x=.int k n:=by cases h;rfl
theorem V.x8 {ρ}{b:Bool}{x}(h:V ρ (.sc (.bool b)) x):x=.bool b:=by cases h;rfl
theorem V.df {ρ v x}(h:V ρ (.sc v) x):x=v∧scalar v=true:=by cases h with|sc h=>exact⟨rfl,h⟩
theorem V.jB {ρ}{i off:Nat}{x}(h:V ρ (.ptr i off) x):∃b o l,ρ i=some (b,o,l)∧x=.pointer (some ⟨b,o+off,none⟩):=by
 cases h with|ptr h=>exact⟨_,_,_,h,rfl⟩
theorem V.wR {ρ cs x}(h:V ρ (.agg cs) x):∃xs:List Value,x=.agg xs.toArray∧VL ρ cs xs∧∀x∈xs,x.oneCell'=true:=by
 cases h with|agg h h1=>exact⟨_,rfl,h,h1⟩
theorem V.Hg {ρ cs x}(h:V ρ (.cP cs) x):∃xs:List Value,x=.tuple xs.toArray∧VL ρ cs xs:=by
 cases h with|cP h=>exact⟨_,rfl,h⟩
theorem V.bool (ρ:a_)(b:Bool):V ρ (.sc (.bool b)) (.bool b):=.sc rfl
theorem V.int (ρ:a_)(k:IntKind)(n:Int):V ρ (.sc (.int k n)) (.int k n):=.sc rfl
theorem V.uv (ρ:a_):V ρ uv undef:=.cP .nil
theorem V.one {ρ v x}(h:V ρ v x)(ho:ep v=false)(ha:∀cs,v≠.agg cs):x.oneCell'=true:=by
 cases h with
 |sc h=>cases x<;>first|rfl|(simp[scalar] at h)
 |agg h h1=>exact absurd rfl (ha _)
 |cP h=>rw[wN] at ho;cases ho
 |no=>rw[wN] at ho;cases ho
 |tok=>exact jo.one _
 |_=>rfl
theorem V.wS {ρ v x}(h:V ρ v x)(ho:ep v=false):VL ρ v.cells x.cells.toList∧∀y∈x.cells.toList,y.oneCell'=true:=by
 rw[D0]
 cases h with
 |agg h h1=>exact⟨by simpa[Value.cells] using h,by simpa[Value.cells] using h1⟩
 |cP h=>rw[wN] at ho;cases ho
 |no=>rw[wN] at ho;cases ho
 |sc h=>
  have h1:=V.one (ρ:=ρ) (.sc h) rfl (by simp)
  have hc:x.cells=#[x]:=by cases x<;>first|rfl|(simp[scalar] at h)
  rw[hc]
  exact⟨.cons (.sc h) .nil,by simpa using h1⟩
 |ptr h=>exact⟨.cons (.ptr h) .nil,by simp[Value.cells,Value.oneCell']⟩
 |sl h=>exact⟨.cons (.sl h) .nil,by simp[Value.cells,Value.oneCell']⟩
 |op h z a b=>exact⟨.cons (.op h z a b) .nil,by simp[Value.cells,Value.oneCell']⟩
 |wQ h=>exact⟨.cons (.wQ h) .nil,by simp[Value.cells,Value.oneCell']⟩
 |map h=>exact⟨.cons (.map h) .nil,by simp[Value.cells,Value.oneCell']⟩
 |fn hf a b=>exact⟨.cons (.fn hf a b) .nil,by simp[Value.cells,Value.oneCell']⟩
 |yd h=>exact⟨.cons (.yd h) .nil,by simp[Value.cells,Value.oneCell']⟩
 |iface h=>exact⟨.cons (.iface h) .nil,by simp[Value.cells,Value.oneCell']⟩
 |@tok i=>
  have h1:=jo.one i
  have h2:V ρ (.tok i) (jo.val i):=.tok
  generalize jo.val i=x at h1 h2⊢
  have hc:x.cells=#[x]:=by cases x<;>first|rfl|(simp[Value.oneCell'] at h1)
  rw[hc]
  exact⟨.cons h2 .nil,by simpa using h1⟩
theorem i3 {ρ f}(hf:∀v a,f v=some a→V ρ a v):∀{l} {as},o0 f l=some as→VL ρ as l
 |[],as,h=>by simp[o0] at h;subst h;exact .nil
 |v::r,as,h=>by
  simp only[o0] at h
  cases h1:f v with
  |none=>simp[h1] at h
  |some a=>
   cases h2:o0 f r with
   |none=>simp[h1,h2] at h
   |some b=>simp[h1,h2] at h;subst h;exact .cons (hf _ _ h1) (i3 hf h2)
theorem x9 {ρ:a_}{f:Value→Option AV}(hf:∀v a,f v=some a→V ρ a v):∀{l:List Value} {as:List AV},o0 (fun v=>one? (f v)) l=some as→∀x∈l,x.oneCell'=true
 |[],as,h,x,hx=>by simp at hx
 |v::r,as,h,x,hx=>by
  simp only[o0] at h
  cases h1:one? (f v) with
  |none=>simp[h1] at h
  |some a=>
   cases h2:o0 (fun v=>one? (f v)) r with
   |none=>simp[h1,h2] at h
   |some b=>
    rcases List.mem_cons.1 hx with rfl|hx
    ·cases h3:f x with
     |none=>rw[h3] at h1;simp[one?] at h1
     |some c=>
      rw[h3] at h1
      have hv:=hf _ _ h3
      refine hv.one ?_ ?_
      ·cases c<;>first|rfl|(simp[one?] at h1)
      ·intro cs e;subst e;simp[one?] at h1
    ·exact x9 hf h2 x hx
theorem CA {o a}(h:one? o=some a):o=some a:=by
 unfold one? at h
 split at h<;>first|(cases h;done)|exact h
theorem kD {ρ:a_}:∀{n:Nat} {v:Value} {a:AV},rM n v=some a→V ρ a v:=by
 intro n
 induction n with
 |zero=>intro v a h;simp[rM] at h
 |succ n ih=>
  intro v a h
  cases v with
  |agg cs=>
   simp only[rM,Option.map_eq_some_iff] at h
   obtain⟨l,hl,rfl⟩:=h
   have h1:=i3 (ρ:=ρ) (f:=fun v=>one? (rM n v)) (fun v a h=>ih (CA h)) hl
   have h2:=x9 (ρ:=ρ) (f:=rM n) (fun v a h=>ih h) hl
   have:=V.agg h1 h2
   simpa using this
  |tuple cs=>
   simp only[rM,Option.map_eq_some_iff] at h
   obtain⟨l,hl,rfl⟩:=h
   have:=V.cP (i3 (ρ:=ρ) (fun v a h=>ih h) hl)
   simpa using this
  |iface t v=>
   simp only[rM,Option.map_eq_some_iff] at h
   obtain⟨x,hx,rfl⟩:=h
   exact .iface (ih hx)
  |func f a b=>
   cases f with
   |func f=>
    simp only[rM] at h
    cases h1:o0 (rM n) a.toList with
    |none=>simp[h1] at h
    |some a'=>
     cases h2:o0 (rM n) b.toList with
     |none=>simp[h1,h2] at h
     |some b'=>
      simp[h1,h2] at h
      subst h
      have:=V.fn (ρ:=ρ) (f:=.func f) rfl (i3 (fun v a h=>ih h) h1) (i3 (fun v a h=>ih h) h2)
      simpa using this
   |_=>simp[rM,scalar] at h
  |_=>simp only[rM] at h;split at h<;>first|(cases h;done)|(next hs=>cases h;exact .sc hs)
mutual
theorem gG {ρ}:∀{a} {v x},qu a=some v→V ρ a x→x=v
 |.sc u,v,x,h,hv=>by simp[qu] at h;rw[←h];exact hv.df.1
 |.agg cs,v,x,h,hv=>by
  simp only[qu,Option.map_eq_some_iff] at h
  obtain⟨l,hl,rfl⟩:=h
  obtain⟨xs,rfl,h1,_⟩:=hv.wR
  rw[sN hl h1]
 |.iface t u,v,x,h,hv=>by
  simp only[qu,Option.map_eq_some_iff] at h
  obtain⟨l,hl,rfl⟩:=h
  cases hv with|iface hv=>rw[gG hl hv]
 |.ptr ..,v,x,h,hv=>by simp[qu] at h
 |.sl ..,v,x,h,hv=>by simp[qu] at h
 |.op ..,v,x,h,hv=>by simp[qu] at h
 |.map ..,v,x,h,hv=>by simp[qu] at h
 |.fn ..,v,x,h,hv=>by simp[qu] at h
 |.yd ..,v,x,h,hv=>by simp[qu] at h
 |.cP ..,v,x,h,hv=>by simp[qu] at h
 |.no,v,x,h,hv=>by simp[qu] at h
theorem sN {ρ}:∀{a} {v x},rN a=some v→VL ρ a x→x=v
 |[],v,x,h,hv=>by simp[rN] at h;cases hv;exact h.symm▸rfl
 |a::r,v,x,h,hv=>by
  simp only[rN] at h
  cases h1:qu a with
  |none=>simp[h1] at h
  |some b=>
   cases h2:rN r with
   |none=>simp[h1,h2] at h
   |some c=>
    simp[h1,h2] at h
    subst h
    cases hv with|cons hv hr=>rw[gG h1 hv,sN h2 hr]
end
theorem fF {α:Type}{P:Program}:∀{s:Sem α} {a:α},bm P s=some a→∀w,s.run P w=.ok a w:=by
 intro s
 induction s with
 |pure a=>intro b h w;simp[bm] at h;subst h;rfl
 |program k ih=>intro b h w;exact ih P h w
 |mark m k ih=>intro b h w;exact ih h w
 |_=>intro b h w;simp[bm] at h
end
section
variable[jo]
def ou:AO→Bool
 |.ro _=>true
 |_=>false
def FR (ρ:a_)(F:Fr)(tmps:Array Value):Prop:=∀t,V ρ (F.at t) (tmps.getD t undef)
def Ja:Option Tag→Option Code→Prop
 |none,none=>True
 |some .ret,some .ret=>True
 |some (.exit i),some (.exit j)=>i=3*j
 |_,_=>False
def D2 (P:Program)(ρ:a_)(r:Loop)(body:List AV→AC):Prop:=
 ∃(F:Fr) (vars:List Nat),FR ρ F r.tmps∧dE r.assign=true∧fits r.tmps.size r.assign=true∧fits r.tmps.size r.body=true∧(∀p∈r.params.toList,p<r.tmps.size)∧
  body=fun vs=>den P vars true none r.assign (F.eX r.params.toList 1 vs) [] fun F1=>.start (nth vs 0) (den P vars true none r.body F1 [] fun _=>.ret .normal [])
def OR (P:Program)(ρ:a_)(w:World)(b o l:Nat):AO→Prop
 |.row cs=>∃(c:Array Value) (e:TypeId),w.heap[b]?=some (.cells c e (0,0))∧c.size=l∧o+cs.length≤l∧
   ∀(i:Nat) v,cs[i]?=some v→∃x,c[o+i]?=some x∧V ρ v x∧x.oneCell'=true
 |.ro cs=>∀(i:Nat) v,cs[i]?=some v→∃x,w.cell? ⟨b,o+i,none⟩=some x∧V ρ v x∧x.oneCell'=true
 |.map es=>∃(dV:Array MapEntry) (clock:Nat),w.heap[b]?=some (.map dV clock)∧dV.size=es.length∧
   ∀(i:Nat) k v,es[i]?=some (k,v)→∃e,dV[i]?=some e∧e.key=k∧V ρ v e.val
 |.loop st de n body=>∃r:Loop,w.heap[b]?=some (.loop r)∧r.state=st∧Ja de r.pending∧r.params.size=n∧D2 P ρ r body
structure R (P:Program)(ρ:a_)(S:AH)(w:World):Prop where
 gH:∀{id ob b o l},S.get id=some ob→ρ id=some (b,o,l)→OR P ρ w b o l ob
 inj:∀{i j oi oj b o l o' l'},S.get i=some oi→S.get j=some oj→ρ i=some (b,o,l)→ρ j=some (b,o',l')→(ou oi=false∨ou oj=false)→i=j
 rO:∀{id x},ρ id=some x→id<S.next
 nO:∀{id b o l},ρ id=some (b,o,l)→b<w.heap.size
 wf:∀{id ob},S.get id=some ob→id<S.next
def x_ (S:AH)(ρ:a_)(b:Nat):Prop:=∃id ob o l,S.get id=some ob∧ou ob=false∧ρ id=some (b,o,l)
structure Ext (ρ:a_)(S:AH)(w:World)(aU:a_)(S':AH)(w':World):Prop where
 uJ:ρ.le aU
 next:S.next≤S'.next
 mC:∀id x,ρ id=none→aU id=some x→S.next≤id
 iK:∀id,ρ id=none→id<S.next→S'.get id=S.get id
 os:w'.os=w.os
 tape:w'.tape=w.tape
 output:w'.output=w.output
 size:w.heap.size≤w'.heap.size
 frame:∀b,b<w.heap.size→¬x_ S ρ b→w'.heap[b]?=w.heap[b]?
 owned:∀b,b<w.heap.size→x_ S' aU b→x_ S ρ b
theorem Ext.refl (ρ:a_)(S:AH)(w:World):Ext ρ S w ρ S w:=
 ⟨a_.le_refl _,Nat.le_refl _,fun id x h1 h2=>by(rw[h1] at h2;cases h2),fun _ _ _=>rfl,rfl,rfl,rfl,Nat.le_refl _,fun _ _ _=>rfl,fun _ _ h=>h⟩
theorem Ext.trans {ρ aU Hh S S' Rz w w' wT}(h:Ext ρ S w aU S' w')(k:Ext aU S' w' Hh Rz wT):Ext ρ S w Hh Rz wT where
 uJ:=a_.le_trans h.uJ k.uJ
 next:=Nat.le_trans h.next k.next
 mC:=fun id x h1 h2=>by
  cases e:aU id with
  |some y=>exact h.mC id y h1 e
  |none=>exact Nat.le_trans h.next (k.mC id x e h2)
 iK:=fun id h1 h2=>by
  have e:aU id=none:=by
   cases e:aU id with
   |none=>rfl
   |some y=>have:=h.mC id y h1 e;omega
  rw[k.iK id e (Nat.lt_of_lt_of_le h2 h.next),h.iK id h1 h2]
 os:=k.os.trans h.os
 tape:=k.tape.trans h.tape
 output:=k.output.trans h.output
 size:=Nat.le_trans h.size k.size
 frame:=fun b h1 h2=>by
  rw[k.frame b (Nat.lt_of_lt_of_le h1 h.size) (fun ho=>h2 (h.owned b h1 ho)),h.frame b h1 h2]
 owned:=fun b h1 h2=>h.owned b h1 (k.owned b (Nat.lt_of_lt_of_le h1 h.size) h2)
theorem FR.mono {ρ aU F t}(hl:ρ.le aU)(h:FR ρ F t):FR aU F t:=fun i=>(h i).mono hl
theorem OR.mono {P ρ aU w w'}{b o l:Nat}{ob}(hl:ρ.le aU)(hb:w'.heap[b]?=w.heap[b]?)(h:OR P ρ w b o l ob):OR P aU w' b o l ob:=by
 cases ob with
 |row cs=>
  obtain⟨c,e,h1,h2,h3,h4⟩:=h
  exact⟨c,e,hb.trans h1,h2,h3,fun i v hi=>let⟨x,a,b,c⟩:=h4 i v hi;⟨x,a,b.mono hl,c⟩⟩
 |ro cs=>
  intro i v hi
  obtain⟨x,a,b,c⟩:=h i v hi
  refine⟨x,?_,b.mono hl,c⟩
  rw[←a];simp only[World.cell?,hb]
 |map es=>
  obtain⟨dV,clock,h1,h2,h3⟩:=h
  exact⟨dV,clock,hb.trans h1,h2,fun i k v hi=>let⟨e,a,b,c⟩:=h3 i k v hi;⟨e,a,b,c.mono hl⟩⟩
 |loop st de n body=>
  obtain⟨r,h1,h2,h3,h4,F,vars,h5,h6⟩:=h
  exact⟨r,hb.trans h1,h2,h3,h4,F,vars,h5.mono hl,h6⟩
structure qW (w w':World):Prop where
 os:w'.os=w.os
 tape:w'.tape=w.tape
 output:w'.output=w.output
theorem R.drawn {P ρ S w w'}(h:R P ρ S w)(hh:w'.heap=w.heap)(hs:qW w w'):R P ρ S w'∧Ext ρ S w ρ S w':=
 ⟨⟨fun h1 h2=>(h.gH h1 h2).mono (a_.le_refl _) (by rw[hh]),h.inj,h.rO,fun h1=>by rw[hh];exact h.nO h1,h.wf⟩,
  ⟨a_.le_refl _,Nat.le_refl _,fun id x h1 h2=>by(rw[h1] at h2;cases h2),fun _ _ _=>rfl,hs.os,hs.tape,hs.output,by rw[hh];exact Nat.le_refl _,fun _ _ _=>by rw[hh],fun _ _ h=>h⟩⟩
theorem R.new {P ρ S w w' ob}{l:Nat}(h:R P ρ S w)(hs:qW w w')(hz:w'.heap.size=w.heap.size+1)
  (ho:∀b,b<w.heap.size→w'.heap[b]?=w.heap[b]?)
  (D3:OR P (ρ.put S.next (w.heap.size,0,l)) w' w.heap.size 0 l ob) (hr:ou ob=false):
  R P (ρ.put S.next (w.heap.size,0,l)) (S.new ob) w'∧Ext ρ S w (ρ.put S.next (w.heap.size,0,l)) (S.new ob) w':=by
 have hn:ρ S.next=none:=by
  cases e:ρ S.next with
  |none=>rfl
  |some x=>exact absurd (h.rO e) (Nat.lt_irrefl _)
 have hle:=a_.jY (x:=(w.heap.size,0,l)) hn
 refine⟨⟨?_,?_,?_,?_,fun{j oj} hj=>by
  rw[AH.bZ] at hj
  split at hj
  ·next e=>subst e;simp
  ·have:=h.wf hj;simp;omega⟩,⟨hle,by simp,?_,?_,hs.os,hs.tape,hs.output,by omega,fun b hb _=>ho b hb,?_⟩⟩
 ·intro id rP b o l' h1 h2
  rw[AH.bZ] at h1
  by_cases e:id=S.next
  ·subst e
   rw[if_pos rfl] at h1
   cases h1
   rw[a_.bA] at h2
   cases h2
   exact D3
  ·rw[if_neg e] at h1
   rw[a_.aE _ _ e] at h2
   exact(h.gH h1 h2).mono hle (ho b (h.nO h2))
 ·intro i j oi oj b o l' o' RA h1 h2 h3 h4 h5
  rw[AH.bZ] at h1 h2
  by_cases ei:i=S.next<;>by_cases ej:j=S.next
  ·rw[ei,ej]
  ·exfalso
   subst ei
   rw[a_.bA] at h3
   rw[a_.aE _ _ ej] at h4
   cases h3
   exact absurd (h.nO h4) (Nat.lt_irrefl _)
  ·exfalso
   subst ej
   rw[a_.bA] at h4
   rw[a_.aE _ _ ei] at h3
   cases h4
   exact absurd (h.nO h3) (Nat.lt_irrefl _)
  ·rw[if_neg ei] at h1
   rw[if_neg ej] at h2
   rw[a_.aE _ _ ei] at h3
   rw[a_.aE _ _ ej] at h4
   exact h.inj h1 h2 h3 h4 h5
 ·intro id x hx
  by_cases e:id=S.next
  ·subst e;simp
  ·rw[a_.aE _ _ e] at hx
   have:=h.rO hx
   simp;omega
 ·intro id b o l' hx
  by_cases e:id=S.next
  ·subst e;rw[a_.bA] at hx;cases hx;omega
  ·rw[a_.aE _ _ e] at hx
   have:=h.nO hx
   omega
 ·intro id x h1 h2
  by_cases e:id=S.next
  ·subst e;exact Nat.le_refl _
  ·rw[a_.aE _ _ e] at h2;rw[h1] at h2;cases h2
 ·intro id h1 h2
  rw[AH.bZ,if_neg (by omega)]
 ·intro b hb ⟨id,rP,o,l',h1,h2,h3⟩
  rw[AH.bZ] at h1
  by_cases e:id=S.next
  ·subst e;rw[a_.bA] at h3;cases h3;exact absurd hb (Nat.lt_irrefl _)
  ·rw[if_neg e] at h1
   rw[a_.aE _ _ e] at h3
   exact⟨id,rP,o,l',h1,h2,h3⟩
theorem R.set {P ρ S w w'}{id b o l:Nat}{ob rP}(h:R P ρ S w)(hg:S.get id=some ob)(hr:ou ob=false)(hi:ρ id=some (b,o,l))
  (hs:qW w w') (hz:w'.heap.size=w.heap.size) (sO:∀k,k≠b→w'.heap[k]?=w.heap[k]?) (D3:OR P ρ w' b o l rP) (ox:ou rP=false):
  R P ρ (S.set id rP) w'∧Ext ρ S w ρ (S.set id rP) w':=by
 refine⟨⟨?_,?_,?_,?_,fun{j oj} hj=>by
  rw[AH.du] at hj
  split at hj
  ·next e=>subst e;exact h.wf hg
  ·exact h.wf hj⟩,⟨a_.le_refl _,Nat.le_refl _,fun id x h1 h2=>by(rw[h1] at h2;cases h2),?_,hs.os,hs.tape,hs.output,by omega,?_,?_⟩⟩
 ·intro j oj b' o' l' h1 h2
  rw[AH.du] at h1
  by_cases e:j=id
  ·subst e
   rw[if_pos rfl] at h1
   cases h1
   rw[hi] at h2
   cases h2
   exact D3
  ·rw[if_neg e] at h1
   have hb:b'≠b:=fun eb=>by subst eb;exact e (h.inj h1 hg h2 hi (.inr hr))
   exact(h.gH h1 h2).mono (a_.le_refl _) (sO b' hb)
 ·intro i j oi oj b1 o1 l1 o2 l2 h1 h2 h3 h4 h5
  rw[AH.du] at h1 h2
  by_cases ei:i=id<;>by_cases ej:j=id
  ·rw[ei,ej]
  ·subst ei
   rw[if_neg ej] at h2
   exact h.inj hg h2 h3 h4 (.inl hr)
  ·subst ej
   rw[if_neg ei] at h1
   exact h.inj h1 hg h3 h4 (.inr hr)
  ·rw[if_neg ei] at h1
   rw[if_neg ej] at h2
   exact h.inj h1 h2 h3 h4 h5
 ·exact h.rO
 ·intro j b' o' l' hj;rw[hz];exact h.nO hj
 ·intro j h1 h2
  rw[AH.du,if_neg]
  intro e;subst e;rw[hi] at h1;cases h1
 ·intro b' h1 h2
  refine sO b' fun e=>h2 ?_
  subst e
  exact⟨id,ob,o,l,hg,hr,hi⟩
 ·intro b' h1 ⟨j,oj,o',l',h2,h3,h4⟩
  rw[AH.du] at h2
  by_cases e:j=id
  ·subst e
   exact⟨j,ob,o',l',hg,hr,h4⟩
  ·rw[if_neg e] at h2
   exact⟨j,oj,o',l',h2,h3,h4⟩
theorem R.swap {P ρ S w w'}{id b o l o':Nat}{ob rP}(h:R P ρ S w)(hg:S.get id=some ob)(hr:ou ob=false)(hi:ρ id=some (b,o,l))
  (hs:qW w w') (hz:w'.heap.size=w.heap.size) (sO:∀k,k≠b→w'.heap[k]?=w.heap[k]?) (D3:OR P (ρ.put S.next (b,o',l)) w' b o' l rP) (ox:ou rP=false):
  R P (ρ.put S.next (b,o',l)) ((S.kill id).new rP) w'∧Ext ρ S w (ρ.put S.next (b,o',l)) ((S.kill id).new rP) w':=by
 have hn:ρ S.next=none:=by
  cases e:ρ S.next with
  |none=>rfl
  |some x=>exact absurd (h.rO e) (Nat.lt_irrefl _)
 have hle:=a_.jY (x:=(b,o',l)) hn
 have gk:∀j,((S.kill id).new rP).get j=if j=S.next then some rP else if j=id then none else S.get j:=fun j=>by
  rw[AH.bZ,AH.gi];rfl
 refine⟨⟨?_,?_,?_,?_,fun{j oj} hj=>by
  rw[AH.bZ,AH.gi] at hj
  split at hj
  ·next e=>rw[e];exact Nat.lt_succ_self _
  ·split at hj
   ·cases hj
   ·have:=h.wf hj;simp;omega⟩,⟨hle,by simp,?_,?_,hs.os,hs.tape,hs.output,by omega,?_,?_⟩⟩
 ·intro j oj b1 o1 l1 h1 h2
  rw[gk] at h1
  by_cases e:j=S.next
  ·subst e
   rw[if_pos rfl] at h1
   cases h1
   rw[a_.bA] at h2
   cases h2
   exact D3
  ·rw[if_neg e] at h1
   rw[a_.aE _ _ e] at h2
   by_cases e2:j=id
   ·rw[if_pos e2] at h1;cases h1
   ·rw[if_neg e2] at h1
    have hb:b1≠b:=fun eb=>by subst eb;exact e2 (h.inj h1 hg h2 hi (.inr hr))
    exact(h.gH h1 h2).mono hle (sO b1 hb)
 ·intro i j oi oj b1 o1 l1 o2 l2 h1 h2 h3 h4 h5
  rw[gk] at h1 h2
  by_cases ei:i=S.next<;>by_cases ej:j=S.next
  ·rw[ei,ej]
  ·exfalso
   subst ei
   rw[if_neg ej] at h2
   rw[a_.bA] at h3
   rw[a_.aE _ _ ej] at h4
   cases h3
   by_cases e2:j=id
   ·rw[if_pos e2] at h2;cases h2
   ·rw[if_neg e2] at h2
    exact e2 (h.inj h2 hg h4 hi (.inr hr))
  ·exfalso
   subst ej
   rw[if_neg ei] at h1
   rw[a_.bA] at h4
   rw[a_.aE _ _ ei] at h3
   cases h4
   by_cases e2:i=id
   ·rw[if_pos e2] at h1;cases h1
   ·rw[if_neg e2] at h1
    exact e2 (h.inj h1 hg h3 hi (.inr hr))
  ·rw[if_neg ei] at h1
   rw[if_neg ej] at h2
   rw[a_.aE _ _ ei] at h3
   rw[a_.aE _ _ ej] at h4
   by_cases e2:i=id
   ·rw[if_pos e2] at h1;cases h1
   ·by_cases e3:j=id
    ·rw[if_pos e3] at h2;cases h2
    ·rw[if_neg e2] at h1
     rw[if_neg e3] at h2
     exact h.inj h1 h2 h3 h4 h5
 ·intro j x hx
  by_cases e:j=S.next
  ·subst e;simp
  ·rw[a_.aE _ _ e] at hx
   have:=h.rO hx
   simp;omega
 ·intro j b1 o1 l1 hx
  rw[hz]
  by_cases e:j=S.next
  ·subst e;rw[a_.bA] at hx;cases hx;exact h.nO hi
  ·rw[a_.aE _ _ e] at hx;exact h.nO hx
 ·intro j x h1 h2
  by_cases e:j=S.next
  ·subst e;exact Nat.le_refl _
  ·rw[a_.aE _ _ e] at h2;rw[h1] at h2;cases h2
 ·intro j h1 h2
  rw[gk,if_neg (by omega),if_neg]
  intro e;subst e;rw[hi] at h1;cases h1
 ·intro b1 h1 h2
  refine sO b1 fun e=>h2 ?_
  subst e
  exact⟨id,ob,o,l,hg,hr,hi⟩
 ·intro b1 h1 ⟨j,oj,o1,l1,h2,h3,h4⟩
  rw[gk] at h2
  by_cases e:j=S.next
  ·subst e;rw[a_.bA] at h4;cases h4
   exact⟨id,ob,o,l,hg,hr,hi⟩
  ·rw[if_neg e] at h2
   rw[a_.aE _ _ e] at h4
   by_cases e2:j=id
   ·rw[if_pos e2] at h2;cases h2
   ·rw[if_neg e2] at h2
    exact⟨j,oj,o1,l1,h2,h3,h4⟩
theorem R.kill {P ρ S w}{id:Nat}{x}(h:R P ρ S w)(hi:ρ id=some x):
  R P ρ (S.kill id) w∧Ext ρ S w ρ (S.kill id) w:=by
 refine⟨⟨?_,?_,h.rO,h.nO,fun{j oj} hj=>by
  rw[AH.gi] at hj
  split at hj
  ·cases hj
  ·exact h.wf hj⟩,⟨a_.le_refl _,Nat.le_refl _,fun id x h1 h2=>by(rw[h1] at h2;cases h2),?_,rfl,rfl,rfl,Nat.le_refl _,fun _ _ _=>rfl,?_⟩⟩
 ·intro j oj b o l h1 h2
  rw[AH.gi] at h1
  split at h1
  ·cases h1
  ·exact h.gH h1 h2
 ·intro i j oi oj b o l o' l' h1 h2 h3 h4 h5
  rw[AH.gi] at h1 h2
  split at h1
  ·cases h1
  ·split at h2
   ·cases h2
   ·exact h.inj h1 h2 h3 h4 h5
 ·intro j h1 h2
  rw[AH.gi,if_neg]
  intro e;subst e;rw[hi] at h1;cases h1
 ·intro b h1 ⟨j,oj,o,l,h2,h3,h4⟩
  rw[AH.gi] at h2
  split at h2
  ·cases h2
  ·exact⟨j,oj,o,l,h2,h3,h4⟩
end
section
variable[jo]
variable{P:Program}
inductive Kind where
 |pure|read|alloc|uz
 deriving DecidableEq
def fV.kind:fV→Kind
 |.load ..|.lookup ..|.wG _=>.read
 |.alloc _|.box _|.kU ..|.kV ..|.Bk=>.alloc
 |.store ..|.append ..|.copy ..|.clear ..|.zQ ..|.zR ..=>.uz
 |_=>.pure
def pe (P:Program):fV→Option AV
 |.mv x=>some x
 |.pick c a b=>Bn c a b
 |.bin op x y=>Hc op x y
 |.eq t n x y=>DA P t n x y
 |.un op x=>Ry P op x
 |.conv k x=>Bo k x
 |.part o n a x=>Bp o n a x
 |.Ct l e a x i=>vC l e a x i
 |.JX x i=>Bq x i
 |.build z ps=>jX z ps
 |.nN o x=>wH o x
 |.xZ l e x i=>mw l e x i
 |.fu e x i=>fC e x i
 |.n8 l e x a b c=>jy l e x a b c
 |.n9 e x a b c=>eS e x a b c
 |.sF x a b=>nq x a b
 |.extract i x=>o5 i x
 |.n_ x=>nr x
 |.len g x=>Cw g x
 |.cap x=>Hf x
 |.qo m xs=>si m xs
 |.kW t i o z x=>hO P t i o z x
 |_=>none
theorem mD {o}(h:o.kind=.pure)(S:AH):evalOp P o S=et (pe P o) S:=by
 cases o<;>first|rfl|(cases h;done)
theorem jC {o}(h:o.kind=.read)(S:AH):evalOp P o S=et (cB P S o) S:=by
 cases o<;>first|rfl|(cases h;done)
theorem mE {r S S' v}(h:et r S=some (v,S')):r=some v∧S'=S:=by
 unfold et at h
 cases r with
 |none=>cases h
 |some x=>simp at h;exact⟨by rw[h.1],h.2.symm⟩
theorem an {ρ:a_}{F:Fr}{a:Act}(h:FR ρ F a.tmps)(x:Operand):V ρ (F.ev x) (a.eval x):=by
 cases x with
 |tmp t=>exact h t
 |const v=>
  show V ρ ((rM 50 v).getD .no) v
  cases e:rM 50 v with
  |none=>exact .no
  |some u=>exact kD e
 |global g=>exact .no
 |func f=>exact .fn (a':=[]) (c':=[]) rfl .nil .nil
theorem iS {ρ:a_}{F:Fr}{a:Act}(h:FR ρ F a.tmps):∀(l:List Operand),VL ρ (l.map F.ev) (l.map a.eval)
 |[]=>.nil
 |x::r=>.cons (an h x) (iS h r)
theorem nP {op t x y k k'}{a b:Int}(w:World):
 (eqGuard op t x y (.int k a) (.int k' b)).run P w=.ok () w:=by cases op<;>rfl
theorem uK {op t x y a b}(w:World):
 (eqGuard op t x y (.string a) (.string b)).run P w=.ok () w:=by cases op<;>rfl
theorem CB {f x y v}(h:cZ f x y=some v):∃k a b,x=.sc (.int k a)∧y=.sc (.int k b)∧f k a b=some v:=by
 unfold cZ at h
 cases hx:asInt x with
 |none=>simp[hx] at h
 |some p=>
  obtain⟨k,a⟩:=p
  cases hy:asInt y with
  |none=>simp[hx,hy] at h
  |some q=>
   obtain⟨k',b⟩:=q
   simp only[hx,hy] at h
   cases hk:mn k k' with
   |false=>simp[hk] at h
   |true=>
    simp only[hk] at h
    have:=mB hk
    subst this
    exact⟨k,a,b,gF hx,gF hy,h⟩
theorem CC {f x y v}(h:uH f x y=some v):∃a b,x=.sc (.string a)∧y=.sc (.string b)∧f a b=some v:=by
 unfold uH at h
 split at h
 ·exact⟨_,_,rfl,rfl,h⟩
 ·cases h
theorem fb {a b v}(h:either a b=some v):a=some v∨b=some v:=by
 unfold either at h
 cases a with
 |none=>exact .inr h
 |some x=>exact .inl h
def D4 (P:Program)(op:BinOp)(t:TypeId)(x y v:AV):Prop:=
 (∃k a b r,x=.sc (.int k a)∧y=.sc (.int k b)∧v=.sc r∧scalar r=true∧∀w,(binOp op t (.int k a) (.int k b)).run P w=.ok r w)∨
 (∃k a k' b r,x=.sc (.int k a)∧y=.sc (.int k' b)∧v=.sc r∧scalar r=true∧∀w,(binOp op t (.int k a) (.int k' b)).run P w=.ok r w)∨
 (∃a b r,x=.sc (.string a)∧y=.sc (.string b)∧v=.sc r∧scalar r=true∧∀w,(binOp op t (.string a) (.string b)).run P w=.ok r w)
theorem vH (a b:Int):decide (a≤b)=!decide (b<a):=by
 by_cases h:b<a
 ·simp[h]
 ·simp[h];omega
theorem Hi {op t x y v}(h:Hc op x y=some v):D4 P op t x y v:=by
 have I:∀{f:IntKind→Int→Int→Option AV},cZ f x y=some v→
   (∀k a b,f k a b=some v→∃r,v=.sc r∧scalar r=true∧∀w,(binOp op t (.int k a) (.int k b)).run P w=.ok r w)→D4 P op t x y v:=fun h1 h2=>by
  obtain⟨k,a,b,e1,e2,e3⟩:=CB h1
  obtain⟨r,e4,e5,e6⟩:=h2 k a b e3
  exact .inl ⟨k,a,b,r,e1,e2,e4,e5,e6⟩
 have T:∀{f:ByteArray→ByteArray→Option AV},uH f x y=some v→
   (∀a b,f a b=some v→∃r,v=.sc r∧scalar r=true∧∀w,(binOp op t (.string a) (.string b)).run P w=.ok r w)→D4 P op t x y v:=fun h1 h2=>by
  obtain⟨a,b,e1,e2,e3⟩:=CC h1
  obtain⟨r,e4,e5,e6⟩:=h2 a b e3
  exact .inr (.inr ⟨a,b,r,e1,e2,e4,e5,e6⟩)
 cases op with
 |add=>
  rcases fb (show either _ _=some v from h) with h|h
  ·exact I h fun k a b e=>by cases e;exact⟨_,rfl,rfl,fun w=>by simp[binOp,Op.intArith,bo]<;>rfl⟩
  ·refine T h fun a b e=>?_
   split at e
   ·next hl=>
    cases e
    refine⟨_,rfl,rfl,fun w=>?_⟩
    have:¬((9223372036854775807:Int)<(a.size:Int)+(b.size:Int)):=by omega
    simp[binOp,Op.stringOp,IntKind.max,IntKind.signed,IntKind.bits,this]
   ·cases e
 |sub=>exact I (show cZ _ _ _=_ from h) fun k a b e=>by cases e;exact⟨_,rfl,rfl,fun w=>by simp[binOp,Op.intArith,bo]<;>rfl⟩
 |mul=>exact I (show cZ _ _ _=_ from h) fun k a b e=>by cases e;exact⟨_,rfl,rfl,fun w=>by simp[binOp,Op.intArith,bo]<;>rfl⟩
 |quo=>
  refine I (show cZ _ _ _=_ from h) fun k a b e=>?_
  simp only[fD] at e
  split at e
  ·cases e
  ·next hb=>
   cases e
   refine⟨_,rfl,rfl,fun w=>?_⟩
   have:¬b=0:=by simpa using hb
   simp[binOp,Op.intDiv,bo,this]
 |rem=>
  refine I (show cZ _ _ _=_ from h) fun k a b e=>?_
  simp only[fD] at e
  split at e
  ·cases e
  ·next hb=>
   cases e
   refine⟨_,rfl,rfl,fun w=>?_⟩
   have:¬b=0:=by simpa using hb
   simp[binOp,Op.intDiv,bo,this]
 |and=>exact I (show cZ _ _ _=_ from h) fun k a b e=>by cases e;exact⟨_,rfl,rfl,fun w=>by simp[binOp,Op.intBits,bo]⟩
 |or=>exact I (show cZ _ _ _=_ from h) fun k a b e=>by cases e;exact⟨_,rfl,rfl,fun w=>by simp[binOp,Op.intBits,bo]⟩
 |xor=>exact I (show cZ _ _ _=_ from h) fun k a b e=>by cases e;exact⟨_,rfl,rfl,fun w=>by simp[binOp,Op.intBits,bo]⟩
 |andNot=>exact I (show cZ _ _ _=_ from h) fun k a b e=>by cases e;exact⟨_,rfl,rfl,fun w=>by simp[binOp,Op.intBits,bo]⟩
 |shl=>
  replace h:DS x y=some v:=h
  unfold DS at h
  split at h
  ·next k a k' b=>
   simp only[fP] at h
   split at h
   ·cases h
   ·next hb=>
    cases h
    refine .inr (.inl ⟨k,a,k',b,_,rfl,rfl,rfl,rfl,fun w=>?_⟩)
    have:¬b<0:=by simpa using hb
    simp[binOp,Op.shift,bo,this]
  ·cases h
 |shr=>
  replace h:DT x y=some v:=h
  unfold DT at h
  split at h
  ·next k a k' b=>
   simp only[fP] at h
   split at h
   ·cases h
   ·next hb=>
    cases h
    refine .inr (.inl ⟨k,a,k',b,_,rfl,rfl,rfl,rfl,fun w=>?_⟩)
    have:¬b<0:=by simpa using hb
    simp[binOp,Op.shift,this]
  ·cases h
 |eql=>
  rcases fb (show either _ _=some v from h) with h|h
  ·exact I h fun k a b e=>by cases e;exact⟨_,rfl,rfl,fun w=>by simp[binOp,Op.intCmp,fD]⟩
  ·exact T h fun a b e=>by cases e;exact⟨_,rfl,rfl,fun w=>by simp[binOp,Op.stringOp]⟩
 |neq=>
  rcases fb (show either _ _=some v from h) with h|h
  ·exact I h fun k a b e=>by cases e;exact⟨_,rfl,rfl,fun w=>by simp[binOp,Op.intCmp,fD]<;>rfl⟩
  ·exact T h fun a b e=>by cases e;exact⟨_,rfl,rfl,fun w=>by simp[binOp,Op.stringOp]⟩
 |lss=>
  rcases fb (show either _ _=some v from h) with h|h
  ·exact I h fun k a b e=>by cases e;exact⟨_,rfl,rfl,fun w=>by simp[binOp,Op.intCmp,fP]⟩
  ·exact T h fun a b e=>by cases e;exact⟨_,rfl,rfl,fun w=>by simp[binOp,Op.stringOp]⟩
 |leq=>
  rcases fb (show either _ _=some v from h) with h|h
  ·exact I h fun k a b e=>by cases e;exact⟨_,rfl,rfl,fun w=>by simp[binOp,Op.intCmp,fP,vH]⟩
  ·exact T h fun a b e=>by cases e;exact⟨_,rfl,rfl,fun w=>by simp[binOp,Op.stringOp]⟩
 |gtr=>
  rcases fb (show either _ _=some v from h) with h|h
  ·exact I h fun k a b e=>by cases e;exact⟨_,rfl,rfl,fun w=>by simp[binOp,Op.intCmp,fP]⟩
  ·exact T h fun a b e=>by cases e;exact⟨_,rfl,rfl,fun w=>by simp[binOp,Op.stringOp]⟩
 |geq=>
  rcases fb (show either _ _=some v from h) with h|h
  ·exact I h fun k a b e=>by cases e;exact⟨_,rfl,rfl,fun w=>by simp[binOp,Op.intCmp,fP,vH]⟩
  ·exact T h fun a b e=>by cases e;exact⟨_,rfl,rfl,fun w=>by simp[binOp,Op.stringOp]⟩
end
section
variable[jo]
variable{P:Program}
theorem vI:∀(vs:List Value) (off k:Nat) (xs:Array Value),off+k+vs.length≤xs.size→
  ((vs.zipIdx k).foldl (fun(cs:Array Value) (p:Value×Nat)=>cs.setIfInBounds (off+p.2) p.1) xs).toList=xs.toList.take (off+k)++(vs++xs.toList.drop (off+k+vs.length))
 |[],off,k,xs,h=>by simp
 |v::vs,off,k,xs,h=>by
  simp only[List.zipIdx_cons,List.foldl_cons]
  rw[vI vs off (k+1) (xs.setIfInBounds (off+k) v) (by simp at h⊢;omega)]
  simp only[List.length_cons] at h
  have e:=list_seg_step xs.toList (off+k) v vs (by simp;omega)
  simp only[Array.toList_setIfInBounds]
  have e':(xs.toList.set (off+k) v).take (off+k+1)++vs++(xs.toList.set (off+k) v).drop (off+k+1+vs.length)=xs.toList.take (off+k)++v::vs++xs.toList.drop (off+k+(vs.length+1)):=e
  rw[show off+(k+1)=off+k+1 by omega,←List.append_assoc,e']
  simp
theorem CD (vs:Array Value)(off:Nat)(xs:Array Value)(h:off+vs.size≤xs.size):
  (vs.zipIdx.foldl (fun(cs:Array Value) (p:Value×Nat)=>cs.setIfInBounds (off+p.2) p.1) xs).toList=xs.toList.take off++(vs.toList++xs.toList.drop (off+vs.size)):=by
 have:=vI vs.toList off 0 xs (by simpa using h)
 rw[←Array.foldl_toList,Array.toList_zipIdx]
 simpa using this
theorem VL.lay {ρ cs vs xs ys}(h:VL ρ cs xs)(k:VL ρ vs ys)(off:Nat):
  VL ρ (aL cs off vs) (xs.take off++(ys++xs.drop (off+ys.length))):=by
 rw[bD,k.length]
 exact(h.take off).append (k.append (h.drop _))
theorem oy {ρ:a_}{F:Fr}{a:Act}(hF:FR ρ F a.tmps){place:Nat→Option (Nat×Nat)}:
  ∀(l:List (Nat×Operand)) {ps:List (Nat×Nat×AV)} {cs RB:List AV} {xs:Array Value},partsOf F place l=some ps→fx cs ps=some RB→VL ρ cs xs.toList→(∀x∈xs.toList,x.oneCell'=true)→
   ∃DB:Array Value,Instr.fill place xs (l.map fun p=>(p.1,a.eval p.2))=some DB∧VL ρ RB DB.toList∧∀x∈DB.toList,x.oneCell'=true
 |[],ps,cs,RB,xs,hp,hf,hv,h1=>by
  simp only[partsOf,Option.some.injEq] at hp
  subst hp
  simp only[fx,Option.some.injEq] at hf
  subst hf
  exact⟨xs,rfl,hv,h1⟩
 |(i,x)::r,ps,cs,RB,xs,hp,hf,hv,h1=>by
  simp only[partsOf] at hp
  cases qX:place i with
  |none=>simp[qX] at hp
  |some q=>
   obtain⟨off,size⟩:=q
   cases hr:partsOf F place r with
   |none=>simp[qX,hr] at hp
   |some ps'=>
    simp only[qX,hr,Option.some.injEq] at hp
    subst hp
    simp only[fx] at hf
    split at hf
    ·next hc=>
     simp only[Bool.and_eq_true,Bool.not_eq_true'] at hc
     obtain⟨⟨ho,hs⟩,hl⟩:=hc
     have bn:bI (F.ev x).cells=size:=Nat.eq_of_beq_eq_true hs
     have z_:off+size≤bI cs:=Nat.le_of_ble_eq_true hl
     rw[aZ] at bn z_
     obtain⟨Wi,Aa⟩:=(an hF x).wS ho
     have da:(a.eval x).cells.size=size:=by rw[←bn,Wi.length];simp
     have SU:cs.length=xs.size:=by rw[hv.length];simp
     have hb:¬((decide ((a.eval x).cells.size≠size)||decide (off+(a.eval x).cells.size>xs.size))=true):=by
      simp only[Bool.or_eq_true,ne_eq,decide_eq_true_eq]
      rintro(h|h)
      ·exact h da
      ·omega
     have NO:=CD (a.eval x).cells off xs (by omega)
     have RC:VL ρ (aL cs off (F.ev x).cells) ((a.eval x).cells.zipIdx.foldl (fun(cs:Array Value) (p:Value×Nat)=>cs.setIfInBounds (off+p.2) p.1) xs).toList:=by
      rw[NO]
      simpa using hv.lay Wi off
     have NP:∀y∈((a.eval x).cells.zipIdx.foldl (fun(cs:Array Value) (p:Value×Nat)=>cs.setIfInBounds (off+p.2) p.1) xs).toList,y.oneCell'=true:=by
      rw[NO]
      intro y hy
      rcases List.mem_append.1 hy with hy|hy
      ·exact h1 y (List.mem_of_mem_take hy)
      ·rcases List.mem_append.1 hy with hy|hy
       ·exact Aa y hy
       ·exact h1 y (List.mem_of_mem_drop hy)
     obtain⟨DB,e1,e2,e3⟩:=oy hF r hr hf RC NP
     refine⟨DB,?_,e2,e3⟩
     simp only[List.map_cons,Instr.fill,qX]
     rw[if_neg hb]
     exact e1
    ·cases hf
theorem ff {t z}(h:gh P t=some z):∃i zv,P.info? t=some i∧i.zero=some zv∧rM 50 zv=some z:=by
 unfold gh at h
 cases hi:P.info? t with
 |none=>simp[hi] at h
 |some i=>
  cases hz:i.zero with
  |none=>simp[hi,hz] at h
  |some zv=>simp[hi,hz] at h;exact⟨i,zv,rfl,hz,h⟩
theorem gI {t}{n:Nat}(h:aG P t=some n):∃i,P.info? t=some i∧i.size=n:=by
 unfold aG at h
 cases hi:P.info? t with
 |none=>simp[hi] at h
 |some i=>simp[hi] at h;exact⟨i,rfl,h⟩
theorem cK {t}{n:Nat}(h:aG P t=some n)(w:World):(sizeOf t).run P w=.ok n w:=by
 obtain⟨i,h1,h2⟩:=gI h
 simp[sizeOf,typeInfo,h1,h2]
theorem jD {t}{g:Bool}(h:dZ P t=some g)(w:World):(isAgg t).run P w=.ok g w:=by
 unfold dZ at h
 cases hu:P.underlying t with
 |none=>simp[hu] at h
 |some d=>
  unfold isAgg
  rw[Sem.run_bind,run_underlying hu w]
  cases d<;>simp_all
theorem iT {ρ zv z}(h:rM 50 zv=some z)(ho:ep z=false):VL ρ z.cells zv.cells.toList∧∀y∈zv.cells.toList,y.oneCell'=true:=
 (kD (ρ:=ρ) h).wS ho
section ops
variable{ρ:a_}{F:Fr}{a:Act}{o:Oper}
def Yields (P:Program)(ρ:a_)(a:Act)(o:Oper)(v:AV):Prop:=∃x,V ρ v x∧∀w,(execOp a.eval o).run P w=.ok (.value x) w
theorem J9 (hF:FR ρ F a.tmps){c x y v}(ho:o.op=.pick c x y)(h:Bn (F.ev c) (F.ev x) (F.ev y)=some v):Yields P ρ a o v:=by
 unfold Bn at h
 cases hb:asBool (F.ev c) with
 |none=>simp[hb] at h
 |some b=>
  have hc:=(jA hb▸an hF c).x8
  cases b
  ·simp[hb] at h;subst h
   exact⟨_,an hF y,fun w=>by simp[execOp,ho,hc,Go.asBool]⟩
  ·simp[hb] at h;subst h
   exact⟨_,an hF x,fun w=>by simp[execOp,ho,hc,Go.asBool]⟩
theorem NQ (hF:FR ρ F a.tmps){op t u x y v}(ho:o.op=.binOp op t x y u)(h:Hc op (F.ev x) (F.ev y)=some v):Yields P ρ a o v:=by
 rcases Hi (P:=P) (t:=t) h with⟨k,m,n,r,e1,e2,rfl,hs,hr⟩|⟨k,m,k',n,r,e1,e2,rfl,hs,hr⟩|⟨m,n,r,e1,e2,rfl,hs,hr⟩
 ·have hx:=(e1▸an hF x).d_
  have hy:=(e2▸an hF y).d_
  exact⟨r,.sc hs,fun w=>by simp[execOp,ho,hx,hy,nP,hr]⟩
 ·have hx:=(e1▸an hF x).d_
  have hy:=(e2▸an hF y).d_
  exact⟨r,.sc hs,fun w=>by simp[execOp,ho,hx,hy,nP,hr]⟩
 ·have hx:=(e1▸an hF x).df.1
  have hy:=(e2▸an hF y).df.1
  exact⟨r,.sc hs,fun w=>by simp[execOp,ho,hx,hy,uK,hr]⟩
theorem SV (hF:FR ρ F a.tmps){op t x v}(ho:o.op=.unOp op t x)(h:Ry P op (F.ev x)=some v):Yields P ρ a o v:=by
 unfold Ry at h
 cases hb:asBool (F.ev x) with
 |some b=>
  have hx:=(jA hb▸an hF x).x8
  simp only[hb] at h
  split at h
  ·cases h
   exact⟨_,.sc rfl,fun w=>by simp[execOp,ho,hx,Op.unary]⟩
  ·cases h
 |none=>
  simp only[hb] at h
  split at h
  ·next u hu=>
   have hx:=(hu▸an hF x).df.1
   unfold NI at h
   cases hp:bm P (Op.unary op u) with
   |none=>simp[hp] at h
   |some r=>
    simp only[hp] at h
    split at h
    ·next hs=>
     cases h
     have hr:=fF hp
     exact⟨r,.sc hs,fun w=>by simp[execOp,ho,hx,hr]⟩
    ·cases h
  ·cases h
theorem J_ (hF:FR ρ F a.tmps){s t j k x v}(ho:o.op=.convert s t x)(hs:P.underlying s=some (.int j))(ht:P.underlying t=some (.int k))
  (h:Bo k (F.ev x)=some v):Yields P ρ a o v:=by
 unfold Bo at h
 cases hi:asInt (F.ev x) with
 |none=>simp[hi] at h
 |some p=>
  obtain⟨k',n⟩:=p
  simp[hi] at h
  subst h
  have hx:=(gF hi▸an hF x).d_
  exact⟨.int k (k.wrap n),by rw[bo];exact .sc rfl,fun w=>by simp[execOp,ho,hx,convert,run_underlying hs,run_underlying ht,Conv.intToInt]⟩
theorem pg {cs xs t}{n off:Nat}{g:Bool}{v}(hn:aG P t=some n)(hg:dZ P t=some g)(hc:VL ρ cs xs)(h1:∀x∈xs,x.oneCell'=true)
  (h:eZ g cs off n=some v):∃x,V ρ v x∧∀w,(part t xs.toArray off).run P w=.ok x w:=by
 unfold eZ at h
 cases g with
 |true=>
  simp only at h
  split at h
  ·next hl=>
   cases h
   have z_:off+n≤bI cs:=Nat.le_of_ble_eq_true hl
   rw[aZ] at z_
   refine⟨.agg ((xs.drop off).take n).toArray,?_,fun w=>?_⟩
   ·rw[ct,dF]
    exact .agg ((hc.drop _).take _) fun x hx=>h1 x (List.mem_of_mem_drop (List.mem_of_mem_take hx))
   ·simp only[part,Sem.run_bind,jD hg,Result.andThen_ok,if_true,cK hn,Sem.run_pure]
    congr 2
    apply Array.ext'
    simp[List.extract_eq_take_drop]
  ·cases h
 |false=>
  simp only[nt] at h
  obtain⟨x,e1,e2⟩:=hc.get h
  exact⟨x,e2,fun w=>by simp[part,Sem.run_bind,jD hg,e1]⟩
theorem Hj (hF:FR ρ F a.tmps){t fields fd}{i n:Nat}{g:Bool}{x v}(ho:o.op=.field t x i)(ht:P.underlying t=some (.struct fields))
  (hf:fields[i]?=some fd) (hn:aG P fd.type=some n) (hg:dZ P fd.type=some g) (h:Bp fd.offset n g (F.ev x)=some v):Yields P ρ a o v:=by
 unfold Bp at h
 cases ha:asAgg (F.ev x) with
 |none=>simp[ha] at h
 |some cs=>
  simp only[ha] at h
  obtain⟨xs,hx,hv,h1⟩:=(sL ha▸an hF x).wR
  obtain⟨y,hy,hr⟩:=pg hn hg hv h1 h
  exact⟨y,hy,fun w=>by simp[execOp,ho,Instr.field,run_underlying ht,hf,hx,Go.asAgg,hr]⟩
theorem Ka (hF:FR ρ F a.tmps){t e}{len n:Nat}{g:Bool}{x i v}(ho:o.op=.index t x i)(ht:P.underlying t=some (.array len e))
  (hn:aG P e=some n) (hg:dZ P e=some g) (h:vC len n g (F.ev x) (F.ev i)=some v):Yields P ρ a o v:=by
 unfold vC at h
 cases ha:asAgg (F.ev x) with
 |none=>simp[ha] at h
 |some cs=>
  cases hi:mq (F.ev i) len with
  |none=>simp[ha,hi] at h
  |some j=>
   simp only[ha,hi] at h
   obtain⟨xs,hx,hv,h1⟩:=(sL ha▸an hF x).wR
   obtain⟨k,hk,hj⟩:=iR hi
   have kZ:=(hk▸an hF i).d_
   obtain⟨y,hy,hr⟩:=pg hn hg hv h1 h
   refine⟨y,hy,fun w=>?_⟩
   have h0:(0:Int)≤(j:Int)∧(j:Int)<(len:Int):=by omega
   simp only[execOp,ho,Instr.index,kZ,asIntOf,Sem.run_bind,Sem.run_pure,Result.andThen_ok,run_underlying ht,hx,h0,and_self,if_true,cK hn,Int.toNat_natCast,hr]
   rw[show Nat.mul j n=j*n from rfl] at hr
   simp[hr]
theorem CE (hF:FR ρ F a.tmps){i:Nat}{x v}(ho:o.op=.extract x i)(h:o5 i (F.ev x)=some v):Yields P ρ a o v:=by
 unfold o5 at h
 cases ha:Bl (F.ev x) with
 |none=>simp[ha] at h
 |some cs=>
  simp only[ha,nt] at h
  obtain⟨xs,hx,hv⟩:=(zY ha▸an hF x).Hg
  obtain⟨y,e1,e2⟩:=hv.get h
  exact⟨y,e2,fun w=>by simp[execOp,ho,Instr.extract,hx,e1]⟩
theorem D5 (hF:FR ρ F a.tmps){x v}(ho:o.op=.nilCheck x)(h:nr (F.ev x)=some v):Yields P ρ a o v:=by
 unfold nr at h
 cases hl:live (F.ev x) with
 |false=>simp[hl] at h
 |true=>
  simp only[hl,Option.some.injEq] at h
  subst h
  have hv:=an hF x
  refine⟨_,hv,fun w=>?_⟩
  generalize hx:a.eval x=y at*
  generalize F.ev x=u at*
  cases hv with
  |sc hs=>cases y<;>first|(simp[scalar] at hs;done)|(cases hl;done)|simp[execOp,ho,hx]
  |fn hf h1 h2=>
   rename_i f c d c' d'
   cases f<;>first|(cases hf;done)|(cases hl;done)|simp[execOp,ho,hx]
  |no=>cases hl
  |tok=>cases hl
  |_=>simp[execOp,ho,hx]
end ops
end
section
variable[jo]
variable{P:Program}{ρ:a_}{F:Fr}{a:Act}{o:Oper}
theorem wU {op}(uL:op=.eql∨op=.neq){t x y u v w}
  (h:(eqGuard .eql t (.tmp 0) (.tmp 0) u v).run P w=.ok () w):(eqGuard op t x y u v).run P w=.ok () w:=by
 have hx:(eqGuard op t x y u v).run P w=.ok () w∨(eqGuard op t x y u v).run P w=(eqGuard .eql t (.tmp 0) (.tmp 0) u v).run P w:=by
  rcases uL with rfl|rfl
  all_goals
   unfold eqGuard
   cases u<;>cases v<;>first|(right;rfl)|skip
   cases x<;>cases y<;>first|(left;rfl)|(right;rfl)
 rcases hx with hx|hx
 ·exact hx
 ·rw[hx,h]
theorem D6 {op}(uL:op=.eql∨op=.neq){t u v}(h:(mo u&&mo v)=true):
  binOp op t u v=(do let r ←Op.equal t u v;pure (.bool (if op=.eql then r else !r))):=by
 rcases uL with rfl|rfl
 all_goals cases u<;>cases v<;>first|rfl|(simp[mo] at h)
theorem run_eq {op}(uL:op=.eql∨op=.neq){t x y u v}{r:Bool}(h:(mo u&&mo v)=true)
  {w} (hg:(eqGuard .eql t (.tmp 0) (.tmp 0) u v).run P w=.ok () w) (he:(Op.equal t u v).run P w=.ok r w):
  (do eqGuard op t x y u v;binOp op t u v:Sem Value).run P w=.ok (.bool (if op=.eql then r else !r)) w:=by
 rw[Sem.run_bind,wU uL hg,Result.andThen_ok,D6 uL h,Sem.run_bind,he]
 rcases uL with rfl|rfl<;>rfl
theorem aW {t u v}(h:(∀cs ds,¬(u=.agg cs∧v=.agg ds))∧¬(u=.nilIface∧v=.nilIface))(w:World):
  (eqGuard .eql t (.tmp 0) (.tmp 0) u v).run P w=.ok () w:=by
 cases u<;>cases v<;>first|rfl|(exact absurd ⟨rfl,rfl⟩ (h.1 _ _))|(exact absurd ⟨rfl,rfl⟩ h.2)
theorem Ab {t}(h:iI P t=1):∃e,P.underlying t=some (.pointer e):=by
 unfold iI at h;split at h<;>first|(exact⟨_,‹_›⟩)|(simp at h)
theorem Ad {t}(h:iI P t=2):∃e,P.underlying t=some (.slice e):=by
 unfold iI at h;split at h<;>first|(exact⟨_,‹_›⟩)|(simp at h)
theorem Ae {t}(h:iI P t=3):∃k e,P.underlying t=some (.map k e):=by
 unfold iI at h;split at h<;>first|(exact⟨_,_,‹_›⟩)|(simp at h)
theorem Af {t}(h:iI P t=4):∃k e v,P.underlying t=some (.func k e v):=by
 unfold iI at h;split at h<;>first|(exact⟨_,_,_,‹_›⟩)|(simp at h)
theorem D7 {t}(h:iI P t=5):∃ms,P.underlying t=some (.interface ms):=by
 unfold iI at h;split at h<;>first|(exact⟨_,‹_›⟩)|(simp at h)
theorem ph {x v}(h:V ρ x v):jW x=0∨(jW x=1∧v=.pointer none)∨(jW x=2∧∃n c,v=.slice none n c)∨(jW x=3∧v=.map none)∨(jW x=4∧v=.nilFunc)∨(jW x=5∧v=.nilIface):=by
 cases h with
 |sc h=>
  cases v<;>first|(exact .inl rfl)|skip
  case pointer p=>cases p<;>first|(exact .inl rfl)|(exact .inr (.inl ⟨rfl,rfl⟩))
  case slice p n c=>cases p<;>first|(exact .inl rfl)|(exact .inr (.inr (.inl ⟨rfl,_,_,rfl⟩)))
  case map p=>cases p<;>first|(exact .inl rfl)|(exact .inr (.inr (.inr (.inl ⟨rfl,rfl⟩))))
  case nilFunc=>exact .inr (.inr (.inr (.inr (.inl ⟨rfl,rfl⟩))))
  case nilIface=>exact .inr (.inr (.inr (.inr (.inr ⟨rfl,rfl⟩))))
 |_=>exact .inl rfl
theorem ya {x v}(h:V ρ x v):x4 x=0∨(x4 x=1∧∃p,v=.pointer (some p))∨(x4 x=2∧∃p n c,v=.slice (some p) n c)∨(x4 x=3∧∃r,v=.map (some r))∨(x4 x=4∧∃f b c,v=.func f b c)∨(x4 x=5∧∃t u,v=.iface t u):=by
 cases h with
 |ptr _=>exact .inr (.inl ⟨rfl,_,rfl⟩)
 |sl _=>exact .inr (.inr (.inl ⟨rfl,_,_,_,rfl⟩))
 |op _ _ _ _=>exact .inr (.inr (.inl ⟨rfl,_,_,_,rfl⟩))
 |wQ _=>exact .inr (.inr (.inl ⟨rfl,_,_,_,rfl⟩))
 |map _=>exact .inr (.inr (.inr (.inl ⟨rfl,_,rfl⟩)))
 |fn _ _ _=>exact .inr (.inr (.inr (.inr (.inl ⟨rfl,_,_,_,rfl⟩))))
 |yd _=>exact .inr (.inr (.inr (.inr (.inl ⟨rfl,_,_,_,rfl⟩))))
 |iface _=>exact .inr (.inr (.inr (.inr (.inr ⟨rfl,_,_,rfl⟩))))
 |_=>exact .inl rfl
theorem CF {t x y u v}{r:Bool}(h:x5 P t x y=some r)(hx:V ρ x u)(hy:V ρ y v):
  (mo u&&mo v)=true∧∀w,(eqGuard .eql t (.tmp 0) (.tmp 0) u v).run P w=.ok () w∧(Op.equal t u v).run P w=.ok r w:=by
 unfold x5 at h
 split at h
 ·next hc=>
  cases h
  simp only[Bool.and_eq_true] at hc
  obtain⟨⟨h0,h1⟩,h2⟩:=hc
  have h0:=Nat.le_of_ble_eq_true h0
  have h1:=Nat.eq_of_beq_eq_true h1
  have h2:=Nat.eq_of_beq_eq_true h2
  rcases ph hx with e|⟨e,rfl⟩|⟨e,n,c,rfl⟩|⟨e,rfl⟩|⟨e,rfl⟩|⟨e,rfl⟩
  ·omega
  all_goals rcases ya hy with e'|⟨e',p,rfl⟩|⟨e',p,m,d,rfl⟩|⟨e',p,rfl⟩|⟨e',f,b,c,rfl⟩|⟨e',q,z,rfl⟩<;>try(exfalso;omega)
  ·obtain⟨e,hu⟩:=Ab (h2.symm.trans ‹_›)
   exact⟨rfl,fun w=>⟨aW ⟨by simp,by simp⟩ w,by show(Op.equalIn (9999+1) t _ _).run P w=_;generalize 9999=d9;simp[Op.equalIn,run_underlying hu]⟩⟩
  ·obtain⟨e,hu⟩:=Ad (h2.symm.trans ‹_›)
   exact⟨rfl,fun w=>⟨aW ⟨by simp,by simp⟩ w,by show(Op.equalIn (9999+1) t _ _).run P w=_;generalize 9999=d9;simp[Op.equalIn,run_underlying hu]⟩⟩
  ·obtain⟨k,e,hu⟩:=Ae (h2.symm.trans ‹_›)
   exact⟨rfl,fun w=>⟨aW ⟨by simp,by simp⟩ w,by show(Op.equalIn (9999+1) t _ _).run P w=_;generalize 9999=d9;simp[Op.equalIn,run_underlying hu]⟩⟩
  ·obtain⟨k,e,_,hu⟩:=Af (h2.symm.trans ‹_›)
   exact⟨rfl,fun w=>⟨aW ⟨by simp,by simp⟩ w,by show(Op.equalIn (9999+1) t _ _).run P w=_;generalize 9999=d9;simp[Op.equalIn,run_underlying hu]⟩⟩
  ·obtain⟨k,hu⟩:=D7 (h2.symm.trans ‹_›)
   exact⟨rfl,fun w=>⟨aW ⟨by simp,by simp⟩ w,by show(Op.equalIn (9999+1) t _ _).run P w=_;generalize 9999=d9;simp[Op.equalIn,run_underlying hu]⟩⟩
 ·split at h
  ·next hc=>
   cases h
   simp only[Bool.and_eq_true] at hc
   obtain⟨⟨h0,h1⟩,h2⟩:=hc
   have h0:=Nat.le_of_ble_eq_true h0
   have h1:=Nat.eq_of_beq_eq_true h1
   have h2:=Nat.eq_of_beq_eq_true h2
   rcases ph hy with e|⟨e,rfl⟩|⟨e,n,c,rfl⟩|⟨e,rfl⟩|⟨e,rfl⟩|⟨e,rfl⟩
   ·omega
   all_goals rcases ya hx with e'|⟨e',p,rfl⟩|⟨e',p,m,d,rfl⟩|⟨e',p,rfl⟩|⟨e',f,b,c,rfl⟩|⟨e',q,z,rfl⟩<;>try(exfalso;omega)
   ·obtain⟨e,hu⟩:=Ab (h2.symm.trans ‹_›)
    exact⟨rfl,fun w=>⟨aW ⟨by simp,by simp⟩ w,by show(Op.equalIn (9999+1) t _ _).run P w=_;generalize 9999=d9;simp[Op.equalIn,run_underlying hu]⟩⟩
   ·obtain⟨e,hu⟩:=Ad (h2.symm.trans ‹_›)
    exact⟨rfl,fun w=>⟨aW ⟨by simp,by simp⟩ w,by show(Op.equalIn (9999+1) t _ _).run P w=_;generalize 9999=d9;simp[Op.equalIn,run_underlying hu]⟩⟩
   ·obtain⟨k,e,hu⟩:=Ae (h2.symm.trans ‹_›)
    exact⟨rfl,fun w=>⟨aW ⟨by simp,by simp⟩ w,by show(Op.equalIn (9999+1) t _ _).run P w=_;generalize 9999=d9;simp[Op.equalIn,run_underlying hu]⟩⟩
   ·obtain⟨k,e,_,hu⟩:=Af (h2.symm.trans ‹_›)
    exact⟨rfl,fun w=>⟨aW ⟨by simp,by simp⟩ w,by show(Op.equalIn (9999+1) t _ _).run P w=_;generalize 9999=d9;simp[Op.equalIn,run_underlying hu]⟩⟩
   ·obtain⟨k,hu⟩:=D7 (h2.symm.trans ‹_›)
    exact⟨rfl,fun w=>⟨aW ⟨by simp,by simp⟩ w,by show(Op.equalIn (9999+1) t _ _).run P w=_;generalize 9999=d9;simp[Op.equalIn,run_underlying hu]⟩⟩
  ·split at h
   ·next hc=>
    cases h
    simp only[Bool.and_eq_true] at hc
    obtain⟨⟨⟨h0,h4⟩,h1⟩,h2⟩:=hc
    have h0:=Nat.le_of_ble_eq_true h0
    have h4:=Nat.le_of_ble_eq_true h4
    have h1:=Nat.eq_of_beq_eq_true h1
    have h2:=Nat.eq_of_beq_eq_true h2
    rcases ph hx with e|⟨e,rfl⟩|⟨e,n,c,rfl⟩|⟨e,rfl⟩|⟨e,rfl⟩|⟨e,rfl⟩
    ·omega
    all_goals rcases ph hy with e'|⟨e',rfl⟩|⟨e',m,d,rfl⟩|⟨e',rfl⟩|⟨e',rfl⟩|⟨e',rfl⟩<;>try(exfalso;omega)
    ·obtain⟨e,hu⟩:=Ab (h2.symm.trans ‹_›)
     exact⟨rfl,fun w=>⟨aW ⟨by simp,by simp⟩ w,by show(Op.equalIn (9999+1) t _ _).run P w=_;generalize 9999=d9;simp[Op.equalIn,run_underlying hu]⟩⟩
    ·obtain⟨e,hu⟩:=Ad (h2.symm.trans ‹_›)
     exact⟨rfl,fun w=>⟨aW ⟨by simp,by simp⟩ w,by show(Op.equalIn (9999+1) t _ _).run P w=_;generalize 9999=d9;simp[Op.equalIn,run_underlying hu]⟩⟩
    ·obtain⟨k,e,hu⟩:=Ae (h2.symm.trans ‹_›)
     exact⟨rfl,fun w=>⟨aW ⟨by simp,by simp⟩ w,by show(Op.equalIn (9999+1) t _ _).run P w=_;generalize 9999=d9;simp[Op.equalIn,run_underlying hu]⟩⟩
    ·obtain⟨k,e,_,hu⟩:=Af (h2.symm.trans ‹_›)
     exact⟨rfl,fun w=>⟨aW ⟨by simp,by simp⟩ w,by show(Op.equalIn (9999+1) t _ _).run P w=_;generalize 9999=d9;simp[Op.equalIn,run_underlying hu]⟩⟩
   ·unfold Hd at h
    split at h
    ·next i p hp=>
     split at h
     ·next j q hq=>
      split at h
      ·next hc=>
       cases h
       simp only[Bool.and_eq_true] at hc
       have XQ:=Nat.eq_of_beq_eq_true hc.1
       subst XQ
       have fW:=hc.2
       unfold I8 at fW
       split at fW
       ·next e hu=>
        split at fW
        ·next inf hi=>
         have da:=Nat.le_of_ble_eq_true fW
         obtain⟨b,o1,l,hb,rfl⟩:=(fO hp▸hx).jB
         obtain⟨b',o2,l',xX,rfl⟩:=(fO hq▸hy).jB
         rw[hb] at xX
         cases xX
         refine⟨rfl,fun w=>⟨aW ⟨by simp,by simp⟩ w,?_⟩⟩
         have fQ:¬inf.size=0:=by omega
         have e1:(Nat.beq p q)=((⟨b,o1+p,none⟩:Addr)==⟨b,o1+q,none⟩):=by
          rw[Bool.eq_iff_iff,Nat.beq_eq,beq_iff_eq]
          constructor
          ·rintro rfl;rfl
          ·intro h;injection h with h1 h2;omega
         show(Op.equalIn (9999+1) t _ _).run P w=_
         generalize 9999=d9
         simp[Op.equalIn,run_underlying hu,sizeOf,typeInfo,hi,fQ,sameAddr,e1]
        ·cases fW
       ·cases fW
      ·cases h
     ·cases h
    ·split at h
     ·next c d hc hd=>
      split at h
      ·next hn=>
       have ex:=gG hc hx
       have ey:=gG hd hy
       subst ex ey
       split at h
       ·next hg=>exact⟨hn,fun w=>⟨fF hg w,fF h w⟩⟩
       ·cases h
      ·cases h
     ·cases h
theorem NR (hF:FR ρ F a.tmps){op t u x y v}{n:Bool}(uL:(op=.eql∧n=false)∨(op=.neq∧n=true))(ho:o.op=.binOp op t x y u)
  (h:DA P t n (F.ev x) (F.ev y)=some v):Yields P ρ a o v:=by
 unfold DA at h
 cases hr:x5 P t (F.ev x) (F.ev y) with
 |none=>simp[hr] at h
 |some r=>
  simp[hr] at h
  obtain⟨h1,h2⟩:=CF hr (an hF x) (an hF y)
  rcases uL with⟨rfl,rfl⟩|⟨rfl,rfl⟩
  ·subst h
   refine⟨.bool r,.sc rfl,fun w=>?_⟩
   have:=run_eq (op:=.eql) (x:=x) (y:=y) (.inl rfl) h1 (h2 w).1 (h2 w).2
   simp only[execOp,ho]
   rw[Sem.run_bind,this]
   rfl
  ·subst h
   refine⟨.bool (!r),.sc rfl,fun w=>?_⟩
   have:=run_eq (op:=.neq) (x:=x) (y:=y) (.inr rfl) h1 (h2 w).1 (h2 w).2
   simp only[execOp,ho]
   rw[Sem.run_bind,this]
   rfl
end
section
variable[jo]
variable{P:Program}{ρ:a_}{F:Fr}{a:Act}{o:Oper}
theorem mF {want MT}:Instr.missingMethod want MT=none↔zU want MT=true:=by
 unfold Instr.missingMethod zU
 generalize hl:want.toList.filter (fun(x:String×TypeId)=>match x with|(name,sig)=>!MT.any fun m=>m.name==name&&m.sig==sig)=l
 have z_:l=[]↔(want.toList.all fun x=>MT.toList.any fun m=>m.name==x.1&&m.sig==x.2)=true:=by
  rw[←hl,List.filter_eq_nil_iff,List.all_eq_true]
  constructor
  ·intro h x hx
   have:=h x hx
   simpa using this
  ·intro h x hx
   have:=h x hx
   simpa using this
 rw[←z_]
 cases l with
 |nil=>simp[Instr.least]
 |cons a r=>
  simp only[List.map_cons,reduceCtorEq,iff_false]
  intro h
  cases hc:(a.1.contains (Char.ofNat 46)) with
  |true=>
   rw[List.partition_eq_filter_filter] at h
   simp only[List.filter_cons,hc,if_true] at h
   cases he:(Instr.least (List.filter (not∘fun x=>x.contains (Char.ofNat 46)) (a.1::r.map (·.1)))) with
   |none=>simp_all[Instr.least]
   |some _=>simp_all[Instr.least]
  |false=>
   rw[List.partition_eq_filter_filter] at h
   simp_all[List.filter_cons,Instr.least]
theorem fG (b o n:Nat):(⟨b,o,none⟩:Addr).add n=⟨b,o+n,none⟩:=Addr.add_mid b o n
theorem gJ {t zc}(h:ez P t=some zc):∃z,gh P t=some z∧ep z=false∧zc=z.cells:=by
 unfold ez at h
 split at h
 ·next z hz=>
  split at h
  ·cases h
  ·next ho=>cases h;exact⟨z,hz,by simpa using ho,rfl⟩
 ·cases h
theorem Bu (hF:FR ρ F a.tmps){t:TypeId}{parts:Array (Nat×Operand)}{z:AV}{zc:List AV}{ps:List (Nat×Nat×AV)}{v:AV}{place:Nat→Option (Nat×Nat)}(ho:o.op=.build t parts)
  (NT:ez P t=some zc)
  (Kb:(∃e n,P.underlying t=some (.array n e)∧∃s,aG P e=some s∧place=fun i=>some (i*s,s))∨
    (∃fields kY,P.underlying t=some (.struct fields)∧fields.toList.mapM (fun f=>(P.info? f.type).map fun i=>(f.offset,i.size))=some kY∧place=fun i=>kY[i]?))
  (hp:partsOf F place parts.toList=some ps) (h:jX zc ps=some v):Yields P ρ a o v:=by
 obtain⟨z,hz,k8,rfl⟩:=gJ NT
 obtain⟨it,zv,Wj,RD,XR⟩:=ff hz
 obtain⟨hc,h1⟩:=iT (ρ:=ρ) XR k8
 unfold jX at h
 cases hf:fx z.cells ps with
 |none=>simp[hf] at h
 |some c=>
  simp[hf] at h
  subst h
  obtain⟨DB,e1,e2,e3⟩:=oy hF parts.toList hp hf hc h1
  have hb:P.built t (parts.map fun(i,x)=>(i,a.eval x)).toList=some DB:=by
   have em:(parts.map fun(i,x)=>(i,a.eval x)).toList=parts.toList.map fun p=>(p.1,a.eval p.2):=by simp
   rw[em]
   unfold Program.built
   rcases Kb with⟨e,n,hu,s,hs,rfl⟩|⟨fields,kY,hu,qX,rfl⟩
   ·obtain⟨ie,D8,rfl⟩:=gI hs
    simp only[Wj,hu,RD,D8]
    exact e1
   ·simp only[Wj,hu,RD,qX]
    have:(fun x=>kY.toArray[x]?)=fun x:Nat=>kY[x]?:=by funext x;simp
    rw[this]
    exact e1
  refine⟨.agg DB,?_,fun w=>?_⟩
  ·have:=V.agg e2 e3
   simpa using this
  ·simp only[execOp,ho]
   rw[Sem.run_bind,run_build w t _ DB hb]
   rfl
theorem Hk (hF:FR ρ F a.tmps){t fields fd}{i n:Nat}{x v}(ho:o.op=.fieldAddr t x i)(ht:P.underlying t=some (.struct fields))
  (hf:fields[i]?=some fd) (hn:aG P fd.type=some n) (h0:n≠0) (h:wH fd.offset (F.ev x)=some v):Yields P ρ a o v:=by
 unfold wH at h
 cases hp:hH (F.ev x) with
 |none=>simp[hp] at h
 |some p=>
  obtain⟨id,off⟩:=p
  simp only[hp,Option.some.injEq] at h
  subst h
  obtain⟨b,o1,l,hb,hx⟩:=(fO hp▸an hF x).jB
  refine⟨_,.ptr hb,fun w=>?_⟩
  simp[execOp,ho,Instr.fieldAt,run_underlying ht,hf,hx,Instr.sureAddr,fieldPlace,cK hn,h0,fG,Nat.add_assoc]
theorem i4 (w:World){t x i k}{j len n b o1:Nat}{e}(hi:i=.int k (j:Int))(hj:j<len)(hn:aG P e=some n)
  (h:(P.underlying t=some (.array len e)∧x=.pointer (some ⟨b,o1,none⟩))∨(P.underlying t=some (.slice e)∧∃c,x=.slice (some ⟨b,o1,none⟩) len c)):
  (Instr.indexAt t x i).run P w=.ok (.pointer (some ⟨b,o1+j*n,none⟩)) w:=by
 have h0:(0:Int)≤(j:Int)∧(j:Int)<(len:Int):=by omega
 rcases h with⟨hu,rfl⟩|⟨hu,c,rfl⟩
 ·simp only[Instr.indexAt,hi,asIntOf,Sem.run_bind,Sem.run_pure,Result.andThen_ok,run_underlying hu,Instr.sureAddr]
  by_cases hl:len≤1<;>simp[hl,run_underlying hu,h0,hj,cK hn,fG]
 ·simp only[Instr.indexAt,hi,asIntOf,Sem.run_bind,Sem.run_pure,Result.andThen_ok,run_underlying hu]
  by_cases hl:len≤1<;>simp[hl,run_underlying hu,h0,hj,cK hn,fG]
theorem Hl (hF:FR ρ F a.tmps){t e}{len n:Nat}{x i v}(ho:o.op=.indexAddr t x i)(ht:P.underlying t=some (.array len e))
  (hn:aG P e=some n) (h:mw len n (F.ev x) (F.ev i)=some v):Yields P ρ a o v:=by
 unfold mw at h
 cases hp:hH (F.ev x) with
 |none=>simp[hp] at h
 |some p=>
  obtain⟨id,off⟩:=p
  cases hi:mq (F.ev i) len with
  |none=>simp[hp,hi] at h
  |some j=>
   simp only[hp,hi,Option.some.injEq] at h
   subst h
   obtain⟨b,o1,l,hb,hx⟩:=(fO hp▸an hF x).jB
   obtain⟨k,hk,hj⟩:=iR hi
   have kZ:=(hk▸an hF i).d_
   refine⟨_,.ptr hb,fun w=>?_⟩
   have:=i4 (P:=P) w kZ hj hn (.inl ⟨ht,hx⟩)
   simp only[execOp,ho]
   rw[Sem.run_bind,this]
   simp[Nat.add_assoc]
theorem Hm (hF:FR ρ F a.tmps){t e}{n:Nat}{x i v}(ho:o.op=.indexAddr t x i)(ht:P.underlying t=some (.slice e))
  (hn:aG P e=some n) (h:fC n (F.ev x) (F.ev i)=some v):Yields P ρ a o v:=by
 have hx:=an hF x
 unfold fC at h
 split at h
 ·next id off len cap e1=>
  rw[e1] at hx
  cases hi:mq (F.ev i) len with
  |none=>simp[hi] at h
  |some j=>
   simp only[hi,Option.some.injEq] at h
   subst h
   obtain⟨k,hk,hj⟩:=iR hi
   have kZ:=(hk▸an hF i).d_
   generalize hy:a.eval x=y at*
   cases hx with
   |sl hb=>
    refine⟨_,.ptr hb,fun w=>?_⟩
    have:=i4 (P:=P) w kZ hj hn (.inr ⟨ht,_,hy⟩)
    simp only[execOp,ho]
    rw[Sem.run_bind,this]
    simp[Nat.add_assoc]
 ·next id off len cO es e1=>
  rw[e1] at hx
  cases hi:mq (F.ev i) len with
  |none=>simp[hi] at h
  |some j=>
   simp only[hi,Option.some.injEq] at h
   subst h
   obtain⟨k,hk,hj⟩:=iR hi
   have kZ:=(hk▸an hF i).d_
   generalize hy:a.eval x=y at*
   cases hx with
   |op hb h0 h1 h2=>
    refine⟨_,.ptr hb,fun w=>?_⟩
    have:=i4 (P:=P) w kZ hj hn (.inr ⟨ht,_,hy⟩)
    simp only[execOp,ho]
    rw[Sem.run_bind,this]
    simp[Nat.add_assoc]
   |wQ hb=>omega
 ·cases h
theorem Kc (hF:FR ρ F a.tmps){t x i v}(ho:o.op=.index t x i)(ht:P.underlying t=some .string)(h:Bq (F.ev x) (F.ev i)=some v):Yields P ρ a o v:=by
 unfold Bq at h
 split at h
 ·next s e1=>
  have hx:=(e1▸an hF x).df.1
  cases hi:mq (F.ev i) s.size with
  |none=>simp[hi] at h
  |some j=>
   simp only[hi] at h
   obtain⟨k,hk,hj⟩:=iR hi
   have kZ:=(hk▸an hF i).d_
   cases hb:s[j]? with
   |none=>simp[hb] at h
   |some c=>
    simp only[hb,Option.some.injEq] at h
    subst h
    refine⟨_,.sc rfl,fun w=>?_⟩
    have h0:(0:Int)≤(j:Int):=by omega
    simp[execOp,ho,Instr.index,kZ,asIntOf,run_underlying ht,hx,h0,hb]
 ·cases h
theorem yb (hF:FR ρ F a.tmps){c t e x v}(ho:o.op=.call c)(bt:c.callee=.builtin .len)(aR:c.args=#[x])(cu:c.argTypes=#[t])
  (hu:P.underlying t=some (.slice e)) (h:Cw false (F.ev x)=some v):Yields P ρ a o v:=by
 have hx:=an hF x
 have key:∀{n:Nat} {p:Option Addr} {cp:Nat},a.eval x=.slice p n cp→∀w,(execOp a.eval o).run P w=.ok (.value (.int .i64 (n:Int))) w:=by
  intro n p cp e' w
  simp[execOp,ho,resolve,bt,aR,cu,invoke,builtin,Builtin.len_,run_underlying hu,e',goInt]
 simp only[Cw] at h
 split at h
 ·next e1=>
  cases h
  rw[e1] at hx
  generalize hy:a.eval x=y at hx
  cases hx with
  |sl hb=>exact⟨_,.sc rfl,key hy⟩
 ·next e1=>
  cases h
  rw[e1] at hx
  generalize hy:a.eval x=y at hx
  cases hx with
  |op hb h0 h1 h2=>exact⟨_,.sc rfl,key hy⟩
  |wQ hb=>exact⟨_,.sc rfl,key hy⟩
 ·next e1=>
  cases h
  rw[e1] at hx
  exact⟨_,.sc rfl,key hx.df.1⟩
 ·cases h
theorem wV (hF:FR ρ F a.tmps){c t x v}(ho:o.op=.call c)(bt:c.callee=.builtin .len)(aR:c.args=#[x])(cu:c.argTypes=#[t])
  (hu:P.underlying t=some .string) (h:Cw true (F.ev x)=some v):Yields P ρ a o v:=by
 have hx:=an hF x
 simp only[Cw] at h
 split at h
 ·next s e1=>
  cases h
  rw[e1] at hx
  refine⟨_,.sc rfl,fun w=>?_⟩
  simp[execOp,ho,resolve,bt,aR,cu,invoke,builtin,Builtin.len_,run_underlying hu,hx.df.1,goInt]
 ·cases h
theorem qY {c t x}{n:Nat}(ho:o.op=.call c)(bt:c.callee=.builtin .len)(aR:c.args=#[x])(cu:c.argTypes=#[t])
  (hu:(∃e,P.underlying t=some (.array n e))∨∃arr e,P.underlying t=some (.pointer arr)∧P.underlying arr=some (.array n e)):Yields P ρ a o (.sc (.int .i64 n)):=by
 refine⟨.int .i64 n,.sc rfl,fun w=>?_⟩
 rcases hu with⟨e,hu⟩|⟨arr,e,hu,hv⟩
 ·simp[execOp,ho,resolve,bt,aR,cu,invoke,builtin,Builtin.len_,run_underlying hu,goInt]
 ·simp[execOp,ho,resolve,bt,aR,cu,invoke,builtin,Builtin.len_,run_underlying hu,run_underlying hv,goInt]
theorem NU (hF:FR ρ F a.tmps){c t e x v}(ho:o.op=.call c)(bt:c.callee=.builtin .cap)(aR:c.args=#[x])(cu:c.argTypes=#[t])
  (hu:P.underlying t=some (.slice e)) (h:Hf (F.ev x)=some v):Yields P ρ a o v:=by
 have hx:=an hF x
 have key:∀{n:Nat} {p:Option Addr} {cp:Nat},a.eval x=.slice p n cp→∀w,(execOp a.eval o).run P w=.ok (.value (.int .i64 (cp:Int))) w:=by
  intro n p cp e' w
  simp[execOp,ho,resolve,bt,aR,cu,invoke,builtin,Builtin.cap_,run_underlying hu,e',goInt]
 unfold Hf at h
 split at h
 ·next e1=>
  cases h
  rw[e1] at hx
  generalize hy:a.eval x=y at hx
  cases hx with
  |sl hb=>exact⟨_,.sc rfl,key hy⟩
 ·next e1=>
  cases h
  rw[e1] at hx
  exact⟨_,.sc rfl,key hx.df.1⟩
 ·cases h
theorem uM {m:Bool}{x y v u z}(h:sg m x y=some v)(hx:V ρ x u)(hy:V ρ y z):∃r,V ρ v r∧∀w,((if m then Builtin.max2 u z else Builtin.min2 u z)).run P w=.ok r w:=by
 unfold sg at h
 split at h
 ·next k b k' d=>
  cases h
  have e1:=hx.d_
  have e2:=hy.d_
  subst e1 e2
  cases m
  ·refine⟨_,.sc rfl,fun w=>?_⟩
   by_cases dN:d<b<;>simp[Builtin.min2,fP,dN]
  ·refine⟨_,.sc rfl,fun w=>?_⟩
   by_cases dN:b<d<;>simp[Builtin.max2,fP,dN]
 ·cases h
theorem nQ {m:Bool}:∀{r} {rs} {x v} {u},r.foldlM (sg m) x=some v→V ρ x u→VL ρ r rs→
  ∃z,V ρ v z∧∀w,(rs.foldlM (if m then Builtin.max2 else Builtin.min2) u:Sem Value).run P w=.ok z w
 |[],_,x,v,u,h,hx,.nil=>by simp at h;subst h;exact⟨u,hx,fun w=>by simp⟩
 |y::r,z::rs,x,v,u,h,hx,.cons hy hr=>by
  simp only[List.foldlM_cons,Option.bind_eq_bind,Option.bind_eq_some_iff] at h
  obtain⟨q,hq,h⟩:=h
  obtain⟨q',h1,h2⟩:=uM (P:=P) hq hx hy
  obtain⟨z',h3,h4⟩:=nQ h h1 hr
  refine⟨z',h3,fun w=>?_⟩
  have:=h2 w
  cases m
  ·simp only[Bool.false_eq_true,if_false] at this h4⊢
   simp[List.foldlM_cons,this,h4]
  ·simp only[if_true] at this h4⊢
   simp[List.foldlM_cons,this,h4]
theorem yc (hF:FR ρ F a.tmps){c}{m:Bool}{v}(ho:o.op=.call c)(bt:c.callee=.builtin (if m then .max else .min))(h:si m (c.args.toList.map F.ev)=some v):Yields P ρ a o v:=by
 unfold si at h
 cases hl:c.args.toList with
 |nil=>simp[hl] at h
 |cons x r=>
  simp only[hl,List.map_cons] at h
  obtain⟨z,h1,h2⟩:=nQ (P:=P) h (an hF x) (iS hF r)
  refine⟨z,h1,fun w=>?_⟩
  have:=h2 w
  have hm:(c.args.map a.eval).toList=a.eval x::r.map a.eval:=by simp[hl]
  cases m
  ·simp only[Bool.false_eq_true,if_false] at bt this
   simp[execOp,ho,resolve,bt,invoke,builtin,Builtin.min_,hm,this,hl]
  ·simp only[if_true] at bt this
   simp[execOp,ho,resolve,bt,invoke,builtin,Builtin.max_,hm,this,hl]
theorem qx {F}(hF:FR ρ F a.tmps){x}{d n m:Nat}(h:gB (x.map F.ev) d n=some m):
  (x=none∧m=d)∨(∃q,x=some q∧m≤n∧∀n' code w,m≤n'→(Instr.sliceBound (a.eval q) n' code).run P w=.ok m w):=by
 cases x with
 |none=>simp[gB] at h;exact .inl ⟨rfl,h.symm⟩
 |some q=>
  simp only[Option.map_some,gB] at h
  obtain⟨k,hk,hm⟩:=vG h
  have hq:=(hk▸an hF q).d_
  refine .inr ⟨q,rfl,hm,fun n' code w gX=>?_⟩
  rw[hq,run_sliceBound w k (m:Int) n' code (by omega) (by omega)]
  simp
theorem kE {lo hi mx}{len cap l h m:Nat}(hb:kB lo hi mx len cap=some (l,h,m)):
  gB mx cap cap=some m∧gB hi len m=some h∧gB lo 0 h=some l∧(mx.isSome=true→hi.isSome=true):=by
 unfold kB at hb
 cases h1:gB mx cap cap with
 |none=>simp[h1] at hb
 |some m'=>
  cases h2:gB hi len m' with
  |none=>simp[h1,h2] at hb
  |some h'=>
   cases h3:gB lo 0 h' with
   |none=>simp[h1,h2,h3] at hb
   |some l'=>
    simp only[h1,h2,h3] at hb
    split at hb
    ·cases hb
    ·next hn=>
     cases hb
     refine⟨rfl,h2,h3,fun hm=>?_⟩
     cases hi with
     |some _=>rfl
     |none=>simp[hm] at hn
theorem lY (hF:FR ρ F a.tmps){MZ:Bool}{lo hi mx:Option Operand}{len cap wW l h m:Nat}(hb:kB (lo.map F.ev) (hi.map F.ev) (mx.map F.ev) len cap=some (l,h,m))(hc:cap≤wW)(w:World):
  (Instr.sliceBounds MZ len wW (lo.map a.eval) (hi.map a.eval) (mx.map a.eval)).run P w=.ok (l,h,if mx.isSome then m else wW) w:=by
 obtain⟨h1,h2,h3,h4⟩:=kE hb
 rcases qx (P:=P) hF h1 with⟨rfl,rfl⟩|⟨q1,rfl,g1,XS⟩<;>rcases qx (P:=P) hF h2 with⟨rfl,rfl⟩|⟨q2,rfl,g2,DC⟩<;>
  rcases qx (P:=P) hF h3 with⟨rfl,rfl⟩|⟨q3,rfl,g3,XT⟩
 all_goals first
  |(simp at h4;done)
  |(simp only[Instr.sliceBounds,Option.map_none,Option.map_some]
    simp only[Sem.run_bind,Sem.run_pure,Result.andThen_ok]
    repeat(first|rw[XS _ _ _ (by omega)]|rw[DC _ _ _ (by omega)]|rw[XT _ _ _ (by omega)]|simp only[Result.andThen_ok,Sem.run_bind,Sem.run_pure])
    try rfl)
theorem sP (hF:FR ρ F a.tmps){MZ:Bool}{lo hi mx:Option Operand}{len cap l h m:Nat}(hb:kB (lo.map F.ev) (hi.map F.ev) (mx.map F.ev) len cap=some (l,h,m))(w:World):
  (Instr.sliceBounds MZ len cap (lo.map a.eval) (hi.map a.eval) (mx.map a.eval)).run P w=.ok (l,h,m) w:=by
 rw[lY hF hb (Nat.le_refl _)]
 obtain⟨h1,_⟩:=kE hb
 cases mx with
 |some q=>rfl
 |none=>simp[gB] at h1;subst h1;rfl
theorem wX {lo hi mx}{len cap l h m:Nat}(hb:kB lo hi mx len cap=some (l,h,m))(hl:len≤cap):l≤h∧(hi=none→h=len)∧(hi≠none→h≤m)∧m≤cap:=by
 obtain⟨h1,h2,h3,h4⟩:=kE hb
 have le:∀{x:Option AV} {d n r:Nat},gB x d n=some r→(x=none∧r=d)∨(x≠none∧r≤n):=by
  intro x d n r h
  cases x with
  |none=>simp[gB] at h;exact .inl ⟨rfl,h.symm⟩
  |some q=>simp only[gB] at h;obtain⟨k,_,hm⟩:=vG h;exact .inr ⟨by simp,hm⟩
 rcases le h1 with⟨e1,NP⟩|⟨e1,NP⟩<;>rcases le h2 with⟨e2,XU⟩|⟨e2,XU⟩<;>rcases le h3 with⟨e3,XV⟩|⟨e3,XV⟩<;>
  refine⟨by omega,fun e=>?_,fun e=>?_,by omega⟩<;>first|(exact absurd e e2)|(exact absurd e2 e)|omega
theorem ye (hF:FR ρ F a.tmps){t e:TypeId}{len n:Nat}{x:Operand}{lo hi mx:Option Operand}{v:AV}(ho:o.op=.slice t x lo hi mx)
  (ht:P.underlying t=some (.array len e)∨∃arr,P.underlying t=some (.pointer arr)∧P.underlying arr=some (.array len e))
  (hn:aG P e=some n) (h:jy len n (F.ev x) (lo.map F.ev) (hi.map F.ev) (mx.map F.ev)=some v):Yields P ρ a o v:=by
 have hx:=an hF x
 unfold jy at h
 split at h
 ·next id off e1=>
  rw[e1] at hx
  obtain⟨b,o1,lm,hb,hx⟩:=hx.jB
  split at h
  ·next l hh m zJ=>
   cases h
   refine⟨.slice (some ⟨b,o1+(if Nat.beq m l then off else Nat.add off (Nat.mul l n)),none⟩) (hh-l) (m-l),.sl hb,fun w=>?_⟩
   have DD:=sP (P:=P) (MZ:=false) hF zJ w
   have D9:(if m=l then(⟨b,o1+off,none⟩:Addr) else(⟨b,o1+off,none⟩:Addr).add (l*n))=⟨b,o1+(if Nat.beq m l then off else Nat.add off (Nat.mul l n)),none⟩:=by
    by_cases Hn:m=l
    ·have:Nat.beq m l=true:=by rw[Nat.beq_eq];exact Hn
     rw[if_pos Hn,if_pos this]
    ·have:¬Nat.beq m l=true:=by rw[Nat.beq_eq];exact Hn
     rw[if_neg Hn,if_neg this,fG]
     simp[Nat.add_assoc]
   rcases ht with hu|⟨arr,hu,hv⟩
   ·simp[execOp,ho,Instr.sliceAt,run_underlying hu,hx,Instr.sureAddr,DD,cK hn,D9]
   ·simp[execOp,ho,Instr.sliceAt,run_underlying hu,Instr.slice,hx,asAddr,run_underlying hv,DD,cK hn,D9]
  ·cases h
 ·cases h
theorem Ag (hF:FR ρ F a.tmps){t:TypeId}{x:Operand}{lo hi:Option Operand}{v:AV}(ho:o.op=.slice t x lo hi none)
  (hu:P.underlying t=some .string) (h:nq (F.ev x) (lo.map F.ev) (hi.map F.ev)=some v):Yields P ρ a o v:=by
 have hx:=an hF x
 unfold nq at h
 split at h
 ·next s e1=>
  rw[e1] at hx
  have hx:=hx.df.1
  split at h
  ·next l hh m zJ=>
   cases h
   refine⟨_,.sc rfl,fun w=>?_⟩
   have DD:=sP (P:=P) (MZ:=false) (mx:=none) hF zJ w
   simp only[Option.map_none] at DD
   simp[execOp,ho,Instr.sliceAt,run_underlying hu,Instr.slice,hx,DD]
  ·cases h
 ·cases h
theorem D_ (hF:FR ρ F a.tmps){t e:TypeId}{n:Nat}{x:Operand}{lo hi mx:Option Operand}{v:AV}(ho:o.op=.slice t x lo hi mx)
  (hu:P.underlying t=some (.slice e)) (hn:aG P e=some n) (h:eS n (F.ev x) (lo.map F.ev) (hi.map F.ev) (mx.map F.ev)=some v):Yields P ρ a o v:=by
 have hx:=an hF x
 have key:∀{p:Option Addr} {len cap wW l hh m:Nat},a.eval x=.slice p len wW→kB (lo.map F.ev) (hi.map F.ev) (mx.map F.ev) len cap=some (l,hh,m)→cap≤wW→
   ∀w,(execOp a.eval o).run P w=.ok (.value (.slice (if(if mx.isSome then m else wW)=l then p else p.map (·.add (l*n))) (hh-l) ((if mx.isSome then m else wW)-l))) w:=by
  intro p len cap wW l hh m e1 DD hc w
  have:=lY (P:=P) (MZ:=true) hF DD hc w
  simp[execOp,ho,Instr.sliceAt,run_underlying hu,Instr.slice,e1,this,cK hn]
 have D9:∀(b o1 off l m:Nat),(if m=l then(some (⟨b,o1+off,none⟩:Addr)) else(some (⟨b,o1+off,none⟩:Addr)).map (·.add (l*n)))=some ⟨b,o1+(if Nat.beq m l then off else Nat.add off (Nat.mul l n)),none⟩:=by
  intro b o1 off l m
  by_cases Hn:m=l
  ·have:Nat.beq m l=true:=by rw[Nat.beq_eq];exact Hn
   rw[if_pos Hn,if_pos this]
  ·have:¬Nat.beq m l=true:=by rw[Nat.beq_eq];exact Hn
   rw[if_neg Hn,if_neg this,Option.map_some,fG]
   simp[Nat.add_assoc]
 have Wk:∀{len cap l hh m:Nat},kB (lo.map F.ev) (hi.map F.ev) (mx.map F.ev) len cap=some (l,hh,m)→mx.isSome=false→m=cap:=by
  intro len cap l hh m hb hm
  obtain⟨h1,_⟩:=kE hb
  cases mx with
  |some q=>cases hm
  |none=>simp[gB] at h1;exact h1.symm
 unfold eS at h
 split at h
 ·next id off len cap e1=>
  rw[e1] at hx
  generalize hy:a.eval x=y at hx
  cases hx with
  |sl hb=>
   split at h
   ·next l hh m zJ=>
    cases h
    refine⟨_,.sl hb,fun w=>?_⟩
    have:=key hy zJ (Nat.le_refl _) w
    have hm:(if mx.isSome=true then m else cap)=m:=by
     cases hq:mx.isSome
     ·exact(Wk zJ hq).symm
     ·rfl
    rw[hm,D9] at this
    exact this
   ·cases h
 ·next id off len cO es e1=>
  rw[e1] at hx
  split at h
  ·next DE=>
   have DE:=Nat.eq_of_beq_eq_true DE
   subst DE
   split at h
   ·next l hh m zJ=>
    generalize hy:a.eval x=y at hx
    cases hx with
    |op hb h0 h1 h2=>
     rename_i b o1 lm cap
     have hle:=wX zJ h0
     have hk:=key hy zJ h1
     cases mx with
     |some q=>
      simp only[Option.map_some] at h
      simp only[Option.isSome_some,if_true] at hk
      split at h
      ·next hz=>
       have hz:=Nat.eq_of_beq_eq_true hz
       subst hz
       cases h
       have XW:hi.map F.ev≠none:=by
        obtain⟨_,_,_,g4⟩:=kE zJ
        intro e
        have:=g4 (by simp)
        rw[e] at this;cases this
       have Wl:=hle.2.2.1 XW
       have NV:hh=0:=by omega
       have zK:l=0:=by omega
       have Ho:m=0:=by omega
       subst NV zK Ho
       exact⟨_,.wQ hb,fun w=>by have:=hk w;simpa using this⟩
      ·cases h
       refine⟨_,.sl hb,fun w=>?_⟩
       have:=hk w
       rw[D9] at this
       exact this
     |none=>
      simp only[Option.map_none] at h
      simp only[Option.isSome_none,Bool.false_eq_true,if_false] at hk
      cases h
      have hm:=Wk zJ rfl
      subst hm
      have hhc:hh≤m:=by
       by_cases e:hi.map F.ev=none
       ·rw[hle.2.1 e];exact h0
       ·exact hle.2.2.1 e
      by_cases dw:cap=l
      ·have e1:hh-l=0:=by omega
       have e2:m-l=0:=by omega
       simp only[Nat.sub_eq,e1,e2]
       refine⟨_,.wQ (x:=o1+off) hb,fun w=>?_⟩
       have:=hk w
       rw[if_pos dw,e1,show cap-l=0 by omega] at this
       exact this
      ·refine⟨_,.op hb (by simp only[Nat.sub_eq];omega) (cap:=cap-l) (by simp only[Nat.sub_eq];omega) ?_,fun w=>?_⟩
       ·simp only[Nat.add_eq,Nat.mul_eq]
        have h3:(cap-l)*n=cap*n-l*n:=Nat.sub_mul _ _ _
        have h4:l*n≤cap*n:=Nat.mul_le_mul_right _ (by omega)
        omega
       ·have:=hk w
        rw[if_neg dw] at this
        rw[this]
        simp[fG,Nat.add_assoc]
    |wQ hb=>
     rename_i b o1 lm xx
     have hle:=wX zJ (Nat.le_refl _)
     have hk:=key hy zJ (Nat.le_refl _)
     have Wl:hh≤0:=by
      by_cases e:hi.map F.ev=none
      ·rw[hle.2.1 e];exact Nat.le_refl _
      ·have:=hle.2.2.1 e;omega
     have NV:hh=0:=by omega
     have zK:l=0:=by omega
     have Ho:m=0:=by omega
     subst NV zK Ho
     have Jc:∀w,(execOp a.eval o).run P w=.ok (.value (.slice (some ⟨b,xx,none⟩) 0 0)) w:=fun w=>by
      have:=hk w
      cases mx<;>simpa using this
     cases mx with
     |some q=>
      simp only[Option.map_some] at h
      cases h
      exact⟨_,.wQ hb,Jc⟩
     |none=>
      simp only[Option.map_none] at h
      cases h
      exact⟨_,.wQ hb,Jc⟩
   ·cases h
  ·cases h
 ·next e1=>
  rw[e1] at hx
  have hy:=hx.df.1
  split at h
  ·next p zJ=>
   obtain⟨l,hh,m⟩:=p
   cases h
   have hle:=wX zJ (Nat.le_refl _)
   have hk:=key hy zJ (Nat.le_refl _)
   have Wl:hh≤0:=by
    by_cases e:hi.map F.ev=none
    ·rw[hle.2.1 e];exact Nat.le_refl _
    ·have:=hle.2.2.1 e;omega
   have NV:hh=0:=by omega
   have zK:l=0:=by omega
   have Ho:m=0:=by omega
   subst NV zK Ho
   refine⟨_,.sc rfl,fun w=>?_⟩
   have:=hk w
   cases mx<;>simpa using this
  ·cases h
 ·cases h
theorem vJ (hF:FR ρ F a.tmps){t u x}{JY ok:Bool}{v}(ho:o.op=.typeAssert x u t ok)
  (hi:∃d,P.underlying t=some d∧JY=(match d with|.interface _=>true|_=>false)) (h:hO P t JY ok (gh P t) (F.ev x)=some v):Yields P ρ a o v:=by
 have hx:=an hF x
 obtain⟨d,hu,Hp⟩:=hi
 have Ea:∀{z:AV},(if ok then(gh P t).map fun z=>AV.cP [z,.sc (.bool false)] else none)=some z→ok=true∧∃zv,z=.cP [zv,.sc (.bool false)]∧gh P t=some zv:=by
  intro z hz
  cases ok
  ·simp at hz
  ·simp only[if_true,Option.map_eq_some_iff] at hz
   obtain⟨zv,h1,h2⟩:=hz
   exact⟨rfl,zv,h2.symm,h1⟩
 have lZ:∀{zv:AV},gh P t=some zv→∃y,V ρ zv y∧∀w,(zeroValue t).run P w=.ok y w:=by
  intro zv hz
  obtain⟨it,y,e1,e2,e3⟩:=ff hz
  exact⟨y,kD e3,fun w=>by simp[zeroValue,typeInfo,e1,e2]⟩
 unfold hO at h
 simp only at h
 split at h
 ·next e1=>
  rw[e1] at hx
  have hy:=hx.df.1
  obtain⟨rfl,zv,rfl,hz⟩:=Ea h
  obtain⟨y,Kd,NW⟩:=lZ hz
  refine⟨.tuple #[y,.bool false],.cP (.cons Kd (.cons (.sc rfl) .nil)),fun w=>?_⟩
  cases d<;>simp[execOp,ho,Instr.typeAssert,run_underlying hu,hy,NW]
 ·next u' v' e1=>
  rw[e1] at hx
  generalize hy:a.eval x=y at hx
  cases hx with
  |iface hv=>
   rename_i vv
   split at h
   ·next Eb=>
    rw[Eb] at Hp
    cases d<;>simp at Hp
    rename_i want
    split at h
    ·next Wm i hw Ke=>
     rw[hu] at hw
     cases hw
     split at h
     ·next pj=>
      cases h
      cases ok
      ·refine⟨.iface u' vv,(by simp only[Bool.false_eq_true,if_false,e1];exact .iface hv),fun w=>?_⟩
       have hn:Instr.missingMethod want i.methods=none:=mF.2 pj
       simp[execOp,ho,Instr.typeAssert,run_underlying hu,hy,typeInfo,Ke,hn]
      ·refine⟨.tuple #[.iface u' vv,.bool true],.cP (.cons (by rw[e1];exact .iface hv) (.cons (.sc rfl) .nil)),fun w=>?_⟩
       have hn:Instr.missingMethod want i.methods=none:=mF.2 pj
       simp[execOp,ho,Instr.typeAssert,run_underlying hu,hy,typeInfo,Ke,hn]
     ·next NX=>
      obtain⟨rfl,zv,rfl,hz⟩:=Ea h
      obtain⟨y,Kd,NW⟩:=lZ hz
      refine⟨.tuple #[y,.bool false],.cP (.cons Kd (.cons (.sc rfl) .nil)),fun w=>?_⟩
      cases hm:Instr.missingMethod want i.methods with
      |none=>exact absurd (mF.1 hm) NX
      |some m=>simp[execOp,ho,Instr.typeAssert,run_underlying hu,hy,typeInfo,Ke,hm,NW]
    ·cases h
   ·next Eb=>
    have hd:∀ms,d≠.interface ms:=fun ms e=>by subst e;simp at Hp;exact Eb Hp
    split at h
    ·next heq=>
     have heq:u'=t:=by simpa using heq
     subst heq
     cases h
     cases ok
     ·refine⟨vv,hv,fun w=>?_⟩
      cases d<;>first|(exact absurd rfl (hd _))|simp[execOp,ho,Instr.typeAssert,run_underlying hu,hy]
     ·refine⟨.tuple #[vv,.bool true],.cP (.cons hv (.cons (.sc rfl) .nil)),fun w=>?_⟩
      cases d<;>first|(exact absurd rfl (hd _))|simp[execOp,ho,Instr.typeAssert,run_underlying hu,hy]
    ·next fQ=>
     have fQ:¬u'=t:=by simpa using fQ
     obtain⟨rfl,zv,rfl,hz⟩:=Ea h
     obtain⟨y,Kd,NW⟩:=lZ hz
     refine⟨.tuple #[y,.bool false],.cP (.cons Kd (.cons (.sc rfl) .nil)),fun w=>?_⟩
     cases d<;>first|(exact absurd rfl (hd _))|simp[execOp,ho,Instr.typeAssert,run_underlying hu,hy,fQ,NW]
 ·cases h
theorem Jd (hF:FR ρ F a.tmps){x}(ho:o.op=.move x∨o.op=.assign x):Yields P ρ a o (F.ev x):=
 ⟨_,an hF x,fun w=>by rcases ho with ho|ho<;>simp[execOp,ho]⟩
theorem Hr (hF:FR ρ F a.tmps){t d x}(ho:o.op=.makeInterface t x)(hu:P.underlying t=some d)(hd:∀ms,d≠.interface ms):Yields P ρ a o (.iface t (F.ev x)):=
 ⟨_,.iface (an hF x),fun w=>by cases d<;>first|(exact absurd rfl (hd _))|simp[execOp,ho,Instr.makeInterface,run_underlying hu]⟩
theorem Kg (hF:FR ρ F a.tmps){f first cap}(ho:o.op=.makeFunc (.func f) first cap):Yields P ρ a o (.fn (.func f) (first.toList.map F.ev) (cap.toList.map F.ev)):=
 ⟨_,.fn rfl (iS hF first.toList) (iS hF cap.toList),fun w=>by
   have e1:∀xs:Array Operand,(xs.toList.map a.eval).toArray=xs.map a.eval:=fun xs=>by apply Array.ext';simp
   simp[execOp,ho,Instr.makeFunc,e1]⟩
end
section
variable[jo]
variable{P:Program}{ρ:a_}{F:Fr}{a:Act}{o:Oper}{S:AH}{w:World}
theorem cells?_some {id:Nat}{c}(h:S.cells? id=some c):S.get id=some (.row c)∨S.get id=some (.ro c):=by
 unfold AH.cells? at h
 cases hg:S.get id with
 |none=>simp[hg] at h
 |some ob=>simp[hg] at h;rcases wO h with rfl|rfl<;>simp
theorem CG {id:Nat}{c}(h:S.row? id=some c):S.get id=some (.row c):=by
 unfold AH.row? at h
 cases hg:S.get id with
 |none=>simp[hg] at h
 |some ob=>simp[hg] at h;rw[zZ h]
theorem R.cells (hR:R P ρ S w){id b o1 l:Nat}{c}(h:S.cells? id=some c)(hi:ρ id=some (b,o1,l)):
  ∀(i:Nat) v,c[i]?=some v→∃x,w.cell? ⟨b,o1+i,none⟩=some x∧V ρ v x∧x.oneCell'=true:=by
 intro i v hv
 rcases cells?_some h with hg|hg
 ·obtain⟨c',e,h1,h2,h3,h4⟩:=hR.gH hg hi
  obtain⟨x,e1,e2,e3⟩:=h4 i v hv
  exact⟨x,by simp[World.cell?,h1,e1],e2,e3⟩
 ·exact hR.gH hg hi i v hv
theorem Ht {α β:Type}{Q:Nat→α→β→Prop}:∀(l:List α),(∀(i:Nat) v,l[i]?=some v→∃x,Q i v x)→∃xs:List β,xs.length=l.length∧∀(i:Nat) v x,l[i]?=some v→xs[i]?=some x→Q i v x:=by
 intro l
 induction l generalizing Q with
 |nil=>intro _;exact⟨[],rfl,fun i v x h=>by simp at h⟩
 |cons v l ih=>
  intro h
  obtain⟨x,hx⟩:=h 0 v rfl
  obtain⟨xs,h1,h2⟩:=ih (Q:=fun i=>Q (i+1)) fun i v hv=>h (i+1) v (by simpa using hv)
  refine⟨x::xs,by simp[h1],fun i u y hu hy=>?_⟩
  cases i with
  |zero=>simp at hu hy;subst hu hy;exact hx
  |succ i=>exact h2 i u y (by simpa using hu) (by simpa using hy)
theorem R.nu (hR:R P ρ S w){id b o1 l:Nat}{c:List AV}(h:S.cells? id=some c)(hi:ρ id=some (b,o1,l))(off n:Nat)(hl:off+n≤c.length):
  ∃xs:List Value,xs.length=n∧VL ρ ((c.drop off).take n) xs∧(∀x∈xs,x.oneCell'=true)∧∀(j:Nat) v,xs[j]?=some v→w.cell? ((⟨b,o1+off,none⟩:Addr).add j)=some v:=by
 have hc:=hR.cells h hi
 obtain⟨xs,h1,h2⟩:=Ht (Q:=fun j v x=>w.cell? ⟨b,o1+off+j,none⟩=some x∧V ρ v x∧x.oneCell'=true) ((c.drop off).take n) fun j v hv=>by
  have hj:j<n:=by
   have:=(List.getElem?_eq_some_iff.1 hv).1
   simp at this;omega
  rw[List.getElem?_take,if_pos hj,List.getElem?_drop] at hv
  obtain⟨x,e1,e2,e3⟩:=hc _ _ hv
  exact⟨x,by rw[←e1,Nat.add_assoc],e2,e3⟩
 have hlen:((c.drop off).take n).length=n:=by simp;omega
 refine⟨xs,by omega,VL.sM h1.symm fun i v x e1 e2=>(h2 i v x e1 e2).2.1,fun x hx=>?_,fun j v hv=>?_⟩
 ·obtain⟨i,jq,rfl⟩:=List.getElem_of_mem hx
  have hv:((c.drop off).take n)[i]?=some (((c.drop off).take n)[i]'(by omega)):=List.getElem?_eq_getElem (by omega)
  exact(h2 i _ _ hv (by simp)).2.2
 ·have hj:=(List.getElem?_eq_some_iff.1 hv).1
  have hu:((c.drop off).take n)[j]?=some (((c.drop off).take n)[j]'(by omega)):=List.getElem?_eq_getElem (by omega)
  rw[fG]
  exact(h2 j _ _ hu hv).1
def sk (P:Program)(ρ:a_)(a:Act)(o:Oper)(v:AV)(w:World):Prop:=∃x,V ρ v x∧(execOp a.eval o).run P w=.ok (.value x) w
theorem vK (hR:R P ρ S w){t}{n:Nat}{g:Bool}{p v x}(hn:aG P t=some n)(hg:dZ P t=some g)(hx:V ρ p x)(h:lX S n g p=some v):
  ∃y,V ρ v y∧(Instr.loadAt t x).run P w=.ok y w:=by
 unfold lX at h
 cases hp:hH p with
 |none=>simp[hp] at h
 |some q=>
  obtain⟨id,off⟩:=q
  simp only[hp] at h
  cases hc:S.cells? id with
  |none=>simp[hc] at h
  |some c=>
   simp only[hc] at h
   obtain⟨b,o1,l,hb,rfl⟩:=(fO hp▸hx).jB
   unfold eZ at h
   cases g with
   |true=>
    simp only at h
    split at h
    ·next hl=>
     cases h
     have z_:off+n≤c.length:=by have:=Nat.le_of_ble_eq_true hl;rw[aZ] at this;exact this
     obtain⟨xs,h1,h2,h3,h4⟩:=hR.nu hc hb off n z_
     refine⟨.agg xs.toArray,?_,?_⟩
     ·rw[ct,dF];exact .agg h2 h3
     ·have bQ:=run_loadCells_list (P:=P) w ⟨b,o1+off,none⟩ xs h4
      rw[h1] at bQ
      simp[Instr.loadAt,Instr.sureAddr,loadVar,jD hg,cK hn,bQ]
    ·cases h
   |false=>
    simp only[nt] at h
    obtain⟨x,e1,e2,e3⟩:=hR.cells hc hb _ _ h
    refine⟨x,e2,?_⟩
    simp[Instr.loadAt,Instr.sureAddr,loadVar,jD hg,e1]
theorem Kh (hR:R P ρ S w)(hF:FR ρ F a.tmps){t}{n:Nat}{g:Bool}{p v}(ho:o.op=.load t p)(hn:aG P t=some n)(hg:dZ P t=some g)
  (h:lX S n g (F.ev p)=some v):sk P ρ a o v w:=by
 obtain⟨y,h1,h2⟩:=vK hR hn hg (an hF p) h
 exact⟨y,h1,by simp[execOp,ho,h2]⟩
def CH (ρ:a_)(es:List (Value×AV))(dV:List MapEntry):Prop:=dV.length=es.length∧∀(i:Nat) k v,es[i]?=some (k,v)→∃e,dV[i]?=some e∧e.key=k∧V ρ v e.val
theorem sQ (hR:R P ρ S w){m es x}(h:mapOf S m=some es)(hx:V ρ m x):
  (x=.map none∧es=[])∨(∃id b o1 l dV clock,m=.map id∧ρ id=some (b,o1,l)∧S.get id=some (.map es)∧x=.map (some b)∧w.heap[b]?=some (.map dV clock)∧CH ρ es dV.toList):=by
 unfold mapOf at h
 split at h
 ·cases h;exact .inl ⟨hx.df.1,rfl⟩
 ·next id=>
  split at h
  ·next XX hg=>
   cases h
   cases hx with
   |map hb=>
    obtain⟨dV,clock,h1,h2,h3⟩:=hR.gH hg hb
    exact .inr ⟨id,_,_,_,dV,clock,rfl,hb,hg,rfl,h1,by simpa using h2,fun i k v hi=>by obtain⟨e,a,b,c⟩:=h3 i k v hi;exact⟨e,by simpa using a,b,c⟩⟩
  ·cases h
 ·cases h
theorem yf {kt x y}{b:Bool}(h:Br P kt x y=some b)(w:World):(Op.equal kt x y).run P w=.ok b w:=by
 unfold Br at h
 split at h
 ·next d k p k' q hu=>
  split at h
  ·next hk=>
   cases h
   have:=mB hk
   subst this
   show(Op.equalIn (9999+1) kt _ _).run P w=_
   generalize 9999=d9
   simp[Op.equalIn,run_underlying hu,fD]
  ·cases h
 ·exact fF h w
def sR (ρ:a_):Option (Nat×AV)→Option (Nat×Value)→Prop
 |none,none=>True
 |some (i,v),some (j,x)=>i=j∧V ρ v x
 |_,_=>False
theorem fg {kt k}(w:World):∀{es} {dV} {i:Nat} {r},sH P kt k es i=some r→CH ρ es dV→
  ∃r',(Instr.findAsking kt k dV i).run P w=.ok r' w∧sR ρ r r'
 |[],dV,i,r,h,he=>by
  simp[sH] at h
  subst h
  have:dV=[]:=List.eq_nil_of_length_eq_zero he.1
  subst this
  exact⟨none,rfl,trivial⟩
 |(k',v)::es,dV,i,r,h,he=>by
  cases dV with
  |nil=>have:=he.1;simp at this
  |cons e dV=>
   obtain⟨e0,h1,h2,h3⟩:=he.2 0 k' v rfl
   simp at h1
   subst h1
   simp only[sH] at h
   cases hk:Br P kt k k' with
   |none=>simp[hk] at h
   |some b=>
    have bQ:=yf hk w
    rw[←h2] at bQ
    cases b with
    |true=>
     simp[hk] at h
     subst h
     exact⟨some (i,e.val),by simp[Instr.findAsking,bQ],rfl,h3⟩
    |false=>
     simp only[hk] at h
     have XY:CH ρ es dV:=⟨by have:=he.1;simpa using this,fun i k v hi=>by have:=he.2 (i+1) k v (by simpa using hi);simpa using this⟩
     obtain⟨r',h4,h5⟩:=fg w h XY
     exact⟨r',by simp[Instr.findAsking,bQ,h4],h5⟩
theorem uN {kt d}(hu:P.underlying kt=some d){x y}{b:Bool}(h:Instr.sameNow d x y=some b)(w:World):(Op.equal kt x y).run P w=.ok b w:=by
 unfold Instr.sameNow at h
 split at h
 ·split at h
  ·next hk=>
   cases h
   subst hk
   show(Op.equalIn (9999+1) kt _ _).run P w=_
   generalize 9999=d9
   simp[Op.equalIn,run_underlying hu]
  ·cases h
 ·cases h
  show(Op.equalIn (9999+1) kt _ _).run P w=_
  generalize 9999=d9
  simp[Op.equalIn,run_underlying hu]
 ·cases h
  show(Op.equalIn (9999+1) kt _ _).run P w=_
  generalize 9999=d9
  simp[Op.equalIn,run_underlying hu]
 ·cases h
theorem nR {kt d}(hu:P.underlying kt=some d){k}(w:World):∀{es} {i:Nat} {r},Instr.findNow d k es i=some r→
  (Instr.findAsking kt k es i).run P w=.ok r w
 |[],i,r,h=>by simp[Instr.findNow] at h;subst h;rfl
 |e::es,i,r,h=>by
  simp only[Instr.findNow] at h
  cases hs:Instr.sameNow d k e.key with
  |none=>simp[hs] at h
  |some b=>
   have:=uN hu hs w
   cases b with
   |true=>simp[hs] at h;subst h;simp[Instr.findAsking,this]
   |false=>simp only[hs] at h;simp[Instr.findAsking,this,nR hu w h]
theorem eI {kt d}(hu:P.underlying kt=some d){k es r}(h:(Instr.findAsking kt k es).run P w=.ok r w):
  (Instr.findKey kt k es).run P w=.ok r w:=by
 unfold Instr.findKey
 rw[Sem.run_bind,run_underlying hu,Result.andThen_ok]
 cases hn:Instr.findNow d k es 0 with
 |none=>exact h
 |some r'=>
  have:=nR hu w hn
  rw[this] at h
  cases h
  rfl
theorem jE {kt}{e:Bool}{k}(h:vD P kt e k=true)(w:World):(Instr.checkKey e 10000 kt k).run P w=.ok () w:=by
 unfold vD at h
 cases hp:bm P (Instr.checkKey e 10000 kt k) with
 |none=>simp[hp] at h
 |some u=>exact fF hp w
theorem i5 {b:Nat}{es}{clock:Nat}(h:w.heap[b]?=some (.map es clock)):(getObj b).run P w=.ok (.map es clock) w:=by
 simp[getObj,Sem.run,h]
theorem Ec (hR:R P ρ S w)(hF:FR ρ F a.tmps){t kt e d}{ok:Bool}{z m k v}(ho:o.op=.lookup t m k ok)(ht:P.underlying t=some (.map kt e))
  (hk:P.underlying kt=some d) (hz:gh P e=some z) (h:o6 P S kt ok z (F.ev m) (F.ev k)=some v):sk P ρ a o v w:=by
 unfold o6 at h
 split at h
 ·next kv es Ed DE=>
  have ek:=gG Ed (an hF k)
  split at h
  ·next fW=>
   have Bv:=jE fW w
   obtain⟨it,zv,e1,e2,e3⟩:=ff hz
   have lZ:(zeroValue e).run P w=.ok zv w:=by simp[zeroValue,typeInfo,e1,e2]
   obtain⟨dV,k9,Ee,bQ⟩:∃dV:Array MapEntry,CH ρ es dV.toList∧dV.isEmpty=es.isEmpty∧
     ∀r',(Instr.findKey kt kv dV.toList).run P w=.ok r' w→(execOp a.eval o).run P w=
      .ok (.value (let p:=(match r' with|some (_,v)=>(v,true)|none=>(zv,false));if ok then .tuple #[p.1,.bool p.2] else p.1)) w:=by
    rcases sQ hR DE (an hF m) with⟨em,rfl⟩|⟨id,b,o1,l,dV,clock,_,hb,hg,em,hh,k9⟩
    ·refine⟨#[],⟨rfl,fun i k v hi=>by simp at hi⟩,rfl,fun r' ox=>?_⟩
     simp only[List.isEmpty_nil] at Bv
     cases r' with
     |none=>simp[execOp,ho,Instr.lookup,run_underlying ht,em,ek,Bv,ox,lZ]
     |some q=>simp[execOp,ho,Instr.lookup,run_underlying ht,em,ek,Bv,ox,lZ]
    ·have NY:dV.isEmpty=es.isEmpty:=by
      have:=k9.1
      simp at this
      cases es with
      |nil=>simp at this;simp[this]
      |cons p es=>rw[List.isEmpty_cons,Array.isEmpty_eq_false_iff];intro e;rw[e] at this;simp at this
     refine⟨dV,k9,NY,fun r' ox=>?_⟩
     rw[←NY] at Bv
     have DF:=i5 (P:=P) hh
     cases r' with
     |none=>simp[execOp,ho,Instr.lookup,run_underlying ht,em,ek,DF,Bv,ox,lZ]
     |some q=>simp[execOp,ho,Instr.lookup,run_underlying ht,em,ek,DF,Bv,ox,lZ]
   split at h
   ·next i u hf=>
    obtain⟨r',h1,h2⟩:=fg w hf k9
    cases r' with
    |none=>exact h2.elim
    |some q=>
     obtain⟨j,x⟩:=q
     have:=bQ _ (eI hk h1)
     cases h
     cases ok
     ·exact⟨x,h2.2,by simpa using this⟩
     ·exact⟨_,.cP (.cons h2.2 (.cons (.sc rfl) .nil)),by simpa using this⟩
   ·next hf=>
    obtain⟨r',h1,h2⟩:=fg w hf k9
    cases r' with
    |some q=>exact h2.elim
    |none=>
     have:=bQ _ (eI hk h1)
     cases h
     cases ok
     ·exact⟨zv,kD e3,by simpa using this⟩
     ·exact⟨_,.cP (.cons (kD e3) (.cons (.sc rfl) .nil)),by simpa using this⟩
   ·cases h
  ·cases h
 ·cases h
theorem Ef (hR:R P ρ S w)(hF:FR ρ F a.tmps){c t kt e x v}(ho:o.op=.call c)(bt:c.callee=.builtin .len)(aR:c.args=#[x])(cu:c.argTypes=#[t])
  (hu:P.underlying t=some (.map kt e)) (h:o7 S (F.ev x)=some v):sk P ρ a o v w:=by
 unfold o7 at h
 split at h
 ·next es DE=>
  cases h
  rcases sQ hR DE (an hF x) with⟨em,rfl⟩|⟨id,b,o1,l,dV,clock,_,hb,hg,em,hh,k9⟩
  ·exact⟨_,.sc rfl,by simp[execOp,ho,resolve,bt,aR,cu,invoke,builtin,Builtin.len_,run_underlying hu,em,goInt]⟩
  ·have DF:=i5 (P:=P) hh
   have hl:dV.size=es.length:=by have:=k9.1;simpa using this
   exact⟨_,.sc rfl,by simp[execOp,ho,resolve,bt,aR,cu,invoke,builtin,Builtin.len_,run_underlying hu,em,DF,goInt,hl]⟩
 ·cases h
end
section
variable[jo]
variable{P:Program}{ρ:a_}{F:Fr}{a:Act}{o:Oper}{S:AH}{w:World}
def cL:fV→Option (AO×(Nat→AV))
 |.alloc cs=>some (.row cs,fun id=>.ptr id 0)
 |.box x=>match ep x with
  |true=>none
  |false=>some (.row x.cells,fun id=>.ptr id 0)
 |.kU es n zero parts=>match fx (bH zero n) parts with
  |some c=>match Nat.beq (bI c) (Nat.mul n es)&&Nat.beq (bI zero) es with
   |true=>some (.row c,fun id=>.sl id 0 n n)
   |false=>none
  |none=>none
 |.kV es bytes zero len cap=>match asInt len with
  |some (_,l)=>match asInt cap with
   |some (_,c)=>match nat? l with
    |some l=>match nat? c with
     |some c=>match Nat.ble l c&&Nat.ble (Nat.mul bytes c) 140737488355328&&Nat.ble c 9223372036854775807&&Nat.beq (bI zero) es with
      |true=>some (.row (bH zero c),fun id=>.sl id 0 l c)
      |false=>none
     |none=>none
    |none=>none
   |none=>none
  |none=>none
 |.Bk=>some (.map [],fun id=>.map id)
 |_=>none
theorem pk {o}(h:o.kind=.alloc)(S:AH):evalOp P o S=match cL o with
  |some (ob,f)=>some (f S.next,S.new ob)
  |none=>none:=by
 cases o<;>first|rfl|(cases h;done)|skip
 case box x=>
  show zV x S=_
  simp only[zV,cL]
  cases ep x<;>rfl
 case kU es n zero parts=>
  show gg es n zero parts S=_
  simp only[gg,cL]
  cases fx (bH zero n) parts with
  |none=>rfl
  |some c=>simp only;cases(Nat.beq (bI c) (Nat.mul n es)&&Nat.beq (bI zero) es)<;>rfl
 case kV es bytes zero len cap=>
  show iZ es bytes zero len cap S=_
  simp only[iZ,cL]
  cases asInt len with
  |none=>rfl
  |some p=>
   cases asInt cap with
   |none=>rfl
   |some q=>
    obtain⟨_,l⟩:=p
    obtain⟨_,c⟩:=q
    simp only
    cases nat? l with
    |none=>rfl
    |some l=>
     cases nat? c with
     |none=>rfl
     |some c=>simp only;cases(Nat.ble l c&&Nat.ble (Nat.mul bytes c) 140737488355328&&Nat.ble c 9223372036854775807&&Nat.beq (bI zero) es)<;>rfl
theorem wY {o ob f}(h:cL o=some (ob,f)):ou ob=false:=by
 unfold cL at h
 split at h<;>(repeat' split at h)<;>first|(cases h;done)|(cases h;rfl)
def qZ (P:Program)(ρ:a_)(a:Act)(o:Oper)(ob:AO)(f:Nat→AV)(w:World):Prop:=
 ∃x w' l,(execOp a.eval o).run P w=.ok (.value x) w'∧qW w w'∧w'.heap.size=w.heap.size+1∧(∀b,b<w.heap.size→w'.heap[b]?=w.heap[b]?)∧
  ∀aU id,ρ.le aU→aU id=some (w.heap.size,0,l)→V aU (f id) x∧OR P aU w' w.heap.size 0 l ob
theorem q8 (w:World)(ob:Obj):qW w (w.alloc ob):=⟨rfl,rfl,rfl⟩
theorem alloc_old (w:World)(ob:Obj)(b:Nat)(h:b<w.heap.size):(w.alloc ob).heap[b]?=w.heap[b]?:=by
 show(w.heap.push ob)[b]?=_
 simp[Array.getElem?_push,Nat.ne_of_lt h]
theorem mG (w:World)(ob:Obj):(w.alloc ob).heap[w.heap.size]?=some ob:=by
 show(w.heap.push ob)[w.heap.size]?=_
 simp
theorem gK (w:World)(ob:Obj):(w.alloc ob).heap.size=w.heap.size+1:=by
 show(w.heap.push ob).size=_
 simp
theorem nv {cells c e x f}(hc:VL ρ cells c.toList)(h1:∀y∈c.toList,y.oneCell'=true)
  (bQ:(execOp a.eval o).run P w=.ok (.value x) (w.alloc (.cells c e)))
  (hv:∀aU id,aU id=some (w.heap.size,0,c.size)→V aU (f id) x):qZ P ρ a o (.row cells) f w:=by
 refine⟨x,_,c.size,bQ,q8 w _,gK w _,alloc_old w _,fun aU id hl bS=>⟨hv aU id bS,c,e,mG w _,rfl,?_,fun i v hi=>?_⟩⟩
 ·have:=hc.length;simp at this;omega
 ·obtain⟨y,e1,e2⟩:=hc.get hi
  refine⟨y,by simpa using e1,e2.mono hl,h1 y (List.mem_of_getElem? e1)⟩
theorem Hu {t zc}(ho:o.op=.alloc t)(hz:ez P t=some zc):qZ P ρ a o (.row zc) (fun id=>.ptr id 0) w:=by
 obtain⟨z,DG,k8,rfl⟩:=gJ hz
 obtain⟨it,zv,e1,e2,e3⟩:=ff DG
 obtain⟨hc,h1⟩:=iT (ρ:=ρ) e3 k8
 refine nv (e:=t) hc h1 (x:=.pointer (some ⟨w.heap.size,0,none⟩)) ?_ fun aU id h=>V.ptr h
 simp[execOp,ho,Instr.alloc,zeroValue,typeInfo,e1,e2,newVar,newRow]
theorem NZ (hF:FR ρ F a.tmps){t x}(ho:o.op=.box t x)(k8:ep (F.ev x)=false):qZ P ρ a o (.row (F.ev x).cells) (fun id=>.ptr id 0) w:=by
 obtain⟨hc,h1⟩:=(an hF x).wS k8
 refine nv (e:=t) hc h1 (x:=.pointer (some ⟨w.heap.size,0,none⟩)) ?_ fun aU id h=>V.ptr h
 simp[execOp,ho,Instr.box,newVar,newRow]
theorem gj (z:List AV):∀n,(bH z n).length=n*z.length
 |0=>by simp[bH]
 |n+1=>by simp[bH,fK,gj z n,Nat.add_mul];omega
theorem q9 (z:List AV):∀(n i:Nat),i<n*z.length→(bH z n)[i]?=z[i%z.length]?
 |0,i,h=>by simp at h
 |n+1,i,h=>by
  simp only[bH,fK]
  by_cases hi:i<z.length
  ·rw[List.getElem?_append_left hi,Nat.mod_eq_of_lt hi]
  ·rw[List.getElem?_append_right (by omega),q9 z n (i-z.length) (by rw[Nat.add_mul] at h;omega)]
   congr 1
   rw[←Nat.mod_eq_sub_mod (by omega)]
theorem mH {z:List AV}{zs:Array Value}{es n m:Nat}(hz:VL ρ z zs.toList)(h1:∀y∈zs.toList,y.oneCell'=true)(DE:z.length=es)(hm:m=n*es):
  VL ρ (bH z n) ((Array.range m).map fun i=>zs[i%zs.size]!).toList∧∀y∈((Array.range m).map fun i=>zs[i%zs.size]!).toList,y.oneCell'=true:=by
 have hs:zs.size=es:=by have:=hz.length;simp at this;omega
 have rQ:∀i,i<m→∃v x,z[i%es]?=some v∧zs[i%zs.size]! =x∧V ρ v x∧x.oneCell'=true:=by
  intro i hi
  have SW:0<es:=by
   rcases Nat.eq_zero_or_pos es with e|e
   ·subst e;simp at hm;omega
   ·exact e
  have dN:i%es<z.length:=by rw[DE];exact Nat.mod_lt _ SW
  have hv:z[i%es]?=some z[i%es]:=List.getElem?_eq_getElem dN
  obtain⟨x,e1,e2⟩:=hz.get hv
  refine⟨_,x,hv,?_,e2,h1 x (List.mem_of_getElem? e1)⟩
  rw[hs]
  rw[Array.getElem?_toList] at e1
  simp[getElem!_def,e1]
 refine⟨VL.sM (by simp[gj,DE,hm]) fun i v x hi hx=>?_,fun y hy=>?_⟩
 ·have SX:i<m:=by have:=(List.getElem?_eq_some_iff.1 hx).1;simpa using this
  rw[q9 z n i (by rw[DE,←hm];exact SX),DE] at hi
  obtain⟨v',x',e1,e2,e3,e4⟩:=rQ i SX
  rw[e1] at hi
  cases hi
  simp[SX] at hx
  rw[←hx,e2]
  exact e3
 ·simp only[Array.toList_map,Array.toList_range,List.mem_map,List.mem_range] at hy
  obtain⟨i,hi,rfl⟩:=hy
  obtain⟨v',x',e1,e2,e3,e4⟩:=rQ i hi
  rw[e2];exact e4
theorem Eg (hF:FR ρ F a.tmps){t e:TypeId}{len es:Nat}{parts:Array (Nat×Operand)}{zc c:List AV}{ps:List (Nat×Nat×AV)}(ho:o.op=.buildSlice t len parts)
  (hu:P.underlying t=some (.slice e)) (hn:aG P e=some es) (hz:ez P e=some zc) (hle:¬len*es>16777216) (hp:partsOf F (fun i=>some (i*es,es)) parts.toList=some ps)
  (hf:fx (bH zc len) ps=some c) (hlen:bI c=len*es) (Ki:bI zc=es):qZ P ρ a o (.row c) (fun id=>.sl id 0 len len) w:=by
 obtain⟨z,DG,k8,rfl⟩:=gJ hz
 obtain⟨it,zv,e1,e2,e3⟩:=ff DG
 obtain⟨hc,h1⟩:=iT (ρ:=ρ) e3 k8
 rw[aZ] at hlen Ki
 obtain⟨ie,D8,uO⟩:=gI hn
 obtain⟨zs,RE,lZ⟩:∃zs:Array Value,(VL ρ (bH z.cells len) ((Array.range (len*es)).map fun i=>zs[i%zs.size]!).toList∧∀y∈((Array.range (len*es)).map fun i=>zs[i%zs.size]!).toList,y.oneCell'=true)∧
   (if len*es=0 then pure #[] else do pure (←zeroValue e).cells:Sem (Array Value)).run P w=.ok zs w:=by
  by_cases h0:len*es=0
  ·refine⟨#[],⟨?_,?_⟩,by simp[h0]⟩
   ·have:bH z.cells len=[]:=List.eq_nil_of_length_eq_zero (by rw[gj,Ki,h0])
    rw[this,h0];simpa using VL.nil
   ·rw[h0];intro y hy;simp at hy
  ·exact⟨zv.cells,mH hc h1 Ki rfl,by simp[h0,zeroValue,typeInfo,e1,e2]⟩
 obtain⟨DB,g1,g2,g3⟩:=oy hF parts.toList hp hf RE.1 RE.2
 have em:(parts.map fun(i,x)=>(i,a.eval x)).toList=parts.toList.map fun p=>(p.1,a.eval p.2):=by simp
 have da:DB.size=len*es:=by have:=g2.length;simp at this;omega
 refine nv (e:=e) g2 g3 (x:=.slice (some ⟨w.heap.size,0,none⟩) len len) ?_ fun aU id h=>V.sl h
 have SY:¬(16777216<len*es):=hle
 simp only[execOp,ho]
 rw[Sem.run_bind]
 have:(Instr.buildSlice t len (parts.map fun(i,x)=>(i,a.eval x))).run P w=.ok (.slice (some ⟨w.heap.size,0,none⟩) len len) (w.alloc (.cells DB e)):=by
  unfold Instr.buildSlice
  rw[Sem.run_bind,run_underlying hu,Result.andThen_ok]
  simp only
  rw[Sem.run_bind,cK hn,Result.andThen_ok]
  simp only[em]
  simp only[show((2:Nat)^24)=16777216 from rfl,gt_iff_lt,SY,if_false]
  by_cases h0:len*es=0
  ·rw[if_pos h0,Sem.run_pure] at lZ
   injection lZ with hq
   subst hq
   rw[if_pos h0,Sem.run_bind,Sem.run_pure,Result.andThen_ok]
   simp only[g1]
   simp[newRow]
  ·have hq:zv.cells=zs:=by simpa[h0,zeroValue,typeInfo,e1,e2] using lZ
   subst hq
   have RD:(zeroValue e).run P w=.ok zv w:=by simp[zeroValue,typeInfo,e1,e2]
   rw[if_neg h0,Sem.run_bind,RD,Result.andThen_ok,Sem.run_bind,Sem.run_pure,Result.andThen_ok]
   simp only[g1]
   simp[newRow]
 rw[this]
 rfl
theorem CI (hF:FR ρ F a.tmps){t e:TypeId}{es bytes l c:Nat}{x y:Operand}{zc:List AV}{k k':IntKind}(ho:o.op=.makeSlice t x y)(hu:P.underlying t=some (.slice e))
  (hn:aG P e=some es) (hb:gE P e=some bytes) (hz:ez P e=some zc) (hx:F.ev x=.sc (.int k (l:Int))) (hy:F.ev y=.sc (.int k' (c:Int))) (Je:l≤c) (hbc:bytes*c≤140737488355328)
  (XZ:c≤9223372036854775807) (Ki:bI zc=es):qZ P ρ a o (.row (bH zc c)) (fun id=>.sl id 0 l c) w:=by
 obtain⟨z,DG,k8,rfl⟩:=gJ hz
 obtain⟨it,zv,e1,e2,e3⟩:=ff DG
 obtain⟨hc,h1⟩:=iT (ρ:=ρ) e3 k8
 rw[aZ] at Ki
 obtain⟨ie,D8,rfl⟩:=gI hn
 have Kj:it=ie:=by rw[e1] at D8;cases D8;rfl
 subst Kj
 have SZ:it.bytes=bytes:=by unfold gE at hb;rw[e1] at hb;exact Option.some.inj hb
 have hex:=(hx▸an hF x).d_
 have Wn:=(hy▸an hF y).d_
 have Wo:=mH (n:=c) hc h1 Ki rfl
 have hw:IntKind.i64.wrap (l:Int)=l:=wP .i64 l (by show l≤9223372036854775807;omega)
 have cV:IntKind.i64.wrap (c:Int)=c:=wP .i64 c (by show c≤9223372036854775807;omega)
 have N1:zv.cells.size=it.size:=by have:=hc.length;simp at this;omega
 refine nv (e:=e) Wo.1 Wo.2 (x:=.slice (some ⟨w.heap.size,0,none⟩) l c) ?_ fun aU id h=>V.sl h
 have n1:¬((c:Int)<0):=by omega
 have n2:¬((281474976710656:Int)<(it.bytes:Int)*(c:Int)):=by
  rw[SZ,←Int.natCast_mul]
  omega
 have n3:¬((l:Int)<0):=by omega
 have n4:¬((c:Int)<(l:Int)):=by omega
 by_cases h0:c*it.size=0
 ·simp[execOp,ho,Instr.makeSlice,run_underlying hu,hex,Wn,asInt,Go.asInt,asIntOf,typeInfo,e1,hw,cV,n1,n2,n3,n4,sizeOf,h0,newRow,Array.range_zero']
 ·simp[execOp,ho,Instr.makeSlice,run_underlying hu,hex,Wn,asInt,Go.asInt,asIntOf,typeInfo,e1,hw,cV,n1,n2,n3,n4,sizeOf,h0,newRow,zeroValue,e2]
theorem Hv {t k e:TypeId}(ho:o.op=.makeMap t none):qZ P ρ a o (.map []) (fun id=>.map id) w:=by
 refine⟨.map (some w.heap.size),w.alloc (.map #[] 0),0,?_,q8 w _,gK w _,alloc_old w _,fun aU id hl bS=>⟨.map bS,#[],0,mG w _,rfl,fun i k v hi=>by simp at hi⟩⟩
 simp[execOp,ho,Instr.makeMap]
end
end
end Go.cY
