/- Contracts. Conditions: in each theorem. -/
import Derived.Test.YtdfgboafnklioaaGreatM85
set_option linter.all false
set_option maxRecDepth 100000
set_option maxHeartbeats 4000000
noncomputable section
namespace Go.cG
open Go.Proofs
def c1 (x n a:Int):Nat:=if x<=a/\a<x+n then 1 else 0
theorem x6 {x n a:Int}(h1:x<=a)(h2:a<x+n):c1 x n a=1:=if_pos ⟨h1,h2⟩
theorem mU {x n a:Int}(h:1<=c1 x n a):x<=a/\a<x+n:=by
 unfold c1 at h;split at h
 .assumption
 .omega
theorem PU {x n y m:Int}(h:∀a,c1 x n a+c1 y m a<=1)(hn:1<=n)(hm:1<=m):x+n<=y\/y+m<=x:=by
 by_cases h1:x+n<=y;.exact .inl h1
 by_cases h2:y+m<=x;.exact .inr h2
 rcases Int.le_total x y with g|g
 .have:=h y;rw[x6 g am,x6 (Int.le_refl y) am] at this;omega
 .have:=h x;rw[x6 (Int.le_refl x) am,x6 g am] at this;omega
theorem PV {x n N:Int}(h:∀a,1<=c1 x n a->0<=a/\a<N)(hn:1<=n):0<=x/\x+n<=N:=by have h1:=h x (by rw[x6 (Int.le_refl x) am];exact Nat.le_refl _);have h2:=h (x+n-1) (by rw[x6 am am];exact Nat.le_refl _);omega
theorem jk {x a:Int}:[x].count a=c1 x 1 a:=by
 unfold c1;rw[List.count_singleton];simp only[beq_iff_eq];by_cases h:x=a;.rw[if_pos h,if_pos am]
 .rw[if_neg h,if_neg am]
theorem fG {x a:Int}(n:Nat):c1 x ((n+1:Nat):Int) a=c1 x n a+c1 (x+n) 1 a:=by
 unfold c1;by_cases h:x<=a/\a<x+n;.rw[if_pos h,if_pos am,if_neg am]
 .by_cases h2:a=x+n;.rw[if_neg h,if_pos am,if_pos am]
  .rw[if_neg h,if_neg am,if_neg am]
theorem iP {x a:Int}:c1 x ((0:Nat):Int) a=0:=if_neg am
theorem Jg {x a:Int}:∀n:Nat,(rg x n).count a=c1 x n a
 |0=>iP.symm
 |n+1=>by rw[rg,List.count_append,Jg n,jk,fG]
theorem D8 {x a:Int}:∀n:Nat,(gP (λk=>[x+(k:Int)]) n).count a=c1 x n a
 |0=>iP.symm
 |n+1=>by rw[gP,List.count_append,D8 n,jk,fG]
theorem fH {x a:Int}{l:List Int}:(x::l).count a=c1 x 1 a+l.count a:=by rw[<-List.singleton_append,List.count_append,jk]
theorem zl {x y z a:Int}:∀n:Nat,(gP (λk=>[x+(k:Int),y+(k:Int),z+(k:Int)]) n).count a=c1 x n a+c1 y n a+c1 z n a
 |0=>by rw[iP,iP,iP];rfl
 |n+1=>by rw[gP,List.count_append,zl n,fH,fH,jk,fG,fG,fG];omega
theorem D9 {x y a:Int}:∀n:Nat,(gP (λk=>[x+(k:Int),y+(k:Int)]) n).count a=c1 x n a+c1 y n a
 |0=>by rw[iP,iP];rfl
 |n+1=>by rw[gP,List.count_append,D9 n,fH,jk,fG,fG];omega
theorem Jh {top links size an aF a:Int}(hg:-9223372036854775808<=an):∀n:Nat,an+n<=9223372036854775807->(wG top links size an aF n).count a=c1 top 1 a+c1 aF 1 a+c1 links n a+c1 an n a
 |0,_=>by rw[wG,fH,jk,iP,iP];rfl
 |n+1,h=>by rw[wG,List.count_append,Jh hg n am,fH,jk,fG,fG,yI am am];omega
theorem Ji {top links size an aF bh pins aL a:Int}(hs:0<=size)(hg:-9223372036854775808<=an)(yz:an+size<=9223372036854775807)(ht:0<=aL/\aL<=5000):∀n:Nat,(qe top links size an aF bh pins aL n).count a=c1 top 1 a+c1 aF 1 a+c1 links size a+c1 an size a+c1 bh 1 a+c1 aL 3 a+c1 pins n a
 |0=>by
  obtain⟨m,rfl⟩:∃m:Nat,size=m:=⟨size.toNat,am⟩;have e1:c1 aL 3 a=c1 aL 1 a+c1 (aL+1) 1 a+c1 (aL+2) 1 a:=by have h0:=fG (x:=aL) (a:=a) 2;have h1:=fG (x:=aL) (a:=a) 1;exact h0.trans (congrArg (· +_) h1)
  rw[qe,List.count_append,Int.toNat_natCast,Jh hg m yz,fH,fH,fH,jk,iP,yI am am,yI am am,e1];omega
 |n+1=>by rw[qe,List.count_append,Ji hs hg yz ht n,jk,fG];omega
def Wd (f:Int->Nat)(N:Int):Prop:=∀a,f a<=1/\(1<=f a->0<=a/\a<N)
theorem zm {l:List Int}{N:Int}:apart l N↔Wd (λa=>l.count a) N:=by
 constructor
 .rintro⟨h1,h2⟩ a;exact⟨List.nodup_iff_count.1 h2 a,λh=>h1 a (List.count_pos_iff.1 h)⟩
 .intro h;exact⟨λa ha=>(h a).2 (List.count_pos_iff.2 ha),List.nodup_iff_count.2 λa=>(h a).1⟩
theorem PW {f g:Int->Nat}{N:Int}(h:Wd g N)(hl:∀a,f a<=g a):Wd f N:=λa=>⟨Nat.le_trans (hl a) (h a).1,λh1=>(h a).2 (Nat.le_trans h1 (hl a))⟩
def lP (e:X.Ex)(a:Int):Nat:=c1 e.t.eJ 1 a+c1 e.t.bo e.t.aH a+c1 e.t.an e.t.aH a+c1 e.t.aF 1 a+c1 e.t.mR 1 a+c1 e.t.pins e.t.ad a+c1 e.t.aL 3 a+c1 e.t.hd e.t.ht a+c1 e.t.nd (e.t.aH*(4+e.t.ht)) a+c1 e.dp e.fj a+c1 e.tJ e.cL a+c1 e.fk e.cL a+c1 e.kz 1 a+c1 e.cZ e.cL a+c1 e.dq (e.aq*(e.cF+2)) a+c1 e.gf e.dU a+c1 e.d_ e.dU a+c1 e.own e.dU a+c1 e.seq 1 a
def D_ (t:X.To):List Int:=([t.eJ,t.aF,t.mR,t.aL,t.aL+1,t.aL+2]++gP (λk=>[t.bo+(k:Int),t.an+(k:Int)]) t.aH.toNat)++gP (λk=>[t.pins+(k:Int)]) t.ad.toNat
def PX (top links size an aF fJ N:Int):Prop:=sA top links size N/\(1<=fJ/\fJ<=4294967295)/\(0<=an/\an+size<=N)/\(0<=aF/\aF<N)/\((([top]++rg links size.toNat)++rg an size.toNat)++rg aF 1).Nodup
instance adk {top links size an aF fJ N:Int}:Decidable (PX top links size an aF fJ N):=by unfold PX;infer_instance
def zn (t:X.To)(N:Int):Prop:=PX t.eJ t.bo t.aH t.an t.aF t.fJ N/\zk t.mR t.pins t.ad N/\(0<=t.aL/\t.aL+3<=N)/\(D_ t).Nodup
instance adl {t:X.To}{N:Int}:Decidable (zn t N):=by unfold zn;infer_instance
def wv (t:X.To)(N:Int):Prop:=t.ok/\zn t N/\apart ((D_ t++gP (λk=>[t.nd+(k:Int)]) (D5 t))++gP (λk=>[t.hd+(k:Int)]) t.ht.toNat) N
instance adm {t:X.To}{N:Int}:Decidable (wv t N):=by unfold wv;infer_instance
def wx (e:X.Ex):List (Int×Int):=[(e.t.eJ,1),(e.t.bo,e.t.aH),(e.t.an,e.t.aH),(e.t.aF,1),(e.t.mR,1),(e.t.pins,e.t.ad),(e.t.aL,3),(e.t.hd,e.t.ht),(e.t.nd,e.t.aH*(4+e.t.ht)),(e.dp,e.fj),(e.tJ,e.cL),(e.fk,e.cL),(e.kz,1),(e.cZ,e.cL),(e.dq,e.aq*(e.cF+2)),(e.gf,e.dU),(e.d_,e.dU),(e.own,e.dU),(e.seq,1)]
def dX:List (Int×Int)->List Int
 |[]=>[]
 |p::l=>rg p.1 p.2.toNat++dX l
def wy (e:X.Ex)(l:List dA.Tk)(N:Int):Prop:=e.ok l/\wv e.t N/\MB e.dp e.fj N/\JE e.tJ e.fk e.kz e.cZ e.cL N/\Bs e.dq e.aq e.cF N/\PR e.gf e.d_ e.dU N/\apart (dX (wx e)) N
instance adn {e:X.Ex}{l:List dA.Tk}{N:Int}:Decidable (wy e l N):=by unfold wy;infer_instance
theorem eT {x n a:Int}(h:0<=n):(rg x n.toNat).count a=c1 x n a:=by rw[Jg,Int.toNat_of_nonneg h]
theorem jz {x n a:Int}(h:0<=n):(gP (λk=>[x+(k:Int)]) n.toNat).count a=c1 x n a:=by rw[D8,Int.toNat_of_nonneg h]
structure Bz (e:X.Ex)(l:List dA.Tk)(N:Int):Prop where
 ok:e.ok l
 fJ:1<=e.t.fJ/\e.t.fJ<=4294967295
 ap:Wd (lP e) N
structure zB (e:X.Ex):Prop where
 aH:1<=e.t.aH/\e.t.aH<=128
 ht:1<=e.t.ht/\e.t.ht<=4
 nodes:5<=e.t.aH*(4+e.t.ht)/\e.t.aH*(4+e.t.ht)<=1024
 ad:1<=e.t.ad/\e.t.ad<=64
 gm:1<=e.fj/\e.fj<=32
 js:1<=e.cL/\e.cL<=64
 mc:e.aq=e.t.ad
 rc:e.dU=e.t.ad
 mr:1<=e.cF/\e.cF<=16
 boxes:3<=e.aq*(e.cF+2)/\e.aq*(e.cF+2)<=1152
theorem zB.of {e:X.Ex}{l:List dA.Tk}(hk:e.ok l):zB e:=by
 have h32:=Br hk.2.1;obtain⟨⟨a1,a2,a3,a4,a5,a6,a7,a8⟩,_,b1,b2,b3,b4,b5,b6,b7,b8,b9,UI,c⟩:=hk;refine⟨⟨a3,a4⟩,⟨a1,a2⟩,⟨?_,?_⟩,⟨b3,b4⟩,⟨am,am⟩,⟨b7,b8⟩,b5,b6,⟨b9,UI⟩,?_,?_⟩;.have:=Int.mul_le_mul a3 (show(5:Int)<=4+e.t.ht by omega) am am;omega
 .have:=Int.mul_le_mul a4 (show 4+e.t.ht<=8 by omega) am am;omega
 .have:=Int.mul_le_mul (show(1:Int)<=e.aq by omega) (show(3:Int)<=e.cF+2 by omega) am am;omega
 .have:=Int.mul_le_mul (show e.aq<=64 by omega) (show e.cF+2<=18 by omega) am am;omega
theorem CT {t:X.To}{a:Int}(hs:0<=t.aH)(hc:0<=t.ad):(D_ t).count a=c1 t.eJ 1 a+c1 t.aF 1 a+c1 t.mR 1 a+c1 t.aL 3 a+c1 t.bo t.aH a+c1 t.an t.aH a+c1 t.pins t.ad a:=by
 have e1:c1 t.aL 3 a=c1 t.aL 1 a+c1 (t.aL+1) 1 a+c1 (t.aL+2) 1 a:=
  (fG (x:=t.aL) (a:=a) 2).trans (congrArg (· +_) (fG (x:=t.aL) (a:=a) 1))
 unfold D_;rw[List.count_append,List.count_append,fH,fH,fH,fH,fH,jk,D9,jz hc,e1,Int.toNat_of_nonneg hs];omega
theorem Ea {e:X.Ex}{a:Int}(hb:zB e):(dX (wx e)).count a=lP e a:=by obtain⟨h1,h2,h3,h4,h5,h6,h7,h8,h9,Vk⟩:=hb;unfold wx lP;simp only[dX,List.count_append];have one:∀x:Int,(rg x (1:Int).toNat).count a=c1 x 1 a:=λx=>eT am;rw[one,one,one,one,one,eT am,eT am,eT am,eT am,eT am,eT am,eT am,eT am,eT am,eT am,eT am,eT am,eT am,eT am];simp only[List.count_nil];omega
theorem Jj {e:X.Ex}{a:Int}(hb:zB e)(hg:-9223372036854775808<=e.t.an)(yz:e.t.an<=5000)(ht:0<=e.t.aL/\e.t.aL<=5000):(MA e).count a=lP e a:=by
 obtain⟨h1,h2,h3,h4,h5,h6,h7,h8,h9,Vk⟩:=hb;unfold MA lP
 rw[List.count_append,List.count_append,List.count_append,List.count_append,List.count_append,List.count_append,List.count_append,
  Ji am hg am ht,fH,jk,jz am,jz am,jz am,zl,jz am,zl,
  Int.toNat_of_nonneg (show 0<=e.t.ad by omega),Int.toNat_of_nonneg (show 0<=e.cL by omega),Int.toNat_of_nonneg (show 0<=e.aq by omega),h8,<-h7]
 omega
theorem Eb {top links size an aF:Int}:∀n,Az (an+0)∈wG top links size an aF (n+1)
 |0=>by rw[wG];exact List.mem_append_right _ (List.Mem.tail _ (List.Mem.head _))
 |n+1=>by rw[wG];exact List.mem_append_left _ (Eb n)
theorem Ec {top links size an aF bh pins aL:Int}:∀n,aL∈qe top links size an aF bh pins aL n
 |0=>by rw[qe];exact List.mem_append_right _ (List.Mem.tail _ (List.Mem.head _))
 |n+1=>by rw[qe];exact List.mem_append_left _ (Ec n)
theorem Jk {e:X.Ex}{l:List dA.Tk}{N:Int}(hN:N<=4096)(hg:Az e.t.an=e.t.an/\-9223372036854775808<=e.t.an)(h:I_ e l N):Bz e l N:=by
 obtain⟨hk,⟨_,⟨⟨_,hl,ha⟩,_,JA⟩,_⟩,hx⟩:=h;have hb:=zB.of hk;have g1:=ha.1 (Az (e.t.an+0)) (by
  have:=Eb (top:=e.t.eJ) (links:=e.t.bo) (size:=e.t.aH) (an:=e.t.an) (aF:=e.t.aF) (e.t.aH.toNat-1)
  rwa[show e.t.aH.toNat-1+1=e.t.aH.toNat by have:=hb.1;omega] at this)
 rw[Int.add_zero,hg.1] at g1;have g2:=JA.1 _ (Ec _);refine⟨hk,hl,?_⟩;have:=zm.1 hx
 rwa[show(λa=>(MA e).count a)=lP e from funext λa=>Jj hb hg.2 am am] at this
theorem PY {e:X.Ex}{l:List dA.Tk}{N:Int}(h:wy e l N):Bz e l N:=by
 obtain⟨hk,⟨_,⟨⟨_,hl,_⟩,_⟩,_⟩,_,_,_,_,hx⟩:=h;have hb:=zB.of hk;refine⟨hk,hl,?_⟩;have:=zm.1 hx
 rwa[show(λa=>(dX (wx e)).count a)=lP e from funext λa=>Ea hb] at this
section
variable{e:X.Ex}{l:List dA.Tk}{N:Int}
theorem Bz.x7 (h:Bz e l N){x n:Int}(hn:1<=n)(hl:∀a,c1 x n a<=lP e a):0<=x/\x+n<=N:=PV (λa h1=>(h.ap a).2 (Nat.le_trans h1 (hl a))) hn
theorem Bz.two (h:Bz e l N){x n y m:Int}(hn:1<=n)(hm:1<=m)(hl:∀a,c1 x n a+c1 y m a<=lP e a):x+n<=y\/y+m<=x:=PU (λa=>Nat.le_trans (hl a) (h.ap a).1) hn hm
theorem Bz.nd (h:Bz e l N){L:List Int}(hl:∀a,L.count a<=lP e a):L.Nodup:=List.nodup_iff_count.2 λa=>Nat.le_trans (hl a) (h.ap a).1
theorem Bz.QK (h:Bz e l N){L:List Int}(hl:∀a,L.count a<=lP e a):apart L N:=zm.2 (PW h.ap hl)
theorem Bz.st (h:Bz e l N):sA e.t.eJ e.t.bo e.t.aH N:=by have hb:=zB.of h.ok;have h1:=h.x7 (x:=e.t.eJ) (n:=1) am (λa=>by unfold lP;omega);have h2:=h.x7 (x:=e.t.bo) (n:=e.t.aH) hb.1.1 (λa=>by unfold lP;omega);have h3:=h.two (x:=e.t.eJ) (n:=1) (y:=e.t.bo) (m:=e.t.aH) am hb.1.1 (λa=>by unfold lP;omega);have:=hb.1;unfold sA;omega
theorem Bz.ep (h:Bz e l N):zk e.t.mR e.t.pins e.t.ad N:=by have hb:=zB.of h.ok;have h1:=h.x7 (x:=e.t.mR) (n:=1) am (λa=>by unfold lP;omega);have h2:=h.x7 (x:=e.t.pins) (n:=e.t.ad) hb.4.1 (λa=>by unfold lP;omega);have h3:=h.two (x:=e.t.mR) (n:=1) (y:=e.t.pins) (m:=e.t.ad) am hb.4.1 (λa=>by unfold lP;omega);have:=hb.4;unfold zk;omega
theorem UQ (hN:N<=4096)(h:Bz e l N):I_ e l N:=by
 have hb:=zB.of h.ok;have gg:=h.x7 (x:=e.t.an) (n:=e.t.aH) hb.1.1 (λa=>by unfold lP;omega);have gt:=h.x7 (x:=e.t.aL) (n:=3) am (λa=>by unfold lP;omega);have b1:=hb.1;have b2:=hb.2;have b3:=hb.3;have b4:=hb.4;have cl:∀a,(JD e.t).count a=_:=λa=>(Ji (a:=a) am am am am e.t.ad.toNat).trans (by rw[Int.toNat_of_nonneg am]);refine⟨h.ok,⟨h.ok.1,⟨⟨h.st,h.fJ,h.QK λa=>?_⟩,h.ep,h.QK λa=>?_⟩,h.QK λa=>?_⟩,h.QK λa=>?_⟩
 .rw[Jh am _ am,Int.toNat_of_nonneg am];unfold lP;omega
 .refine Nat.le_trans (Nat.le_of_eq (cl a)) ?_;unfold lP;omega
 .rw[List.count_append,cl];unfold JC D5;rw[List.count_append,eT am,eT am];unfold lP;omega
 .exact Nat.le_of_eq (Jj hb am am am)
theorem PZ (hN:N<=4096)(h:Bz e l N):wy e l N:=by
 have hb:=zB.of h.ok;have b1:=hb.1;have b2:=hb.2;have b3:=hb.3;have b4:=hb.4;have b5:=hb.5;have b6:=hb.6;have b7:=hb.7;have b8:=hb.8;have b9:=hb.9;have UI:=hb.10;have gg:=h.x7 (x:=e.t.an) (n:=e.t.aH) hb.1.1 (λa=>by unfold lP;omega);have gt:=h.x7 (x:=e.t.aL) (n:=3) am (λa=>by unfold lP;omega);have gw:=h.x7 (x:=e.t.aF) (n:=1) am (λa=>by unfold lP;omega);have one:∀x a:Int,(rg x 1).count a=c1 x 1 a:=λx a=>Jg 1;refine⟨h.ok,⟨h.ok.1,⟨⟨h.st,h.fJ,gg,am,h.nd λa=>?_⟩,h.ep,am,h.nd λa=>?_⟩,h.QK λa=>?_⟩,?_,?_,?_,?_,h.QK λa=>Nat.le_of_eq (Ea hb)⟩
 .rw[List.count_append,List.count_append,List.count_append,jk,eT am,eT am,one];unfold lP;omega
 .rw[CT am am];unfold lP;omega
 .rw[List.count_append,List.count_append,CT am am];unfold D5;rw[jz am,jz am];unfold lP;omega
 .have:=h.x7 (x:=e.dp) (n:=e.fj) am (λa=>by unfold lP;omega);unfold MB;omega
 .have h1:=h.x7 (x:=e.tJ) (n:=e.cL) am (λa=>by unfold lP;omega);have h2:=h.x7 (x:=e.fk) (n:=e.cL) am (λa=>by unfold lP;omega);have h3:=h.x7 (x:=e.kz) (n:=1) am (λa=>by unfold lP;omega);have h4:=h.x7 (x:=e.cZ) (n:=e.cL) am (λa=>by unfold lP;omega);have g1:=h.two (x:=e.kz) (n:=1) (y:=e.cZ) (m:=e.cL) am am (λa=>by unfold lP;omega);refine⟨by unfold sA;omega,am,h1,h2,h.two am am λa=>?_,h.two am am λa=>?_,h.two am am λa=>?_,h.two am am λa=>?_,h.two am am λa=>?_⟩<;>(unfold lP;omega)
 .have:=h.x7 (x:=e.dq) (n:=e.aq*(e.cF+2)) am (λa=>by unfold lP;omega);exact⟨am,b9,this⟩
 .have h1:=h.x7 (x:=e.gf) (n:=e.dU) am (λa=>by unfold lP;omega);have h2:=h.x7 (x:=e.d_) (n:=e.dU) am (λa=>by unfold lP;omega);exact⟨am,h1,h2,h.two am am λa=>by unfold lP;omega⟩
theorem Jl (hN:N<=4096)(hg:Az e.t.an=e.t.an/\-9223372036854775808<=e.t.an):wy e l N↔I_ e l N:=⟨λh=>UQ hN (PY h),λh=>PZ hN (Jk hN hg h)⟩
end
instance ado:cK 361 where
instance abg:cK 471 where
section
variable{B0 S:AH}{W:List Nat}{R:List Own}{ro:List aI}{N:Int}{top links size an aF fJ:Int}
theorem zp {K:List Kf}{Φ:gz}{t w:AV}{q p2 p1 n:Nat}{a m a0 c0:Int}{s:List Int}(h0:a0=a)(hc0:c0=1)(hm:1<=m)(ha:0<=a/\a+m<=n)(hn:n<=4096)(hs:s.Nodup)
  (hd:¬(s++rg a m.toNat).Nodup->∀X Y u,Vx EM (.ret .ret [u,I 2]) K (.sl t 1 X::.obj q Y::.obj p2 (.row [I m])::.obj p1 (.row [I a])::R) ro Φ)
  (he:(s++rg a m.toNat).Nodup->∀Y u w,Vx EM (.ret (.exit 6) [u,w]) K (.sl t 1 (wq n (s++rg a m.toNat))::.obj q Y::.obj p2 (.row [I m])::.obj p1 (.row [I a])::R) ro Φ):
  Vx EM (.loop [I a0,w] (λvs=>.op (.bin .geq (nth vs 0) (I 0)) λv=>.ite v
   (.bind (.op (.cC 1 t (nth vs 0)) λv=>.op (.load 1 false v) λv=>.ite v (.ret .ret [I 2]) (.op (.cC 1 t (nth vs 0)) λv=>.op (.store 1 v (B true)) λv=>.ret .normal [nth vs 1]))
     (some 9) (λvs=>.call (.fn (.func 471) [] [.ptr q 0,.ptr p2 0,.ptr p1 0]) [] λv=>.ret .normal [v,nth vs 0]) λZX=>[nth vs 0,nth ZX 0])
   (.ret (.exit 6) [nth vs 0,nth vs 1])) λvs=>[nth vs 0,nth vs 1]) K (.sl t 1 (wq n s)::.obj q (.row [I c0])::.obj p2 (.row [I m])::.obj p1 (.row [I a])::R) ro Φ:=by
 subst h0 hc0;obtain⟨m,rfl⟩:∃k:Nat,m=k:=⟨m.toNat,am⟩;rw[Int.toNat_natCast] at hd he;have e0:s=s++rg a0 0:=by rw[rg,List.append_nil]
 refine Vx.inv (α:=Nat×Int×Int×AV) (P:=λz k=>k+z.1=m/\(s++rg a0 z.1).Nodup/\(z.1<m->z.2.1=a0+z.1/\z.2.2.1=z.1+1)/\(z.1=m->z.2.1=-1/\z.2.2.1=m)) (λz=>[I z.2.1,z.2.2.2])
  (λz=>.sl t 1 (wq n (s++rg a0 z.1))::.obj q (.row [I z.2.2.1])::.obj p2 (.row [I (m:Int)])::.obj p1 (.row [I a0])::R) ?_ (a0:=(0,a0,1,w)) (n0:=m) ⟨rfl,by rw[<-e0];exact hs,λ_=>by dsimp only;omega,λh=>by dsimp only at h;omega⟩|>λh=>by rwa[<-e0] at h
 rintro⟨j,b,c,w⟩ k ⟨hk,BV,Jv,wC⟩ ih;dsimp only at hk BV Jv wC ih⊢;refine Zx.ok (n:=false) ?_
 (repeat' first|refine Zx.av (v:=t) ?_|refine Zx.au (v:=t) ?_|constructor|exact ZQ|intro _)
 all_goals apply zL
 .next hb=>
  have UR:j<m:=by
   by_cases h:j<m;.exact h
   .have:=wC am;omega
  obtain⟨rfl,rfl⟩:=Jv UR;have qZ:(s++rg a0 (j+1)).Sublist (s++rg a0 m):=(List.Sublist.refl s).append (CR am);rw[show s++rg a0 (j+1)=(s++rg a0 j)++[a0+(j:Int)] from(List.append_assoc ..).symm] at qZ;refine Zx.ok (n:=false) (Zx.tkR (List.Mem.head _) am am ?_);by_cases hx:a0+(j:Int)∈s++rg a0 j
  .rw[decide_eq_true hx]
   (repeat' first|refine Zx.av (v:=t) ?_|refine Zx.au (v:=t) ?_|constructor|exact ZQ|intro _)
   all_goals apply zL
   exact hd (λg=>(kl.1 (g.sublist qZ)).2 hx) _ _ _
  .rw[decide_eq_false hx]
   (repeat' first|refine Zx.av (v:=t) ?_|refine Zx.au (v:=t) ?_|constructor|exact ZQ|intro _)
   all_goals apply zL
   refine Zx.ok (n:=false) (Zx.Wb am am ?_);have P1:=kl.2 ⟨BV,hx⟩;rw[List.append_assoc] at P1⊢
   (repeat' first|refine Zx.av (v:=t) ?_|refine Zx.au (v:=t) ?_|constructor|exact ZQ|intro _)
   all_goals apply zL
   .exact ih (j+1,-1,(j:Int)+1,w) (k-1) am ⟨by dsimp only;omega,P1,λh=>by dsimp only at h;omega,λh=>by dsimp only;omega⟩
   .exact ih (j+1,a0+((j:Int)+1+1)-1,(j:Int)+1+1,w) (k-1) am ⟨by dsimp only;omega,P1,λh=>by dsimp only;omega,λh=>by dsimp only at h;omega⟩
 .next hb=>
  have UR:j=m:=by
   by_cases h:j<m
   .have:=Jv h;omega
   .omega
  subst UR;exact he BV _ _ _
theorem ZY (H:Cx B0 W S R ro):aN EM (zF 234) [.agg [I top,I links,I size,I an,I aF,I fJ],I N] S λr S'=>∃ab,(r=I (eC N (PX top links size an aF fJ N))/\ab=R)/\Cx B0 W S' ab ro:=by
 refine Vx.fm H rfl (b:=Tryz.a234) ?_
 (repeat' first|refine Zx.aA 139 ?_|constructor|exact ZQ|intro _)
 all_goals apply zL
 .exact⟨rfl,rfl,_,⟨by rw[bY am];rfl,rfl⟩,HQ⟩
 .exact⟨rfl,rfl,_,⟨by rw[bY am];rfl,rfl⟩,HQ⟩
 .refine Vx.spec (λB1 W1 S1 H=>UH H) ?_;rintro _ _ ⟨rfl,rfl⟩;have no:¬PX top links size an aF fJ N->oneOf [I 2]=I (eC N (PX top links size an aF fJ N)):=λh=>by rw[bC am h];rfl
  by_cases hs:sA top links size N
  .rw[bG am hs];have uG:=hs;unfold sA at uG;repeat' first|refine Zx.CM ?_|constructor|exact ZQ|intro _
   all_goals apply zL
   all_goals first|exact⟨rfl,rfl,_,⟨no λh=>by have h1:=h.2.1;have h2:=h.2.2.1;have h3:=h.2.2.2.1;omega,rfl⟩,HQ⟩|skip
   refine Vx.ZT am λt=>?_;refine Zx.ok (n:=false) ?_
   (repeat' first|refine Zx.av (v:=t) ?_|refine Zx.au (v:=t) ?_|constructor|exact ZQ|intro _)
   all_goals apply zL
   refine Zx.ok (n:=false) (Zx.Wb am am ?_)
   (repeat' first|refine Zx.av (v:=t) ?_|refine Zx.au (v:=t) ?_|constructor|exact ZQ|intro _)
   all_goals apply zL
   refine Vx.loop ?_;refine Zx.ok (n:=false) ?_
   (repeat' first|refine Zx.av (v:=t) ?_|refine Zx.au (v:=t) ?_|constructor|exact ZQ|intro _)
   all_goals apply zL
   rename_i p _ _ _ _ _ _ _ _ q1 q2 q3 q4 q5 q6 q7 q8 q9 ZZ _;have hN:(N.toNat:Int)=N:=am;refine Vx.bQ (own:=.sl t 1 (wq N.toNat ([]++[top]))::.obj q3 (.row [I (0+1)])::.obj q2 (.row [I size])::.obj q1 (.row [I links])::.obj ZZ (.row [_,_,_])::.obj q9 (.row [I 0])::.obj q8 (.row [I 1])::.obj q7 (.row [I aF])::.obj q6 (.row [I 0])::.obj q5 (.row [I size])::.obj q4 (.row [I an])::R) HQ ?_;refine zp am am am am am ac (λg X Y u=>?_) λg1 Y u w=>?_
   .refine Zx.ok (n:=false) ?_
    (repeat' first|constructor|exact ZQ|intro _)
    all_goals apply zL
    exact⟨rfl,rfl,_,⟨no λh=>g (h.2.2.2.2.sublist ((List.sublist_append_left _ _).trans (List.sublist_append_left _ _))),rfl⟩,HQ⟩
   refine Zx.ok (n:=false) ?_
   (repeat' first|constructor|exact ZQ|intro _)
   all_goals apply zL
   refine Vx.Ku (Zx.ok (n:=false) ?_)
   (repeat' first|refine Zx.av (v:=t) ?_|refine Zx.au (v:=t) ?_|constructor|exact ZQ|intro _)
   all_goals apply zL
   refine Vx.bQ (own:=.sl t 1 (wq N.toNat (([]++[top])++rg links size.toNat))::.obj q6 (.row [I (0+1)])::.obj q5 (.row [I size])::.obj q4 (.row [I an])::.obj ZZ (.row [_,_,_])::.obj q9 (.row [I 0])::.obj q8 (.row [I 1])::.obj q7 (.row [I aF])::R) HQ ?_;refine zp am am am am am g1 (λg X Y u=>?_) λg2 Y u w=>?_
   .refine Zx.ok (n:=false) ?_
    (repeat' first|constructor|exact ZQ|intro _)
    all_goals apply zL
    exact⟨rfl,rfl,_,⟨no λh=>g (h.2.2.2.2.sublist (List.sublist_append_left _ _)),rfl⟩,HQ⟩
   refine Zx.ok (n:=false) ?_
   (repeat' first|constructor|exact ZQ|intro _)
   all_goals apply zL
   refine Vx.Ku (Zx.ok (n:=false) ?_)
   (repeat' first|refine Zx.av (v:=t) ?_|refine Zx.au (v:=t) ?_|constructor|exact ZQ|intro _)
   all_goals apply zL
   refine Vx.bQ (own:=.sl t 1 (wq N.toNat ((([]++[top])++rg links size.toNat)++rg an size.toNat))::.obj q9 (.row [I (0+1)])::.obj q8 (.row [I 1])::.obj q7 (.row [I aF])::.obj ZZ (.row [_,_,_])::R) HQ ?_;refine zp am am am am am g2 (λg X Y u=>?_) λg3 Y u w=>?_
   .refine Zx.ok (n:=false) ?_
    (repeat' first|constructor|exact ZQ|intro _)
    all_goals apply zL
    exact⟨rfl,rfl,_,⟨no λh=>g h.2.2.2.2,rfl⟩,HQ⟩
   refine Zx.ok (n:=false) ?_
   (repeat' first|constructor|exact ZQ|intro _)
   all_goals apply zL
   refine Vx.Ku (Zx.ok (n:=false) ?_)
   (repeat' first|constructor|exact ZQ|intro _)
   all_goals apply zL
   exact⟨rfl,rfl,_,⟨by rw[bG am ⟨hs,am,am,am,g3⟩];rfl,rfl⟩,HQ⟩
  .rw[bC am hs]
   (repeat' first|constructor|exact ZQ|intro _)
   all_goals apply zL
   exact⟨rfl,rfl,_,⟨no λh=>hs h.1,rfl⟩,HQ⟩
end
section
variable{B0 S:AH}{W:List Nat}{R:List Own}{ro:List aI}{N:Int}{top links size an aF fJ bh pins ad aL:Int}
def US (top aF bh aL:Int):List Int:=[top,aF,bh,aL,aL+1,aL+2]
def MD (top links size an aF bh pins ad aL:Int):List Int:=(US top aF bh aL++gP (λk=>[links+(k:Int),an+(k:Int)]) size.toNat)++gP (λk=>[pins+(k:Int)]) ad.toNat
theorem Jm {links an top aF bh aL:Int}{s:Nat}:(US top aF bh aL++gP (λk=>[links+(k:Int),an+(k:Int)]) s).length=6+2*s:=by rw[List.length_append,ez (w:=2) (f:=λk=>[links+(k:Int),an+(k:Int)]) (λ_=>rfl)];rfl
theorem zq:(MD top links size an aF bh pins ad aL).length=6+2*size.toNat+ad.toNat:=by unfold MD;rw[List.length_append,Jm,ez (w:=1) (f:=λk=>[pins+(k:Int)]) (λ_=>rfl)];omega
theorem ME (hs:0<=size/\size<=4096)(hl:0<=links/\links<=4096)(hg:0<=an/\an<=4096)(ht:0<=aL/\aL<=4096)(hc:0<=ad/\ad<=64)(hp:0<=pins/\pins<=4096):
  Zx EM false (Tryz.a236 [.agg [I top,I links,I size,I an,I aF,I fJ,I bh,I pins,I ad,I aL]]) [] R ro (kx ro λr ab=>ab=.sl r 1 (ints (MD top links size an aF bh pins ad aL))::R):=by
 (repeat' first|constructor|exact ZQ|intro _)
 all_goals apply zL
 rename_i p1 p2;obtain⟨s,rfl⟩:∃s:Nat,size=s:=⟨size.toNat,am⟩;obtain⟨C,rfl⟩:∃C:Nat,ad=C:=⟨ad.toNat,am⟩;unfold MD;rw[Int.toNat_natCast,Int.toNat_natCast];refine Vx.Lw (n:=6) (es:=1) (L:=ints (US top aF bh aL)) rfl rfl Bp ?_;refine Vx.JB (f:=λk=>[links+(k:Int),an+(k:Int)]) (N:=s) (w:=2) (λ_=>rfl) (by unfold US;simp only[List.length_cons,List.length_nil];omega) (λi v hi a h=>?_) λv=>?_
 .refine Zx.ok (n:=false) ?_;repeat' first|refine Zx.ck ?_|constructor|exact ZQ|intro _
  all_goals apply zL
  exact a _ _ _ λv' o1 o2 o3=>by
   have h2:=h v'
   (repeat' first|constructor|exact ZQ|intro _)
 have el:=Jm (links:=links) (an:=an) (top:=top) (aF:=aF) (bh:=bh) (aL:=aL) (s:=s);generalize US top aF bh aL++gP (λk=>[links+(k:Int),an+(k:Int)]) s=L at*
 refine Zx.ok (n:=false) ?_;repeat' first|refine Zx.ck ?_|constructor|exact ZQ|intro _
 all_goals apply zL
 refine Vx.JB (f:=λk=>[pins+(k:Int)]) (N:=C) (w:=1) (λ_=>rfl) am (λi v hi a h=>?_) λv=>?_
 .refine Zx.ok (n:=false) ?_;repeat' first|refine Zx.ck ?_|constructor|exact ZQ|intro _
  all_goals apply zL
  exact a _ _ _ λv' o1 o2 o3=>by
   have h2:=h v'
   (repeat' first|constructor|exact ZQ|intro _)
 refine Zx.ok (n:=false) ?_
 (repeat' first|constructor|exact ZQ|intro _)
 all_goals apply zL
 exact⟨rfl,rfl,_,rfl,HQ⟩
theorem LD (hs:0<=size/\size<=4096)(hl:0<=links/\links<=4096)(hg:0<=an/\an<=4096)(ht:0<=aL/\aL<=4096)(hc:0<=ad/\ad<=64)(hp:0<=pins/\pins<=4096)(H:Cx B0 W S R ro):
 aN EM (zF 236) [.agg [I top,I links,I size,I an,I aF,I fJ,I bh,I pins,I ad,I aL]] S λr S'=>∃ab,(ab=.sl r 1 (ints (MD top links size an aF bh pins ad aL))::R)/\Cx B0 W S' ab ro:=Vx.fm H rfl (b:=Tryz.a236) (ME hs hl hg ht hc hp)
theorem Fu (hs:0<=size/\size<=4096)(hl:0<=links/\links<=4096)(hg:0<=an/\an<=4096)(ht:0<=aL/\aL<=4096)(hc:0<=ad/\ad<=64)(hp:0<=pins/\pins<=4096)(H:Cx B0 W S R ro):
 aN EM (zF 135) [.agg [I top,I links,I size,I an,I aF,I fJ,I bh,I pins,I ad,I aL]] S λr S'=>∃ab,(ab=.sl r 1 (ints (MD top links size an aF bh pins ad aL))::R)/\Cx B0 W S' ab ro:=Vx.fm H rfl (b:=Tryz.a135) (ME hs hl hg ht hc hp)
end
section
variable{M:cP}{own R:List Own}{ro:List aI}{Φ:gz}{K:List Kf}
theorem Vx.mkm {k:AV->AC}(h:∀m,Vx M (k (.map m)) K (.obj m (.map (iB []))::own) ro Φ):Vx M (.op .xh k) K own ro Φ:=λB W S H=>Hi H λm S1 H1=>h m B W S1 H1
theorem Vx.lk2 {kt id:TypeId}{mm:List (Int×AV)}{zero:AV}{key:Int}{k:AV->AC}(hk:M.P.underlying kt=some (.int .i64))(h:Zx M false (k (.ed [(ni mm key).getD zero,B (ni mm key).isSome])) K (.obj id (.map (iB mm))::R) ro Φ):Vx M (.op (.lookup kt true zero (.map id) (I key)) k) K (.obj id (.map (iB mm))::R) ro Φ:=λB W S H=>Cd H 0 hk rfl (h.ok B W S H)
theorem Vx.mst {kt id:TypeId}{mm:List (Int×AV)}{key:Int}{v:AV}{k:AV->AC}(hk:M.P.underlying kt=some (.int .i64))(h:Zx M false (k uv) K (.obj id (.map (iB (tA mm key v)))::R) ro Φ):Vx M (.op (.uu kt (.map id) (I key) v) k) K (.obj id (.map (iB mm))::R) ro Φ:=λB W S H=>EL H 0 hk rfl λS1 H1=>h.ok B W S1 H1
theorem ktI:EM.P.underlying 3=some (.int .i64):=by kernel_rfl
end
section
variable{B0 S:AH}{W:List Nat}{R:List Own}{ro:List aI}{N:Int}
theorem UT {t:X.To}(H:Cx B0 W S R ro):aN EM (zF 134) [.agg [I t.eJ,I t.bo,I t.aH,I t.an,I t.aF,I t.fJ,I t.mR,I t.pins,I t.ad,I t.aL],I N] S λr S'=>∃ab,(r=I (eC N (zn t N))/\ab=R)/\Cx B0 W S' ab ro:=by
 refine Vx.fx H (b:=Tryz.a134) ?_
 (repeat' first|refine Zx.aA 234 ?_|constructor|exact ZQ|intro _)
 all_goals apply zL
 .exact⟨rfl,xg,_,⟨by rw[bY am];rfl,rfl⟩,HQ⟩
 .exact⟨rfl,xg,_,⟨by rw[bY am];rfl,rfl⟩,HQ⟩
 have no:¬zn t N->oneOf [I 2]=I (eC N (zn t N)):=λh=>by rw[bC am h];rfl
 refine Vx.spec (λB1 W1 S1 H=>ZY H) ?_;rintro _ _ ⟨rfl,rfl⟩;by_cases ha:PX t.eJ t.bo t.aH t.an t.aF t.fJ N;case neg=>
  rw[bC am ha]
  (repeat' first|constructor|exact ZQ|intro _)
  all_goals apply zL
  exact⟨rfl,xg,_,⟨no λh=>ha h.1,rfl⟩,HQ⟩
 rw[bG am ha]
 (repeat' first|refine Zx.aA 235 ?_|constructor|exact ZQ|intro _)
 all_goals apply zL
 refine Vx.spec (λB1 W1 S1 H=>ZG H) ?_;rintro _ _ ⟨rfl,rfl⟩;by_cases he:zk t.mR t.pins t.ad N;case neg=>
  rw[bC am he]
  (repeat' first|constructor|exact ZQ|intro _)
  all_goals apply zL
  exact⟨rfl,xg,_,⟨no λh=>he h.2.1,rfl⟩,HQ⟩
 rw[bG am he];have h1:=ha.1;have h2:=ha.2.2.1;have h3:=he;unfold sA at h1;unfold zk at h3
 (repeat' first|refine Zx.aA 236 ?_|constructor|exact ZQ|intro _)
 all_goals apply zL
 .exact⟨rfl,xg,_,⟨no λh=>by have:=h.2.2.1;omega,rfl⟩,HQ⟩
 .exact⟨rfl,xg,_,⟨no λh=>by have:=h.2.2.1;omega,rfl⟩,HQ⟩
 refine Vx.mkm λm=>?_;refine Zx.ok (n:=false) ?_
 (repeat' first|refine Zx.aA 236 ?_|constructor|exact ZQ|intro _)
 all_goals apply zL
 refine Vx.spec (λB1 W1 S1 H=>LD am am am am am am H) ?_;rintro v _ rfl;refine .z (.of (Vx.Bo ?_));refine Zx.ok (n:=false) ?_
 (repeat' first|refine Zx.av (v:=v) ?_|refine Zx.au (v:=v) ?_|constructor|exact ZQ|intro _)
 all_goals apply zL
 refine Vx.FL (List.Mem.head _) ?_;rw[cO,zq];rename_i p1 _ _ _ _;have hl:=zq (top:=t.eJ) (links:=t.bo) (size:=t.aH) (an:=t.an) (aF:=t.aF) (bh:=t.mR) (pins:=t.pins) (ad:=t.ad) (aL:=t.aL);have hL:MD t.eJ t.bo t.aH t.an t.aF t.mR t.pins t.ad t.aL=D_ t:=rfl;rw[<-hl];have P2:¬(D_ t).Nodup->oneOf [I 2]=I (eC N (zn t N)):=λh=>no λg=>h g.2.2.2;have yes:(D_ t).Nodup->oneOf [I 0]=I (eC N (zn t N)):=λh=>by rw[bG am ⟨ha,he,am,h⟩];rfl
 rw[hL] at hl⊢;generalize D_ t=L at*
 have mv:aI.sl v 1 (ints L)∈(.sl v 1 (ints L)::ro):=List.Mem.head _
 (repeat' first|constructor|exact ZQ|intro _)
 all_goals apply zL
 refine Vx.inv (α:=Nat×List (Int×AV)) (P:=λz k=>k+z.1=L.length/\(L.take z.1).Nodup/\∀a,ni z.2 a=if a∈L.take z.1 then some (.agg []) else none) (λz=>[I (z.1:Int),I 0])
  (λz=>.obj m (.map (iB z.2))::R) ?_ (a0:=(0,[])) (n0:=L.length) ⟨rfl,ac,λa=>by simp[ni]⟩|>λh=>Vx.bQ HQ h
 rintro⟨i,mm⟩ k ⟨hk,BV,Z0⟩ ih;dsimp only at hk BV Z0 ih⊢;refine Zx.ok (n:=false) ?_
 (repeat' first|refine Zx.av (v:=v) ?_|refine Zx.au (v:=v) ?_|constructor|exact ZQ|intro _)
 all_goals apply zL
 .next de=>
  have Gq:i<L.length:=am;obtain⟨a,JF⟩:∃a,L[i]?=some a:=⟨_,List.getElem?_eq_getElem Gq⟩;have Fw:L.take (i+1)=L.take i++[a]:=wu JF;refine Zx.ok (n:=false) (Zx.QI mv am (by rw[Int.toNat_natCast];exact uq JF) ?_)
  (repeat' first|constructor|exact ZQ|intro _)
  all_goals apply zL
  refine Vx.lk2 ktI ?_;rw[Z0 a];by_cases hx:a∈L.take i
  .rw[if_pos hx]
   (repeat' first|constructor|exact ZQ|intro _)
   all_goals apply zL
   exact⟨rfl,Jd,_,⟨P2 λg=>(kl.1 (Fw▸(g.sublist (List.take_sublist (i+1) L)))).2 hx,rfl⟩,HQ⟩
  .rw[if_neg hx]
   (repeat' first|constructor|exact ZQ|intro _)
   all_goals apply zL
   refine Vx.bQ (own:=.obj m (.map (iB mm))::R) HQ (Vx.mst ktI ?_)
   (repeat' first|constructor|exact ZQ|intro _)
   all_goals apply zL
   refine ih (i+1,tA mm a (.agg [])) (k-1) am ⟨by dsimp only;omega,by dsimp only;rw[Fw];exact kl.2 ⟨BV,hx⟩,λb=>?_⟩;dsimp only;rw[EK,Z0 b,Fw];by_cases e:a=b
   .subst e;rw[if_pos rfl,if_pos ac]
   .rw[if_neg e];have:(b∈L.take i++[a])↔b∈L.take i:=by rw[List.mem_append,List.mem_singleton];exact⟨λh=>h.resolve_right λg=>e g.symm,.inl⟩
    simp only[this]
 .next de=>rw[List.take_of_length_le am] at BV;exact⟨rfl,Jd,_,⟨yes BV,rfl⟩,HQ⟩
end
end Go.cG
