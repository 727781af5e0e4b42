/- Contracts. Conditions: in each theorem. -/
import Derived.Test.YtdfgboafnklioaaGreatM84
import Derived.Test.YtdfgboafnklioaaGreatM83
set_option linter.all false
set_option maxRecDepth 100000
set_option maxHeartbeats 4000000
noncomputable section
namespace Go.cG
open Go.Proofs
instance ade:cK 168 where
section
variable{B0 S:AH}{W:List Nat}{R:List Own}{ro:List aI}{u:AV}{nd hd ht eJ bo aH an aF fJ mR pins ad aL dp fj tJ fk kz cZ cL dq aq cF gf d_ dU Ft seq:Int}
theorem Bq {a n r:Int}(hn:1<=n/\n<=64)(hr:1<=r/\r<=16)(H:Cx B0 W S R ro):aN EM (zF 148) [.agg [I a,I n,I r]] S λu S'=>∃ab,(u=I (n*(r+2))/\ab=R)/\Cx B0 W S' ab ro:=by
 have TI:0<=n*(r+2)/\n*(r+2)<=1152:=⟨Int.mul_nonneg am am,by have:=Int.mul_le_mul (show n<=64 by omega) (show r+2<=18 by omega) am am;omega⟩;refine Vx.fm H rfl (b:=Tryz.a148) ?_
 (repeat' first|constructor|exact ZQ|intro _)
 all_goals apply zL
 all_goals first|(exfalso;omega)|exact⟨rfl,rfl,_,⟨rfl,rfl⟩,HQ⟩
theorem CQ (ZK:odd u=false/\u.cells=[u]/\AV.beq u u=true)(RQ:1<=aH/\aH<=128)(zw:0<=bo/\bo<=4096)(hco:0<=ad/\ad<=64)(hpi:0<=pins/\pins<=4096)(fE:1<=ht/\ht<=4)(Qc:0<=fj/\fj<=4096)(hjs:1<=cL/\cL<=64)(hmc:1<=aq/\aq<=64)(hmr:1<=cF/\cF<=16)
  (q0:0<=nd/\nd<4096) (q1:0<=hd/\hd<4096) (q2:0<=dp/\dp<4096) (q3:0<=tJ/\tJ<4096) (q4:0<=fk/\fk<4096) (q5:0<=cZ/\cZ<4096) (q6:0<=dq/\dq<4096) (q7:0<=gf/\gf<4096) (q8:0<=d_/\d_<4096) (q9:0<=Ft/\Ft<4096) (H:Cx B0 W S R ro):
  aN EM (zF 60) [.agg [I nd,I hd,I ht,I eJ,I bo,I aH,I an,I aF,I fJ,I mR,I pins,I ad,I aL,I dp,I fj,I tJ,I fk,I kz,I cZ,I cL,I dq,I aq,I cF,I gf,I d_,I dU,I Ft,I seq,u]] S λr S'=>∃ab,(ab=.sl r 1 (ints (((((((qe eJ bo aH an aF mR pins aL ad.toNat++[seq,kz])++gP (λk=>[nd+(k:Int)]) (aH*(4+ht)).toNat)++gP (λk=>[hd+(k:Int)]) ht.toNat)++gP (λk=>[dp+(k:Int)]) fj.toNat)++gP (λk=>[tJ+(k:Int),fk+(k:Int),cZ+(k:Int)]) cL.toNat)++gP (λk=>[dq+(k:Int)]) (aq*(cF+2)).toNat)++gP (λk=>[gf+(k:Int),d_+(k:Int),Ft+(k:Int)]) aq.toNat))::R)/\Cx B0 W S' ab ro:=by
 obtain⟨ov,cv,bv⟩:=ZK;have Rm:0<=aH*(4+ht)/\aH*(4+ht)<=1024:=⟨Int.mul_nonneg am am,by have:=Int.mul_le_mul (show aH<=128 by omega) (show 4+ht<=8 by omega) am am;omega⟩;have TI:0<=aq*(cF+2)/\aq*(cF+2)<=1152:=⟨Int.mul_nonneg am am,by have:=Int.mul_le_mul (show aq<=64 by omega) (show cF+2<=18 by omega) am am;omega⟩;refine Vx.fm H rfl (b:=Tryz.a60) ?_;repeat' first|refine Zx.aA 145 ?_|constructor|exact ZQ|intro _
 all_goals apply zL
 refine Vx.spec (λB1 W1 S1 H=>qg am zw hco hpi H) ?_;rintro v _ rfl;repeat' first|refine Zx.ck ?_|constructor|exact ZQ|intro _
 all_goals apply zL
 rename_i p1 p2 p3;have e2:(ints (qe eJ bo aH an aF mR pins aL ad.toNat)).length=2*aH.toNat+6+ad.toNat:=(cO _).trans (mT _);refine Vx.bQ (own:=.obj p3 (.row [I seq,I kz])::.sl v 1 (ints (qe eJ bo aH an aF mR pins aL ad.toNat))::.obj p2 (.row [I nd,I hd,I ht,I eJ,I bo,I aH,I an,I aF,I fJ,I mR,I pins,I ad,I aL])::.obj p1 (.row [I nd,I hd,I ht,I eJ,I bo,I aH,I an,I aF,I fJ,I mR,I pins,I ad,I aL,I dp,I fj,I tJ,I fk,I kz,I cZ,I cL,I dq,I aq,I cF,I gf,I d_,I dU,I Ft,I seq,u])::R) HQ ?_;refine Vx.CO rfl (by rw[e2];omega) (by rw[e2];omega) λv o1 o2 o3=>?_;rw[show ints (qe eJ bo aH an aF mR pins aL ad.toNat)++[I seq,I kz].map (λx=>[x])=ints (qe eJ bo aH an aF mR pins aL ad.toNat++[seq,kz]) from by unfold ints;rw[List.map_append];rfl];clear e2;obtain⟨C0,hC0⟩:∃C:Nat,aH*(4+ht)=C:=⟨(aH*(4+ht)).toNat,am⟩;obtain⟨C1,hC1⟩:∃C:Nat,ht=C:=⟨(ht).toNat,am⟩;obtain⟨C2,hC2⟩:∃C:Nat,fj=C:=⟨(fj).toNat,am⟩;obtain⟨C3,hC3⟩:∃C:Nat,cL=C:=⟨(cL).toNat,am⟩;obtain⟨C4,ZN⟩:∃C:Nat,aq*(cF+2)=C:=⟨(aq*(cF+2)).toNat,am⟩;obtain⟨C5,hC5⟩:∃C:Nat,aq=C:=⟨(aq).toNat,am⟩;rw[hC0,ZN,show ht.toNat=C1 by omega,show fj.toNat=C2 by omega,show cL.toNat=C3 by omega,show aq.toNat=C5 by omega,Int.toNat_natCast,Int.toNat_natCast];have QJ:(qe eJ bo aH an aF mR pins aL ad.toNat++[seq,kz]).length<=20000:=by rw[List.length_append,mT];simp only[List.length_cons,List.length_nil];omega
 generalize qe eJ bo aH an aF mR pins aL ad.toNat++[seq,kz]=L at QJ
 (repeat' first|constructor|exact ZQ|intro _)
 all_goals apply zL
 refine Vx.JB (f:=λk=>[nd+(k:Int)]) (N:=C0) (w:=1) (λ_=>rfl) am (λi v hi a h=>?_) λv=>?_
 .refine Zx.ok (n:=false) ?_;repeat' first|refine Zx.av (v:=u) ?_|refine Zx.ck ?_|constructor|exact ZQ|intro _
  all_goals apply zL
  exact a _ _ _ λv' o1 o2 o3=>by
   have h2:=h v'
   (repeat' first|constructor|exact ZQ|intro _)
 have el:=ez (w:=1) (f:=λk=>[nd+(k:Int)]) (λ_=>rfl) C0;replace QJ:(L++gP (λk=>[nd+(k:Int)]) C0).length<=25000:=by rw[List.length_append,el];omega
 generalize L++gP (λk=>[nd+(k:Int)]) C0=L at*
 refine Zx.ok (n:=false) ?_;repeat' first|refine Zx.av (v:=u) ?_|refine Zx.ck ?_|constructor|exact ZQ|intro _
 all_goals apply zL
 refine Vx.JB (f:=λk=>[hd+(k:Int)]) (N:=C1) (w:=1) (λ_=>rfl) am (λi v hi a h=>?_) λv=>?_
 .refine Zx.ok (n:=false) ?_;repeat' first|refine Zx.av (v:=u) ?_|refine Zx.ck ?_|constructor|exact ZQ|intro _
  all_goals apply zL
  exact a _ _ _ λv' o1 o2 o3=>by
   have h2:=h v'
   (repeat' first|constructor|exact ZQ|intro _)
 have el:=ez (w:=1) (f:=λk=>[hd+(k:Int)]) (λ_=>rfl) C1;replace QJ:(L++gP (λk=>[hd+(k:Int)]) C1).length<=30000:=by rw[List.length_append,el];omega
 generalize L++gP (λk=>[hd+(k:Int)]) C1=L at*
 refine Zx.ok (n:=false) ?_;repeat' first|refine Zx.av (v:=u) ?_|refine Zx.ck ?_|constructor|exact ZQ|intro _
 all_goals apply zL
 refine Vx.JB (f:=λk=>[dp+(k:Int)]) (N:=C2) (w:=1) (λ_=>rfl) am (λi v hi a h=>?_) λv=>?_
 .refine Zx.ok (n:=false) ?_;repeat' first|refine Zx.av (v:=u) ?_|refine Zx.ck ?_|constructor|exact ZQ|intro _
  all_goals apply zL
  exact a _ _ _ λv' o1 o2 o3=>by
   have h2:=h v'
   (repeat' first|constructor|exact ZQ|intro _)
 have el:=ez (w:=1) (f:=λk=>[dp+(k:Int)]) (λ_=>rfl) C2;replace QJ:(L++gP (λk=>[dp+(k:Int)]) C2).length<=35000:=by rw[List.length_append,el];omega
 generalize L++gP (λk=>[dp+(k:Int)]) C2=L at*
 refine Zx.ok (n:=false) ?_;repeat' first|refine Zx.av (v:=u) ?_|refine Zx.ck ?_|constructor|exact ZQ|intro _
 all_goals apply zL
 refine Vx.JB (f:=λk=>[tJ+(k:Int),fk+(k:Int),cZ+(k:Int)]) (N:=C3) (w:=3) (λ_=>rfl) am (λi v hi a h=>?_) λv=>?_
 .refine Zx.ok (n:=false) ?_;repeat' first|refine Zx.av (v:=u) ?_|refine Zx.ck ?_|constructor|exact ZQ|intro _
  all_goals apply zL
  exact a _ _ _ λv' o1 o2 o3=>by
   have h2:=h v'
   (repeat' first|constructor|exact ZQ|intro _)
 have el:=ez (w:=3) (f:=λk=>[tJ+(k:Int),fk+(k:Int),cZ+(k:Int)]) (λ_=>rfl) C3;replace QJ:(L++gP (λk=>[tJ+(k:Int),fk+(k:Int),cZ+(k:Int)]) C3).length<=50000:=by rw[List.length_append,el];omega
 generalize L++gP (λk=>[tJ+(k:Int),fk+(k:Int),cZ+(k:Int)]) C3=L at*
 refine Zx.ok (n:=false) ?_;repeat' first|refine Zx.av (v:=u) ?_|refine Zx.ck ?_|constructor|exact ZQ|intro _
 all_goals apply zL
 refine Vx.JB (f:=λk=>[dq+(k:Int)]) (N:=C4) (w:=1) (λ_=>rfl) am (λi v hi a h=>?_) λv=>?_
 .refine Zx.ok (n:=false) ?_;repeat' first|refine Zx.av (v:=u) ?_|refine Zx.ck ?_|constructor|exact ZQ|intro _
  all_goals apply zL
  refine Vx.spec (λB1 W1 S1 H=>Bq hmc hmr H) ?_;rintro _ _ ⟨rfl,rfl⟩;rw[ZN];repeat' first|refine Zx.av (v:=u) ?_|refine Zx.ck ?_|constructor|exact ZQ|intro _
  all_goals apply zL
  exact a _ _ _ λv' o1 o2 o3=>by
   have h2:=h v'
   (repeat' first|constructor|exact ZQ|intro _)
 have el:=ez (w:=1) (f:=λk=>[dq+(k:Int)]) (λ_=>rfl) C4;replace QJ:(L++gP (λk=>[dq+(k:Int)]) C4).length<=55000:=by rw[List.length_append,el];omega
 generalize L++gP (λk=>[dq+(k:Int)]) C4=L at*
 refine Zx.ok (n:=false) ?_;repeat' first|refine Zx.av (v:=u) ?_|refine Zx.ck ?_|constructor|exact ZQ|intro _
 all_goals apply zL
 refine Vx.spec (λB1 W1 S1 H=>Bq hmc hmr H) ?_;rintro _ _ ⟨rfl,rfl⟩;rw[ZN];repeat' first|refine Zx.av (v:=u) ?_|refine Zx.ck ?_|constructor|exact ZQ|intro _
 all_goals apply zL
 refine Vx.JB (f:=λk=>[gf+(k:Int),d_+(k:Int),Ft+(k:Int)]) (N:=C5) (w:=3) (λ_=>rfl) am (λi v hi a h=>?_) λv=>?_
 .refine Zx.ok (n:=false) ?_;repeat' first|refine Zx.av (v:=u) ?_|refine Zx.ck ?_|constructor|exact ZQ|intro _
  all_goals apply zL
  exact a _ _ _ λv' o1 o2 o3=>by
   have h2:=h v'
   (repeat' first|constructor|exact ZQ|intro _)
 refine Zx.ok (n:=false) ?_
 (repeat' first|constructor|exact ZQ|intro _)
 all_goals apply zL
 exact⟨rfl,rfl,_,rfl,HQ⟩
end
def MA (e:X.Ex):List Int:=((((((qe e.t.eJ e.t.bo e.t.aH e.t.an e.t.aF e.t.mR e.t.pins e.t.aL e.t.ad.toNat++[e.seq,e.kz])++gP (λk=>[e.t.nd+(k:Int)]) (e.t.aH*(4+e.t.ht)).toNat)++gP (λk=>[e.t.hd+(k:Int)]) e.t.ht.toNat)++gP (λk=>[e.dp+(k:Int)]) e.fj.toNat)++gP (λk=>[e.tJ+(k:Int),e.fk+(k:Int),e.cZ+(k:Int)]) e.cL.toNat)++gP (λk=>[e.dq+(k:Int)]) (e.aq*(e.cF+2)).toNat)++gP (λk=>[e.gf+(k:Int),e.d_+(k:Int),e.own+(k:Int)]) e.aq.toNat
def I_ (e:X.Ex)(l:List dA.Tk)(N:Int):Prop:=e.ok l/\Lx e.t N/\apart (MA e) N
instance adf {e:X.Ex}{l:List dA.Tk}{N:Int}:Decidable (I_ e l N):=by unfold I_;infer_instance
theorem Br {l:List dA.Tk}(h:dA.oZ l=0):l.length<=32:=by
 unfold dA.oZ at h;split at h;.cases h
 .omega
theorem Ja {e:X.Ex}{l:List dA.Tk}{N:Int}(hN:N<=4096)(hk:e.ok l)(ht:Lx e.t N):(1<=e.t.aH/\e.t.aH<=128)/\(0<=e.t.bo/\e.t.bo<=4096)/\(0<=e.t.ad/\e.t.ad<=64)/\(0<=e.t.pins/\e.t.pins<=4096)/\(1<=e.t.ht/\e.t.ht<=4)/\(0<=e.fj/\e.fj<=4096)/\(1<=e.cL/\e.cL<=64)/\(1<=e.aq/\e.aq<=64)/\(1<=e.cF/\e.cF<=16)/\
  (0<=e.t.nd/\e.t.nd<4096)/\(0<=e.t.hd/\e.t.hd<4096)/\(0<=e.dp/\e.dp<4096)/\(0<=e.tJ/\e.tJ<4096)/\(0<=e.fk/\e.fk<4096)/\(0<=e.cZ/\e.cZ<4096)/\(0<=e.dq/\e.dq<4096)/\(0<=e.gf/\e.gf<4096)/\(0<=e.d_/\e.d_<4096)/\0<=e.own/\e.own<4096:=by
 have h32:=Br hk.2.1;obtain⟨⟨a1,a2,a3,a4,a5,a6,a7,a8⟩,_,b1,b2,b3,b4,b5,b6,b7,b8,b9,UI,c1,c2,c3,c4,c5,c6,c7,c8,c9,dS⟩:=hk;have h2:=ht.2.1.1.1;have h3:=ht.2.1.2.1;unfold sA at h2;unfold zk at h3;exact⟨am,am,am,am,am,am,am,am,am,am,am,c1,c2,c3,c5,c6,c7,c8,c9⟩
theorem LA {e:X.Ex}{l:List dA.Tk}{N:Int}(hN:N<=4096)(hk:e.ok l)(ht:Lx e.t N):(MA e).length<=100000:=by obtain⟨h1,h2,h3,h4,h5,h6,h7,h8,h9,_⟩:=Ja hN hk ht;have Rm:0<=e.t.aH*(4+e.t.ht)/\e.t.aH*(4+e.t.ht)<=1024:=⟨Int.mul_nonneg am am,by have:=Int.mul_le_mul (show e.t.aH<=128 by omega) (show 4+e.t.ht<=8 by omega) am am;omega⟩;have TI:0<=e.aq*(e.cF+2)/\e.aq*(e.cF+2)<=1152:=⟨Int.mul_nonneg am am,by have:=Int.mul_le_mul (show e.aq<=64 by omega) (show e.cF+2<=18 by omega) am am;omega⟩;unfold MA;simp only[List.length_append,mT,List.length_cons,List.length_nil];rw[ez (w:=1) (f:=λk=>[e.t.nd+(k:Int)]) (λ_=>rfl),ez (w:=1) (f:=λk=>[e.t.hd+(k:Int)]) (λ_=>rfl),ez (w:=1) (f:=λk=>[e.dp+(k:Int)]) (λ_=>rfl),ez (w:=3) (f:=λk=>[e.tJ+(k:Int),e.fk+(k:Int),e.cZ+(k:Int)]) (λ_=>rfl),ez (w:=1) (f:=λk=>[e.dq+(k:Int)]) (λ_=>rfl),ez (w:=3) (f:=λk=>[e.gf+(k:Int),e.d_+(k:Int),e.own+(k:Int)]) (λ_=>rfl)];omega
section
variable{B0 S:AH}{W:List Nat}{R:List Own}{ro:List aI}{N:Int}{v:AV}{e:X.Ex}{l:List dA.Tk}
theorem UJ (hv:aI.sl v 4 (dA.gK l)∈ro)(H:Cx B0 W S R ro):aN EM (zF 8) [.agg (e.cs v),I N] S λr S'=>∃ab,(r=I (eC N (I_ e l N))/\ab=R)/\Cx B0 W S' ab ro:=by
 obtain⟨ov,cv,bv⟩:=eI (H.ku hv).1;unfold X.Ex.cs;refine Vx.fm H rfl (b:=Tryz.a8) ?_
 (repeat' first|refine Zx.aA 10 ?_|constructor|exact ZQ|intro _)
 all_goals apply zL
 .exact⟨rfl,rfl,_,⟨by rw[bY am];rfl,rfl⟩,HQ⟩
 .exact⟨rfl,rfl,_,⟨by rw[bY am];rfl,rfl⟩,HQ⟩
 .have no:¬I_ e l N->oneOf [I 2]=I (eC N (I_ e l N)):=λh=>by rw[bC am h];rfl
  refine Vx.spec (Ψ:=λu ab=>u=B (decide (e.ok l))/\ab=_) (λB1 W1 S1 H=>az (X.fS (e:=e) hv H) λr S' h=>⟨_,⟨h.1,rfl⟩,H.grow h.2⟩) ?_;rintro _ _ ⟨rfl,rfl⟩;by_cases hk:e.ok l
  .rw[decide_eq_true hk]
   (repeat' first|refine Zx.aA 58 ?_|constructor|exact ZQ|intro _)
   all_goals apply zL
   refine Vx.spec (λB1 W1 S1 H=>ZJ (t:=e.t) H) ?_;rintro _ _ ⟨rfl,rfl⟩;by_cases ht:Lx e.t N
   .rw[bG am ht]
    (repeat' first|refine Zx.aA 60 ?_|constructor|exact ZQ|intro _)
    all_goals apply zL
    obtain⟨h1,h2,h3,h4,h5,h6,h7,h8,h9,q0,q1,q2,q3,q4,q5,q6,q7,q8,q9⟩:=Ja (N:=N) am hk ht;refine Vx.spec (λB1 W1 S1 H=>CQ ⟨ov,cv,bv⟩ h1 h2 h3 h4 h5 h6 h7 h8 h9 q0 q1 q2 q3 q4 q5 q6 q7 q8 q9 H) ?_;rintro u _ rfl
    (repeat' first|refine Zx.aA 59 ?_|constructor|exact ZQ|intro _)
    all_goals apply zL
    refine Vx.Bo ?_;refine Vx.spec (λB1 W1 S1 H=>rL (l:=MA e) (LA (N:=N) am hk ht) (List.Mem.head _) H) ?_;rintro _ _ ⟨rfl,rfl⟩;refine .z (.of (Vx.tl (Zx.ok (n:=false) ?_)));by_cases hp:apart (MA e) N
    .rw[decide_eq_true hp]
     (repeat' first|constructor|exact ZQ|intro _)
     all_goals apply zL
     exact⟨rfl,rfl,_,⟨by rw[bG am ⟨hk,ht,hp⟩];rfl,rfl⟩,HQ⟩
    .rw[decide_eq_false hp]
     (repeat' first|constructor|exact ZQ|intro _)
     all_goals apply zL
     exact⟨rfl,rfl,_,⟨no λh=>hp h.2.2,rfl⟩,HQ⟩
   .rw[bC am ht]
    (repeat' first|constructor|exact ZQ|intro _)
    all_goals apply zL
    exact⟨rfl,rfl,_,⟨no λh=>ht h.2.1,rfl⟩,HQ⟩
  .rw[decide_eq_false hk]
   (repeat' first|constructor|exact ZQ|intro _)
   all_goals apply zL
   exact⟨rfl,rfl,_,⟨no λh=>hk h.1,rfl⟩,HQ⟩
end
section
variable{B0 S:AH}{W:List Nat}{R:List Own}{ro:List aI}{N:Int}
def MB (f n N:Int):Prop:=(1<=n/\n<=32)/\0<=f/\f+n<=N
instance adg {f n N:Int}:Decidable (MB f n N):=by unfold MB;infer_instance
theorem ZO {f n:Int}(H:Cx B0 W S R ro):aN EM (zF 53) [.agg [I f,I n],I N] S λr S'=>∃ab,(r=I (eC N (MB f n N))/\ab=R)/\Cx B0 W S' ab ro:=by
 refine Vx.fm H rfl (b:=Tryz.a53) ?_
 (repeat' first|constructor|exact ZQ|intro _)
 all_goals apply zL
 all_goals exact⟨rfl,rfl,_,⟨by first|(rw[bY am];rfl;done)|(rw[bG am (by unfold MB;omega)];rfl;done)|(rw[bC am (by unfold MB;omega)];rfl;done),rfl⟩,HQ⟩
def Bs (f n r N:Int):Prop:=(1<=n/\n<=64)/\(1<=r/\r<=16)/\0<=f/\f+n*(r+2)<=N
instance adh {f n r N:Int}:Decidable (Bs f n r N):=by unfold Bs;infer_instance
def PR (a b n N:Int):Prop:=(1<=n/\n<=64)/\(0<=a/\a+n<=N)/\(0<=b/\b+n<=N)/\(a+n<=b\/b+n<=a)
instance adi {a b n N:Int}:Decidable (PR a b n N):=by unfold PR;infer_instance
theorem Zx.max2 {M:cP}{own:List Own}{ro:List aI}{Φ:gz}{K:List Kf}{a b:Int}{k:AV->AC}(h:Zx M false (k (I (max a b))) K own ro Φ):Zx M false (.op (.nt true [I a,I b]) k) K own ro Φ:=.z (.of λB W S H=>X.K0 (h.ok B W S H))
theorem ZP {a b n:Int}(H:Cx B0 W S R ro):aN EM (zF 56) [.agg [I a,I b,I n],I N] S λr S'=>∃ab,(r=I (eC N (PR a b n N))/\ab=R)/\Cx B0 W S' ab ro:=by
 refine Vx.fm H rfl (b:=Tryz.a56) ?_;repeat' first|refine Zx.max2 ?_|constructor|exact ZQ|intro _
 all_goals apply zL
 all_goals exact⟨rfl,rfl,_,⟨by first|(rw[bY am];rfl;done)|(rw[bG am (by unfold PR;omega)];rfl;done)|(rw[bC am (by unfold PR;omega)];rfl;done),rfl⟩,HQ⟩
theorem Jc {a n r:Int}(hn:1<=n/\n<=64)(hr:1<=r/\r<=16)(H:Cx B0 W S R ro):aN EM (zF 142) [.agg [I a,I n,I r]] S λu S'=>∃ab,(u=I (n*(r+2))/\ab=R)/\Cx B0 W S' ab ro:=by
 have TI:0<=n*(r+2)/\n*(r+2)<=1152:=⟨Int.mul_nonneg am am,by have:=Int.mul_le_mul (show n<=64 by omega) (show r+2<=18 by omega) am am;omega⟩;refine Vx.fm H rfl (b:=Tryz.a142) ?_
 (repeat' first|constructor|exact ZQ|intro _)
 all_goals apply zL
 all_goals first|(exfalso;omega)|exact⟨rfl,rfl,_,⟨rfl,rfl⟩,HQ⟩
theorem ZR {f n r:Int}(H:Cx B0 W S R ro):aN EM (zF 55) [.agg [I f,I n,I r],I N] S λu S'=>∃ab,(u=I (eC N (Bs f n r N))/\ab=R)/\Cx B0 W S' ab ro:=by
 by_cases hk:(1<=n/\n<=64)/\(1<=r/\r<=16)
 .have TI:0<=n*(r+2)/\n*(r+2)<=1152:=⟨Int.mul_nonneg am am,by have:=Int.mul_le_mul (show n<=64 by omega) (show r+2<=18 by omega) am am;omega⟩;have hb5:1*3<=n*(r+2):=Int.mul_le_mul am am am am;refine Vx.fm H rfl (b:=Tryz.a55) ?_
  (repeat' first|refine Zx.aA 142 ?_|constructor|exact ZQ|intro _)
  all_goals apply zL
  .exact⟨rfl,rfl,_,⟨by first|(rw[bY am];rfl;done)|(rw[bG am (by unfold Bs;omega)];rfl;done)|(rw[bC am (by unfold Bs;omega)];rfl;done),rfl⟩,HQ⟩
  .exact⟨rfl,rfl,_,⟨by first|(rw[bY am];rfl;done)|(rw[bG am (by unfold Bs;omega)];rfl;done)|(rw[bC am (by unfold Bs;omega)];rfl;done),rfl⟩,HQ⟩
  .refine Vx.spec (λB1 W1 S1 H=>Jc hk.1 hk.2 H) ?_;rintro _ _ ⟨rfl,rfl⟩
   (repeat' first|constructor|exact ZQ|intro _)
   all_goals apply zL
   all_goals exact⟨rfl,rfl,_,⟨by first|(rw[bY am];rfl;done)|(rw[bG am (by unfold Bs;omega)];rfl;done)|(rw[bC am (by unfold Bs;omega)];rfl;done),rfl⟩,HQ⟩
  .exact⟨rfl,rfl,_,⟨by first|(rw[bY am];rfl;done)|(rw[bG am (by unfold Bs;omega)];rfl;done)|(rw[bC am (by unfold Bs;omega)];rfl;done),rfl⟩,HQ⟩
  .exact⟨rfl,rfl,_,⟨by first|(rw[bY am];rfl;done)|(rw[bG am (by unfold Bs;omega)];rfl;done)|(rw[bC am (by unfold Bs;omega)];rfl;done),rfl⟩,HQ⟩
 .refine Vx.fm H rfl (b:=Tryz.a55) ?_
  (repeat' first|constructor|exact ZQ|intro _)
  all_goals apply zL
  all_goals exact⟨rfl,rfl,_,⟨by first|(rw[bY am];rfl;done)|(rw[bG am (by unfold Bs;omega)];rfl;done)|(rw[bC am (by unfold Bs;omega)];rfl;done),rfl⟩,HQ⟩
end
def wq (N:Nat)(s:List Int):List (List AV):=(List.range N).map λi:Nat=>[B (decide ((i:Int)∈s))]
theorem ur {N:Nat}{s:List Int}:(wq N s).length=N:=by unfold wq;rw[List.length_map,List.length_range]
theorem wt {N:Nat}{s:List Int}{a:Int}(h0:0<=a)(h1:a<N):(wq N s)[a.toNat]?=some [B (decide (a∈s))]:=by unfold wq;rw[List.getElem?_map,List.getElem?_range am];simp only[Option.map_some];rw[show((a.toNat:Nat):Int)=a by omega]
theorem LB {N:Nat}{s:List Int}{a:Int}(h0:0<=a)(h1:a<N):(wq N s).set a.toNat [B true]=wq N (s++[a]):=by
 apply List.ext_getElem?;intro i;by_cases hi:i<N
 .by_cases e:a.toNat=i
  .subst e;rw[List.getElem?_set_self (by rw[ur];omega),wt h0 h1,decide_eq_true (show a∈s++[a] by simp)]
  .rw[List.getElem?_set_ne e];have h2:=wt (N:=N) (s:=s) (a:=(i:Int)) am am;have h3:=wt (N:=N) (s:=s++[a]) (a:=(i:Int)) am am;rw[Int.toNat_natCast] at h2 h3;rw[h2,h3];have e2:(i:Int)≠a:=λg=>e am;congr 3;exact decide_eq_decide.2 ⟨λg=>List.mem_append_left _ g,λg=>(List.mem_append.1 g).resolve_right λh=>e2 (List.mem_singleton.1 h)⟩
 .rw[List.getElem?_eq_none (by rw[List.length_set,ur];omega),List.getElem?_eq_none (by rw[ur];omega)]
theorem LC {N:Nat}:List.replicate N [B false]=wq N []:=by
 apply List.ext_getElem?;intro i;unfold wq;rw[List.getElem?_replicate,List.getElem?_map];split
 .rw[List.getElem?_range am];simp
 .rw[List.getElem?_eq_none (by rw[List.length_range];omega)];rfl
theorem sC {a b:List Int}{N:Int}(h:a.Sublist b)(hb:apart b N):apart a N:=⟨λx hx=>hb.1 x (h.subset hx),hb.2.sublist h⟩
theorem kl {s:List Int}{a:Int}:(s++[a]).Nodup↔s.Nodup/\a∉s:=by
 rw[List.nodup_append];constructor
 .rintro⟨h1,_,h2⟩;exact⟨h1,λh=>h2 a h a ac rfl⟩
 .rintro⟨h1,h2⟩;exact⟨h1,ac,λx hx y hy e=>by rw[List.mem_singleton] at hy;subst hy e;exact h2 hx⟩
theorem iH {s:List Int}{a N:Int}:apart (s++[a]) N↔apart s N/\a∉s/\0<=a/\a<N:=by
 unfold apart;rw[kl];constructor
 .rintro⟨h1,h2,h3⟩;exact⟨⟨λx hx=>h1 x (List.mem_append_left _ hx),h2⟩,h3,h1 a ac⟩
 .rintro⟨⟨h1,h2⟩,h3,h4⟩;refine⟨λx hx=>?_,h2,h3⟩
  .rcases List.mem_append.1 hx with h|h;.exact h1 x h
   .rw[List.mem_singleton] at h;subst h;exact h4
theorem x5 {N:Int}:apart [] N:=⟨λ_ h=>(by cases h),List.nodup_nil⟩
theorem CR {a:Int}{j n:Nat}(h:j<=n):(rg a j).Sublist (rg a n):=by
 induction n with
 |zero=>rw[show j=0 by omega];exact List.Sublist.refl _
 |succ n ih=>
  by_cases e:j=n+1;.rw[e];exact List.Sublist.refl _
  .exact(ih am).trans (List.sublist_append_left _ _)
theorem wu {l:List Int}{i:Nat}{a:Int}(h:l[i]?=some a):l.take (i+1)=l.take i++[a]:=by rw[List.take_add_one,h];rfl
section
variable{M:cP}{own R:List Own}{ro:List aI}{Φ:gz}{K:List Kf}{t:AV}{N:Nat}{s:List Int}{a:Int}
def ZS (X5:List aI)(Ψ:AV->List Own->Prop):gz:=λt vs own ro=>t=.ret/\(∃ex,ro=ex++X5)/\∃tgt,Ψ (oneOf vs) tgt/\Hs own tgt
theorem xg {l:List aI}:∃ex,l=ex++l:=⟨[],rfl⟩
theorem Jd {a:aI}{l:List aI}:∃ex,a::l=ex++l:=⟨[a],rfl⟩
theorem ex2 {a b:aI}{l:List aI}:∃ex,a::b::l=ex++l:=⟨[a,b],rfl⟩
theorem Cx.tls {B S:AH}{W:List Nat}{own:List Own}{ro:List aI}:∀{ex:List aI},Cx B W S own (ex++ro)->Cx B W S own ro
 |[],H=>H
 |_::ex,H=>Cx.tls (ex:=ex) H.tl
theorem Vx.fx {B0 S:AH}{W:List Nat}{f:Nat}{fa args fc:List AV}{b:List AV->AC}{Ψ:AV->List Own->Prop}(H:Cx B0 W S own ro)(h:Zx M false (b (fa++(args++fc))) [] own ro (ZS ro Ψ))(hk:M.kn.v f (fa++(args++fc))=none:=by exact rfl)(hb:M.iT f=some b:=by exact rfl):aN M (.fn (.func f) fa fc) args S λr S'=>∃ab,Ψ r ab/\Cx B0 W S' ab ro:=
 br hk hb (wp_mono (h.ok B0 W S H) λt vs S' ⟨ab,RG,⟨ht,⟨ex,hr⟩,tgt,h1,h2⟩,h3⟩=>⟨ht,tgt,h1,by subst hr;exact h2.cx h3.tls⟩)
theorem Zx.tkR {k:AV->AC}(hm:Own.sl t 1 (wq N s)∈own)(h0:0<=a)(h1:a<N)(h:Zx M false (k (B (decide (a∈s)))) K own ro Φ):Zx M false (.op (.cC 1 t (I a)) λp=>.op (.load 1 false p) k) K own ro Φ:=Zx.sl1 hm h0 (wt h0 h1) h
theorem Zx.UK {k:AV->AC}(hm:Own.sl t 1 (wq N s)∈own)(h0:0<=a)(h1:a<N)(h:Zx M false (k (B (decide (a∈s)))) K own ro Φ):Zx M false (.op (.cC 1 t (I a)) λp=>.qh (B false) false (.load 1 false p) k) K own ro Φ:=.z (.of λB W S H=>by
 obtain⟨j,hj⟩:=List.getElem?_of_mem hm;obtain⟨n,rfl⟩:∃n:Nat,a=n:=⟨a.toNat,am⟩;exact fW H j hj (by simpa using wt h0 h1) λid off hp=>cN (nV (j:=0) hp rfl (h.ok B W S H)))
theorem Zx.Wb {k:AV->AC}(h0:0<=a)(h1:a<N)(h:Zx M false (k uv) K (.sl t 1 (wq N (s++[a]))::R) ro Φ):Zx M false (.op (.cC 1 t (I a)) λp=>.op (.store 1 p (B true)) k) K (.sl t 1 (wq N s)::R) ro Φ:=Zx.sls h0 (by rw[ur];omega) rfl rfl (by rw[show(B true).cells=[B true] from rfl,LB h0 h1];exact h)
theorem Vx.ZT {k:AV->AC}{n:Int}(hn:0<=n/\n<=100000)(h:∀t,Vx M (k t) K (.sl t 1 (wq n.toNat [])::own) ro Φ):Vx M (.op (.gS 1 1 [B false] (I n) (I n)) k) K own ro Φ:=by
 obtain⟨m,rfl⟩:∃m:Nat,n=m:=⟨n.toNat,am⟩;exact Vx.Zy am am λt=>by rw[LC];exact h t
end
theorem Vx.UM {M:cP}{x:AC}{K:List Kf}{R:List Own}{ro:List aI}{Φ:gz}{p n es:Nat}{c:List AV}{L:List (List AV)}(hc:c=L.flatten)(hn:L.length=n)(zt:∀x∈L,x.length=es)(h:Vx M x K R (.sl (.sl p 0 n n) es L::ro) Φ):Vx M x K (.obj p (.row c)::R) ro Φ:=Vx.Lw hc hn zt (Vx.Bo h)
def D6 (l:List (Int×Int)):List (List AV):=l.map λp=>[I p.1,I p.2]
theorem CS {l:List (Int×Int)}{i:Nat}{a:Int×Int}(h:l[i]?=some a):(D6 l)[i]?=some [I a.1,I a.2]:=by unfold D6;rw[List.getElem?_map,h];rfl
theorem D7 {l:List (Int×Int)}:(D6 l).length=l.length:=List.length_map ..
theorem Je {l:List (Int×Int)}:∀x∈D6 l,x.length=2:=λx hx=>by unfold D6 at hx;obtain⟨a,_,rfl⟩:=List.mem_map.1 hx;rfl
theorem Jf {l:List (Int×Int)}{i:Nat}:(D6 l).take i=D6 (l.take i):=by unfold D6;rw[List.map_take]
section
variable{B0 S:AH}{W:List Nat}{R:List Own}{ro:List aI}{N:Int}
def two (a n b m:Int):Prop:=a+n<=b\/b+m<=a
def JE (st ky top lk n N:Int):Prop:=sA top lk n N/\n<=64/\(0<=st/\st+n<=N)/\(0<=ky/\ky+n<=N)/\two st n top 1/\two st n lk n/\two ky n top 1/\two ky n lk n/\two ky n st n
instance adj {st ky top lk n N:Int}:Decidable (JE st ky top lk n N):=by unfold JE two;infer_instance
def Bx (st ky top lk n:Int):List (Int×Int):=[(top,1),(lk,n),(st,n),(ky,n)]
def UN (N:Int)(l:List (Int×Int))(k:Nat):Prop:=∀(i:Nat) (a:Int×Int),i<k->l[i]?=some a->(0<=a.1/\a.1+a.2<=N)/\∀b∈l.take i,two a.1 a.2 b.1 b.2
theorem MC {st ky top lk n:Int}(hs:sA top lk n N)(hn:n<=64):UN N (Bx st ky top lk n) 4↔JE st ky top lk n N:=by
 unfold sA at hs;constructor
 .intro h;have h2:=h 2 (st,n) am rfl;have h3:=h 3 (ky,n) am rfl;have a1:=h2.2 (top,1) (by simp[Bx]);have a2:=h2.2 (lk,n) (by simp[Bx]);have b1:=h3.2 (top,1) (by simp[Bx]);have b2:=h3.2 (lk,n) (by simp[Bx]);have b3:=h3.2 (st,n) (by simp[Bx]);exact⟨by unfold sA;omega,hn,h2.1,h3.1,a1,a2,b1,b2,b3⟩
 .rintro⟨_,_,h2,h3,a1,a2,b1,b2,b3⟩ i a hi ha;have:i=0\/i=1\/i=2\/i=3:=am;rcases this with rfl|rfl|rfl|rfl
  .cases ha;exact⟨by dsimp only;omega,λb hb=>by cases hb⟩
  .cases ha;refine⟨by dsimp only;omega,λb hb=>?_⟩;simp only[Bx,List.take_succ_cons,List.take_zero,List.mem_singleton] at hb;subst hb;unfold two;dsimp only;omega
  .cases ha;refine⟨h2,λb hb=>?_⟩;simp only[Bx,List.take_succ_cons,List.take_zero,List.mem_cons,List.not_mem_nil,or_false] at hb;rcases hb with rfl|rfl;.exact a1
   .exact a2
  .cases ha;refine⟨h3,λb hb=>?_⟩;simp only[Bx,List.take_succ_cons,List.take_zero,List.mem_cons,List.not_mem_nil,or_false] at hb;rcases hb with rfl|rfl|rfl;.exact b1
   .exact b2
   .exact b3
theorem PS {st ky top lk n:Int}{a:Int×Int}(hn:1<=n/\n<=64)(h:a∈Bx st ky top lk n):1<=a.2/\a.2<=64:=by
 simp only[Bx,List.mem_cons,List.not_mem_nil,or_false] at h;rcases h with rfl|rfl|rfl|rfl<;>(dsimp only;omega)
theorem ZU {st ky top lk n:Int}(H:Cx B0 W S R ro):aN EM (zF 54) [.agg [I st,I ky,I top,I lk,I n],I N] S λr S'=>∃ab,(r=I (eC N (JE st ky top lk n N))/\ab=R)/\Cx B0 W S' ab ro:=by
 refine Vx.fx H (b:=Tryz.a54) ?_
 (repeat' first|refine Zx.aA 139 ?_|constructor|exact ZQ|intro _)
 all_goals apply zL
 refine Vx.spec (λB1 W1 S1 H=>UH H) ?_;rintro _ _ ⟨rfl,rfl⟩;by_cases hr:N<1\/4096<N
 .rw[bY hr]
  (repeat' first|constructor|exact ZQ|intro _)
  all_goals apply zL
  exact⟨rfl,xg,_,⟨by rw[bY hr];rfl,rfl⟩,HQ⟩
 .by_cases hs:sA top lk n N
  .rw[bG hr hs];have uG:=hs;unfold sA at uG;by_cases hn:n<=64
   .have no:¬UN N (Bx st ky top lk n) 4->oneOf [I 2]=I (eC N (JE st ky top lk n N)):=λh=>by rw[bC hr λg=>h ((MC hs hn).2 g)];rfl
    (repeat' first|constructor|exact ZQ|intro _)
    all_goals apply zL
    rename_i p1 q1 _ _ p2;refine Vx.UM (n:=4) (es:=2) (L:=D6 (Bx st ky top lk n)) rfl rfl Je ?_;generalize AV.sl p2 0 4 4=vr;have C_:=λ{a}=>PS (st:=st) (ky:=ky) (top:=top) (lk:=lk) (n:=n) (a:=a) am;have hlen:(Bx st ky top lk n).length=4:=rfl;have yes:UN N (Bx st ky top lk n) 4->oneOf [I 0]=I (eC N (JE st ky top lk n N)):=λh=>by rw[bG hr ((MC hs hn).1 h)];rfl
    generalize Bx st ky top lk n=L at*
    have mv:aI.sl vr 2 (D6 L)∈(.sl vr 2 (D6 L)::ro):=List.Mem.head _;refine Vx.inv (α:=Nat×AV) (P:=λz k=>k+z.1=4/\UN N L z.1) (λz=>[I (z.1:Int),z.2,I 0]) (λ_=>.obj q1 (.row [I st,I ky,I top,I lk,I n])::.obj p1 (.row [I st,I ky,I top,I lk,I n])::R) ?_ (a0:=(0,.no)) (n0:=4) ⟨rfl,λi a hi=>absurd hi (by dsimp only;omega)⟩;rintro⟨i,u⟩ k ⟨hk,hj⟩ ih;dsimp only at hk hj ih⊢;refine Zx.ok (n:=false) ?_
    (repeat' first|refine Zx.av (v:=vr) ?_|refine Zx.au (v:=vr) ?_|constructor|exact ZQ|intro _)
    all_goals apply zL
    .next de=>
     replace de:(i:Int)<4:=de;have hi4:i<L.length:=am;obtain⟨⟨a0,a1⟩,ha⟩:∃a,L[i]?=some a:=⟨_,List.getElem?_eq_getElem hi4⟩;have Nw:=C_ (List.mem_of_getElem? ha);dsimp only at Nw;have bad:¬((0<=a0/\a0+a1<=N)/\∀b∈L.take i,two a0 a1 b.1 b.2)->oneOf [I 2]=I (eC N (JE st ky top lk n N)):=λh=>no λg=>h (g i _ am ha);have ZV:((0<=a0/\a0+a1<=N)/\∀b∈L.take i,two a0 a1 b.1 b.2)->UN N L (i+1):=λh j b wC hb=>by
      by_cases e:j=i
      .subst e;rw[ha] at hb;cases hb;exact h
      .exact hj j b am hb
     refine Zx.ok (n:=false) (Zx.Wa mv am (by rw[Int.toNat_natCast];exact CS ha) rfl ?_)
     (repeat' first|refine Zx.av (v:=vr) ?_|refine Zx.au (v:=vr) ?_|constructor|exact ZQ|intro _)
     all_goals apply zL
     .exact⟨rfl,Jd,_,⟨bad λg=>am,rfl⟩,HQ⟩
     .exact⟨rfl,Jd,_,⟨bad λg=>am,rfl⟩,HQ⟩
     show Vx EM (.op (.i_ 2 vr none (some (I (i:Int))) none) _) _ _ _ _;refine Vx.UA (i:=i) mv (by rw[D7];omega) λvc=>?_;rw[Jf];have ht:∀b∈L.take i,(0<=b.1/\b.1+b.2<=N)/\1<=b.2/\b.2<=64:=λb hb=>by
      obtain⟨j,wC⟩:=List.mem_iff_getElem?.1 hb;rw[List.getElem?_take] at wC;split at wC;.exact⟨(hj j b be wC).1,C_ (List.mem_of_getElem? wC)⟩
      .cases wC
     have PT:(L.take i).length=i:=by rw[List.length_take];omega
     generalize L.take i=T at*
     refine Zx.ok (n:=false) ?_
     (repeat' first|refine Zx.av (v:=vc) ?_|refine Zx.au (v:=vc) ?_|constructor|exact ZQ|intro _)
     all_goals apply zL
     refine Vx.FL (List.Mem.head _) ?_;rw[D7]
     (repeat' first|constructor|exact ZQ|intro _)
     all_goals apply zL
     rename_i pp _ _;refine Vx.inv (α:=Nat) (P:=λj k=>k+j=T.length/\∀b∈T.take j,two a0 a1 b.1 b.2) (λj=>[I (j:Int),I 0]) (λ_=>.obj pp (.row [I a0,I a1])::.obj q1 (.row [I st,I ky,I top,I lk,I n])::.obj p1 (.row [I st,I ky,I top,I lk,I n])::R) ?_ (a0:=0) (n0:=T.length) ⟨am,λb hb=>by simp at hb⟩;rintro j k2 ⟨Dk,wC⟩ Wc;refine Zx.ok (n:=false) ?_
     (repeat' first|refine Zx.av (v:=vc) ?_|refine Zx.au (v:=vc) ?_|constructor|exact ZQ|intro _)
     all_goals apply zL
     .next GN=>
      have hjl:j<T.length:=am;obtain⟨⟨b0,b1⟩,hb⟩:∃a,T[j]?=some a:=⟨_,List.getElem?_eq_getElem hjl⟩;have WE:=ht _ (List.mem_of_getElem? hb);dsimp only at WE;have ZW:¬two a0 a1 b0 b1->oneOf [I 2]=I (eC N (JE st ky top lk n N)):=λh=>bad λg=>h (g.2 _ (List.mem_of_getElem? hb));have UO:two a0 a1 b0 b1->∀b∈T.take (j+1),two a0 a1 b.1 b.2:=λh b wQ=>by
       rw[List.take_add_one,hb] at wQ;rcases List.mem_append.1 wQ with g|g;.exact wC b g
       .simp only[Option.toList_some,List.mem_singleton] at g;subst g;exact h
      refine Zx.ok (n:=false) (Zx.Wa (List.Mem.head _) am (by rw[Int.toNat_natCast];exact CS hb) rfl ?_)
      (repeat' first|refine Zx.av (v:=vc) ?_|refine Zx.au (v:=vc) ?_|constructor|exact ZQ|intro _)
      all_goals apply zL
      .exact⟨rfl,ex2,_,⟨ZW λg=>by unfold two at g;dsimp only at*;omega,rfl⟩,HQ⟩
      all_goals exact Vx.bQ HQ (Wc (j+1) (k2-1) am ⟨am,UO (by unfold two;dsimp only at*;omega)⟩)
     .next GN=>exact Vx.tl (Vx.bQ HQ (ih (i+1,I (j:Int)) (k-1) am ⟨by dsimp only;omega,ZV ⟨by dsimp only at*;omega,λb hb=>wC b (by rwa[List.take_of_length_le am])⟩⟩))
    .next de=>replace de:¬(i:Int)<4:=de;have e:i=4:=am;subst e;exact⟨rfl,Jd,_,⟨yes hj,rfl⟩,HQ⟩
   ·(repeat' first|constructor|exact ZQ|intro _)
    all_goals apply zL
    exact⟨rfl,xg,_,⟨by rw[bC hr λh=>hn h.2.1];rfl,rfl⟩,HQ⟩
  .rw[bC hr hs]
   (repeat' first|constructor|exact ZQ|intro _)
   all_goals apply zL
   exact⟨rfl,xg,_,⟨by rw[bC hr λh=>hs h.1];rfl,rfl⟩,HQ⟩
end
def exR (e:X.Ex):List (List AV):=[[I e.t.eJ,I 1],[I e.t.bo,I e.t.aH],[I e.t.an,I e.t.aH],[I e.t.aF,I 1],[I e.t.mR,I 1],[I e.t.pins,I e.t.ad],[I e.t.aL,I 3],[I e.t.hd,I e.t.ht],[I e.t.nd,I (e.t.aH*(4+e.t.ht))],[I e.dp,I e.fj],[I e.tJ,I e.cL],[I e.fk,I e.cL],[I e.kz,I 1],[I e.cZ,I e.cL],[I e.dq,I (e.aq*(e.cF+2))],[I e.gf,I e.dU],[I e.d_,I e.dU],[I e.own,I e.dU],[I e.seq,I 1]]
section
variable{B0 S:AH}{W:List Nat}{R:List Own}{ro:List aI}{v:AV}{e:X.Ex}
theorem UP (ZK:odd v=false/\v.cells=[v]/\AV.beq v v=true)(hn:1<=e.aq/\e.aq<=64)(hr:1<=e.cF/\e.cF<=16)(hf:1<=e.t.aH/\e.t.aH<=128)(ht:1<=e.t.ht/\e.t.ht<=4)(H:Cx B0 W S R ro):aN EM (zF 57) [.agg (e.cs v)] S λr S'=>∃ab,(∃p,r=.sl p 0 19 19/\ab=.obj p (.row (exR e).flatten)::R)/\Cx B0 W S' ab ro:=by
 obtain⟨ov,cv,bv⟩:=ZK;have Rm:0<=e.t.aH*(4+e.t.ht)/\e.t.aH*(4+e.t.ht)<=1024:=⟨Int.mul_nonneg am am,by have:=Int.mul_le_mul (show e.t.aH<=128 by omega) (show 4+e.t.ht<=8 by omega) am am;omega⟩;unfold X.Ex.cs;refine Vx.fm H rfl (b:=Tryz.a57) ?_
 (repeat' first|refine Zx.aA 142 ?_|constructor|exact ZQ|intro _)
 all_goals apply zL
 refine Vx.spec (λB1 W1 S1 H=>Jc hn hr H) ?_;rintro _ _ ⟨rfl,rfl⟩
 (repeat' first|constructor|exact ZQ|intro _)
 all_goals apply zL
 exact⟨rfl,rfl,_,⟨_,rfl,rfl⟩,HQ⟩
end
end Go.cG
