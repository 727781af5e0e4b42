/- Contracts. Conditions: in each theorem. -/
import Derived.Test.YtdfgboafnklioaaGreatM86
set_option linter.all false
set_option maxRecDepth 100000
set_option maxHeartbeats 4000000
noncomputable section
namespace Go.cG
open Go.Proofs
section
variable{B0 S:AH}{W:List Nat}{R:List Own}{ro:List aI}{N:Int}
theorem UU {t:X.To}(H:Cx B0 W S R ro):aN EM (zF 52) [.agg t.cs,I N] S λr S'=>∃ab,(r=I (eC N (wv t N))/\ab=R)/\Cx B0 W S' ab ro:=by
 unfold X.To.cs;refine Vx.fx H (b:=Tryz.a52) ?_
 (repeat' first|refine Zx.aA 133 ?_|constructor|exact ZQ|intro _)
 all_goals apply zL
 .exact⟨rfl,xg,_,⟨by rw[bY am];rfl,rfl⟩,HQ⟩
 .exact⟨rfl,xg,_,⟨by rw[bY am];rfl,rfl⟩,HQ⟩
 have no:¬wv t N->oneOf [I 2]=I (eC N (wv t N)):=λh=>by rw[bC am h];rfl
 refine Vx.spec (Ψ:=λu ab=>u=B (decide t.ok)/\ab=_) (λB1 W1 S1 H=>az (X.v8 (t:=t)) λr S' h=>⟨_,⟨h.1,rfl⟩,H.grow h.2⟩) ?_;rintro _ _ ⟨rfl,rfl⟩;by_cases hk:t.ok;case neg=>
  rw[decide_eq_false hk]
  (repeat' first|constructor|exact ZQ|intro _)
  all_goals apply zL
  exact⟨rfl,xg,_,⟨no λh=>hk h.1,rfl⟩,HQ⟩
 rw[decide_eq_true hk]
 (repeat' first|refine Zx.aA 134 ?_|constructor|exact ZQ|intro _)
 all_goals apply zL
 refine Vx.spec (λB1 W1 S1 H=>UT H) ?_;rintro _ _ ⟨rfl,rfl⟩;by_cases hl:zn t N;case neg=>
  rw[bC am hl]
  (repeat' first|constructor|exact ZQ|intro _)
  all_goals apply zL
  exact⟨rfl,xg,_,⟨no λh=>hl h.2.1,rfl⟩,HQ⟩
 rw[bG am hl];have h1:=hl.1.1;have h2:=hl.1.2.2.1;have h3:=hl.2.1;have h4:=hl.2.2.1;unfold sA at h1;unfold zk at h3;have hb:=CP hk;have cB:=hk;unfold X.To.ok at cB
 (repeat' first|refine Zx.aA 135 ?_|constructor|exact ZQ|intro _)
 all_goals apply zL
 refine Vx.spec (λB1 W1 S1 H=>Fu am am am am am am H) ?_;rintro v _ rfl;refine .z (.of (Zx.ok (n:=false) ?_))
 (repeat' first|refine Zx.av (v:=v) ?_|refine Zx.au (v:=v) ?_|constructor|exact ZQ|intro _)
 all_goals apply zL
 rename_i pb _ _ _ _ _ _;have zQ:(D_ t).length=6+2*t.aH.toNat+t.ad.toNat:=zq (top:=t.eJ) (links:=t.bo) (size:=t.aH) (an:=t.an) (aF:=t.aF) (bh:=t.mR) (pins:=t.pins) (ad:=t.ad) (aL:=t.aL);rw[show MD t.eJ t.bo t.aH t.an t.aF t.mR t.pins t.ad t.aL=D_ t from rfl];have P2:¬apart ((D_ t++gP (λk=>[t.nd+(k:Int)]) (D5 t))++gP (λk=>[t.hd+(k:Int)]) t.ht.toNat) N->oneOf [I 2]=I (eC N (wv t N)):=λh=>no λg=>h g.2.2;have yes:apart ((D_ t++gP (λk=>[t.nd+(k:Int)]) (D5 t))++gP (λk=>[t.hd+(k:Int)]) t.ht.toNat) N->oneOf [I 0]=I (eC N (wv t N)):=λh=>by rw[bG am ⟨hk,hl,h⟩];rfl
 have KZ:∀a∈(D_ t++gP (λk=>[t.nd+(k:Int)]) (D5 t))++gP (λk=>[t.hd+(k:Int)]) t.ht.toNat,0<=a:=λa ha=>by
  have:=List.count_pos_iff.2 ha;rw[List.count_append,List.count_append,CT am am] at this;unfold D5 at this;rw[jz am,jz am] at this;have p1:=mU (x:=t.eJ) (n:=1) (a:=a);have p2:=mU (x:=t.aF) (n:=1) (a:=a);have p3:=mU (x:=t.mR) (n:=1) (a:=a);have p4:=mU (x:=t.aL) (n:=3) (a:=a);have p5:=mU (x:=t.bo) (n:=t.aH) (a:=a);have p6:=mU (x:=t.an) (n:=t.aH) (a:=a);have p7:=mU (x:=t.pins) (n:=t.ad) (a:=a);have p8:=mU (x:=t.nd) (n:=t.aH*(4+t.ht)) (a:=a);have p9:=mU (x:=t.hd) (n:=t.ht) (a:=a);have hw:=hl.1.2.2.2.1;by_cases c:0<=a;.exact c
  .omega
 obtain⟨P,hP⟩:∃P:Nat,t.aH*(4+t.ht)=P:=⟨(t.aH*(4+t.ht)).toNat,am⟩;obtain⟨T,hT⟩:∃T:Nat,t.ht=T:=⟨t.ht.toNat,am⟩;have hw:D5 t=P:=by unfold D5;rw[hP];rfl
 rw[hw,hT,Int.toNat_natCast] at P2 yes KZ;generalize D_ t=L0 at*
 rw[hP,hT];refine Vx.bQ (own:=.sl v 1 (ints L0)::.obj pb (.row [I t.nd,I t.hd,I (T:Int),I t.eJ,I t.bo,I t.aH,I t.an,I t.aF,I t.fJ,I t.mR,I t.pins,I t.ad,I t.aL])::R) HQ ?_;refine Vx.JB (f:=λk=>[t.nd+(k:Int)]) (N:=P) (w:=1) (λ_=>rfl) am (λi v hi a h=>?_) λv=>?_
 .refine Zx.ok (n:=false) ?_;repeat' first|refine Zx.ck ?_|constructor|exact ZQ|intro _
  all_goals apply zL
  exact a _ _ _ λv' o1 o2 o3=>by
   have h2:=h v'
   (repeat' first|constructor|exact ZQ|intro _)
 have el:(L0++gP (λk=>[t.nd+(k:Int)]) P).length=L0.length+P:=by rw[List.length_append,ez (w:=1) (f:=λk=>[t.nd+(k:Int)]) (λ_=>rfl)];omega
 generalize L0++gP (λk=>[t.nd+(k:Int)]) P=L1 at*
 refine Zx.ok (n:=false) ?_;repeat' first|refine Zx.ck ?_|constructor|exact ZQ|intro _
 all_goals apply zL
 refine Vx.JB (f:=λk=>[t.hd+(k:Int)]) (N:=T) (w:=1) (λ_=>rfl) am (λi v hi a h=>?_) λv=>?_
 .refine Zx.ok (n:=false) ?_;repeat' first|refine Zx.ck ?_|constructor|exact ZQ|intro _
  all_goals apply zL
  exact a _ _ _ λv' o1 o2 o3=>by
   have h2:=h v'
   (repeat' first|constructor|exact ZQ|intro _)
 have el2:(L1++gP (λk=>[t.hd+(k:Int)]) T).length=L1.length+T:=by rw[List.length_append,ez (w:=1) (f:=λk=>[t.hd+(k:Int)]) (λ_=>rfl)];omega
 generalize L1++gP (λk=>[t.hd+(k:Int)]) T=L at*
 refine Zx.ok (n:=false) ?_;repeat' first|refine Zx.CM ?_|constructor|exact ZQ|intro _
 all_goals apply zL
 refine Vx.ZT am λtk=>?_;refine Vx.bQ (own:=.sl v 1 (ints L)::.sl tk 1 (wq N.toNat [])::R) HQ ?_;refine Vx.Bo (Zx.ok (n:=false) ?_)
 (repeat' first|refine Zx.av (v:=v) ?_|refine Zx.au (v:=v) ?_|constructor|exact ZQ|intro _)
 all_goals apply zL
 refine Vx.FL (List.Mem.head _) ?_;rw[cO]
 (repeat' first|refine Zx.av (v:=v) ?_|refine Zx.au (v:=v) ?_|constructor|exact ZQ|intro _)
 all_goals apply zL
 have mv:aI.sl v 1 (ints L)∈(.sl v 1 (ints L)::ro):=List.Mem.head _;have hN:(N.toNat:Int)=N:=am;refine Vx.inv (α:=Nat) (P:=λi k=>k+i=L.length/\apart (L.take i) N) (λi=>[I (i:Int),I 0]) (λi=>.sl tk 1 (wq N.toNat (L.take i))::R) ?_ (a0:=0) (n0:=L.length) ⟨rfl,by simpa using x5⟩;rintro i k ⟨Dk,FG⟩ ih;refine Zx.ok (n:=false) ?_
 (repeat' first|refine Zx.av (v:=v) ?_|refine Zx.av (v:=tk) ?_|refine Zx.au (v:=v) ?_|refine Zx.au (v:=tk) ?_|constructor|exact ZQ|intro _)
 all_goals apply zL
 .next de=>
  have Gq:i<L.length:=am;obtain⟨a,JF⟩:∃a,L[i]?=some a:=⟨_,List.getElem?_eq_getElem Gq⟩;have Fw:L.take (i+1)=L.take i++[a]:=wu JF;have ha0:=KZ a (List.mem_of_getElem? JF);have bad:¬apart (L.take i++[a]) N->oneOf [I 2]=I (eC N (wv t N)):=λh=>P2 λg=>h (Fw▸sC (List.take_sublist (i+1) L) g);refine Zx.ok (n:=false) (Zx.QI mv am (by rw[Int.toNat_natCast];exact uq JF) ?_)
  (repeat' first|refine Zx.av (v:=v) ?_|refine Zx.av (v:=tk) ?_|refine Zx.au (v:=v) ?_|refine Zx.au (v:=tk) ?_|constructor|exact ZQ|intro _)
  all_goals apply zL
  .exact⟨rfl,Jd,_,⟨bad λg=>by have:=(iH.1 g).2.2.2;omega,rfl⟩,HQ⟩
  refine Zx.ok (n:=false) (Zx.UK (List.Mem.head _) am am ?_);by_cases hx:a∈L.take i
  .rw[decide_eq_true hx]
   (repeat' first|constructor|exact ZQ|intro _)
   all_goals apply zL
   exact⟨rfl,Jd,_,⟨bad λg=>(iH.1 g).2.1 hx,rfl⟩,HQ⟩
  .rw[decide_eq_false hx]
   (repeat' first|refine Zx.av (v:=v) ?_|refine Zx.av (v:=tk) ?_|refine Zx.au (v:=v) ?_|refine Zx.au (v:=tk) ?_|constructor|exact ZQ|intro _)
   all_goals apply zL
   refine Zx.ok (n:=false) (Zx.Wb am am ?_);rw[<-Fw]
   (repeat' first|constructor|exact ZQ|intro _)
   all_goals apply zL
   exact ih (i+1) (k-1) am ⟨am,by rw[Fw];exact iH.2 ⟨FG,hx,am,am⟩⟩
 .next de=>rw[List.take_of_length_le am] at FG;exact⟨rfl,Jd,_,⟨yes FG,rfl⟩,HQ⟩
end
theorem wz:∀a b:List (Int×Int),dX (a++b)=dX a++dX b
 |[],_=>rfl
 |p::a,b=>by rw[lA,dX,dX,wz a b,List.append_assoc]
theorem Fx {L:List (Int×Int)}{i:Nat}{p:Int×Int}(h:L[i]?=some p):dX (L.take (i+1))=dX (L.take i)++rg p.1 p.2.toNat:=by rw[List.take_add_one,h,wz];show dX (L.take i)++(rg p.1 p.2.toNat++[])=_;rw[List.append_nil]
theorem Jn (L:List (Int×Int))(i:Nat):(dX (L.take i)).Sublist (dX L):=by
 conv=>rhs;rw[<-List.take_append_drop i L,wz]
 exact List.sublist_append_left _ _
section
variable{B0 S:AH}{W:List Nat}{R:List Own}{ro:List aI}{N:Int}{v:AV}{e:X.Ex}{l:List dA.Tk}
theorem LF (hk:e.ok l)(ht:wv e.t N)(hN:N<=4096):∀p∈wx e,(0<=p.1/\p.1<=4096)/\1<=p.2/\p.2<=4096:=by
 have hb:=zB.of hk;obtain⟨⟨a1,a2,a3,a4,a5,a6,a7,a8⟩,_,b1,b2,b3,b4,b5,b6,b7,b8,b9,UI,c1,c2,c3,c4,c5,c6,c7,c8,c9,dS⟩:=hk;obtain⟨_,⟨⟨s1,_,s2,s3,_⟩,s4,s5,_⟩,_⟩:=ht;obtain⟨h1,h2,h3,h4,h5,h6,h7,h8,h9,Vk⟩:=hb;unfold sA at s1;unfold zk at s4;unfold X.dF at*
 intro p hp;simp only[wx,List.mem_cons,List.not_mem_nil,or_false] at hp;rcases hp with rfl|rfl|rfl|rfl|rfl|rfl|rfl|rfl|rfl|rfl|rfl|rfl|rfl|rfl|rfl|rfl|rfl|rfl|rfl<;>(dsimp only;omega)
theorem UW (hv:aI.sl v 4 (dA.gK l)∈ro)(H:Cx B0 W S R ro):aN EM (zF 7) [.agg (e.cs v),I N] S λr S'=>∃ab,(r=I (eC N (wy e l N))/\ab=R)/\Cx B0 W S' ab ro:=by
 obtain⟨ov,cv,bv⟩:=eI (H.ku hv).1;unfold X.Ex.cs;refine Vx.fx H (b:=Tryz.a7) ?_
 (repeat' first|refine Zx.aA 9 ?_|constructor|exact ZQ|intro _)
 all_goals apply zL
 .exact⟨rfl,xg,_,⟨by rw[bY am];rfl,rfl⟩,HQ⟩
 .exact⟨rfl,xg,_,⟨by rw[bY am];rfl,rfl⟩,HQ⟩
 have no:¬wy e l N->oneOf [I 2]=I (eC N (wy e l N)):=λh=>by rw[bC am h];rfl
 refine Vx.spec (Ψ:=λu ab=>u=B (decide (e.ok l))/\ab=_) (λB1 W1 S1 H=>az (X.oT (e:=e) hv H) λr S' h=>⟨_,⟨h.1,rfl⟩,H.grow h.2⟩) ?_;rintro _ _ ⟨rfl,rfl⟩;by_cases hk:e.ok l;case neg=>
  rw[decide_eq_false hk]
  (repeat' first|constructor|exact ZQ|intro _)
  all_goals apply zL
  exact⟨rfl,xg,_,⟨no λh=>hk h.1,rfl⟩,HQ⟩
 rw[decide_eq_true hk]
 (repeat' first|refine Zx.aA 52 ?_|constructor|exact ZQ|intro _)
 all_goals apply zL
 refine Vx.spec (λB1 W1 S1 H=>UU (t:=e.t) H) ?_;rintro _ _ ⟨rfl,rfl⟩;by_cases ht:wv e.t N;case neg=>
  rw[bC am ht]
  (repeat' first|constructor|exact ZQ|intro _)
  all_goals apply zL
  exact⟨rfl,xg,_,⟨no λh=>ht h.2.1,rfl⟩,HQ⟩
 rw[bG am ht]
 (repeat' first|refine Zx.aA 53 ?_|constructor|exact ZQ|intro _)
 all_goals apply zL
 refine Vx.spec (λB1 W1 S1 H=>ZO H) ?_;rintro _ _ ⟨rfl,rfl⟩;by_cases h3:MB e.dp e.fj N;case neg=>
  rw[bC am h3]
  (repeat' first|constructor|exact ZQ|intro _)
  all_goals apply zL
  exact⟨rfl,xg,_,⟨no λh=>h3 h.2.2.1,rfl⟩,HQ⟩
 rw[bG am h3]
 (repeat' first|refine Zx.aA 54 ?_|constructor|exact ZQ|intro _)
 all_goals apply zL
 refine Vx.spec (λB1 W1 S1 H=>ZU H) ?_;rintro _ _ ⟨rfl,rfl⟩;by_cases h4:JE e.tJ e.fk e.kz e.cZ e.cL N;case neg=>
  rw[bC am h4]
  (repeat' first|constructor|exact ZQ|intro _)
  all_goals apply zL
  exact⟨rfl,xg,_,⟨no λh=>h4 h.2.2.2.1,rfl⟩,HQ⟩
 rw[bG am h4]
 (repeat' first|refine Zx.aA 55 ?_|constructor|exact ZQ|intro _)
 all_goals apply zL
 refine Vx.spec (λB1 W1 S1 H=>ZR H) ?_;rintro _ _ ⟨rfl,rfl⟩;by_cases h5:Bs e.dq e.aq e.cF N;case neg=>
  rw[bC am h5]
  (repeat' first|constructor|exact ZQ|intro _)
  all_goals apply zL
  exact⟨rfl,xg,_,⟨no λh=>h5 h.2.2.2.2.1,rfl⟩,HQ⟩
 rw[bG am h5]
 (repeat' first|refine Zx.aA 56 ?_|constructor|exact ZQ|intro _)
 all_goals apply zL
 refine Vx.spec (λB1 W1 S1 H=>ZP H) ?_;rintro _ _ ⟨rfl,rfl⟩;by_cases h6:PR e.gf e.d_ e.dU N;case neg=>
  rw[bC am h6]
  (repeat' first|constructor|exact ZQ|intro _)
  all_goals apply zL
  exact⟨rfl,xg,_,⟨no λh=>h6 h.2.2.2.2.2.1,rfl⟩,HQ⟩
 rw[bG am h6];repeat' first|refine Zx.CM ?_|constructor|exact ZQ|intro _
 all_goals apply zL
 refine Vx.ZT am λtk=>?_;refine Zx.ok (n:=false) ?_
 (repeat' first|refine Zx.aA 57 ?_|constructor|exact ZQ|intro _)
 all_goals apply zL
 have hb:=zB.of hk;refine Vx.spec (λB1 W1 S1 H=>UP (e:=e) ⟨ov,cv,bv⟩ (by have:=hb.4;have:=hb.7;omega) hb.9 hb.1 hb.2 H) ?_;rintro _ _ ⟨p,rfl,rfl⟩;refine .z (.of (Vx.UM (n:=19) (es:=2) (L:=D6 (wx e)) rfl rfl Je ?_));refine Zx.ok (n:=false) ?_
 (repeat' first|constructor|exact ZQ|intro _)
 all_goals apply zL
 have C_:=LF hk ht am;have hlen:(wx e).length=19:=rfl;have P2:¬apart (dX (wx e)) N->oneOf [I 2]=I (eC N (wy e l N)):=λh=>no λg=>h g.2.2.2.2.2.2;have yes:apart (dX (wx e)) N->oneOf [I 0]=I (eC N (wy e l N)):=λh=>by rw[bG am ⟨hk,ht,h3,h4,h5,h6,h⟩];rfl
 generalize wx e=L at*
 generalize AV.sl p 0 19 19=vr;have mv:aI.sl vr 2 (D6 L)∈(.sl vr 2 (D6 L)::ro):=List.Mem.head _;have hN:(N.toNat:Int)=N:=am;refine Vx.inv (α:=Nat×AV) (P:=λz k=>k+z.1=19/\apart (dX (L.take z.1)) N) (λz=>[I (z.1:Int),I 0,z.2]) (λz=>.sl tk 1 (wq N.toNat (dX (L.take z.1)))::R) ?_ (a0:=(0,.no)) (n0:=19) ⟨rfl,x5⟩|>λh=>Vx.bQ HQ h
 rintro⟨i,u⟩ k ⟨Dk,FG⟩ ih;dsimp only at Dk FG ih⊢;refine Zx.ok (n:=false) ?_
 (repeat' first|refine Zx.av (v:=vr) ?_|refine Zx.av (v:=tk) ?_|refine Zx.au (v:=vr) ?_|refine Zx.au (v:=tk) ?_|constructor|exact ZQ|intro _)
 all_goals apply zL
 .next de=>
  replace de:(i:Int)<19:=de;have Gq:i<L.length:=am;obtain⟨⟨f,m⟩,JF⟩:∃a,L[i]?=some a:=⟨_,List.getElem?_eq_getElem Gq⟩;have hfm:=C_ _ (List.mem_of_getElem? JF);dsimp only at hfm;have Fw:=Fx JF;dsimp only at Fw;have qZ:=Jn L (i+1);rw[Fw] at qZ;generalize dX (L.take i)=s at*
  obtain⟨mm,rfl⟩:∃q:Nat,m=q:=⟨m.toNat,am⟩;rw[Int.toNat_natCast] at Fw qZ;refine Zx.ok (n:=false) (Zx.Wa mv am (by rw[Int.toNat_natCast];exact CS JF) rfl ?_)
  (repeat' first|refine Zx.av (v:=vr) ?_|refine Zx.av (v:=tk) ?_|refine Zx.au (v:=vr) ?_|refine Zx.au (v:=tk) ?_|constructor|exact ZQ|intro _)
  all_goals apply zL
  rename_i q;rw[show s=s++rg f 0 from(List.append_nil s).symm] at FG⊢;have vq:∀(j:Nat),(λ(z:Nat)=>[I (f+(z:Int)),I 0]) j=[I (f+(j:Int)),I 0]:=λ_=>rfl;refine Vx.inv (α:=Nat×Int) (P:=λz k=>k+z.1=mm/\z.2=f+z.1/\apart (s++rg f z.1) N) (λz=>[I z.2,I 0]) (λz=>.sl tk 1 (wq N.toNat (s++rg f z.1))::.obj q (.row [I f,I (mm:Int)])::R) ?_ (a0:=(0,f)) (n0:=mm) ⟨by dsimp only;omega,by dsimp only;omega,FG⟩|>λh=>Vx.bQ HQ h
  rintro⟨j,b⟩ k3 ⟨hk3,wQ,P3⟩ Wc;dsimp only at hk3 P3 wQ Wc⊢;subst wQ;refine Zx.ok (n:=false) ?_
  (repeat' first|refine Zx.av (v:=vr) ?_|refine Zx.av (v:=tk) ?_|refine Zx.au (v:=vr) ?_|refine Zx.au (v:=tk) ?_|constructor|exact ZQ|intro _)
  all_goals apply zL
  .next PT=>
   have UR:j<mm:=am;have Ed:(s++rg f (j+1)).Sublist (dX L):=((List.Sublist.refl s).append (CR am)).trans qZ;exact⟨rfl,Jd,_,⟨P2 λg=>by
    have g2:=sC Ed g;rw[rg,<-List.append_assoc] at g2;have:=(iH.1 g2).2.2.2;omega,rfl⟩,HQ⟩
  .next PT GN=>
   have UR:j<mm:=am;have Ed:(s++rg f (j+1)).Sublist (dX L):=((List.Sublist.refl s).append (CR am)).trans qZ;rw[rg,<-List.append_assoc] at Ed;refine Zx.ok (n:=false) (Zx.UK (List.Mem.head _) am am ?_);by_cases hx:f+(j:Int)∈s++rg f j
   .rw[decide_eq_true hx]
    (repeat' first|constructor|exact ZQ|intro _)
    all_goals apply zL
    exact⟨rfl,Jd,_,⟨P2 λg=>(iH.1 (sC Ed g)).2.1 hx,rfl⟩,HQ⟩
   .rw[decide_eq_false hx]
    (repeat' first|refine Zx.av (v:=vr) ?_|refine Zx.av (v:=tk) ?_|refine Zx.au (v:=vr) ?_|refine Zx.au (v:=tk) ?_|constructor|exact ZQ|intro _)
    all_goals apply zL
    refine Zx.ok (n:=false) (Zx.Wb am am ?_);rw[List.append_assoc]
    (repeat' first|constructor|exact ZQ|intro _)
    all_goals apply zL
    exact Wc (j+1,f+(j:Int)+1) (k3-1) am ⟨by dsimp only;omega,by dsimp only;omega,by
     show apart (s++(rg f j++[f+(j:Int)])) N;rw[<-List.append_assoc];exact iH.2 ⟨P3,hx,am,am⟩⟩
  .next PT=>obtain rfl:j=mm:=am;have h2:=ih (i+1,I (f+(j:Int))) (k-1) am ⟨by dsimp only;omega,by dsimp only;rw[Fw];exact P3⟩;dsimp only at h2;rw[Fw] at h2;exact Vx.bQ HQ h2
 .next de=>replace de:¬(i:Int)<19:=de;rw[List.take_of_length_le am] at FG;exact⟨rfl,Jd,_,⟨yes FG,rfl⟩,HQ⟩
end
end Go.cG
