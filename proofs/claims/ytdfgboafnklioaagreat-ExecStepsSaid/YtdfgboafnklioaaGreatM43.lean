/- Contracts. Conditions: in each theorem. -/
import Derived.Test.YtdfgboafnklioaaGreatM42
import Derived.Test.YtdfgboafnklioaaGreatM11
import Derived.Test.YtdfgboafnklioaaGreatM12
set_option linter.all false
set_option maxRecDepth 100000
set_option maxHeartbeats 4000000
namespace Go.cG
open Go.Proofs
instance ab4 {n:Nat}[Mn n [519,520,521,431,432,433,434,435,306,437]]:cK n where
def Tw.mb (t:Tw)(look:Bool)(ln a w i lv key A:Int)(fd rt:AV)(is:Bool)(r e:Int):List AV:=t.cs++[B look,I ln,U a,U w,I i,I lv,U key,I A,fd,rt,B is,U r,I e]
inductive i6 (t:Tw)(look:Bool)(q:Nat)(b:Int):cj->List Own->Prop
 |a {lv a i w:Int}{is:Bool}{fd rt}:i6 t look q b .a [.obj q (.row (t.mb look 1 a w i lv 0 0 fd rt is b 0))]
 |b {lv a i w:Int}{is:Bool}{fd rt}(h:t.ue a i):i6 t look q b (.b a i) [.obj q (.row (t.mb look 2 a w i lv 0 0 fd rt is b 0))]
 |c {lv a i w:Int}{is:Bool}{fd rt}(ha:Me.aC a)(hw:Me.aC w)(hm:9223372036854775808<=w):i6 t look q b (.c a w) [.obj q (.row (t.mb look 3 a w i lv 0 0 fd rt is b 0))]
 |m {lv a i w:Int}{is:Bool}{fd rt}(h:t.ue a i):i6 t look q b (.m a i) [.obj q (.row (t.mb look 4 a w i lv 0 0 fd rt is b 0))]
 |n {lv a i w:Int}{is:Bool}{l:Nat}{fd rt}(h:t.ue a i)(hv:lv=l)(hl:1<=lv/\lv<t.ht):i6 t look q b (.n a i l) [.obj q (.row (t.mb look 5 a w i lv 0 0 fd rt is b 0))]
 |o {lv a i w:Int}{is:Bool}{l:Nat}{fd rt}(h:t.ue a i)(hv:lv=l)(hl:1<=lv/\lv<t.ht)(hw:Me.aC w)(hm:¬9223372036854775808<=w):i6 t look q b (.o a i l w) [.obj q (.row (t.mb look 6 a w i lv 0 0 fd rt is b 0))]
 |k {lv a i w:Int}{is:Bool}{fd rt}(h:t.ue a i):i6 t look q b (.k a i) [.obj q (.row (t.mb look 7 a w i lv 0 0 fd rt is b 0))]
 |h {lv a i w:Int}{is:Bool}{fd rt}(h:t.ue a i)(hw:Me.aC w)(hm:¬9223372036854775808<=w):i6 t look q b (.h a i w) [.obj q (.row (t.mb look 8 a w i lv 0 0 fd rt is b 0))]
 |r {lv a i w:Int}{is:Bool}{fd rt}(h:t.ue a i):i6 t look q b (.r a i) [.obj q (.row (t.mb look 9 a w i lv 0 0 fd rt is b 0))]
 |j {lv a i w key:Int}{is:Bool}{fd rt}(h:t.ue a i)(hk:Me.aC key):i6 t look q b (.j a i key) [.obj q (.row (t.mb look 91 a w i lv key 0 fd rt is b 0))]
 |f {lv a i w key ar bf:Int}{is:Bool}{rt}{qf:Nat}{F lf}(h:t.ue a i)(hk:Me.aC key)(hF:bs t key qf bf F lf)(ho:F.over=false):i6 t look q b (.f a i key ar F) (.obj q (.row (t.mb look 10 a w i lv key ar (.ptr qf 0) rt is b 0))::lf)
 |g {lv a i w key ar:Int}{is:Bool}{fd rt}(h:t.ue a i)(hk:Me.aC key):i6 t look q b (.g a i key ar) [.obj q (.row (t.mb look 11 a w i lv key ar fd rt is b 0))]
 |w {lv a i w key ar:Int}{is:Bool}{fd}{qr:Nat}{σ lr}(hi:0<=i/\i<t.l.a.f.size)(hk:Me.aC key)(h:vW t.l i qr σ lr)(ho:σ.over=false):i6 t look q b (.w i key ar σ) (.obj q (.row (t.mb look 92 a w i lv key ar fd (.ptr qr 0) is b 0))::lr)
 |d {lv a i w key ar e:Int}{is:Bool}{fd rt}:i6 t look q b (.d key ar e) [.obj q (.row (t.mb look 99 a w i lv key ar fd rt is b e))]
section
variable{B0 S:AH}{W:List Nat}{own R lo:List Own}{ro:List aI}{m q:Nat}{vm:AV}{x:Me}{t:Tw}{b:Int}{look:Bool}
theorem sy {o1 own:List Own}(e:o1=own:=by conv=>lhs;simp only[Tw.mb,Tw.p_,CB,Tw.cs,Lb.cs,Ar.cs,Ep.cs,lA,lB,lC]):o1=own:=e
theorem DW {σ:cj}(hs:t.ok)(hx:x.gd)(ho:σ.over=false)(h:i6 t look q b σ lo)(H:Cx B0 W S (lo++(ai m vm x++R)) ro):
  aN EM (zF 305) [.ptr q 0,.ptr m 0] S λu S'=>∃ab,fb (i6 t look q σ.cR) cj.over (σ.step t look x) (ai m vm) R u ab/\Cx B0 W S' ab ro:=by
 have bt:=hs;unfold Tw.ok Lb.ok Ar.ok Sk.ok Ep.ok at bt;cases h with
 |@a lv a i w is fd rt=>
  have hb:=Me.aj hx (t.nx (-1) 0);refine y2 H sy ?_ ?_<;>intros
  .next h1=>exact aa (Prod.ext (if_pos h1) rfl) .d rfl HQ
  .next h1=>exact aa (Prod.ext (if_neg h1) rfl) (.b ⟨hb,rfl,Int.not_lt.1 h1⟩) rfl HQ
 |@b lv a i w is fd rt h=>
  have hi:=Tw.eB h am;have hn:t.nx i 0=t.pt i 4:=by unfold Tw.nx;rw[if_neg am];rfl
  have hb:=Me.aj hx (t.pt i 4);have e2:(cj.b a i).step t look x=(if 9223372036854775808<=x.word (t.pt i 4) then .c a (x.word (t.pt i 4)) else if look then .r a i else .m a i,x.ld (t.pt i 4)):=by rw[<-hn];rfl
  refine y3 H sy ?_ ?_ ?_<;>intros
  .next h1=>exact aa (e2.trans (Prod.ext (if_pos h1) rfl)) (.c h.1 hb h1) rfl HQ
  .next h1 h2=>subst h2;exact aa (e2.trans (Prod.ext (if_neg h1) rfl)) (.r h) rfl HQ
  .next h1 h2=>subst h2;exact aa (e2.trans (Prod.ext (if_neg h1) rfl)) (.m h) rfl HQ
 |@c lv a i w is fd rt ha hw hm=>
  have e1:(w-9223372036854775808)%18446744073709551616=w-9223372036854775808:=by unfold Me.aC at*;omega
  refine y1 H sy ?_;all_goals rw[e1]
  all_goals exact aa rfl .a rfl HQ
 |@m lv a i w is fd rt h=>
  have hi:=Tw.eB h am;have hb:=Me.aj hx (t.pt i 2);have zr:Me.aC (x.word (qo t.nd t.ht i 2)):=hb;have e1:t.ht%18446744073709551616=t.ht:=am;unfold Me.aC at zr;refine y4 H sy ?_ ?_ ?_ ?_<;>intros
  all_goals(try rw[e1] at*)
  .next h1 h2=>
   have e:(cj.m a i).step t look x=(.k a i,x.ld (t.pt i 2)):=by show(cj.below a i (min (x.word (qo t.nd t.ht i 2)) t.ht).toNat,_)=_;unfold cj.below;rw[if_pos am]
   exact aa e (.k h) rfl HQ
  .next h1 h2=>
   have e:(cj.m a i).step t look x=(.n a i ((min (x.word (qo t.nd t.ht i 2)) t.ht).toNat-1),x.ld (t.pt i 2)):=by show(cj.below a i (min (x.word (qo t.nd t.ht i 2)) t.ht).toNat,_)=_;unfold cj.below;rw[if_neg am]
   exact aa e (.n (lv:=x.word (qo t.nd t.ht i 2)-1) h am ⟨am,am⟩) rfl HQ
  .next h1 h2=>
   have e:(cj.m a i).step t look x=(.k a i,x.ld (t.pt i 2)):=by show(cj.below a i (min (x.word (qo t.nd t.ht i 2)) t.ht).toNat,_)=_;unfold cj.below;rw[if_pos am]
   exact aa e (.k h) rfl HQ
  .next h1 h2=>
   have e:(cj.m a i).step t look x=(.n a i ((min (x.word (qo t.nd t.ht i 2)) t.ht).toNat-1),x.ld (t.pt i 2)):=by show(cj.below a i (min (x.word (qo t.nd t.ht i 2)) t.ht).toNat,_)=_;unfold cj.below;rw[if_neg am]
   exact aa e (.n (lv:=t.ht-1) h am ⟨am,am⟩) rfl HQ
 |@n lv a i w is l fd rt h hv hl=>
  subst hv;have hi:=Tw.eB h am;have hn:t.nx i l=t.pt i (4+l):=by unfold Tw.nx;rw[if_neg am]
  have hb:=Me.aj hx (t.pt i (4+l));refine y3 H sy ?_ ?_ ?_<;>intros
  .next h1 h2=>
   have e:(cj.n a i l).step t look x=(.k a i,x.ld (t.pt i (4+l))):=by show(if _<=x.word (t.nx i l) then cj.below a i l else _,x.ld (t.nx i l))=_;unfold cj.below;rw[hn,if_pos (show 9223372036854775808<=x.word (t.pt i (4+l)) from h1),if_pos am]
   exact aa e (.k h) rfl HQ
  .next h1 h2=>
   have e:(cj.n a i l).step t look x=(.n a i (l-1),x.ld (t.pt i (4+l))):=by show(if _<=x.word (t.nx i l) then cj.below a i l else _,x.ld (t.nx i l))=_;unfold cj.below;rw[hn,if_pos (show 9223372036854775808<=x.word (t.pt i (4+l)) from h1),if_neg am]
   exact aa e (.n (lv:=(l:Int)-1) h am ⟨am,am⟩) rfl HQ
  .next h1=>
   have e:(cj.n a i l).step t look x=(.o a i l (x.word (t.pt i (4+l))),x.ld (t.pt i (4+l))):=by show(if _<=x.word (t.nx i l) then cj.below a i l else .o a i l (x.word (t.nx i l)),x.ld (t.nx i l))=_;rw[hn,if_neg (show¬9223372036854775808<=x.word (t.pt i (4+l)) from h1)]
   exact aa e (.o h rfl hl hb h1) rfl HQ
 |@o lv a i w is l fd rt h hv hl hw hm=>
  subst hv;have hi:=Tw.eB h am;have hn:t.nx i l=t.pt i (4+l):=by unfold Tw.nx;rw[if_neg am]
  have e1:(w+9223372036854775808)%18446744073709551616=w+9223372036854775808:=by unfold Me.aC at*;omega
  have e2:(cj.o a i l w).step t look x=(if x.eq (t.nx i l) w then cj.below a i l else .n a i l,x.gY (t.nx i l) w (w+9223372036854775808)):=rfl;refine y3 H sy ?_ ?_ ?_<;>intros
  all_goals rw[e1]
  .next h1 h2=>have e3:cj.below a i l=.k a i:=if_pos am;exact aa (e2.trans (Prod.ext ((if_pos h1).trans e3) rfl)) (.k h) rfl HQ
  .next h1 h2=>have e3:cj.below a i l=.n a i (l-1):=if_neg am;exact aa (e2.trans (Prod.ext ((if_pos h1).trans e3) rfl)) (.n (lv:=(l:Int)-1) h am ⟨am,am⟩) rfl HQ
  .next h1=>exact aa (e2.trans (Prod.ext (if_neg h1) rfl)) (.n h rfl hl) rfl HQ
 |@k lv a i w is fd rt h=>
  have hi:=Tw.eB h am;have hn:t.nx i 0=t.pt i 4:=by unfold Tw.nx;rw[if_neg am];rfl
  have hb:=Me.aj hx (t.pt i 4);have e2:(cj.k a i).step t look x=(if 9223372036854775808<=x.word (t.pt i 4) then .c a (x.word (t.pt i 4)) else .h a i (x.word (t.pt i 4)),x.ld (t.pt i 4)):=by rw[<-hn];rfl
  refine y2 H sy ?_ ?_<;>intros
  .next h1=>exact aa (e2.trans (Prod.ext (if_pos h1) rfl)) (.c h.1 hb h1) rfl HQ
  .next h1=>exact aa (e2.trans (Prod.ext (if_neg h1) rfl)) (.h h hb h1) rfl HQ
 |@h lv a i w is fd rt h hw hm=>
  have hi:=Tw.eB h am;have hn:Cl t.nd t.hd t.ht i 0=t.nx i 0:=rfl;have e1:(w+9223372036854775808)%18446744073709551616=w+9223372036854775808:=by unfold Me.aC at*;omega
  refine y2 H sy ?_ ?_<;>intros
  all_goals rw[e1]
  .next h1=>exact aa (Prod.ext (if_pos h1) rfl) (.r h) rfl HQ
  .next h1=>exact aa (Prod.ext (if_neg h1) rfl) (.k h) rfl HQ
 |@r lv a i w is fd rt h=>
  have hi:=Tw.eB h am;refine y1 H sy ?_;exact aa rfl (.j h (Me.aj hx _)) rfl HQ
 |@j lv a i w key is fd rt h hk=>
  have hi:=Tw.eB h am;have hb:=Me.aj hx (t.pt i 1);have zr:0<=x.word (qo t.nd t.ht i 1):=hb.1;have e2:(cj.j a i key).step t look x=(if look then .d key (x.word (t.pt i 1)%65536) 0 else .f a i key (x.word (t.pt i 1)%65536) (.new t),x.ld (t.pt i 1)):=rfl;refine y2 H sy ?_ ?_<;>intros
  .next h1 p l' hF=>
   have h2:look=false:=by simpa using h1
   subst h2;have e3:(cj.j a i key).step t false x=(.f a i key (x.word (t.pt i 1)%65536) (.new t),x.ld (t.pt i 1)):=rfl;exact aa e3 (.f h hk (show bs t key p 0 (.new t) l' from hF) rfl) rfl HQ
  .next h1=>
   have h2:look=true:=by simpa using h1
   subst h2;have e3:(cj.j a i key).step t true x=(.d key (x.word (t.pt i 1)%65536) 0,x.ld (t.pt i 1)):=rfl;exact aa e3 .d rfl HQ
 |@f lv a i w key ar bf is rt qf F lf h hk hF Ym=>
  refine y1 H sy ?_;refine Vx.f_ (A:=[_]) (λB W S H=>oS hs hx Ym hk hF H) λa' x' l' e hl=>?_;have e2:(cj.f a i key ar F).step t look x=(if a'.over then .g a i key ar else .f a i key ar a',x'):=by show(_,_)=_;rw[e]
  have pG:=hl.row;obtain⟨ln,FJ,pred,known,cur,w2,qp,qs,qk,k,T2,rfl⟩:=pG;simp only[Tw.p_,CB,Tw.cs,Lb.cs,Ar.cs,Ep.cs,lA,lB];cases ho:a'.over
  .refine z1 ?_;exact aa (e2.trans (Prod.ext (if_neg (by rw[ho];simp)) rfl)) (.f h hk hl ho) rfl HQ
  .refine z1 ?_;exact aa (e2.trans (Prod.ext (if_pos ho) rfl)) (.g h hk) rfl HQ
 |@g lv a i w key ar is fd rt h hk=>
  have hi:=Tw.eB h am;have hn:iX.new t.l i=.a:=if_neg am;have e2:(cj.g a i key ar).step t look x=(if(x.add (t.pt i 3) 18446744073709551615).new=0 then .w i key ar .a else .d key ar 0,x.add (t.pt i 3) 18446744073709551615):=by show(if(x.add (t.pt i _) _).new=0 then cj.w _ _ _ (iX.new _ i) else _,x.add (t.pt i _) _)=_;rw[hn]
  refine y2 H sy ?_ ?_<;>intros
  .next h1 p1 p2 h2 h3=>exact aa (e2.trans (Prod.ext (if_pos h1) rfl)) (.w hi hk (.a hi) rfl) rfl HQ
  .next h1=>exact aa (e2.trans (Prod.ext (if_neg h1) rfl)) .d rfl HQ
 |@w lv a i w key ar is fd qr σ lr hi hk h hF=>
  refine y1 H sy ?_;refine Vx.f_ (A:=[_]) (λB W S H=>Ba hs.2.2.2.2 hx h H) λa' x' l' e hl=>?_;have e2:(cj.w i key ar σ).step t look x=(if a'.over then .d key ar 0 else .w i key ar a',x'):=by show(if(σ.step t.l i x).1.over then _ else _,(σ.step t.l i x).2)=_;rw[e]
  cases ho:a'.over
  .refine z1 ?_;exact aa (e2.trans (Prod.ext (if_neg (by rw[ho];simp)) rfl)) (.w hi hk hl ho) rfl HQ
  .refine z1 ?_;exact aa (e2.trans (Prod.ext (if_pos ho) rfl)) .d rfl HQ
 |d=>cases ho
end
section
variable{nd hd ht c3 c4 n c6 c7 c8 c9 dS dt dW:Int}
instance ab5:cK 465 where
instance Y8:NC EM (zF 526) [.agg [I nd,I hd,I ht,I c3,I c4,I n,I c6,I c7,I c8,I c9,I dS,I dt,I dW]] ((0<=nd/\nd<4096)/\(0<=hd/\hd<4096)/\(1<=ht/\ht<=4)/\1<=n/\n<=128)
  (λp l=>i6 ⟨nd,hd,ht,⟨⟨⟨c3,c4,n⟩,c6,c7,c8⟩,⟨c9,dS,dt⟩,dW⟩⟩ true p 0 .a l):=.of rfl rfl λh ro R=>by
 show Zx EM false (Tryz.a526 _) _ _ _ _;refine z1 ?_;intros;exact⟨rfl,rfl,(_::R),⟨_,_,i6.a,rfl,rfl⟩,HQ⟩
instance Y9:NC EM (zF 465) [.agg [I nd,I hd,I ht,I c3,I c4,I n,I c6,I c7,I c8,I c9,I dS,I dt,I dW]] ((0<=nd/\nd<4096)/\(0<=hd/\hd<4096)/\(1<=ht/\ht<=4)/\1<=n/\n<=128)
  (λp l=>i6 ⟨nd,hd,ht,⟨⟨⟨c3,c4,n⟩,c6,c7,c8⟩,⟨c9,dS,dt⟩,dW⟩⟩ false p 0 .a l):=.of rfl rfl λh ro R=>by
 show Zx EM false (Tryz.a465 _) _ _ _ _;refine z1 ?_;intros;exact⟨rfl,rfl,(_::R),⟨_,_,i6.a,rfl,rfl⟩,HQ⟩
end
section
variable{nd hd ht c3 c4 n c6 c7 c8 c9 dS dt dW i g ar high key c p:Int}
instance VU:NC EM (zF 446) [.agg [I c3,I c4,I n,I c6,I c7,I c8]] True
  (λq l=>iO ⟨⟨c3,c4,n⟩,c6,c7,c8⟩ q (.p .a) l):=.of rfl rfl λh ro R=>by
 show Zx EM false (Tryz.a446 _) _ _ _ _;refine z1 ?_;intros;exact⟨rfl,rfl,(_::_::R),⟨_,_,iO.p (l:=[_]) .a rfl,rfl,rfl⟩,HQ⟩
instance VV:NC EM (zF 449) [.agg [I c3,I c4,I n,I c6,I c7,I c8,I c9,I dS,I dt,I dW],I c,I p] ((0<=c/\c<dt)/\(0<=p/\p<4294967296)/\0<=dW/\dW<50000)
  (λq l=>ox ⟨⟨⟨c3,c4,n⟩,c6,c7,c8⟩,⟨c9,dS,dt⟩,dW⟩ c p q (.v .a) l):=.of rfl rfl λ⟨h,hp,ht⟩ ro R=>by
 have e1:(p+2)%18446744073709551616=p+2:=am;show Zx EM false (Tryz.a449 _) _ _ _ _;refine z1 ?_;intros;all_goals(try rw[e1])
 all_goals first|omega|skip
 exact⟨rfl,rfl,(_::_::_::R),⟨_,_,ox.v (la:=[_]) (lb:=[_]) hp (.a h) rfl .a,rfl,rfl⟩,HQ⟩
instance VW:NC EM (zF 448) [.agg [I nd,I hd,I ht,I c3,I c4,I n,I c6,I c7,I c8,I c9,I dS,I dt,I dW],U (aK i g),U key,I ar,I high] (((0<=nd/\nd<4096)/\(0<=hd/\hd<4096)/\(1<=ht/\ht<=4)/\1<=n/\n<=128)/\(dz i g/\i<n)/\(0<=ar/\ar<=65534)/\1<=high/\high<=ht)
  (λq l=>pj ⟨nd,hd,ht,⟨⟨⟨c3,c4,n⟩,c6,c7,c8⟩,⟨c9,dS,dt⟩,dW⟩⟩ i g key ar high q 0 (.s 0) l):=.of rfl rfl λh ro R=>by
 obtain⟨h0,hi,hj,hh⟩:=h;have hx:=sm hi.1;have m_:idx n (aK i g)=i:=by unfold idx;rw[hx,if_pos hi.2]
 have hw:=mJ hi.1;show Zx EM false (Tryz.a448 _) _ _ _ _;refine z2 ?_ ?_<;>intros
 all_goals first|exact⟨h0,hi,hh⟩|skip
 rw[m_];exact⟨rfl,rfl,(_::R),⟨_,_,pj.s (k:=0) am,rfl,rfl⟩,HQ⟩
end
instance ab6 {n:Nat}[Mn n [186,304,307,338,340,219]]:cK n where
def Tw.rF (t:Tw)(c ln:Int)(mf:AV)(p:Int)(m8:AV)(b e key ar high n:Int)(al co:AV)(ref:Int)(ly ins:AV):List AV:=t.cs++[I c,I ln,mf,I p,m8,U b,I e,U key,I ar,I high,I n,al,co,U ref,ly,ins]
inductive ij (t:Tw)(c key ar high:Int)(q:Nat)(b:Int):aX->List Own->Prop
 |p {qm:Nat}{m8 al co ly ins}{n:Nat}{ln p ref:Int}{σ lm}(hn:n<=3)(hl:ln=1\/ln=23)(h:tg t.l.e c qm σ lm)(ho:σ.over=false):ij t c key ar high q b (.p σ n) (.obj q (.row (t.rF c ln (.ptr qm 0) p m8 b 0 key ar high n al co ref ly ins))::lm)
 |a {qm:Nat}{mf m8 co ly ins}{n:Nat}{p ref:Int}{σ lm}(hn:n<=3)(hp:0<=p/\p<4294967296)(h:iO t.l.a qm σ lm)(ho:σ.over=false):ij t c key ar high q b (.a σ n p) (.obj q (.row (t.rF c 2 mf p m8 b 0 key ar high n (.ptr qm 0) co ref ly ins))::lm)
 |c {qm:Nat}{mf m8 al ly ins}{n:Nat}{p ref:Int}{σ lm}(hn:n<=3)(hp:0<=p/\p<4294967296)(h:ox t.l c p qm σ lm)(ho:σ.over=false):ij t c key ar high q b (.c σ n p) (.obj q (.row (t.rF c 21 mf p m8 b 0 key ar high n al (.ptr qm 0) ref ly ins))::lm)
 |l {qm:Nat}{mf al co ly ins}{n:Nat}{p ref:Int}{σ lm}(hn:n<=3)(h:mN t.l.e c qm σ lm)(ho:σ.over=false):ij t c key ar high q b (.l σ n) (.obj q (.row (t.rF c 22 mf p (.ptr qm 0) b 0 key ar high n al co ref ly ins))::lm)
 |y {qm k:Nat}{mf m8 al co ins}{n:Nat}{p i g bl:Int}{lm}(hr:t.rf i g)(h:pj t i g key ar high qm bl (.s k) lm):ij t c key ar high q b (.y (.s k) (aK i g)) (.obj q (.row (t.rF c 3 mf p m8 b 0 key ar high n al co (aK i g) (.ptr qm 0) ins))::lm)
 |i {qm:Nat}{mf m8 al co ly}{n:Nat}{p i g bi:Int}{σ lm}(hr:t.rf i g)(h:gA t i g key high qm bi σ lm)(ho:σ.over=false):ij t c key ar high q b (.i σ (aK i g)) (.obj q (.row (t.rF c 4 mf p m8 b 0 key ar high n al co (aK i g) ly (.ptr qm 0)))::lm)
 |u {qm:Nat}{mf al co ly ins}{n:Nat}{p ref e:Int}{σ lm}(h:mN t.l.e c qm σ lm)(ho:σ.over=false):ij t c key ar high q b (.u σ e) (.obj q (.row (t.rF c 5 mf p (.ptr qm 0) b e key ar high n al co ref ly ins))::lm)
 |d {mf m8 al co ly ins}{n:Nat}{p ref e:Int}:ij t c key ar high q b (.d e) [.obj q (.row (t.rF c 9 mf p m8 b e key ar high n al co ref ly ins))]
theorem gA.cY {t}{i g key high b:Int}{q:Nat}{σ l}(h:gA t i g key high q b σ l):∃(fd ret:AV) (ln lv w:Int) (is:Bool) (lf:List Own),l=.obj q (.row (t.oY (aK i g) key i high fd ret ln lv w b is 0))::lf:=by
 cases h<;>exact⟨_,_,_,_,_,_,_,rfl⟩
theorem pj.cY {t}{i g key ar high b:Int}{q:Nat}{σ l}(h:pj t i g key ar high q b σ l):∃(ln:Int),l=[.obj q (.row (t.KQ (aK i g) b key i ar high ln 0))]:=by
 cases h<;>exact⟨_,rfl⟩
section
variable{B0 S:AH}{W:List Nat}{own R lo:List Own}{ro:List aI}{m q:Nat}{vm:AV}{x:Me}{t:Tw}{c key ar high b:Int}
theorem CC {o1 own:List Own}(e:o1=own:=by conv=>lhs;simp only[Tw.rF,Tw.cs,Lb.cs,Ar.cs,Ep.cs,lA,lB,lC]):o1=own:=e
theorem Bb {σ:aX}(hs:t.ok)(hc:0<=c/\c<t.l.e.ad)(vK:(0<=ar/\ar<=65534)/\1<=high/\high<=t.ht)(hx:x.gd)(ho:σ.over=false)(DH:Me.aC key)(h:ij t c key ar high q b σ lo)(H:Cx B0 W S (lo++(ai m vm x++R)) ro):
  aN EM (zF 214) [.ptr q 0,.ptr m 0] S λu S'=>∃ab,fb (ij t c key ar high q (σ.cR t key)) aX.over (σ.step t c key ar high x) (ai m vm) R u ab/\Cx B0 W S' ab ro:=by
 have bt:=hs;unfold Tw.ok Lb.ok Ar.ok Sk.ok Ep.ok at bt;cases h with
 |@p qm m8 al co ly ins n ln p ref σ lm hn hl h hF=>
  refine y2 H CC ?_ ?_<;>intros
  all_goals
   refine Vx.f_ (A:=[_]) (λB W S H=>vV hs.2.2.2.2.2.1 hx h H) λa' x' l' e pG=>?_;have e2:(aX.p σ n).step t c key ar high x=(aX.Cj n a',x'):=by show(aX.Cj _ _,_)=_;rw[e]
   cases ho:a'.over
   .refine z1 ?_;intros;have e3:(aX.p σ n).step t c key ar high x=(.p a' n,x'):=e2.trans (Prod.ext (by cases pG<;>first|rfl|cases ho) rfl);exact aa e3 (.p hn hl pG ho) rfl HQ
   .cases pG with
    |a=>cases ho
    |b=>cases ho
    |c=>cases ho
    |d hp=>
     refine z1 ?_;intros;next p l' hA=>exact aa e2 (.a hn hp (show iO t.l.a p (.p .a) l' from hA) rfl) rfl HQ
 |@a qm mf m8 co ly ins n p ref σ lm hn hp h hF=>
  refine y1 H CC ?_;refine Vx.f_ (A:=[_]) (λB W S H=>Cw hs.2.2.2.2.1 hx h H) λa' x' l' e hl=>?_;have e2:(aX.a σ n p).step t c key ar high x=(aX.iY t c n p a',x'):=by show(aX.iY _ _ _ _ _,_)=_;rw[e]
  cases ho:a'.over
  .refine z1 ?_;have e3:(aX.a σ n p).step t c key ar high x=(.a a' n p,x'):=e2.trans (Prod.ext (by cases hl<;>first|rfl|cases ho) rfl);exact aa e3 (.a hn hp hl ho) rfl HQ
  .cases hl with
   |p _ h=>rw[show(cV.p _).over=false from rfl] at ho;cases ho
   |g=>cases ho
   |w=>cases ho
   |@d i' r e' qp hr=>
    have IB:cM.new t.l.e c=.a:=if_neg am;have hcn:ff.new t.l c p=.v .a:=if_neg am;by_cases he:e'=0
    .subst he;obtain⟨i2,g2,Vj,rfl⟩:=hr rfl;refine z2 ?_ ?_<;>intros
     all_goals first|exact⟨⟨bt.1,bt.2.1,bt.2.2.1,am,am⟩,Vj,vK⟩|skip
     next p l' hL=>exact aa (show _=(aX.y (.s 0) (aK i2 g2),x') from e2) (.y Vj (show pj t i2 g2 key ar high p 0 (.s 0) l' from hL)) rfl HQ
    .have e3:aX.iY t c n p (.d r e')=if e'=7/\n<3 then .c (.new t.l c p) (n+1) p else .u (.new t.l.e c) e':=if_neg he
     have TH:((n+1:Nat):Int)=(n:Int)+1:=am;refine z3 ?_ ?_ ?_<;>intros
     .next p2 l' hC=>
      have e4:aX.iY t c n p (.d r e')=.c (.v .a) (n+1) p:=by rw[e3,if_pos am,hcn]
      rw[<-TH];exact aa (e2.trans (Prod.ext e4 rfl)) (.c am hp (show ox t.l c p p2 (.v .a) l' from hC) rfl) rfl HQ
     all_goals
      have e4:aX.iY t c n p (.d r e')=.u .a e':=by rw[e3,if_neg am,IB]
      exact aa (e2.trans (Prod.ext e4 rfl)) (.u (lm:=[_]) (.a hc) rfl) rfl HQ
 |@c qm mf m8 al ly ins n p ref σ lm hn hp h hF=>
  refine y1 H CC ?_;refine Vx.f_ (A:=[_]) (λB W S H=>Ix hs.2.2.2.2 hx h H) λa' x' l' e hl=>?_;have IB:cM.new t.l.e c=.a:=if_neg am;have e2:(aX.c σ n p).step t c key ar high x=(if a'.over then .l .a n else .c a' n p,x'):=by show(if _ then aX.l (cM.new _ _) _ else _,_)=_;rw[IB,e]
  cases ho:a'.over
  .refine z1 ?_;exact aa (e2.trans (Prod.ext (if_neg (by rw[ho];simp)) rfl)) (.c hn hp hl ho) rfl HQ
  .refine z1 ?_;intros;all_goals exact aa (e2.trans (Prod.ext (if_pos ho) rfl)) (.l (lm:=[_]) hn (.a hc) rfl) rfl HQ
 |@l qm mf al co ly ins n p ref σ lm hn h hF=>
  refine y1 H CC ?_;refine Vx.f_ (A:=[_]) (λB W S H=>mO hs.2.2.2.2.2.1 hx h H) λa' x' l' e hl=>?_;have IB:nk.new t.l.e c=.a:=if_neg am;have e2:(aX.l σ n).step t c key ar high x=(if a'.over then .p .a n else .l a' n,x'):=by show(if _ then aX.p (nk.new _ _) _ else _,_)=_;rw[IB,e]
  cases ho:a'.over
  .refine z1 ?_;exact aa (e2.trans (Prod.ext (if_neg (by rw[ho];simp)) rfl)) (.l hn hl ho) rfl HQ
  .refine z1 ?_;intros;all_goals exact aa (e2.trans (Prod.ext (if_pos ho) rfl)) (.p (lm:=[_]) hn (.inr rfl) (.a hc) rfl) rfl HQ
 |@y qm k mf m8 al co ins n p i g bl lm hr h=>
  have TI:=bt.2.2.1;refine y1 H CC ?_;refine Vx.f_ (A:=[_]) (λB W S H=>Iy hs hr ⟨vK.1.1,vK.1.2,am,am⟩ hx h H) λa' x' l' e hl=>?_;have e2:(aX.y (.s k) (aK i g)).step t c key ar high x=(if a'.over then .i (.f (.new t)) (aK i g) else .y a' (aK i g),x'):=by show(_,_)=_;rw[e]
  obtain⟨KS,rfl⟩:=hl.cY;simp only[Tw.KQ,Tw.cs,Lb.cs,Ar.cs,Ep.cs,lA,lB];cases ho:a'.over
  .refine z1 ?_;cases a' with
   |d=>cases ho
   |s k2=>exact aa (show _=(aX.y (.s k2) (aK i g),x') from e2) (.y hr hl) rfl HQ
  .refine z2 ?_ ?_<;>intros
   all_goals first|exact⟨⟨bt.1,bt.2.1,bt.2.2.1,am,am⟩,hr,vK.2⟩|skip
   next p l' hI=>exact aa (e2.trans (Prod.ext (if_pos ho) rfl)) (.i hr (show gA t i g key high p 0 (.f (.new t)) l' from hI) rfl) rfl HQ
 |@i qm mf m8 al co ly n p i g bi σ lm hr h hF=>
  refine y1 H CC ?_;refine Vx.f_ (A:=[_]) (λB W S H=>IA hs hr vK.2 hx hF DH h H) λa' x' l' e hl=>?_;have IB:cM.new t.l.e c=.a:=if_neg am;have e2:(aX.i σ (aK i g)).step t c key ar high x=(if a'.over then .u .a 0 else .i a' (aK i g),x'):=by show(if _ then aX.u (cM.new _ _) _ else _,_)=_;rw[IB,e]
  obtain⟨fd,ret,KS,FJ,w2,is2,Mq,rfl⟩:=hl.cY;simp only[Tw.oY,Tw.cs,Lb.cs,Ar.cs,Ep.cs,lA,lB];cases ho:a'.over
  .refine z1 ?_;exact aa (e2.trans (Prod.ext (if_neg (by rw[ho];simp)) rfl)) (.i hr hl ho) rfl HQ
  .refine z1 ?_;intros;all_goals exact aa (e2.trans (Prod.ext (if_pos ho) rfl)) (.u (lm:=[_]) (.a hc) rfl) rfl HQ
 |@u qm mf al co ly ins n p ref er σ lm h hF=>
  refine y1 H CC ?_;refine Vx.f_ (A:=[_]) (λB W S H=>mO hs.2.2.2.2.2.1 hx h H) λa' x' l' e hl=>?_;have e2:(aX.u σ er).step t c key ar high x=(if a'.over then .d er else .u a' er,x'):=by show(_,_)=_;rw[e]
  cases ho:a'.over
  .refine z1 ?_;exact aa (e2.trans (Prod.ext (if_neg (by rw[ho];simp)) rfl)) (.u hl ho) rfl HQ
  .refine z1 ?_;exact aa (e2.trans (Prod.ext (if_pos ho) rfl)) .d rfl HQ
 |d=>cases ho
end
end Go.cG
