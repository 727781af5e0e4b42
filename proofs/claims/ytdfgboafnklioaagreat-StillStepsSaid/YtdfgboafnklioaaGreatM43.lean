/- Contracts. Conditions: in each theorem. -/
import Derived.Test.YtdfgboafnklioaaGreatM42
import Derived.Test.YtdfgboafnklioaaGreatM11
import Derived.Test.YtdfgboafnklioaaGreatM12
set_option linter.all false
set_option maxRecDepth 100000
set_option maxHeartbeats 4000000
namespace Go.cI
open Go.Proofs
instance ab2 {n:Nat}[Mn n [519,520,521,431,432,433,434,435,306,437]]:cA n where
def Tw.lE (t:Tw)(look:Bool)(ln a w i lv key A:Int)(fd rt:AV)(is:Bool)(r e:Int):List AV:=t.cs++[B look,I ln,U a,U w,I i,I lv,U key,I A,fd,rt,B is,U r,I e]
inductive gX (t:Tw)(look:Bool)(q:Nat)(b:Int):b9->List Own->Prop
 |a {lv a i w:Int}{is:Bool}{fd rt}:gX t look q b .a [.obj q (.row (t.lE look 1 a w i lv 0 0 fd rt is b 0))]
 |b {lv a i w:Int}{is:Bool}{fd rt}(h:t.tT a i):gX t look q b (.b a i) [.obj q (.row (t.lE look 2 a w i lv 0 0 fd rt is b 0))]
 |c {lv a i w:Int}{is:Bool}{fd rt}(ha:Me.au a)(hw:Me.au w)(hm:9223372036854775808<=w):gX t look q b (.c a w) [.obj q (.row (t.lE look 3 a w i lv 0 0 fd rt is b 0))]
 |m {lv a i w:Int}{is:Bool}{fd rt}(h:t.tT a i):gX t look q b (.m a i) [.obj q (.row (t.lE look 4 a w i lv 0 0 fd rt is b 0))]
 |n {lv a i w:Int}{is:Bool}{l:Nat}{fd rt}(h:t.tT a i)(hv:lv=l)(hl:1<=lv/\lv<t.ht):gX t look q b (.n a i l) [.obj q (.row (t.lE look 5 a w i lv 0 0 fd rt is b 0))]
 |o {lv a i w:Int}{is:Bool}{l:Nat}{fd rt}(h:t.tT a i)(hv:lv=l)(hl:1<=lv/\lv<t.ht)(hw:Me.au w)(hm:¬9223372036854775808<=w):gX t look q b (.o a i l w) [.obj q (.row (t.lE look 6 a w i lv 0 0 fd rt is b 0))]
 |k {lv a i w:Int}{is:Bool}{fd rt}(h:t.tT a i):gX t look q b (.k a i) [.obj q (.row (t.lE look 7 a w i lv 0 0 fd rt is b 0))]
 |h {lv a i w:Int}{is:Bool}{fd rt}(h:t.tT a i)(hw:Me.au w)(hm:¬9223372036854775808<=w):gX t look q b (.h a i w) [.obj q (.row (t.lE look 8 a w i lv 0 0 fd rt is b 0))]
 |r {lv a i w:Int}{is:Bool}{fd rt}(h:t.tT a i):gX t look q b (.r a i) [.obj q (.row (t.lE look 9 a w i lv 0 0 fd rt is b 0))]
 |j {lv a i w key:Int}{is:Bool}{fd rt}(h:t.tT a i)(hk:Me.au key):gX t look q b (.j a i key) [.obj q (.row (t.lE look 91 a w i lv key 0 fd rt is b 0))]
 |f {lv a i w key aq bf:Int}{is:Bool}{rt}{qf:Nat}{F lf}(h:t.tT a i)(hk:Me.au key)(hF:bq t key qf bf F lf)(ho:F.over=false):gX t look q b (.f a i key aq F) (.obj q (.row (t.lE look 10 a w i lv key aq (.ptr qf 0) rt is b 0))::lf)
 |g {lv a i w key aq:Int}{is:Bool}{fd rt}(h:t.tT a i)(hk:Me.au key):gX t look q b (.g a i key aq) [.obj q (.row (t.lE look 11 a w i lv key aq fd rt is b 0))]
 |w {lv a i w key aq:Int}{is:Bool}{fd}{qr:Nat}{σ lr}(hi:0<=i/\i<t.l.a.f.size)(hk:Me.au key)(h:sP t.l i qr σ lr)(ho:σ.over=false):gX t look q b (.w i key aq σ) (.obj q (.row (t.lE look 92 a w i lv key aq fd (.ptr qr 0) is b 0))::lr)
 |d {lv a i w key aq e:Int}{is:Bool}{fd rt}:gX t look q b (.d key aq e) [.obj q (.row (t.lE look 99 a w i lv key aq fd rt is b e))]
section
variable{B0 S:AH}{W:List Nat}{own R lo:List Own}{ro:List aF}{m q:Nat}{vm:AV}{x:Me}{t:Tw}{b:Int}{look:Bool}
theorem rW {o1 own:List Own}(e:o1=own:=by conv=>lhs;simp only[Tw.lE,Tw.pz,Cy,Tw.cs,Lb.cs,Ar.cs,Ep.cs,lA,lB,lC]):o1=own:=e
theorem DI {σ:b9}(hs:t.ok)(hx:x.gd)(ho:σ.over=false)(h:gX t look q b σ lo)(H:Cx B0 W S (lo++(ai m vm x++R)) ro):
  aG EM (zF 305) [.ptr q 0,.ptr m 0] S λu S'=>∃ab,eH (gX t look q σ.cG) b9.over (σ.step t look x) (ai m vm) R u ab/\Cx B0 W S' ab ro:=by
 have aZ:=hs;unfold Tw.ok Lb.ok Ar.ok Sk.ok Ep.ok at aZ;cases h with
 |@a lv a i w is fd rt=>
  have hb:=Me.aj hx (t.nx (-1) 0);refine y2 H rW ?_ ?_<;>intros
  .next h1=>exact aa (Prod.ext (if_pos h1) rfl) .d rfl HQ
  .next h1=>exact aa (Prod.ext (if_neg h1) rfl) (.b ⟨hb,rfl,Int.not_lt.1 h1⟩) rfl HQ
 |@b lv a i w is fd rt h=>
  have hi:=Tw.dU h am;have hn:t.nx i 0=t.pt i 4:=by unfold Tw.nx;rw[if_neg am];rfl
  have hb:=Me.aj hx (t.pt i 4);have e2:(b9.b a i).step t look x=(if 9223372036854775808<=x.word (t.pt i 4) then .c a (x.word (t.pt i 4)) else if look then .r a i else .m a i,x.ld (t.pt i 4)):=by rw[<-hn];rfl
  refine y3 H rW ?_ ?_ ?_<;>intros
  .next h1=>exact aa (e2.trans (Prod.ext (if_pos h1) rfl)) (.c h.1 hb h1) rfl HQ
  .next h1 h2=>subst h2;exact aa (e2.trans (Prod.ext (if_neg h1) rfl)) (.r h) rfl HQ
  .next h1 h2=>subst h2;exact aa (e2.trans (Prod.ext (if_neg h1) rfl)) (.m h) rfl HQ
 |@c lv a i w is fd rt ha hw hm=>
  have e1:(w-9223372036854775808)%18446744073709551616=w-9223372036854775808:=by unfold Me.au at*;omega
  refine y1 H rW ?_;all_goals rw[e1]
  all_goals exact aa rfl .a rfl HQ
 |@m lv a i w is fd rt h=>
  have hi:=Tw.dU h am;have hb:=Me.aj hx (t.pt i 2);have zp:Me.au (x.word (pH t.nd t.ht i 2)):=hb;have e1:t.ht%18446744073709551616=t.ht:=am;unfold Me.au at zp;refine y4 H rW ?_ ?_ ?_ ?_<;>intros
  all_goals(try rw[e1] at*)
  .next h1 h2=>
   have e:(b9.m a i).step t look x=(.k a i,x.ld (t.pt i 2)):=by show(b9.below a i (min (x.word (pH t.nd t.ht i 2)) t.ht).toNat,_)=_;unfold b9.below;rw[if_pos am]
   exact aa e (.k h) rfl HQ
  .next h1 h2=>
   have e:(b9.m a i).step t look x=(.n a i ((min (x.word (pH t.nd t.ht i 2)) t.ht).toNat-1),x.ld (t.pt i 2)):=by show(b9.below a i (min (x.word (pH t.nd t.ht i 2)) t.ht).toNat,_)=_;unfold b9.below;rw[if_neg am]
   exact aa e (.n (lv:=x.word (pH t.nd t.ht i 2)-1) h am ⟨am,am⟩) rfl HQ
  .next h1 h2=>
   have e:(b9.m a i).step t look x=(.k a i,x.ld (t.pt i 2)):=by show(b9.below a i (min (x.word (pH t.nd t.ht i 2)) t.ht).toNat,_)=_;unfold b9.below;rw[if_pos am]
   exact aa e (.k h) rfl HQ
  .next h1 h2=>
   have e:(b9.m a i).step t look x=(.n a i ((min (x.word (pH t.nd t.ht i 2)) t.ht).toNat-1),x.ld (t.pt i 2)):=by show(b9.below a i (min (x.word (pH t.nd t.ht i 2)) t.ht).toNat,_)=_;unfold b9.below;rw[if_neg am]
   exact aa e (.n (lv:=t.ht-1) h am ⟨am,am⟩) rfl HQ
 |@n lv a i w is l fd rt h hv hl=>
  subst hv;have hi:=Tw.dU h am;have hn:t.nx i l=t.pt i (4+l):=by unfold Tw.nx;rw[if_neg am]
  have hb:=Me.aj hx (t.pt i (4+l));refine y3 H rW ?_ ?_ ?_<;>intros
  .next h1 h2=>
   have e:(b9.n a i l).step t look x=(.k a i,x.ld (t.pt i (4+l))):=by show(if _<=x.word (t.nx i l) then b9.below a i l else _,x.ld (t.nx i l))=_;unfold b9.below;rw[hn,if_pos (show 9223372036854775808<=x.word (t.pt i (4+l)) from h1),if_pos am]
   exact aa e (.k h) rfl HQ
  .next h1 h2=>
   have e:(b9.n a i l).step t look x=(.n a i (l-1),x.ld (t.pt i (4+l))):=by show(if _<=x.word (t.nx i l) then b9.below a i l else _,x.ld (t.nx i l))=_;unfold b9.below;rw[hn,if_pos (show 9223372036854775808<=x.word (t.pt i (4+l)) from h1),if_neg am]
   exact aa e (.n (lv:=(l:Int)-1) h am ⟨am,am⟩) rfl HQ
  .next h1=>
   have e:(b9.n a i l).step t look x=(.o a i l (x.word (t.pt i (4+l))),x.ld (t.pt i (4+l))):=by show(if _<=x.word (t.nx i l) then b9.below a i l else .o a i l (x.word (t.nx i l)),x.ld (t.nx i l))=_;rw[hn,if_neg (show¬9223372036854775808<=x.word (t.pt i (4+l)) from h1)]
   exact aa e (.o h rfl hl hb h1) rfl HQ
 |@o lv a i w is l fd rt h hv hl hw hm=>
  subst hv;have hi:=Tw.dU h am;have hn:t.nx i l=t.pt i (4+l):=by unfold Tw.nx;rw[if_neg am]
  have e1:(w+9223372036854775808)%18446744073709551616=w+9223372036854775808:=by unfold Me.au at*;omega
  have e2:(b9.o a i l w).step t look x=(if x.eq (t.nx i l) w then b9.below a i l else .n a i l,x.ez (t.nx i l) w (w+9223372036854775808)):=rfl;refine y3 H rW ?_ ?_ ?_<;>intros
  all_goals rw[e1]
  .next h1 h2=>have e3:b9.below a i l=.k a i:=if_pos am;exact aa (e2.trans (Prod.ext ((if_pos h1).trans e3) rfl)) (.k h) rfl HQ
  .next h1 h2=>have e3:b9.below a i l=.n a i (l-1):=if_neg am;exact aa (e2.trans (Prod.ext ((if_pos h1).trans e3) rfl)) (.n (lv:=(l:Int)-1) h am ⟨am,am⟩) rfl HQ
  .next h1=>exact aa (e2.trans (Prod.ext (if_neg h1) rfl)) (.n h rfl hl) rfl HQ
 |@k lv a i w is fd rt h=>
  have hi:=Tw.dU h am;have hn:t.nx i 0=t.pt i 4:=by unfold Tw.nx;rw[if_neg am];rfl
  have hb:=Me.aj hx (t.pt i 4);have e2:(b9.k a i).step t look x=(if 9223372036854775808<=x.word (t.pt i 4) then .c a (x.word (t.pt i 4)) else .h a i (x.word (t.pt i 4)),x.ld (t.pt i 4)):=by rw[<-hn];rfl
  refine y2 H rW ?_ ?_<;>intros
  .next h1=>exact aa (e2.trans (Prod.ext (if_pos h1) rfl)) (.c h.1 hb h1) rfl HQ
  .next h1=>exact aa (e2.trans (Prod.ext (if_neg h1) rfl)) (.h h hb h1) rfl HQ
 |@h lv a i w is fd rt h hw hm=>
  have hi:=Tw.dU h am;have hn:Ci t.nd t.hd t.ht i 0=t.nx i 0:=rfl;have e1:(w+9223372036854775808)%18446744073709551616=w+9223372036854775808:=by unfold Me.au at*;omega
  refine y2 H rW ?_ ?_<;>intros
  all_goals rw[e1]
  .next h1=>exact aa (Prod.ext (if_pos h1) rfl) (.r h) rfl HQ
  .next h1=>exact aa (Prod.ext (if_neg h1) rfl) (.k h) rfl HQ
 |@r lv a i w is fd rt h=>
  have hi:=Tw.dU h am;refine y1 H rW ?_;exact aa rfl (.j h (Me.aj hx _)) rfl HQ
 |@j lv a i w key is fd rt h hk=>
  have hi:=Tw.dU h am;have hb:=Me.aj hx (t.pt i 1);have zp:0<=x.word (pH t.nd t.ht i 1):=hb.1;have e2:(b9.j a i key).step t look x=(if look then .d key (x.word (t.pt i 1)%65536) 0 else .f a i key (x.word (t.pt i 1)%65536) (.new t),x.ld (t.pt i 1)):=rfl;refine y2 H rW ?_ ?_<;>intros
  .next h1 p l' hF=>
   have h2:look=false:=by simpa using h1
   subst h2;have e3:(b9.j a i key).step t false x=(.f a i key (x.word (t.pt i 1)%65536) (.new t),x.ld (t.pt i 1)):=rfl;exact aa e3 (.f h hk (show bq t key p 0 (.new t) l' from hF) rfl) rfl HQ
  .next h1=>
   have h2:look=true:=by simpa using h1
   subst h2;have e3:(b9.j a i key).step t true x=(.d key (x.word (t.pt i 1)%65536) 0,x.ld (t.pt i 1)):=rfl;exact aa e3 .d rfl HQ
 |@f lv a i w key aq bf is rt qf F lf h hk hF X9=>
  refine y1 H rW ?_;refine Vx.fy (A:=[_]) (λB W S H=>n9 hs hx X9 hk hF H) λa' x' l' e hl=>?_;have e2:(b9.f a i key aq F).step t look x=(if a'.over then .g a i key aq else .f a i key aq a',x'):=by show(_,_)=_;rw[e]
  have og:=hl.row;obtain⟨ln,Fm,pred,known,cur,w2,qp,qs,qk,k,T2,rfl⟩:=og;simp only[Tw.pz,Cy,Tw.cs,Lb.cs,Ar.cs,Ep.cs,lA,lB];cases ho:a'.over
  .refine z1 ?_;exact aa (e2.trans (Prod.ext (if_neg (by rw[ho];simp)) rfl)) (.f h hk hl ho) rfl HQ
  .refine z1 ?_;exact aa (e2.trans (Prod.ext (if_pos ho) rfl)) (.g h hk) rfl HQ
 |@g lv a i w key aq is fd rt h hk=>
  have hi:=Tw.dU h am;have hn:gS.new t.l i=.a:=if_neg am;have e2:(b9.g a i key aq).step t look x=(if(x.add (t.pt i 3) 18446744073709551615).new=0 then .w i key aq .a else .d key aq 0,x.add (t.pt i 3) 18446744073709551615):=by show(if(x.add (t.pt i _) _).new=0 then b9.w _ _ _ (gS.new _ i) else _,x.add (t.pt i _) _)=_;rw[hn]
  refine y2 H rW ?_ ?_<;>intros
  .next h1 p1 p2 h2 h3=>exact aa (e2.trans (Prod.ext (if_pos h1) rfl)) (.w hi hk (.a hi) rfl) rfl HQ
  .next h1=>exact aa (e2.trans (Prod.ext (if_neg h1) rfl)) .d rfl HQ
 |@w lv a i w key aq is fd qr σ lr hi hk h hF=>
  refine y1 H rW ?_;refine Vx.fy (A:=[_]) (λB W S H=>Bb hs.2.2.2.2 hx h H) λa' x' l' e hl=>?_;have e2:(b9.w i key aq σ).step t look x=(if a'.over then .d key aq 0 else .w i key aq a',x'):=by show(if(σ.step t.l i x).1.over then _ else _,(σ.step t.l i x).2)=_;rw[e]
  cases ho:a'.over
  .refine z1 ?_;exact aa (e2.trans (Prod.ext (if_neg (by rw[ho];simp)) rfl)) (.w hi hk hl ho) rfl HQ
  .refine z1 ?_;exact aa (e2.trans (Prod.ext (if_pos ho) rfl)) .d rfl HQ
 |d=>cases ho
end
section
variable{nd hd ht c3 c4 n c6 c7 c8 c9 dG cZ dF:Int}
instance ab3:cA 465 where
instance YU:NC EM (zF 526) [.agg [I nd,I hd,I ht,I c3,I c4,I n,I c6,I c7,I c8,I c9,I dG,I cZ,I dF]] ((0<=nd/\nd<4096)/\(0<=hd/\hd<4096)/\(1<=ht/\ht<=4)/\1<=n/\n<=128)
  (λp l=>gX ⟨nd,hd,ht,⟨⟨⟨c3,c4,n⟩,c6,c7,c8⟩,⟨c9,dG,cZ⟩,dF⟩⟩ true p 0 .a l):=.of rfl rfl λh ro R=>by
 show Zx EM false (Tryz.a526 _) _ _ _ _;refine z1 ?_;intros;exact⟨rfl,rfl,(_::R),⟨_,_,gX.a,rfl,rfl⟩,HQ⟩
instance YV:NC EM (zF 465) [.agg [I nd,I hd,I ht,I c3,I c4,I n,I c6,I c7,I c8,I c9,I dG,I cZ,I dF]] ((0<=nd/\nd<4096)/\(0<=hd/\hd<4096)/\(1<=ht/\ht<=4)/\1<=n/\n<=128)
  (λp l=>gX ⟨nd,hd,ht,⟨⟨⟨c3,c4,n⟩,c6,c7,c8⟩,⟨c9,dG,cZ⟩,dF⟩⟩ false p 0 .a l):=.of rfl rfl λh ro R=>by
 show Zx EM false (Tryz.a465 _) _ _ _ _;refine z1 ?_;intros;exact⟨rfl,rfl,(_::R),⟨_,_,gX.a,rfl,rfl⟩,HQ⟩
end
section
variable{nd hd ht c3 c4 n c6 c7 c8 c9 dG cZ dF i g aq high key c p:Int}
instance VH:NC EM (zF 446) [.agg [I c3,I c4,I n,I c6,I c7,I c8]] True
  (λq l=>gr ⟨⟨c3,c4,n⟩,c6,c7,c8⟩ q (.p .a) l):=.of rfl rfl λh ro R=>by
 show Zx EM false (Tryz.a446 _) _ _ _ _;refine z1 ?_;intros;exact⟨rfl,rfl,(_::_::R),⟨_,_,gr.p (l:=[_]) .a rfl,rfl,rfl⟩,HQ⟩
instance VI:NC EM (zF 449) [.agg [I c3,I c4,I n,I c6,I c7,I c8,I c9,I dG,I cZ,I dF],I c,I p] ((0<=c/\c<cZ)/\(0<=p/\p<4294967296)/\0<=dF/\dF<50000)
  (λq l=>mH ⟨⟨⟨c3,c4,n⟩,c6,c7,c8⟩,⟨c9,dG,cZ⟩,dF⟩ c p q (.v .a) l):=.of rfl rfl λ⟨h,hp,ht⟩ ro R=>by
 have e1:(p+2)%18446744073709551616=p+2:=am;show Zx EM false (Tryz.a449 _) _ _ _ _;refine z1 ?_;intros;all_goals(try rw[e1])
 all_goals first|omega|skip
 exact⟨rfl,rfl,(_::_::_::R),⟨_,_,mH.v (la:=[_]) (lb:=[_]) hp (.a h) rfl .a,rfl,rfl⟩,HQ⟩
instance VJ:NC EM (zF 448) [.agg [I nd,I hd,I ht,I c3,I c4,I n,I c6,I c7,I c8,I c9,I dG,I cZ,I dF],U (aE i g),U key,I aq,I high] (((0<=nd/\nd<4096)/\(0<=hd/\hd<4096)/\(1<=ht/\ht<=4)/\1<=n/\n<=128)/\(db i g/\i<n)/\(0<=aq/\aq<=65534)/\1<=high/\high<=ht)
  (λq l=>nJ ⟨nd,hd,ht,⟨⟨⟨c3,c4,n⟩,c6,c7,c8⟩,⟨c9,dG,cZ⟩,dF⟩⟩ i g key aq high q 0 (.s 0) l):=.of rfl rfl λh ro R=>by
 obtain⟨h0,hi,hj,hh⟩:=h;have hx:=rR hi.1;have mK:idx n (aE i g)=i:=by unfold idx;rw[hx,if_pos hi.2]
 have hw:=kI hi.1;show Zx EM false (Tryz.a448 _) _ _ _ _;refine z2 ?_ ?_<;>intros
 all_goals first|exact⟨h0,hi,hh⟩|skip
 rw[mK];exact⟨rfl,rfl,(_::R),⟨_,_,nJ.s (k:=0) am,rfl,rfl⟩,HQ⟩
end
instance ab4 {n:Nat}[Mn n [186,304,307,338,340,219]]:cA n where
def Tw.qX (t:Tw)(c ln:Int)(lF:AV)(p:Int)(mI:AV)(b e key aq high n:Int)(al co:AV)(ref:Int)(ly ins:AV):List AV:=t.cs++[I c,I ln,lF,I p,mI,U b,I e,U key,I aq,I high,I n,al,co,U ref,ly,ins]
inductive gw (t:Tw)(c key aq high:Int)(q:Nat)(b:Int):aW->List Own->Prop
 |p {qm:Nat}{mI al co ly ins}{n:Nat}{ln p ref:Int}{σ lm}(hn:n<=3)(hl:ln=1\/ln=23)(h:qW t.l.e c qm σ lm)(ho:σ.over=false):gw t c key aq high q b (.p σ n) (.obj q (.row (t.qX c ln (.ptr qm 0) p mI b 0 key aq high n al co ref ly ins))::lm)
 |a {qm:Nat}{lF mI co ly ins}{n:Nat}{p ref:Int}{σ lm}(hn:n<=3)(hp:0<=p/\p<4294967296)(h:gr t.l.a qm σ lm)(ho:σ.over=false):gw t c key aq high q b (.a σ n p) (.obj q (.row (t.qX c 2 lF p mI b 0 key aq high n (.ptr qm 0) co ref ly ins))::lm)
 |c {qm:Nat}{lF mI al ly ins}{n:Nat}{p ref:Int}{σ lm}(hn:n<=3)(hp:0<=p/\p<4294967296)(h:mH t.l c p qm σ lm)(ho:σ.over=false):gw t c key aq high q b (.c σ n p) (.obj q (.row (t.qX c 21 lF p mI b 0 key aq high n al (.ptr qm 0) ref ly ins))::lm)
 |l {qm:Nat}{lF al co ly ins}{n:Nat}{p ref:Int}{σ lm}(hn:n<=3)(h:kh t.l.e c qm σ lm)(ho:σ.over=false):gw t c key aq high q b (.l σ n) (.obj q (.row (t.qX c 22 lF p (.ptr qm 0) b 0 key aq high n al co ref ly ins))::lm)
 |y {qm k:Nat}{lF mI al co ins}{n:Nat}{p i g bl:Int}{lm}(hr:t.rf i g)(h:nJ t i g key aq high qm bl (.s k) lm):gw t c key aq high q b (.y (.s k) (aE i g)) (.obj q (.row (t.qX c 3 lF p mI b 0 key aq high n al co (aE i g) (.ptr qm 0) ins))::lm)
 |i {qm:Nat}{lF mI al co ly}{n:Nat}{p i g bi:Int}{σ lm}(hr:t.rf i g)(h:fA t i g key high qm bi σ lm)(ho:σ.over=false):gw t c key aq high q b (.i σ (aE i g)) (.obj q (.row (t.qX c 4 lF p mI b 0 key aq high n al co (aE i g) ly (.ptr qm 0)))::lm)
 |u {qm:Nat}{lF al co ly ins}{n:Nat}{p ref e:Int}{σ lm}(h:kh t.l.e c qm σ lm)(ho:σ.over=false):gw t c key aq high q b (.u σ e) (.obj q (.row (t.qX c 5 lF p (.ptr qm 0) b e key aq high n al co ref ly ins))::lm)
 |d {lF mI al co ly ins}{n:Nat}{p ref e:Int}:gw t c key aq high q b (.d e) [.obj q (.row (t.qX c 9 lF p mI b e key aq high n al co ref ly ins))]
theorem fA.cS {t}{i g key high b:Int}{q:Nat}{σ l}(h:fA t i g key high q b σ l):∃(fd ret:AV) (ln lv w:Int) (is:Bool) (lf:List Own),l=.obj q (.row (t.om (aE i g) key i high fd ret ln lv w b is 0))::lf:=by
 cases h<;>exact⟨_,_,_,_,_,_,_,rfl⟩
theorem nJ.cS {t}{i g key aq high b:Int}{q:Nat}{σ l}(h:nJ t i g key aq high q b σ l):∃(ln:Int),l=[.obj q (.row (t.Km (aE i g) b key i aq high ln 0))]:=by
 cases h<;>exact⟨_,rfl⟩
section
variable{B0 S:AH}{W:List Nat}{own R lo:List Own}{ro:List aF}{m q:Nat}{vm:AV}{x:Me}{t:Tw}{c key aq high b:Int}
theorem Cz {o1 own:List Own}(e:o1=own:=by conv=>lhs;simp only[Tw.qX,Tw.cs,Lb.cs,Ar.cs,Ep.cs,lA,lB,lC]):o1=own:=e
theorem Bc {σ:aW}(hs:t.ok)(hc:0<=c/\c<t.l.e.ae)(tW:(0<=aq/\aq<=65534)/\1<=high/\high<=t.ht)(hx:x.gd)(ho:σ.over=false)(Dt:Me.au key)(h:gw t c key aq high q b σ lo)(H:Cx B0 W S (lo++(ai m vm x++R)) ro):
  aG EM (zF 214) [.ptr q 0,.ptr m 0] S λu S'=>∃ab,eH (gw t c key aq high q (σ.cG t key)) aW.over (σ.step t c key aq high x) (ai m vm) R u ab/\Cx B0 W S' ab ro:=by
 have aZ:=hs;unfold Tw.ok Lb.ok Ar.ok Sk.ok Ep.ok at aZ;cases h with
 |@p qm mI al co ly ins n ln p ref σ lm hn hl h hF=>
  refine y2 H Cz ?_ ?_<;>intros
  all_goals
   refine Vx.fy (A:=[_]) (λB W S H=>vI hs.2.2.2.2.2.1 hx h H) λa' x' l' e og=>?_;have e2:(aW.p σ n).step t c key aq high x=(aW.Cg n a',x'):=by show(aW.Cg _ _,_)=_;rw[e]
   cases ho:a'.over
   .refine z1 ?_;intros;have e3:(aW.p σ n).step t c key aq high x=(.p a' n,x'):=e2.trans (Prod.ext (by cases og<;>first|rfl|cases ho) rfl);exact aa e3 (.p hn hl og ho) rfl HQ
   .cases og with
    |a=>cases ho
    |b=>cases ho
    |c=>cases ho
    |d hp=>
     refine z1 ?_;intros;next p l' hA=>exact aa e2 (.a hn hp (show gr t.l.a p (.p .a) l' from hA) rfl) rfl HQ
 |@a qm lF mI co ly ins n p ref σ lm hn hp h hF=>
  refine y1 H Cz ?_;refine Vx.fy (A:=[_]) (λB W S H=>Ct hs.2.2.2.2.1 hx h H) λa' x' l' e hl=>?_;have e2:(aW.a σ n p).step t c key aq high x=(aW.iu t c n p a',x'):=by show(aW.iu _ _ _ _ _,_)=_;rw[e]
  cases ho:a'.over
  .refine z1 ?_;have e3:(aW.a σ n p).step t c key aq high x=(.a a' n p,x'):=e2.trans (Prod.ext (by cases hl<;>first|rfl|cases ho) rfl);exact aa e3 (.a hn hp hl ho) rfl HQ
  .cases hl with
   |p _ h=>rw[show(cO.p _).over=false from rfl] at ho;cases ho
   |g=>cases ho
   |w=>cases ho
   |@d i' r e' qp hr=>
    have H8:cB.new t.l.e c=.a:=if_neg am;have hcn:eJ.new t.l c p=.v .a:=if_neg am;by_cases he:e'=0
    .subst he;obtain⟨i2,g2,hr2,rfl⟩:=hr rfl;refine z2 ?_ ?_<;>intros
     all_goals first|exact⟨⟨aZ.1,aZ.2.1,aZ.2.2.1,am,am⟩,hr2,tW⟩|skip
     next p l' hL=>exact aa (show _=(aW.y (.s 0) (aE i2 g2),x') from e2) (.y hr2 (show nJ t i2 g2 key aq high p 0 (.s 0) l' from hL)) rfl HQ
    .have e3:aW.iu t c n p (.d r e')=if e'=7/\n<3 then .c (.new t.l c p) (n+1) p else .u (.new t.l.e c) e':=if_neg he
     have YW:((n+1:Nat):Int)=(n:Int)+1:=am;refine z3 ?_ ?_ ?_<;>intros
     .next p2 l' hC=>
      have e4:aW.iu t c n p (.d r e')=.c (.v .a) (n+1) p:=by rw[e3,if_pos am,hcn]
      rw[<-YW];exact aa (e2.trans (Prod.ext e4 rfl)) (.c am hp (show mH t.l c p p2 (.v .a) l' from hC) rfl) rfl HQ
     all_goals
      have e4:aW.iu t c n p (.d r e')=.u .a e':=by rw[e3,if_neg am,H8]
      exact aa (e2.trans (Prod.ext e4 rfl)) (.u (lm:=[_]) (.a hc) rfl) rfl HQ
 |@c qm lF mI al ly ins n p ref σ lm hn hp h hF=>
  refine y1 H Cz ?_;refine Vx.fy (A:=[_]) (λB W S H=>H4 hs.2.2.2.2 hx h H) λa' x' l' e hl=>?_;have H8:cB.new t.l.e c=.a:=if_neg am;have e2:(aW.c σ n p).step t c key aq high x=(if a'.over then .l .a n else .c a' n p,x'):=by show(if _ then aW.l (cB.new _ _) _ else _,_)=_;rw[H8,e]
  cases ho:a'.over
  .refine z1 ?_;exact aa (e2.trans (Prod.ext (if_neg (by rw[ho];simp)) rfl)) (.c hn hp hl ho) rfl HQ
  .refine z1 ?_;intros;all_goals exact aa (e2.trans (Prod.ext (if_pos ho) rfl)) (.l (lm:=[_]) hn (.a hc) rfl) rfl HQ
 |@l qm lF al co ly ins n p ref σ lm hn h hF=>
  refine y1 H Cz ?_;refine Vx.fy (A:=[_]) (λB W S H=>mo hs.2.2.2.2.2.1 hx h H) λa' x' l' e hl=>?_;have H8:mQ.new t.l.e c=.a:=if_neg am;have e2:(aW.l σ n).step t c key aq high x=(if a'.over then .p .a n else .l a' n,x'):=by show(if _ then aW.p (mQ.new _ _) _ else _,_)=_;rw[H8,e]
  cases ho:a'.over
  .refine z1 ?_;exact aa (e2.trans (Prod.ext (if_neg (by rw[ho];simp)) rfl)) (.l hn hl ho) rfl HQ
  .refine z1 ?_;intros;all_goals exact aa (e2.trans (Prod.ext (if_pos ho) rfl)) (.p (lm:=[_]) hn (.inr rfl) (.a hc) rfl) rfl HQ
 |@y qm k lF mI al co ins n p i g bl lm hr h=>
  have hb4:=aZ.2.2.1;refine y1 H Cz ?_;refine Vx.fy (A:=[_]) (λB W S H=>H5 hs hr ⟨tW.1.1,tW.1.2,am,am⟩ hx h H) λa' x' l' e hl=>?_;have e2:(aW.y (.s k) (aE i g)).step t c key aq high x=(if a'.over then .i (.f (.new t)) (aE i g) else .y a' (aE i g),x'):=by show(_,_)=_;rw[e]
  obtain⟨Ko,rfl⟩:=hl.cS;simp only[Tw.Km,Tw.cs,Lb.cs,Ar.cs,Ep.cs,lA,lB];cases ho:a'.over
  .refine z1 ?_;cases a' with
   |d=>cases ho
   |s k2=>exact aa (show _=(aW.y (.s k2) (aE i g),x') from e2) (.y hr hl) rfl HQ
  .refine z2 ?_ ?_<;>intros
   all_goals first|exact⟨⟨aZ.1,aZ.2.1,aZ.2.2.1,am,am⟩,hr,tW.2⟩|skip
   next p l' hI=>exact aa (e2.trans (Prod.ext (if_pos ho) rfl)) (.i hr (show fA t i g key high p 0 (.f (.new t)) l' from hI) rfl) rfl HQ
 |@i qm lF mI al co ly n p i g bi σ lm hr h hF=>
  refine y1 H Cz ?_;refine Vx.fy (A:=[_]) (λB W S H=>H7 hs hr tW.2 hx hF Dt h H) λa' x' l' e hl=>?_;have H8:cB.new t.l.e c=.a:=if_neg am;have e2:(aW.i σ (aE i g)).step t c key aq high x=(if a'.over then .u .a 0 else .i a' (aE i g),x'):=by show(if _ then aW.u (cB.new _ _) _ else _,_)=_;rw[H8,e]
  obtain⟨fd,ret,Ko,Fm,w2,is2,LZ,rfl⟩:=hl.cS;simp only[Tw.om,Tw.cs,Lb.cs,Ar.cs,Ep.cs,lA,lB];cases ho:a'.over
  .refine z1 ?_;exact aa (e2.trans (Prod.ext (if_neg (by rw[ho];simp)) rfl)) (.i hr hl ho) rfl HQ
  .refine z1 ?_;intros;all_goals exact aa (e2.trans (Prod.ext (if_pos ho) rfl)) (.u (lm:=[_]) (.a hc) rfl) rfl HQ
 |@u qm lF al co ly ins n p ref er σ lm h hF=>
  refine y1 H Cz ?_;refine Vx.fy (A:=[_]) (λB W S H=>mo hs.2.2.2.2.2.1 hx h H) λa' x' l' e hl=>?_;have e2:(aW.u σ er).step t c key aq high x=(if a'.over then .d er else .u a' er,x'):=by show(_,_)=_;rw[e]
  cases ho:a'.over
  .refine z1 ?_;exact aa (e2.trans (Prod.ext (if_neg (by rw[ho];simp)) rfl)) (.u hl ho) rfl HQ
  .refine z1 ?_;exact aa (e2.trans (Prod.ext (if_pos ho) rfl)) .d rfl HQ
 |d=>cases ho
end
end Go.cI
