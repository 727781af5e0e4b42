/- Contracts. Conditions: in each theorem. -/
import Derived.Test.YtdfgboafnklioaaGreatM42
import Derived.Test.YtdfgboafnklioaaGreatM11
import Derived.Test.YtdfgboafnklioaaGreatM12
set_option linter.all false
set_option maxRecDepth 100000
set_option maxHeartbeats 4000000
namespace Go.cO
open Go.Proofs
instance ab0 {n:Nat}[Mn n [519,520,521,431,432,433,434,435,306,437]]:cH n where
def Tw.l8 (t:Tw)(look:Bool)(ln a w i lv key A:Int)(fd rt:AV)(is:Bool)(r e:Int):List AV:=t.cs++[B look,I ln,U a,U w,I i,I lv,U key,I A,fd,rt,B is,U r,I e]
inductive iE (t:Tw)(look:Bool)(q:Nat)(b:Int):cj->List Own->Prop
 |a {lv a i w:Int}{is:Bool}{fd rt}:iE t look q b .a [.obj q (.row (t.l8 look 1 a w i lv 0 0 fd rt is b 0))]
 |b {lv a i w:Int}{is:Bool}{fd rt}(h:t.tM a i):iE t look q b (.b a i) [.obj q (.row (t.l8 look 2 a w i lv 0 0 fd rt is b 0))]
 |c {lv a i w:Int}{is:Bool}{fd rt}(ha:Me.ar a)(hw:Me.ar w)(hm:9223372036854775808<=w):iE t look q b (.c a w) [.obj q (.row (t.l8 look 3 a w i lv 0 0 fd rt is b 0))]
 |m {lv a i w:Int}{is:Bool}{fd rt}(h:t.tM a i):iE t look q b (.m a i) [.obj q (.row (t.l8 look 4 a w i lv 0 0 fd rt is b 0))]
 |n {lv a i w:Int}{is:Bool}{l:Nat}{fd rt}(h:t.tM a i)(hv:lv=l)(hl:1<=lv/\lv<t.ht):iE t look q b (.n a i l) [.obj q (.row (t.l8 look 5 a w i lv 0 0 fd rt is b 0))]
 |o {lv a i w:Int}{is:Bool}{l:Nat}{fd rt}(h:t.tM a i)(hv:lv=l)(hl:1<=lv/\lv<t.ht)(hw:Me.ar w)(hm:¬9223372036854775808<=w):iE t look q b (.o a i l w) [.obj q (.row (t.l8 look 6 a w i lv 0 0 fd rt is b 0))]
 |k {lv a i w:Int}{is:Bool}{fd rt}(h:t.tM a i):iE t look q b (.k a i) [.obj q (.row (t.l8 look 7 a w i lv 0 0 fd rt is b 0))]
 |h {lv a i w:Int}{is:Bool}{fd rt}(h:t.tM a i)(hw:Me.ar w)(hm:¬9223372036854775808<=w):iE t look q b (.h a i w) [.obj q (.row (t.l8 look 8 a w i lv 0 0 fd rt is b 0))]
 |r {lv a i w:Int}{is:Bool}{fd rt}(h:t.tM a i):iE t look q b (.r a i) [.obj q (.row (t.l8 look 9 a w i lv 0 0 fd rt is b 0))]
 |j {lv a i w key:Int}{is:Bool}{fd rt}(h:t.tM a i)(hk:Me.ar key):iE t look q b (.j a i key) [.obj q (.row (t.l8 look 91 a w i lv key 0 fd rt is b 0))]
 |f {lv a i w key aq bf:Int}{is:Bool}{rt}{qf:Nat}{F lf}(h:t.tM a i)(hk:Me.ar key)(hF:bn t key qf bf F lf)(ho:F.over=false):iE t look q b (.f a i key aq F) (.obj q (.row (t.l8 look 10 a w i lv key aq (.ptr qf 0) rt is b 0))::lf)
 |g {lv a i w key aq:Int}{is:Bool}{fd rt}(h:t.tM a i)(hk:Me.ar key):iE t look q b (.g a i key aq) [.obj q (.row (t.l8 look 11 a w i lv key aq fd rt is b 0))]
 |w {lv a i w key aq:Int}{is:Bool}{fd}{qr:Nat}{σ lr}(hi:0<=i/\i<t.l.a.f.size)(hk:Me.ar key)(h:sR t.l i qr σ lr)(ho:σ.over=false):iE t look q b (.w i key aq σ) (.obj q (.row (t.l8 look 92 a w i lv key aq fd (.ptr qr 0) is b 0))::lr)
 |d {lv a i w key aq e:Int}{is:Bool}{fd rt}:iE t look q b (.d key aq e) [.obj q (.row (t.l8 look 99 a w i lv key aq fd rt is b e))]
section
variable{B0 S:AH}{W:List Nat}{own R lo:List Own}{ro:List aB}{m q:Nat}{vm:AV}{x:Me}{t:Tw}{b:Int}{look:Bool}
theorem rY {o1 own:List Own}(e:o1=own:=by conv=>lhs;simp only[Tw.l8,Tw.pW,Ck,Tw.cs,Lb.cs,Ar.cs,Ep.cs,lA,lB,lC]):o1=own:=e
theorem DB {σ:cj}(hs:t.ok)(hx:x.gd)(ho:σ.over=false)(h:iE t look q b σ lo)(H:Cx B0 W S (lo++(ai m vm x++R)) ro):
  aG EM (zF 305) [.ptr q 0,.ptr m 0] S λu S'=>∃ab,eW (iE t look q σ.cM) cj.over (σ.step t look x) (ai m vm) R u ab/\Cx B0 W S' ab ro:=by
 have bt:=hs;unfold Tw.ok Lb.ok Ar.ok Sk.ok Ep.ok at bt;cases h with
 |@a lv a i w is fd rt=>
  have hb:=Me.aj hx (t.nx (-1) 0);refine y2 H rY ?_ ?_<;>intros
  .next h1=>exact aa (Prod.ext (if_pos h1) rfl) .d rfl HQ
  .next h1=>exact aa (Prod.ext (if_neg h1) rfl) (.b ⟨hb,rfl,Int.not_lt.1 h1⟩) rfl HQ
 |@b lv a i w is fd rt h=>
  have hi:=Tw.eh h am;have hn:t.nx i 0=t.pt i 4:=by unfold Tw.nx;rw[if_neg am];rfl
  have hb:=Me.aj hx (t.pt i 4);have e2:(cj.b a i).step t look x=(if 9223372036854775808<=x.word (t.pt i 4) then .c a (x.word (t.pt i 4)) else if look then .r a i else .m a i,x.ld (t.pt i 4)):=by rw[<-hn];rfl
  refine y3 H rY ?_ ?_ ?_<;>intros
  .next h1=>exact aa (e2.trans (Prod.ext (if_pos h1) rfl)) (.c h.1 hb h1) rfl HQ
  .next h1 h2=>subst h2;exact aa (e2.trans (Prod.ext (if_neg h1) rfl)) (.r h) rfl HQ
  .next h1 h2=>subst h2;exact aa (e2.trans (Prod.ext (if_neg h1) rfl)) (.m h) rfl HQ
 |@c lv a i w is fd rt ha hw hm=>
  have e1:(w-9223372036854775808)%18446744073709551616=w-9223372036854775808:=by unfold Me.ar at*;omega
  refine y1 H rY ?_;all_goals rw[e1]
  all_goals exact aa rfl .a rfl HQ
 |@m lv a i w is fd rt h=>
  have hi:=Tw.eh h am;have hb:=Me.aj hx (t.pt i 2);have wQ:Me.ar (x.word (p9 t.nd t.ht i 2)):=hb;have e1:t.ht%18446744073709551616=t.ht:=am;unfold Me.ar at wQ;refine y4 H rY ?_ ?_ ?_ ?_<;>intros
  all_goals(try rw[e1] at*)
  .next h1 h2=>
   have e:(cj.m a i).step t look x=(.k a i,x.ld (t.pt i 2)):=by show(cj.below a i (min (x.word (p9 t.nd t.ht i 2)) t.ht).toNat,_)=_;unfold cj.below;rw[if_pos am]
   exact aa e (.k h) rfl HQ
  .next h1 h2=>
   have e:(cj.m a i).step t look x=(.n a i ((min (x.word (p9 t.nd t.ht i 2)) t.ht).toNat-1),x.ld (t.pt i 2)):=by show(cj.below a i (min (x.word (p9 t.nd t.ht i 2)) t.ht).toNat,_)=_;unfold cj.below;rw[if_neg am]
   exact aa e (.n (lv:=x.word (p9 t.nd t.ht i 2)-1) h am ⟨am,am⟩) rfl HQ
  .next h1 h2=>
   have e:(cj.m a i).step t look x=(.k a i,x.ld (t.pt i 2)):=by show(cj.below a i (min (x.word (p9 t.nd t.ht i 2)) t.ht).toNat,_)=_;unfold cj.below;rw[if_pos am]
   exact aa e (.k h) rfl HQ
  .next h1 h2=>
   have e:(cj.m a i).step t look x=(.n a i ((min (x.word (p9 t.nd t.ht i 2)) t.ht).toNat-1),x.ld (t.pt i 2)):=by show(cj.below a i (min (x.word (p9 t.nd t.ht i 2)) t.ht).toNat,_)=_;unfold cj.below;rw[if_neg am]
   exact aa e (.n (lv:=t.ht-1) h am ⟨am,am⟩) rfl HQ
 |@n lv a i w is l fd rt h hv hl=>
  subst hv;have hi:=Tw.eh h am;have hn:t.nx i l=t.pt i (4+l):=by unfold Tw.nx;rw[if_neg am]
  have hb:=Me.aj hx (t.pt i (4+l));refine y3 H rY ?_ ?_ ?_<;>intros
  .next h1 h2=>
   have e:(cj.n a i l).step t look x=(.k a i,x.ld (t.pt i (4+l))):=by show(if _<=x.word (t.nx i l) then cj.below a i l else _,x.ld (t.nx i l))=_;unfold cj.below;rw[hn,if_pos (show 9223372036854775808<=x.word (t.pt i (4+l)) from h1),if_pos am]
   exact aa e (.k h) rfl HQ
  .next h1 h2=>
   have e:(cj.n a i l).step t look x=(.n a i (l-1),x.ld (t.pt i (4+l))):=by show(if _<=x.word (t.nx i l) then cj.below a i l else _,x.ld (t.nx i l))=_;unfold cj.below;rw[hn,if_pos (show 9223372036854775808<=x.word (t.pt i (4+l)) from h1),if_neg am]
   exact aa e (.n (lv:=(l:Int)-1) h am ⟨am,am⟩) rfl HQ
  .next h1=>
   have e:(cj.n a i l).step t look x=(.o a i l (x.word (t.pt i (4+l))),x.ld (t.pt i (4+l))):=by show(if _<=x.word (t.nx i l) then cj.below a i l else .o a i l (x.word (t.nx i l)),x.ld (t.nx i l))=_;rw[hn,if_neg (show¬9223372036854775808<=x.word (t.pt i (4+l)) from h1)]
   exact aa e (.o h rfl hl hb h1) rfl HQ
 |@o lv a i w is l fd rt h hv hl hw hm=>
  subst hv;have hi:=Tw.eh h am;have hn:t.nx i l=t.pt i (4+l):=by unfold Tw.nx;rw[if_neg am]
  have e1:(w+9223372036854775808)%18446744073709551616=w+9223372036854775808:=by unfold Me.ar at*;omega
  have e2:(cj.o a i l w).step t look x=(if x.eq (t.nx i l) w then cj.below a i l else .n a i l,x.eL (t.nx i l) w (w+9223372036854775808)):=rfl;refine y3 H rY ?_ ?_ ?_<;>intros
  all_goals rw[e1]
  .next h1 h2=>have e3:cj.below a i l=.k a i:=if_pos am;exact aa (e2.trans (Prod.ext ((if_pos h1).trans e3) rfl)) (.k h) rfl HQ
  .next h1 h2=>have e3:cj.below a i l=.n a i (l-1):=if_neg am;exact aa (e2.trans (Prod.ext ((if_pos h1).trans e3) rfl)) (.n (lv:=(l:Int)-1) h am ⟨am,am⟩) rfl HQ
  .next h1=>exact aa (e2.trans (Prod.ext (if_neg h1) rfl)) (.n h rfl hl) rfl HQ
 |@k lv a i w is fd rt h=>
  have hi:=Tw.eh h am;have hn:t.nx i 0=t.pt i 4:=by unfold Tw.nx;rw[if_neg am];rfl
  have hb:=Me.aj hx (t.pt i 4);have e2:(cj.k a i).step t look x=(if 9223372036854775808<=x.word (t.pt i 4) then .c a (x.word (t.pt i 4)) else .h a i (x.word (t.pt i 4)),x.ld (t.pt i 4)):=by rw[<-hn];rfl
  refine y2 H rY ?_ ?_<;>intros
  .next h1=>exact aa (e2.trans (Prod.ext (if_pos h1) rfl)) (.c h.1 hb h1) rfl HQ
  .next h1=>exact aa (e2.trans (Prod.ext (if_neg h1) rfl)) (.h h hb h1) rfl HQ
 |@h lv a i w is fd rt h hw hm=>
  have hi:=Tw.eh h am;have hn:B6 t.nd t.hd t.ht i 0=t.nx i 0:=rfl;have e1:(w+9223372036854775808)%18446744073709551616=w+9223372036854775808:=by unfold Me.ar at*;omega
  refine y2 H rY ?_ ?_<;>intros
  all_goals rw[e1]
  .next h1=>exact aa (Prod.ext (if_pos h1) rfl) (.r h) rfl HQ
  .next h1=>exact aa (Prod.ext (if_neg h1) rfl) (.k h) rfl HQ
 |@r lv a i w is fd rt h=>
  have hi:=Tw.eh h am;refine y1 H rY ?_;exact aa rfl (.j h (Me.aj hx _)) rfl HQ
 |@j lv a i w key is fd rt h hk=>
  have hi:=Tw.eh h am;have hb:=Me.aj hx (t.pt i 1);have wQ:0<=x.word (p9 t.nd t.ht i 1):=hb.1;have e2:(cj.j a i key).step t look x=(if look then .d key (x.word (t.pt i 1)%65536) 0 else .f a i key (x.word (t.pt i 1)%65536) (.new t),x.ld (t.pt i 1)):=rfl;refine y2 H rY ?_ ?_<;>intros
  .next h1 p l' hF=>
   have h2:look=false:=by simpa using h1
   subst h2;have e3:(cj.j a i key).step t false x=(.f a i key (x.word (t.pt i 1)%65536) (.new t),x.ld (t.pt i 1)):=rfl;exact aa e3 (.f h hk (show bn t key p 0 (.new t) l' from hF) rfl) rfl HQ
  .next h1=>
   have h2:look=true:=by simpa using h1
   subst h2;have e3:(cj.j a i key).step t true x=(.d key (x.word (t.pt i 1)%65536) 0,x.ld (t.pt i 1)):=rfl;exact aa e3 .d rfl HQ
 |@f lv a i w key aq bf is rt qf F lf h hk hF XW=>
  refine y1 H rY ?_;refine Vx.fV (A:=[_]) (λB W S H=>oD hs hx XW hk hF H) λa' x' l' e hl=>?_;have e2:(cj.f a i key aq F).step t look x=(if a'.over then .g a i key aq else .f a i key aq a',x'):=by show(_,_)=_;rw[e]
  have oS:=hl.row;obtain⟨ln,Fs,pred,known,cur,w2,qp,qs,qk,k,T2,rfl⟩:=oS;simp only[Tw.pW,Ck,Tw.cs,Lb.cs,Ar.cs,Ep.cs,lA,lB];cases ho:a'.over
  .refine z1 ?_;exact aa (e2.trans (Prod.ext (if_neg (by rw[ho];simp)) rfl)) (.f h hk hl ho) rfl HQ
  .refine z1 ?_;exact aa (e2.trans (Prod.ext (if_pos ho) rfl)) (.g h hk) rfl HQ
 |@g lv a i w key aq is fd rt h hk=>
  have hi:=Tw.eh h am;have hn:iy.new t.l i=.a:=if_neg am;have e2:(cj.g a i key aq).step t look x=(if(x.add (t.pt i 3) 18446744073709551615).new=0 then .w i key aq .a else .d key aq 0,x.add (t.pt i 3) 18446744073709551615):=by show(if(x.add (t.pt i _) _).new=0 then cj.w _ _ _ (iy.new _ i) else _,x.add (t.pt i _) _)=_;rw[hn]
  refine y2 H rY ?_ ?_<;>intros
  .next h1 p1 p2 h2 h3=>exact aa (e2.trans (Prod.ext (if_pos h1) rfl)) (.w hi hk (.a hi) rfl) rfl HQ
  .next h1=>exact aa (e2.trans (Prod.ext (if_neg h1) rfl)) .d rfl HQ
 |@w lv a i w key aq is fd qr σ lr hi hk h hF=>
  refine y1 H rY ?_;refine Vx.fV (A:=[_]) (λB W S H=>AS hs.2.2.2.2 hx h H) λa' x' l' e hl=>?_;have e2:(cj.w i key aq σ).step t look x=(if a'.over then .d key aq 0 else .w i key aq a',x'):=by show(if(σ.step t.l i x).1.over then _ else _,(σ.step t.l i x).2)=_;rw[e]
  cases ho:a'.over
  .refine z1 ?_;exact aa (e2.trans (Prod.ext (if_neg (by rw[ho];simp)) rfl)) (.w hi hk hl ho) rfl HQ
  .refine z1 ?_;exact aa (e2.trans (Prod.ext (if_pos ho) rfl)) .d rfl HQ
 |d=>cases ho
end
section
variable{nd hd ht c3 c4 n c6 c7 c8 c9 dP dp dM:Int}
instance ab1:cH 465 where
instance YH:NC EM (zF 526) [.agg [I nd,I hd,I ht,I c3,I c4,I n,I c6,I c7,I c8,I c9,I dP,I dp,I dM]] ((0<=nd/\nd<4096)/\(0<=hd/\hd<4096)/\(1<=ht/\ht<=4)/\1<=n/\n<=128)
  (λp l=>iE ⟨nd,hd,ht,⟨⟨⟨c3,c4,n⟩,c6,c7,c8⟩,⟨c9,dP,dp⟩,dM⟩⟩ true p 0 .a l):=.of rfl rfl λh ro R=>by
 show Zx EM false (Tryz.a526 _) _ _ _ _;refine z1 ?_;intros;exact⟨rfl,rfl,(_::R),⟨_,_,iE.a,rfl,rfl⟩,HQ⟩
instance YI:NC EM (zF 465) [.agg [I nd,I hd,I ht,I c3,I c4,I n,I c6,I c7,I c8,I c9,I dP,I dp,I dM]] ((0<=nd/\nd<4096)/\(0<=hd/\hd<4096)/\(1<=ht/\ht<=4)/\1<=n/\n<=128)
  (λp l=>iE ⟨nd,hd,ht,⟨⟨⟨c3,c4,n⟩,c6,c7,c8⟩,⟨c9,dP,dp⟩,dM⟩⟩ false p 0 .a l):=.of rfl rfl λh ro R=>by
 show Zx EM false (Tryz.a465 _) _ _ _ _;refine z1 ?_;intros;exact⟨rfl,rfl,(_::R),⟨_,_,iE.a,rfl,rfl⟩,HQ⟩
end
section
variable{nd hd ht c3 c4 n c6 c7 c8 c9 dP dp dM i g aq high key c p:Int}
instance VH:NC EM (zF 446) [.agg [I c3,I c4,I n,I c6,I c7,I c8]] True
  (λq l=>gV ⟨⟨c3,c4,n⟩,c6,c7,c8⟩ q (.p .a) l):=.of rfl rfl λh ro R=>by
 show Zx EM false (Tryz.a446 _) _ _ _ _;refine z1 ?_;intros;exact⟨rfl,rfl,(_::_::R),⟨_,_,gV.p (l:=[_]) .a rfl,rfl,rfl⟩,HQ⟩
instance VI:NC EM (zF 449) [.agg [I c3,I c4,I n,I c6,I c7,I c8,I c9,I dP,I dp,I dM],I c,I p] ((0<=c/\c<dp)/\(0<=p/\p<4294967296)/\0<=dM/\dM<50000)
  (λq l=>mU ⟨⟨⟨c3,c4,n⟩,c6,c7,c8⟩,⟨c9,dP,dp⟩,dM⟩ c p q (.v .a) l):=.of rfl rfl λ⟨h,hp,ht⟩ ro R=>by
 have e1:(p+2)%18446744073709551616=p+2:=am;show Zx EM false (Tryz.a449 _) _ _ _ _;refine z1 ?_;intros;all_goals(try rw[e1])
 all_goals first|omega|skip
 exact⟨rfl,rfl,(_::_::_::R),⟨_,_,mU.v (la:=[_]) (lb:=[_]) hp (.a h) rfl .a,rfl,rfl⟩,HQ⟩
instance VJ:NC EM (zF 448) [.agg [I nd,I hd,I ht,I c3,I c4,I n,I c6,I c7,I c8,I c9,I dP,I dp,I dM],U (aD i g),U key,I aq,I high] (((0<=nd/\nd<4096)/\(0<=hd/\hd<4096)/\(1<=ht/\ht<=4)/\1<=n/\n<=128)/\(dw i g/\i<n)/\(0<=aq/\aq<=65534)/\1<=high/\high<=ht)
  (λq l=>nZ ⟨nd,hd,ht,⟨⟨⟨c3,c4,n⟩,c6,c7,c8⟩,⟨c9,dP,dp⟩,dM⟩⟩ i g key aq high q 0 (.s 0) l):=.of rfl rfl λh ro R=>by
 obtain⟨h0,hi,hj,hh⟩:=h;have hx:=rT hi.1;have mX:idx n (aD i g)=i:=by unfold idx;rw[hx,if_pos hi.2]
 have hw:=lj hi.1;show Zx EM false (Tryz.a448 _) _ _ _ _;refine z2 ?_ ?_<;>intros
 all_goals first|exact⟨h0,hi,hh⟩|skip
 rw[mX];exact⟨rfl,rfl,(_::R),⟨_,_,nZ.s (k:=0) am,rfl,rfl⟩,HQ⟩
end
instance ab2 {n:Nat}[Mn n [186,304,307,338,340,219]]:cH n where
def Tw.rk (t:Tw)(c ln:Int)(l9:AV)(p:Int)(mV:AV)(b e key aq high n:Int)(al co:AV)(ref:Int)(ly ins:AV):List AV:=t.cs++[I c,I ln,l9,I p,mV,U b,I e,U key,I aq,I high,I n,al,co,U ref,ly,ins]
inductive gW (t:Tw)(c key aq high:Int)(q:Nat)(b:Int):aI->List Own->Prop
 |p {qm:Nat}{mV al co ly ins}{n:Nat}{ln p ref:Int}{σ lm}(hn:n<=3)(hl:ln=1\/ln=23)(h:rj t.l.e c qm σ lm)(ho:σ.over=false):gW t c key aq high q b (.p σ n) (.obj q (.row (t.rk c ln (.ptr qm 0) p mV b 0 key aq high n al co ref ly ins))::lm)
 |a {qm:Nat}{l9 mV co ly ins}{n:Nat}{p ref:Int}{σ lm}(hn:n<=3)(hp:0<=p/\p<4294967296)(h:gV t.l.a qm σ lm)(ho:σ.over=false):gW t c key aq high q b (.a σ n p) (.obj q (.row (t.rk c 2 l9 p mV b 0 key aq high n (.ptr qm 0) co ref ly ins))::lm)
 |c {qm:Nat}{l9 mV al ly ins}{n:Nat}{p ref:Int}{σ lm}(hn:n<=3)(hp:0<=p/\p<4294967296)(h:mU t.l c p qm σ lm)(ho:σ.over=false):gW t c key aq high q b (.c σ n p) (.obj q (.row (t.rk c 21 l9 p mV b 0 key aq high n al (.ptr qm 0) ref ly ins))::lm)
 |l {qm:Nat}{l9 al co ly ins}{n:Nat}{p ref:Int}{σ lm}(hn:n<=3)(h:kO t.l.e c qm σ lm)(ho:σ.over=false):gW t c key aq high q b (.l σ n) (.obj q (.row (t.rk c 22 l9 p (.ptr qm 0) b 0 key aq high n al co ref ly ins))::lm)
 |y {qm k:Nat}{l9 mV al co ins}{n:Nat}{p i g bl:Int}{lm}(hr:t.rf i g)(h:nZ t i g key aq high qm bl (.s k) lm):gW t c key aq high q b (.y (.s k) (aD i g)) (.obj q (.row (t.rk c 3 l9 p mV b 0 key aq high n al co (aD i g) (.ptr qm 0) ins))::lm)
 |i {qm:Nat}{l9 mV al co ly}{n:Nat}{p i g bi:Int}{σ lm}(hr:t.rf i g)(h:fX t i g key high qm bi σ lm)(ho:σ.over=false):gW t c key aq high q b (.i σ (aD i g)) (.obj q (.row (t.rk c 4 l9 p mV b 0 key aq high n al co (aD i g) ly (.ptr qm 0)))::lm)
 |u {qm:Nat}{l9 al co ly ins}{n:Nat}{p ref e:Int}{σ lm}(h:kO t.l.e c qm σ lm)(ho:σ.over=false):gW t c key aq high q b (.u σ e) (.obj q (.row (t.rk c 5 l9 p (.ptr qm 0) b e key aq high n al co ref ly ins))::lm)
 |d {l9 mV al co ly ins}{n:Nat}{p ref e:Int}:gW t c key aq high q b (.d e) [.obj q (.row (t.rk c 9 l9 p mV b e key aq high n al co ref ly ins))]
theorem fX.cZ {t}{i g key high b:Int}{q:Nat}{σ l}(h:fX t i g key high q b σ l):∃(fd ret:AV) (ln lv w:Int) (is:Bool) (lf:List Own),l=.obj q (.row (t.oM (aD i g) key i high fd ret ln lv w b is 0))::lf:=by
 cases h<;>exact⟨_,_,_,_,_,_,_,rfl⟩
theorem nZ.cZ {t}{i g key aq high b:Int}{q:Nat}{σ l}(h:nZ t i g key aq high q b σ l):∃(ln:Int),l=[.obj q (.row (t.Kd (aD i g) b key i aq high ln 0))]:=by
 cases h<;>exact⟨_,rfl⟩
section
variable{B0 S:AH}{W:List Nat}{own R lo:List Own}{ro:List aB}{m q:Nat}{vm:AV}{x:Me}{t:Tw}{c key aq high b:Int}
theorem Cl {o1 own:List Own}(e:o1=own:=by conv=>lhs;simp only[Tw.rk,Tw.cs,Lb.cs,Ar.cs,Ep.cs,lA,lB,lC]):o1=own:=e
theorem AU {σ:aI}(hs:t.ok)(hc:0<=c/\c<t.l.e.ah)(tQ:(0<=aq/\aq<=65534)/\1<=high/\high<=t.ht)(hx:x.gd)(ho:σ.over=false)(Dm:Me.ar key)(h:gW t c key aq high q b σ lo)(H:Cx B0 W S (lo++(ai m vm x++R)) ro):
  aG EM (zF 214) [.ptr q 0,.ptr m 0] S λu S'=>∃ab,eW (gW t c key aq high q (σ.cM t key)) aI.over (σ.step t c key aq high x) (ai m vm) R u ab/\Cx B0 W S' ab ro:=by
 have bt:=hs;unfold Tw.ok Lb.ok Ar.ok Sk.ok Ep.ok at bt;cases h with
 |@p qm mV al co ly ins n ln p ref σ lm hn hl h hF=>
  refine y2 H Cl ?_ ?_<;>intros
  all_goals
   refine Vx.fV (A:=[_]) (λB W S H=>vD hs.2.2.2.2.2.1 hx h H) λa' x' l' e oS=>?_;have e2:(aI.p σ n).step t c key aq high x=(aI.B4 n a',x'):=by show(aI.B4 _ _,_)=_;rw[e]
   cases ho:a'.over
   .refine z1 ?_;intros;have e3:(aI.p σ n).step t c key aq high x=(.p a' n,x'):=e2.trans (Prod.ext (by cases oS<;>first|rfl|cases ho) rfl);exact aa e3 (.p hn hl oS ho) rfl HQ
   .cases oS with
    |a=>cases ho
    |b=>cases ho
    |c=>cases ho
    |d hp=>
     refine z1 ?_;intros;next p l' hA=>exact aa e2 (.a hn hp (show gV t.l.a p (.p .a) l' from hA) rfl) rfl HQ
 |@a qm l9 mV co ly ins n p ref σ lm hn hp h hF=>
  refine y1 H Cl ?_;refine Vx.fV (A:=[_]) (λB W S H=>Cg hs.2.2.2.2.1 hx h H) λa' x' l' e hl=>?_;have e2:(aI.a σ n p).step t c key aq high x=(aI.iz t c n p a',x'):=by show(aI.iz _ _ _ _ _,_)=_;rw[e]
  cases ho:a'.over
  .refine z1 ?_;have e3:(aI.a σ n p).step t c key aq high x=(.a a' n p,x'):=e2.trans (Prod.ext (by cases hl<;>first|rfl|cases ho) rfl);exact aa e3 (.a hn hp hl ho) rfl HQ
  .cases hl with
   |p _ h=>rw[show(bN.p _).over=false from rfl] at ho;cases ho
   |g=>cases ho
   |w=>cases ho
   |@d i' r e' qp hr=>
    have H5:cG.new t.l.e c=.a:=if_neg am;have hcn:eX.new t.l c p=.v .a:=if_neg am;by_cases he:e'=0
    .subst he;obtain⟨i2,g2,hr2,rfl⟩:=hr rfl;refine z2 ?_ ?_<;>intros
     all_goals first|exact⟨⟨bt.1,bt.2.1,bt.2.2.1,am,am⟩,hr2,tQ⟩|skip
     next p l' hL=>exact aa (show _=(aI.y (.s 0) (aD i2 g2),x') from e2) (.y hr2 (show nZ t i2 g2 key aq high p 0 (.s 0) l' from hL)) rfl HQ
    .have e3:aI.iz t c n p (.d r e')=if e'=7/\n<3 then .c (.new t.l c p) (n+1) p else .u (.new t.l.e c) e':=if_neg he
     have YJ:((n+1:Nat):Int)=(n:Int)+1:=am;refine z3 ?_ ?_ ?_<;>intros
     .next p2 l' hC=>
      have e4:aI.iz t c n p (.d r e')=.c (.v .a) (n+1) p:=by rw[e3,if_pos am,hcn]
      rw[<-YJ];exact aa (e2.trans (Prod.ext e4 rfl)) (.c am hp (show mU t.l c p p2 (.v .a) l' from hC) rfl) rfl HQ
     all_goals
      have e4:aI.iz t c n p (.d r e')=.u .a e':=by rw[e3,if_neg am,H5]
      exact aa (e2.trans (Prod.ext e4 rfl)) (.u (lm:=[_]) (.a hc) rfl) rfl HQ
 |@c qm l9 mV al ly ins n p ref σ lm hn hp h hF=>
  refine y1 H Cl ?_;refine Vx.fV (A:=[_]) (λB W S H=>HZ hs.2.2.2.2 hx h H) λa' x' l' e hl=>?_;have H5:cG.new t.l.e c=.a:=if_neg am;have e2:(aI.c σ n p).step t c key aq high x=(if a'.over then .l .a n else .c a' n p,x'):=by show(if _ then aI.l (cG.new _ _) _ else _,_)=_;rw[H5,e]
  cases ho:a'.over
  .refine z1 ?_;exact aa (e2.trans (Prod.ext (if_neg (by rw[ho];simp)) rfl)) (.c hn hp hl ho) rfl HQ
  .refine z1 ?_;intros;all_goals exact aa (e2.trans (Prod.ext (if_pos ho) rfl)) (.l (lm:=[_]) hn (.a hc) rfl) rfl HQ
 |@l qm l9 al co ly ins n p ref σ lm hn h hF=>
  refine y1 H Cl ?_;refine Vx.fV (A:=[_]) (λB W S H=>mJ hs.2.2.2.2.2.1 hx h H) λa' x' l' e hl=>?_;have H5:m_.new t.l.e c=.a:=if_neg am;have e2:(aI.l σ n).step t c key aq high x=(if a'.over then .p .a n else .l a' n,x'):=by show(if _ then aI.p (m_.new _ _) _ else _,_)=_;rw[H5,e]
  cases ho:a'.over
  .refine z1 ?_;exact aa (e2.trans (Prod.ext (if_neg (by rw[ho];simp)) rfl)) (.l hn hl ho) rfl HQ
  .refine z1 ?_;intros;all_goals exact aa (e2.trans (Prod.ext (if_pos ho) rfl)) (.p (lm:=[_]) hn (.inr rfl) (.a hc) rfl) rfl HQ
 |@y qm k l9 mV al co ins n p i g bl lm hr h=>
  have hb4:=bt.2.2.1;refine y1 H Cl ?_;refine Vx.fV (A:=[_]) (λB W S H=>H0 hs hr ⟨tQ.1.1,tQ.1.2,am,am⟩ hx h H) λa' x' l' e hl=>?_;have e2:(aI.y (.s k) (aD i g)).step t c key aq high x=(if a'.over then .i (.f (.new t)) (aD i g) else .y a' (aD i g),x'):=by show(_,_)=_;rw[e]
  obtain⟨Kg,rfl⟩:=hl.cZ;simp only[Tw.Kd,Tw.cs,Lb.cs,Ar.cs,Ep.cs,lA,lB];cases ho:a'.over
  .refine z1 ?_;cases a' with
   |d=>cases ho
   |s k2=>exact aa (show _=(aI.y (.s k2) (aD i g),x') from e2) (.y hr hl) rfl HQ
  .refine z2 ?_ ?_<;>intros
   all_goals first|exact⟨⟨bt.1,bt.2.1,bt.2.2.1,am,am⟩,hr,tQ.2⟩|skip
   next p l' hI=>exact aa (e2.trans (Prod.ext (if_pos ho) rfl)) (.i hr (show fX t i g key high p 0 (.f (.new t)) l' from hI) rfl) rfl HQ
 |@i qm l9 mV al co ly n p i g bi σ lm hr h hF=>
  refine y1 H Cl ?_;refine Vx.fV (A:=[_]) (λB W S H=>H4 hs hr tQ.2 hx hF Dm h H) λa' x' l' e hl=>?_;have H5:cG.new t.l.e c=.a:=if_neg am;have e2:(aI.i σ (aD i g)).step t c key aq high x=(if a'.over then .u .a 0 else .i a' (aD i g),x'):=by show(if _ then aI.u (cG.new _ _) _ else _,_)=_;rw[H5,e]
  obtain⟨fd,ret,Kg,Fs,w2,is2,LR,rfl⟩:=hl.cZ;simp only[Tw.oM,Tw.cs,Lb.cs,Ar.cs,Ep.cs,lA,lB];cases ho:a'.over
  .refine z1 ?_;exact aa (e2.trans (Prod.ext (if_neg (by rw[ho];simp)) rfl)) (.i hr hl ho) rfl HQ
  .refine z1 ?_;intros;all_goals exact aa (e2.trans (Prod.ext (if_pos ho) rfl)) (.u (lm:=[_]) (.a hc) rfl) rfl HQ
 |@u qm l9 al co ly ins n p ref er σ lm h hF=>
  refine y1 H Cl ?_;refine Vx.fV (A:=[_]) (λB W S H=>mJ hs.2.2.2.2.2.1 hx h H) λa' x' l' e hl=>?_;have e2:(aI.u σ er).step t c key aq high x=(if a'.over then .d er else .u a' er,x'):=by show(_,_)=_;rw[e]
  cases ho:a'.over
  .refine z1 ?_;exact aa (e2.trans (Prod.ext (if_neg (by rw[ho];simp)) rfl)) (.u hl ho) rfl HQ
  .refine z1 ?_;exact aa (e2.trans (Prod.ext (if_pos ho) rfl)) .d rfl HQ
 |d=>cases ho
end
end Go.cO
