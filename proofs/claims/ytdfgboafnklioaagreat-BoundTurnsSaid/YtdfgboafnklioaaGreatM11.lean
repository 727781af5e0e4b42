/- Contracts. Conditions: in each theorem. -/
import Derived.Test.YtdfgboafnklioaaGreatM10
set_option linter.all false
set_option maxRecDepth 100000
set_option maxHeartbeats 4000000
namespace Go.cO
open Go.Proofs
instance z37 {n:Nat}[Mn n [723,726,731,513,724,725,727,730,728,729]]:cH n where
def Tw.j8 (t:Tw)(lv:Int)(B9:Bool)(fd rt:AV)(line a i w key A cM er:Int):List AV:=t.cs++[I lv,B B9,fd,rt,I line,U a,I i,U w,U key,I A,U cM,B true,I er]
def Tw.tM (t:Tw)(A i:Int):Prop:=Me.ar A/\t.ix A=i/\0<=i
inductive vY (t:Tw)(q:Nat)(b:Int):cj->List Own->Prop
 |a {lv a i w:Int}{fd rt}:vY t q b .a [.obj q (.row (t.j8 lv false fd rt 1 a i w 0 0 b 0))]
 |b {lv a i w:Int}{fd rt}(h:t.tM a i):vY t q b (.b a i) [.obj q (.row (t.j8 lv false fd rt 2 a i w 0 0 b 0))]
 |c {lv a i w:Int}{fd rt}(ha:Me.ar a)(hw:Me.ar w)(hm:9223372036854775808<=w):vY t q b (.c a w) [.obj q (.row (t.j8 lv false fd rt 3 a i w 0 0 b 0))]
 |m {lv a i w:Int}{fd rt}(h:t.tM a i):vY t q b (.m a i) [.obj q (.row (t.j8 lv false fd rt 4 a i w 0 0 b 0))]
 |n {lv a i w:Int}{l:Nat}{fd rt}(h:t.tM a i)(hv:lv=l)(hl:1<=lv/\lv<t.ht):vY t q b (.n a i l) [.obj q (.row (t.j8 lv false fd rt 5 a i w 0 0 b 0))]
 |o {lv a i w:Int}{l:Nat}{fd rt}(h:t.tM a i)(hv:lv=l)(hl:1<=lv/\lv<t.ht)(hw:Me.ar w)(hm:¬9223372036854775808<=w):vY t q b (.o a i l w) [.obj q (.row (t.j8 lv false fd rt 6 a i w 0 0 b 0))]
 |k {lv a i w:Int}{fd rt}(h:t.tM a i):vY t q b (.k a i) [.obj q (.row (t.j8 lv false fd rt 7 a i w 0 0 b 0))]
 |h {lv a i w:Int}{fd rt}(h:t.tM a i)(hw:Me.ar w)(hm:¬9223372036854775808<=w):vY t q b (.h a i w) [.obj q (.row (t.j8 lv false fd rt 8 a i w 0 0 b 0))]
 |r {lv a i w:Int}{fd rt}(h:t.tM a i):vY t q b (.r a i) [.obj q (.row (t.j8 lv true fd rt 9 a i w 0 0 b 0))]
 |j {lv a i w key:Int}{fd rt}(h:t.tM a i)(hk:Me.ar key):vY t q b (.j a i key) [.obj q (.row (t.j8 lv true fd rt 91 a i w key 0 b 0))]
 |f {lv a i w key aq bf:Int}{rt}{qf:Nat}{F lf}(h:t.tM a i)(hk:Me.ar key)(hF:b9 t key qf bf F lf)(ho:F.over=false):vY t q b (.f a i key aq F) (.obj q (.row (t.j8 lv true (.ptr qf 0) rt 10 a i w key aq b 0))::lf)
 |g {lv a i w key aq:Int}{fd rt}(h:t.tM a i)(hk:Me.ar key):vY t q b (.g a i key aq) [.obj q (.row (t.j8 lv true fd rt 11 a i w key aq b 0))]
 |w {lv a i w key aq:Int}{fd}{qr:Nat}{σ lr}(hi:0<=i/\i<t.l.a.f.size)(hk:Me.ar key)(h:An t.l i qr σ lr)(ho:σ.over=false):vY t q b (.w i key aq σ) (.obj q (.row (t.j8 lv true fd (.ptr qr 0) 12 a i w key aq b 0))::lr)
 |d {lv a i w key aq e:Int}{B9:Bool}{fd rt}:vY t q b (.d key aq e) [.obj q (.row (t.j8 lv B9 fd rt 99 a i w key aq b e))]
section
variable{B0 S:AH}{W:List Nat}{own R lo:List Own}{ro:List aB}{m bl q:Nat}{x:Me}{rest:List AV}{t:Tw}{b:Int}
theorem Tw.eh {t:Tw}{A i:Int}(h:t.tM A i)(hn:1<=t.l.a.f.size):0<=i/\i<t.l.a.f.size:=by have:=fN (n:=t.l.a.f.size) (w:=A) am;have h2:=h.2.1;unfold Tw.ix Tw.size at h2;have:=h.2.2;omega
theorem tN {n w:Int}(h:w%65536-1<0\/n<=w%65536-1):idx n w<0:=by unfold idx;split<;>omega
theorem Dp {n w:Int}(h:¬n<=w%65536-1):idx n w=w%65536-1:=by unfold idx;rw[if_pos am]
theorem Et {o1 own:List Own}(e:o1=own:=by conv=>lhs;simp only[Tw.j8,Tw.vi,Tw.cs,Lb.cs,Ar.cs,Ep.cs,lA,lB,lC]):o1=own:=e
theorem Hv {σ:cj}(hs:t.ok)(hx:x.gd)(ho:σ.over=false)(h:vY t q b σ lo)(H:Cx B0 W S (lo++(ad m bl x rest++R)) ro):
  aG EM (zF 722) [.ptr q 0,.ptr m 0] S λu S'=>∃ab,eW (vY t q σ.cM) cj.over (σ.step t false x) (ad m bl · rest) R u ab/\Cx B0 W S' ab ro:=by
 have bt:=hs;unfold Tw.ok Lb.ok Ar.ok Sk.ok Ep.ok at bt;haveI:aU:=⟨⟩;cases h with
 |@a lv a i w fd rt=>
  have hb:=Me.aj hx (t.nx (-1) 0);refine y3 H Et ?_ ?_ ?_<;>intros
  .next h1=>exact aa (Prod.ext (if_pos (tN (.inl h1))) rfl) .d rfl HQ
  .next h1 h2=>exact aa (Prod.ext (if_pos (tN (.inr h2))) rfl) .d rfl HQ
  .next h1 h2=>
   have e1:t.ix (x.word (t.nx (-1) 0))=x.word (t.nx (-1) 0)%65536-1:=Dp h2;have e2:(cj.a).step t false x=(.b (x.word (t.nx (-1) 0)) (x.word (t.nx (-1) 0)%65536-1),x.ld (t.nx (-1) 0)):=by show(if t.ix _<0 then _ else cj.b _ (t.ix _),_)=_;rw[e1,if_neg (show¬x.word (t.nx (-1) 0)%65536-1<0 from h1)]
   exact aa e2 (.b ⟨hb,e1,Int.not_lt.1 h1⟩) rfl HQ
 |@b lv a i w fd rt h=>
  have hi:=Tw.eh h am;have hn:t.nx i 0=t.pt i 4:=by unfold Tw.nx;rw[if_neg am];rfl
  have hb:=Me.aj hx (t.pt i 4);have e2:(cj.b a i).step t false x=(if 9223372036854775808<=x.word (t.pt i 4) then .c a (x.word (t.pt i 4)) else .m a i,x.ld (t.pt i 4)):=by rw[<-hn];rfl
  refine y2 H Et ?_ ?_<;>intros
  .next h1=>exact aa (e2.trans (Prod.ext (if_pos h1) rfl)) (.c h.1 hb h1) rfl HQ
  .next h1=>exact aa (e2.trans (Prod.ext (if_neg h1) rfl)) (.m h) rfl HQ
 |@c lv a i w fd rt ha hw hm=>
  refine y1 H Et ?_;exact aa rfl .a rfl HQ
 |@m lv a i w fd rt h=>
  have hi:=Tw.eh h am;have hb:=Me.aj hx (t.pt i 2);have wQ:Me.ar (x.word (p9 t.nd t.ht i 2)):=hb;refine y4 H Et ?_ ?_ ?_ ?_<;>intros
  .next h1 h2=>
   have e:(cj.m a i).step t false x=(.k a i,x.ld (t.pt i 2)):=by show(cj.below a i (min (x.word (p9 t.nd t.ht i 2)) t.ht).toNat,_)=_;unfold cj.below;rw[if_pos am]
   exact aa e (.k h) rfl HQ
  .next h1 h2=>
   have e:(cj.m a i).step t false x=(.n a i ((min (x.word (p9 t.nd t.ht i 2)) t.ht).toNat-1),x.ld (t.pt i 2)):=by show(cj.below a i (min (x.word (p9 t.nd t.ht i 2)) t.ht).toNat,_)=_;unfold cj.below;rw[if_neg am]
   exact aa e (.n (lv:=x.word (p9 t.nd t.ht i 2)-1) h am ⟨am,am⟩) rfl HQ
  .next h1 h2=>
   have e:(cj.m a i).step t false x=(.k a i,x.ld (t.pt i 2)):=by show(cj.below a i (min (x.word (p9 t.nd t.ht i 2)) t.ht).toNat,_)=_;unfold cj.below;rw[if_pos am]
   exact aa e (.k h) rfl HQ
  .next h1 h2=>
   have e:(cj.m a i).step t false x=(.n a i ((min (x.word (p9 t.nd t.ht i 2)) t.ht).toNat-1),x.ld (t.pt i 2)):=by show(cj.below a i (min (x.word (p9 t.nd t.ht i 2)) t.ht).toNat,_)=_;unfold cj.below;rw[if_neg am]
   exact aa e (.n (lv:=t.ht-1) h am ⟨am,am⟩) rfl HQ
 |@n lv a i w l fd rt h hv hl=>
  subst hv;have hi:=Tw.eh h am;have hn:t.nx i l=t.pt i (4+l):=by unfold Tw.nx;rw[if_neg am]
  have hb:=Me.aj hx (t.pt i (4+l));refine y3 H Et ?_ ?_ ?_<;>intros
  .next h1 h2=>
   have e:(cj.n a i l).step t false x=(.k a i,x.ld (t.pt i (4+l))):=by show(if _<=x.word (t.nx i l) then cj.below a i l else _,x.ld (t.nx i l))=_;unfold cj.below;rw[hn,if_pos (show 9223372036854775808<=x.word (t.pt i (4+l)) from h1),if_pos am]
   exact aa e (.k h) rfl HQ
  .next h1 h2=>
   have e:(cj.n a i l).step t false x=(.n a i (l-1),x.ld (t.pt i (4+l))):=by show(if _<=x.word (t.nx i l) then cj.below a i l else _,x.ld (t.nx i l))=_;unfold cj.below;rw[hn,if_pos (show 9223372036854775808<=x.word (t.pt i (4+l)) from h1),if_neg am]
   exact aa e (.n (lv:=(l:Int)-1) h am ⟨am,am⟩) rfl HQ
  .next h1=>
   have e:(cj.n a i l).step t false x=(.o a i l (x.word (t.pt i (4+l))),x.ld (t.pt i (4+l))):=by show(if _<=x.word (t.nx i l) then cj.below a i l else .o a i l (x.word (t.nx i l)),x.ld (t.nx i l))=_;rw[hn,if_neg (show¬9223372036854775808<=x.word (t.pt i (4+l)) from h1)]
   exact aa e (.o h rfl hl hb h1) rfl HQ
 |@o lv a i w l fd rt h hv hl hw hm=>
  subst hv;have hi:=Tw.eh h am;refine y3 H Et ?_ ?_ ?_<;>intros
  .next h1 h2=>
   have e:(cj.o a i l w).step t false x=(.k a i,x.eL (t.nx i l) w (w+9223372036854775808)):=by show(if x.eq (B6 t.nd t.hd t.ht i l) _ then cj.below a i l else _,_)=_;unfold cj.below;rw[if_pos h1,if_pos am]
   exact aa e (.k h) rfl HQ
  .next h1 h2=>
   have e:(cj.o a i l w).step t false x=(.n a i (l-1),x.eL (t.nx i l) w (w+9223372036854775808)):=by show(if x.eq (B6 t.nd t.hd t.ht i l) _ then cj.below a i l else _,_)=_;unfold cj.below;rw[if_pos h1,if_neg am]
   exact aa e (.n (lv:=(l:Int)-1) h am ⟨am,am⟩) rfl HQ
  .next h1=>exact aa (Prod.ext (if_neg h1) rfl) (.n h rfl hl) rfl HQ
 |@k lv a i w fd rt h=>
  have hi:=Tw.eh h am;have hn:t.nx i 0=t.pt i 4:=by unfold Tw.nx;rw[if_neg am];rfl
  have hb:=Me.aj hx (t.pt i 4);have e2:(cj.k a i).step t false x=(if 9223372036854775808<=x.word (t.pt i 4) then .c a (x.word (t.pt i 4)) else .h a i (x.word (t.pt i 4)),x.ld (t.pt i 4)):=by rw[<-hn];rfl
  refine y2 H Et ?_ ?_<;>intros
  .next h1=>exact aa (e2.trans (Prod.ext (if_pos h1) rfl)) (.c h.1 hb h1) rfl HQ
  .next h1=>exact aa (e2.trans (Prod.ext (if_neg h1) rfl)) (.h h hb h1) rfl HQ
 |@h lv a i w fd rt h hw hm=>
  have hi:=Tw.eh h am;refine y2 H Et ?_ ?_<;>intros
  .next h1=>exact aa (Prod.ext (if_pos h1) rfl) (.r h) rfl HQ
  .next h1=>exact aa (Prod.ext (if_neg h1) rfl) (.k h) rfl HQ
 |@r lv a i w fd rt h=>
  have hi:=Tw.eh h am;have hb:=Me.aj hx (t.pt i 0);refine y1 H Et ?_;exact aa rfl (.j h hb) rfl HQ
 |@j lv a i w key fd rt h hk=>
  have hi:=Tw.eh h am;have hb:=Me.aj hx (t.pt i 1);refine y1 H Et ?_;intros;next p l' hF=>exact aa rfl (.f h hk (show b9 t key p 0 (.new t) l' from hF) rfl) rfl HQ
 |@f lv a i w key aq bf rt qf F lf h hk hF XW=>
  refine y1 H Et ?_;refine Vx.fV (A:=[_]) (λB W S H=>qX hs hx XW hk hF H) λa' x' l' e hl=>?_;have e2:(cj.f a i key aq F).step t false x=(if a'.over then .g a i key aq else .f a i key aq a',x'):=by show(if(F.step t key x).1.over then _ else _,_)=_;rw[e]
  have oS:=hl.row;obtain⟨ln,Fs,pred,known,cur,w2,qt,k,c,rfl⟩:=oS;cases ho:a'.over
  .refine z1 ?_;exact aa (e2.trans (Prod.ext (if_neg (by rw[ho];simp)) rfl)) (.f h hk hl ho) rfl HQ
  .refine z1 ?_;exact aa (e2.trans (Prod.ext (if_pos ho) rfl)) (.g h hk) rfl HQ
 |@g lv a i w key aq fd rt h hk=>
  have hi:=Tw.eh h am;have hn:iy.new t.l i=.a:=if_neg am;have e2:(cj.g a i key aq).step t false x=(if(x.add (t.pt i 3) 18446744073709551615).new=0 then .w i key aq .a else .d key aq 0,x.add (t.pt i 3) 18446744073709551615):=by show(if(x.add (t.pt i _) _).new=0 then cj.w i key aq (iy.new _ i) else _,x.add (t.pt i _) _)=_;rw[hn]
  refine y2 H Et ?_ ?_<;>intros
  .next h1 p1 p2 h2 h3=>exact aa (e2.trans (Prod.ext (if_pos h1) rfl)) (.w hi hk (.a ⟨hi.1,hi.2⟩) rfl) rfl HQ
  .next h1=>exact aa (e2.trans (Prod.ext (if_neg h1) rfl)) .d rfl HQ
 |@w lv a i w key aq fd qr σ lr hi hk h hR=>
  refine y1 H Et ?_;refine Vx.fV (A:=[_]) (λB W S H=>Di hs.2.2.2.2 hx h H) λa' x' l' e hl=>?_;have e2:(cj.w i key aq σ).step t false x=(if a'.over then .d key aq 0 else .w i key aq a',x'):=by show(if(σ.step t.l i x).1.over then _ else _,(σ.step t.l i x).2)=_;rw[e]
  cases ho:a'.over
  .refine z1 ?_;exact aa (e2.trans (Prod.ext (if_neg (by rw[ho];simp)) rfl)) (.w hi hk hl ho) rfl HQ
  .refine z1 ?_;exact aa (e2.trans (Prod.ext (if_pos ho) rfl)) .d rfl HQ
 |d=>cases ho
end
instance z38:cH 572 where
section
variable{nd hd ht c3 c4 n c6 c7 c8 c9 dP dp dM:Int}
instance aan:NC EM (zF 512) [.agg [I nd,I hd,I ht,I c3,I c4,I n,I c6,I c7,I c8,I c9,I dP,I dp,I dM]] ((0<=nd/\nd<4096)/\(0<=hd/\hd<4096)/\(1<=ht/\ht<=4)/\1<=n/\n<=128)
  (λp l=>vY ⟨nd,hd,ht,⟨⟨⟨c3,c4,n⟩,c6,c7,c8⟩,⟨c9,dP,dp⟩,dM⟩⟩ p 0 .a l):=.of rfl rfl λh ro R=>by
 have h0:0<=B6 nd hd ht (-1) 0:=by unfold B6;rw[if_pos rfl];omega
 show Zx EM false (Tryz.a512 _) _ _ _ _;refine z1 ?_;intros;exact⟨rfl,rfl,(_::R),⟨_,_,vY.a,rfl,rfl⟩,HQ⟩
end
instance z39 {n:Nat}[Mn n [607,748,749,751,750,568]]:cH n where
def Tw.Ay (t:Tw)(line a i w key A cM er:Int):List AV:=t.cs++[I line,U a,I i,U w,U key,I A,U cM,B true,I er]
inductive Dq (t:Tw)(q:Nat)(b:Int):cj->List Own->Prop
 |a {a i w:Int}:Dq t q b .a [.obj q (.row (t.Ay 1 a i w 0 0 b 0))]
 |b {a i w:Int}(h:t.tM a i):Dq t q b (.b a i) [.obj q (.row (t.Ay 2 a i w 0 0 b 0))]
 |c {a i w:Int}(ha:Me.ar a)(hw:Me.ar w)(hm:9223372036854775808<=w):Dq t q b (.c a w) [.obj q (.row (t.Ay 3 a i w 0 0 b 0))]
 |r {a i w:Int}(h:t.tM a i):Dq t q b (.r a i) [.obj q (.row (t.Ay 4 a i w 0 0 b 0))]
 |j {a i w key:Int}(h:t.tM a i)(hk:Me.ar key):Dq t q b (.j a i key) [.obj q (.row (t.Ay 5 a i w key 0 b 0))]
 |d {a i w key aq e:Int}:Dq t q b (.d key aq e) [.obj q (.row (t.Ay 99 a i w key aq b e))]
section
variable{B0 S:AH}{W:List Nat}{own R lo:List Own}{ro:List aB}{m bl q:Nat}{x:Me}{rest:List AV}{t:Tw}{b:Int}
theorem R9 {o1 own:List Own}(e:o1=own:=by conv=>lhs;simp only[Tw.Ay,Tw.cs,Lb.cs,Ar.cs,Ep.cs,lA,lB,lC]):o1=own:=e
theorem Hw {σ:cj}(hs:t.ok)(hx:x.gd)(ho:σ.over=false)(h:Dq t q b σ lo)(H:Cx B0 W S (lo++(ad m bl x rest++R)) ro):
  aG EM (zF 747) [.ptr q 0,.ptr m 0] S λu S'=>∃ab,eW (Dq t q σ.cM) cj.over (σ.step t true x) (ad m bl · rest) R u ab/\Cx B0 W S' ab ro:=by
 have bt:=hs;unfold Tw.ok Lb.ok Ar.ok Sk.ok Ep.ok at bt;cases h with
 |@a a i w=>
  have hb:=Me.aj hx (t.nx (-1) 0);refine y3 H R9 ?_ ?_ ?_<;>intros
  .next h1=>exact aa (Prod.ext (if_pos (tN (.inl h1))) rfl) .d rfl HQ
  .next h1 h2=>exact aa (Prod.ext (if_pos (tN (.inr h2))) rfl) .d rfl HQ
  .next h1 h2=>
   have e1:t.ix (x.word (t.nx (-1) 0))=x.word (t.nx (-1) 0)%65536-1:=Dp h2;have e2:(cj.a).step t true x=(.b (x.word (t.nx (-1) 0)) (x.word (t.nx (-1) 0)%65536-1),x.ld (t.nx (-1) 0)):=by show(if t.ix _<0 then _ else cj.b _ (t.ix _),_)=_;rw[e1,if_neg (show¬x.word (t.nx (-1) 0)%65536-1<0 from h1)]
   exact aa e2 (.b ⟨hb,e1,Int.not_lt.1 h1⟩) rfl HQ
 |@b a i w h=>
  have hi:=Tw.eh h am;have hn:t.nx i 0=t.pt i 4:=by unfold Tw.nx;rw[if_neg am];rfl
  have hb:=Me.aj hx (t.pt i 4);have e2:(cj.b a i).step t true x=(if 9223372036854775808<=x.word (t.pt i 4) then .c a (x.word (t.pt i 4)) else .r a i,x.ld (t.pt i 4)):=by rw[<-hn];rfl
  refine y2 H R9 ?_ ?_<;>intros
  .next h1=>exact aa (e2.trans (Prod.ext (if_pos h1) rfl)) (.c h.1 hb h1) rfl HQ
  .next h1=>exact aa (e2.trans (Prod.ext (if_neg h1) rfl)) (.r h) rfl HQ
 |@c a i w ha hw hm=>
  refine y1 H R9 ?_;exact aa rfl .a rfl HQ
 |@r a i w h=>
  have hi:=Tw.eh h am;have hb:=Me.aj hx (t.pt i 0);refine y1 H R9 ?_;exact aa rfl (.j h hb) rfl HQ
 |@j a i w key h hk=>
  have hi:=Tw.eh h am;have hb:=Me.aj hx (t.pt i 1);refine y1 H R9 ?_;exact aa rfl .d rfl HQ
 |d=>cases ho
end
section
variable{nd hd ht c3 c4 n c6 c7 c8 c9 dP dp dM:Int}
instance aao:NC EM (zF 567) [.agg [I nd,I hd,I ht,I c3,I c4,I n,I c6,I c7,I c8,I c9,I dP,I dp,I dM]] ((0<=nd/\nd<4096)/\(0<=hd/\hd<4096)/\(1<=ht/\ht<=4)/\1<=n/\n<=128)
  (λp l=>Dq ⟨nd,hd,ht,⟨⟨⟨c3,c4,n⟩,c6,c7,c8⟩,⟨c9,dP,dp⟩,dM⟩⟩ p 0 .a l):=.of rfl rfl λh ro R=>by
 have h0:0<=B6 nd hd ht (-1) 0:=by unfold B6;rw[if_pos rfl];omega
 show Zx EM false (Tryz.a567 _) _ _ _ _;refine z1 ?_;intros;exact⟨rfl,rfl,(_::R),⟨_,_,Dq.a,rfl,rfl⟩,HQ⟩
end
instance z40 {n:Nat}[Mn n [141,161,162,248,386]]:cH n where
section
variable{f ah room c v:Int}
instance Vj:VC EM (zF 279) [.agg [I f,I ah,I room],I c] ((0<=f/\f<4096)/\(1<=ah/\ah<=64)/\(1<=room/\room<=16)/\0<=c/\c<ah) (.dD [.agg [I (f+c*(room+2)),I (f+c*(room+2)+1),I (f+c*(room+2)+2),I room],B true]):=.of rfl rfl λ⟨h1,h2,h3,h4⟩=>by
 show Zx EM false (Tryz.a279 _) _ _ _ _;refine z1 ?_;intros;refine Vx.RW ah.toNat (λi=>(i:Int)<=c) h4.1 ?_ ?_
 .intro i hi hp hn;have q1:0<=(i:Int)*(room+2):=Int.mul_nonneg am am;have q2:(i:Int)*(room+2)<=64*18:=Int.mul_le_mul am am am am;refine z2 ?_ ?_<;>intros
  .next h=>exact⟨rfl,by rw[h];rfl⟩
  .next h=>exact Vx.bB HQ (hn am)
 .intro hp;exfalso;omega
end
inductive o7 (r:Rn)(v:Int)(q:Nat):b7->List Own->Prop
 |s {qp:Nat}{σ lp}(h:lu r v qp σ lp)(ho:σ.over=false):o7 r v q σ (.obj q (.row [B true,.ptr qp 0,I 0])::lp)
 |d {e:Int}:o7 r v q (.d e) [.obj q (.row [B true,Np,I e])]
section
variable{B0 S:AH}{W:List Nat}{own R lo:List Own}{ro:List aB}{m bl q:Nat}{x:Me}{rest:List AV}{r:Rn}{v:Int}
theorem Az {σ}(hs:r.ok)(hx:x.gd)(ho:σ.over=false)(h:o7 r v q σ lo)(H:Cx B0 W S (lo++(ad m bl x rest++R)) ro):
  aG EM (zF 692) [.ptr q 0,.ptr m 0] S λu S'=>∃ab,eW (o7 r v q) b7.over (σ.step r v x) (ad m bl · rest) R u ab/\Cx B0 W S' ab ro:=by
 cases h with
 |@s qp σ lp h hF=>
  refine y1 H bK ?_;refine Vx.fV (A:=[_]) (λB W S H=>Er hs hx h H) λa' x' l' e hl=>?_;cases ho:a'.over
  .refine z1 ?_;exact aa e (.s hl ho) ho HQ
  .cases hl with
   |a=>cases ho
   |b=>cases ho
   |c=>cases ho
   |l=>cases ho
   |h=>cases ho
   |d=>
    refine z1 ?_;exact aa e .d rfl HQ
 |d=>cases ho
end
section
variable{f ah room c v:Int}
instance Vk:NC EM (zF 275) [.agg [I f,I ah,I room],I c,I v] ((0<=f/\f<4096)/\(1<=ah/\ah<=64)/\(1<=room/\room<=16)/\(0<=c/\c<ah)/\0<=v/\v<65536)
  (λp l=>o7 ⟨f+c*(room+2),f+c*(room+2)+1,f+c*(room+2)+2,room⟩ v p .a l):=.of rfl rfl λ⟨h1,h2,h3,h4,h5⟩ ro R=>by
 have q1:0<=c*(room+2):=Int.mul_nonneg am am;have q2:c*(room+2)<=64*18:=Int.mul_le_mul am am am am;show Zx EM false (Tryz.a275 _) _ _ _ _;refine z1 ?_;intros;exact⟨rfl,rfl,(_::_::R),⟨_,_,o7.s (.a h5) rfl,rfl,rfl⟩,HQ⟩
end
end Go.cO
