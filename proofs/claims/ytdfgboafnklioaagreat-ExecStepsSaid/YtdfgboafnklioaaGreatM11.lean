/- Contracts. Conditions: in each theorem. -/
import Derived.Test.YtdfgboafnklioaaGreatM10
set_option linter.all false
set_option maxRecDepth 100000
set_option maxHeartbeats 4000000
namespace Go.cG
open Go.Proofs
instance z37 {n:Nat}[Mn n [723,726,731,513,724,725,727,730,728,729]]:cK n where
def Tw.dX (t:Tw)(lv:Int)(Co:Bool)(fd rt:AV)(line a i w key A cR er:Int):List AV:=t.cs++[I lv,B Co,fd,rt,I line,U a,I i,U w,U key,I A,U cR,B true,I er]
def Tw.ue (t:Tw)(A i:Int):Prop:=Me.aC A/\t.ix A=i/\0<=i
inductive wF (t:Tw)(q:Nat)(b:Int):cj->List Own->Prop
 |a {lv a i w:Int}{fd rt}:wF t q b .a [.obj q (.row (t.dX lv false fd rt 1 a i w 0 0 b 0))]
 |b {lv a i w:Int}{fd rt}(h:t.ue a i):wF t q b (.b a i) [.obj q (.row (t.dX lv false fd rt 2 a i w 0 0 b 0))]
 |c {lv a i w:Int}{fd rt}(ha:Me.aC a)(hw:Me.aC w)(hm:9223372036854775808<=w):wF t q b (.c a w) [.obj q (.row (t.dX lv false fd rt 3 a i w 0 0 b 0))]
 |m {lv a i w:Int}{fd rt}(h:t.ue a i):wF t q b (.m a i) [.obj q (.row (t.dX lv false fd rt 4 a i w 0 0 b 0))]
 |n {lv a i w:Int}{l:Nat}{fd rt}(h:t.ue a i)(hv:lv=l)(hl:1<=lv/\lv<t.ht):wF t q b (.n a i l) [.obj q (.row (t.dX lv false fd rt 5 a i w 0 0 b 0))]
 |o {lv a i w:Int}{l:Nat}{fd rt}(h:t.ue a i)(hv:lv=l)(hl:1<=lv/\lv<t.ht)(hw:Me.aC w)(hm:¬9223372036854775808<=w):wF t q b (.o a i l w) [.obj q (.row (t.dX lv false fd rt 6 a i w 0 0 b 0))]
 |k {lv a i w:Int}{fd rt}(h:t.ue a i):wF t q b (.k a i) [.obj q (.row (t.dX lv false fd rt 7 a i w 0 0 b 0))]
 |h {lv a i w:Int}{fd rt}(h:t.ue a i)(hw:Me.aC w)(hm:¬9223372036854775808<=w):wF t q b (.h a i w) [.obj q (.row (t.dX lv false fd rt 8 a i w 0 0 b 0))]
 |r {lv a i w:Int}{fd rt}(h:t.ue a i):wF t q b (.r a i) [.obj q (.row (t.dX lv true fd rt 9 a i w 0 0 b 0))]
 |j {lv a i w key:Int}{fd rt}(h:t.ue a i)(hk:Me.aC key):wF t q b (.j a i key) [.obj q (.row (t.dX lv true fd rt 91 a i w key 0 b 0))]
 |f {lv a i w key ar bf:Int}{rt}{qf:Nat}{F lf}(h:t.ue a i)(hk:Me.aC key)(hF:b_ t key qf bf F lf)(ho:F.over=false):wF t q b (.f a i key ar F) (.obj q (.row (t.dX lv true (.ptr qf 0) rt 10 a i w key ar b 0))::lf)
 |g {lv a i w key ar:Int}{fd rt}(h:t.ue a i)(hk:Me.aC key):wF t q b (.g a i key ar) [.obj q (.row (t.dX lv true fd rt 11 a i w key ar b 0))]
 |w {lv a i w key ar:Int}{fd}{qr:Nat}{σ lr}(hi:0<=i/\i<t.l.a.f.size)(hk:Me.aC key)(h:AE t.l i qr σ lr)(ho:σ.over=false):wF t q b (.w i key ar σ) (.obj q (.row (t.dX lv true fd (.ptr qr 0) 12 a i w key ar b 0))::lr)
 |d {lv a i w key ar e:Int}{Co:Bool}{fd rt}:wF t q b (.d key ar e) [.obj q (.row (t.dX lv Co fd rt 99 a i w key ar b e))]
section
variable{B0 S:AH}{W:List Nat}{own R lo:List Own}{ro:List aI}{m bl q:Nat}{x:Me}{rest:List AV}{t:Tw}{b:Int}
theorem Tw.eB {t:Tw}{A i:Int}(h:t.ue A i)(hn:1<=t.l.a.f.size):0<=i/\i<t.l.a.f.size:=by have:=gp (n:=t.l.a.f.size) (w:=A) am;have h2:=h.2.1;unfold Tw.ix Tw.size at h2;have:=h.2.2;omega
theorem uf {n w:Int}(h:w%65536-1<0\/n<=w%65536-1):idx n w<0:=by unfold idx;split<;>omega
theorem DJ {n w:Int}(h:¬n<=w%65536-1):idx n w=w%65536-1:=by unfold idx;rw[if_pos am]
theorem E0 {o1 own:List Own}(e:o1=own:=by conv=>lhs;simp only[Tw.dX,Tw.vJ,Tw.cs,Lb.cs,Ar.cs,Ep.cs,lA,lB,lC]):o1=own:=e
theorem H3 {σ:cj}(hs:t.ok)(hx:x.gd)(ho:σ.over=false)(h:wF t q b σ lo)(H:Cx B0 W S (lo++(ae m bl x rest++R)) ro):
  aN EM (zF 722) [.ptr q 0,.ptr m 0] S λu S'=>∃ab,fb (wF t q σ.cR) cj.over (σ.step t false x) (ae m bl · rest) R u ab/\Cx B0 W S' ab ro:=by
 have bt:=hs;unfold Tw.ok Lb.ok Ar.ok Sk.ok Ep.ok at bt;haveI:aY:=⟨⟩;cases h with
 |@a lv a i w fd rt=>
  have hb:=Me.aj hx (t.nx (-1) 0);refine y3 H E0 ?_ ?_ ?_<;>intros
  .next h1=>exact aa (Prod.ext (if_pos (uf (.inl h1))) rfl) .d rfl HQ
  .next h1 h2=>exact aa (Prod.ext (if_pos (uf (.inr h2))) rfl) .d rfl HQ
  .next h1 h2=>
   have e1:t.ix (x.word (t.nx (-1) 0))=x.word (t.nx (-1) 0)%65536-1:=DJ h2;have e2:(cj.a).step t false x=(.b (x.word (t.nx (-1) 0)) (x.word (t.nx (-1) 0)%65536-1),x.ld (t.nx (-1) 0)):=by show(if t.ix _<0 then _ else cj.b _ (t.ix _),_)=_;rw[e1,if_neg (show¬x.word (t.nx (-1) 0)%65536-1<0 from h1)]
   exact aa e2 (.b ⟨hb,e1,Int.not_lt.1 h1⟩) rfl HQ
 |@b lv a i w fd rt h=>
  have hi:=Tw.eB h am;have hn:t.nx i 0=t.pt i 4:=by unfold Tw.nx;rw[if_neg am];rfl
  have hb:=Me.aj hx (t.pt i 4);have e2:(cj.b a i).step t false x=(if 9223372036854775808<=x.word (t.pt i 4) then .c a (x.word (t.pt i 4)) else .m a i,x.ld (t.pt i 4)):=by rw[<-hn];rfl
  refine y2 H E0 ?_ ?_<;>intros
  .next h1=>exact aa (e2.trans (Prod.ext (if_pos h1) rfl)) (.c h.1 hb h1) rfl HQ
  .next h1=>exact aa (e2.trans (Prod.ext (if_neg h1) rfl)) (.m h) rfl HQ
 |@c lv a i w fd rt ha hw hm=>
  refine y1 H E0 ?_;exact aa rfl .a rfl HQ
 |@m lv a i w fd rt h=>
  have hi:=Tw.eB h am;have hb:=Me.aj hx (t.pt i 2);have zr:Me.aC (x.word (qo t.nd t.ht i 2)):=hb;refine y4 H E0 ?_ ?_ ?_ ?_<;>intros
  .next h1 h2=>
   have e:(cj.m a i).step t false x=(.k a i,x.ld (t.pt i 2)):=by show(cj.below a i (min (x.word (qo t.nd t.ht i 2)) t.ht).toNat,_)=_;unfold cj.below;rw[if_pos am]
   exact aa e (.k h) rfl HQ
  .next h1 h2=>
   have e:(cj.m a i).step t false x=(.n a i ((min (x.word (qo t.nd t.ht i 2)) t.ht).toNat-1),x.ld (t.pt i 2)):=by show(cj.below a i (min (x.word (qo t.nd t.ht i 2)) t.ht).toNat,_)=_;unfold cj.below;rw[if_neg am]
   exact aa e (.n (lv:=x.word (qo t.nd t.ht i 2)-1) h am ⟨am,am⟩) rfl HQ
  .next h1 h2=>
   have e:(cj.m a i).step t false x=(.k a i,x.ld (t.pt i 2)):=by show(cj.below a i (min (x.word (qo t.nd t.ht i 2)) t.ht).toNat,_)=_;unfold cj.below;rw[if_pos am]
   exact aa e (.k h) rfl HQ
  .next h1 h2=>
   have e:(cj.m a i).step t false x=(.n a i ((min (x.word (qo t.nd t.ht i 2)) t.ht).toNat-1),x.ld (t.pt i 2)):=by show(cj.below a i (min (x.word (qo t.nd t.ht i 2)) t.ht).toNat,_)=_;unfold cj.below;rw[if_neg am]
   exact aa e (.n (lv:=t.ht-1) h am ⟨am,am⟩) rfl HQ
 |@n lv a i w l fd rt h hv hl=>
  subst hv;have hi:=Tw.eB h am;have hn:t.nx i l=t.pt i (4+l):=by unfold Tw.nx;rw[if_neg am]
  have hb:=Me.aj hx (t.pt i (4+l));refine y3 H E0 ?_ ?_ ?_<;>intros
  .next h1 h2=>
   have e:(cj.n a i l).step t false x=(.k a i,x.ld (t.pt i (4+l))):=by show(if _<=x.word (t.nx i l) then cj.below a i l else _,x.ld (t.nx i l))=_;unfold cj.below;rw[hn,if_pos (show 9223372036854775808<=x.word (t.pt i (4+l)) from h1),if_pos am]
   exact aa e (.k h) rfl HQ
  .next h1 h2=>
   have e:(cj.n a i l).step t false x=(.n a i (l-1),x.ld (t.pt i (4+l))):=by show(if _<=x.word (t.nx i l) then cj.below a i l else _,x.ld (t.nx i l))=_;unfold cj.below;rw[hn,if_pos (show 9223372036854775808<=x.word (t.pt i (4+l)) from h1),if_neg am]
   exact aa e (.n (lv:=(l:Int)-1) h am ⟨am,am⟩) rfl HQ
  .next h1=>
   have e:(cj.n a i l).step t false x=(.o a i l (x.word (t.pt i (4+l))),x.ld (t.pt i (4+l))):=by show(if _<=x.word (t.nx i l) then cj.below a i l else .o a i l (x.word (t.nx i l)),x.ld (t.nx i l))=_;rw[hn,if_neg (show¬9223372036854775808<=x.word (t.pt i (4+l)) from h1)]
   exact aa e (.o h rfl hl hb h1) rfl HQ
 |@o lv a i w l fd rt h hv hl hw hm=>
  subst hv;have hi:=Tw.eB h am;refine y3 H E0 ?_ ?_ ?_<;>intros
  .next h1 h2=>
   have e:(cj.o a i l w).step t false x=(.k a i,x.gY (t.nx i l) w (w+9223372036854775808)):=by show(if x.eq (Cl t.nd t.hd t.ht i l) _ then cj.below a i l else _,_)=_;unfold cj.below;rw[if_pos h1,if_pos am]
   exact aa e (.k h) rfl HQ
  .next h1 h2=>
   have e:(cj.o a i l w).step t false x=(.n a i (l-1),x.gY (t.nx i l) w (w+9223372036854775808)):=by show(if x.eq (Cl t.nd t.hd t.ht i l) _ then cj.below a i l else _,_)=_;unfold cj.below;rw[if_pos h1,if_neg am]
   exact aa e (.n (lv:=(l:Int)-1) h am ⟨am,am⟩) rfl HQ
  .next h1=>exact aa (Prod.ext (if_neg h1) rfl) (.n h rfl hl) rfl HQ
 |@k lv a i w fd rt h=>
  have hi:=Tw.eB h am;have hn:t.nx i 0=t.pt i 4:=by unfold Tw.nx;rw[if_neg am];rfl
  have hb:=Me.aj hx (t.pt i 4);have e2:(cj.k a i).step t false x=(if 9223372036854775808<=x.word (t.pt i 4) then .c a (x.word (t.pt i 4)) else .h a i (x.word (t.pt i 4)),x.ld (t.pt i 4)):=by rw[<-hn];rfl
  refine y2 H E0 ?_ ?_<;>intros
  .next h1=>exact aa (e2.trans (Prod.ext (if_pos h1) rfl)) (.c h.1 hb h1) rfl HQ
  .next h1=>exact aa (e2.trans (Prod.ext (if_neg h1) rfl)) (.h h hb h1) rfl HQ
 |@h lv a i w fd rt h hw hm=>
  have hi:=Tw.eB h am;refine y2 H E0 ?_ ?_<;>intros
  .next h1=>exact aa (Prod.ext (if_pos h1) rfl) (.r h) rfl HQ
  .next h1=>exact aa (Prod.ext (if_neg h1) rfl) (.k h) rfl HQ
 |@r lv a i w fd rt h=>
  have hi:=Tw.eB h am;have hb:=Me.aj hx (t.pt i 0);refine y1 H E0 ?_;exact aa rfl (.j h hb) rfl HQ
 |@j lv a i w key fd rt h hk=>
  have hi:=Tw.eB h am;have hb:=Me.aj hx (t.pt i 1);refine y1 H E0 ?_;intros;next p l' hF=>exact aa rfl (.f h hk (show b_ t key p 0 (.new t) l' from hF) rfl) rfl HQ
 |@f lv a i w key ar bf rt qf F lf h hk hF Ym=>
  refine y1 H E0 ?_;refine Vx.f_ (A:=[_]) (λB W S H=>ry hs hx Ym hk hF H) λa' x' l' e hl=>?_;have e2:(cj.f a i key ar F).step t false x=(if a'.over then .g a i key ar else .f a i key ar a',x'):=by show(if(F.step t key x).1.over then _ else _,_)=_;rw[e]
  have pG:=hl.row;obtain⟨ln,FJ,pred,known,cur,w2,qt,k,c,rfl⟩:=pG;cases ho:a'.over
  .refine z1 ?_;exact aa (e2.trans (Prod.ext (if_neg (by rw[ho];simp)) rfl)) (.f h hk hl ho) rfl HQ
  .refine z1 ?_;exact aa (e2.trans (Prod.ext (if_pos ho) rfl)) (.g h hk) rfl HQ
 |@g lv a i w key ar fd rt h hk=>
  have hi:=Tw.eB h am;have hn:iX.new t.l i=.a:=if_neg am;have e2:(cj.g a i key ar).step t false x=(if(x.add (t.pt i 3) 18446744073709551615).new=0 then .w i key ar .a else .d key ar 0,x.add (t.pt i 3) 18446744073709551615):=by show(if(x.add (t.pt i _) _).new=0 then cj.w i key ar (iX.new _ i) else _,x.add (t.pt i _) _)=_;rw[hn]
  refine y2 H E0 ?_ ?_<;>intros
  .next h1 p1 p2 h2 h3=>exact aa (e2.trans (Prod.ext (if_pos h1) rfl)) (.w hi hk (.a ⟨hi.1,hi.2⟩) rfl) rfl HQ
  .next h1=>exact aa (e2.trans (Prod.ext (if_neg h1) rfl)) .d rfl HQ
 |@w lv a i w key ar fd qr σ lr hi hk h hR=>
  refine y1 H E0 ?_;refine Vx.f_ (A:=[_]) (λB W S H=>DD hs.2.2.2.2 hx h H) λa' x' l' e hl=>?_;have e2:(cj.w i key ar σ).step t false x=(if a'.over then .d key ar 0 else .w i key ar a',x'):=by show(if(σ.step t.l i x).1.over then _ else _,(σ.step t.l i x).2)=_;rw[e]
  cases ho:a'.over
  .refine z1 ?_;exact aa (e2.trans (Prod.ext (if_neg (by rw[ho];simp)) rfl)) (.w hi hk hl ho) rfl HQ
  .refine z1 ?_;exact aa (e2.trans (Prod.ext (if_pos ho) rfl)) .d rfl HQ
 |d=>cases ho
end
instance z38:cK 572 where
section
variable{nd hd ht c3 c4 n c6 c7 c8 c9 dS dt dW:Int}
instance aap:NC EM (zF 512) [.agg [I nd,I hd,I ht,I c3,I c4,I n,I c6,I c7,I c8,I c9,I dS,I dt,I dW]] ((0<=nd/\nd<4096)/\(0<=hd/\hd<4096)/\(1<=ht/\ht<=4)/\1<=n/\n<=128)
  (λp l=>wF ⟨nd,hd,ht,⟨⟨⟨c3,c4,n⟩,c6,c7,c8⟩,⟨c9,dS,dt⟩,dW⟩⟩ p 0 .a l):=.of rfl rfl λh ro R=>by
 have h0:0<=Cl nd hd ht (-1) 0:=by unfold Cl;rw[if_pos rfl];omega
 show Zx EM false (Tryz.a512 _) _ _ _ _;refine z1 ?_;intros;exact⟨rfl,rfl,(_::R),⟨_,_,wF.a,rfl,rfl⟩,HQ⟩
end
instance z39 {n:Nat}[Mn n [607,748,749,751,750,568]]:cK n where
def Tw.AS (t:Tw)(line a i w key A cR er:Int):List AV:=t.cs++[I line,U a,I i,U w,U key,I A,U cR,B true,I er]
inductive DK (t:Tw)(q:Nat)(b:Int):cj->List Own->Prop
 |a {a i w:Int}:DK t q b .a [.obj q (.row (t.AS 1 a i w 0 0 b 0))]
 |b {a i w:Int}(h:t.ue a i):DK t q b (.b a i) [.obj q (.row (t.AS 2 a i w 0 0 b 0))]
 |c {a i w:Int}(ha:Me.aC a)(hw:Me.aC w)(hm:9223372036854775808<=w):DK t q b (.c a w) [.obj q (.row (t.AS 3 a i w 0 0 b 0))]
 |r {a i w:Int}(h:t.ue a i):DK t q b (.r a i) [.obj q (.row (t.AS 4 a i w 0 0 b 0))]
 |j {a i w key:Int}(h:t.ue a i)(hk:Me.aC key):DK t q b (.j a i key) [.obj q (.row (t.AS 5 a i w key 0 b 0))]
 |d {a i w key ar e:Int}:DK t q b (.d key ar e) [.obj q (.row (t.AS 99 a i w key ar b e))]
section
variable{B0 S:AH}{W:List Nat}{own R lo:List Own}{ro:List aI}{m bl q:Nat}{x:Me}{rest:List AV}{t:Tw}{b:Int}
theorem Ss {o1 own:List Own}(e:o1=own:=by conv=>lhs;simp only[Tw.AS,Tw.cs,Lb.cs,Ar.cs,Ep.cs,lA,lB,lC]):o1=own:=e
theorem H4 {σ:cj}(hs:t.ok)(hx:x.gd)(ho:σ.over=false)(h:DK t q b σ lo)(H:Cx B0 W S (lo++(ae m bl x rest++R)) ro):
  aN EM (zF 747) [.ptr q 0,.ptr m 0] S λu S'=>∃ab,fb (DK t q σ.cR) cj.over (σ.step t true x) (ae m bl · rest) R u ab/\Cx B0 W S' ab ro:=by
 have bt:=hs;unfold Tw.ok Lb.ok Ar.ok Sk.ok Ep.ok at bt;cases h with
 |@a a i w=>
  have hb:=Me.aj hx (t.nx (-1) 0);refine y3 H Ss ?_ ?_ ?_<;>intros
  .next h1=>exact aa (Prod.ext (if_pos (uf (.inl h1))) rfl) .d rfl HQ
  .next h1 h2=>exact aa (Prod.ext (if_pos (uf (.inr h2))) rfl) .d rfl HQ
  .next h1 h2=>
   have e1:t.ix (x.word (t.nx (-1) 0))=x.word (t.nx (-1) 0)%65536-1:=DJ h2;have e2:(cj.a).step t true x=(.b (x.word (t.nx (-1) 0)) (x.word (t.nx (-1) 0)%65536-1),x.ld (t.nx (-1) 0)):=by show(if t.ix _<0 then _ else cj.b _ (t.ix _),_)=_;rw[e1,if_neg (show¬x.word (t.nx (-1) 0)%65536-1<0 from h1)]
   exact aa e2 (.b ⟨hb,e1,Int.not_lt.1 h1⟩) rfl HQ
 |@b a i w h=>
  have hi:=Tw.eB h am;have hn:t.nx i 0=t.pt i 4:=by unfold Tw.nx;rw[if_neg am];rfl
  have hb:=Me.aj hx (t.pt i 4);have e2:(cj.b a i).step t true x=(if 9223372036854775808<=x.word (t.pt i 4) then .c a (x.word (t.pt i 4)) else .r a i,x.ld (t.pt i 4)):=by rw[<-hn];rfl
  refine y2 H Ss ?_ ?_<;>intros
  .next h1=>exact aa (e2.trans (Prod.ext (if_pos h1) rfl)) (.c h.1 hb h1) rfl HQ
  .next h1=>exact aa (e2.trans (Prod.ext (if_neg h1) rfl)) (.r h) rfl HQ
 |@c a i w ha hw hm=>
  refine y1 H Ss ?_;exact aa rfl .a rfl HQ
 |@r a i w h=>
  have hi:=Tw.eB h am;have hb:=Me.aj hx (t.pt i 0);refine y1 H Ss ?_;exact aa rfl (.j h hb) rfl HQ
 |@j a i w key h hk=>
  have hi:=Tw.eB h am;have hb:=Me.aj hx (t.pt i 1);refine y1 H Ss ?_;exact aa rfl .d rfl HQ
 |d=>cases ho
end
section
variable{nd hd ht c3 c4 n c6 c7 c8 c9 dS dt dW:Int}
instance aaq:NC EM (zF 567) [.agg [I nd,I hd,I ht,I c3,I c4,I n,I c6,I c7,I c8,I c9,I dS,I dt,I dW]] ((0<=nd/\nd<4096)/\(0<=hd/\hd<4096)/\(1<=ht/\ht<=4)/\1<=n/\n<=128)
  (λp l=>DK ⟨nd,hd,ht,⟨⟨⟨c3,c4,n⟩,c6,c7,c8⟩,⟨c9,dS,dt⟩,dW⟩⟩ p 0 .a l):=.of rfl rfl λh ro R=>by
 have h0:0<=Cl nd hd ht (-1) 0:=by unfold Cl;rw[if_pos rfl];omega
 show Zx EM false (Tryz.a567 _) _ _ _ _;refine z1 ?_;intros;exact⟨rfl,rfl,(_::R),⟨_,_,DK.a,rfl,rfl⟩,HQ⟩
end
instance z40 {n:Nat}[Mn n [141,161,162,248,386]]:cK n where
section
variable{f ad room c v:Int}
instance Vu:VC EM (zF 279) [.agg [I f,I ad,I room],I c] ((0<=f/\f<4096)/\(1<=ad/\ad<=64)/\(1<=room/\room<=16)/\0<=c/\c<ad) (.ed [.agg [I (f+c*(room+2)),I (f+c*(room+2)+1),I (f+c*(room+2)+2),I room],B true]):=.of rfl rfl λ⟨h1,h2,h3,h4⟩=>by
 show Zx EM false (Tryz.a279 _) _ _ _ _;refine z1 ?_;intros;refine Vx.Se ad.toNat (λi=>(i:Int)<=c) h4.1 ?_ ?_
 .intro i hi hp hn;have q1:0<=(i:Int)*(room+2):=Int.mul_nonneg am am;have q2:(i:Int)*(room+2)<=64*18:=Int.mul_le_mul am am am am;refine z2 ?_ ?_<;>intros
  .next h=>exact⟨rfl,by rw[h];rfl⟩
  .next h=>exact Vx.bQ HQ (hn am)
 .intro hp;exfalso;omega
end
inductive pg (r:Rn)(v:Int)(q:Nat):dZ->List Own->Prop
 |s {qp:Nat}{σ lp}(h:lG r v qp σ lp)(ho:σ.over=false):pg r v q σ (.obj q (.row [B true,.ptr qp 0,I 0])::lp)
 |d {e:Int}:pg r v q (.d e) [.obj q (.row [B true,Np,I e])]
section
variable{B0 S:AH}{W:List Nat}{own R lo:List Own}{ro:List aI}{m bl q:Nat}{x:Me}{rest:List AV}{r:Rn}{v:Int}
theorem AU {σ}(hs:r.ok)(hx:x.gd)(ho:σ.over=false)(h:pg r v q σ lo)(H:Cx B0 W S (lo++(ae m bl x rest++R)) ro):
  aN EM (zF 692) [.ptr q 0,.ptr m 0] S λu S'=>∃ab,fb (pg r v q) dZ.over (σ.step r v x) (ae m bl · rest) R u ab/\Cx B0 W S' ab ro:=by
 cases h with
 |@s qp σ lp h hF=>
  refine y1 H bL ?_;refine Vx.f_ (A:=[_]) (λB W S H=>EY hs hx h H) λa' x' l' e hl=>?_;cases ho:a'.over
  .refine z1 ?_;exact aa e (.s hl ho) ho HQ
  .cases hl with
   |a=>cases ho
   |b=>cases ho
   |c=>cases ho
   |l=>cases ho
   |h=>cases ho
   |d=>
    refine z1 ?_;exact aa e .d rfl HQ
 |d=>cases ho
end
section
variable{f ad room c v:Int}
instance Vv:NC EM (zF 275) [.agg [I f,I ad,I room],I c,I v] ((0<=f/\f<4096)/\(1<=ad/\ad<=64)/\(1<=room/\room<=16)/\(0<=c/\c<ad)/\0<=v/\v<65536)
  (λp l=>pg ⟨f+c*(room+2),f+c*(room+2)+1,f+c*(room+2)+2,room⟩ v p .a l):=.of rfl rfl λ⟨h1,h2,h3,h4,h5⟩ ro R=>by
 have q1:0<=c*(room+2):=Int.mul_nonneg am am;have q2:c*(room+2)<=64*18:=Int.mul_le_mul am am am am;show Zx EM false (Tryz.a275 _) _ _ _ _;refine z1 ?_;intros;exact⟨rfl,rfl,(_::_::R),⟨_,_,pg.s (.a h5) rfl,rfl,rfl⟩,HQ⟩
end
end Go.cG
