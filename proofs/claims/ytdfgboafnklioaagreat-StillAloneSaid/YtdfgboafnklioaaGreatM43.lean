/- Contracts of functions, over the abstract machine. Conditions: stated in each theorem. -/
import Derived.Test.YtdfgboafnklioaaGreatM42
import Derived.Test.YtdfgboafnklioaaGreatM11
import Derived.Test.YtdfgboafnklioaaGreatM12
set_option linter.all false
set_option maxRecDepth 100000
set_option maxHeartbeats 4000000
namespace Go.cY
open Go.Proofs
section
instance z93 {n:Nat}[Mn n [519,520,521,431,432,433,434,435,306,437]]:cF n where
def Tw.kQ (t:Tw)(look:Bool)(ln a w i lv key A:Int)(fd rt:AV)(is:Bool)(r e:Int):List AV:=t.cs++[B look,I ln,U a,U w,I i,I lv,U key,I A,fd,rt,B is,U r,I e]
inductive gU (t:Tw)(look:Bool)(q:Nat)(b:Int):b8→List Own→Prop
 |a {lv a i w:Int}{is:Bool}{fd rt}:gU t look q b .a [.obj q (.row (t.kQ look 1 a w i lv 0 0 fd rt is b 0))]
 |b {lv a i w:Int}{is:Bool}{fd rt}(h:t.sy a i):gU t look q b (.b a i) [.obj q (.row (t.kQ look 2 a w i lv 0 0 fd rt is b 0))]
 |c {lv a i w:Int}{is:Bool}{fd rt}(ha:Me.ar a)(hw:Me.ar w)(hm:9223372036854775808≤w):gU t look q b (.c a w) [.obj q (.row (t.kQ look 3 a w i lv 0 0 fd rt is b 0))]
 |m {lv a i w:Int}{is:Bool}{fd rt}(h:t.sy a i):gU t look q b (.m a i) [.obj q (.row (t.kQ look 4 a w i lv 0 0 fd rt is b 0))]
 |n {lv a i w:Int}{is:Bool}{l:Nat}{fd rt}(h:t.sy a i)(hv:lv=l)(hl:1≤lv∧lv<t.ht):gU t look q b (.n a i l) [.obj q (.row (t.kQ look 5 a w i lv 0 0 fd rt is b 0))]
 |o {lv a i w:Int}{is:Bool}{l:Nat}{fd rt}(h:t.sy a i)(hv:lv=l)(hl:1≤lv∧lv<t.ht)(hw:Me.ar w)(hm:¬9223372036854775808≤w):gU t look q b (.o a i l w) [.obj q (.row (t.kQ look 6 a w i lv 0 0 fd rt is b 0))]
 |k {lv a i w:Int}{is:Bool}{fd rt}(h:t.sy a i):gU t look q b (.k a i) [.obj q (.row (t.kQ look 7 a w i lv 0 0 fd rt is b 0))]
 |h {lv a i w:Int}{is:Bool}{fd rt}(h:t.sy a i)(hw:Me.ar w)(hm:¬9223372036854775808≤w):gU t look q b (.h a i w) [.obj q (.row (t.kQ look 8 a w i lv 0 0 fd rt is b 0))]
 |r {lv a i w:Int}{is:Bool}{fd rt}(h:t.sy a i):gU t look q b (.r a i) [.obj q (.row (t.kQ look 9 a w i lv 0 0 fd rt is b 0))]
 |j {lv a i w key:Int}{is:Bool}{fd rt}(h:t.sy a i)(hk:Me.ar key):gU t look q b (.j a i key) [.obj q (.row (t.kQ look 91 a w i lv key 0 fd rt is b 0))]
 |f {lv a i w key aq bf:Int}{is:Bool}{rt}{qf:Nat}{F lf}(h:t.sy a i)(hk:Me.ar key)(hF:bj t key qf bf F lf)(ho:F.over=false):gU t look q b (.f a i key aq F) (.obj q (.row (t.kQ look 10 a w i lv key aq (.ptr qf 0) rt is b 0))::lf)
 |g {lv a i w key aq:Int}{is:Bool}{fd rt}(h:t.sy a i)(hk:Me.ar key):gU t look q b (.g a i key aq) [.obj q (.row (t.kQ look 11 a w i lv key aq fd rt is b 0))]
 |w {lv a i w key aq:Int}{is:Bool}{fd}{qr:Nat}{σ lr}(hi:0≤i∧i<t.l.a.f.size)(hk:Me.ar key)(h:rG t.l i qr σ lr)(ho:σ.over=false):gU t look q b (.w i key aq σ) (.obj q (.row (t.kQ look 92 a w i lv key aq fd (.ptr qr 0) is b 0))::lr)
 |d {lv a i w key aq e:Int}{is:Bool}{fd rt}:gU t look q b (.d key aq e) [.obj q (.row (t.kQ look 99 a w i lv key aq fd rt is b e))]
section
variable{B0 S:AH}{W:List Nat}{own R lo:List Own}{ro:List aQ}{m q:Nat}{vm:AV}{x:Me}{t:Tw}{b:Int}{look:Bool}
theorem qO {o1 own:List Own}(e:o1=own:=by conv=>lhs;simp only[Tw.kQ,Tw.oU,A4,Tw.cs,Lb.cs,Ar.cs,Ep.cs,lA,lB,lC]):o1=own:=e
theorem Cj {σ:b8}(hs:t.ok)(hx:x.gd)(ho:σ.over=false)(h:gU t look q b σ lo)(H:Cx B0 W S (lo++(aj m vm x++R)) ro):
  aO EM (zF 305) [.ptr q 0,.ptr m 0] S fun u S'=>∃ab,eD (gU t look q σ.cz) b8.over (σ.step t look x) (aj m vm) R u ab∧Cx B0 W S' ab ro:=by
 have bn:=hs
 unfold Tw.ok Lb.ok Ar.ok Sk.ok Ep.ok at bn
 cases h with
 |@a lv a i w is fd rt=>
  have hb:=Me.ai hx (t.nx (-1) 0)
  refine Vx.fm H qO (b:=Tryz.a305) ?_;(repeat' first|constructor|exact ZQ|intro _);all_goals apply zL
  ·next h1=>exact aa (Prod.ext (if_pos h1) rfl) .d rfl HQ
  ·next h1=>exact aa (Prod.ext (if_neg h1) rfl) (.b ⟨hb,rfl,Int.not_lt.1 h1⟩) rfl HQ
 |@b lv a i w is fd rt h=>
  have hi:=Tw.dL h (by omega)
  have hn:t.nx i 0=t.pt i 4:=by unfold Tw.nx;rw[if_neg (by omega)];rfl
  have hb:=Me.ai hx (t.pt i 4)
  have e2:(b8.b a i).step t look x=(if 9223372036854775808≤x.word (t.pt i 4) then .c a (x.word (t.pt i 4)) else if look then .r a i else .m a i,x.ld (t.pt i 4)):=by
   rw[←hn];rfl
  refine Vx.fm H qO (b:=Tryz.a305) ?_;(repeat' first|constructor|exact ZQ|intro _);all_goals apply zL
  ·next h1=>exact aa (e2.trans (Prod.ext (if_pos h1) rfl)) (.c h.1 hb h1) rfl HQ
  ·next h1 h2=>subst h2;exact aa (e2.trans (Prod.ext (if_neg h1) rfl)) (.r h) rfl HQ
  ·next h1 h2=>subst h2;exact aa (e2.trans (Prod.ext (if_neg h1) rfl)) (.m h) rfl HQ
 |@c lv a i w is fd rt ha hw hm=>
  have e1:(w-9223372036854775808)%18446744073709551616=w-9223372036854775808:=by unfold Me.ar at*;omega
  refine Vx.fm H qO (b:=Tryz.a305) ?_;(repeat' first|constructor|exact ZQ|intro _);all_goals apply zL
  all_goals rw[e1]
  all_goals exact aa rfl .a rfl HQ
 |@m lv a i w is fd rt h=>
  have hi:=Tw.dL h (by omega)
  have hb:=Me.ai hx (t.pt i 2)
  have xX:Me.ar (x.word (oX t.nd t.ht i 2)):=hb
  have e1:t.ht%18446744073709551616=t.ht:=by omega
  unfold Me.ar at xX
  refine Vx.fm H qO (b:=Tryz.a305) ?_;(repeat' first|constructor|exact ZQ|intro _);all_goals apply zL
  all_goals(try rw[e1] at*)
  ·next h1 h2=>
   have e:(b8.m a i).step t look x=(.k a i,x.ld (t.pt i 2)):=by
    show(b8.below a i (min (x.word (oX t.nd t.ht i 2)) t.ht).toNat,_)=_
    unfold b8.below;rw[if_pos (by omega)]
   exact aa e (.k h) rfl HQ
  ·next h1 h2=>
   have e:(b8.m a i).step t look x=(.n a i ((min (x.word (oX t.nd t.ht i 2)) t.ht).toNat-1),x.ld (t.pt i 2)):=by
    show(b8.below a i (min (x.word (oX t.nd t.ht i 2)) t.ht).toNat,_)=_
    unfold b8.below;rw[if_neg (by omega)]
   exact aa e (.n (lv:=x.word (oX t.nd t.ht i 2)-1) h (by omega) ⟨by omega,by omega⟩) rfl HQ
  ·next h1 h2=>
   have e:(b8.m a i).step t look x=(.k a i,x.ld (t.pt i 2)):=by
    show(b8.below a i (min (x.word (oX t.nd t.ht i 2)) t.ht).toNat,_)=_
    unfold b8.below;rw[if_pos (by omega)]
   exact aa e (.k h) rfl HQ
  ·next h1 h2=>
   have e:(b8.m a i).step t look x=(.n a i ((min (x.word (oX t.nd t.ht i 2)) t.ht).toNat-1),x.ld (t.pt i 2)):=by
    show(b8.below a i (min (x.word (oX t.nd t.ht i 2)) t.ht).toNat,_)=_
    unfold b8.below;rw[if_neg (by omega)]
   exact aa e (.n (lv:=t.ht-1) h (by omega) ⟨by omega,by omega⟩) rfl HQ
 |@n lv a i w is l fd rt h hv hl=>
  subst hv
  have hi:=Tw.dL h (by omega)
  have hn:t.nx i l=t.pt i (4+l):=by unfold Tw.nx;rw[if_neg (by omega)]
  have hb:=Me.ai hx (t.pt i (4+l))
  refine Vx.fm H qO (b:=Tryz.a305) ?_;(repeat' first|constructor|exact ZQ|intro _);all_goals apply zL
  ·next h1 h2=>
   have e:(b8.n a i l).step t look x=(.k a i,x.ld (t.pt i (4+l))):=by
    show(if _≤x.word (t.nx i l) then b8.below a i l else _,x.ld (t.nx i l))=_
    unfold b8.below;rw[hn,if_pos (show 9223372036854775808≤x.word (t.pt i (4+l)) from h1),if_pos (by omega)]
   exact aa e (.k h) rfl HQ
  ·next h1 h2=>
   have e:(b8.n a i l).step t look x=(.n a i (l-1),x.ld (t.pt i (4+l))):=by
    show(if _≤x.word (t.nx i l) then b8.below a i l else _,x.ld (t.nx i l))=_
    unfold b8.below;rw[hn,if_pos (show 9223372036854775808≤x.word (t.pt i (4+l)) from h1),if_neg (by omega)]
   exact aa e (.n (lv:=(l:Int)-1) h (by omega) ⟨by omega,by omega⟩) rfl HQ
  ·next h1=>
   have e:(b8.n a i l).step t look x=(.o a i l (x.word (t.pt i (4+l))),x.ld (t.pt i (4+l))):=by
    show(if _≤x.word (t.nx i l) then b8.below a i l else .o a i l (x.word (t.nx i l)),x.ld (t.nx i l))=_
    rw[hn,if_neg (show¬9223372036854775808≤x.word (t.pt i (4+l)) from h1)]
   exact aa e (.o h rfl hl hb h1) rfl HQ
 |@o lv a i w is l fd rt h hv hl hw hm=>
  subst hv
  have hi:=Tw.dL h (by omega)
  have hn:t.nx i l=t.pt i (4+l):=by unfold Tw.nx;rw[if_neg (by omega)]
  have e1:(w+9223372036854775808)%18446744073709551616=w+9223372036854775808:=by unfold Me.ar at*;omega
  have e2:(b8.o a i l w).step t look x=(if x.eq (t.nx i l) w then b8.below a i l else .n a i l,x.eh (t.nx i l) w (w+9223372036854775808)):=rfl
  refine Vx.fm H qO (b:=Tryz.a305) ?_;(repeat' first|constructor|exact ZQ|intro _);all_goals apply zL
  all_goals rw[e1]
  ·next h1 h2=>
   have e3:b8.below a i l=.k a i:=if_pos (by omega)
   exact aa (e2.trans (Prod.ext ((if_pos h1).trans e3) rfl)) (.k h) rfl HQ
  ·next h1 h2=>
   have e3:b8.below a i l=.n a i (l-1):=if_neg (by omega)
   exact aa (e2.trans (Prod.ext ((if_pos h1).trans e3) rfl)) (.n (lv:=(l:Int)-1) h (by omega) ⟨by omega,by omega⟩) rfl HQ
  ·next h1=>exact aa (e2.trans (Prod.ext (if_neg h1) rfl)) (.n h rfl hl) rfl HQ
 |@k lv a i w is fd rt h=>
  have hi:=Tw.dL h (by omega)
  have hn:t.nx i 0=t.pt i 4:=by unfold Tw.nx;rw[if_neg (by omega)];rfl
  have hb:=Me.ai hx (t.pt i 4)
  have e2:(b8.k a i).step t look x=(if 9223372036854775808≤x.word (t.pt i 4) then .c a (x.word (t.pt i 4)) else .h a i (x.word (t.pt i 4)),x.ld (t.pt i 4)):=by
   rw[←hn];rfl
  refine Vx.fm H qO (b:=Tryz.a305) ?_;(repeat' first|constructor|exact ZQ|intro _);all_goals apply zL
  ·next h1=>exact aa (e2.trans (Prod.ext (if_pos h1) rfl)) (.c h.1 hb h1) rfl HQ
  ·next h1=>exact aa (e2.trans (Prod.ext (if_neg h1) rfl)) (.h h hb h1) rfl HQ
 |@h lv a i w is fd rt h hw hm=>
  have hi:=Tw.dL h (by omega)
  have hn:AK t.nd t.hd t.ht i 0=t.nx i 0:=rfl
  have e1:(w+9223372036854775808)%18446744073709551616=w+9223372036854775808:=by unfold Me.ar at*;omega
  refine Vx.fm H qO (b:=Tryz.a305) ?_;(repeat' first|constructor|exact ZQ|intro _);all_goals apply zL
  all_goals rw[e1]
  ·next h1=>exact aa (Prod.ext (if_pos h1) rfl) (.r h) rfl HQ
  ·next h1=>exact aa (Prod.ext (if_neg h1) rfl) (.k h) rfl HQ
 |@r lv a i w is fd rt h=>
  have hi:=Tw.dL h (by omega)
  refine Vx.fm H qO (b:=Tryz.a305) ?_;(repeat' first|constructor|exact ZQ|intro _);all_goals apply zL
  exact aa rfl (.j h (Me.ai hx _)) rfl HQ
 |@j lv a i w key is fd rt h hk=>
  have hi:=Tw.dL h (by omega)
  have hb:=Me.ai hx (t.pt i 1)
  have xX:0≤x.word (oX t.nd t.ht i 1):=hb.1
  have e2:(b8.j a i key).step t look x=(if look then .d key (x.word (t.pt i 1)%65536) 0 else .f a i key (x.word (t.pt i 1)%65536) (.new t),x.ld (t.pt i 1)):=rfl
  refine Vx.fm H qO (b:=Tryz.a305) ?_;(repeat' first|constructor|exact ZQ|intro _);all_goals apply zL
  ·next h1 p l' hF=>
   have h2:look=false:=by simpa using h1
   subst h2
   have e3:(b8.j a i key).step t false x=(.f a i key (x.word (t.pt i 1)%65536) (.new t),x.ld (t.pt i 1)):=rfl
   exact aa e3 (.f h hk (show bj t key p 0 (.new t) l' from hF) rfl) rfl HQ
  ·next h1=>
   have h2:look=true:=by simpa using h1
   subst h2
   have e3:(b8.j a i key).step t true x=(.d key (x.word (t.pt i 1)%65536) 0,x.ld (t.pt i 1)):=rfl
   exact aa e3 .d rfl HQ
 |@f lv a i w key aq bf is rt qf F lf h hk hF UZ=>
  refine Vx.fm H qO (b:=Tryz.a305) ?_;(repeat' first|constructor|exact ZQ|intro _);all_goals apply zL
  refine Vx.fz (A:=[_]) (fun B W S H=>nI hs hx UZ hk hF H) fun a' x' l' e hl=>?_
  have e2:(b8.f a i key aq F).step t look x=(if a'.over then .g a i key aq else .f a i key aq a',x'):=by
   show(_,_)=_
   rw[e]
  have pq:=hl.row
  obtain⟨ln,DO,pred,known,cur,w2,qp,qs,qk,k,T2,rfl⟩:=pq
  simp only[Tw.oU,A4,Tw.cs,Lb.cs,Ar.cs,Ep.cs,lA,lB]
  cases ho:a'.over
  ·(repeat' first|constructor|exact ZQ|intro _)
   all_goals apply zL
   exact aa (e2.trans (Prod.ext (if_neg (by rw[ho];simp)) rfl)) (.f h hk hl ho) rfl HQ
  ·(repeat' first|constructor|exact ZQ|intro _)
   all_goals apply zL
   exact aa (e2.trans (Prod.ext (if_pos ho) rfl)) (.g h hk) rfl HQ
 |@g lv a i w key aq is fd rt h hk=>
  have hi:=Tw.dL h (by omega)
  have hn:gP.new t.l i=.a:=if_neg (by omega)
  have e2:(b8.g a i key aq).step t look x=(if(x.add (t.pt i 3) 18446744073709551615).new=0 then .w i key aq .a else .d key aq 0,x.add (t.pt i 3) 18446744073709551615):=by
   show(if(x.add (t.pt i _) _).new=0 then b8.w _ _ _ (gP.new _ i) else _,x.add (t.pt i _) _)=_;rw[hn]
  refine Vx.fm H qO (b:=Tryz.a305) ?_;(repeat' first|constructor|exact ZQ|intro _);all_goals apply zL
  ·next h1 p1 p2 h2 h3=>exact aa (e2.trans (Prod.ext (if_pos h1) rfl)) (.w hi hk (.a hi) rfl) rfl HQ
  ·next h1=>exact aa (e2.trans (Prod.ext (if_neg h1) rfl)) .d rfl HQ
 |@w lv a i w key aq is fd qr σ lr hi hk h hF=>
  refine Vx.fm H qO (b:=Tryz.a305) ?_;(repeat' first|constructor|exact ZQ|intro _);all_goals apply zL
  refine Vx.fz (A:=[_]) (fun B W S H=>zr hs.2.2.2.2 hx h H) fun a' x' l' e hl=>?_
  have e2:(b8.w i key aq σ).step t look x=(if a'.over then .d key aq 0 else .w i key aq a',x'):=by
   show(if(σ.step t.l i x).1.over then _ else _,(σ.step t.l i x).2)=_
   rw[e]
  cases ho:a'.over
  ·(repeat' first|constructor|exact ZQ|intro _)
   all_goals apply zL
   exact aa (e2.trans (Prod.ext (if_neg (by rw[ho];simp)) rfl)) (.w hi hk hl ho) rfl HQ
  ·(repeat' first|constructor|exact ZQ|intro _)
   all_goals apply zL
   exact aa (e2.trans (Prod.ext (if_pos ho) rfl)) .d rfl HQ
 |d=>cases ho
end
section
variable{nd hd ht c3 c4 n c6 c7 c8 c9 dz cT dx:Int}
instance z94:cF 465 where
instance VN:NC EM (zF 526) [.agg [I nd,I hd,I ht,I c3,I c4,I n,I c6,I c7,I c8,I c9,I dz,I cT,I dx]] ((0≤nd∧nd<4096)∧(0≤hd∧hd<4096)∧(1≤ht∧ht≤4)∧1≤n∧n≤128)
  (fun p l=>gU ⟨nd,hd,ht,⟨⟨⟨c3,c4,n⟩,c6,c7,c8⟩,⟨c9,dz,cT⟩,dx⟩⟩ true p 0 .a l):=.of rfl rfl fun h ro R=>by
 show Zx EM false (Tryz.a526 _) _ _ _ _
 (repeat' first|constructor|exact ZQ|intro _)
 all_goals apply zL
 exact⟨rfl,rfl,(_::R),⟨_,_,gU.a,rfl,rfl⟩,HQ⟩
instance VO:NC EM (zF 465) [.agg [I nd,I hd,I ht,I c3,I c4,I n,I c6,I c7,I c8,I c9,I dz,I cT,I dx]] ((0≤nd∧nd<4096)∧(0≤hd∧hd<4096)∧(1≤ht∧ht≤4)∧1≤n∧n≤128)
  (fun p l=>gU ⟨nd,hd,ht,⟨⟨⟨c3,c4,n⟩,c6,c7,c8⟩,⟨c9,dz,cT⟩,dx⟩⟩ false p 0 .a l):=.of rfl rfl fun h ro R=>by
 show Zx EM false (Tryz.a465 _) _ _ _ _
 (repeat' first|constructor|exact ZQ|intro _)
 all_goals apply zL
 exact⟨rfl,rfl,(_::R),⟨_,_,gU.a,rfl,rfl⟩,HQ⟩
end
end
section
section
variable{nd hd ht c3 c4 n c6 c7 c8 c9 dz cT dx i g aq high key c p:Int}
instance Sq:NC EM (zF 446) [.agg [I c3,I c4,I n,I c6,I c7,I c8]] True
  (fun q l=>gy ⟨⟨c3,c4,n⟩,c6,c7,c8⟩ q (.p .a) l):=.of rfl rfl fun h ro R=>by
 show Zx EM false (Tryz.a446 _) _ _ _ _
 (repeat' first|constructor|exact ZQ|intro _)
 all_goals apply zL
 exact⟨rfl,rfl,(_::_::R),⟨_,_,gy.p (l:=[_]) .a rfl,rfl,rfl⟩,HQ⟩
instance Ss:NC EM (zF 449) [.agg [I c3,I c4,I n,I c6,I c7,I c8,I c9,I dz,I cT,I dx],I c,I p] ((0≤c∧c<cT)∧(0≤p∧p<4294967296)∧0≤dx∧dx<50000)
  (fun q l=>l_ ⟨⟨⟨c3,c4,n⟩,c6,c7,c8⟩,⟨c9,dz,cT⟩,dx⟩ c p q (.v .a) l):=.of rfl rfl fun⟨h,hp,ht⟩ ro R=>by
 have e1:(p+2)%18446744073709551616=p+2:=by omega
 show Zx EM false (Tryz.a449 _) _ _ _ _
 (repeat' first|constructor|exact ZQ|intro _)
 all_goals apply zL
 all_goals(try rw[e1])
 all_goals first|omega|skip
 exact⟨rfl,rfl,(_::_::_::R),⟨_,_,l_.v (la:=[_]) (lb:=[_]) hp (.a h) rfl .a,rfl,rfl⟩,HQ⟩
instance St:NC EM (zF 448) [.agg [I nd,I hd,I ht,I c3,I c4,I n,I c6,I c7,I c8,I c9,I dz,I cT,I dx],U (aC i g),U key,I aq,I high] (((0≤nd∧nd<4096)∧(0≤hd∧hd<4096)∧(1≤ht∧ht≤4)∧1≤n∧n≤128)∧(cX i g∧i<n)∧(0≤aq∧aq≤65534)∧1≤high∧high≤ht)
  (fun q l=>nh ⟨nd,hd,ht,⟨⟨⟨c3,c4,n⟩,c6,c7,c8⟩,⟨c9,dz,cT⟩,dx⟩⟩ i g key aq high q 0 (.s 0) l):=.of rfl rfl fun h ro R=>by
 obtain⟨h0,hi,hj,hh⟩:=h
 have hx:=qH hi.1
 have kZ:idx n (aC i g)=i:=by unfold idx;rw[hx,if_pos hi.2]
 have hw:=ki hi.1
 show Zx EM false (Tryz.a448 _) _ _ _ _
 (repeat' first|constructor|exact ZQ|intro _)
 all_goals apply zL
 all_goals first|exact⟨h0,hi,hh⟩|skip
 rw[kZ]
 exact⟨rfl,rfl,(_::R),⟨_,_,nh.s (k:=0) (by omega),rfl,rfl⟩,HQ⟩
end
instance z95 {n:Nat}[Mn n [186,304,307,338,340,219]]:cF n where
def Tw.p_ (t:Tw)(c ln:Int)(kR:AV)(p:Int)(ma:AV)(b e key aq high n:Int)(al co:AV)(ref:Int)(ly ins:AV):List AV:=t.cs++[I c,I ln,kR,I p,ma,U b,I e,U key,I aq,I high,I n,al,co,U ref,ly,ins]
inductive gz (t:Tw)(c key aq high:Int)(q:Nat)(b:Int):aV→List Own→Prop
 |p {qm:Nat}{ma al co ly ins}{n:Nat}{ln p ref:Int}{σ lm}(hn:n≤3)(hl:ln=1∨ln=23)(h:p9 t.l.e c qm σ lm)(ho:σ.over=false):gz t c key aq high q b (.p σ n) (.obj q (.row (t.p_ c ln (.ptr qm 0) p ma b 0 key aq high n al co ref ly ins))::lm)
 |a {qm:Nat}{kR ma co ly ins}{n:Nat}{p ref:Int}{σ lm}(hn:n≤3)(hp:0≤p∧p<4294967296)(h:gy t.l.a qm σ lm)(ho:σ.over=false):gz t c key aq high q b (.a σ n p) (.obj q (.row (t.p_ c 2 kR p ma b 0 key aq high n (.ptr qm 0) co ref ly ins))::lm)
 |c {qm:Nat}{kR ma al ly ins}{n:Nat}{p ref:Int}{σ lm}(hn:n≤3)(hp:0≤p∧p<4294967296)(h:l_ t.l c p qm σ lm)(ho:σ.over=false):gz t c key aq high q b (.c σ n p) (.obj q (.row (t.p_ c 21 kR p ma b 0 key aq high n al (.ptr qm 0) ref ly ins))::lm)
 |l {qm:Nat}{kR al co ly ins}{n:Nat}{p ref:Int}{σ lm}(hn:n≤3)(h:jR t.l.e c qm σ lm)(ho:σ.over=false):gz t c key aq high q b (.l σ n) (.obj q (.row (t.p_ c 22 kR p (.ptr qm 0) b 0 key aq high n al co ref ly ins))::lm)
 |y {qm k:Nat}{kR ma al co ins}{n:Nat}{p i g bl:Int}{lm}(hr:t.rf i g)(h:nh t i g key aq high qm bl (.s k) lm):gz t c key aq high q b (.y (.s k) (aC i g)) (.obj q (.row (t.p_ c 3 kR p ma b 0 key aq high n al co (aC i g) (.ptr qm 0) ins))::lm)
 |i {qm:Nat}{kR ma al co ly}{n:Nat}{p i g bi:Int}{σ lm}(hr:t.rf i g)(h:fB t i g key high qm bi σ lm)(ho:σ.over=false):gz t c key aq high q b (.i σ (aC i g)) (.obj q (.row (t.p_ c 4 kR p ma b 0 key aq high n al co (aC i g) ly (.ptr qm 0)))::lm)
 |u {qm:Nat}{kR al co ly ins}{n:Nat}{p ref e:Int}{σ lm}(h:jR t.l.e c qm σ lm)(ho:σ.over=false):gz t c key aq high q b (.u σ e) (.obj q (.row (t.p_ c 5 kR p (.ptr qm 0) b e key aq high n al co ref ly ins))::lm)
 |d {kR ma al co ly ins}{n:Nat}{p ref e:Int}:gz t c key aq high q b (.d e) [.obj q (.row (t.p_ c 9 kR p ma b e key aq high n al co ref ly ins))]
theorem fB.cH {t}{i g key high b:Int}{q:Nat}{σ l}(h:fB t i g key high q b σ l):∃(fd ret:AV) (ln lv w:Int) (is:Bool) (lf:List Own),l=.obj q (.row (t.nM (aC i g) key i high fd ret ln lv w b is 0))::lf:=by
 cases h<;>exact⟨_,_,_,_,_,_,_,rfl⟩
theorem nh.cH {t}{i g key aq high b:Int}{q:Nat}{σ l}(h:nh t i g key aq high q b σ l):∃(ln:Int),l=[.obj q (.row (t.Im (aC i g) b key i aq high ln 0))]:=by
 cases h<;>exact⟨_,rfl⟩
section
variable{B0 S:AH}{W:List Nat}{own R lo:List Own}{ro:List aQ}{m q:Nat}{vm:AV}{x:Me}{t:Tw}{c key aq high b:Int}
theorem A5 {o1 own:List Own}(e:o1=own:=by conv=>lhs;simp only[Tw.p_,Tw.cs,Lb.cs,Ar.cs,Ep.cs,lA,lB,lC]):o1=own:=e
theorem zt {σ:aV}(hs:t.ok)(hc:0≤c∧c<t.l.e.ah)(sB:(0≤aq∧aq≤65534)∧1≤high∧high≤t.ht)(hx:x.gd)(ho:σ.over=false)(B6:Me.ar key)(h:gz t c key aq high q b σ lo)(H:Cx B0 W S (lo++(aj m vm x++R)) ro):
  aO EM (zF 214) [.ptr q 0,.ptr m 0] S fun u S'=>∃ab,eD (gz t c key aq high q (σ.cz t key)) aV.over (σ.step t c key aq high x) (aj m vm) R u ab∧Cx B0 W S' ab ro:=by
 have bn:=hs
 unfold Tw.ok Lb.ok Ar.ok Sk.ok Ep.ok at bn
 cases h with
 |@p qm ma al co ly ins n ln p ref σ lm hn hl h hF=>
  refine Vx.fm H A5 (b:=Tryz.a214) ?_;(repeat' first|constructor|exact ZQ|intro _);all_goals apply zL
  all_goals
   refine Vx.fz (A:=[_]) (fun B W S H=>ub hs.2.2.2.2.2.1 hx h H) fun a' x' l' e pq=>?_
   have e2:(aV.p σ n).step t c key aq high x=(aV.AI n a',x'):=by
    show(aV.AI _ _,_)=_
    rw[e]
   cases ho:a'.over
   ·(repeat' first|constructor|exact ZQ|intro _)
    all_goals apply zL
    have e3:(aV.p σ n).step t c key aq high x=(.p a' n,x'):=e2.trans (Prod.ext (by cases pq<;>first|rfl|cases ho) rfl)
    exact aa e3 (.p hn hl pq ho) rfl HQ
   ·cases pq with
    |a=>cases ho
    |b=>cases ho
    |c=>cases ho
    |d hp=>
     (repeat' first|constructor|exact ZQ|intro _)
     all_goals apply zL
     next p l' hA=>exact aa e2 (.a hn hp (show gy t.l.a p (.p .a) l' from hA) rfl) rfl HQ
 |@a qm kR ma co ly ins n p ref σ lm hn hp h hF=>
  refine Vx.fm H A5 (b:=Tryz.a214) ?_;(repeat' first|constructor|exact ZQ|intro _);all_goals apply zL
  refine Vx.fz (A:=[_]) (fun B W S H=>AZ hs.2.2.2.2.1 hx h H) fun a' x' l' e hl=>?_
  have e2:(aV.a σ n p).step t c key aq high x=(aV.h_ t c n p a',x'):=by
   show(aV.h_ _ _ _ _ _,_)=_
   rw[e]
  cases ho:a'.over
  ·(repeat' first|constructor|exact ZQ|intro _)
   all_goals apply zL
   have e3:(aV.a σ n p).step t c key aq high x=(.a a' n p,x'):=e2.trans (Prod.ext (by cases hl<;>first|rfl|cases ho) rfl)
   exact aa e3 (.a hn hp hl ho) rfl HQ
  ·cases hl with
   |p _ h=>rw[show(cR.p _).over=false from rfl] at ho;cases ho
   |g=>cases ho
   |w=>cases ho
   |@d i' r e' qp hr=>
    have GA:c_.new t.l.e c=.a:=if_neg (by omega)
    have Z3:eN.new t.l c p=.v .a:=if_neg (by omega)
    by_cases he:e'=0
    ·subst he
     obtain⟨i2,g2,XF,rfl⟩:=hr rfl
     (repeat' first|constructor|exact ZQ|intro _)
     all_goals apply zL
     all_goals first|exact⟨⟨bn.1,bn.2.1,bn.2.2.1,by omega,by omega⟩,XF,sB⟩|skip
     next p l' hL=>exact aa (show _=(aV.y (.s 0) (aC i2 g2),x') from e2) (.y XF (show nh t i2 g2 key aq high p 0 (.s 0) l' from hL)) rfl HQ
    ·have e3:aV.h_ t c n p (.d r e')=if e'=7∧n<3 then .c (.new t.l c p) (n+1) p else .u (.new t.l.e c) e':=if_neg he
     have VP:((n+1:Nat):Int)=(n:Int)+1:=by omega
     (repeat' first|constructor|exact ZQ|intro _)
     all_goals apply zL
     ·next p2 l' hC=>
      have e4:aV.h_ t c n p (.d r e')=.c (.v .a) (n+1) p:=by rw[e3,if_pos (by omega),Z3]
      rw[←VP]
      exact aa (e2.trans (Prod.ext e4 rfl)) (.c (by omega) hp (show l_ t.l c p p2 (.v .a) l' from hC) rfl) rfl HQ
     all_goals
      have e4:aV.h_ t c n p (.d r e')=.u .a e':=by rw[e3,if_neg (by omega),GA]
      exact aa (e2.trans (Prod.ext e4 rfl)) (.u (lm:=[_]) (.a hc) rfl) rfl HQ
 |@c qm kR ma al ly ins n p ref σ lm hn hp h hF=>
  refine Vx.fm H A5 (b:=Tryz.a214) ?_;(repeat' first|constructor|exact ZQ|intro _);all_goals apply zL
  refine Vx.fz (A:=[_]) (fun B W S H=>Gw hs.2.2.2.2 hx h H) fun a' x' l' e hl=>?_
  have GA:c_.new t.l.e c=.a:=if_neg (by omega)
  have e2:(aV.c σ n p).step t c key aq high x=(if a'.over then .l .a n else .c a' n p,x'):=by
   show(if _ then aV.l (c_.new _ _) _ else _,_)=_
   rw[GA,e]
  cases ho:a'.over
  ·(repeat' first|constructor|exact ZQ|intro _)
   all_goals apply zL
   exact aa (e2.trans (Prod.ext (if_neg (by rw[ho];simp)) rfl)) (.c hn hp hl ho) rfl HQ
  ·(repeat' first|constructor|exact ZQ|intro _)
   all_goals apply zL
   all_goals exact aa (e2.trans (Prod.ext (if_pos ho) rfl)) (.l (lm:=[_]) hn (.a hc) rfl) rfl HQ
 |@l qm kR al co ly ins n p ref σ lm hn h hF=>
  refine Vx.fm H A5 (b:=Tryz.a214) ?_;(repeat' first|constructor|exact ZQ|intro _);all_goals apply zL
  refine Vx.fz (A:=[_]) (fun B W S H=>lS hs.2.2.2.2.2.1 hx h H) fun a' x' l' e hl=>?_
  have GA:oM.new t.l.e c=.a:=if_neg (by omega)
  have e2:(aV.l σ n).step t c key aq high x=(if a'.over then .p .a n else .l a' n,x'):=by
   show(if _ then aV.p (oM.new _ _) _ else _,_)=_
   rw[GA,e]
  cases ho:a'.over
  ·(repeat' first|constructor|exact ZQ|intro _)
   all_goals apply zL
   exact aa (e2.trans (Prod.ext (if_neg (by rw[ho];simp)) rfl)) (.l hn hl ho) rfl HQ
  ·(repeat' first|constructor|exact ZQ|intro _)
   all_goals apply zL
   all_goals exact aa (e2.trans (Prod.ext (if_pos ho) rfl)) (.p (lm:=[_]) hn (.inr rfl) (.a hc) rfl) rfl HQ
 |@y qm k kR ma al co ins n p i g bl lm hr h=>
  have hb4:=bn.2.2.1
  refine Vx.fm H A5 (b:=Tryz.a214) ?_;(repeat' first|constructor|exact ZQ|intro _);all_goals apply zL
  refine Vx.fz (A:=[_]) (fun B W S H=>Gx hs hr ⟨sB.1.1,sB.1.2,by omega,by omega⟩ hx h H) fun a' x' l' e hl=>?_
  have e2:(aV.y (.s k) (aC i g)).step t c key aq high x=(if a'.over then .i (.f (.new t)) (aC i g) else .y a' (aC i g),x'):=by
   show(_,_)=_
   rw[e]
  obtain⟨Ip,rfl⟩:=hl.cH
  simp only[Tw.Im,Tw.cs,Lb.cs,Ar.cs,Ep.cs,lA,lB]
  cases ho:a'.over
  ·(repeat' first|constructor|exact ZQ|intro _)
   all_goals apply zL
   cases a' with
   |d=>cases ho
   |s k2=>exact aa (show _=(aV.y (.s k2) (aC i g),x') from e2) (.y hr hl) rfl HQ
  ·(repeat' first|constructor|exact ZQ|intro _)
   all_goals apply zL
   all_goals first|exact⟨⟨bn.1,bn.2.1,bn.2.2.1,by omega,by omega⟩,hr,sB.2⟩|skip
   next p l' hI=>exact aa (e2.trans (Prod.ext (if_pos ho) rfl)) (.i hr (show fB t i g key high p 0 (.f (.new t)) l' from hI) rfl) rfl HQ
 |@i qm kR ma al co ly n p i g bi σ lm hr h hF=>
  refine Vx.fm H A5 (b:=Tryz.a214) ?_;(repeat' first|constructor|exact ZQ|intro _);all_goals apply zL
  refine Vx.fz (A:=[_]) (fun B W S H=>Gz hs hr sB.2 hx hF B6 h H) fun a' x' l' e hl=>?_
  have GA:c_.new t.l.e c=.a:=if_neg (by omega)
  have e2:(aV.i σ (aC i g)).step t c key aq high x=(if a'.over then .u .a 0 else .i a' (aC i g),x'):=by
   show(if _ then aV.u (c_.new _ _) _ else _,_)=_
   rw[GA,e]
  obtain⟨fd,ret,Ip,DO,w2,XG,JI,rfl⟩:=hl.cH
  simp only[Tw.nM,Tw.cs,Lb.cs,Ar.cs,Ep.cs,lA,lB]
  cases ho:a'.over
  ·(repeat' first|constructor|exact ZQ|intro _)
   all_goals apply zL
   exact aa (e2.trans (Prod.ext (if_neg (by rw[ho];simp)) rfl)) (.i hr hl ho) rfl HQ
  ·(repeat' first|constructor|exact ZQ|intro _)
   all_goals apply zL
   all_goals exact aa (e2.trans (Prod.ext (if_pos ho) rfl)) (.u (lm:=[_]) (.a hc) rfl) rfl HQ
 |@u qm kR al co ly ins n p ref er σ lm h hF=>
  refine Vx.fm H A5 (b:=Tryz.a214) ?_;(repeat' first|constructor|exact ZQ|intro _);all_goals apply zL
  refine Vx.fz (A:=[_]) (fun B W S H=>lS hs.2.2.2.2.2.1 hx h H) fun a' x' l' e hl=>?_
  have e2:(aV.u σ er).step t c key aq high x=(if a'.over then .d er else .u a' er,x'):=by
   show(_,_)=_
   rw[e]
  cases ho:a'.over
  ·(repeat' first|constructor|exact ZQ|intro _)
   all_goals apply zL
   exact aa (e2.trans (Prod.ext (if_neg (by rw[ho];simp)) rfl)) (.u hl ho) rfl HQ
  ·(repeat' first|constructor|exact ZQ|intro _)
   all_goals apply zL
   exact aa (e2.trans (Prod.ext (if_pos ho) rfl)) .d rfl HQ
 |d=>cases ho
end
end
end Go.cY
