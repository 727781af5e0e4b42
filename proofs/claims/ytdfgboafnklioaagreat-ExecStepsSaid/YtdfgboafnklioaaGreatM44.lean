/- Contracts. Conditions: in each theorem. -/
import Derived.Test.YtdfgboafnklioaaGreatM43
import Derived.Test.YtdfgboafnklioaaGreatM13
set_option linter.all false
set_option maxRecDepth 100000
set_option maxHeartbeats 4000000
namespace Go.cG
open Go.Proofs
instance ab7:cK 310 where
instance ab8:cK 309 where
def Tw.xe (t:Tw)(c ln:Int)(mf:AV)(p:Int)(m8:AV)(b e:Int)(cl:AV):List AV:=t.cs++[I c,I ln,mf,I p,m8,U b,I e,cl]
inductive lN (t:Tw)(c:Int)(look:Bool)(q:Nat)(b:Int):et->List Own->Prop
 |p {qm qc:Nat}{m8}{p bc:Int}{σ lm lc}(h:tg t.l.e c qm σ lm)(ho:σ.over=false)(h2:i6 t look qc bc .a lc):lN t c look q b (.p σ) (.obj q (.row (t.xe c 1 (.ptr qm 0) p m8 b 0 (.ptr qc 0)))::(lc++lm))
 |c {qm:Nat}{mf m8}{p bi:Int}{σ lm}(h:i6 t look qm bi σ lm)(ho:σ.over=false):lN t c look q b (.c σ) (.obj q (.row (t.xe c 4 mf p m8 b 0 (.ptr qm 0)))::lm)
 |u {qm qc:Nat}{mf}{p key ar e bc:Int}{σ lm lc}(h:mN t.l.e c qm σ lm)(ho:σ.over=false)(h2:i6 t look qc bc (.d key ar e) lc):lN t c look q b (.u σ key ar e) (.obj q (.row (t.xe c 5 mf p (.ptr qm 0) b 0 (.ptr qc 0)))::(lc++lm))
 |d {qc:Nat}{mf m8}{p key ar e bc:Int}{lc}(h2:i6 t look qc bc (.d key ar e) lc):lN t c look q b (.d key ar e) (.obj q (.row (t.xe c 9 mf p m8 b 0 (.ptr qc 0)))::lc)
theorem i6.row {t}{look:Bool}{q:Nat}{b:Int}{σ lo}(h:i6 t look q b σ lo):∃ln a w i lv key A fd rt is er lf,lo=.obj q (.row (t.mb look ln a w i lv key A fd rt is b er))::lf:=by
 cases h<;>exact⟨_,_,_,_,_,_,_,_,_,_,_,_,rfl⟩
section
variable{B0 S:AH}{W:List Nat}{own R lo:List Own}{ro:List aI}{m q:Nat}{vm:AV}{x:Me}{t:Tw}{c b:Int}
theorem Ff {o1 own:List Own}(e:o1=own:=by conv=>lhs;simp only[Tw.xe,Tw.cs,Lb.cs,Ar.cs,Ep.cs,lA,lB,lC]):o1=own:=e
theorem KT {σ:et}(hs:t.ok)(hc:0<=c/\c<t.l.e.ad)(hx:x.gd)(ho:σ.over=false)(h:lN t c false q b σ lo)(H:Cx B0 W S (lo++(ai m vm x++R)) ro):
  aN EM (zF 190) [.ptr q 0,.ptr m 0] S λu S'=>∃ab,fb (lN t c false q σ.cR) et.over (σ.step t c false x) (ai m vm) R u ab/\Cx B0 W S' ab ro:=by
 have bt:=hs;unfold Tw.ok Lb.ok Ar.ok Sk.ok Ep.ok at bt;cases h with
 |@p qm qc m8 p bc σ lm lc h hF h2=>
  refine y1 H Ff ?_;refine Vx.f_ (A:=_::lc) (λB W S H=>vV hs.2.2.2.2.2.1 hx h H) λa' x' l' e hl=>?_;have e2:(et.p σ).step t c false x=(if a'.over then .c .a else .p a',x'):=by show(_,_)=_;rw[e]
  cases ho:a'.over
  .refine z1 ?_;exact aa (e2.trans (Prod.ext (if_neg (by rw[ho];simp)) rfl)) (.p hl ho h2) rfl HQ
  .cases hl with
   |a=>cases ho
   |b=>cases ho
   |c=>cases ho
   |d hp=>
    refine z1 ?_;exact aa (show _=(et.c .a,x') from e2) (.c h2 rfl) rfl HQ
 |@c qm mf m8 p bi σ lm h hF=>
  refine y1 H Ff ?_;refine Vx.f_ (A:=[_]) (λB W S H=>DW hs hx hF h H) λa' x' l' e hl=>?_;have e2:(et.c σ).step t c false x=(et.kP t c a',x'):=by show(et.kP _ _ _,_)=_;rw[e]
  have IB:cM.new t.l.e c=.a:=if_neg am;obtain⟨KS,a2,w2,i2,FJ,Oo,A2,fd2,rt2,is2,er2,Mq,rfl⟩:=hl.row;simp only[Tw.mb,Tw.cs,Lb.cs,Ar.cs,Ep.cs,lA,lB];cases ho:a'.over
  .refine z1 ?_;have e3:et.kP t c a'=.c a':=by cases a'<;>first|rfl|cases ho
   exact aa (e2.trans (Prod.ext e3 rfl)) (.c hl ho) rfl HQ
  .obtain⟨key,ar,er,rfl⟩:=cj.iG ho;have e3:et.kP t c (.d key ar er)=.u .a key ar er:=congrArg (et.u · key ar er) IB;refine z1 ?_;intros;all_goals exact aa (e2.trans (Prod.ext e3 rfl)) (.u (lm:=[_]) (.a hc) rfl hl) rfl HQ
 |@u qm qc mf p key ar er bc σ lm lc h hF h2=>
  refine y1 H Ff ?_;refine Vx.f_ (A:=_::lc) (λB W S H=>mO hs.2.2.2.2.2.1 hx h H) λa' x' l' e hl=>?_;have e2:(et.u σ key ar er).step t c false x=(if a'.over then .d key ar er else .u a' key ar er,x'):=by show(_,_)=_;rw[e]
  cases ho:a'.over
  .refine z1 ?_;exact aa (e2.trans (Prod.ext (if_neg (by rw[ho];simp)) rfl)) (.u hl ho h2) rfl HQ
  .refine z1 ?_;exact aa (e2.trans (Prod.ext (if_pos ho) rfl)) (.d h2) rfl HQ
 |d=>cases ho
theorem KU {σ:et}(hs:t.ok)(hc:0<=c/\c<t.l.e.ad)(hx:x.gd)(ho:σ.over=false)(h:lN t c true q b σ lo)(H:Cx B0 W S (lo++(ai m vm x++R)) ro):
  aN EM (zF 185) [.ptr q 0,.ptr m 0] S λu S'=>∃ab,fb (lN t c true q σ.cR) et.over (σ.step t c true x) (ai m vm) R u ab/\Cx B0 W S' ab ro:=by
 have bt:=hs;unfold Tw.ok Lb.ok Ar.ok Sk.ok Ep.ok at bt;cases h with
 |@p qm qc m8 p bc σ lm lc h hF h2=>
  refine y1 H Ff ?_;refine Vx.f_ (A:=_::lc) (λB W S H=>vV hs.2.2.2.2.2.1 hx h H) λa' x' l' e hl=>?_;have e2:(et.p σ).step t c true x=(if a'.over then .c .a else .p a',x'):=by show(_,_)=_;rw[e]
  cases ho:a'.over
  .refine z1 ?_;exact aa (e2.trans (Prod.ext (if_neg (by rw[ho];simp)) rfl)) (.p hl ho h2) rfl HQ
  .cases hl with
   |a=>cases ho
   |b=>cases ho
   |c=>cases ho
   |d hp=>
    refine z1 ?_;exact aa (show _=(et.c .a,x') from e2) (.c h2 rfl) rfl HQ
 |@c qm mf m8 p bi σ lm h hF=>
  refine y1 H Ff ?_;refine Vx.f_ (A:=[_]) (λB W S H=>DW hs hx hF h H) λa' x' l' e hl=>?_;have e2:(et.c σ).step t c true x=(et.kP t c a',x'):=by show(et.kP _ _ _,_)=_;rw[e]
  have IB:cM.new t.l.e c=.a:=if_neg am;obtain⟨KS,a2,w2,i2,FJ,Oo,A2,fd2,rt2,is2,er2,Mq,rfl⟩:=hl.row;simp only[Tw.mb,Tw.cs,Lb.cs,Ar.cs,Ep.cs,lA,lB];cases ho:a'.over
  .refine z1 ?_;have e3:et.kP t c a'=.c a':=by cases a'<;>first|rfl|cases ho
   exact aa (e2.trans (Prod.ext e3 rfl)) (.c hl ho) rfl HQ
  .obtain⟨key,ar,er,rfl⟩:=cj.iG ho;have e3:et.kP t c (.d key ar er)=.u .a key ar er:=congrArg (et.u · key ar er) IB;refine z1 ?_;intros;all_goals exact aa (e2.trans (Prod.ext e3 rfl)) (.u (lm:=[_]) (.a hc) rfl hl) rfl HQ
 |@u qm qc mf p key ar er bc σ lm lc h hF h2=>
  refine y1 H Ff ?_;refine Vx.f_ (A:=_::lc) (λB W S H=>mO hs.2.2.2.2.2.1 hx h H) λa' x' l' e hl=>?_;have e2:(et.u σ key ar er).step t c true x=(if a'.over then .d key ar er else .u a' key ar er,x'):=by show(_,_)=_;rw[e]
  cases ho:a'.over
  .refine z1 ?_;exact aa (e2.trans (Prod.ext (if_neg (by rw[ho];simp)) rfl)) (.u hl ho h2) rfl HQ
  .refine z1 ?_;exact aa (e2.trans (Prod.ext (if_pos ho) rfl)) (.d h2) rfl HQ
 |d=>cases ho
end
section
variable{nd hd ht c3 c4 n c6 c7 c8 c9 dS dt dW c key ar high:Int}
instance TJ:VC EM (zF 336) [.agg [I nd,I hd,I ht,I c3,I c4,I n,I c6,I c7,I c8,I c9,I dS,I dt,I dW],I c] (((0<=nd/\nd<4096)/\(0<=hd/\hd<4096)/\(1<=ht/\ht<=4)/\1<=n/\n<=128)/\0<=c/\c<dt) (I 0):=.of rfl rfl λ⟨h,hc⟩=>by show Zx EM false (Tryz.a336 _) _ _ _ _;exact zZ
instance ab9:cK 337 where
instance VX:NC EM (zF 213) [.agg [I nd,I hd,I ht,I c3,I c4,I n,I c6,I c7,I c8,I c9,I dS,I dt,I dW],I c,U key,I ar,I high] (((0<=nd/\nd<4096)/\(0<=hd/\hd<4096)/\(1<=ht/\ht<=4)/\1<=n/\n<=128)/\(0<=c/\c<dt)/\(0<=key/\key<18446744073709551615)/\(0<=ar/\ar<=65534)/\1<=high/\high<=ht)
  (λq l=>ij ⟨nd,hd,ht,⟨⟨⟨c3,c4,n⟩,c6,c7,c8⟩,⟨c9,dS,dt⟩,dW⟩⟩ c key ar high q 0 (.p .a 0) l):=.of rfl rfl λ⟨h,hc,hk,hj,hh⟩ ro R=>by
 show Zx EM false (Tryz.a213 _) _ _ _ _;refine z1 ?_;intros;all_goals first|exact⟨h,hc⟩|skip
 exact⟨rfl,rfl,(_::_::R),⟨_,_,ij.p (n:=0) (lm:=[_]) am (.inl rfl) (.a hc) rfl,rfl,rfl⟩,HQ⟩
instance Y_:NC EM (zF 350) [.agg [I nd,I hd,I ht,I c3,I c4,I n,I c6,I c7,I c8,I c9,I dS,I dt,I dW],I c] (((0<=nd/\nd<4096)/\(0<=hd/\hd<4096)/\(1<=ht/\ht<=4)/\1<=n/\n<=128)/\0<=c/\c<dt)
  (λq l=>lN ⟨nd,hd,ht,⟨⟨⟨c3,c4,n⟩,c6,c7,c8⟩,⟨c9,dS,dt⟩,dW⟩⟩ c false q 0 (.p .a) l):=.of rfl rfl λ⟨h,hc⟩ ro R=>by
 show Zx EM false (Tryz.a350 _) _ _ _ _;refine z1 ?_;intros;all_goals first|exact⟨h,hc⟩|skip
 next a b p l hp q=>exact⟨rfl,rfl,_,⟨_,_,lN.p (lm:=[_]) (.a hc) rfl hp,rfl,rfl⟩,by simp only[lA,lC,lB];exact HQ⟩
instance Za:NC EM (zF 442) [.agg [I nd,I hd,I ht,I c3,I c4,I n,I c6,I c7,I c8,I c9,I dS,I dt,I dW],I c] (((0<=nd/\nd<4096)/\(0<=hd/\hd<4096)/\(1<=ht/\ht<=4)/\1<=n/\n<=128)/\0<=c/\c<dt)
  (λq l=>lN ⟨nd,hd,ht,⟨⟨⟨c3,c4,n⟩,c6,c7,c8⟩,⟨c9,dS,dt⟩,dW⟩⟩ c true q 0 (.p .a) l):=.of rfl rfl λ⟨h,hc⟩ ro R=>by
 show Zx EM false (Tryz.a442 _) _ _ _ _;refine z1 ?_;intros;all_goals first|exact⟨h,hc⟩|skip
 next a b p l hp q=>exact⟨rfl,rfl,_,⟨_,_,lN.p (lm:=[_]) (.a hc) rfl hp,rfl,rfl⟩,by simp only[lA,lC,lB];exact HQ⟩
end
instance aca {n:Nat}[Mn n [168,291,170,180,324,203,206]]:cK n where
inductive oA (r:Rn)(v:Int)(q:Nat):dZ->List Own->Prop
 |s {qm:Nat}{σ lm}(h:g_ r v qm σ lm)(ho:σ.over=false):oA r v q σ (.obj q (.row [.ptr qm 0,B false,I 0])::lm)
 |d {e:Int}{pp}:oA r v q (.d e) [.obj q (.row [pp,B true,I e])]
section
variable{B0 S:AH}{W:List Nat}{own R lo:List Own}{ro:List aI}{m q:Nat}{vm:AV}{x:Me}{r:Rn}{v:Int}
theorem Fg {σ}(hs:r.ok)(hx:x.gd)(h:oA r v q σ lo)(H:Cx B0 W S (lo++(ai m vm x++R)) ro):
  aN EM (zF 205) [.ptr q 0,.ptr m 0] S λu S'=>∃ab,fb (oA r v q) dZ.over (σ.step r v x) (ai m vm) R u ab/\Cx B0 W S' ab ro:=by
 cases h with
 |@s qm σ lm h hF=>
  refine y1 H bL ?_;refine Vx.f_ (A:=[_]) (λB W S H=>Cz hs hx h H) λa' x' l' e hl=>?_;cases ho:a'.over
  .refine z1 ?_;exact aa e (.s hl ho) ho HQ
  .cases hl with
   |d=>
    refine z1 ?_;exact aa e .d rfl HQ
   |_=>cases ho
 |d=>refine y1 H bL ?_;exact aa rfl .d rfl HQ
end
instance acb {n:Nat}[Mn n [171,93,187]]:cK n where
def DX (l:List Int):Int:=l[(bS l l.length).toNat]?.getD 0
instance Zb {R0 v l}{key:Int}:SC EM (zF 189) [v,U key] (.sl v 1 (aW l)::R0) (l≠[]/\l.length<=64) (.ed [I (if DX l<=key then-1 else bS l l.length),B (decide (¬DX l<=key))]) (.sl v 1 (aW l)::R0):=.of rfl rfl λ⟨h0,hl⟩ ro R=>by
 have hu:Int.ofNat (aW l).length=(l.length:Int):=congrArg Int.ofNat (di l);have n0:∀a b:AV,nth [a,b] 0=a:=λ_ _=>rfl;have n1:∀a b:AV,nth [a,b] 1=b:=λ_ _=>rfl;have hp:0<l.length:=by cases l with|nil=>exact absurd rfl h0|cons a m=>simp
 show Zx EM false (Tryz.a189 _) _ _ _ _;rw[Tryz.u189];simp only[lA,lB,n0,n1];refine z1 ?_;refine Vx.N2 l.length (λi=>[I (i:Int),I (bS l i)]) ?_ ?_
 .intro i hi hn;have hb:=gO (l:=l) i;have e1:((i+1:Nat):Int)=(i:Int)+1:=am;have e2:bS l (i+1)=if bS l i<0\/l[(bS l i).toNat]?.getD 0<l[i]?.getD 0 then(i:Int) else bS l i:=rfl
  simp only[e1,e2] at hn;have ei:(Int.toNat (i:Int))=i:=Int.toNat_natCast i;show Zx EM false ((λvs=>_) [I (i:Int),I (bS l i)]) _ _ _ _;clear e1 e2;generalize hz:(i:Int)=z at*
  rw[<-ei] at hn;refine z2 ?_ ?_<;>intros
  .next h1 h2=>exact Vx.bQ HQ (by rw[if_pos (.inl (by rw[ei];exact h2))] at hn;exact hn)
  next h1 h2=>
  refine Vx.E1 am ?_;refine z1 ?_;refine Vx.E1 am ?_;refine z2 ?_ ?_<;>intros
  all_goals simp only[ei] at*
  all_goals first
   |(rw[if_neg am] at hn;exact Vx.bQ HQ hn)
   |(rw[if_pos (.inr am)] at hn;exact Vx.bQ HQ hn)
 .have hb:=gO (l:=l) l.length;refine z1 ?_;intros;all_goals(try rw[hu] at*)
  all_goals first
   |(exfalso;omega)
   |skip
  refine Vx.E1 am ?_;refine z2 ?_ ?_<;>intros
  .next h=>exact⟨rfl,rfl,_,⟨by show _=AV.ed [I (if l[(bS l l.length).toNat]?.getD 0<=key then _ else _),B (decide (¬l[(bS l l.length).toNat]?.getD 0<=key))];rw[if_pos h,decide_eq_false (λq=>q h)];rfl,rfl⟩,.rfl'⟩
  .next h=>exact⟨rfl,rfl,_,⟨by show _=AV.ed [I (if l[(bS l l.length).toNat]?.getD 0<=key then _ else _),B (decide (¬l[(bS l l.length).toNat]?.getD 0<=key))];rw[if_neg h,decide_eq_true h];rfl,rfl⟩,.rfl'⟩
theorem rG {l}(h:l≠[]):DX l=l[dy l]?.getD 0:=by unfold DX;rw[<-og h,Int.toNat_natCast]
def Rs.cY (r:Rs)(look:AV)(ln key:Int)(L:AV)(flag b e:Int):List AV:=[I r.runs,I r.flags,I r.ad,look,I ln,U key,L,I flag,U b,I e]
inductive kf (t:Tw)(r:Rs)(c:Int)(q:Nat)(b:Int):cS->List Own->Prop
 |k {ql:Nat}{bi:Int}{σ lk}(h:lN t c true ql bi σ lk)(ho:σ.over=false):kf t r c q b (.k σ) (.obj q (.row (r.cY (.ptr ql 0) 0 0 Ns (-1) b 0))::lk)
 |r0 {key:Int}{look}:kf t r c q b (.r key []) [.obj q (.row (r.cY look 1 key Ns (-1) b 0))]
 |r1 {key:Int}{look l v L}(h0:l≠[])(hl:(l.length:Int)<r.ad)(hL:L=aW l)(hv:AV.beq v v=true):kf t r c q b (.r key l) [.obj q (.row (r.cY look 1 key v (-1) b 0)),.sl v 1 L]
 |f {key w:Int}{look v}(hw:0<=w/\w<r.ad):kf t r c q b (.f w) [.obj q (.row (r.cY look 2 key v w b 0))]
 |d {key flag e:Int}{look v}:kf t r c q b (.d e) [.obj q (.row (r.cY look 9 key v flag b e))]
theorem lN.row {t}{c:Int}{look:Bool}{q:Nat}{b:Int}{σ lo}(h:lN t c look q b σ lo):∃ln mf p m8 cl lf,lo=.obj q (.row (t.xe c ln mf p m8 b 0 cl))::lf:=by
 cases h<;>exact⟨_,_,_,_,_,_,rfl⟩
section
variable{B0 S:AH}{W:List Nat}{own R lo:List Own}{ro:List aI}{m q:Nat}{vm:AV}{x:Me}{t:Tw}{r:Rs}{c b:Int}
theorem KV {o1 own:List Own}(e:o1=own:=by conv=>lhs;simp only[Rs.cY,lA,lB,lC]):o1=own:=e
theorem IC {σ:cS}(hs:t.ok)(hr:r.ok)(hc:0<=c/\c<t.l.e.ad)(hx:x.gd)(ho:σ.over=false)(h:kf t r c q b σ lo)(H:Cx B0 W S (lo++(ai m vm x++R)) ro):
  aN EM (zF 92) [.ptr q 0,.ptr m 0] S λu S'=>∃ab,fb (kf t r c q σ.cR) cS.over (σ.step t r c x) (ai m vm) R u ab/\Cx B0 W S' ab ro:=by
 have pD:=hr;unfold Rs.ok at pD;haveI:dQ:=⟨⟩;cases h with
 |@k ql bi σ lk h hF=>
  refine y1 H KV ?_;refine Vx.f_ (A:=[_]) (λB W S H=>KU hs hc hx hF h H) λa' x' l' e hl=>?_;have e2:(cS.k σ).step t r c x=(cS.kP a',x'):=by show(cS.kP _,_)=_;rw[e]
  by_cases ho:a'.over=true
  .obtain⟨key,ar,er,rfl⟩:=et.iG ho;cases hl with
   |@d qc mf m8 p key ar e0 bc lc h2=>
    cases h2 with
    |d=>
    simp only[Tw.xe,Tw.mb,Tw.cs,Lb.cs,Ar.cs,Ep.cs,lA,lB];refine z3 ?_ ?_ ?_<;>intros
    .have e3:cS.kP (.d key ar er)=.d er:=by show(if er=0 then _ else if er=15 then _ else _)=_;rw[if_neg am,if_neg am]
     exact aa (e2.trans (Prod.ext e3 rfl)) .d rfl HQ
    .have e3:cS.kP (.d key ar er)=.d 0:=by show(if er=0 then _ else if er=15 then _ else _)=_;rw[if_neg am,if_pos am]
     exact aa (e2.trans (Prod.ext e3 rfl)) .d rfl HQ
    .have e3:cS.kP (.d key ar er)=.r key []:=by show(if er=0 then _ else if er=15 then _ else _)=_;rw[if_pos am]
     exact aa (e2.trans (Prod.ext e3 rfl)) .r0 rfl HQ
  .rw[Bool.not_eq_true] at ho;obtain⟨KS,Oq,p2,Ot,oq,Mq,rfl⟩:=hl.row;simp only[Tw.xe,Tw.cs,Lb.cs,Ar.cs,Ep.cs,lA,lB];rw[ho];refine z1 ?_;have e3:(cS.k σ).step t r c x=(.k a',x'):=e2.trans (Prod.ext (by cases a'<;>first|rfl|cases ho) rfl);exact aa e3 (.k hl ho) rfl HQ
 |@r0 key look=>
  have hw:=Me.aj hx r.runs;refine y2 H KV ?_ ?_<;>intros
  .next h1=>
   have BJ:(0:Int)+1=r.ad:=by simpa[aW] using h1
   rw[show List.map (λa=>[a]) [Z IntKind.u64 (x.word (r.runs+0))]=aW [x.word (r.runs+0)] from rfl];have gQ:[x.word (r.runs+0)]≠[]:=ac;have KA:=og gQ;have hb:=gO (l:=[x.word (r.runs+0)]) ([x.word (r.runs+0)]).length;have N3:([x.word (r.runs+0)]).length=1:=ac;refine x2 ?_ ?_<;>intros
   all_goals first|exact⟨gQ,am⟩|skip
   .next h=>
    have e3:(cS.r key []).step t r c x=(.f (dy ([x.word (r.runs+0)])),x.ld (r.runs+0)):=by show(if(0:Int)+1=r.ad then(if([x.word (r.runs+0)])[dy ([x.word (r.runs+0)])]?.getD 0<=key then cS.d 0 else .f (dy ([x.word (r.runs+0)]))) else _,x.ld (r.runs+0))=_;rw[if_pos BJ,if_neg (by rw[<-rG gQ];exact h)]
    rw[if_neg h,<-KA];exact aa e3 (.f am) rfl HQ
   .next h=>
    have e3:(cS.r key []).step t r c x=(.d 0,x.ld (r.runs+0)):=by show(if(0:Int)+1=r.ad then(if([x.word (r.runs+0)])[dy ([x.word (r.runs+0)])]?.getD 0<=key then cS.d 0 else .f (dy ([x.word (r.runs+0)]))) else _,x.ld (r.runs+0))=_;rw[if_pos BJ,if_pos (by rw[<-rG gQ];exact Decidable.not_not.1 h)]
    exact aa e3 .d rfl HQ
  .next h1=>
   have BJ:¬(0:Int)+1=r.ad:=by simpa[aW] using h1
   have e3:(cS.r key []).step t r c x=(.r key ([x.word (r.runs+0)]),x.ld (r.runs+0)):=by show(if(0:Int)+1=r.ad then _ else cS.r key ([x.word (r.runs+0)]),x.ld (r.runs+0))=_;rw[if_neg BJ]
   rw[show List.map (λa=>[a]) [Z IntKind.u64 (x.word (r.runs+0))]=aW [x.word (r.runs+0)] from rfl];exact aa e3 (.r1 ac (by simp;omega) rfl be) rfl HQ
 |@r1 key look l v L h0 hl hL hv=>
  subst hL;have hw:=Me.aj hx (r.runs+l.length);have Yr:=di l;have hu:Int.ofNat (aW l).length=(l.length:Int):=congrArg Int.ofNat (di l);refine y3 H KV ?_ ?_ ?_<;>intros
  all_goals(try rw[hu] at*)
  .rw[Yr];simp;omega
  .next h1=>
   have BJ:(l.length:Int)+1=r.ad:=by simpa[aW] using h1
   rw[show aW l++List.map (λa=>[a]) [Z IntKind.u64 (x.word (r.runs+l.length))]=aW (l++[x.word (r.runs+l.length)]) from by simp[aW]];have gQ:l++[x.word (r.runs+l.length)]≠[]:=ac;have KA:=og gQ;have hb:=gO (l:=l++[x.word (r.runs+l.length)]) (l++[x.word (r.runs+l.length)]).length;have N3:(l++[x.word (r.runs+l.length)]).length=l.length+1:=ac;refine x3 ?_ ?_ ?_<;>intros
   all_goals first|exact⟨gQ,am⟩|skip
   .next h=>
    have e3:(cS.r key l).step t r c x=(.f (dy (l++[x.word (r.runs+l.length)])),x.ld (r.runs+l.length)):=by show(if(l.length:Int)+1=r.ad then(if(l++[x.word (r.runs+l.length)])[dy (l++[x.word (r.runs+l.length)])]?.getD 0<=key then cS.d 0 else .f (dy (l++[x.word (r.runs+l.length)]))) else _,x.ld (r.runs+l.length))=_;rw[if_pos BJ,if_neg (by rw[<-rG gQ];exact h)]
    rw[if_neg h,<-KA];exact aa e3 (.f am) rfl HQ
   .next h=>
    have e3:(cS.r key l).step t r c x=(.d 0,x.ld (r.runs+l.length)):=by show(if(l.length:Int)+1=r.ad then(if(l++[x.word (r.runs+l.length)])[dy (l++[x.word (r.runs+l.length)])]?.getD 0<=key then cS.d 0 else .f (dy (l++[x.word (r.runs+l.length)]))) else _,x.ld (r.runs+l.length))=_;rw[if_pos BJ,if_pos (by rw[<-rG gQ];exact Decidable.not_not.1 h)]
    exact aa e3 .d rfl HQ
  .next h1=>
   have BJ:¬(l.length:Int)+1=r.ad:=by simpa[aW] using h1
   have e3:(cS.r key l).step t r c x=(.r key (l++[x.word (r.runs+l.length)]),x.ld (r.runs+l.length)):=by show(if(l.length:Int)+1=r.ad then _ else cS.r key (l++[x.word (r.runs+l.length)]),x.ld (r.runs+l.length))=_;rw[if_neg BJ]
   rw[show aW l++List.map (λa=>[a]) [Z IntKind.u64 (x.word (r.runs+l.length))]=aW (l++[x.word (r.runs+l.length)]) from by simp[aW]];exact aa e3 (.r1 ac (by simp;omega) rfl be) rfl HQ
 |@f key w look v hw=>
  refine y1 H KV ?_;exact aa rfl .d rfl HQ
 |d=>cases ho
end
section
variable{nd hd ht c3 c4 n c6 c7 c8 c9 dS dt dW rr rf rc c m0 mc mr v:Int}
instance VY:NC EM (zF 318) [.agg [I nd,I hd,I ht,I c3,I c4,I n,I c6,I c7,I c8,I c9,I dS,I dt,I dW],.agg [I rr,I rf,I rc],I c] (((0<=nd/\nd<4096)/\(0<=hd/\hd<4096)/\(1<=ht/\ht<=4)/\1<=n/\n<=128)/\(0<=c/\c<dt)/\1<=rc/\rc<=64)
  (λq l=>kf ⟨nd,hd,ht,⟨⟨⟨c3,c4,n⟩,c6,c7,c8⟩,⟨c9,dS,dt⟩,dW⟩⟩ ⟨rr,rf,rc⟩ c q 0 (.k (.p .a)) l):=.of rfl rfl λ⟨h,hc,hr⟩ ro R=>by
 show Zx EM false (Tryz.a318 _) _ _ _ _;refine z1 ?_;intros;all_goals first|exact⟨h,hc⟩|skip
 next a b p l hp q=>exact⟨rfl,rfl,_,⟨_,_,kf.k hp rfl,rfl,rfl⟩,by simp only[lA,lC,lB];exact HQ⟩
instance QG {r0 r1 r2 r3:Int}:NC EM (zF 325) [.agg [I r0,I r1,I r2,I r3],I v] ((1<=r3/\r3<=4096)/\0<=v/\v<65536)
  (λq l=>g_ ⟨r0,r1,r2,r3⟩ v q .a l):=.of rfl rfl λ⟨h,hv⟩ ro R=>by
 show Zx EM false (Tryz.a325 _) _ _ _ _;refine z1 ?_;intros;exact⟨rfl,rfl,(_::R),⟨_,_,g_.a hv,rfl,rfl⟩,HQ⟩
instance TK:NC EM (zF 203) [.agg [I m0,I mc,I mr],I c,I v] (((0<=m0/\m0<4096)/\(1<=mc/\mc<=64)/\1<=mr/\mr<=16)/\(0<=c/\c<mc)/\0<=v/\v<65536)
  (λq l=>oA ⟨m0+c*(mr+2),m0+c*(mr+2)+1,m0+c*(mr+2)+2,mr⟩ v q .a l):=.of rfl rfl λ⟨h,hc,hv⟩ ro R=>by
 have e1:c*(mr+2)<=63*(mr+2):=Int.mul_le_mul_of_nonneg_right am am;have e2:0<=c*(mr+2):=Int.mul_nonneg hc.1 am;show Zx EM false (Tryz.a203 _) _ _ _ _;refine z1 ?_;intros;next p l hp q=>exact⟨rfl,rfl,_,⟨_,_,oA.s hp rfl,rfl,rfl⟩,by simp only[lA,lC,lB];exact HQ⟩
end
end Go.cG
