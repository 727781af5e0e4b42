/- Contracts. Conditions: in each theorem. -/
import Derived.Test.YtdfgboafnklioaaGreatM43
import Derived.Test.YtdfgboafnklioaaGreatM13
set_option linter.all false
set_option maxRecDepth 100000
set_option maxHeartbeats 4000000
namespace Go.cI
open Go.Proofs
instance ab5:cA 310 where
instance ab6:cA 309 where
def Tw.wX (t:Tw)(c ln:Int)(lF:AV)(p:Int)(mI:AV)(b e:Int)(cl:AV):List AV:=t.cs++[I c,I ln,lF,I p,mI,U b,I e,cl]
inductive jN (t:Tw)(c:Int)(look:Bool)(q:Nat)(b:Int):dQ->List Own->Prop
 |p {qm qc:Nat}{mI}{p bc:Int}{σ lm lc}(h:qW t.l.e c qm σ lm)(ho:σ.over=false)(h2:gX t look qc bc .a lc):jN t c look q b (.p σ) (.obj q (.row (t.wX c 1 (.ptr qm 0) p mI b 0 (.ptr qc 0)))::(lc++lm))
 |c {qm:Nat}{lF mI}{p bi:Int}{σ lm}(h:gX t look qm bi σ lm)(ho:σ.over=false):jN t c look q b (.c σ) (.obj q (.row (t.wX c 4 lF p mI b 0 (.ptr qm 0)))::lm)
 |u {qm qc:Nat}{lF}{p key aq e bc:Int}{σ lm lc}(h:kh t.l.e c qm σ lm)(ho:σ.over=false)(h2:gX t look qc bc (.d key aq e) lc):jN t c look q b (.u σ key aq e) (.obj q (.row (t.wX c 5 lF p (.ptr qm 0) b 0 (.ptr qc 0)))::(lc++lm))
 |d {qc:Nat}{lF mI}{p key aq e bc:Int}{lc}(h2:gX t look qc bc (.d key aq e) lc):jN t c look q b (.d key aq e) (.obj q (.row (t.wX c 9 lF p mI b 0 (.ptr qc 0)))::lc)
theorem gX.row {t}{look:Bool}{q:Nat}{b:Int}{σ lo}(h:gX t look q b σ lo):∃ln a w i lv key A fd rt is er lf,lo=.obj q (.row (t.lE look ln a w i lv key A fd rt is b er))::lf:=by
 cases h<;>exact⟨_,_,_,_,_,_,_,_,_,_,_,_,rfl⟩
section
variable{B0 S:AH}{W:List Nat}{own R lo:List Own}{ro:List aF}{m q:Nat}{vm:AV}{x:Me}{t:Tw}{c b:Int}
theorem EV {o1 own:List Own}(e:o1=own:=by conv=>lhs;simp only[Tw.wX,Tw.cs,Lb.cs,Ar.cs,Ep.cs,lA,lB,lC]):o1=own:=e
theorem Kp {σ:dQ}(hs:t.ok)(hc:0<=c/\c<t.l.e.ae)(hx:x.gd)(ho:σ.over=false)(h:jN t c false q b σ lo)(H:Cx B0 W S (lo++(ai m vm x++R)) ro):
  aG EM (zF 190) [.ptr q 0,.ptr m 0] S λu S'=>∃ab,eH (jN t c false q σ.cG) dQ.over (σ.step t c false x) (ai m vm) R u ab/\Cx B0 W S' ab ro:=by
 have aZ:=hs;unfold Tw.ok Lb.ok Ar.ok Sk.ok Ep.ok at aZ;cases h with
 |@p qm qc mI p bc σ lm lc h hF h2=>
  refine y1 H EV ?_;refine Vx.fy (A:=_::lc) (λB W S H=>vI hs.2.2.2.2.2.1 hx h H) λa' x' l' e hl=>?_;have e2:(dQ.p σ).step t c false x=(if a'.over then .c .a else .p a',x'):=by show(_,_)=_;rw[e]
  cases ho:a'.over
  .refine z1 ?_;exact aa (e2.trans (Prod.ext (if_neg (by rw[ho];simp)) rfl)) (.p hl ho h2) rfl HQ
  .cases hl with
   |a=>cases ho
   |b=>cases ho
   |c=>cases ho
   |d hp=>
    refine z1 ?_;exact aa (show _=(dQ.c .a,x') from e2) (.c h2 rfl) rfl HQ
 |@c qm lF mI p bi σ lm h hF=>
  refine y1 H EV ?_;refine Vx.fy (A:=[_]) (λB W S H=>DI hs hx hF h H) λa' x' l' e hl=>?_;have e2:(dQ.c σ).step t c false x=(dQ.j_ t c a',x'):=by show(dQ.j_ _ _ _,_)=_;rw[e]
  have H8:cB.new t.l.e c=.a:=if_neg am;obtain⟨Ko,a2,w2,i2,Fm,N1,A2,fd2,rt2,is2,er2,LZ,rfl⟩:=hl.row;simp only[Tw.lE,Tw.cs,Lb.cs,Ar.cs,Ep.cs,lA,lB];cases ho:a'.over
  .refine z1 ?_;have e3:dQ.j_ t c a'=.c a':=by cases a'<;>first|rfl|cases ho
   exact aa (e2.trans (Prod.ext e3 rfl)) (.c hl ho) rfl HQ
  .obtain⟨key,aq,er,rfl⟩:=b9.gW ho;have e3:dQ.j_ t c (.d key aq er)=.u .a key aq er:=congrArg (dQ.u · key aq er) H8;refine z1 ?_;intros;all_goals exact aa (e2.trans (Prod.ext e3 rfl)) (.u (lm:=[_]) (.a hc) rfl hl) rfl HQ
 |@u qm qc lF p key aq er bc σ lm lc h hF h2=>
  refine y1 H EV ?_;refine Vx.fy (A:=_::lc) (λB W S H=>mo hs.2.2.2.2.2.1 hx h H) λa' x' l' e hl=>?_;have e2:(dQ.u σ key aq er).step t c false x=(if a'.over then .d key aq er else .u a' key aq er,x'):=by show(_,_)=_;rw[e]
  cases ho:a'.over
  .refine z1 ?_;exact aa (e2.trans (Prod.ext (if_neg (by rw[ho];simp)) rfl)) (.u hl ho h2) rfl HQ
  .refine z1 ?_;exact aa (e2.trans (Prod.ext (if_pos ho) rfl)) (.d h2) rfl HQ
 |d=>cases ho
theorem Kq {σ:dQ}(hs:t.ok)(hc:0<=c/\c<t.l.e.ae)(hx:x.gd)(ho:σ.over=false)(h:jN t c true q b σ lo)(H:Cx B0 W S (lo++(ai m vm x++R)) ro):
  aG EM (zF 185) [.ptr q 0,.ptr m 0] S λu S'=>∃ab,eH (jN t c true q σ.cG) dQ.over (σ.step t c true x) (ai m vm) R u ab/\Cx B0 W S' ab ro:=by
 have aZ:=hs;unfold Tw.ok Lb.ok Ar.ok Sk.ok Ep.ok at aZ;cases h with
 |@p qm qc mI p bc σ lm lc h hF h2=>
  refine y1 H EV ?_;refine Vx.fy (A:=_::lc) (λB W S H=>vI hs.2.2.2.2.2.1 hx h H) λa' x' l' e hl=>?_;have e2:(dQ.p σ).step t c true x=(if a'.over then .c .a else .p a',x'):=by show(_,_)=_;rw[e]
  cases ho:a'.over
  .refine z1 ?_;exact aa (e2.trans (Prod.ext (if_neg (by rw[ho];simp)) rfl)) (.p hl ho h2) rfl HQ
  .cases hl with
   |a=>cases ho
   |b=>cases ho
   |c=>cases ho
   |d hp=>
    refine z1 ?_;exact aa (show _=(dQ.c .a,x') from e2) (.c h2 rfl) rfl HQ
 |@c qm lF mI p bi σ lm h hF=>
  refine y1 H EV ?_;refine Vx.fy (A:=[_]) (λB W S H=>DI hs hx hF h H) λa' x' l' e hl=>?_;have e2:(dQ.c σ).step t c true x=(dQ.j_ t c a',x'):=by show(dQ.j_ _ _ _,_)=_;rw[e]
  have H8:cB.new t.l.e c=.a:=if_neg am;obtain⟨Ko,a2,w2,i2,Fm,N1,A2,fd2,rt2,is2,er2,LZ,rfl⟩:=hl.row;simp only[Tw.lE,Tw.cs,Lb.cs,Ar.cs,Ep.cs,lA,lB];cases ho:a'.over
  .refine z1 ?_;have e3:dQ.j_ t c a'=.c a':=by cases a'<;>first|rfl|cases ho
   exact aa (e2.trans (Prod.ext e3 rfl)) (.c hl ho) rfl HQ
  .obtain⟨key,aq,er,rfl⟩:=b9.gW ho;have e3:dQ.j_ t c (.d key aq er)=.u .a key aq er:=congrArg (dQ.u · key aq er) H8;refine z1 ?_;intros;all_goals exact aa (e2.trans (Prod.ext e3 rfl)) (.u (lm:=[_]) (.a hc) rfl hl) rfl HQ
 |@u qm qc lF p key aq er bc σ lm lc h hF h2=>
  refine y1 H EV ?_;refine Vx.fy (A:=_::lc) (λB W S H=>mo hs.2.2.2.2.2.1 hx h H) λa' x' l' e hl=>?_;have e2:(dQ.u σ key aq er).step t c true x=(if a'.over then .d key aq er else .u a' key aq er,x'):=by show(_,_)=_;rw[e]
  cases ho:a'.over
  .refine z1 ?_;exact aa (e2.trans (Prod.ext (if_neg (by rw[ho];simp)) rfl)) (.u hl ho h2) rfl HQ
  .refine z1 ?_;exact aa (e2.trans (Prod.ext (if_pos ho) rfl)) (.d h2) rfl HQ
 |d=>cases ho
end
section
variable{nd hd ht c3 c4 n c6 c7 c8 c9 dG cZ dF c key aq high:Int}
instance Th:VC EM (zF 336) [.agg [I nd,I hd,I ht,I c3,I c4,I n,I c6,I c7,I c8,I c9,I dG,I cZ,I dF],I c] (((0<=nd/\nd<4096)/\(0<=hd/\hd<4096)/\(1<=ht/\ht<=4)/\1<=n/\n<=128)/\0<=c/\c<cZ) (I 0):=.of rfl rfl λ⟨h,hc⟩=>by show Zx EM false (Tryz.a336 _) _ _ _ _;exact zZ
instance ab7:cA 337 where
instance VK:NC EM (zF 213) [.agg [I nd,I hd,I ht,I c3,I c4,I n,I c6,I c7,I c8,I c9,I dG,I cZ,I dF],I c,U key,I aq,I high] (((0<=nd/\nd<4096)/\(0<=hd/\hd<4096)/\(1<=ht/\ht<=4)/\1<=n/\n<=128)/\(0<=c/\c<cZ)/\(0<=key/\key<18446744073709551615)/\(0<=aq/\aq<=65534)/\1<=high/\high<=ht)
  (λq l=>gw ⟨nd,hd,ht,⟨⟨⟨c3,c4,n⟩,c6,c7,c8⟩,⟨c9,dG,cZ⟩,dF⟩⟩ c key aq high q 0 (.p .a 0) l):=.of rfl rfl λ⟨h,hc,hk,hj,hh⟩ ro R=>by
 show Zx EM false (Tryz.a213 _) _ _ _ _;refine z1 ?_;intros;all_goals first|exact⟨h,hc⟩|skip
 exact⟨rfl,rfl,(_::_::R),⟨_,_,gw.p (n:=0) (lm:=[_]) am (.inl rfl) (.a hc) rfl,rfl,rfl⟩,HQ⟩
instance YX:NC EM (zF 350) [.agg [I nd,I hd,I ht,I c3,I c4,I n,I c6,I c7,I c8,I c9,I dG,I cZ,I dF],I c] (((0<=nd/\nd<4096)/\(0<=hd/\hd<4096)/\(1<=ht/\ht<=4)/\1<=n/\n<=128)/\0<=c/\c<cZ)
  (λq l=>jN ⟨nd,hd,ht,⟨⟨⟨c3,c4,n⟩,c6,c7,c8⟩,⟨c9,dG,cZ⟩,dF⟩⟩ c false q 0 (.p .a) l):=.of rfl rfl λ⟨h,hc⟩ ro R=>by
 show Zx EM false (Tryz.a350 _) _ _ _ _;refine z1 ?_;intros;all_goals first|exact⟨h,hc⟩|skip
 next a b p l hp q=>exact⟨rfl,rfl,_,⟨_,_,jN.p (lm:=[_]) (.a hc) rfl hp,rfl,rfl⟩,by simp only[lA,lC,lB];exact HQ⟩
instance YY:NC EM (zF 442) [.agg [I nd,I hd,I ht,I c3,I c4,I n,I c6,I c7,I c8,I c9,I dG,I cZ,I dF],I c] (((0<=nd/\nd<4096)/\(0<=hd/\hd<4096)/\(1<=ht/\ht<=4)/\1<=n/\n<=128)/\0<=c/\c<cZ)
  (λq l=>jN ⟨nd,hd,ht,⟨⟨⟨c3,c4,n⟩,c6,c7,c8⟩,⟨c9,dG,cZ⟩,dF⟩⟩ c true q 0 (.p .a) l):=.of rfl rfl λ⟨h,hc⟩ ro R=>by
 show Zx EM false (Tryz.a442 _) _ _ _ _;refine z1 ?_;intros;all_goals first|exact⟨h,hc⟩|skip
 next a b p l hp q=>exact⟨rfl,rfl,_,⟨_,_,jN.p (lm:=[_]) (.a hc) rfl hp,rfl,rfl⟩,by simp only[lA,lC,lB];exact HQ⟩
end
instance ab8 {n:Nat}[Mn n [168,291,170,180,324,203,206]]:cA n where
inductive my (r:Rn)(v:Int)(q:Nat):dy->List Own->Prop
 |s {qm:Nat}{σ lm}(h:fM r v qm σ lm)(ho:σ.over=false):my r v q σ (.obj q (.row [.ptr qm 0,B false,I 0])::lm)
 |d {e:Int}{pp}:my r v q (.d e) [.obj q (.row [pp,B true,I e])]
section
variable{B0 S:AH}{W:List Nat}{own R lo:List Own}{ro:List aF}{m q:Nat}{vm:AV}{x:Me}{r:Rn}{v:Int}
theorem EW {σ}(hs:r.ok)(hx:x.gd)(h:my r v q σ lo)(H:Cx B0 W S (lo++(ai m vm x++R)) ro):
  aG EM (zF 205) [.ptr q 0,.ptr m 0] S λu S'=>∃ab,eH (my r v q) dy.over (σ.step r v x) (ai m vm) R u ab/\Cx B0 W S' ab ro:=by
 cases h with
 |@s qm σ lm h hF=>
  refine y1 H bF ?_;refine Vx.fy (A:=[_]) (λB W S H=>Cv hs hx h H) λa' x' l' e hl=>?_;cases ho:a'.over
  .refine z1 ?_;exact aa e (.s hl ho) ho HQ
  .cases hl with
   |d=>
    refine z1 ?_;exact aa e .d rfl HQ
   |_=>cases ho
 |d=>refine y1 H bF ?_;exact aa rfl .d rfl HQ
end
instance ab9 {n:Nat}[Mn n [171,93,187]]:cA n where
def DJ (l:List Int):Int:=l[(bQ l l.length).toNat]?.getD 0
instance YZ {R0 v l}{key:Int}:SC EM (zF 189) [v,U key] (.sl v 1 (aJ l)::R0) (l≠[]/\l.length<=64) (.dh [I (if DJ l<=key then-1 else bQ l l.length),B (decide (¬DJ l<=key))]) (.sl v 1 (aJ l)::R0):=.of rfl rfl λ⟨h0,hl⟩ ro R=>by
 have hu:Int.ofNat (aJ l).length=(l.length:Int):=congrArg Int.ofNat (bZ l);have n0:∀a b:AV,nth [a,b] 0=a:=λ_ _=>rfl;have n1:∀a b:AV,nth [a,b] 1=b:=λ_ _=>rfl;have hp:0<l.length:=by cases l with|nil=>exact absurd rfl h0|cons a m=>simp
 show Zx EM false (Tryz.a189 _) _ _ _ _;rw[Tryz.u189];simp only[lA,lB,n0,n1];refine z1 ?_;refine Vx.NB l.length (λi=>[I (i:Int),I (bQ l i)]) ?_ ?_
 .intro i hi hn;have hb:=fX (l:=l) i;have e1:((i+1:Nat):Int)=(i:Int)+1:=am;have e2:bQ l (i+1)=if bQ l i<0\/l[(bQ l i).toNat]?.getD 0<l[i]?.getD 0 then(i:Int) else bQ l i:=rfl
  simp only[e1,e2] at hn;have ei:(Int.toNat (i:Int))=i:=Int.toNat_natCast i;show Zx EM false ((λvs=>_) [I (i:Int),I (bQ l i)]) _ _ _ _;clear e1 e2;generalize hz:(i:Int)=z at*
  rw[<-ei] at hn;refine z2 ?_ ?_<;>intros
  .next h1 h2=>exact Vx.aO HQ (by rw[if_pos (.inl (by rw[ei];exact h2))] at hn;exact hn)
  next h1 h2=>
  refine Vx.EG am ?_;refine z1 ?_;refine Vx.EG am ?_;refine z2 ?_ ?_<;>intros
  all_goals simp only[ei] at*
  all_goals first
   |(rw[if_neg am] at hn;exact Vx.aO HQ hn)
   |(rw[if_pos (.inr am)] at hn;exact Vx.aO HQ hn)
 .have hb:=fX (l:=l) l.length;refine z1 ?_;intros;all_goals(try rw[hu] at*)
  all_goals first
   |(exfalso;omega)
   |skip
  refine Vx.EG am ?_;refine z2 ?_ ?_<;>intros
  .next h=>exact⟨rfl,rfl,_,⟨by show _=AV.dh [I (if l[(bQ l l.length).toNat]?.getD 0<=key then _ else _),B (decide (¬l[(bQ l l.length).toNat]?.getD 0<=key))];rw[if_pos h,decide_eq_false (λq=>q h)];rfl,rfl⟩,.rfl'⟩
  .next h=>exact⟨rfl,rfl,_,⟨by show _=AV.dh [I (if l[(bQ l l.length).toNat]?.getD 0<=key then _ else _),B (decide (¬l[(bQ l l.length).toNat]?.getD 0<=key))];rw[if_neg h,decide_eq_true h];rfl,rfl⟩,.rfl'⟩
theorem qY {l}(h:l≠[]):DJ l=l[da l]?.getD 0:=by unfold DJ;rw[<-nF h,Int.toNat_natCast]
def Rs.cS (r:Rs)(look:AV)(ln key:Int)(L:AV)(flag b e:Int):List AV:=[I r.runs,I r.flags,I r.ae,look,I ln,U key,L,I flag,U b,I e]
inductive iQ (t:Tw)(r:Rs)(c:Int)(q:Nat)(b:Int):cH->List Own->Prop
 |k {ql:Nat}{bi:Int}{σ lk}(h:jN t c true ql bi σ lk)(ho:σ.over=false):iQ t r c q b (.k σ) (.obj q (.row (r.cS (.ptr ql 0) 0 0 Ns (-1) b 0))::lk)
 |r0 {key:Int}{look}:iQ t r c q b (.r key []) [.obj q (.row (r.cS look 1 key Ns (-1) b 0))]
 |r1 {key:Int}{look l v L}(h0:l≠[])(hl:(l.length:Int)<r.ae)(hL:L=aJ l)(hv:AV.beq v v=true):iQ t r c q b (.r key l) [.obj q (.row (r.cS look 1 key v (-1) b 0)),.sl v 1 L]
 |f {key w:Int}{look v}(hw:0<=w/\w<r.ae):iQ t r c q b (.f w) [.obj q (.row (r.cS look 2 key v w b 0))]
 |d {key flag e:Int}{look v}:iQ t r c q b (.d e) [.obj q (.row (r.cS look 9 key v flag b e))]
theorem jN.row {t}{c:Int}{look:Bool}{q:Nat}{b:Int}{σ lo}(h:jN t c look q b σ lo):∃ln lF p mI cl lf,lo=.obj q (.row (t.wX c ln lF p mI b 0 cl))::lf:=by
 cases h<;>exact⟨_,_,_,_,_,_,rfl⟩
section
variable{B0 S:AH}{W:List Nat}{own R lo:List Own}{ro:List aF}{m q:Nat}{vm:AV}{x:Me}{t:Tw}{r:Rs}{c b:Int}
theorem Kr {o1 own:List Own}(e:o1=own:=by conv=>lhs;simp only[Rs.cS,lA,lB,lC]):o1=own:=e
theorem H_ {σ:cH}(hs:t.ok)(hr:r.ok)(hc:0<=c/\c<t.l.e.ae)(hx:x.gd)(ho:σ.over=false)(h:iQ t r c q b σ lo)(H:Cx B0 W S (lo++(ai m vm x++R)) ro):
  aG EM (zF 92) [.ptr q 0,.ptr m 0] S λu S'=>∃ab,eH (iQ t r c q σ.cG) cH.over (σ.step t r c x) (ai m vm) R u ab/\Cx B0 W S' ab ro:=by
 have ta:=hr;unfold Rs.ok at ta;haveI:dx:=⟨⟩;cases h with
 |@k ql bi σ lk h hF=>
  refine y1 H Kr ?_;refine Vx.fy (A:=[_]) (λB W S H=>Kq hs hc hx hF h H) λa' x' l' e hl=>?_;have e2:(cH.k σ).step t r c x=(cH.j_ a',x'):=by show(cH.j_ _,_)=_;rw[e]
  by_cases ho:a'.over=true
  .obtain⟨key,aq,er,rfl⟩:=dQ.gW ho;cases hl with
   |@d qc lF mI p key aq e0 bc lc h2=>
    cases h2 with
    |d=>
    simp only[Tw.wX,Tw.lE,Tw.cs,Lb.cs,Ar.cs,Ep.cs,lA,lB];refine z3 ?_ ?_ ?_<;>intros
    .have e3:cH.j_ (.d key aq er)=.d er:=by show(if er=0 then _ else if er=15 then _ else _)=_;rw[if_neg am,if_neg am]
     exact aa (e2.trans (Prod.ext e3 rfl)) .d rfl HQ
    .have e3:cH.j_ (.d key aq er)=.d 0:=by show(if er=0 then _ else if er=15 then _ else _)=_;rw[if_neg am,if_pos am]
     exact aa (e2.trans (Prod.ext e3 rfl)) .d rfl HQ
    .have e3:cH.j_ (.d key aq er)=.r key []:=by show(if er=0 then _ else if er=15 then _ else _)=_;rw[if_pos am]
     exact aa (e2.trans (Prod.ext e3 rfl)) .r0 rfl HQ
  .rw[Bool.not_eq_true] at ho;obtain⟨Ko,N2,p2,N3,nH,LZ,rfl⟩:=hl.row;simp only[Tw.wX,Tw.cs,Lb.cs,Ar.cs,Ep.cs,lA,lB];rw[ho];refine z1 ?_;have e3:(cH.k σ).step t r c x=(.k a',x'):=e2.trans (Prod.ext (by cases a'<;>first|rfl|cases ho) rfl);exact aa e3 (.k hl ho) rfl HQ
 |@r0 key look=>
  have hw:=Me.aj hx r.runs;refine y2 H Kr ?_ ?_<;>intros
  .next h1=>
   have BL:(0:Int)+1=r.ae:=by simpa[aJ] using h1
   rw[show List.map (λa=>[a]) [Z IntKind.u64 (x.word (r.runs+0))]=aJ [x.word (r.runs+0)] from rfl];have fF:[x.word (r.runs+0)]≠[]:=ac;have J7:=nF fF;have hb:=fX (l:=[x.word (r.runs+0)]) ([x.word (r.runs+0)]).length;have LS:([x.word (r.runs+0)]).length=1:=ac;refine x2 ?_ ?_<;>intros
   all_goals first|exact⟨fF,am⟩|skip
   .next h=>
    have e3:(cH.r key []).step t r c x=(.f (da ([x.word (r.runs+0)])),x.ld (r.runs+0)):=by show(if(0:Int)+1=r.ae then(if([x.word (r.runs+0)])[da ([x.word (r.runs+0)])]?.getD 0<=key then cH.d 0 else .f (da ([x.word (r.runs+0)]))) else _,x.ld (r.runs+0))=_;rw[if_pos BL,if_neg (by rw[<-qY fF];exact h)]
    rw[if_neg h,<-J7];exact aa e3 (.f am) rfl HQ
   .next h=>
    have e3:(cH.r key []).step t r c x=(.d 0,x.ld (r.runs+0)):=by show(if(0:Int)+1=r.ae then(if([x.word (r.runs+0)])[da ([x.word (r.runs+0)])]?.getD 0<=key then cH.d 0 else .f (da ([x.word (r.runs+0)]))) else _,x.ld (r.runs+0))=_;rw[if_pos BL,if_pos (by rw[<-qY fF];exact Decidable.not_not.1 h)]
    exact aa e3 .d rfl HQ
  .next h1=>
   have BL:¬(0:Int)+1=r.ae:=by simpa[aJ] using h1
   have e3:(cH.r key []).step t r c x=(.r key ([x.word (r.runs+0)]),x.ld (r.runs+0)):=by show(if(0:Int)+1=r.ae then _ else cH.r key ([x.word (r.runs+0)]),x.ld (r.runs+0))=_;rw[if_neg BL]
   rw[show List.map (λa=>[a]) [Z IntKind.u64 (x.word (r.runs+0))]=aJ [x.word (r.runs+0)] from rfl];exact aa e3 (.r1 ac (by simp;omega) rfl ci) rfl HQ
 |@r1 key look l v L h0 hl hL hv=>
  subst hL;have hw:=Me.aj hx (r.runs+l.length);have Yd:=bZ l;have hu:Int.ofNat (aJ l).length=(l.length:Int):=congrArg Int.ofNat (bZ l);refine y3 H Kr ?_ ?_ ?_<;>intros
  all_goals(try rw[hu] at*)
  .rw[Yd];simp;omega
  .next h1=>
   have BL:(l.length:Int)+1=r.ae:=by simpa[aJ] using h1
   rw[show aJ l++List.map (λa=>[a]) [Z IntKind.u64 (x.word (r.runs+l.length))]=aJ (l++[x.word (r.runs+l.length)]) from by simp[aJ]];have fF:l++[x.word (r.runs+l.length)]≠[]:=ac;have J7:=nF fF;have hb:=fX (l:=l++[x.word (r.runs+l.length)]) (l++[x.word (r.runs+l.length)]).length;have LS:(l++[x.word (r.runs+l.length)]).length=l.length+1:=ac;refine x3 ?_ ?_ ?_<;>intros
   all_goals first|exact⟨fF,am⟩|skip
   .next h=>
    have e3:(cH.r key l).step t r c x=(.f (da (l++[x.word (r.runs+l.length)])),x.ld (r.runs+l.length)):=by show(if(l.length:Int)+1=r.ae then(if(l++[x.word (r.runs+l.length)])[da (l++[x.word (r.runs+l.length)])]?.getD 0<=key then cH.d 0 else .f (da (l++[x.word (r.runs+l.length)]))) else _,x.ld (r.runs+l.length))=_;rw[if_pos BL,if_neg (by rw[<-qY fF];exact h)]
    rw[if_neg h,<-J7];exact aa e3 (.f am) rfl HQ
   .next h=>
    have e3:(cH.r key l).step t r c x=(.d 0,x.ld (r.runs+l.length)):=by show(if(l.length:Int)+1=r.ae then(if(l++[x.word (r.runs+l.length)])[da (l++[x.word (r.runs+l.length)])]?.getD 0<=key then cH.d 0 else .f (da (l++[x.word (r.runs+l.length)]))) else _,x.ld (r.runs+l.length))=_;rw[if_pos BL,if_pos (by rw[<-qY fF];exact Decidable.not_not.1 h)]
    exact aa e3 .d rfl HQ
  .next h1=>
   have BL:¬(l.length:Int)+1=r.ae:=by simpa[aJ] using h1
   have e3:(cH.r key l).step t r c x=(.r key (l++[x.word (r.runs+l.length)]),x.ld (r.runs+l.length)):=by show(if(l.length:Int)+1=r.ae then _ else cH.r key (l++[x.word (r.runs+l.length)]),x.ld (r.runs+l.length))=_;rw[if_neg BL]
   rw[show aJ l++List.map (λa=>[a]) [Z IntKind.u64 (x.word (r.runs+l.length))]=aJ (l++[x.word (r.runs+l.length)]) from by simp[aJ]];exact aa e3 (.r1 ac (by simp;omega) rfl ci) rfl HQ
 |@f key w look v hw=>
  refine y1 H Kr ?_;exact aa rfl .d rfl HQ
 |d=>cases ho
end
section
variable{nd hd ht c3 c4 n c6 c7 c8 c9 dG cZ dF rr rf rc c m0 mc mr v:Int}
instance VM:NC EM (zF 318) [.agg [I nd,I hd,I ht,I c3,I c4,I n,I c6,I c7,I c8,I c9,I dG,I cZ,I dF],.agg [I rr,I rf,I rc],I c] (((0<=nd/\nd<4096)/\(0<=hd/\hd<4096)/\(1<=ht/\ht<=4)/\1<=n/\n<=128)/\(0<=c/\c<cZ)/\1<=rc/\rc<=64)
  (λq l=>iQ ⟨nd,hd,ht,⟨⟨⟨c3,c4,n⟩,c6,c7,c8⟩,⟨c9,dG,cZ⟩,dF⟩⟩ ⟨rr,rf,rc⟩ c q 0 (.k (.p .a)) l):=.of rfl rfl λ⟨h,hc,hr⟩ ro R=>by
 show Zx EM false (Tryz.a318 _) _ _ _ _;refine z1 ?_;intros;all_goals first|exact⟨h,hc⟩|skip
 next a b p l hp q=>exact⟨rfl,rfl,_,⟨_,_,iQ.k hp rfl,rfl,rfl⟩,by simp only[lA,lC,lB];exact HQ⟩
instance Qi {r0 r1 r2 r3:Int}:NC EM (zF 325) [.agg [I r0,I r1,I r2,I r3],I v] ((1<=r3/\r3<=4096)/\0<=v/\v<65536)
  (λq l=>fM ⟨r0,r1,r2,r3⟩ v q .a l):=.of rfl rfl λ⟨h,hv⟩ ro R=>by
 show Zx EM false (Tryz.a325 _) _ _ _ _;refine z1 ?_;intros;exact⟨rfl,rfl,(_::R),⟨_,_,fM.a hv,rfl,rfl⟩,HQ⟩
instance Ti:NC EM (zF 203) [.agg [I m0,I mc,I mr],I c,I v] (((0<=m0/\m0<4096)/\(1<=mc/\mc<=64)/\1<=mr/\mr<=16)/\(0<=c/\c<mc)/\0<=v/\v<65536)
  (λq l=>my ⟨m0+c*(mr+2),m0+c*(mr+2)+1,m0+c*(mr+2)+2,mr⟩ v q .a l):=.of rfl rfl λ⟨h,hc,hv⟩ ro R=>by
 have e1:c*(mr+2)<=63*(mr+2):=Int.mul_le_mul_of_nonneg_right am am;have e2:0<=c*(mr+2):=Int.mul_nonneg hc.1 am;show Zx EM false (Tryz.a203 _) _ _ _ _;refine z1 ?_;intros;next p l hp q=>exact⟨rfl,rfl,_,⟨_,_,my.s hp rfl,rfl,rfl⟩,by simp only[lA,lC,lB];exact HQ⟩
end
end Go.cI
