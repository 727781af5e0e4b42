/- Contracts. Conditions: in each theorem. -/
import Derived.Test.YtdfgboafnklioaaGreatM43
import Derived.Test.YtdfgboafnklioaaGreatM13
set_option linter.all false
set_option maxRecDepth 100000
set_option maxHeartbeats 4000000
namespace Go.cO
open Go.Proofs
instance ab3:cH 310 where
instance ab4:cH 309 where
def Tw.wI (t:Tw)(c ln:Int)(l9:AV)(p:Int)(mV:AV)(b e:Int)(cl:AV):List AV:=t.cs++[I c,I ln,l9,I p,mV,U b,I e,cl]
inductive kp (t:Tw)(c:Int)(look:Bool)(q:Nat)(b:Int):dY->List Own->Prop
 |p {qm qc:Nat}{mV}{p bc:Int}{σ lm lc}(h:rj t.l.e c qm σ lm)(ho:σ.over=false)(h2:iE t look qc bc .a lc):kp t c look q b (.p σ) (.obj q (.row (t.wI c 1 (.ptr qm 0) p mV b 0 (.ptr qc 0)))::(lc++lm))
 |c {qm:Nat}{l9 mV}{p bi:Int}{σ lm}(h:iE t look qm bi σ lm)(ho:σ.over=false):kp t c look q b (.c σ) (.obj q (.row (t.wI c 4 l9 p mV b 0 (.ptr qm 0)))::lm)
 |u {qm qc:Nat}{l9}{p key aq e bc:Int}{σ lm lc}(h:kO t.l.e c qm σ lm)(ho:σ.over=false)(h2:iE t look qc bc (.d key aq e) lc):kp t c look q b (.u σ key aq e) (.obj q (.row (t.wI c 5 l9 p (.ptr qm 0) b 0 (.ptr qc 0)))::(lc++lm))
 |d {qc:Nat}{l9 mV}{p key aq e bc:Int}{lc}(h2:iE t look qc bc (.d key aq e) lc):kp t c look q b (.d key aq e) (.obj q (.row (t.wI c 9 l9 p mV b 0 (.ptr qc 0)))::lc)
theorem iE.row {t}{look:Bool}{q:Nat}{b:Int}{σ lo}(h:iE t look q b σ lo):∃ln a w i lv key A fd rt is er lf,lo=.obj q (.row (t.l8 look ln a w i lv key A fd rt is b er))::lf:=by
 cases h<;>exact⟨_,_,_,_,_,_,_,_,_,_,_,_,rfl⟩
section
variable{B0 S:AH}{W:List Nat}{own R lo:List Own}{ro:List aB}{m q:Nat}{vm:AV}{x:Me}{t:Tw}{c b:Int}
theorem EI {o1 own:List Own}(e:o1=own:=by conv=>lhs;simp only[Tw.wI,Tw.cs,Lb.cs,Ar.cs,Ep.cs,lA,lB,lC]):o1=own:=e
theorem Kh {σ:dY}(hs:t.ok)(hc:0<=c/\c<t.l.e.ah)(hx:x.gd)(ho:σ.over=false)(h:kp t c false q b σ lo)(H:Cx B0 W S (lo++(ai m vm x++R)) ro):
  aG EM (zF 190) [.ptr q 0,.ptr m 0] S λu S'=>∃ab,eW (kp t c false q σ.cM) dY.over (σ.step t c false x) (ai m vm) R u ab/\Cx B0 W S' ab ro:=by
 have bt:=hs;unfold Tw.ok Lb.ok Ar.ok Sk.ok Ep.ok at bt;cases h with
 |@p qm qc mV p bc σ lm lc h hF h2=>
  refine y1 H EI ?_;refine Vx.fV (A:=_::lc) (λB W S H=>vD hs.2.2.2.2.2.1 hx h H) λa' x' l' e hl=>?_;have e2:(dY.p σ).step t c false x=(if a'.over then .c .a else .p a',x'):=by show(_,_)=_;rw[e]
  cases ho:a'.over
  .refine z1 ?_;exact aa (e2.trans (Prod.ext (if_neg (by rw[ho];simp)) rfl)) (.p hl ho h2) rfl HQ
  .cases hl with
   |a=>cases ho
   |b=>cases ho
   |c=>cases ho
   |d hp=>
    refine z1 ?_;exact aa (show _=(dY.c .a,x') from e2) (.c h2 rfl) rfl HQ
 |@c qm l9 mV p bi σ lm h hF=>
  refine y1 H EI ?_;refine Vx.fV (A:=[_]) (λB W S H=>DB hs hx hF h H) λa' x' l' e hl=>?_;have e2:(dY.c σ).step t c false x=(dY.kh t c a',x'):=by show(dY.kh _ _ _,_)=_;rw[e]
  have H5:cG.new t.l.e c=.a:=if_neg am;obtain⟨Kg,a2,w2,i2,Fs,NR,A2,fd2,rt2,is2,er2,LR,rfl⟩:=hl.row;simp only[Tw.l8,Tw.cs,Lb.cs,Ar.cs,Ep.cs,lA,lB];cases ho:a'.over
  .refine z1 ?_;have e3:dY.kh t c a'=.c a':=by cases a'<;>first|rfl|cases ho
   exact aa (e2.trans (Prod.ext e3 rfl)) (.c hl ho) rfl HQ
  .obtain⟨key,aq,er,rfl⟩:=cj.iD ho;have e3:dY.kh t c (.d key aq er)=.u .a key aq er:=congrArg (dY.u · key aq er) H5;refine z1 ?_;intros;all_goals exact aa (e2.trans (Prod.ext e3 rfl)) (.u (lm:=[_]) (.a hc) rfl hl) rfl HQ
 |@u qm qc l9 p key aq er bc σ lm lc h hF h2=>
  refine y1 H EI ?_;refine Vx.fV (A:=_::lc) (λB W S H=>mJ hs.2.2.2.2.2.1 hx h H) λa' x' l' e hl=>?_;have e2:(dY.u σ key aq er).step t c false x=(if a'.over then .d key aq er else .u a' key aq er,x'):=by show(_,_)=_;rw[e]
  cases ho:a'.over
  .refine z1 ?_;exact aa (e2.trans (Prod.ext (if_neg (by rw[ho];simp)) rfl)) (.u hl ho h2) rfl HQ
  .refine z1 ?_;exact aa (e2.trans (Prod.ext (if_pos ho) rfl)) (.d h2) rfl HQ
 |d=>cases ho
theorem Ki {σ:dY}(hs:t.ok)(hc:0<=c/\c<t.l.e.ah)(hx:x.gd)(ho:σ.over=false)(h:kp t c true q b σ lo)(H:Cx B0 W S (lo++(ai m vm x++R)) ro):
  aG EM (zF 185) [.ptr q 0,.ptr m 0] S λu S'=>∃ab,eW (kp t c true q σ.cM) dY.over (σ.step t c true x) (ai m vm) R u ab/\Cx B0 W S' ab ro:=by
 have bt:=hs;unfold Tw.ok Lb.ok Ar.ok Sk.ok Ep.ok at bt;cases h with
 |@p qm qc mV p bc σ lm lc h hF h2=>
  refine y1 H EI ?_;refine Vx.fV (A:=_::lc) (λB W S H=>vD hs.2.2.2.2.2.1 hx h H) λa' x' l' e hl=>?_;have e2:(dY.p σ).step t c true x=(if a'.over then .c .a else .p a',x'):=by show(_,_)=_;rw[e]
  cases ho:a'.over
  .refine z1 ?_;exact aa (e2.trans (Prod.ext (if_neg (by rw[ho];simp)) rfl)) (.p hl ho h2) rfl HQ
  .cases hl with
   |a=>cases ho
   |b=>cases ho
   |c=>cases ho
   |d hp=>
    refine z1 ?_;exact aa (show _=(dY.c .a,x') from e2) (.c h2 rfl) rfl HQ
 |@c qm l9 mV p bi σ lm h hF=>
  refine y1 H EI ?_;refine Vx.fV (A:=[_]) (λB W S H=>DB hs hx hF h H) λa' x' l' e hl=>?_;have e2:(dY.c σ).step t c true x=(dY.kh t c a',x'):=by show(dY.kh _ _ _,_)=_;rw[e]
  have H5:cG.new t.l.e c=.a:=if_neg am;obtain⟨Kg,a2,w2,i2,Fs,NR,A2,fd2,rt2,is2,er2,LR,rfl⟩:=hl.row;simp only[Tw.l8,Tw.cs,Lb.cs,Ar.cs,Ep.cs,lA,lB];cases ho:a'.over
  .refine z1 ?_;have e3:dY.kh t c a'=.c a':=by cases a'<;>first|rfl|cases ho
   exact aa (e2.trans (Prod.ext e3 rfl)) (.c hl ho) rfl HQ
  .obtain⟨key,aq,er,rfl⟩:=cj.iD ho;have e3:dY.kh t c (.d key aq er)=.u .a key aq er:=congrArg (dY.u · key aq er) H5;refine z1 ?_;intros;all_goals exact aa (e2.trans (Prod.ext e3 rfl)) (.u (lm:=[_]) (.a hc) rfl hl) rfl HQ
 |@u qm qc l9 p key aq er bc σ lm lc h hF h2=>
  refine y1 H EI ?_;refine Vx.fV (A:=_::lc) (λB W S H=>mJ hs.2.2.2.2.2.1 hx h H) λa' x' l' e hl=>?_;have e2:(dY.u σ key aq er).step t c true x=(if a'.over then .d key aq er else .u a' key aq er,x'):=by show(_,_)=_;rw[e]
  cases ho:a'.over
  .refine z1 ?_;exact aa (e2.trans (Prod.ext (if_neg (by rw[ho];simp)) rfl)) (.u hl ho h2) rfl HQ
  .refine z1 ?_;exact aa (e2.trans (Prod.ext (if_pos ho) rfl)) (.d h2) rfl HQ
 |d=>cases ho
end
section
variable{nd hd ht c3 c4 n c6 c7 c8 c9 dP dp dM c key aq high:Int}
instance Ts:VC EM (zF 336) [.agg [I nd,I hd,I ht,I c3,I c4,I n,I c6,I c7,I c8,I c9,I dP,I dp,I dM],I c] (((0<=nd/\nd<4096)/\(0<=hd/\hd<4096)/\(1<=ht/\ht<=4)/\1<=n/\n<=128)/\0<=c/\c<dp) (I 0):=.of rfl rfl λ⟨h,hc⟩=>by show Zx EM false (Tryz.a336 _) _ _ _ _;exact zZ
instance ab5:cH 337 where
instance VK:NC EM (zF 213) [.agg [I nd,I hd,I ht,I c3,I c4,I n,I c6,I c7,I c8,I c9,I dP,I dp,I dM],I c,U key,I aq,I high] (((0<=nd/\nd<4096)/\(0<=hd/\hd<4096)/\(1<=ht/\ht<=4)/\1<=n/\n<=128)/\(0<=c/\c<dp)/\(0<=key/\key<18446744073709551615)/\(0<=aq/\aq<=65534)/\1<=high/\high<=ht)
  (λq l=>gW ⟨nd,hd,ht,⟨⟨⟨c3,c4,n⟩,c6,c7,c8⟩,⟨c9,dP,dp⟩,dM⟩⟩ c key aq high q 0 (.p .a 0) l):=.of rfl rfl λ⟨h,hc,hk,hj,hh⟩ ro R=>by
 show Zx EM false (Tryz.a213 _) _ _ _ _;refine z1 ?_;intros;all_goals first|exact⟨h,hc⟩|skip
 exact⟨rfl,rfl,(_::_::R),⟨_,_,gW.p (n:=0) (lm:=[_]) am (.inl rfl) (.a hc) rfl,rfl,rfl⟩,HQ⟩
instance YK:NC EM (zF 350) [.agg [I nd,I hd,I ht,I c3,I c4,I n,I c6,I c7,I c8,I c9,I dP,I dp,I dM],I c] (((0<=nd/\nd<4096)/\(0<=hd/\hd<4096)/\(1<=ht/\ht<=4)/\1<=n/\n<=128)/\0<=c/\c<dp)
  (λq l=>kp ⟨nd,hd,ht,⟨⟨⟨c3,c4,n⟩,c6,c7,c8⟩,⟨c9,dP,dp⟩,dM⟩⟩ c false q 0 (.p .a) l):=.of rfl rfl λ⟨h,hc⟩ ro R=>by
 show Zx EM false (Tryz.a350 _) _ _ _ _;refine z1 ?_;intros;all_goals first|exact⟨h,hc⟩|skip
 next a b p l hp q=>exact⟨rfl,rfl,_,⟨_,_,kp.p (lm:=[_]) (.a hc) rfl hp,rfl,rfl⟩,by simp only[lA,lC,lB];exact HQ⟩
instance YL:NC EM (zF 442) [.agg [I nd,I hd,I ht,I c3,I c4,I n,I c6,I c7,I c8,I c9,I dP,I dp,I dM],I c] (((0<=nd/\nd<4096)/\(0<=hd/\hd<4096)/\(1<=ht/\ht<=4)/\1<=n/\n<=128)/\0<=c/\c<dp)
  (λq l=>kp ⟨nd,hd,ht,⟨⟨⟨c3,c4,n⟩,c6,c7,c8⟩,⟨c9,dP,dp⟩,dM⟩⟩ c true q 0 (.p .a) l):=.of rfl rfl λ⟨h,hc⟩ ro R=>by
 show Zx EM false (Tryz.a442 _) _ _ _ _;refine z1 ?_;intros;all_goals first|exact⟨h,hc⟩|skip
 next a b p l hp q=>exact⟨rfl,rfl,_,⟨_,_,kp.p (lm:=[_]) (.a hc) rfl hp,rfl,rfl⟩,by simp only[lA,lC,lB];exact HQ⟩
end
instance ab6 {n:Nat}[Mn n [168,291,170,180,324,203,206]]:cH n where
inductive mM (r:Rn)(v:Int)(q:Nat):b7->List Own->Prop
 |s {qm:Nat}{σ lm}(h:gw r v qm σ lm)(ho:σ.over=false):mM r v q σ (.obj q (.row [.ptr qm 0,B false,I 0])::lm)
 |d {e:Int}{pp}:mM r v q (.d e) [.obj q (.row [pp,B true,I e])]
section
variable{B0 S:AH}{W:List Nat}{own R lo:List Own}{ro:List aB}{m q:Nat}{vm:AV}{x:Me}{r:Rn}{v:Int}
theorem EJ {σ}(hs:r.ok)(hx:x.gd)(h:mM r v q σ lo)(H:Cx B0 W S (lo++(ai m vm x++R)) ro):
  aG EM (zF 205) [.ptr q 0,.ptr m 0] S λu S'=>∃ab,eW (mM r v q) b7.over (σ.step r v x) (ai m vm) R u ab/\Cx B0 W S' ab ro:=by
 cases h with
 |@s qm σ lm h hF=>
  refine y1 H bK ?_;refine Vx.fV (A:=[_]) (λB W S H=>Ci hs hx h H) λa' x' l' e hl=>?_;cases ho:a'.over
  .refine z1 ?_;exact aa e (.s hl ho) ho HQ
  .cases hl with
   |d=>
    refine z1 ?_;exact aa e .d rfl HQ
   |_=>cases ho
 |d=>refine y1 H bK ?_;exact aa rfl .d rfl HQ
end
instance ab7 {n:Nat}[Mn n [171,93,187]]:cH n where
def DC (l:List Int):Int:=l[(bT l l.length).toNat]?.getD 0
instance YM {R0 v l}{key:Int}:SC EM (zF 189) [v,U key] (.sl v 1 (bq l)::R0) (l≠[]/\l.length<=64) (.dD [I (if DC l<=key then-1 else bT l l.length),B (decide (¬DC l<=key))]) (.sl v 1 (bq l)::R0):=.of rfl rfl λ⟨h0,hl⟩ ro R=>by
 have hu:Int.ofNat (bq l).length=(l.length:Int):=congrArg Int.ofNat (eD l);have n0:∀a b:AV,nth [a,b] 0=a:=λ_ _=>rfl;have n1:∀a b:AV,nth [a,b] 1=b:=λ_ _=>rfl;have hp:0<l.length:=by cases l with|nil=>exact absurd rfl h0|cons a m=>simp
 show Zx EM false (Tryz.a189 _) _ _ _ _;rw[Tryz.u189];simp only[lA,lB,n0,n1];refine z1 ?_;refine Vx.Nu l.length (λi=>[I (i:Int),I (bT l i)]) ?_ ?_
 .intro i hi hn;have hb:=gI (l:=l) i;have e1:((i+1:Nat):Int)=(i:Int)+1:=am;have e2:bT l (i+1)=if bT l i<0\/l[(bT l i).toNat]?.getD 0<l[i]?.getD 0 then(i:Int) else bT l i:=rfl
  simp only[e1,e2] at hn;have ei:(Int.toNat (i:Int))=i:=Int.toNat_natCast i;show Zx EM false ((λvs=>_) [I (i:Int),I (bT l i)]) _ _ _ _;clear e1 e2;generalize hz:(i:Int)=z at*
  rw[<-ei] at hn;refine z2 ?_ ?_<;>intros
  .next h1 h2=>exact Vx.bB HQ (by rw[if_pos (.inl (by rw[ei];exact h2))] at hn;exact hn)
  next h1 h2=>
  refine Vx.Eu am ?_;refine z1 ?_;refine Vx.Eu am ?_;refine z2 ?_ ?_<;>intros
  all_goals simp only[ei] at*
  all_goals first
   |(rw[if_neg am] at hn;exact Vx.bB HQ hn)
   |(rw[if_pos (.inr am)] at hn;exact Vx.bB HQ hn)
 .have hb:=gI (l:=l) l.length;refine z1 ?_;intros;all_goals(try rw[hu] at*)
  all_goals first
   |(exfalso;omega)
   |skip
  refine Vx.Eu am ?_;refine z2 ?_ ?_<;>intros
  .next h=>exact⟨rfl,rfl,_,⟨by show _=AV.dD [I (if l[(bT l l.length).toNat]?.getD 0<=key then _ else _),B (decide (¬l[(bT l l.length).toNat]?.getD 0<=key))];rw[if_pos h,decide_eq_false (λq=>q h)];rfl,rfl⟩,.rfl'⟩
  .next h=>exact⟨rfl,rfl,_,⟨by show _=AV.dD [I (if l[(bT l l.length).toNat]?.getD 0<=key then _ else _),B (decide (¬l[(bT l l.length).toNat]?.getD 0<=key))];rw[if_neg h,decide_eq_true h];rfl,rfl⟩,.rfl'⟩
theorem rl {l}(h:l≠[]):DC l=l[du l]?.getD 0:=by unfold DC;rw[<-nV h,Int.toNat_natCast]
def Rs.cZ (r:Rs)(look:AV)(ln key:Int)(L:AV)(flag b e:Int):List AV:=[I r.runs,I r.flags,I r.ah,look,I ln,U key,L,I flag,U b,I e]
inductive jm (t:Tw)(r:Rs)(c:Int)(q:Nat)(b:Int):cN->List Own->Prop
 |k {ql:Nat}{bi:Int}{σ lk}(h:kp t c true ql bi σ lk)(ho:σ.over=false):jm t r c q b (.k σ) (.obj q (.row (r.cZ (.ptr ql 0) 0 0 Ns (-1) b 0))::lk)
 |r0 {key:Int}{look}:jm t r c q b (.r key []) [.obj q (.row (r.cZ look 1 key Ns (-1) b 0))]
 |r1 {key:Int}{look l v L}(h0:l≠[])(hl:(l.length:Int)<r.ah)(hL:L=bq l)(hv:AV.beq v v=true):jm t r c q b (.r key l) [.obj q (.row (r.cZ look 1 key v (-1) b 0)),.sl v 1 L]
 |f {key w:Int}{look v}(hw:0<=w/\w<r.ah):jm t r c q b (.f w) [.obj q (.row (r.cZ look 2 key v w b 0))]
 |d {key flag e:Int}{look v}:jm t r c q b (.d e) [.obj q (.row (r.cZ look 9 key v flag b e))]
theorem kp.row {t}{c:Int}{look:Bool}{q:Nat}{b:Int}{σ lo}(h:kp t c look q b σ lo):∃ln l9 p mV cl lf,lo=.obj q (.row (t.wI c ln l9 p mV b 0 cl))::lf:=by
 cases h<;>exact⟨_,_,_,_,_,_,rfl⟩
section
variable{B0 S:AH}{W:List Nat}{own R lo:List Own}{ro:List aB}{m q:Nat}{vm:AV}{x:Me}{t:Tw}{r:Rs}{c b:Int}
theorem Kj {o1 own:List Own}(e:o1=own:=by conv=>lhs;simp only[Rs.cZ,lA,lB,lC]):o1=own:=e
theorem H6 {σ:cN}(hs:t.ok)(hr:r.ok)(hc:0<=c/\c<t.l.e.ah)(hx:x.gd)(ho:σ.over=false)(h:jm t r c q b σ lo)(H:Cx B0 W S (lo++(ai m vm x++R)) ro):
  aG EM (zF 92) [.ptr q 0,.ptr m 0] S λu S'=>∃ab,eW (jm t r c q σ.cM) cN.over (σ.step t r c x) (ai m vm) R u ab/\Cx B0 W S' ab ro:=by
 have py:=hr;unfold Rs.ok at py;haveI:dH:=⟨⟩;cases h with
 |@k ql bi σ lk h hF=>
  refine y1 H Kj ?_;refine Vx.fV (A:=[_]) (λB W S H=>Ki hs hc hx hF h H) λa' x' l' e hl=>?_;have e2:(cN.k σ).step t r c x=(cN.kh a',x'):=by show(cN.kh _,_)=_;rw[e]
  by_cases ho:a'.over=true
  .obtain⟨key,aq,er,rfl⟩:=dY.iD ho;cases hl with
   |@d qc l9 mV p key aq e0 bc lc h2=>
    cases h2 with
    |d=>
    simp only[Tw.wI,Tw.l8,Tw.cs,Lb.cs,Ar.cs,Ep.cs,lA,lB];refine z3 ?_ ?_ ?_<;>intros
    .have e3:cN.kh (.d key aq er)=.d er:=by show(if er=0 then _ else if er=15 then _ else _)=_;rw[if_neg am,if_neg am]
     exact aa (e2.trans (Prod.ext e3 rfl)) .d rfl HQ
    .have e3:cN.kh (.d key aq er)=.d 0:=by show(if er=0 then _ else if er=15 then _ else _)=_;rw[if_neg am,if_pos am]
     exact aa (e2.trans (Prod.ext e3 rfl)) .d rfl HQ
    .have e3:cN.kh (.d key aq er)=.r key []:=by show(if er=0 then _ else if er=15 then _ else _)=_;rw[if_pos am]
     exact aa (e2.trans (Prod.ext e3 rfl)) .r0 rfl HQ
  .rw[Bool.not_eq_true] at ho;obtain⟨Kg,NT,p2,NU,nX,LR,rfl⟩:=hl.row;simp only[Tw.wI,Tw.cs,Lb.cs,Ar.cs,Ep.cs,lA,lB];rw[ho];refine z1 ?_;have e3:(cN.k σ).step t r c x=(.k a',x'):=e2.trans (Prod.ext (by cases a'<;>first|rfl|cases ho) rfl);exact aa e3 (.k hl ho) rfl HQ
 |@r0 key look=>
  have hw:=Me.aj hx r.runs;refine y2 H Kj ?_ ?_<;>intros
  .next h1=>
   have Bu:(0:Int)+1=r.ah:=by simpa[bq] using h1
   rw[show List.map (λa=>[a]) [Z IntKind.u64 (x.word (r.runs+0))]=bq [x.word (r.runs+0)] from rfl];have fI:[x.word (r.runs+0)]≠[]:=ac;have JZ:=nV fI;have hb:=gI (l:=[x.word (r.runs+0)]) ([x.word (r.runs+0)]).length;have LL:([x.word (r.runs+0)]).length=1:=ac;refine x2 ?_ ?_<;>intros
   all_goals first|exact⟨fI,am⟩|skip
   .next h=>
    have e3:(cN.r key []).step t r c x=(.f (du ([x.word (r.runs+0)])),x.ld (r.runs+0)):=by show(if(0:Int)+1=r.ah then(if([x.word (r.runs+0)])[du ([x.word (r.runs+0)])]?.getD 0<=key then cN.d 0 else .f (du ([x.word (r.runs+0)]))) else _,x.ld (r.runs+0))=_;rw[if_pos Bu,if_neg (by rw[<-rl fI];exact h)]
    rw[if_neg h,<-JZ];exact aa e3 (.f am) rfl HQ
   .next h=>
    have e3:(cN.r key []).step t r c x=(.d 0,x.ld (r.runs+0)):=by show(if(0:Int)+1=r.ah then(if([x.word (r.runs+0)])[du ([x.word (r.runs+0)])]?.getD 0<=key then cN.d 0 else .f (du ([x.word (r.runs+0)]))) else _,x.ld (r.runs+0))=_;rw[if_pos Bu,if_pos (by rw[<-rl fI];exact Decidable.not_not.1 h)]
    exact aa e3 .d rfl HQ
  .next h1=>
   have Bu:¬(0:Int)+1=r.ah:=by simpa[bq] using h1
   have e3:(cN.r key []).step t r c x=(.r key ([x.word (r.runs+0)]),x.ld (r.runs+0)):=by show(if(0:Int)+1=r.ah then _ else cN.r key ([x.word (r.runs+0)]),x.ld (r.runs+0))=_;rw[if_neg Bu]
   rw[show List.map (λa=>[a]) [Z IntKind.u64 (x.word (r.runs+0))]=bq [x.word (r.runs+0)] from rfl];exact aa e3 (.r1 ac (by simp;omega) rfl ci) rfl HQ
 |@r1 key look l v L h0 hl hL hv=>
  subst hL;have hw:=Me.aj hx (r.runs+l.length);have X1:=eD l;have hu:Int.ofNat (bq l).length=(l.length:Int):=congrArg Int.ofNat (eD l);refine y3 H Kj ?_ ?_ ?_<;>intros
  all_goals(try rw[hu] at*)
  .rw[X1];simp;omega
  .next h1=>
   have Bu:(l.length:Int)+1=r.ah:=by simpa[bq] using h1
   rw[show bq l++List.map (λa=>[a]) [Z IntKind.u64 (x.word (r.runs+l.length))]=bq (l++[x.word (r.runs+l.length)]) from by simp[bq]];have fI:l++[x.word (r.runs+l.length)]≠[]:=ac;have JZ:=nV fI;have hb:=gI (l:=l++[x.word (r.runs+l.length)]) (l++[x.word (r.runs+l.length)]).length;have LL:(l++[x.word (r.runs+l.length)]).length=l.length+1:=ac;refine x3 ?_ ?_ ?_<;>intros
   all_goals first|exact⟨fI,am⟩|skip
   .next h=>
    have e3:(cN.r key l).step t r c x=(.f (du (l++[x.word (r.runs+l.length)])),x.ld (r.runs+l.length)):=by show(if(l.length:Int)+1=r.ah then(if(l++[x.word (r.runs+l.length)])[du (l++[x.word (r.runs+l.length)])]?.getD 0<=key then cN.d 0 else .f (du (l++[x.word (r.runs+l.length)]))) else _,x.ld (r.runs+l.length))=_;rw[if_pos Bu,if_neg (by rw[<-rl fI];exact h)]
    rw[if_neg h,<-JZ];exact aa e3 (.f am) rfl HQ
   .next h=>
    have e3:(cN.r key l).step t r c x=(.d 0,x.ld (r.runs+l.length)):=by show(if(l.length:Int)+1=r.ah then(if(l++[x.word (r.runs+l.length)])[du (l++[x.word (r.runs+l.length)])]?.getD 0<=key then cN.d 0 else .f (du (l++[x.word (r.runs+l.length)]))) else _,x.ld (r.runs+l.length))=_;rw[if_pos Bu,if_pos (by rw[<-rl fI];exact Decidable.not_not.1 h)]
    exact aa e3 .d rfl HQ
  .next h1=>
   have Bu:¬(l.length:Int)+1=r.ah:=by simpa[bq] using h1
   have e3:(cN.r key l).step t r c x=(.r key (l++[x.word (r.runs+l.length)]),x.ld (r.runs+l.length)):=by show(if(l.length:Int)+1=r.ah then _ else cN.r key (l++[x.word (r.runs+l.length)]),x.ld (r.runs+l.length))=_;rw[if_neg Bu]
   rw[show bq l++List.map (λa=>[a]) [Z IntKind.u64 (x.word (r.runs+l.length))]=bq (l++[x.word (r.runs+l.length)]) from by simp[bq]];exact aa e3 (.r1 ac (by simp;omega) rfl ci) rfl HQ
 |@f key w look v hw=>
  refine y1 H Kj ?_;exact aa rfl .d rfl HQ
 |d=>cases ho
end
section
variable{nd hd ht c3 c4 n c6 c7 c8 c9 dP dp dM rr rf rc c m0 mc mr v:Int}
instance VM:NC EM (zF 318) [.agg [I nd,I hd,I ht,I c3,I c4,I n,I c6,I c7,I c8,I c9,I dP,I dp,I dM],.agg [I rr,I rf,I rc],I c] (((0<=nd/\nd<4096)/\(0<=hd/\hd<4096)/\(1<=ht/\ht<=4)/\1<=n/\n<=128)/\(0<=c/\c<dp)/\1<=rc/\rc<=64)
  (λq l=>jm ⟨nd,hd,ht,⟨⟨⟨c3,c4,n⟩,c6,c7,c8⟩,⟨c9,dP,dp⟩,dM⟩⟩ ⟨rr,rf,rc⟩ c q 0 (.k (.p .a)) l):=.of rfl rfl λ⟨h,hc,hr⟩ ro R=>by
 show Zx EM false (Tryz.a318 _) _ _ _ _;refine z1 ?_;intros;all_goals first|exact⟨h,hc⟩|skip
 next a b p l hp q=>exact⟨rfl,rfl,_,⟨_,_,jm.k hp rfl,rfl,rfl⟩,by simp only[lA,lC,lB];exact HQ⟩
instance Qx {r0 r1 r2 r3:Int}:NC EM (zF 325) [.agg [I r0,I r1,I r2,I r3],I v] ((1<=r3/\r3<=4096)/\0<=v/\v<65536)
  (λq l=>gw ⟨r0,r1,r2,r3⟩ v q .a l):=.of rfl rfl λ⟨h,hv⟩ ro R=>by
 show Zx EM false (Tryz.a325 _) _ _ _ _;refine z1 ?_;intros;exact⟨rfl,rfl,(_::R),⟨_,_,gw.a hv,rfl,rfl⟩,HQ⟩
instance Tt:NC EM (zF 203) [.agg [I m0,I mc,I mr],I c,I v] (((0<=m0/\m0<4096)/\(1<=mc/\mc<=64)/\1<=mr/\mr<=16)/\(0<=c/\c<mc)/\0<=v/\v<65536)
  (λq l=>mM ⟨m0+c*(mr+2),m0+c*(mr+2)+1,m0+c*(mr+2)+2,mr⟩ v q .a l):=.of rfl rfl λ⟨h,hc,hv⟩ ro R=>by
 have e1:c*(mr+2)<=63*(mr+2):=Int.mul_le_mul_of_nonneg_right am am;have e2:0<=c*(mr+2):=Int.mul_nonneg hc.1 am;show Zx EM false (Tryz.a203 _) _ _ _ _;refine z1 ?_;intros;next p l hp q=>exact⟨rfl,rfl,_,⟨_,_,mM.s hp rfl,rfl,rfl⟩,by simp only[lA,lC,lB];exact HQ⟩
end
end Go.cO
