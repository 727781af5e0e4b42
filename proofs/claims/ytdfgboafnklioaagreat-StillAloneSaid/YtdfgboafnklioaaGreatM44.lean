/- Contracts of functions, over the abstract machine. Conditions: stated in each theorem. -/
import Derived.Test.YtdfgboafnklioaaGreatM43
import Derived.Test.YtdfgboafnklioaaGreatM13
set_option linter.all false
set_option maxRecDepth 100000
set_option maxHeartbeats 4000000
namespace Go.cY
open Go.Proofs
section
instance z96:cF 310 where
instance z97:cF 309 where
def Tw.vz (t:Tw)(c ln:Int)(kR:AV)(p:Int)(ma:AV)(b e:Int)(cl:AV):List AV:=t.cs++[I c,I ln,kR,I p,ma,U b,I e,cl]
inductive jv (t:Tw)(c:Int)(look:Bool)(q:Nat)(b:Int):dK→List Own→Prop
 |p {qm qc:Nat}{ma}{p bc:Int}{σ lm lc}(h:p9 t.l.e c qm σ lm)(ho:σ.over=false)(h2:gU t look qc bc .a lc):jv t c look q b (.p σ) (.obj q (.row (t.vz c 1 (.ptr qm 0) p ma b 0 (.ptr qc 0)))::(lc++lm))
 |c {qm:Nat}{kR ma}{p bi:Int}{σ lm}(h:gU t look qm bi σ lm)(ho:σ.over=false):jv t c look q b (.c σ) (.obj q (.row (t.vz c 4 kR p ma b 0 (.ptr qm 0)))::lm)
 |u {qm qc:Nat}{kR}{p key aq e bc:Int}{σ lm lc}(h:jR t.l.e c qm σ lm)(ho:σ.over=false)(h2:gU t look qc bc (.d key aq e) lc):jv t c look q b (.u σ key aq e) (.obj q (.row (t.vz c 5 kR p (.ptr qm 0) b 0 (.ptr qc 0)))::(lc++lm))
 |d {qc:Nat}{kR ma}{p key aq e bc:Int}{lc}(h2:gU t look qc bc (.d key aq e) lc):jv t c look q b (.d key aq e) (.obj q (.row (t.vz c 9 kR p ma b 0 (.ptr qc 0)))::lc)
theorem gU.row {t}{look:Bool}{q:Nat}{b:Int}{σ lo}(h:gU t look q b σ lo):∃ln a w i lv key A fd rt is er lf,lo=.obj q (.row (t.kQ look ln a w i lv key A fd rt is b er))::lf:=by
 cases h<;>exact⟨_,_,_,_,_,_,_,_,_,_,_,_,rfl⟩
section
variable{B0 S:AH}{W:List Nat}{own R lo:List Own}{ro:List aQ}{m q:Nat}{vm:AV}{x:Me}{t:Tw}{c b:Int}
theorem Dl {o1 own:List Own}(e:o1=own:=by conv=>lhs;simp only[Tw.vz,Tw.cs,Lb.cs,Ar.cs,Ep.cs,lA,lB,lC]):o1=own:=e
theorem Iq {σ:dK}(hs:t.ok)(hc:0≤c∧c<t.l.e.ah)(hx:x.gd)(ho:σ.over=false)(h:jv t c false q b σ lo)(H:Cx B0 W S (lo++(aj m vm x++R)) ro):
  aO EM (zF 190) [.ptr q 0,.ptr m 0] S fun u S'=>∃ab,eD (jv t c false q σ.cz) dK.over (σ.step t c false x) (aj m vm) R u ab∧Cx B0 W S' ab ro:=by
 have bn:=hs
 unfold Tw.ok Lb.ok Ar.ok Sk.ok Ep.ok at bn
 cases h with
 |@p qm qc ma p bc σ lm lc h hF h2=>
  refine Vx.fm H Dl (b:=Tryz.a190) ?_;(repeat' first|constructor|exact ZQ|intro _);all_goals apply zL
  refine Vx.fz (A:=_::lc) (fun B W S H=>ub hs.2.2.2.2.2.1 hx h H) fun a' x' l' e hl=>?_
  have e2:(dK.p σ).step t c false x=(if a'.over then .c .a else .p a',x'):=by
   show(_,_)=_
   rw[e]
  cases ho:a'.over
  ·(repeat' first|constructor|exact ZQ|intro _)
   all_goals apply zL
   exact aa (e2.trans (Prod.ext (if_neg (by rw[ho];simp)) rfl)) (.p hl ho h2) rfl HQ
  ·cases hl with
   |a=>cases ho
   |b=>cases ho
   |c=>cases ho
   |d hp=>
    (repeat' first|constructor|exact ZQ|intro _)
    all_goals apply zL
    exact aa (show _=(dK.c .a,x') from e2) (.c h2 rfl) rfl HQ
 |@c qm kR ma p bi σ lm h hF=>
  refine Vx.fm H Dl (b:=Tryz.a190) ?_;(repeat' first|constructor|exact ZQ|intro _);all_goals apply zL
  refine Vx.fz (A:=[_]) (fun B W S H=>Cj hs hx hF h H) fun a' x' l' e hl=>?_
  have e2:(dK.c σ).step t c false x=(dK.jL t c a',x'):=by
   show(dK.jL _ _ _,_)=_
   rw[e]
  have GA:c_.new t.l.e c=.a:=if_neg (by omega)
  obtain⟨Ip,a2,w2,i2,DO,LA,A2,Z4,Z5,XG,Z6,JI,rfl⟩:=hl.row
  simp only[Tw.kQ,Tw.cs,Lb.cs,Ar.cs,Ep.cs,lA,lB]
  cases ho:a'.over
  ·(repeat' first|constructor|exact ZQ|intro _)
   all_goals apply zL
   have e3:dK.jL t c a'=.c a':=by cases a'<;>first|rfl|cases ho
   exact aa (e2.trans (Prod.ext e3 rfl)) (.c hl ho) rfl HQ
  ·obtain⟨key,aq,er,rfl⟩:=b8.gT ho
   have e3:dK.jL t c (.d key aq er)=.u .a key aq er:=congrArg (dK.u · key aq er) GA
   (repeat' first|constructor|exact ZQ|intro _)
   all_goals apply zL
   all_goals exact aa (e2.trans (Prod.ext e3 rfl)) (.u (lm:=[_]) (.a hc) rfl hl) rfl HQ
 |@u qm qc kR p key aq er bc σ lm lc h hF h2=>
  refine Vx.fm H Dl (b:=Tryz.a190) ?_;(repeat' first|constructor|exact ZQ|intro _);all_goals apply zL
  refine Vx.fz (A:=_::lc) (fun B W S H=>lS hs.2.2.2.2.2.1 hx h H) fun a' x' l' e hl=>?_
  have e2:(dK.u σ key aq er).step t c false x=(if a'.over then .d key aq er else .u a' key aq er,x'):=by
   show(_,_)=_
   rw[e]
  cases ho:a'.over
  ·(repeat' first|constructor|exact ZQ|intro _)
   all_goals apply zL
   exact aa (e2.trans (Prod.ext (if_neg (by rw[ho];simp)) rfl)) (.u hl ho h2) rfl HQ
  ·(repeat' first|constructor|exact ZQ|intro _)
   all_goals apply zL
   exact aa (e2.trans (Prod.ext (if_pos ho) rfl)) (.d h2) rfl HQ
 |d=>cases ho
theorem Ir {σ:dK}(hs:t.ok)(hc:0≤c∧c<t.l.e.ah)(hx:x.gd)(ho:σ.over=false)(h:jv t c true q b σ lo)(H:Cx B0 W S (lo++(aj m vm x++R)) ro):
  aO EM (zF 185) [.ptr q 0,.ptr m 0] S fun u S'=>∃ab,eD (jv t c true q σ.cz) dK.over (σ.step t c true x) (aj m vm) R u ab∧Cx B0 W S' ab ro:=by
 have bn:=hs
 unfold Tw.ok Lb.ok Ar.ok Sk.ok Ep.ok at bn
 cases h with
 |@p qm qc ma p bc σ lm lc h hF h2=>
  refine Vx.fm H Dl (b:=Tryz.a185) ?_;(repeat' first|constructor|exact ZQ|intro _);all_goals apply zL
  refine Vx.fz (A:=_::lc) (fun B W S H=>ub hs.2.2.2.2.2.1 hx h H) fun a' x' l' e hl=>?_
  have e2:(dK.p σ).step t c true x=(if a'.over then .c .a else .p a',x'):=by
   show(_,_)=_
   rw[e]
  cases ho:a'.over
  ·(repeat' first|constructor|exact ZQ|intro _)
   all_goals apply zL
   exact aa (e2.trans (Prod.ext (if_neg (by rw[ho];simp)) rfl)) (.p hl ho h2) rfl HQ
  ·cases hl with
   |a=>cases ho
   |b=>cases ho
   |c=>cases ho
   |d hp=>
    (repeat' first|constructor|exact ZQ|intro _)
    all_goals apply zL
    exact aa (show _=(dK.c .a,x') from e2) (.c h2 rfl) rfl HQ
 |@c qm kR ma p bi σ lm h hF=>
  refine Vx.fm H Dl (b:=Tryz.a185) ?_;(repeat' first|constructor|exact ZQ|intro _);all_goals apply zL
  refine Vx.fz (A:=[_]) (fun B W S H=>Cj hs hx hF h H) fun a' x' l' e hl=>?_
  have e2:(dK.c σ).step t c true x=(dK.jL t c a',x'):=by
   show(dK.jL _ _ _,_)=_
   rw[e]
  have GA:c_.new t.l.e c=.a:=if_neg (by omega)
  obtain⟨Ip,a2,w2,i2,DO,LA,A2,Z4,Z5,XG,Z6,JI,rfl⟩:=hl.row
  simp only[Tw.kQ,Tw.cs,Lb.cs,Ar.cs,Ep.cs,lA,lB]
  cases ho:a'.over
  ·(repeat' first|constructor|exact ZQ|intro _)
   all_goals apply zL
   have e3:dK.jL t c a'=.c a':=by cases a'<;>first|rfl|cases ho
   exact aa (e2.trans (Prod.ext e3 rfl)) (.c hl ho) rfl HQ
  ·obtain⟨key,aq,er,rfl⟩:=b8.gT ho
   have e3:dK.jL t c (.d key aq er)=.u .a key aq er:=congrArg (dK.u · key aq er) GA
   (repeat' first|constructor|exact ZQ|intro _)
   all_goals apply zL
   all_goals exact aa (e2.trans (Prod.ext e3 rfl)) (.u (lm:=[_]) (.a hc) rfl hl) rfl HQ
 |@u qm qc kR p key aq er bc σ lm lc h hF h2=>
  refine Vx.fm H Dl (b:=Tryz.a185) ?_;(repeat' first|constructor|exact ZQ|intro _);all_goals apply zL
  refine Vx.fz (A:=_::lc) (fun B W S H=>lS hs.2.2.2.2.2.1 hx h H) fun a' x' l' e hl=>?_
  have e2:(dK.u σ key aq er).step t c true x=(if a'.over then .d key aq er else .u a' key aq er,x'):=by
   show(_,_)=_
   rw[e]
  cases ho:a'.over
  ·(repeat' first|constructor|exact ZQ|intro _)
   all_goals apply zL
   exact aa (e2.trans (Prod.ext (if_neg (by rw[ho];simp)) rfl)) (.u hl ho h2) rfl HQ
  ·(repeat' first|constructor|exact ZQ|intro _)
   all_goals apply zL
   exact aa (e2.trans (Prod.ext (if_pos ho) rfl)) (.d h2) rfl HQ
 |d=>cases ho
end
section
variable{nd hd ht c3 c4 n c6 c7 c8 c9 dz cT dx c key aq high:Int}
instance Qv:VC EM (zF 336) [.agg [I nd,I hd,I ht,I c3,I c4,I n,I c6,I c7,I c8,I c9,I dz,I cT,I dx],I c] (((0≤nd∧nd<4096)∧(0≤hd∧hd<4096)∧(1≤ht∧ht≤4)∧1≤n∧n≤128)∧0≤c∧c<cT) (I 0):=.of rfl rfl fun⟨h,hc⟩=>by
 show Zx EM false (Tryz.a336 _) _ _ _ _
 (repeat' first|constructor|exact ZQ|intro _)
 all_goals apply zL
instance z98:cF 337 where
instance Sv:NC EM (zF 213) [.agg [I nd,I hd,I ht,I c3,I c4,I n,I c6,I c7,I c8,I c9,I dz,I cT,I dx],I c,U key,I aq,I high] (((0≤nd∧nd<4096)∧(0≤hd∧hd<4096)∧(1≤ht∧ht≤4)∧1≤n∧n≤128)∧(0≤c∧c<cT)∧(0≤key∧key<18446744073709551615)∧(0≤aq∧aq≤65534)∧1≤high∧high≤ht)
  (fun q l=>gz ⟨nd,hd,ht,⟨⟨⟨c3,c4,n⟩,c6,c7,c8⟩,⟨c9,dz,cT⟩,dx⟩⟩ c key aq high q 0 (.p .a 0) l):=.of rfl rfl fun⟨h,hc,hk,hj,hh⟩ ro R=>by
 show Zx EM false (Tryz.a213 _) _ _ _ _
 (repeat' first|constructor|exact ZQ|intro _)
 all_goals apply zL
 all_goals first|exact⟨h,hc⟩|skip
 exact⟨rfl,rfl,(_::_::R),⟨_,_,gz.p (n:=0) (lm:=[_]) (by omega) (.inl rfl) (.a hc) rfl,rfl,rfl⟩,HQ⟩
instance VQ:NC EM (zF 350) [.agg [I nd,I hd,I ht,I c3,I c4,I n,I c6,I c7,I c8,I c9,I dz,I cT,I dx],I c] (((0≤nd∧nd<4096)∧(0≤hd∧hd<4096)∧(1≤ht∧ht≤4)∧1≤n∧n≤128)∧0≤c∧c<cT)
  (fun q l=>jv ⟨nd,hd,ht,⟨⟨⟨c3,c4,n⟩,c6,c7,c8⟩,⟨c9,dz,cT⟩,dx⟩⟩ c false q 0 (.p .a) l):=.of rfl rfl fun⟨h,hc⟩ ro R=>by
 show Zx EM false (Tryz.a350 _) _ _ _ _
 (repeat' first|constructor|exact ZQ|intro _)
 all_goals apply zL
 all_goals first|exact⟨h,hc⟩|skip
 next a b p l hp q=>exact⟨rfl,rfl,_,⟨_,_,jv.p (lm:=[_]) (.a hc) rfl hp,rfl,rfl⟩,by simp only[lA,lC,lB];exact HQ⟩
instance VR:NC EM (zF 442) [.agg [I nd,I hd,I ht,I c3,I c4,I n,I c6,I c7,I c8,I c9,I dz,I cT,I dx],I c] (((0≤nd∧nd<4096)∧(0≤hd∧hd<4096)∧(1≤ht∧ht≤4)∧1≤n∧n≤128)∧0≤c∧c<cT)
  (fun q l=>jv ⟨nd,hd,ht,⟨⟨⟨c3,c4,n⟩,c6,c7,c8⟩,⟨c9,dz,cT⟩,dx⟩⟩ c true q 0 (.p .a) l):=.of rfl rfl fun⟨h,hc⟩ ro R=>by
 show Zx EM false (Tryz.a442 _) _ _ _ _
 (repeat' first|constructor|exact ZQ|intro _)
 all_goals apply zL
 all_goals first|exact⟨h,hc⟩|skip
 next a b p l hp q=>exact⟨rfl,rfl,_,⟨_,_,jv.p (lm:=[_]) (.a hc) rfl hp,rfl,rfl⟩,by simp only[lA,lC,lB];exact HQ⟩
end
end
section
instance z99 {n:Nat}[Mn n [168,291,170,180,324,203,206]]:cF n where
inductive lV (r:Rn)(v:Int)(q:Nat):dj→List Own→Prop
 |s {qm:Nat}{σ lm}(h:fM r v qm σ lm)(ho:σ.over=false):lV r v q σ (.obj q (.row [.ptr qm 0,B false,I 0])::lm)
 |d {e:Int}{pp}:lV r v q (.d e) [.obj q (.row [pp,B true,I e])]
section
variable{B0 S:AH}{W:List Nat}{own R lo:List Own}{ro:List aQ}{m q:Nat}{vm:AV}{x:Me}{r:Rn}{v:Int}
theorem Dm {σ}(hs:r.ok)(hx:x.gd)(h:lV r v q σ lo)(H:Cx B0 W S (lo++(aj m vm x++R)) ro):
  aO EM (zF 205) [.ptr q 0,.ptr m 0] S fun u S'=>∃ab,eD (lV r v q) dj.over (σ.step r v x) (aj m vm) R u ab∧Cx B0 W S' ab ro:=by
 cases h with
 |@s qm σ lm h hF=>
  refine Vx.fm H bC (b:=Tryz.a205) ?_;(repeat' first|constructor|exact ZQ|intro _);all_goals apply zL
  refine Vx.fz (A:=[_]) (fun B W S H=>A1 hs hx h H) fun a' x' l' e hl=>?_
  cases ho:a'.over
  ·(repeat' first|constructor|exact ZQ|intro _)
   all_goals apply zL
   exact aa e (.s hl ho) ho HQ
  ·cases hl with
   |d=>
    (repeat' first|constructor|exact ZQ|intro _)
    all_goals apply zL
    exact aa e .d rfl HQ
   |_=>cases ho
 |d=>
  refine Vx.fm H bC (b:=Tryz.a205) ?_;(repeat' first|constructor|exact ZQ|intro _);all_goals apply zL
  exact aa rfl .d rfl HQ
end
instance Z7 {n:Nat}[Mn n [171,93,187]]:cF n where
def Ck (l:List Int):Int:=l[(bL l l.length).toNat]?.getD 0
instance VS {R0 v l}{key:Int}:SC EM (zF 189) [v,U key] (.sl v 1 (bu l)::R0) (l≠[]∧l.length≤64) (.cP [I (if Ck l≤key then-1 else bL l l.length),B (decide (¬Ck l≤key))]) (.sl v 1 (bu l)::R0):=.of rfl rfl fun⟨h0,hl⟩ ro R=>by
 have hu:Int.ofNat (bu l).length=(l.length:Int):=congrArg Int.ofNat (dU l)
 have n0:∀a b:AV,nth [a,b] 0=a:=fun _ _=>rfl
 have n1:∀a b:AV,nth [a,b] 1=b:=fun _ _=>rfl
 have hp:0<l.length:=by cases l with|nil=>exact absurd rfl h0|cons a m=>simp
 show Zx EM false (Tryz.a189 _) _ _ _ _
 rw[Tryz.u189]
 simp only[lA,lB,n0,n1]
 (repeat' first|constructor|exact ZQ|intro _)
 all_goals apply zL
 refine Vx.K_ l.length (fun i=>[I (i:Int),I (bL l i)]) ?_ ?_
 ·intro i hi hn
  have hb:=fZ (l:=l) i
  have e1:((i+1:Nat):Int)=(i:Int)+1:=by omega
  have e2:bL l (i+1)=if bL l i<0∨l[(bL l i).toNat]?.getD 0<l[i]?.getD 0 then(i:Int) else bL l i:=rfl
  simp only[e1,e2] at hn
  have ei:(Int.toNat (i:Int))=i:=Int.toNat_natCast i
  show Zx EM false ((fun vs=>_) [I (i:Int),I (bL l i)]) _ _ _ _
  clear e1 e2
  generalize hz:(i:Int)=z at*
  rw[←ei] at hn
  (repeat' first|constructor|exact ZQ|intro _)
  all_goals apply zL
  ·next h1 h2=>exact Vx.cb HQ (by rw[if_pos (.inl (by rw[ei];exact h2))] at hn;exact hn)
  next h1 h2=>
  refine Vx.C9 (by omega) ?_
  (repeat' first|constructor|exact ZQ|intro _)
  all_goals apply zL
  refine Vx.C9 (by omega) ?_
  (repeat' first|constructor|exact ZQ|intro _)
  all_goals apply zL
  all_goals simp only[ei] at*
  all_goals first
   |(rw[if_neg (by omega)] at hn;exact Vx.cb HQ hn)
   |(rw[if_pos (.inr (by omega))] at hn;exact Vx.cb HQ hn)
 ·have hb:=fZ (l:=l) l.length
  (repeat' first|constructor|exact ZQ|intro _)
  all_goals apply zL
  all_goals(try rw[hu] at*)
  all_goals first
   |(exfalso;omega)
   |skip
  refine Vx.C9 (by omega) ?_
  (repeat' first|constructor|exact ZQ|intro _)
  all_goals apply zL
  ·next h=>exact⟨rfl,rfl,_,⟨by show _=AV.cP [I (if l[(bL l l.length).toNat]?.getD 0≤key then _ else _),B (decide (¬l[(bL l l.length).toNat]?.getD 0≤key))];rw[if_pos h,decide_eq_false (fun q=>q h)];rfl,rfl⟩,.rfl'⟩
  ·next h=>exact⟨rfl,rfl,_,⟨by show _=AV.cP [I (if l[(bL l l.length).toNat]?.getD 0≤key then _ else _),B (decide (¬l[(bL l l.length).toNat]?.getD 0≤key))];rw[if_neg h,decide_eq_true h];rfl,rfl⟩,.rfl'⟩
theorem qd {l}(h:l≠[]):Ck l=l[cW l]?.getD 0:=by
 unfold Ck
 rw[←m9 h,Int.toNat_natCast]
def Rs.cH (r:Rs)(look:AV)(ln key:Int)(L:AV)(flag b e:Int):List AV:=[I r.runs,I r.flags,I r.ah,look,I ln,U key,L,I flag,U b,I e]
inductive iG (t:Tw)(r:Rs)(c:Int)(q:Nat)(b:Int):cI→List Own→Prop
 |k {ql:Nat}{bi:Int}{σ lk}(h:jv t c true ql bi σ lk)(ho:σ.over=false):iG t r c q b (.k σ) (.obj q (.row (r.cH (.ptr ql 0) 0 0 Ns (-1) b 0))::lk)
 |r0 {key:Int}{look}:iG t r c q b (.r key []) [.obj q (.row (r.cH look 1 key Ns (-1) b 0))]
 |r1 {key:Int}{look l v L}(h0:l≠[])(hl:(l.length:Int)<r.ah)(hL:L=bu l)(hv:AV.beq v v=true):iG t r c q b (.r key l) [.obj q (.row (r.cH look 1 key v (-1) b 0)),.sl v 1 L]
 |f {key w:Int}{look v}(hw:0≤w∧w<r.ah):iG t r c q b (.f w) [.obj q (.row (r.cH look 2 key v w b 0))]
 |d {key flag e:Int}{look v}:iG t r c q b (.d e) [.obj q (.row (r.cH look 9 key v flag b e))]
theorem jv.row {t}{c:Int}{look:Bool}{q:Nat}{b:Int}{σ lo}(h:jv t c look q b σ lo):∃ln kR p ma cl lf,lo=.obj q (.row (t.vz c ln kR p ma b 0 cl))::lf:=by
 cases h<;>exact⟨_,_,_,_,_,_,rfl⟩
section
variable{B0 S:AH}{W:List Nat}{own R lo:List Own}{ro:List aQ}{m q:Nat}{vm:AV}{x:Me}{t:Tw}{r:Rs}{c b:Int}
theorem Is {o1 own:List Own}(e:o1=own:=by conv=>lhs;simp only[Rs.cH,lA,lB,lC]):o1=own:=e
theorem GB {σ:cI}(hs:t.ok)(hr:r.ok)(hc:0≤c∧c<t.l.e.ah)(hx:x.gd)(ho:σ.over=false)(h:iG t r c q b σ lo)(H:Cx B0 W S (lo++(aj m vm x++R)) ro):
  aO EM (zF 92) [.ptr q 0,.ptr m 0] S fun u S'=>∃ab,eD (iG t r c q σ.cz) cI.over (σ.step t r c x) (aj m vm) R u ab∧Cx B0 W S' ab ro:=by
 have ox:=hr
 unfold Rs.ok at ox
 haveI:di:=⟨⟩
 cases h with
 |@k ql bi σ lk h hF=>
  refine Vx.fm H Is (b:=Tryz.a92) ?_;(repeat' first|constructor|exact ZQ|intro _);all_goals apply zL
  refine Vx.fz (A:=[_]) (fun B W S H=>Ir hs hc hx hF h H) fun a' x' l' e hl=>?_
  have e2:(cI.k σ).step t r c x=(cI.jL a',x'):=by
   show(cI.jL _,_)=_
   rw[e]
  by_cases ho:a'.over=true
  ·obtain⟨key,aq,er,rfl⟩:=dK.gT ho
   cases hl with
   |@d qc kR ma p key aq e0 bc lc h2=>
    cases h2 with
    |d=>
    simp only[Tw.vz,Tw.kQ,Tw.cs,Lb.cs,Ar.cs,Ep.cs,lA,lB]
    (repeat' first|constructor|exact ZQ|intro _)
    all_goals apply zL
    ·have e3:cI.jL (.d key aq er)=.d er:=by show(if er=0 then _ else if er=15 then _ else _)=_;rw[if_neg (by omega),if_neg (by omega)]
     exact aa (e2.trans (Prod.ext e3 rfl)) .d rfl HQ
    ·have e3:cI.jL (.d key aq er)=.d 0:=by show(if er=0 then _ else if er=15 then _ else _)=_;rw[if_neg (by omega),if_pos (by omega)]
     exact aa (e2.trans (Prod.ext e3 rfl)) .d rfl HQ
    ·have e3:cI.jL (.d key aq er)=.r key []:=by show(if er=0 then _ else if er=15 then _ else _)=_;rw[if_pos (by omega)]
     exact aa (e2.trans (Prod.ext e3 rfl)) .r0 rfl HQ
  ·rw[Bool.not_eq_true] at ho
   obtain⟨Ip,LB,p2,LC,na,JI,rfl⟩:=hl.row
   simp only[Tw.vz,Tw.cs,Lb.cs,Ar.cs,Ep.cs,lA,lB]
   rw[ho]
   (repeat' first|constructor|exact ZQ|intro _)
   all_goals apply zL
   have e3:(cI.k σ).step t r c x=(.k a',x'):=e2.trans (Prod.ext (by cases a'<;>first|rfl|cases ho) rfl)
   exact aa e3 (.k hl ho) rfl HQ
 |@r0 key look=>
  have hw:=Me.ai hx r.runs
  refine Vx.fm H Is (b:=Tryz.a92) ?_;(repeat' first|constructor|exact ZQ|intro _);all_goals apply zL
  ·next h1=>
   have Aa:(0:Int)+1=r.ah:=by simpa[bu] using h1
   rw[show List.map (fun a=>[a]) [Z IntKind.u64 (x.word (r.runs+0))]=bu [x.word (r.runs+0)] from rfl]
   have fQ:[x.word (r.runs+0)]≠[]:=by simp
   have H5:=m9 fQ
   have hb:=fZ (l:=[x.word (r.runs+0)]) ([x.word (r.runs+0)]).length
   have JB:([x.word (r.runs+0)]).length=1:=by simp
   refine Zx.ok (n:=false) ?_
   (repeat' first|constructor|exact ZQ|intro _)
   all_goals apply zL
   all_goals first|exact⟨fQ,by omega⟩|skip
   ·next h=>
    have e3:(cI.r key []).step t r c x=(.f (cW ([x.word (r.runs+0)])),x.ld (r.runs+0)):=by
     show(if(0:Int)+1=r.ah then(if([x.word (r.runs+0)])[cW ([x.word (r.runs+0)])]?.getD 0≤key then cI.d 0 else .f (cW ([x.word (r.runs+0)]))) else _,x.ld (r.runs+0))=_
     rw[if_pos Aa,if_neg (by rw[←qd fQ];exact h)]
    rw[if_neg h,←H5]
    exact aa e3 (.f (by omega)) rfl HQ
   ·next h=>
    have e3:(cI.r key []).step t r c x=(.d 0,x.ld (r.runs+0)):=by
     show(if(0:Int)+1=r.ah then(if([x.word (r.runs+0)])[cW ([x.word (r.runs+0)])]?.getD 0≤key then cI.d 0 else .f (cW ([x.word (r.runs+0)]))) else _,x.ld (r.runs+0))=_
     rw[if_pos Aa,if_pos (by rw[←qd fQ];exact Decidable.not_not.1 h)]
    exact aa e3 .d rfl HQ
  ·next h1=>
   have Aa:¬(0:Int)+1=r.ah:=by simpa[bu] using h1
   have e3:(cI.r key []).step t r c x=(.r key ([x.word (r.runs+0)]),x.ld (r.runs+0)):=by
    show(if(0:Int)+1=r.ah then _ else cI.r key ([x.word (r.runs+0)]),x.ld (r.runs+0))=_
    rw[if_neg Aa]
   rw[show List.map (fun a=>[a]) [Z IntKind.u64 (x.word (r.runs+0))]=bu [x.word (r.runs+0)] from rfl]
   exact aa e3 (.r1 (by simp) (by simp;omega) rfl (by assumption)) rfl HQ
 |@r1 key look l v L h0 hl hL hv=>
  subst hL
  have hw:=Me.ai hx (r.runs+l.length)
  have U4:=dU l
  have hu:Int.ofNat (bu l).length=(l.length:Int):=congrArg Int.ofNat (dU l)
  refine Vx.fm H Is (b:=Tryz.a92) ?_;(repeat' first|constructor|exact ZQ|intro _);all_goals apply zL
  all_goals(try rw[hu] at*)
  ·rw[U4];simp;omega
  ·next h1=>
   have Aa:(l.length:Int)+1=r.ah:=by simpa[bu] using h1
   rw[show bu l++List.map (fun a=>[a]) [Z IntKind.u64 (x.word (r.runs+l.length))]=bu (l++[x.word (r.runs+l.length)]) from by simp[bu]]
   have fQ:l++[x.word (r.runs+l.length)]≠[]:=by simp
   have H5:=m9 fQ
   have hb:=fZ (l:=l++[x.word (r.runs+l.length)]) (l++[x.word (r.runs+l.length)]).length
   have JB:(l++[x.word (r.runs+l.length)]).length=l.length+1:=by simp
   refine Zx.ok (n:=false) ?_
   (repeat' first|constructor|exact ZQ|intro _)
   all_goals apply zL
   all_goals first|exact⟨fQ,by omega⟩|skip
   ·next h=>
    have e3:(cI.r key l).step t r c x=(.f (cW (l++[x.word (r.runs+l.length)])),x.ld (r.runs+l.length)):=by
     show(if(l.length:Int)+1=r.ah then(if(l++[x.word (r.runs+l.length)])[cW (l++[x.word (r.runs+l.length)])]?.getD 0≤key then cI.d 0 else .f (cW (l++[x.word (r.runs+l.length)]))) else _,x.ld (r.runs+l.length))=_
     rw[if_pos Aa,if_neg (by rw[←qd fQ];exact h)]
    rw[if_neg h,←H5]
    exact aa e3 (.f (by omega)) rfl HQ
   ·next h=>
    have e3:(cI.r key l).step t r c x=(.d 0,x.ld (r.runs+l.length)):=by
     show(if(l.length:Int)+1=r.ah then(if(l++[x.word (r.runs+l.length)])[cW (l++[x.word (r.runs+l.length)])]?.getD 0≤key then cI.d 0 else .f (cW (l++[x.word (r.runs+l.length)]))) else _,x.ld (r.runs+l.length))=_
     rw[if_pos Aa,if_pos (by rw[←qd fQ];exact Decidable.not_not.1 h)]
    exact aa e3 .d rfl HQ
  ·next h1=>
   have Aa:¬(l.length:Int)+1=r.ah:=by simpa[bu] using h1
   have e3:(cI.r key l).step t r c x=(.r key (l++[x.word (r.runs+l.length)]),x.ld (r.runs+l.length)):=by
    show(if(l.length:Int)+1=r.ah then _ else cI.r key (l++[x.word (r.runs+l.length)]),x.ld (r.runs+l.length))=_
    rw[if_neg Aa]
   rw[show bu l++List.map (fun a=>[a]) [Z IntKind.u64 (x.word (r.runs+l.length))]=bu (l++[x.word (r.runs+l.length)]) from by simp[bu]]
   exact aa e3 (.r1 (by simp) (by simp;omega) rfl (by assumption)) rfl HQ
 |@f key w look v hw=>
  refine Vx.fm H Is (b:=Tryz.a92) ?_;(repeat' first|constructor|exact ZQ|intro _);all_goals apply zL
  exact aa rfl .d rfl HQ
 |d=>cases ho
end
section
variable{nd hd ht c3 c4 n c6 c7 c8 c9 dz cT dx rr rf rc c m0 mc mr v:Int}
instance Sw:NC EM (zF 318) [.agg [I nd,I hd,I ht,I c3,I c4,I n,I c6,I c7,I c8,I c9,I dz,I cT,I dx],.agg [I rr,I rf,I rc],I c] (((0≤nd∧nd<4096)∧(0≤hd∧hd<4096)∧(1≤ht∧ht≤4)∧1≤n∧n≤128)∧(0≤c∧c<cT)∧1≤rc∧rc≤64)
  (fun q l=>iG ⟨nd,hd,ht,⟨⟨⟨c3,c4,n⟩,c6,c7,c8⟩,⟨c9,dz,cT⟩,dx⟩⟩ ⟨rr,rf,rc⟩ c q 0 (.k (.p .a)) l):=.of rfl rfl fun⟨h,hc,hr⟩ ro R=>by
 show Zx EM false (Tryz.a318 _) _ _ _ _
 (repeat' first|constructor|exact ZQ|intro _)
 all_goals apply zL
 all_goals first|exact⟨h,hc⟩|skip
 next a b p l hp q=>exact⟨rfl,rfl,_,⟨_,_,iG.k hp rfl,rfl,rfl⟩,by simp only[lA,lC,lB];exact HQ⟩
instance NA {r0 r1 r2 r3:Int}:NC EM (zF 325) [.agg [I r0,I r1,I r2,I r3],I v] ((1≤r3∧r3≤4096)∧0≤v∧v<65536)
  (fun q l=>fM ⟨r0,r1,r2,r3⟩ v q .a l):=.of rfl rfl fun⟨h,hv⟩ ro R=>by
 show Zx EM false (Tryz.a325 _) _ _ _ _
 (repeat' first|constructor|exact ZQ|intro _)
 all_goals apply zL
 exact⟨rfl,rfl,(_::R),⟨_,_,fM.a hv,rfl,rfl⟩,HQ⟩
instance Qw:NC EM (zF 203) [.agg [I m0,I mc,I mr],I c,I v] (((0≤m0∧m0<4096)∧(1≤mc∧mc≤64)∧1≤mr∧mr≤16)∧(0≤c∧c<mc)∧0≤v∧v<65536)
  (fun q l=>lV ⟨m0+c*(mr+2),m0+c*(mr+2)+1,m0+c*(mr+2)+2,mr⟩ v q .a l):=.of rfl rfl fun⟨h,hc,hv⟩ ro R=>by
 have e1:c*(mr+2)≤63*(mr+2):=Int.mul_le_mul_of_nonneg_right (by omega) (by omega)
 have e2:0≤c*(mr+2):=Int.mul_nonneg hc.1 (by omega)
 show Zx EM false (Tryz.a203 _) _ _ _ _
 (repeat' first|constructor|exact ZQ|intro _)
 all_goals apply zL
 next p l hp q=>exact⟨rfl,rfl,_,⟨_,_,lV.s hp rfl,rfl,rfl⟩,by simp only[lA,lC,lB];exact HQ⟩
end
end
end Go.cY
