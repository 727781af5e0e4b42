/- Contracts of functions, over the abstract machine. Conditions: stated in each theorem. -/
import Derived.Test.YtdfgboafnklioaaGreatM12
set_option linter.all false
set_option maxRecDepth 100000
set_option maxHeartbeats 4000000
namespace Go.cY
open Go.Proofs
section
instance z35:cF 500 where
theorem b8.gT {σ:b8}(h:σ.over=true):∃key aq e,σ=.d key aq e:=by cases σ<;>first|exact⟨_,_,_,rfl⟩|cases h
theorem b8.xE {t:Tw}{look:Bool}{x:Me}{σ:b8}{key aq e:Int}(ho:σ.over=false)(h:(σ.step t look x).1=.d key aq e):e=0∨key=0∧aq=0∧e=15:=by
 have hb:∀{A i:Int} {l:Nat},b8.below A i l≠.d key aq e:=fun h=>by unfold b8.below at h;split at h<;>cases h
 cases σ<;>simp only[b8.step] at h
 all_goals first|(cases ho;done)|(cases h;done)|(exact(hb h).elim)|skip
 all_goals(split at h<;>first|(cases h;done)|(cases h;first|exact .inl rfl|exact .inr ⟨rfl,rfl,rfl⟩)|(exact(hb h).elim)|skip)
 all_goals(split at h<;>first|(cases h;done)|(cases h;first|exact .inl rfl|exact .inr ⟨rfl,rfl,rfl⟩)|(exact(hb h).elim))
def Tw.jj (t:Tw)(c p:Int)(parts:AV)(cz er key aq e:Int):List AV:=t.qI c p parts cz er++[U key,I aq,I e]
section
variable{nd hd ht c3 c4 n c6 c7 c8 c9 dz cT dx c key aq high:Int}
instance U1:NC EM (zF 405) [.agg [I nd,I hd,I ht,I c3,I c4,I n,I c6,I c7,I c8,I c9,I dz,I cT,I dx],I c,U key,I aq,I high] (((0≤nd∧nd<4096)∧(0≤hd∧hd<4096)∧(1≤ht∧ht≤4)∧1≤n∧n≤128)∧(0≤c∧c<cT)∧(0≤key∧key<18446744073709551615)∧(0≤aq∧aq≤65534)∧1≤high∧high≤ht)
  (fun q l=>ic ⟨nd,hd,ht,⟨⟨⟨c3,c4,n⟩,c6,c7,c8⟩,⟨c9,dz,cT⟩,dx⟩⟩ c key aq high q 0 (.p .a 0) l):=.of rfl rfl fun h ro R=>by
 obtain⟨h0,hc,hk,hj,hh⟩:=h
 have Xw:0≤oX nd ht 0 0:=by unfold oX;omega
 haveI:aS:=⟨⟩
 haveI:di:=⟨⟩
 show Zx EM false (Tryz.a405 _) _ _ _ _
 (repeat' first|constructor|exact ZQ|intro _)
 all_goals apply zL
 exact⟨rfl,rfl,(_::_::_::_::_::_::R),⟨_,_,ic.p0 (by omega),rfl,rfl⟩,HQ⟩
end
instance z36 {n:Nat}[Mn n [511,514,515,573]]:cF n where
def tT (p:Nat):AV:=.iface 598 (.ptr p 0)
def tU (t:Tw)(q p vt vx:Nat)(now:AV)(made:Bool):List Own:=[.obj p (.row [.fn (.func 511) [] [.ptr vt 0],.fn (.func 513) [] [],.fn (.func 514) [] [.ptr vx 0],now,B made]),.obj vt (.row t.cs),.obj vx (.row [.ptr q 0])]
inductive zd (t:Tw)(c:Int)(q:Nat)(b:Int):dK→List Own→Prop
 |p0 {p1 v1 p2 vt vx p3 v3:Nat}{vp}{p:Int}:zd t c q b (.p .a) (.obj q (.row (t.jj c p vp b 0 0 0 0))::.sl vp 1 [[oQ p1],[tT p2],[gS p3]]::(oP q p1 v1 Np false++tU t q p2 vt vx Np false++gR q p3 v3 Np false))
 |p1 {p1 v1 p2 vt vx p3 v3 qm:Nat}{vp}{p:Int}{σ lm}(h:vj t.l.e c qm σ lm)(ho:σ.over=false):zd t c q b (.p σ) (.obj q (.row (t.jj c p vp b 0 0 0 0))::.sl vp 1 [[oQ p1],[tT p2],[gS p3]]::(oP q p1 v1 (.ptr qm 0) true++tU t q p2 vt vx Np false++gR q p3 v3 Np false++lm))
 |c0 {p2 vt vx p3 v3:Nat}{vp}{p:Int}:zd t c q b (.c .a) (.obj q (.row (t.jj c p vp b 0 0 0 0))::.sl vp 1 [[tT p2],[gS p3]]::(tU t q p2 vt vx Np false++gR q p3 v3 Np false))
 |c1 {p2 vt vx p3 v3 qm:Nat}{vp}{p bi:Int}{σ lm}(h:uF t qm bi σ lm)(ho:σ.over=false):zd t c q b (.c σ) (.obj q (.row (t.jj c p vp b 0 0 0 0))::.sl vp 1 [[tT p2],[gS p3]]::(tU t q p2 vt vx (.ptr qm 0) true++gR q p3 v3 Np false++lm))
 |u0 {p3 v3:Nat}{vp}{p key aq e:Int}:zd t c q b (.u .a key aq e) (.obj q (.row (t.jj c p vp b 0 key aq e))::.sl vp 1 [[gS p3]]::(gR q p3 v3 Np false))
 |u1 {p3 v3 qm:Nat}{vp}{p key aq e:Int}{σ lm}(h:lM t.l.e c qm σ lm)(ho:σ.over=false):zd t c q b (.u σ key aq e) (.obj q (.row (t.jj c p vp b 0 key aq e))::.sl vp 1 [[gS p3]]::(gR q p3 v3 (.ptr qm 0) true++lm))
 |d {vp}{p key aq e:Int}:zd t c q b (.d key aq e) [.obj q (.row (t.jj c p vp b 0 key aq e)),.sl vp 1 []]
theorem uF.row {t}{q:Nat}{b:Int}{σ lo}(h:uF t q b σ lo)(ho:σ.over=false):∃lv AN fd rt line a i w key A er lf,lo=.obj q (.row (t.jh lv AN fd rt line a i w key A b er))::lf:=by
 cases h<;>first|(cases ho;done)|exact⟨_,_,_,_,_,_,_,_,_,_,_,_,rfl⟩
section
variable{B0 S:AH}{W:List Nat}{own R lo:List Own}{ro:List aQ}{m bl q:Nat}{x:Me}{rest:List AV}{t:Tw}{c b:Int}
theorem Nw {o1 own:List Own}(e:o1=own:=by conv=>lhs;simp only[Tw.jj,Tw.qI,Tw.cs,Lb.cs,Ar.cs,Ep.cs,oQ,gS,tT,oP,gR,tU,m8,lA,lB,lC]):o1=own:=e
theorem ze {σ:dK}(hs:t.ok)(hc:0≤c∧c<t.l.e.ah)(hx:x.gd)(ho:σ.over=false)(h:zd t c q b σ lo)(H:Cx B0 W S (lo++(ad m bl x rest++R)) ro):
  aO EM (zF 719) [.ptr q 0,.ptr m 0] S fun u S'=>∃ab,eD (zd t c q σ.cz) dK.over (σ.step t c false x) (ad m bl · rest) R u ab∧Cx B0 W S' ab ro:=by
 have bn:=hs
 unfold Tw.ok Lb.ok Ar.ok Sk.ok Ep.ok at bn
 haveI:aS:=⟨⟩
 haveI:di:=⟨⟩
 cases h with
 |@p0 p1 v1 p2 vt vx p3 v3 vp p=>
  refine Vx.fm H Nw (b:=Tryz.a719) ?_;(repeat' first|constructor|exact ZQ|intro _);all_goals apply zL
  refine Vx.cb (own:=[.obj q _,.sl _ 1 _,.obj p1 _,.obj v1 _,.obj p2 _,.obj vt _,.obj vx _,.obj p3 _,.obj v3 _]++([.obj _ (.row (t.l.e.ga _ c 0 _))]++(ad m bl x rest++R))) HQ ?_
  refine Vx.cf (A:=[_,_,_,_,_,_,_,_,_]) (fun B W S H=>nD hs.2.2.2.2.2.1 hx (.a hc) H) fun a' x' l' e hl=>?_
  have e2:(dK.p .a).step t c false x=(if a'.over then .c .a else .p a',x'):=by
   show(_,_)=_
   rw[e]
  cases ho:a'.over
  ·(repeat' first|constructor|exact ZQ|intro _)
   all_goals apply zL
   exact aa (e2.trans (Prod.ext (if_neg (by rw[ho];simp)) rfl)) (.p1 hl ho) rfl HQ
  ·cases hl with
   |a=>cases ho
   |b=>cases ho
   |c=>cases ho
   |d hp=>
    (repeat' first|constructor|exact ZQ|intro _)
    all_goals apply zL
    exact aa e2 .c0 rfl HQ
 |@p1 p1 v1 p2 vt vx p3 v3 qm vp p σ lm h hF=>
  refine Vx.fm H Nw (b:=Tryz.a719) ?_;(repeat' first|constructor|exact ZQ|intro _);all_goals apply zL
  refine Vx.cf (A:=[_,_,_,_,_,_,_,_,_]) (fun B W S H=>nD hs.2.2.2.2.2.1 hx h H) fun a' x' l' e hl=>?_
  have e2:(dK.p σ).step t c false x=(if a'.over then .c .a else .p a',x'):=by
   show(_,_)=_
   rw[e]
  cases ho:a'.over
  ·(repeat' first|constructor|exact ZQ|intro _)
   all_goals apply zL
   exact aa (e2.trans (Prod.ext (if_neg (by rw[ho];simp)) rfl)) (.p1 hl ho) rfl HQ
  ·cases hl with
   |a=>cases ho
   |b=>cases ho
   |c=>cases ho
   |d hp=>
    (repeat' first|constructor|exact ZQ|intro _)
    all_goals apply zL
    exact aa e2 .c0 rfl HQ
 |@c0 p2 vt vx p3 v3 vp p=>
  refine Vx.fm H Nw (b:=Tryz.a719) ?_;(repeat' first|constructor|exact ZQ|intro _);all_goals apply zL
  rename_i qL lL hL
  refine Vx.cb (own:=[.obj q _,.sl _ 1 _,.obj p2 _,.obj vt _,.obj vx _,.obj p3 _,.obj v3 _]++(lL++(ad m bl x rest++R))) HQ ?_
  refine Vx.cf (A:=[_,_,_,_,_,_,_]) (fun B W S H=>F4 hs hx rfl hL H) fun a' x' l' e hl=>?_
  have e2:(dK.c .a).step t c false x=(dK.jL t c a',x'):=by
   show(dK.jL _ _ _,_)=_
   rw[e]
  by_cases ho:a'.over=true
  ·obtain⟨key,aq,er,rfl⟩:=b8.gT ho
   have h3:=b8.xE rfl (congrArg Prod.fst e)
   cases hl with
   |d=>
    have e3:dK.jL t c (.d key aq er)=.u .a key aq er:=congrArg (dK.u · key aq er) (if_neg (by omega))
    rcases h3 with rfl|⟨rfl,rfl,rfl⟩
    ·(repeat' first|constructor|exact ZQ|intro _)
     all_goals apply zL
     all_goals exact aa (e2.trans (Prod.ext e3 rfl)) .u0 rfl HQ
    ·(repeat' first|constructor|exact ZQ|intro _)
     all_goals apply zL
     all_goals exact aa (e2.trans (Prod.ext e3 rfl)) .u0 rfl HQ
  ·rw[Bool.not_eq_true] at ho
   obtain⟨lv,AN,fd,rt,line,a,i,w,key,A,er,lf,rfl⟩:=hl.row ho
   rw[ho]
   (repeat' first|constructor|exact ZQ|intro _)
   all_goals apply zL
   have e3:(dK.c .a).step t c false x=(.c a',x'):=e2.trans (Prod.ext (by cases a'<;>first|rfl|cases ho) rfl)
   exact aa e3 (.c1 hl ho) rfl HQ
 |@c1 p2 vt vx p3 v3 qm vp p bi σ lm h hF=>
  refine Vx.fm H Nw (b:=Tryz.a719) ?_;(repeat' first|constructor|exact ZQ|intro _);all_goals apply zL
  refine Vx.cf (A:=[_,_,_,_,_,_,_]) (fun B W S H=>F4 hs hx hF h H) fun a' x' l' e hl=>?_
  have e2:(dK.c σ).step t c false x=(dK.jL t c a',x'):=by
   show(dK.jL _ _ _,_)=_
   rw[e]
  by_cases ho:a'.over=true
  ·obtain⟨key,aq,er,rfl⟩:=b8.gT ho
   have h3:=b8.xE hF (congrArg Prod.fst e)
   cases hl with
   |d=>
    have e3:dK.jL t c (.d key aq er)=.u .a key aq er:=congrArg (dK.u · key aq er) (if_neg (by omega))
    rcases h3 with rfl|⟨rfl,rfl,rfl⟩
    ·(repeat' first|constructor|exact ZQ|intro _)
     all_goals apply zL
     all_goals exact aa (e2.trans (Prod.ext e3 rfl)) .u0 rfl HQ
    ·(repeat' first|constructor|exact ZQ|intro _)
     all_goals apply zL
     all_goals exact aa (e2.trans (Prod.ext e3 rfl)) .u0 rfl HQ
  ·rw[Bool.not_eq_true] at ho
   obtain⟨lv,AN,fd,rt,line,a,i,w,key,A,er,lf,rfl⟩:=hl.row ho
   rw[ho]
   (repeat' first|constructor|exact ZQ|intro _)
   all_goals apply zL
   have e3:(dK.c σ).step t c false x=(.c a',x'):=e2.trans (Prod.ext (by cases a'<;>first|rfl|cases ho) rfl)
   exact aa e3 (.c1 hl ho) rfl HQ
 |@u0 p3 v3 vp p key aq er=>
  refine Vx.fm H Nw (b:=Tryz.a719) ?_;(repeat' first|constructor|exact ZQ|intro _);all_goals apply zL
  refine Vx.cb (own:=[.obj q _,.sl _ 1 _,.obj p3 _,.obj v3 _]++([.obj _ (.row (Jy [.fn (.func 610) [.ptr _ 0] [],Nf,Nf] 0 0++[I (t.l.e.pins+c)]))]++(ad m bl x rest++R))) HQ ?_
  refine Vx.cf (A:=[_,_,_,_]) (fun B W S H=>fX hs.2.2.2.2.2.1 hx (.a hc) H) fun a' x' l' e hl=>?_
  have e2:(dK.u .a key aq er).step t c false x=(if a'.over then .d key aq er else .u a' key aq er,x'):=by
   show(_,_)=_
   rw[e]
  cases ho:a'.over
  ·(repeat' first|constructor|exact ZQ|intro _)
   all_goals apply zL
   exact aa (e2.trans (Prod.ext (if_neg (by rw[ho];simp)) rfl)) (.u1 hl ho) rfl HQ
  ·(repeat' first|constructor|exact ZQ|intro _)
   all_goals apply zL
   exact aa (e2.trans (Prod.ext (if_pos ho) rfl)) .d rfl HQ
 |@u1 p3 v3 qm vp p key aq er σ lm h hF=>
  refine Vx.fm H Nw (b:=Tryz.a719) ?_;(repeat' first|constructor|exact ZQ|intro _);all_goals apply zL
  refine Vx.cf (A:=[_,_,_,_]) (fun B W S H=>fX hs.2.2.2.2.2.1 hx h H) fun a' x' l' e hl=>?_
  have e2:(dK.u σ key aq er).step t c false x=(if a'.over then .d key aq er else .u a' key aq er,x'):=by
   show(_,_)=_
   rw[e]
  cases ho:a'.over
  ·(repeat' first|constructor|exact ZQ|intro _)
   all_goals apply zL
   exact aa (e2.trans (Prod.ext (if_neg (by rw[ho];simp)) rfl)) (.u1 hl ho) rfl HQ
  ·(repeat' first|constructor|exact ZQ|intro _)
   all_goals apply zL
   exact aa (e2.trans (Prod.ext (if_pos ho) rfl)) .d rfl HQ
 |d=>cases ho
end
section
variable{nd hd ht c3 c4 n c6 c7 c8 c9 dz cT dx c:Int}
instance R5:NC EM (zF 418) [.agg [I nd,I hd,I ht,I c3,I c4,I n,I c6,I c7,I c8,I c9,I dz,I cT,I dx],I c] (((0≤nd∧nd<4096)∧(0≤hd∧hd<4096)∧(1≤ht∧ht≤4)∧1≤n∧n≤128)∧0≤c∧c<cT)
  (fun q l=>zd ⟨nd,hd,ht,⟨⟨⟨c3,c4,n⟩,c6,c7,c8⟩,⟨c9,dz,cT⟩,dx⟩⟩ c q 0 (.p .a) l):=.of rfl rfl fun h ro R=>by
 obtain⟨h0,hc⟩:=h
 have Xw:0≤oX nd ht 0 0:=by unfold oX;omega
 haveI:aS:=⟨⟩
 haveI:di:=⟨⟩
 show Zx EM false (Tryz.a418 _) _ _ _ _
 (repeat' first|constructor|exact ZQ|intro _)
 all_goals apply zL
 exact⟨rfl,rfl,(_::_::_::_::_::_::_::_::_::R),⟨_,_,zd.p0,rfl,rfl⟩,HQ⟩
end
instance z37 {n:Nat}[Mn n [566,569,570,608]]:cF n where
def tV (p:Nat):AV:=.iface 653 (.ptr p 0)
def tW (t:Tw)(q p vt vx:Nat)(now:AV)(made:Bool):List Own:=[.obj p (.row [.fn (.func 566) [] [.ptr vt 0],.fn (.func 568) [] [],.fn (.func 569) [] [.ptr vx 0],now,B made]),.obj vt (.row t.cs),.obj vx (.row [.ptr q 0])]
inductive AP (t:Tw)(c:Int)(q:Nat)(b:Int):dK→List Own→Prop
 |p0 {p1 v1 p2 vt vx p3 v3:Nat}{vp}{p:Int}:AP t c q b (.p .a) (.obj q (.row (t.jj c p vp b 0 0 0 0))::.sl vp 1 [[oQ p1],[tV p2],[gS p3]]::(oP q p1 v1 Np false++tW t q p2 vt vx Np false++gR q p3 v3 Np false))
 |p1 {p1 v1 p2 vt vx p3 v3 qm:Nat}{vp}{p:Int}{σ lm}(h:vj t.l.e c qm σ lm)(ho:σ.over=false):AP t c q b (.p σ) (.obj q (.row (t.jj c p vp b 0 0 0 0))::.sl vp 1 [[oQ p1],[tV p2],[gS p3]]::(oP q p1 v1 (.ptr qm 0) true++tW t q p2 vt vx Np false++gR q p3 v3 Np false++lm))
 |c0 {p2 vt vx p3 v3:Nat}{vp}{p:Int}:AP t c q b (.c .a) (.obj q (.row (t.jj c p vp b 0 0 0 0))::.sl vp 1 [[tV p2],[gS p3]]::(tW t q p2 vt vx Np false++gR q p3 v3 Np false))
 |c1 {p2 vt vx p3 v3 qm:Nat}{vp}{p bi:Int}{σ lm}(h:B9 t qm bi σ lm)(ho:σ.over=false):AP t c q b (.c σ) (.obj q (.row (t.jj c p vp b 0 0 0 0))::.sl vp 1 [[tV p2],[gS p3]]::(tW t q p2 vt vx (.ptr qm 0) true++gR q p3 v3 Np false++lm))
 |u0 {p3 v3:Nat}{vp}{p key aq e:Int}:AP t c q b (.u .a key aq e) (.obj q (.row (t.jj c p vp b 0 key aq e))::.sl vp 1 [[gS p3]]::(gR q p3 v3 Np false))
 |u1 {p3 v3 qm:Nat}{vp}{p key aq e:Int}{σ lm}(h:lM t.l.e c qm σ lm)(ho:σ.over=false):AP t c q b (.u σ key aq e) (.obj q (.row (t.jj c p vp b 0 key aq e))::.sl vp 1 [[gS p3]]::(gR q p3 v3 (.ptr qm 0) true++lm))
 |d {vp}{p key aq e:Int}:AP t c q b (.d key aq e) [.obj q (.row (t.jj c p vp b 0 key aq e)),.sl vp 1 []]
theorem B9.row {t}{q:Nat}{b:Int}{σ lo}(h:B9 t q b σ lo)(ho:σ.over=false):∃line a i w key A er lf,lo=.obj q (.row (t.za line a i w key A b er))::lf:=by
 cases h<;>first|(cases ho;done)|exact⟨_,_,_,_,_,_,_,_,rfl⟩
section
variable{B0 S:AH}{W:List Nat}{own R lo:List Own}{ro:List aQ}{m bl q:Nat}{x:Me}{rest:List AV}{t:Tw}{c b:Int}
theorem Nx {o1 own:List Own}(e:o1=own:=by conv=>lhs;simp only[Tw.jj,Tw.qI,Tw.cs,Lb.cs,Ar.cs,Ep.cs,oQ,gS,tV,oP,gR,tW,m8,lA,lB,lC]):o1=own:=e
theorem F8 {σ:dK}(hs:t.ok)(hc:0≤c∧c<t.l.e.ah)(hx:x.gd)(ho:σ.over=false)(h:AP t c q b σ lo)(H:Cx B0 W S (lo++(ad m bl x rest++R)) ro):
  aO EM (zF 713) [.ptr q 0,.ptr m 0] S fun u S'=>∃ab,eD (AP t c q σ.cz) dK.over (σ.step t c true x) (ad m bl · rest) R u ab∧Cx B0 W S' ab ro:=by
 have bn:=hs
 unfold Tw.ok Lb.ok Ar.ok Sk.ok Ep.ok at bn
 haveI:aS:=⟨⟩
 haveI:di:=⟨⟩
 cases h with
 |@p0 p1 v1 p2 vt vx p3 v3 vp p=>
  refine Vx.fm H Nx (b:=Tryz.a713) ?_;(repeat' first|constructor|exact ZQ|intro _);all_goals apply zL
  refine Vx.cb (own:=[.obj q _,.sl _ 1 _,.obj p1 _,.obj v1 _,.obj p2 _,.obj vt _,.obj vx _,.obj p3 _,.obj v3 _]++([.obj _ (.row (t.l.e.ga _ c 0 _))]++(ad m bl x rest++R))) HQ ?_
  refine Vx.cf (A:=[_,_,_,_,_,_,_,_,_]) (fun B W S H=>nD hs.2.2.2.2.2.1 hx (.a hc) H) fun a' x' l' e hl=>?_
  have e2:(dK.p .a).step t c true x=(if a'.over then .c .a else .p a',x'):=by
   show(_,_)=_
   rw[e]
  cases ho:a'.over
  ·(repeat' first|constructor|exact ZQ|intro _)
   all_goals apply zL
   exact aa (e2.trans (Prod.ext (if_neg (by rw[ho];simp)) rfl)) (.p1 hl ho) rfl HQ
  ·cases hl with
   |a=>cases ho
   |b=>cases ho
   |c=>cases ho
   |d hp=>
    (repeat' first|constructor|exact ZQ|intro _)
    all_goals apply zL
    exact aa e2 .c0 rfl HQ
 |@p1 p1 v1 p2 vt vx p3 v3 qm vp p σ lm h hF=>
  refine Vx.fm H Nx (b:=Tryz.a713) ?_;(repeat' first|constructor|exact ZQ|intro _);all_goals apply zL
  refine Vx.cf (A:=[_,_,_,_,_,_,_,_,_]) (fun B W S H=>nD hs.2.2.2.2.2.1 hx h H) fun a' x' l' e hl=>?_
  have e2:(dK.p σ).step t c true x=(if a'.over then .c .a else .p a',x'):=by
   show(_,_)=_
   rw[e]
  cases ho:a'.over
  ·(repeat' first|constructor|exact ZQ|intro _)
   all_goals apply zL
   exact aa (e2.trans (Prod.ext (if_neg (by rw[ho];simp)) rfl)) (.p1 hl ho) rfl HQ
  ·cases hl with
   |a=>cases ho
   |b=>cases ho
   |c=>cases ho
   |d hp=>
    (repeat' first|constructor|exact ZQ|intro _)
    all_goals apply zL
    exact aa e2 .c0 rfl HQ
 |@c0 p2 vt vx p3 v3 vp p=>
  refine Vx.fm H Nx (b:=Tryz.a713) ?_;(repeat' first|constructor|exact ZQ|intro _);all_goals apply zL
  rename_i qL lL hL
  refine Vx.cb (own:=[.obj q _,.sl _ 1 _,.obj p2 _,.obj vt _,.obj vx _,.obj p3 _,.obj v3 _]++(lL++(ad m bl x rest++R))) HQ ?_
  refine Vx.cf (A:=[_,_,_,_,_,_,_]) (fun B W S H=>F5 hs hx rfl hL H) fun a' x' l' e hl=>?_
  have e2:(dK.c .a).step t c true x=(dK.jL t c a',x'):=by
   show(dK.jL _ _ _,_)=_
   rw[e]
  by_cases ho:a'.over=true
  ·obtain⟨key,aq,er,rfl⟩:=b8.gT ho
   have h3:=b8.xE rfl (congrArg Prod.fst e)
   cases hl with
   |d=>
    have e3:dK.jL t c (.d key aq er)=.u .a key aq er:=congrArg (dK.u · key aq er) (if_neg (by omega))
    rcases h3 with rfl|⟨rfl,rfl,rfl⟩
    ·(repeat' first|constructor|exact ZQ|intro _)
     all_goals apply zL
     all_goals exact aa (e2.trans (Prod.ext e3 rfl)) .u0 rfl HQ
    ·(repeat' first|constructor|exact ZQ|intro _)
     all_goals apply zL
     all_goals exact aa (e2.trans (Prod.ext e3 rfl)) .u0 rfl HQ
  ·rw[Bool.not_eq_true] at ho
   obtain⟨line,a,i,w,key,A,er,lf,rfl⟩:=hl.row ho
   rw[ho]
   (repeat' first|constructor|exact ZQ|intro _)
   all_goals apply zL
   have e3:(dK.c .a).step t c true x=(.c a',x'):=e2.trans (Prod.ext (by cases a'<;>first|rfl|cases ho) rfl)
   exact aa e3 (.c1 hl ho) rfl HQ
 |@c1 p2 vt vx p3 v3 qm vp p bi σ lm h hF=>
  refine Vx.fm H Nx (b:=Tryz.a713) ?_;(repeat' first|constructor|exact ZQ|intro _);all_goals apply zL
  refine Vx.cf (A:=[_,_,_,_,_,_,_]) (fun B W S H=>F5 hs hx hF h H) fun a' x' l' e hl=>?_
  have e2:(dK.c σ).step t c true x=(dK.jL t c a',x'):=by
   show(dK.jL _ _ _,_)=_
   rw[e]
  by_cases ho:a'.over=true
  ·obtain⟨key,aq,er,rfl⟩:=b8.gT ho
   have h3:=b8.xE hF (congrArg Prod.fst e)
   cases hl with
   |d=>
    have e3:dK.jL t c (.d key aq er)=.u .a key aq er:=congrArg (dK.u · key aq er) (if_neg (by omega))
    rcases h3 with rfl|⟨rfl,rfl,rfl⟩
    ·(repeat' first|constructor|exact ZQ|intro _)
     all_goals apply zL
     all_goals exact aa (e2.trans (Prod.ext e3 rfl)) .u0 rfl HQ
    ·(repeat' first|constructor|exact ZQ|intro _)
     all_goals apply zL
     all_goals exact aa (e2.trans (Prod.ext e3 rfl)) .u0 rfl HQ
  ·rw[Bool.not_eq_true] at ho
   obtain⟨line,a,i,w,key,A,er,lf,rfl⟩:=hl.row ho
   rw[ho]
   (repeat' first|constructor|exact ZQ|intro _)
   all_goals apply zL
   have e3:(dK.c σ).step t c true x=(.c a',x'):=e2.trans (Prod.ext (by cases a'<;>first|rfl|cases ho) rfl)
   exact aa e3 (.c1 hl ho) rfl HQ
 |@u0 p3 v3 vp p key aq er=>
  refine Vx.fm H Nx (b:=Tryz.a713) ?_;(repeat' first|constructor|exact ZQ|intro _);all_goals apply zL
  refine Vx.cb (own:=[.obj q _,.sl _ 1 _,.obj p3 _,.obj v3 _]++([.obj _ (.row (Jy [.fn (.func 610) [.ptr _ 0] [],Nf,Nf] 0 0++[I (t.l.e.pins+c)]))]++(ad m bl x rest++R))) HQ ?_
  refine Vx.cf (A:=[_,_,_,_]) (fun B W S H=>fX hs.2.2.2.2.2.1 hx (.a hc) H) fun a' x' l' e hl=>?_
  have e2:(dK.u .a key aq er).step t c true x=(if a'.over then .d key aq er else .u a' key aq er,x'):=by
   show(_,_)=_
   rw[e]
  cases ho:a'.over
  ·(repeat' first|constructor|exact ZQ|intro _)
   all_goals apply zL
   exact aa (e2.trans (Prod.ext (if_neg (by rw[ho];simp)) rfl)) (.u1 hl ho) rfl HQ
  ·(repeat' first|constructor|exact ZQ|intro _)
   all_goals apply zL
   exact aa (e2.trans (Prod.ext (if_pos ho) rfl)) .d rfl HQ
 |@u1 p3 v3 qm vp p key aq er σ lm h hF=>
  refine Vx.fm H Nx (b:=Tryz.a713) ?_;(repeat' first|constructor|exact ZQ|intro _);all_goals apply zL
  refine Vx.cf (A:=[_,_,_,_]) (fun B W S H=>fX hs.2.2.2.2.2.1 hx h H) fun a' x' l' e hl=>?_
  have e2:(dK.u σ key aq er).step t c true x=(if a'.over then .d key aq er else .u a' key aq er,x'):=by
   show(_,_)=_
   rw[e]
  cases ho:a'.over
  ·(repeat' first|constructor|exact ZQ|intro _)
   all_goals apply zL
   exact aa (e2.trans (Prod.ext (if_neg (by rw[ho];simp)) rfl)) (.u1 hl ho) rfl HQ
  ·(repeat' first|constructor|exact ZQ|intro _)
   all_goals apply zL
   exact aa (e2.trans (Prod.ext (if_pos ho) rfl)) .d rfl HQ
 |d=>cases ho
end
section
variable{nd hd ht c3 c4 n c6 c7 c8 c9 dz cT dx c:Int}
instance R6:NC EM (zF 507) [.agg [I nd,I hd,I ht,I c3,I c4,I n,I c6,I c7,I c8,I c9,I dz,I cT,I dx],I c] (((0≤nd∧nd<4096)∧(0≤hd∧hd<4096)∧(1≤ht∧ht≤4)∧1≤n∧n≤128)∧0≤c∧c<cT)
  (fun q l=>AP ⟨nd,hd,ht,⟨⟨⟨c3,c4,n⟩,c6,c7,c8⟩,⟨c9,dz,cT⟩,dx⟩⟩ c q 0 (.p .a) l):=.of rfl rfl fun h ro R=>by
 obtain⟨h0,hc⟩:=h
 have Xw:0≤oX nd ht 0 0:=by unfold oX;omega
 haveI:aS:=⟨⟩
 haveI:di:=⟨⟩
 show Zx EM false (Tryz.a507 _) _ _ _ _
 (repeat' first|constructor|exact ZQ|intro _)
 all_goals apply zL
 exact⟨rfl,rfl,(_::_::_::_::_::_::_::_::_::R),⟨_,_,AP.p0,rfl,rfl⟩,HQ⟩
end
end
section
instance z38:cF 716 where
instance z39:cF 717 where
instance U2 {l}{i:Int}:KR (bu l) i (0≤i∧i<l.length) (U (l[i.toNat]?.getD 0)) where
 ok:=fun h=>⟨i.toNat,by omega,by
  have hn:i.toNat<l.length:=by omega
  rw[jd (n:=l[i.toNat]) (List.getElem?_eq_getElem hn),List.getElem?_eq_getElem hn];rfl⟩
def bL (l:List Int):Nat→Int
 |0=>-1
 |n+1=>if bL l n<0∨l[(bL l n).toNat]?.getD 0<l[n]?.getD 0 then n else bL l n
theorem fZ {l}:∀n,(n=0∧bL l n=-1)∨(0<n∧0≤bL l n∧bL l n<n)
 |0=>.inl ⟨rfl,rfl⟩
 |n+1=>by
  right
  unfold bL
  split
  ·omega
  ·next h=>rcases fZ (l:=l) n with⟨_,h2⟩|⟨_,h2,h3⟩<;>omega
theorem qJ {l}:∀(k:Nat) (m:List Int),l.drop k=m→k≤l.length→0<k→∀b:Nat,bL l k=b→((tO m k b (l[b]?.getD 0):Nat):Int)=bL l l.length
 |k,[],hm,hk,h0,b,hb=>by
  have:l.length≤k:=by have:=congrArg List.length hm;simp at this;omega
  obtain rfl:k=l.length:=by omega
  rw[hb];rfl
 |k,w::m,hm,hk,h0,b,hb=>by
  have dN:k<l.length:=by
   rcases Nat.lt_or_ge k l.length with h|h
   ·exact h
   ·rw[List.drop_eq_nil_of_le h] at hm;cases hm
  have hw:l[k]?.getD 0=w:=by
   have:l[k]?=some w:=by rw[←List.head?_drop,hm];rfl
   rw[this];rfl
  have hd:l.drop (k+1)=m:=by rw[←List.tail_drop,hm];rfl
  unfold tO
  have e:bL l (k+1)=if l[b]?.getD 0<w then(k:Int) else b:=by
   conv=>lhs;unfold bL
   rw[hb,hw]
   have:¬(b:Int)<0:=by omega
   simp[this]
  split
  ·next h=>
   rw[if_pos h] at e
   have:=qJ (k+1) m hd (by omega) (by omega) k e
   rwa[hw] at this
  ·next h=>
   rw[if_neg h] at e
   exact qJ (k+1) m hd (by omega) (by omega) b e
theorem m9 {l}(h:l≠[]):((cW l:Nat):Int)=bL l l.length:=by
 cases l with
 |nil=>exact absurd rfl h
 |cons w m=>
  have:=qJ (l:=w::m) 1 m rfl (by simp) (by omega) 0 (by unfold bL bL;simp)
  exact this
theorem Vx.K_ {M own ro Φ K body outs}(N:Nat)(st:Nat→List AV)
  (hs:∀i:Nat,i<N→(Vx M (.ret .normal (st (i+1))) (.loop body outs::K) own ro Φ)→Zx M false (body (st i)) (.loop body outs::K) own ro Φ)
  (he:Zx M false (body (st N)) (.loop body outs::K) own ro Φ):Vx M (.loop (st 0) body outs) K own ro Φ:=by
 have key:∀k i:Nat,i+k=N→Vx M (body (st i)) (.loop body outs::K) own ro Φ:=by
  intro k
  induction k with
  |zero=>
   intro i hi
   obtain rfl:i=N:=by omega
   exact he.ok
  |succ k ih=>
   intro i hi
   exact(hs i (by omega) (Vx.Nk (ih (i+1) (by omega)))).ok
 exact Vx.loop (key N 0 (by omega))
theorem Vx.C9 {M own ro Φ K v x}{i:Int}{P:Prop}[c:FA own v i P x]{g:Bool}{k}(hp:P)(h:Zx M false (k x) K own ro Φ):Vx M (.op (.fu 1 v (I i)) fun p=>.sG (cY.B g) g (.load 1 false p) k) K own ro Φ:=fun B W S H=>by
 obtain⟨t,vs,S',⟨n0,h1⟩,h2⟩:=(Zx.Ut (v:=v) (i:=i) (ck.of hp) h).ok B W S H
 refine⟨t,vs,S',⟨n0,fun n hn=>?_⟩,h2⟩
 rw[←h1 n hn]
 cases g<;>rfl
instance Xx {R0 v l}:SC EM (zF 715) [v,.fn (.func 716) [] []] (.sl v 1 (bu l)::R0) (l.length≤64) (I (bL l l.length)) (.sl v 1 (bu l)::R0):=.of rfl rfl fun hl ro R=>by
 have hu:Int.ofNat (bu l).length=(l.length:Int):=congrArg Int.ofNat (dU l)
 have n0:∀a b:AV,nth [a,b] 0=a:=fun _ _=>rfl
 have n1:∀a b:AV,nth [a,b] 1=b:=fun _ _=>rfl
 show Zx EM false (Tryz.a715 _) _ _ _ _
 rw[Tryz.u715]
 simp only[lA,lB,n0,n1]
 (repeat' first|constructor|exact ZQ|intro _)
 all_goals apply zL
 rw[hu]
 refine Vx.K_ l.length (fun i=>[I (i:Int),I (bL l i)]) ?_ ?_
 ·intro i hi hn
  have hb:=fZ (l:=l) i
  have e1:((i+1:Nat):Int)=(i:Int)+1:=by omega
  have e2:bL l (i+1)=if bL l i<0∨l[(bL l i).toNat]?.getD 0<l[i]?.getD 0 then(i:Int) else bL l i:=rfl
  simp only[e1,e2] at hn
  have ei:(Int.toNat (i:Int))=i:=Int.toNat_natCast i
  show Zx EM false ((fun vs=>_) [I (i:Int),I (bL l i)]) _ _ _ _
  clear e1 e2
  generalize hz:(i:Int)=z at*
  rw[←ei] at hn
  (repeat' first|constructor|exact ZQ|intro _)
  all_goals apply zL
  ·next h1 h2=>exact Vx.cb HQ (by rw[if_pos (.inl (by rw[ei];exact h2))] at hn;exact hn)
  ·next h1 h2=>
   refine Vx.C9 (by omega) ?_
   (repeat' first|constructor|exact ZQ|intro _)
   all_goals apply zL
   all_goals simp only[ei] at*
   all_goals first
    |(rw[if_neg (by omega)] at hn;exact Vx.cb HQ hn)
    |(rw[if_pos (.inr (by omega))] at hn;exact Vx.cb HQ hn)
 ·(repeat' first|constructor|exact ZQ|intro _)
  all_goals apply zL
  exact⟨rfl,rfl,_,⟨rfl,rfl⟩,.rfl'⟩
instance z40 {n:Nat}[Mn n [712,143,509,710,711,714,571,503]]:cF n where
def Rs.ok (r:Rs):Prop:=(0≤r.runs∧r.runs<4096)∧(0≤r.flags∧r.flags<4096)∧1≤r.ah∧r.ah≤64
def Rs.AQ (r:Rs)(cd left:Int)(look:AV)(key:Int)(words:AV)(cW flag cz:Int)(done:Bool)(er:Int):List AV:=[I cd,I left,I r.runs,I r.flags,I r.ah,look,U key,words,I cW,I flag,U cz,B true,B done,I er]
inductive pW (t:Tw)(r:Rs)(c:Int)(q:Nat)(b:Int):cI→List Own→Prop
 |k {ql:Nat}{bi:Int}{σ lk}(h:AP t c ql bi σ lk)(ho:σ.over=false):pW t r c q b (.k σ) (.obj q (.row (r.AQ r.runs r.ah (.ptr ql 0) 0 Ns (-1) (-1) b false 0))::lk)
 |r0 {key:Int}:pW t r c q b (.r key []) [.obj q (.row (r.AQ r.runs r.ah Np key Ns (-1) (-1) b false 0))]
 |r1 {cd left key:Int}{l v L}(h0:l≠[])(hl:(l.length:Int)<r.ah)(ha:cd=r.runs+l.length)(hf:left=r.ah-l.length)(hL:L=bu l)(hv:AV.beq v v=true):pW t r c q b (.r key l) [.obj q (.row (r.AQ cd left Np key v (-1) (-1) b false 0)),.sl v 1 L]
 |f {cd key w:Int}{v}(hw:0≤w∧w<r.ah):pW t r c q b (.f w) [.obj q (.row (r.AQ cd 0 Np key v w (-1) b false 0))]
 |d {cd left key cW flag e:Int}{look words}:pW t r c q b (.d e) [.obj q (.row (r.AQ cd left look key words cW flag b true e))]
theorem AP.row {t}{c:Int}{q:Nat}{b:Int}{σ lo}(h:AP t c q b σ lo)(ho:σ.over=false):∃p vp x0 L key aq e lf,lo=.obj q (.row (t.jj c p vp b 0 key aq e))::.sl vp 1 (x0::L)::lf:=by
 cases h<;>first|(cases ho;done)|exact⟨_,_,_,_,_,_,_,_,rfl⟩
theorem dK.gT {σ:dK}(h:σ.over=true):∃key aq e,σ=.d key aq e:=by cases σ<;>first|exact⟨_,_,_,rfl⟩|cases h
section
variable{nd hd ht c3 c4 n c6 c7 c8 c9 dz cT dx rr rf rc c:Int}
instance U3:NC EM (zF 413) [.agg [I nd,I hd,I ht,I c3,I c4,I n,I c6,I c7,I c8,I c9,I dz,I cT,I dx],.agg [I rr,I rf,I rc],I c] (((0≤nd∧nd<4096)∧(0≤hd∧hd<4096)∧(1≤ht∧ht≤4)∧1≤n∧n≤128)∧(0≤c∧c<cT)∧1≤rc∧rc≤64)
  (fun q l=>pW ⟨nd,hd,ht,⟨⟨⟨c3,c4,n⟩,c6,c7,c8⟩,⟨c9,dz,cT⟩,dx⟩⟩ ⟨rr,rf,rc⟩ c q 0 (.k (.p .a)) l):=.of rfl rfl fun h ro R=>by
 obtain⟨h0,hc,hr⟩:=h
 show Zx EM false (Tryz.a413 _) _ _ _ _
 (repeat' first|constructor|exact ZQ|intro _)
 all_goals apply zL
 rename_i q1 q2 ql lL hL q3
 haveI:cF 508:=⟨⟩
 cases hL with
 |p0=>
  simp only[Tw.jj,Tw.qI,Tw.cs,Lb.cs,Ar.cs,Ep.cs,oQ,gS,tV,oP,gR,tW,m8,lA,lB,lC]
  refine Zx.ok (n:=false) ?_
  (repeat' first|constructor|exact ZQ|intro _)
  all_goals apply zL
  exact⟨rfl,rfl,(_::_::_::_::_::_::_::_::_::_::R),⟨_,_,pW.k .p0 rfl,rfl,rfl⟩,HQ⟩
 |@p1 p1 v1 p2 vt vx p3 v3 qm vp p _ lm h ho=>
  simp only[Tw.jj,Tw.qI,Tw.cs,Lb.cs,Ar.cs,Ep.cs,oQ,gS,tV,oP,gR,tW,m8,lA,lB,lC]
  refine Zx.ok (n:=false) ?_
  (repeat' first|constructor|exact ZQ|intro _)
  all_goals apply zL
  exact⟨rfl,rfl,(_::_::_::_::_::_::_::_::_::_::(lm++R)),⟨_,_,pW.k (.p1 h ho) rfl,rfl,rfl⟩,HQ⟩
end
instance z41:cF 508 where
section
variable{B0 S:AH}{W:List Nat}{own R lo:List Own}{ro:List aQ}{m bl q:Nat}{x:Me}{rest:List AV}{t:Tw}{r:Rs}{c b:Int}
theorem R7 {o1 own:List Own}(e:o1=own:=by conv=>lhs;simp only[Rs.AQ,lA,lB,lC]):o1=own:=e
theorem Ca {σ:cI}(hs:t.ok)(hr:r.ok)(hc:0≤c∧c<t.l.e.ah)(hx:x.gd)(ho:σ.over=false)(h:pW t r c q b σ lo)(H:Cx B0 W S (lo++(ad m bl x rest++R)) ro):
  aO EM (zF 709) [.ptr q 0,.ptr m 0] S fun u S'=>∃ab,eD (pW t r c q σ.cz) cI.over (σ.step t r c x) (ad m bl · rest) R u ab∧Cx B0 W S' ab ro:=by
 have ox:=hr
 unfold Rs.ok at ox
 haveI:aS:=⟨⟩
 haveI:di:=⟨⟩
 have n0:∀a b:AV,nth [a,b] 0=a:=fun _ _=>rfl
 have n1:∀a b:AV,nth [a,b] 1=b:=fun _ _=>rfl
 cases h with
 |@k ql bi σ lk h hF=>
  refine Vx.fm H R7 (b:=Tryz.a709) ?_;(repeat' first|constructor|exact ZQ|intro _);all_goals apply zL
  refine Vx.fz (A:=[_]) (fun B W S H=>F8 hs hc hx hF h H) fun a' x' l' e hl=>?_
  have e2:(cI.k σ).step t r c x=(cI.jL a',x'):=by
   show(cI.jL _,_)=_
   rw[e]
  by_cases ho:a'.over=true
  ·obtain⟨key,aq,er,rfl⟩:=dK.gT ho
   cases hl with
   |d=>
    (repeat' first|constructor|exact ZQ|intro _)
    all_goals apply zL
    ·have h0:er=0:=by assumption
     exact aa (e2.trans (Prod.ext (if_pos h0) rfl)) .r0 rfl HQ
    ·have h0:¬er=0:=by assumption
     have h1:er=15:=by assumption
     exact aa (e2.trans (Prod.ext ((if_neg h0).trans (if_pos h1)) rfl)) .d rfl HQ
    ·have h0:¬er=0:=by assumption
     have h1:¬er=15:=by assumption
     exact aa (e2.trans (Prod.ext ((if_neg h0).trans (if_neg h1)) rfl)) .d rfl HQ
  ·rw[Bool.not_eq_true] at ho
   obtain⟨p,vp,x0,L,key,aq,er,lf,rfl⟩:=hl.row ho
   rw[ho]
   (repeat' first|constructor|exact ZQ|intro _)
   all_goals apply zL
   have e3:(cI.k σ).step t r c x=(.k a',x'):=e2.trans (Prod.ext (by cases a'<;>first|rfl|cases ho) rfl)
   exact aa e3 (.k hl ho) rfl HQ
 |@r0 key=>
  have hw:=Me.ai hx r.runs
  refine Vx.fm H R7 (b:=Tryz.a709) ?_;(repeat' first|constructor|exact ZQ|intro _);all_goals apply zL
  all_goals try simp only[show r.runs+1-1=r.runs by omega]
  ·have h1:r.ah-1=0:=by assumption
   rw[show List.map (fun a=>[a]) [Z IntKind.u64 (x.word r.runs)]=bu [x.word r.runs] from rfl]
   have H5:=m9 (l:=[x.word r.runs]) (by simp)
   have hb:=fZ (l:=[x.word r.runs]) ([x.word r.runs]).length
   have JB:([x.word r.runs]).length=1:=by simp
   simp only[n0,n1]
   refine Zx.ok (n:=false) ?_
   (repeat' first|constructor|exact ZQ|intro _)
   all_goals apply zL
   refine Vx.C9 (by omega) ?_
   (repeat' first|constructor|exact ZQ|intro _)
   all_goals apply zL
   all_goals have ew:(bL ([x.word r.runs]) ([x.word r.runs]).length).toNat=cW ([x.word r.runs]):=by rw[←H5];exact Int.toNat_natCast _
   all_goals rw[h1]
   ·next h=>
    have e3:(cI.r key []).step t r c x=(.d 0,x.ld (r.runs)):=by
     have e0:r.runs+((0:Nat):Int)=r.runs:=by omega
     show(if((0:Nat):Int)+1=r.ah then(if [x.word (r.runs+((0:Nat):Int))][cW [x.word (r.runs+((0:Nat):Int))]]?.getD 0≤key then cI.d 0 else .f (cW [x.word (r.runs+((0:Nat):Int))])) else .r key [x.word (r.runs+((0:Nat):Int))],x.ld (r.runs+((0:Nat):Int)))=_
     rw[ew] at h
     rw[e0,if_pos (by omega),if_pos h]
    exact aa e3 .d rfl HQ
   ·next h=>
    have e3:(cI.r key []).step t r c x=(.f (cW ([x.word r.runs])),x.ld (r.runs)):=by
     have e0:r.runs+((0:Nat):Int)=r.runs:=by omega
     show(if((0:Nat):Int)+1=r.ah then(if [x.word (r.runs+((0:Nat):Int))][cW [x.word (r.runs+((0:Nat):Int))]]?.getD 0≤key then cI.d 0 else .f (cW [x.word (r.runs+((0:Nat):Int))])) else .r key [x.word (r.runs+((0:Nat):Int))],x.ld (r.runs+((0:Nat):Int)))=_
     rw[ew] at h
     rw[e0,if_pos (by omega),if_neg h]
    rw[←H5]
    exact aa e3 (.f (by omega)) rfl HQ
  ·have h1:¬r.ah-1=0:=by assumption
   have e3:(cI.r key []).step t r c x=(.r key [x.word r.runs],x.ld r.runs):=by
    show(if _ then _ else cI.r key ([]++[x.word (r.runs+(0:Nat))]),x.ld (r.runs+(0:Nat)))=_
    rw[if_neg (by simp;omega),show r.runs+((0:Nat):Int)=r.runs by omega];rfl
   exact aa e3 (.r1 (cd:=r.runs+1) (left:=r.ah-1) (l:=[x.word r.runs]) (by simp) (by simp;omega) rfl rfl rfl (by assumption)) rfl HQ
 |@r1 cd left key l v L h0 hl ha hf hL hv=>
  subst ha hf hL
  have hw:=Me.ai hx (r.runs+l.length)
  have U4:=dU l
  refine Vx.fm H R7 (b:=Tryz.a709) ?_;(repeat' first|constructor|exact ZQ|intro _);all_goals apply zL
  ·rw[U4];simp;omega
  all_goals try simp only[show r.runs+l.length+1-1=r.runs+l.length by omega]
  all_goals rw[show bu l++List.map (fun a=>[a]) [Z IntKind.u64 (x.word (r.runs+l.length))]=bu (l++[x.word (r.runs+l.length)]) from by simp[bu]]
  ·have h1:r.ah-l.length-1=0:=by assumption
   have H5:=m9 (l:=l++[x.word (r.runs+l.length)]) (by simp)
   have hb:=fZ (l:=l++[x.word (r.runs+l.length)]) (l++[x.word (r.runs+l.length)]).length
   have JB:(l++[x.word (r.runs+l.length)]).length=l.length+1:=by simp
   simp only[n0,n1]
   refine Zx.ok (n:=false) ?_
   (repeat' first|constructor|exact ZQ|intro _)
   all_goals apply zL
   refine Vx.C9 (by omega) ?_
   (repeat' first|constructor|exact ZQ|intro _)
   all_goals apply zL
   all_goals have ew:(bL (l++[x.word (r.runs+l.length)]) (l++[x.word (r.runs+l.length)]).length).toNat=cW (l++[x.word (r.runs+l.length)]):=by rw[←H5];exact Int.toNat_natCast _
   all_goals rw[h1]
   ·next h=>
    have e3:(cI.r key l).step t r c x=(.d 0,x.ld (r.runs+l.length)):=by
     show(if _ then(if(l++[x.word (r.runs+l.length)])[cW (l++[x.word (r.runs+l.length)])]?.getD 0≤key then cI.d 0 else _) else _,x.ld (r.runs+l.length))=_
     rw[ew] at h
     rw[if_pos (by omega),if_pos h]
    exact aa e3 .d rfl HQ
   ·next h=>
    have e3:(cI.r key l).step t r c x=(.f (cW (l++[x.word (r.runs+l.length)])),x.ld (r.runs+l.length)):=by
     show(if _ then(if(l++[x.word (r.runs+l.length)])[cW (l++[x.word (r.runs+l.length)])]?.getD 0≤key then cI.d 0 else .f (cW (l++[x.word (r.runs+l.length)]))) else _,x.ld (r.runs+l.length))=_
     rw[ew] at h
     rw[if_pos (by omega),if_neg h]
    rw[←H5]
    exact aa e3 (.f (by omega)) rfl HQ
  ·have h1:¬r.ah-l.length-1=0:=by assumption
   have e3:(cI.r key l).step t r c x=(.r key (l++[x.word (r.runs+l.length)]),x.ld (r.runs+l.length)):=by
    show(if _ then _ else cI.r key (l++[x.word (r.runs+l.length)]),x.ld (r.runs+l.length))=_
    rw[if_neg (by omega)]
   exact aa e3 (.r1 (cd:=r.runs+l.length+1) (left:=r.ah-l.length-1) (l:=l++[x.word (r.runs+l.length)]) (by simp) (by simp;omega) (by simp;omega) (by simp;omega) rfl (by assumption)) rfl HQ
 |@f cd key w v hw=>
  refine Vx.fm H R7 (b:=Tryz.a709) ?_;(repeat' first|constructor|exact ZQ|intro _);all_goals apply zL
  exact aa rfl .d rfl HQ
 |d=>cases ho
end
end
end Go.cY
