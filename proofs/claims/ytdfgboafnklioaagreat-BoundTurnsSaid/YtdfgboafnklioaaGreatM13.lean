/- Contracts. Conditions: in each theorem. -/
import Derived.Test.YtdfgboafnklioaaGreatM12
set_option linter.all false
set_option maxRecDepth 100000
set_option maxHeartbeats 4000000
namespace Go.cO
open Go.Proofs
instance z44:cH 500 where
theorem cj.iD {σ:cj}(h:σ.over=true):∃key aq e,σ=.d key aq e:=by cases σ<;>first|exact⟨_,_,_,rfl⟩|cases h
theorem cj.yH {t:Tw}{look:Bool}{x:Me}{σ:cj}{key aq e:Int}(ho:σ.over=false)(h:(σ.step t look x).1=.d key aq e):e=0\/key=0/\aq=0/\e=15:=by
 have hb:∀{A i:Int} {l:Nat},cj.below A i l≠.d key aq e:=λh=>by unfold cj.below at h;split at h<;>cases h
 cases σ<;>simp only[cj.step] at h
 all_goals first|(cases ho;done)|(cases h;done)|(exact(hb h).elim)|skip
 all_goals(split at h<;>first|(cases h;done)|(cases h;first|exact .inl rfl|exact .inr ⟨rfl,rfl,rfl⟩)|(exact(hb h).elim)|skip)
 all_goals(split at h<;>first|(cases h;done)|(cases h;first|exact .inl rfl|exact .inr ⟨rfl,rfl,rfl⟩)|(exact(hb h).elim))
def Tw.ka (t:Tw)(c p:Int)(parts:AV)(cM er key aq e:Int):List AV:=t.pS c p parts cM er++[U key,I aq,I e]
section
variable{nd hd ht c3 c4 n c6 c7 c8 c9 dP dp dM c key aq high:Int}
instance XY:NC EM (zF 405) [.agg [I nd,I hd,I ht,I c3,I c4,I n,I c6,I c7,I c8,I c9,I dP,I dp,I dM],I c,U key,I aq,I high] (((0<=nd/\nd<4096)/\(0<=hd/\hd<4096)/\(1<=ht/\ht<=4)/\1<=n/\n<=128)/\(0<=c/\c<dp)/\(0<=key/\key<18446744073709551615)/\(0<=aq/\aq<=65534)/\1<=high/\high<=ht)
  (λq l=>iX ⟨nd,hd,ht,⟨⟨⟨c3,c4,n⟩,c6,c7,c8⟩,⟨c9,dP,dp⟩,dM⟩⟩ c key aq high q 0 (.p .a 0) l):=.of rfl rfl λh ro R=>by
 obtain⟨h0,hc,hk,hj,hh⟩:=h;have h0':0<=p9 nd ht 0 0:=by unfold p9;omega
 haveI:aU:=⟨⟩;haveI:dH:=⟨⟩;show Zx EM false (Tryz.a405 _) _ _ _ _;refine z1 ?_;intros;exact⟨rfl,rfl,(_::_::_::_::_::_::R),⟨_,_,iX.p0 am,rfl,rfl⟩,HQ⟩
end
instance z45 {n:Nat}[Mn n [511,514,515,573]]:cH n where
def vj (p:Nat):AV:=.iface 598 (.ptr p 0)
def vk (t:Tw)(q p vt vx:Nat)(now:AV)(made:Bool):List Own:=[.obj p (.row [.fn (.func 511) [] [.ptr vt 0],.fn (.func 513) [] [],.fn (.func 514) [] [.ptr vx 0],now,B made]),.obj vt (.row t.cs),.obj vx (.row [.ptr q 0])]
inductive AA (t:Tw)(c:Int)(q:Nat)(b:Int):dY->List Own->Prop
 |p0 {p1 v1 p2 vt vx p3 v3:Nat}{vp:AV}{p:Int}:AA t c q b (.p .a) (.obj q (.row (t.ka c p vp b 0 0 0 0))::.sl vp 1 [[pR p1],[vj p2],[iC p3]]::(pQ q p1 v1 Np false++vk t q p2 vt vx Np false++iB q p3 v3 Np false))
 |p1 {p1 v1 p2 vt vx p3 v3 qm:Nat}{vp:AV}{p:Int}{σ:m_}{lm:List Own}(h:wD t.l.e c qm σ lm)(ho:σ.over=false):AA t c q b (.p σ) (.obj q (.row (t.ka c p vp b 0 0 0 0))::.sl vp 1 [[pR p1],[vj p2],[iC p3]]::(pQ q p1 v1 (.ptr qm 0) true++vk t q p2 vt vx Np false++iB q p3 v3 Np false++lm))
 |c0 {p2 vt vx p3 v3:Nat}{vp:AV}{p:Int}:AA t c q b (.c .a) (.obj q (.row (t.ka c p vp b 0 0 0 0))::.sl vp 1 [[vj p2],[iC p3]]::(vk t q p2 vt vx Np false++iB q p3 v3 Np false))
 |c1 {p2 vt vx p3 v3 qm:Nat}{vp:AV}{p bi:Int}{σ:cj}{lm:List Own}(h:vY t qm bi σ lm)(ho:σ.over=false):AA t c q b (.c σ) (.obj q (.row (t.ka c p vp b 0 0 0 0))::.sl vp 1 [[vj p2],[iC p3]]::(vk t q p2 vt vx (.ptr qm 0) true++iB q p3 v3 Np false++lm))
 |u0 {p3 v3:Nat}{vp:AV}{p key aq e:Int}:AA t c q b (.u .a key aq e) (.obj q (.row (t.ka c p vp b 0 key aq e))::.sl vp 1 [[iC p3]]::(iB q p3 v3 Np false))
 |u1 {p3 v3 qm:Nat}{vp:AV}{p key aq e:Int}{σ:cG}{lm:List Own}(h:mE t.l.e c qm σ lm)(ho:σ.over=false):AA t c q b (.u σ key aq e) (.obj q (.row (t.ka c p vp b 0 key aq e))::.sl vp 1 [[iC p3]]::(iB q p3 v3 (.ptr qm 0) true++lm))
 |d {vp:AV}{p key aq e:Int}:AA t c q b (.d key aq e) [.obj q (.row (t.ka c p vp b 0 key aq e)),.sl vp 1 []]
theorem vY.row {t:Tw}{q:Nat}{b:Int}{σ:cj}{lo:List Own}(h:vY t q b σ lo)(ho:σ.over=false):∃lv B9 fd rt line a i w key A er lf,lo=.obj q (.row (t.j8 lv B9 fd rt line a i w key A b er))::lf:=by
 cases h<;>first|(cases ho;done)|exact⟨_,_,_,_,_,_,_,_,_,_,_,_,rfl⟩
section
variable{B0 S:AH}{W:List Nat}{own R lo:List Own}{ro:List aB}{m bl q:Nat}{x:Me}{rest:List AV}{t:Tw}{c b:Int}
theorem Qt {o1 own:List Own}(e:o1=own:=by conv=>lhs;simp only[Tw.ka,Tw.pS,Tw.cs,Lb.cs,Ar.cs,Ep.cs,pR,iC,vj,pQ,iB,vk,nU,lA,lB,lC]):o1=own:=e
theorem AB {σ:dY}(hs:t.ok)(hc:0<=c/\c<t.l.e.ah)(hx:x.gd)(ho:σ.over=false)(h:AA t c q b σ lo)(H:Cx B0 W S (lo++(ad m bl x rest++R)) ro):
  aG EM (zF 719) [.ptr q 0,.ptr m 0] S λu S'=>∃ab,eW (AA t c q σ.cM) dY.over (σ.step t c false x) (ad m bl · rest) R u ab/\Cx B0 W S' ab ro:=by
 have bt:=hs;unfold Tw.ok Lb.ok Ar.ok Sk.ok Ep.ok at bt;haveI:aU:=⟨⟩;haveI:dH:=⟨⟩;cases h with
 |@p0 p1 v1 p2 vt vx p3 v3 vp p=>
  refine y1 H Qt ?_;intros;refine Vx.bB (own:=[.obj q _,.sl _ 1 _,.obj p1 _,.obj v1 _,.obj p2 _,.obj vt _,.obj vx _,.obj p3 _,.obj v3 _]++([.obj _ (.row (t.l.e.rowP _ c 0 _))]++(ad m bl x rest++R))) HQ ?_;refine Vx.cC (A:=[_,_,_,_,_,_,_,_,_]) (λB W S H=>oy hs.2.2.2.2.2.1 hx (.a hc) H) λa' x' l' e hl=>?_;have e2:(dY.p .a).step t c false x=(if a'.over then .c .a else .p a',x'):=by show(_,_)=_;rw[e]
  cases ho:a'.over
  .refine z1 ?_;intros;exact aa (e2.trans (Prod.ext (if_neg (by rw[ho];simp)) rfl)) (.p1 hl ho) rfl HQ
  .cases hl with
   |a=>cases ho
   |b=>cases ho
   |c=>cases ho
   |d hp=>
    refine z1 ?_;exact aa e2 .c0 rfl HQ
 |@p1 p1 v1 p2 vt vx p3 v3 qm vp p σ lm h hF=>
  refine y1 H Qt ?_;intros;refine Vx.cC (A:=[_,_,_,_,_,_,_,_,_]) (λB W S H=>oy hs.2.2.2.2.2.1 hx h H) λa' x' l' e hl=>?_;have e2:(dY.p σ).step t c false x=(if a'.over then .c .a else .p a',x'):=by show(_,_)=_;rw[e]
  cases ho:a'.over
  .refine z1 ?_;intros;exact aa (e2.trans (Prod.ext (if_neg (by rw[ho];simp)) rfl)) (.p1 hl ho) rfl HQ
  .cases hl with
   |a=>cases ho
   |b=>cases ho
   |c=>cases ho
   |d hp=>
    refine z1 ?_;exact aa e2 .c0 rfl HQ
 |@c0 p2 vt vx p3 v3 vp p=>
  refine y1 H Qt ?_;intros;rename_i qL lL hL;refine Vx.bB (own:=[.obj q _,.sl _ 1 _,.obj p2 _,.obj vt _,.obj vx _,.obj p3 _,.obj v3 _]++(lL++(ad m bl x rest++R))) HQ ?_;refine Vx.cC (A:=[_,_,_,_,_,_,_]) (λB W S H=>Hv hs hx rfl hL H) λa' x' l' e hl=>?_;have e2:(dY.c .a).step t c false x=(dY.kh t c a',x'):=by show(dY.kh _ _ _,_)=_;rw[e]
  by_cases ho:a'.over=true
  .obtain⟨key,aq,er,rfl⟩:=cj.iD ho;have h3:=cj.yH rfl (congrArg Prod.fst e);cases hl with
   |d=>
    have e3:dY.kh t c (.d key aq er)=.u .a key aq er:=congrArg (dY.u · key aq er) (if_neg am);rcases h3 with rfl|⟨rfl,rfl,rfl⟩
    .refine z1 ?_;intros;all_goals exact aa (e2.trans (Prod.ext e3 rfl)) .u0 rfl HQ
    .refine z1 ?_;intros;all_goals exact aa (e2.trans (Prod.ext e3 rfl)) .u0 rfl HQ
  .rw[Bool.not_eq_true] at ho;obtain⟨lv,B9,fd,rt,line,a,i,w,key,A,er,lf,rfl⟩:=hl.row ho;rw[ho];refine z1 ?_;intros;have e3:(dY.c .a).step t c false x=(.c a',x'):=e2.trans (Prod.ext (by cases a'<;>first|rfl|cases ho) rfl);exact aa e3 (.c1 hl ho) rfl HQ
 |@c1 p2 vt vx p3 v3 qm vp p bi σ lm h hF=>
  refine y1 H Qt ?_;intros;refine Vx.cC (A:=[_,_,_,_,_,_,_]) (λB W S H=>Hv hs hx hF h H) λa' x' l' e hl=>?_;have e2:(dY.c σ).step t c false x=(dY.kh t c a',x'):=by show(dY.kh _ _ _,_)=_;rw[e]
  by_cases ho:a'.over=true
  .obtain⟨key,aq,er,rfl⟩:=cj.iD ho;have h3:=cj.yH hF (congrArg Prod.fst e);cases hl with
   |d=>
    have e3:dY.kh t c (.d key aq er)=.u .a key aq er:=congrArg (dY.u · key aq er) (if_neg am);rcases h3 with rfl|⟨rfl,rfl,rfl⟩
    .refine z1 ?_;intros;all_goals exact aa (e2.trans (Prod.ext e3 rfl)) .u0 rfl HQ
    .refine z1 ?_;intros;all_goals exact aa (e2.trans (Prod.ext e3 rfl)) .u0 rfl HQ
  .rw[Bool.not_eq_true] at ho;obtain⟨lv,B9,fd,rt,line,a,i,w,key,A,er,lf,rfl⟩:=hl.row ho;rw[ho];refine z1 ?_;intros;have e3:(dY.c σ).step t c false x=(.c a',x'):=e2.trans (Prod.ext (by cases a'<;>first|rfl|cases ho) rfl);exact aa e3 (.c1 hl ho) rfl HQ
 |@u0 p3 v3 vp p key aq er=>
  refine y1 H Qt ?_;intros;refine Vx.bB (own:=[.obj q _,.sl _ 1 _,.obj p3 _,.obj v3 _]++([.obj _ (.row (LI [.fn (.func 610) [.ptr _ 0] [],Nf,Nf] 0 0++[I (t.l.e.pins+c)]))]++(ad m bl x rest++R))) HQ ?_;refine Vx.cC (A:=[_,_,_,_]) (λB W S H=>gG hs.2.2.2.2.2.1 hx (.a hc) H) λa' x' l' e hl=>?_;have e2:(dY.u .a key aq er).step t c false x=(if a'.over then .d key aq er else .u a' key aq er,x'):=by show(_,_)=_;rw[e]
  cases ho:a'.over
  .refine z1 ?_;intros;exact aa (e2.trans (Prod.ext (if_neg (by rw[ho];simp)) rfl)) (.u1 hl ho) rfl HQ
  .refine z1 ?_;exact aa (e2.trans (Prod.ext (if_pos ho) rfl)) .d rfl HQ
 |@u1 p3 v3 qm vp p key aq er σ lm h hF=>
  refine y1 H Qt ?_;intros;refine Vx.cC (A:=[_,_,_,_]) (λB W S H=>gG hs.2.2.2.2.2.1 hx h H) λa' x' l' e hl=>?_;have e2:(dY.u σ key aq er).step t c false x=(if a'.over then .d key aq er else .u a' key aq er,x'):=by show(_,_)=_;rw[e]
  cases ho:a'.over
  .refine z1 ?_;intros;exact aa (e2.trans (Prod.ext (if_neg (by rw[ho];simp)) rfl)) (.u1 hl ho) rfl HQ
  .refine z1 ?_;exact aa (e2.trans (Prod.ext (if_pos ho) rfl)) .d rfl HQ
 |d=>cases ho
end
section
variable{nd hd ht c3 c4 n c6 c7 c8 c9 dP dp dM c:Int}
instance Vl:NC EM (zF 418) [.agg [I nd,I hd,I ht,I c3,I c4,I n,I c6,I c7,I c8,I c9,I dP,I dp,I dM],I c] (((0<=nd/\nd<4096)/\(0<=hd/\hd<4096)/\(1<=ht/\ht<=4)/\1<=n/\n<=128)/\0<=c/\c<dp)
  (λq l=>AA ⟨nd,hd,ht,⟨⟨⟨c3,c4,n⟩,c6,c7,c8⟩,⟨c9,dP,dp⟩,dM⟩⟩ c q 0 (.p .a) l):=.of rfl rfl λh ro R=>by
 obtain⟨h0,hc⟩:=h;have h0':0<=p9 nd ht 0 0:=by unfold p9;omega
 haveI:aU:=⟨⟩;haveI:dH:=⟨⟩;show Zx EM false (Tryz.a418 _) _ _ _ _;refine z1 ?_;intros;exact⟨rfl,rfl,(_::_::_::_::_::_::_::_::_::R),⟨_,_,AA.p0,rfl,rfl⟩,HQ⟩
end
instance z46 {n:Nat}[Mn n [566,569,570,608]]:cH n where
def vq (p:Nat):AV:=.iface 653 (.ptr p 0)
def vu (t:Tw)(q p vt vx:Nat)(now:AV)(made:Bool):List Own:=[.obj p (.row [.fn (.func 566) [] [.ptr vt 0],.fn (.func 568) [] [],.fn (.func 569) [] [.ptr vx 0],now,B made]),.obj vt (.row t.cs),.obj vx (.row [.ptr q 0])]
inductive B_ (t:Tw)(c:Int)(q:Nat)(b:Int):dY->List Own->Prop
 |p0 {p1 v1 p2 vt vx p3 v3:Nat}{vp:AV}{p:Int}:B_ t c q b (.p .a) (.obj q (.row (t.ka c p vp b 0 0 0 0))::.sl vp 1 [[pR p1],[vq p2],[iC p3]]::(pQ q p1 v1 Np false++vu t q p2 vt vx Np false++iB q p3 v3 Np false))
 |p1 {p1 v1 p2 vt vx p3 v3 qm:Nat}{vp:AV}{p:Int}{σ:m_}{lm:List Own}(h:wD t.l.e c qm σ lm)(ho:σ.over=false):B_ t c q b (.p σ) (.obj q (.row (t.ka c p vp b 0 0 0 0))::.sl vp 1 [[pR p1],[vq p2],[iC p3]]::(pQ q p1 v1 (.ptr qm 0) true++vu t q p2 vt vx Np false++iB q p3 v3 Np false++lm))
 |c0 {p2 vt vx p3 v3:Nat}{vp:AV}{p:Int}:B_ t c q b (.c .a) (.obj q (.row (t.ka c p vp b 0 0 0 0))::.sl vp 1 [[vq p2],[iC p3]]::(vu t q p2 vt vx Np false++iB q p3 v3 Np false))
 |c1 {p2 vt vx p3 v3 qm:Nat}{vp:AV}{p bi:Int}{σ:cj}{lm:List Own}(h:Dq t qm bi σ lm)(ho:σ.over=false):B_ t c q b (.c σ) (.obj q (.row (t.ka c p vp b 0 0 0 0))::.sl vp 1 [[vq p2],[iC p3]]::(vu t q p2 vt vx (.ptr qm 0) true++iB q p3 v3 Np false++lm))
 |u0 {p3 v3:Nat}{vp:AV}{p key aq e:Int}:B_ t c q b (.u .a key aq e) (.obj q (.row (t.ka c p vp b 0 key aq e))::.sl vp 1 [[iC p3]]::(iB q p3 v3 Np false))
 |u1 {p3 v3 qm:Nat}{vp:AV}{p key aq e:Int}{σ:cG}{lm:List Own}(h:mE t.l.e c qm σ lm)(ho:σ.over=false):B_ t c q b (.u σ key aq e) (.obj q (.row (t.ka c p vp b 0 key aq e))::.sl vp 1 [[iC p3]]::(iB q p3 v3 (.ptr qm 0) true++lm))
 |d {vp:AV}{p key aq e:Int}:B_ t c q b (.d key aq e) [.obj q (.row (t.ka c p vp b 0 key aq e)),.sl vp 1 []]
theorem Dq.row {t:Tw}{q:Nat}{b:Int}{σ:cj}{lo:List Own}(h:Dq t q b σ lo)(ho:σ.over=false):∃line a i w key A er lf,lo=.obj q (.row (t.Ay line a i w key A b er))::lf:=by
 cases h<;>first|(cases ho;done)|exact⟨_,_,_,_,_,_,_,_,rfl⟩
section
variable{B0 S:AH}{W:List Nat}{own R lo:List Own}{ro:List aB}{m bl q:Nat}{x:Me}{rest:List AV}{t:Tw}{c b:Int}
theorem Qu {o1 own:List Own}(e:o1=own:=by conv=>lhs;simp only[Tw.ka,Tw.pS,Tw.cs,Lb.cs,Ar.cs,Ep.cs,pR,iC,vq,pQ,iB,vu,nU,lA,lB,lC]):o1=own:=e
theorem HA {σ:dY}(hs:t.ok)(hc:0<=c/\c<t.l.e.ah)(hx:x.gd)(ho:σ.over=false)(h:B_ t c q b σ lo)(H:Cx B0 W S (lo++(ad m bl x rest++R)) ro):
  aG EM (zF 713) [.ptr q 0,.ptr m 0] S λu S'=>∃ab,eW (B_ t c q σ.cM) dY.over (σ.step t c true x) (ad m bl · rest) R u ab/\Cx B0 W S' ab ro:=by
 have bt:=hs;unfold Tw.ok Lb.ok Ar.ok Sk.ok Ep.ok at bt;haveI:aU:=⟨⟩;haveI:dH:=⟨⟩;cases h with
 |@p0 p1 v1 p2 vt vx p3 v3 vp p=>
  refine y1 H Qu ?_;intros;refine Vx.bB (own:=[.obj q _,.sl _ 1 _,.obj p1 _,.obj v1 _,.obj p2 _,.obj vt _,.obj vx _,.obj p3 _,.obj v3 _]++([.obj _ (.row (t.l.e.rowP _ c 0 _))]++(ad m bl x rest++R))) HQ ?_;refine Vx.cC (A:=[_,_,_,_,_,_,_,_,_]) (λB W S H=>oy hs.2.2.2.2.2.1 hx (.a hc) H) λa' x' l' e hl=>?_;have e2:(dY.p .a).step t c true x=(if a'.over then .c .a else .p a',x'):=by show(_,_)=_;rw[e]
  cases ho:a'.over
  .refine z1 ?_;intros;exact aa (e2.trans (Prod.ext (if_neg (by rw[ho];simp)) rfl)) (.p1 hl ho) rfl HQ
  .cases hl with
   |a=>cases ho
   |b=>cases ho
   |c=>cases ho
   |d hp=>
    refine z1 ?_;exact aa e2 .c0 rfl HQ
 |@p1 p1 v1 p2 vt vx p3 v3 qm vp p σ lm h hF=>
  refine y1 H Qu ?_;intros;refine Vx.cC (A:=[_,_,_,_,_,_,_,_,_]) (λB W S H=>oy hs.2.2.2.2.2.1 hx h H) λa' x' l' e hl=>?_;have e2:(dY.p σ).step t c true x=(if a'.over then .c .a else .p a',x'):=by show(_,_)=_;rw[e]
  cases ho:a'.over
  .refine z1 ?_;intros;exact aa (e2.trans (Prod.ext (if_neg (by rw[ho];simp)) rfl)) (.p1 hl ho) rfl HQ
  .cases hl with
   |a=>cases ho
   |b=>cases ho
   |c=>cases ho
   |d hp=>
    refine z1 ?_;exact aa e2 .c0 rfl HQ
 |@c0 p2 vt vx p3 v3 vp p=>
  refine y1 H Qu ?_;intros;rename_i qL lL hL;refine Vx.bB (own:=[.obj q _,.sl _ 1 _,.obj p2 _,.obj vt _,.obj vx _,.obj p3 _,.obj v3 _]++(lL++(ad m bl x rest++R))) HQ ?_;refine Vx.cC (A:=[_,_,_,_,_,_,_]) (λB W S H=>Hw hs hx rfl hL H) λa' x' l' e hl=>?_;have e2:(dY.c .a).step t c true x=(dY.kh t c a',x'):=by show(dY.kh _ _ _,_)=_;rw[e]
  by_cases ho:a'.over=true
  .obtain⟨key,aq,er,rfl⟩:=cj.iD ho;have h3:=cj.yH rfl (congrArg Prod.fst e);cases hl with
   |d=>
    have e3:dY.kh t c (.d key aq er)=.u .a key aq er:=congrArg (dY.u · key aq er) (if_neg am);rcases h3 with rfl|⟨rfl,rfl,rfl⟩
    .refine z1 ?_;intros;all_goals exact aa (e2.trans (Prod.ext e3 rfl)) .u0 rfl HQ
    .refine z1 ?_;intros;all_goals exact aa (e2.trans (Prod.ext e3 rfl)) .u0 rfl HQ
  .rw[Bool.not_eq_true] at ho;obtain⟨line,a,i,w,key,A,er,lf,rfl⟩:=hl.row ho;rw[ho];refine z1 ?_;intros;have e3:(dY.c .a).step t c true x=(.c a',x'):=e2.trans (Prod.ext (by cases a'<;>first|rfl|cases ho) rfl);exact aa e3 (.c1 hl ho) rfl HQ
 |@c1 p2 vt vx p3 v3 qm vp p bi σ lm h hF=>
  refine y1 H Qu ?_;intros;refine Vx.cC (A:=[_,_,_,_,_,_,_]) (λB W S H=>Hw hs hx hF h H) λa' x' l' e hl=>?_;have e2:(dY.c σ).step t c true x=(dY.kh t c a',x'):=by show(dY.kh _ _ _,_)=_;rw[e]
  by_cases ho:a'.over=true
  .obtain⟨key,aq,er,rfl⟩:=cj.iD ho;have h3:=cj.yH hF (congrArg Prod.fst e);cases hl with
   |d=>
    have e3:dY.kh t c (.d key aq er)=.u .a key aq er:=congrArg (dY.u · key aq er) (if_neg am);rcases h3 with rfl|⟨rfl,rfl,rfl⟩
    .refine z1 ?_;intros;all_goals exact aa (e2.trans (Prod.ext e3 rfl)) .u0 rfl HQ
    .refine z1 ?_;intros;all_goals exact aa (e2.trans (Prod.ext e3 rfl)) .u0 rfl HQ
  .rw[Bool.not_eq_true] at ho;obtain⟨line,a,i,w,key,A,er,lf,rfl⟩:=hl.row ho;rw[ho];refine z1 ?_;intros;have e3:(dY.c σ).step t c true x=(.c a',x'):=e2.trans (Prod.ext (by cases a'<;>first|rfl|cases ho) rfl);exact aa e3 (.c1 hl ho) rfl HQ
 |@u0 p3 v3 vp p key aq er=>
  refine y1 H Qu ?_;intros;refine Vx.bB (own:=[.obj q _,.sl _ 1 _,.obj p3 _,.obj v3 _]++([.obj _ (.row (LI [.fn (.func 610) [.ptr _ 0] [],Nf,Nf] 0 0++[I (t.l.e.pins+c)]))]++(ad m bl x rest++R))) HQ ?_;refine Vx.cC (A:=[_,_,_,_]) (λB W S H=>gG hs.2.2.2.2.2.1 hx (.a hc) H) λa' x' l' e hl=>?_;have e2:(dY.u .a key aq er).step t c true x=(if a'.over then .d key aq er else .u a' key aq er,x'):=by show(_,_)=_;rw[e]
  cases ho:a'.over
  .refine z1 ?_;intros;exact aa (e2.trans (Prod.ext (if_neg (by rw[ho];simp)) rfl)) (.u1 hl ho) rfl HQ
  .refine z1 ?_;exact aa (e2.trans (Prod.ext (if_pos ho) rfl)) .d rfl HQ
 |@u1 p3 v3 qm vp p key aq er σ lm h hF=>
  refine y1 H Qu ?_;intros;refine Vx.cC (A:=[_,_,_,_]) (λB W S H=>gG hs.2.2.2.2.2.1 hx h H) λa' x' l' e hl=>?_;have e2:(dY.u σ key aq er).step t c true x=(if a'.over then .d key aq er else .u a' key aq er,x'):=by show(_,_)=_;rw[e]
  cases ho:a'.over
  .refine z1 ?_;intros;exact aa (e2.trans (Prod.ext (if_neg (by rw[ho];simp)) rfl)) (.u1 hl ho) rfl HQ
  .refine z1 ?_;exact aa (e2.trans (Prod.ext (if_pos ho) rfl)) .d rfl HQ
 |d=>cases ho
end
section
variable{nd hd ht c3 c4 n c6 c7 c8 c9 dP dp dM c:Int}
instance Vm:NC EM (zF 507) [.agg [I nd,I hd,I ht,I c3,I c4,I n,I c6,I c7,I c8,I c9,I dP,I dp,I dM],I c] (((0<=nd/\nd<4096)/\(0<=hd/\hd<4096)/\(1<=ht/\ht<=4)/\1<=n/\n<=128)/\0<=c/\c<dp)
  (λq l=>B_ ⟨nd,hd,ht,⟨⟨⟨c3,c4,n⟩,c6,c7,c8⟩,⟨c9,dP,dp⟩,dM⟩⟩ c q 0 (.p .a) l):=.of rfl rfl λh ro R=>by
 obtain⟨h0,hc⟩:=h;have h0':0<=p9 nd ht 0 0:=by unfold p9;omega
 haveI:aU:=⟨⟩;haveI:dH:=⟨⟩;show Zx EM false (Tryz.a507 _) _ _ _ _;refine z1 ?_;intros;exact⟨rfl,rfl,(_::_::_::_::_::_::_::_::_::R),⟨_,_,B_.p0,rfl,rfl⟩,HQ⟩
end
instance z47:cH 716 where
instance z48:cH 717 where
instance XZ {l}{i:Int}:LD (bq l) i (0<=i/\i<l.length) (U (l[i.toNat]?.getD 0)) where
 ok:=λh=>⟨i.toNat,am,by
  have hn:i.toNat<l.length:=am;rw[jX (n:=l[i.toNat]) (List.getElem?_eq_getElem hn),List.getElem?_eq_getElem hn];rfl⟩
def bT (l:List Int):Nat->Int
 |0=>-1
 |n+1=>if bT l n<0\/l[(bT l n).toNat]?.getD 0<l[n]?.getD 0 then n else bT l n
theorem gI {l}:∀n,(n=0/\bT l n=-1)\/(0<n/\0<=bT l n/\bT l n<n)
 |0=>.inl ⟨rfl,rfl⟩
 |n+1=>by
  right;unfold bT;split;.omega
  .next h=>rcases gI (l:=l) n with⟨_,h2⟩|⟨_,h2,h3⟩<;>omega
theorem rU {l}:∀(k:Nat) (m:List Int),l.drop k=m->k<=l.length->0<k->∀b:Nat,bT l k=b->((ve m k b (l[b]?.getD 0):Nat):Int)=bT l l.length
 |k,[],hm,hk,h0,b,hb=>by
  have:l.length<=k:=by have:=congrArg List.length hm;simp at this;omega
  obtain rfl:k=l.length:=am;rw[hb];rfl
 |k,w::m,hm,hk,h0,b,hb=>by
  have cA:k<l.length:=by
   rcases Nat.lt_or_ge k l.length with h|h;.exact h
   .rw[List.drop_eq_nil_of_le h] at hm;cases hm
  have hw:l[k]?.getD 0=w:=by
   have:l[k]?=some w:=by rw[<-List.head?_drop,hm];rfl
   rw[this];rfl
  have hd:l.drop (k+1)=m:=by rw[<-List.tail_drop,hm];rfl
  unfold ve;have e:bT l (k+1)=if l[b]?.getD 0<w then(k:Int) else b:=by
   conv=>lhs;unfold bT
   rw[hb,hw];have:¬(b:Int)<0:=am;simp[this]
  split
  .next h=>
   rw[if_pos h] at e;have:=rU (k+1) m hd am am k e
   rwa[hw] at this
  .next h=>rw[if_neg h] at e;exact rU (k+1) m hd am am b e
theorem nV {l}(h:l≠[]):((du l:Nat):Int)=bT l l.length:=by
 cases l with
 |nil=>exact absurd rfl h
 |cons w m=>have:=rU (l:=w::m) 1 m rfl ac am 0 (by unfold bT bT;simp);exact this
theorem Vx.Nu {M own ro Φ K body outs}(N:Nat)(st:Nat->List AV)
  (hs:∀i:Nat,i<N->(Vx M (.ret .normal (st (i+1))) (.loop body outs::K) own ro Φ)->Zx M false (body (st i)) (.loop body outs::K) own ro Φ)
  (he:Zx M false (body (st N)) (.loop body outs::K) own ro Φ):Vx M (.loop (st 0) body outs) K own ro Φ:=by
 have key:∀k i:Nat,i+k=N->Vx M (body (st i)) (.loop body outs::K) own ro Φ:=by
  intro k;induction k with
  |zero=>
   intro i hi;obtain rfl:i=N:=am;exact he.ok
  |succ k ih=>intro i hi;exact(hs i am (Vx.Qj (ih (i+1) am))).ok
 exact Vx.loop (key N 0 am)
theorem Vx.Eu {M own ro Φ K v x}{i:Int}{P:Prop}[c:G7 own v i P x]{g:Bool}{k}(hp:P)(h:Zx M false (k x) K own ro Φ):Vx M (.op (.da 1 v (I i)) λp=>.hZ (cO.B g) g (.load 1 false p) k) K own ro Φ:=λB W S H=>by
 obtain⟨t,vs,S',⟨n0,h1⟩,h2⟩:=(Zx.Xs (v:=v) (i:=i) (bL.of hp) h).ok B W S H;refine⟨t,vs,S',⟨n0,λn hn=>?_⟩,h2⟩;rw[<-h1 n hn];cases g<;>rfl
instance aa5 {R0 v l}:SC EM (zF 715) [v,.fn (.func 716) [] []] (.sl v 1 (bq l)::R0) (l.length<=64) (I (bT l l.length)) (.sl v 1 (bq l)::R0):=.of rfl rfl λhl ro R=>by
 have hu:Int.ofNat (bq l).length=(l.length:Int):=congrArg Int.ofNat (eD l);have n0:∀a b:AV,nth [a,b] 0=a:=λ_ _=>rfl;have n1:∀a b:AV,nth [a,b] 1=b:=λ_ _=>rfl;show Zx EM false (Tryz.a715 _) _ _ _ _;rw[Tryz.u715];simp only[lA,lB,n0,n1];refine z1 ?_;rw[hu];refine Vx.Nu l.length (λi=>[I (i:Int),I (bT l i)]) ?_ ?_
 .intro i hi hn;have hb:=gI (l:=l) i;have e1:((i+1:Nat):Int)=(i:Int)+1:=am;have e2:bT l (i+1)=if bT l i<0\/l[(bT l i).toNat]?.getD 0<l[i]?.getD 0 then(i:Int) else bT l i:=rfl
  simp only[e1,e2] at hn;have ei:(Int.toNat (i:Int))=i:=Int.toNat_natCast i;show Zx EM false ((λvs=>_) [I (i:Int),I (bT l i)]) _ _ _ _;clear e1 e2;generalize hz:(i:Int)=z at*
  rw[<-ei] at hn;refine z2 ?_ ?_<;>intros
  .next h1 h2=>exact Vx.bB HQ (by rw[if_pos (.inl (by rw[ei];exact h2))] at hn;exact hn)
  .next h1 h2=>
   refine Vx.Eu am ?_;refine z3 ?_ ?_ ?_<;>intros
   all_goals simp only[ei] at*
   all_goals first
    |(rw[if_neg am] at hn;exact Vx.bB HQ hn)
    |(rw[if_pos (.inr am)] at hn;exact Vx.bB HQ hn)
 .refine z1 ?_;intros;exact⟨rfl,rfl,_,⟨rfl,rfl⟩,.rfl'⟩
instance z49 {n:Nat}[Mn n [712,143,509,710,711,714,571,503]]:cH n where
def Rs.ok (r:Rs):Prop:=(0<=r.runs/\r.runs<4096)/\(0<=r.flags/\r.flags<4096)/\1<=r.ah/\r.ah<=64
def Rs.qY (r:Rs)(cb left:Int)(look:AV)(key:Int)(words:AV)(du flag cM:Int)(done:Bool)(er:Int):List AV:=[I cb,I left,I r.runs,I r.flags,I r.ah,look,U key,words,I du,I flag,U cM,B true,B done,I er]
inductive qZ (t:Tw)(r:Rs)(c:Int)(q:Nat)(b:Int):cN->List Own->Prop
 |k {ql:Nat}{bi:Int}{σ lk}(h:B_ t c ql bi σ lk)(ho:σ.over=false):qZ t r c q b (.k σ) (.obj q (.row (r.qY r.runs r.ah (.ptr ql 0) 0 Ns (-1) (-1) b false 0))::lk)
 |r0 {key:Int}:qZ t r c q b (.r key []) [.obj q (.row (r.qY r.runs r.ah Np key Ns (-1) (-1) b false 0))]
 |r1 {cb left key:Int}{l v L}(h0:l≠[])(hl:(l.length:Int)<r.ah)(ha:cb=r.runs+l.length)(hf:left=r.ah-l.length)(hL:L=bq l)(hv:AV.beq v v=true):qZ t r c q b (.r key l) [.obj q (.row (r.qY cb left Np key v (-1) (-1) b false 0)),.sl v 1 L]
 |f {cb key w:Int}{v}(hw:0<=w/\w<r.ah):qZ t r c q b (.f w) [.obj q (.row (r.qY cb 0 Np key v w (-1) b false 0))]
 |d {cb left key du flag e:Int}{look words}:qZ t r c q b (.d e) [.obj q (.row (r.qY cb left look key words du flag b true e))]
theorem B_.row {t}{c:Int}{q:Nat}{b:Int}{σ lo}(h:B_ t c q b σ lo)(ho:σ.over=false):∃p vp x0 L key aq e lf,lo=.obj q (.row (t.ka c p vp b 0 key aq e))::.sl vp 1 (x0::L)::lf:=by
 cases h<;>first|(cases ho;done)|exact⟨_,_,_,_,_,_,_,_,rfl⟩
theorem dY.iD {σ:dY}(h:σ.over=true):∃key aq e,σ=.d key aq e:=by cases σ<;>first|exact⟨_,_,_,rfl⟩|cases h
section
variable{nd hd ht c3 c4 n c6 c7 c8 c9 dP dp dM rr rf rc c:Int}
instance X0:NC EM (zF 413) [.agg [I nd,I hd,I ht,I c3,I c4,I n,I c6,I c7,I c8,I c9,I dP,I dp,I dM],.agg [I rr,I rf,I rc],I c] (((0<=nd/\nd<4096)/\(0<=hd/\hd<4096)/\(1<=ht/\ht<=4)/\1<=n/\n<=128)/\(0<=c/\c<dp)/\1<=rc/\rc<=64)
  (λq l=>qZ ⟨nd,hd,ht,⟨⟨⟨c3,c4,n⟩,c6,c7,c8⟩,⟨c9,dP,dp⟩,dM⟩⟩ ⟨rr,rf,rc⟩ c q 0 (.k (.p .a)) l):=.of rfl rfl λh ro R=>by
 obtain⟨h0,hc,hr⟩:=h;show Zx EM false (Tryz.a413 _) _ _ _ _;refine z1 ?_;intros;rename_i q1 q2 ql lL hL q3;haveI:cH 508:=⟨⟩;cases hL with
 |p0=>
  simp only[Tw.ka,Tw.pS,Tw.cs,Lb.cs,Ar.cs,Ep.cs,pR,iC,vq,pQ,iB,vu,nU,lA,lB,lC];refine x1 ?_;intros;exact⟨rfl,rfl,(_::_::_::_::_::_::_::_::_::_::R),⟨_,_,qZ.k .p0 rfl,rfl,rfl⟩,HQ⟩
 |@p1 p1 v1 p2 vt vx p3 v3 qm vp p _ lm h ho=>simp only[Tw.ka,Tw.pS,Tw.cs,Lb.cs,Ar.cs,Ep.cs,pR,iC,vq,pQ,iB,vu,nU,lA,lB,lC];refine x1 ?_;intros;exact⟨rfl,rfl,(_::_::_::_::_::_::_::_::_::_::(lm++R)),⟨_,_,qZ.k (.p1 h ho) rfl,rfl,rfl⟩,HQ⟩
end
instance z50:cH 508 where
section
variable{B0 S:AH}{W:List Nat}{own R lo:List Own}{ro:List aB}{m bl q:Nat}{x:Me}{rest:List AV}{t:Tw}{r:Rs}{c b:Int}
theorem Vn {o1 own:List Own}(e:o1=own:=by conv=>lhs;simp only[Rs.qY,lA,lB,lC]):o1=own:=e
theorem Ds {σ:cN}(hs:t.ok)(hr:r.ok)(hc:0<=c/\c<t.l.e.ah)(hx:x.gd)(ho:σ.over=false)(h:qZ t r c q b σ lo)(H:Cx B0 W S (lo++(ad m bl x rest++R)) ro):
  aG EM (zF 709) [.ptr q 0,.ptr m 0] S λu S'=>∃ab,eW (qZ t r c q σ.cM) cN.over (σ.step t r c x) (ad m bl · rest) R u ab/\Cx B0 W S' ab ro:=by
 have py:=hr;unfold Rs.ok at py;haveI:aU:=⟨⟩;haveI:dH:=⟨⟩;have n0:∀a b:AV,nth [a,b] 0=a:=λ_ _=>rfl;have n1:∀a b:AV,nth [a,b] 1=b:=λ_ _=>rfl;cases h with
 |@k ql bi σ lk h hF=>
  refine y1 H Vn ?_;refine Vx.fV (A:=[_]) (λB W S H=>HA hs hc hx hF h H) λa' x' l' e hl=>?_;have e2:(cN.k σ).step t r c x=(cN.kh a',x'):=by show(cN.kh _,_)=_;rw[e]
  by_cases ho:a'.over=true
  .obtain⟨key,aq,er,rfl⟩:=dY.iD ho;cases hl with
   |d=>
    refine z3 ?_ ?_ ?_<;>intros
    .have h0:er=0:=ci;exact aa (e2.trans (Prod.ext (if_pos h0) rfl)) .r0 rfl HQ
    .have h0:¬er=0:=ci;have h1:er=15:=ci;exact aa (e2.trans (Prod.ext ((if_neg h0).trans (if_pos h1)) rfl)) .d rfl HQ
    .have h0:¬er=0:=ci;have h1:¬er=15:=ci;exact aa (e2.trans (Prod.ext ((if_neg h0).trans (if_neg h1)) rfl)) .d rfl HQ
  .rw[Bool.not_eq_true] at ho;obtain⟨p,vp,x0,L,key,aq,er,lf,rfl⟩:=hl.row ho;rw[ho];refine z1 ?_;have e3:(cN.k σ).step t r c x=(.k a',x'):=e2.trans (Prod.ext (by cases a'<;>first|rfl|cases ho) rfl);exact aa e3 (.k hl ho) rfl HQ
 |@r0 key=>
  have hw:=Me.aj hx r.runs;refine y2 H Vn ?_ ?_<;>intros
  all_goals try simp only[show r.runs+1-1=r.runs by omega]
  .have h1:r.ah-1=0:=ci;rw[show List.map (λa=>[a]) [Z IntKind.u64 (x.word r.runs)]=bq [x.word r.runs] from rfl];have JZ:=nV (l:=[x.word r.runs]) ac;have hb:=gI (l:=[x.word r.runs]) ([x.word r.runs]).length;have LL:([x.word r.runs]).length=1:=ac;simp only[n0,n1];refine x1 ?_;refine Vx.Eu am ?_;refine z2 ?_ ?_<;>intros
   all_goals have ew:(bT ([x.word r.runs]) ([x.word r.runs]).length).toNat=du ([x.word r.runs]):=by rw[<-JZ];exact Int.toNat_natCast _
   all_goals rw[h1]
   .next h=>
    have e3:(cN.r key []).step t r c x=(.d 0,x.ld (r.runs)):=by have e0:r.runs+((0:Nat):Int)=r.runs:=am;show(if((0:Nat):Int)+1=r.ah then(if [x.word (r.runs+((0:Nat):Int))][du [x.word (r.runs+((0:Nat):Int))]]?.getD 0<=key then cN.d 0 else .f (du [x.word (r.runs+((0:Nat):Int))])) else .r key [x.word (r.runs+((0:Nat):Int))],x.ld (r.runs+((0:Nat):Int)))=_;rw[ew] at h;rw[e0,if_pos am,if_pos h]
    exact aa e3 .d rfl HQ
   .next h=>
    have e3:(cN.r key []).step t r c x=(.f (du ([x.word r.runs])),x.ld (r.runs)):=by have e0:r.runs+((0:Nat):Int)=r.runs:=am;show(if((0:Nat):Int)+1=r.ah then(if [x.word (r.runs+((0:Nat):Int))][du [x.word (r.runs+((0:Nat):Int))]]?.getD 0<=key then cN.d 0 else .f (du [x.word (r.runs+((0:Nat):Int))])) else .r key [x.word (r.runs+((0:Nat):Int))],x.ld (r.runs+((0:Nat):Int)))=_;rw[ew] at h;rw[e0,if_pos am,if_neg h]
    rw[<-JZ];exact aa e3 (.f am) rfl HQ
  .have h1:¬r.ah-1=0:=ci;have e3:(cN.r key []).step t r c x=(.r key [x.word r.runs],x.ld r.runs):=by show(if _ then _ else cN.r key ([]++[x.word (r.runs+(0:Nat))]),x.ld (r.runs+(0:Nat)))=_;rw[if_neg (by simp;omega),show r.runs+((0:Nat):Int)=r.runs by omega];rfl
   exact aa e3 (.r1 (cb:=r.runs+1) (left:=r.ah-1) (l:=[x.word r.runs]) ac (by simp;omega) rfl rfl rfl ci) rfl HQ
 |@r1 cb left key l v L h0 hl ha hf hL hv=>
  subst ha hf hL;have hw:=Me.aj hx (r.runs+l.length);have X1:=eD l;refine y3 H Vn ?_ ?_ ?_<;>intros
  .rw[X1];simp;omega
  all_goals try simp only[show r.runs+l.length+1-1=r.runs+l.length by omega]
  all_goals rw[show bq l++List.map (λa=>[a]) [Z IntKind.u64 (x.word (r.runs+l.length))]=bq (l++[x.word (r.runs+l.length)]) from by simp[bq]]
  .have h1:r.ah-l.length-1=0:=ci;have JZ:=nV (l:=l++[x.word (r.runs+l.length)]) ac;have hb:=gI (l:=l++[x.word (r.runs+l.length)]) (l++[x.word (r.runs+l.length)]).length;have LL:(l++[x.word (r.runs+l.length)]).length=l.length+1:=ac;simp only[n0,n1];refine x1 ?_;intros;refine Vx.Eu am ?_;refine z2 ?_ ?_<;>intros
   all_goals have ew:(bT (l++[x.word (r.runs+l.length)]) (l++[x.word (r.runs+l.length)]).length).toNat=du (l++[x.word (r.runs+l.length)]):=by rw[<-JZ];exact Int.toNat_natCast _
   all_goals rw[h1]
   .next h=>
    have e3:(cN.r key l).step t r c x=(.d 0,x.ld (r.runs+l.length)):=by show(if _ then(if(l++[x.word (r.runs+l.length)])[du (l++[x.word (r.runs+l.length)])]?.getD 0<=key then cN.d 0 else _) else _,x.ld (r.runs+l.length))=_;rw[ew] at h;rw[if_pos am,if_pos h]
    exact aa e3 .d rfl HQ
   .next h=>
    have e3:(cN.r key l).step t r c x=(.f (du (l++[x.word (r.runs+l.length)])),x.ld (r.runs+l.length)):=by show(if _ then(if(l++[x.word (r.runs+l.length)])[du (l++[x.word (r.runs+l.length)])]?.getD 0<=key then cN.d 0 else .f (du (l++[x.word (r.runs+l.length)]))) else _,x.ld (r.runs+l.length))=_;rw[ew] at h;rw[if_pos am,if_neg h]
    rw[<-JZ];exact aa e3 (.f am) rfl HQ
  .have h1:¬r.ah-l.length-1=0:=ci;have e3:(cN.r key l).step t r c x=(.r key (l++[x.word (r.runs+l.length)]),x.ld (r.runs+l.length)):=by show(if _ then _ else cN.r key (l++[x.word (r.runs+l.length)]),x.ld (r.runs+l.length))=_;rw[if_neg am]
   exact aa e3 (.r1 (cb:=r.runs+l.length+1) (left:=r.ah-l.length-1) (l:=l++[x.word (r.runs+l.length)]) ac (by simp;omega) (by simp;omega) (by simp;omega) rfl ci) rfl HQ
 |@f cb key w v hw=>
  refine y1 H Vn ?_;exact aa rfl .d rfl HQ
 |d=>cases ho
end
end Go.cO
