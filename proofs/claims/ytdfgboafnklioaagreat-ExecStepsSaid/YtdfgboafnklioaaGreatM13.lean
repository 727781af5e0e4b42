/- Contracts. Conditions: in each theorem. -/
import Derived.Test.YtdfgboafnklioaaGreatM12
set_option linter.all false
set_option maxRecDepth 100000
set_option maxHeartbeats 4000000
namespace Go.cG
open Go.Proofs
instance z44:cK 500 where
theorem cj.iG {σ:cj}(h:σ.over=true):∃key ar e,σ=.d key ar e:=by cases σ<;>first|exact⟨_,_,_,rfl⟩|cases h
theorem cj.yZ {t:Tw}{look:Bool}{x:Me}{σ:cj}{key ar e:Int}(ho:σ.over=false)(h:(σ.step t look x).1=.d key ar e):e=0\/key=0/\ar=0/\e=15:=by
 have hb:∀{A i:Int} {l:Nat},cj.below A i l≠.d key ar e:=λh=>by unfold cj.below at h;split at h<;>cases h
 cases σ<;>simp only[cj.step] at h
 all_goals first|(cases ho;done)|(cases h;done)|(exact(hb h).elim)|skip
 all_goals(split at h<;>first|(cases h;done)|(cases h;first|exact .inl rfl|exact .inr ⟨rfl,rfl,rfl⟩)|(exact(hb h).elim)|skip)
 all_goals(split at h<;>first|(cases h;done)|(cases h;first|exact .inl rfl|exact .inr ⟨rfl,rfl,rfl⟩)|(exact(hb h).elim))
def Tw.ka (t:Tw)(c p:Int)(parts:AV)(cR er key ar e:Int):List AV:=t.pY c p parts cR er++[U key,I ar,I e]
section
variable{nd hd ht c3 c4 n c6 c7 c8 c9 dS dt dW c key ar high:Int}
instance Yo:NC EM (zF 405) [.agg [I nd,I hd,I ht,I c3,I c4,I n,I c6,I c7,I c8,I c9,I dS,I dt,I dW],I c,U key,I ar,I high] (((0<=nd/\nd<4096)/\(0<=hd/\hd<4096)/\(1<=ht/\ht<=4)/\1<=n/\n<=128)/\(0<=c/\c<dt)/\(0<=key/\key<18446744073709551615)/\(0<=ar/\ar<=65534)/\1<=high/\high<=ht)
  (λq l=>i4 ⟨nd,hd,ht,⟨⟨⟨c3,c4,n⟩,c6,c7,c8⟩,⟨c9,dS,dt⟩,dW⟩⟩ c key ar high q 0 (.p .a 0) l):=.of rfl rfl λh ro R=>by
 obtain⟨h0,hc,hk,hj,hh⟩:=h;have h0':0<=qo nd ht 0 0:=by unfold qo;omega
 haveI:aY:=⟨⟩;haveI:dQ:=⟨⟩;show Zx EM false (Tryz.a405 _) _ _ _ _;refine z1 ?_;intros;exact⟨rfl,rfl,(_::_::_::_::_::_::R),⟨_,_,i4.p0 am,rfl,rfl⟩,HQ⟩
end
instance z45 {n:Nat}[Mn n [511,514,515,573]]:cK n where
def vL (p:Nat):AV:=.iface 598 (.ptr p 0)
def vM (t:Tw)(q p vt vx:Nat)(now:AV)(made:Bool):List Own:=[.obj p (.row [.fn (.func 511) [] [.ptr vt 0],.fn (.func 513) [] [],.fn (.func 514) [] [.ptr vx 0],now,B made]),.obj vt (.row t.cs),.obj vx (.row [.ptr q 0])]
inductive AW (t:Tw)(c:Int)(q:Nat)(b:Int):et->List Own->Prop
 |p0 {p1 v1 p2 vt vx p3 v3:Nat}{vp:AV}{p:Int}:AW t c q b (.p .a) (.obj q (.row (t.ka c p vp b 0 0 0 0))::.sl vp 1 [[pX p1],[vL p2],[iF p3]]::(pW q p1 v1 Np false++vM t q p2 vt vx Np false++iE q p3 v3 Np false))
 |p1 {p1 v1 p2 vt vx p3 v3 qm:Nat}{vp:AV}{p:Int}{σ:nk}{lm:List Own}(h:w_ t.l.e c qm σ lm)(ho:σ.over=false):AW t c q b (.p σ) (.obj q (.row (t.ka c p vp b 0 0 0 0))::.sl vp 1 [[pX p1],[vL p2],[iF p3]]::(pW q p1 v1 (.ptr qm 0) true++vM t q p2 vt vx Np false++iE q p3 v3 Np false++lm))
 |c0 {p2 vt vx p3 v3:Nat}{vp:AV}{p:Int}:AW t c q b (.c .a) (.obj q (.row (t.ka c p vp b 0 0 0 0))::.sl vp 1 [[vL p2],[iF p3]]::(vM t q p2 vt vx Np false++iE q p3 v3 Np false))
 |c1 {p2 vt vx p3 v3 qm:Nat}{vp:AV}{p bi:Int}{σ:cj}{lm:List Own}(h:wF t qm bi σ lm)(ho:σ.over=false):AW t c q b (.c σ) (.obj q (.row (t.ka c p vp b 0 0 0 0))::.sl vp 1 [[vL p2],[iF p3]]::(vM t q p2 vt vx (.ptr qm 0) true++iE q p3 v3 Np false++lm))
 |u0 {p3 v3:Nat}{vp:AV}{p key ar e:Int}:AW t c q b (.u .a key ar e) (.obj q (.row (t.ka c p vp b 0 key ar e))::.sl vp 1 [[iF p3]]::(iE q p3 v3 Np false))
 |u1 {p3 v3 qm:Nat}{vp:AV}{p key ar e:Int}{σ:cM}{lm:List Own}(h:mK t.l.e c qm σ lm)(ho:σ.over=false):AW t c q b (.u σ key ar e) (.obj q (.row (t.ka c p vp b 0 key ar e))::.sl vp 1 [[iF p3]]::(iE q p3 v3 (.ptr qm 0) true++lm))
 |d {vp:AV}{p key ar e:Int}:AW t c q b (.d key ar e) [.obj q (.row (t.ka c p vp b 0 key ar e)),.sl vp 1 []]
theorem wF.row {t:Tw}{q:Nat}{b:Int}{σ:cj}{lo:List Own}(h:wF t q b σ lo)(ho:σ.over=false):∃lv Co fd rt line a i w key A er lf,lo=.obj q (.row (t.dX lv Co fd rt line a i w key A b er))::lf:=by
 cases h<;>first|(cases ho;done)|exact⟨_,_,_,_,_,_,_,_,_,_,_,_,rfl⟩
section
variable{B0 S:AH}{W:List Nat}{own R lo:List Own}{ro:List aI}{m bl q:Nat}{x:Me}{rest:List AV}{t:Tw}{c b:Int}
theorem QC {o1 own:List Own}(e:o1=own:=by conv=>lhs;simp only[Tw.ka,Tw.pY,Tw.cs,Lb.cs,Ar.cs,Ep.cs,pX,iF,vL,pW,iE,vM,oe,lA,lB,lC]):o1=own:=e
theorem AX {σ:et}(hs:t.ok)(hc:0<=c/\c<t.l.e.ad)(hx:x.gd)(ho:σ.over=false)(h:AW t c q b σ lo)(H:Cx B0 W S (lo++(ae m bl x rest++R)) ro):
  aN EM (zF 719) [.ptr q 0,.ptr m 0] S λu S'=>∃ab,fb (AW t c q σ.cR) et.over (σ.step t c false x) (ae m bl · rest) R u ab/\Cx B0 W S' ab ro:=by
 have bt:=hs;unfold Tw.ok Lb.ok Ar.ok Sk.ok Ep.ok at bt;haveI:aY:=⟨⟩;haveI:dQ:=⟨⟩;cases h with
 |@p0 p1 v1 p2 vt vx p3 v3 vp p=>
  refine y1 H QC ?_;intros;refine Vx.bQ (own:=[.obj q _,.sl _ 1 _,.obj p1 _,.obj v1 _,.obj p2 _,.obj vt _,.obj vx _,.obj p3 _,.obj v3 _]++([.obj _ (.row (t.l.e.rowP _ c 0 _))]++(ae m bl x rest++R))) HQ ?_;refine Vx.cz (A:=[_,_,_,_,_,_,_,_,_]) (λB W S H=>oM hs.2.2.2.2.2.1 hx (.a hc) H) λa' x' l' e hl=>?_;have e2:(et.p .a).step t c false x=(if a'.over then .c .a else .p a',x'):=by show(_,_)=_;rw[e]
  cases ho:a'.over
  .refine z1 ?_;intros;exact aa (e2.trans (Prod.ext (if_neg (by rw[ho];simp)) rfl)) (.p1 hl ho) rfl HQ
  .cases hl with
   |a=>cases ho
   |b=>cases ho
   |c=>cases ho
   |d hp=>
    refine z1 ?_;exact aa e2 .c0 rfl HQ
 |@p1 p1 v1 p2 vt vx p3 v3 qm vp p σ lm h hF=>
  refine y1 H QC ?_;intros;refine Vx.cz (A:=[_,_,_,_,_,_,_,_,_]) (λB W S H=>oM hs.2.2.2.2.2.1 hx h H) λa' x' l' e hl=>?_;have e2:(et.p σ).step t c false x=(if a'.over then .c .a else .p a',x'):=by show(_,_)=_;rw[e]
  cases ho:a'.over
  .refine z1 ?_;intros;exact aa (e2.trans (Prod.ext (if_neg (by rw[ho];simp)) rfl)) (.p1 hl ho) rfl HQ
  .cases hl with
   |a=>cases ho
   |b=>cases ho
   |c=>cases ho
   |d hp=>
    refine z1 ?_;exact aa e2 .c0 rfl HQ
 |@c0 p2 vt vx p3 v3 vp p=>
  refine y1 H QC ?_;intros;rename_i qL lL hL;refine Vx.bQ (own:=[.obj q _,.sl _ 1 _,.obj p2 _,.obj vt _,.obj vx _,.obj p3 _,.obj v3 _]++(lL++(ae m bl x rest++R))) HQ ?_;refine Vx.cz (A:=[_,_,_,_,_,_,_]) (λB W S H=>H3 hs hx rfl hL H) λa' x' l' e hl=>?_;have e2:(et.c .a).step t c false x=(et.kP t c a',x'):=by show(et.kP _ _ _,_)=_;rw[e]
  by_cases ho:a'.over=true
  .obtain⟨key,ar,er,rfl⟩:=cj.iG ho;have h3:=cj.yZ rfl (congrArg Prod.fst e);cases hl with
   |d=>
    have e3:et.kP t c (.d key ar er)=.u .a key ar er:=congrArg (et.u · key ar er) (if_neg am);rcases h3 with rfl|⟨rfl,rfl,rfl⟩
    .refine z1 ?_;intros;all_goals exact aa (e2.trans (Prod.ext e3 rfl)) .u0 rfl HQ
    .refine z1 ?_;intros;all_goals exact aa (e2.trans (Prod.ext e3 rfl)) .u0 rfl HQ
  .rw[Bool.not_eq_true] at ho;obtain⟨lv,Co,fd,rt,line,a,i,w,key,A,er,lf,rfl⟩:=hl.row ho;rw[ho];refine z1 ?_;intros;have e3:(et.c .a).step t c false x=(.c a',x'):=e2.trans (Prod.ext (by cases a'<;>first|rfl|cases ho) rfl);exact aa e3 (.c1 hl ho) rfl HQ
 |@c1 p2 vt vx p3 v3 qm vp p bi σ lm h hF=>
  refine y1 H QC ?_;intros;refine Vx.cz (A:=[_,_,_,_,_,_,_]) (λB W S H=>H3 hs hx hF h H) λa' x' l' e hl=>?_;have e2:(et.c σ).step t c false x=(et.kP t c a',x'):=by show(et.kP _ _ _,_)=_;rw[e]
  by_cases ho:a'.over=true
  .obtain⟨key,ar,er,rfl⟩:=cj.iG ho;have h3:=cj.yZ hF (congrArg Prod.fst e);cases hl with
   |d=>
    have e3:et.kP t c (.d key ar er)=.u .a key ar er:=congrArg (et.u · key ar er) (if_neg am);rcases h3 with rfl|⟨rfl,rfl,rfl⟩
    .refine z1 ?_;intros;all_goals exact aa (e2.trans (Prod.ext e3 rfl)) .u0 rfl HQ
    .refine z1 ?_;intros;all_goals exact aa (e2.trans (Prod.ext e3 rfl)) .u0 rfl HQ
  .rw[Bool.not_eq_true] at ho;obtain⟨lv,Co,fd,rt,line,a,i,w,key,A,er,lf,rfl⟩:=hl.row ho;rw[ho];refine z1 ?_;intros;have e3:(et.c σ).step t c false x=(.c a',x'):=e2.trans (Prod.ext (by cases a'<;>first|rfl|cases ho) rfl);exact aa e3 (.c1 hl ho) rfl HQ
 |@u0 p3 v3 vp p key ar er=>
  refine y1 H QC ?_;intros;refine Vx.bQ (own:=[.obj q _,.sl _ 1 _,.obj p3 _,.obj v3 _]++([.obj _ (.row (Mg [.fn (.func 610) [.ptr _ 0] [],Nf,Nf] 0 0++[I (t.l.e.pins+c)]))]++(ae m bl x rest++R))) HQ ?_;refine Vx.cz (A:=[_,_,_,_]) (λB W S H=>gM hs.2.2.2.2.2.1 hx (.a hc) H) λa' x' l' e hl=>?_;have e2:(et.u .a key ar er).step t c false x=(if a'.over then .d key ar er else .u a' key ar er,x'):=by show(_,_)=_;rw[e]
  cases ho:a'.over
  .refine z1 ?_;intros;exact aa (e2.trans (Prod.ext (if_neg (by rw[ho];simp)) rfl)) (.u1 hl ho) rfl HQ
  .refine z1 ?_;exact aa (e2.trans (Prod.ext (if_pos ho) rfl)) .d rfl HQ
 |@u1 p3 v3 qm vp p key ar er σ lm h hF=>
  refine y1 H QC ?_;intros;refine Vx.cz (A:=[_,_,_,_]) (λB W S H=>gM hs.2.2.2.2.2.1 hx h H) λa' x' l' e hl=>?_;have e2:(et.u σ key ar er).step t c false x=(if a'.over then .d key ar er else .u a' key ar er,x'):=by show(_,_)=_;rw[e]
  cases ho:a'.over
  .refine z1 ?_;intros;exact aa (e2.trans (Prod.ext (if_neg (by rw[ho];simp)) rfl)) (.u1 hl ho) rfl HQ
  .refine z1 ?_;exact aa (e2.trans (Prod.ext (if_pos ho) rfl)) .d rfl HQ
 |d=>cases ho
end
section
variable{nd hd ht c3 c4 n c6 c7 c8 c9 dS dt dW c:Int}
instance Vw:NC EM (zF 418) [.agg [I nd,I hd,I ht,I c3,I c4,I n,I c6,I c7,I c8,I c9,I dS,I dt,I dW],I c] (((0<=nd/\nd<4096)/\(0<=hd/\hd<4096)/\(1<=ht/\ht<=4)/\1<=n/\n<=128)/\0<=c/\c<dt)
  (λq l=>AW ⟨nd,hd,ht,⟨⟨⟨c3,c4,n⟩,c6,c7,c8⟩,⟨c9,dS,dt⟩,dW⟩⟩ c q 0 (.p .a) l):=.of rfl rfl λh ro R=>by
 obtain⟨h0,hc⟩:=h;have h0':0<=qo nd ht 0 0:=by unfold qo;omega
 haveI:aY:=⟨⟩;haveI:dQ:=⟨⟩;show Zx EM false (Tryz.a418 _) _ _ _ _;refine z1 ?_;intros;exact⟨rfl,rfl,(_::_::_::_::_::_::_::_::_::R),⟨_,_,AW.p0,rfl,rfl⟩,HQ⟩
end
instance z46 {n:Nat}[Mn n [566,569,570,608]]:cK n where
def vN (p:Nat):AV:=.iface 653 (.ptr p 0)
def vO (t:Tw)(q p vt vx:Nat)(now:AV)(made:Bool):List Own:=[.obj p (.row [.fn (.func 566) [] [.ptr vt 0],.fn (.func 568) [] [],.fn (.func 569) [] [.ptr vx 0],now,B made]),.obj vt (.row t.cs),.obj vx (.row [.ptr q 0])]
inductive Cp (t:Tw)(c:Int)(q:Nat)(b:Int):et->List Own->Prop
 |p0 {p1 v1 p2 vt vx p3 v3:Nat}{vp:AV}{p:Int}:Cp t c q b (.p .a) (.obj q (.row (t.ka c p vp b 0 0 0 0))::.sl vp 1 [[pX p1],[vN p2],[iF p3]]::(pW q p1 v1 Np false++vO t q p2 vt vx Np false++iE q p3 v3 Np false))
 |p1 {p1 v1 p2 vt vx p3 v3 qm:Nat}{vp:AV}{p:Int}{σ:nk}{lm:List Own}(h:w_ t.l.e c qm σ lm)(ho:σ.over=false):Cp t c q b (.p σ) (.obj q (.row (t.ka c p vp b 0 0 0 0))::.sl vp 1 [[pX p1],[vN p2],[iF p3]]::(pW q p1 v1 (.ptr qm 0) true++vO t q p2 vt vx Np false++iE q p3 v3 Np false++lm))
 |c0 {p2 vt vx p3 v3:Nat}{vp:AV}{p:Int}:Cp t c q b (.c .a) (.obj q (.row (t.ka c p vp b 0 0 0 0))::.sl vp 1 [[vN p2],[iF p3]]::(vO t q p2 vt vx Np false++iE q p3 v3 Np false))
 |c1 {p2 vt vx p3 v3 qm:Nat}{vp:AV}{p bi:Int}{σ:cj}{lm:List Own}(h:DK t qm bi σ lm)(ho:σ.over=false):Cp t c q b (.c σ) (.obj q (.row (t.ka c p vp b 0 0 0 0))::.sl vp 1 [[vN p2],[iF p3]]::(vO t q p2 vt vx (.ptr qm 0) true++iE q p3 v3 Np false++lm))
 |u0 {p3 v3:Nat}{vp:AV}{p key ar e:Int}:Cp t c q b (.u .a key ar e) (.obj q (.row (t.ka c p vp b 0 key ar e))::.sl vp 1 [[iF p3]]::(iE q p3 v3 Np false))
 |u1 {p3 v3 qm:Nat}{vp:AV}{p key ar e:Int}{σ:cM}{lm:List Own}(h:mK t.l.e c qm σ lm)(ho:σ.over=false):Cp t c q b (.u σ key ar e) (.obj q (.row (t.ka c p vp b 0 key ar e))::.sl vp 1 [[iF p3]]::(iE q p3 v3 (.ptr qm 0) true++lm))
 |d {vp:AV}{p key ar e:Int}:Cp t c q b (.d key ar e) [.obj q (.row (t.ka c p vp b 0 key ar e)),.sl vp 1 []]
theorem DK.row {t:Tw}{q:Nat}{b:Int}{σ:cj}{lo:List Own}(h:DK t q b σ lo)(ho:σ.over=false):∃line a i w key A er lf,lo=.obj q (.row (t.AS line a i w key A b er))::lf:=by
 cases h<;>first|(cases ho;done)|exact⟨_,_,_,_,_,_,_,_,rfl⟩
section
variable{B0 S:AH}{W:List Nat}{own R lo:List Own}{ro:List aI}{m bl q:Nat}{x:Me}{rest:List AV}{t:Tw}{c b:Int}
theorem QD {o1 own:List Own}(e:o1=own:=by conv=>lhs;simp only[Tw.ka,Tw.pY,Tw.cs,Lb.cs,Ar.cs,Ep.cs,pX,iF,vN,pW,iE,vO,oe,lA,lB,lC]):o1=own:=e
theorem H7 {σ:et}(hs:t.ok)(hc:0<=c/\c<t.l.e.ad)(hx:x.gd)(ho:σ.over=false)(h:Cp t c q b σ lo)(H:Cx B0 W S (lo++(ae m bl x rest++R)) ro):
  aN EM (zF 713) [.ptr q 0,.ptr m 0] S λu S'=>∃ab,fb (Cp t c q σ.cR) et.over (σ.step t c true x) (ae m bl · rest) R u ab/\Cx B0 W S' ab ro:=by
 have bt:=hs;unfold Tw.ok Lb.ok Ar.ok Sk.ok Ep.ok at bt;haveI:aY:=⟨⟩;haveI:dQ:=⟨⟩;cases h with
 |@p0 p1 v1 p2 vt vx p3 v3 vp p=>
  refine y1 H QD ?_;intros;refine Vx.bQ (own:=[.obj q _,.sl _ 1 _,.obj p1 _,.obj v1 _,.obj p2 _,.obj vt _,.obj vx _,.obj p3 _,.obj v3 _]++([.obj _ (.row (t.l.e.rowP _ c 0 _))]++(ae m bl x rest++R))) HQ ?_;refine Vx.cz (A:=[_,_,_,_,_,_,_,_,_]) (λB W S H=>oM hs.2.2.2.2.2.1 hx (.a hc) H) λa' x' l' e hl=>?_;have e2:(et.p .a).step t c true x=(if a'.over then .c .a else .p a',x'):=by show(_,_)=_;rw[e]
  cases ho:a'.over
  .refine z1 ?_;intros;exact aa (e2.trans (Prod.ext (if_neg (by rw[ho];simp)) rfl)) (.p1 hl ho) rfl HQ
  .cases hl with
   |a=>cases ho
   |b=>cases ho
   |c=>cases ho
   |d hp=>
    refine z1 ?_;exact aa e2 .c0 rfl HQ
 |@p1 p1 v1 p2 vt vx p3 v3 qm vp p σ lm h hF=>
  refine y1 H QD ?_;intros;refine Vx.cz (A:=[_,_,_,_,_,_,_,_,_]) (λB W S H=>oM hs.2.2.2.2.2.1 hx h H) λa' x' l' e hl=>?_;have e2:(et.p σ).step t c true x=(if a'.over then .c .a else .p a',x'):=by show(_,_)=_;rw[e]
  cases ho:a'.over
  .refine z1 ?_;intros;exact aa (e2.trans (Prod.ext (if_neg (by rw[ho];simp)) rfl)) (.p1 hl ho) rfl HQ
  .cases hl with
   |a=>cases ho
   |b=>cases ho
   |c=>cases ho
   |d hp=>
    refine z1 ?_;exact aa e2 .c0 rfl HQ
 |@c0 p2 vt vx p3 v3 vp p=>
  refine y1 H QD ?_;intros;rename_i qL lL hL;refine Vx.bQ (own:=[.obj q _,.sl _ 1 _,.obj p2 _,.obj vt _,.obj vx _,.obj p3 _,.obj v3 _]++(lL++(ae m bl x rest++R))) HQ ?_;refine Vx.cz (A:=[_,_,_,_,_,_,_]) (λB W S H=>H4 hs hx rfl hL H) λa' x' l' e hl=>?_;have e2:(et.c .a).step t c true x=(et.kP t c a',x'):=by show(et.kP _ _ _,_)=_;rw[e]
  by_cases ho:a'.over=true
  .obtain⟨key,ar,er,rfl⟩:=cj.iG ho;have h3:=cj.yZ rfl (congrArg Prod.fst e);cases hl with
   |d=>
    have e3:et.kP t c (.d key ar er)=.u .a key ar er:=congrArg (et.u · key ar er) (if_neg am);rcases h3 with rfl|⟨rfl,rfl,rfl⟩
    .refine z1 ?_;intros;all_goals exact aa (e2.trans (Prod.ext e3 rfl)) .u0 rfl HQ
    .refine z1 ?_;intros;all_goals exact aa (e2.trans (Prod.ext e3 rfl)) .u0 rfl HQ
  .rw[Bool.not_eq_true] at ho;obtain⟨line,a,i,w,key,A,er,lf,rfl⟩:=hl.row ho;rw[ho];refine z1 ?_;intros;have e3:(et.c .a).step t c true x=(.c a',x'):=e2.trans (Prod.ext (by cases a'<;>first|rfl|cases ho) rfl);exact aa e3 (.c1 hl ho) rfl HQ
 |@c1 p2 vt vx p3 v3 qm vp p bi σ lm h hF=>
  refine y1 H QD ?_;intros;refine Vx.cz (A:=[_,_,_,_,_,_,_]) (λB W S H=>H4 hs hx hF h H) λa' x' l' e hl=>?_;have e2:(et.c σ).step t c true x=(et.kP t c a',x'):=by show(et.kP _ _ _,_)=_;rw[e]
  by_cases ho:a'.over=true
  .obtain⟨key,ar,er,rfl⟩:=cj.iG ho;have h3:=cj.yZ hF (congrArg Prod.fst e);cases hl with
   |d=>
    have e3:et.kP t c (.d key ar er)=.u .a key ar er:=congrArg (et.u · key ar er) (if_neg am);rcases h3 with rfl|⟨rfl,rfl,rfl⟩
    .refine z1 ?_;intros;all_goals exact aa (e2.trans (Prod.ext e3 rfl)) .u0 rfl HQ
    .refine z1 ?_;intros;all_goals exact aa (e2.trans (Prod.ext e3 rfl)) .u0 rfl HQ
  .rw[Bool.not_eq_true] at ho;obtain⟨line,a,i,w,key,A,er,lf,rfl⟩:=hl.row ho;rw[ho];refine z1 ?_;intros;have e3:(et.c σ).step t c true x=(.c a',x'):=e2.trans (Prod.ext (by cases a'<;>first|rfl|cases ho) rfl);exact aa e3 (.c1 hl ho) rfl HQ
 |@u0 p3 v3 vp p key ar er=>
  refine y1 H QD ?_;intros;refine Vx.bQ (own:=[.obj q _,.sl _ 1 _,.obj p3 _,.obj v3 _]++([.obj _ (.row (Mg [.fn (.func 610) [.ptr _ 0] [],Nf,Nf] 0 0++[I (t.l.e.pins+c)]))]++(ae m bl x rest++R))) HQ ?_;refine Vx.cz (A:=[_,_,_,_]) (λB W S H=>gM hs.2.2.2.2.2.1 hx (.a hc) H) λa' x' l' e hl=>?_;have e2:(et.u .a key ar er).step t c true x=(if a'.over then .d key ar er else .u a' key ar er,x'):=by show(_,_)=_;rw[e]
  cases ho:a'.over
  .refine z1 ?_;intros;exact aa (e2.trans (Prod.ext (if_neg (by rw[ho];simp)) rfl)) (.u1 hl ho) rfl HQ
  .refine z1 ?_;exact aa (e2.trans (Prod.ext (if_pos ho) rfl)) .d rfl HQ
 |@u1 p3 v3 qm vp p key ar er σ lm h hF=>
  refine y1 H QD ?_;intros;refine Vx.cz (A:=[_,_,_,_]) (λB W S H=>gM hs.2.2.2.2.2.1 hx h H) λa' x' l' e hl=>?_;have e2:(et.u σ key ar er).step t c true x=(if a'.over then .d key ar er else .u a' key ar er,x'):=by show(_,_)=_;rw[e]
  cases ho:a'.over
  .refine z1 ?_;intros;exact aa (e2.trans (Prod.ext (if_neg (by rw[ho];simp)) rfl)) (.u1 hl ho) rfl HQ
  .refine z1 ?_;exact aa (e2.trans (Prod.ext (if_pos ho) rfl)) .d rfl HQ
 |d=>cases ho
end
section
variable{nd hd ht c3 c4 n c6 c7 c8 c9 dS dt dW c:Int}
instance Vy:NC EM (zF 507) [.agg [I nd,I hd,I ht,I c3,I c4,I n,I c6,I c7,I c8,I c9,I dS,I dt,I dW],I c] (((0<=nd/\nd<4096)/\(0<=hd/\hd<4096)/\(1<=ht/\ht<=4)/\1<=n/\n<=128)/\0<=c/\c<dt)
  (λq l=>Cp ⟨nd,hd,ht,⟨⟨⟨c3,c4,n⟩,c6,c7,c8⟩,⟨c9,dS,dt⟩,dW⟩⟩ c q 0 (.p .a) l):=.of rfl rfl λh ro R=>by
 obtain⟨h0,hc⟩:=h;have h0':0<=qo nd ht 0 0:=by unfold qo;omega
 haveI:aY:=⟨⟩;haveI:dQ:=⟨⟩;show Zx EM false (Tryz.a507 _) _ _ _ _;refine z1 ?_;intros;exact⟨rfl,rfl,(_::_::_::_::_::_::_::_::_::R),⟨_,_,Cp.p0,rfl,rfl⟩,HQ⟩
end
instance z47:cK 716 where
instance z48:cK 717 where
instance Yp {l}{i:Int}:Mb (aW l) i (0<=i/\i<l.length) (U (l[i.toNat]?.getD 0)) where
 ok:=λh=>⟨i.toNat,am,by
  have hn:i.toNat<l.length:=am;rw[iC (n:=l[i.toNat]) (List.getElem?_eq_getElem hn),List.getElem?_eq_getElem hn];rfl⟩
def bS (l:List Int):Nat->Int
 |0=>-1
 |n+1=>if bS l n<0\/l[(bS l n).toNat]?.getD 0<l[n]?.getD 0 then n else bS l n
theorem gO {l}:∀n,(n=0/\bS l n=-1)\/(0<n/\0<=bS l n/\bS l n<n)
 |0=>.inl ⟨rfl,rfl⟩
 |n+1=>by
  right;unfold bS;split;.omega
  .next h=>rcases gO (l:=l) n with⟨_,h2⟩|⟨_,h2,h3⟩<;>omega
theorem sn {l}:∀(k:Nat) (m:List Int),l.drop k=m->k<=l.length->0<k->∀b:Nat,bS l k=b->((vG m k b (l[b]?.getD 0):Nat):Int)=bS l l.length
 |k,[],hm,hk,h0,b,hb=>by
  have:l.length<=k:=by have:=congrArg List.length hm;simp at this;omega
  obtain rfl:k=l.length:=am;rw[hb];rfl
 |k,w::m,hm,hk,h0,b,hb=>by
  have de:k<l.length:=by
   rcases Nat.lt_or_ge k l.length with h|h;.exact h
   .rw[List.drop_eq_nil_of_le h] at hm;cases hm
  have hw:l[k]?.getD 0=w:=by
   have:l[k]?=some w:=by rw[<-List.head?_drop,hm];rfl
   rw[this];rfl
  have hd:l.drop (k+1)=m:=by rw[<-List.tail_drop,hm];rfl
  unfold vG;have e:bS l (k+1)=if l[b]?.getD 0<w then(k:Int) else b:=by
   conv=>lhs;unfold bS
   rw[hb,hw];have:¬(b:Int)<0:=am;simp[this]
  split
  .next h=>
   rw[if_pos h] at e;have:=sn (k+1) m hd am am k e
   rwa[hw] at this
  .next h=>rw[if_neg h] at e;exact sn (k+1) m hd am am b e
theorem og {l}(h:l≠[]):((dy l:Nat):Int)=bS l l.length:=by
 cases l with
 |nil=>exact absurd rfl h
 |cons w m=>have:=sn (l:=w::m) 1 m rfl ac am 0 (by unfold bS bS;simp);exact this
theorem Vx.N2 {M own ro Φ K body outs}(N:Nat)(st:Nat->List AV)
  (hs:∀i:Nat,i<N->(Vx M (.ret .normal (st (i+1))) (.loop body outs::K) own ro Φ)->Zx M false (body (st i)) (.loop body outs::K) own ro Φ)
  (he:Zx M false (body (st N)) (.loop body outs::K) own ro Φ):Vx M (.loop (st 0) body outs) K own ro Φ:=by
 have key:∀k i:Nat,i+k=N->Vx M (body (st i)) (.loop body outs::K) own ro Φ:=by
  intro k;induction k with
  |zero=>
   intro i hi;obtain rfl:i=N:=am;exact he.ok
  |succ k ih=>intro i hi;exact(hs i am (Vx.Ku (ih (i+1) am))).ok
 exact Vx.loop (key N 0 am)
theorem Vx.E1 {M own ro Φ K v x}{i:Int}{P:Prop}[c:HD own v i P x]{g:Bool}{k}(hp:P)(h:Zx M false (k x) K own ro Φ):Vx M (.op (.cC 1 v (I i)) λp=>.qh (cG.B g) g (.load 1 false p) k) K own ro Φ:=λB W S H=>by
 obtain⟨t,vs,S',⟨n0,h1⟩,h2⟩:=(Zx.XS (v:=v) (i:=i) (bP.of hp) h).ok B W S H;refine⟨t,vs,S',⟨n0,λn hn=>?_⟩,h2⟩;rw[<-h1 n hn];cases g<;>rfl
instance aa7 {R0 v l}:SC EM (zF 715) [v,.fn (.func 716) [] []] (.sl v 1 (aW l)::R0) (l.length<=64) (I (bS l l.length)) (.sl v 1 (aW l)::R0):=.of rfl rfl λhl ro R=>by
 have hu:Int.ofNat (aW l).length=(l.length:Int):=congrArg Int.ofNat (di l);have n0:∀a b:AV,nth [a,b] 0=a:=λ_ _=>rfl;have n1:∀a b:AV,nth [a,b] 1=b:=λ_ _=>rfl;show Zx EM false (Tryz.a715 _) _ _ _ _;rw[Tryz.u715];simp only[lA,lB,n0,n1];refine z1 ?_;rw[hu];refine Vx.N2 l.length (λi=>[I (i:Int),I (bS l i)]) ?_ ?_
 .intro i hi hn;have hb:=gO (l:=l) i;have e1:((i+1:Nat):Int)=(i:Int)+1:=am;have e2:bS l (i+1)=if bS l i<0\/l[(bS l i).toNat]?.getD 0<l[i]?.getD 0 then(i:Int) else bS l i:=rfl
  simp only[e1,e2] at hn;have ei:(Int.toNat (i:Int))=i:=Int.toNat_natCast i;show Zx EM false ((λvs=>_) [I (i:Int),I (bS l i)]) _ _ _ _;clear e1 e2;generalize hz:(i:Int)=z at*
  rw[<-ei] at hn;refine z2 ?_ ?_<;>intros
  .next h1 h2=>exact Vx.bQ HQ (by rw[if_pos (.inl (by rw[ei];exact h2))] at hn;exact hn)
  .next h1 h2=>
   refine Vx.E1 am ?_;refine z3 ?_ ?_ ?_<;>intros
   all_goals simp only[ei] at*
   all_goals first
    |(rw[if_neg am] at hn;exact Vx.bQ HQ hn)
    |(rw[if_pos (.inr am)] at hn;exact Vx.bQ HQ hn)
 .refine z1 ?_;intros;exact⟨rfl,rfl,_,⟨rfl,rfl⟩,.rfl'⟩
instance z49 {n:Nat}[Mn n [712,143,509,710,711,714,571,503]]:cK n where
def Rs.ok (r:Rs):Prop:=(0<=r.runs/\r.runs<4096)/\(0<=r.flags/\r.flags<4096)/\1<=r.ad/\r.ad<=64
def Rs.rz (r:Rs)(bh left:Int)(look:AV)(key:Int)(words:AV)(dy flag cR:Int)(done:Bool)(er:Int):List AV:=[I bh,I left,I r.runs,I r.flags,I r.ad,look,U key,words,I dy,I flag,U cR,B true,B done,I er]
inductive rA (t:Tw)(r:Rs)(c:Int)(q:Nat)(b:Int):cS->List Own->Prop
 |k {ql:Nat}{bi:Int}{σ lk}(h:Cp t c ql bi σ lk)(ho:σ.over=false):rA t r c q b (.k σ) (.obj q (.row (r.rz r.runs r.ad (.ptr ql 0) 0 Ns (-1) (-1) b false 0))::lk)
 |r0 {key:Int}:rA t r c q b (.r key []) [.obj q (.row (r.rz r.runs r.ad Np key Ns (-1) (-1) b false 0))]
 |r1 {bh left key:Int}{l v L}(h0:l≠[])(hl:(l.length:Int)<r.ad)(ha:bh=r.runs+l.length)(hf:left=r.ad-l.length)(hL:L=aW l)(hv:AV.beq v v=true):rA t r c q b (.r key l) [.obj q (.row (r.rz bh left Np key v (-1) (-1) b false 0)),.sl v 1 L]
 |f {bh key w:Int}{v}(hw:0<=w/\w<r.ad):rA t r c q b (.f w) [.obj q (.row (r.rz bh 0 Np key v w (-1) b false 0))]
 |d {bh left key dy flag e:Int}{look words}:rA t r c q b (.d e) [.obj q (.row (r.rz bh left look key words dy flag b true e))]
theorem Cp.row {t}{c:Int}{q:Nat}{b:Int}{σ lo}(h:Cp t c q b σ lo)(ho:σ.over=false):∃p vp x0 L key ar e lf,lo=.obj q (.row (t.ka c p vp b 0 key ar e))::.sl vp 1 (x0::L)::lf:=by
 cases h<;>first|(cases ho;done)|exact⟨_,_,_,_,_,_,_,_,rfl⟩
theorem et.iG {σ:et}(h:σ.over=true):∃key ar e,σ=.d key ar e:=by cases σ<;>first|exact⟨_,_,_,rfl⟩|cases h
section
variable{nd hd ht c3 c4 n c6 c7 c8 c9 dS dt dW rr rf rc c:Int}
instance Yq:NC EM (zF 413) [.agg [I nd,I hd,I ht,I c3,I c4,I n,I c6,I c7,I c8,I c9,I dS,I dt,I dW],.agg [I rr,I rf,I rc],I c] (((0<=nd/\nd<4096)/\(0<=hd/\hd<4096)/\(1<=ht/\ht<=4)/\1<=n/\n<=128)/\(0<=c/\c<dt)/\1<=rc/\rc<=64)
  (λq l=>rA ⟨nd,hd,ht,⟨⟨⟨c3,c4,n⟩,c6,c7,c8⟩,⟨c9,dS,dt⟩,dW⟩⟩ ⟨rr,rf,rc⟩ c q 0 (.k (.p .a)) l):=.of rfl rfl λh ro R=>by
 obtain⟨h0,hc,hr⟩:=h;show Zx EM false (Tryz.a413 _) _ _ _ _;refine z1 ?_;intros;rename_i q1 q2 ql lL hL q3;haveI:cK 508:=⟨⟩;cases hL with
 |p0=>
  simp only[Tw.ka,Tw.pY,Tw.cs,Lb.cs,Ar.cs,Ep.cs,pX,iF,vN,pW,iE,vO,oe,lA,lB,lC];refine x1 ?_;intros;exact⟨rfl,rfl,(_::_::_::_::_::_::_::_::_::_::R),⟨_,_,rA.k .p0 rfl,rfl,rfl⟩,HQ⟩
 |@p1 p1 v1 p2 vt vx p3 v3 qm vp p _ lm h ho=>simp only[Tw.ka,Tw.pY,Tw.cs,Lb.cs,Ar.cs,Ep.cs,pX,iF,vN,pW,iE,vO,oe,lA,lB,lC];refine x1 ?_;intros;exact⟨rfl,rfl,(_::_::_::_::_::_::_::_::_::_::(lm++R)),⟨_,_,rA.k (.p1 h ho) rfl,rfl,rfl⟩,HQ⟩
end
instance z50:cK 508 where
section
variable{B0 S:AH}{W:List Nat}{own R lo:List Own}{ro:List aI}{m bl q:Nat}{x:Me}{rest:List AV}{t:Tw}{r:Rs}{c b:Int}
theorem Vz {o1 own:List Own}(e:o1=own:=by conv=>lhs;simp only[Rs.rz,lA,lB,lC]):o1=own:=e
theorem DM {σ:cS}(hs:t.ok)(hr:r.ok)(hc:0<=c/\c<t.l.e.ad)(hx:x.gd)(ho:σ.over=false)(h:rA t r c q b σ lo)(H:Cx B0 W S (lo++(ae m bl x rest++R)) ro):
  aN EM (zF 709) [.ptr q 0,.ptr m 0] S λu S'=>∃ab,fb (rA t r c q σ.cR) cS.over (σ.step t r c x) (ae m bl · rest) R u ab/\Cx B0 W S' ab ro:=by
 have pD:=hr;unfold Rs.ok at pD;haveI:aY:=⟨⟩;haveI:dQ:=⟨⟩;have n0:∀a b:AV,nth [a,b] 0=a:=λ_ _=>rfl;have n1:∀a b:AV,nth [a,b] 1=b:=λ_ _=>rfl;cases h with
 |@k ql bi σ lk h hF=>
  refine y1 H Vz ?_;refine Vx.f_ (A:=[_]) (λB W S H=>H7 hs hc hx hF h H) λa' x' l' e hl=>?_;have e2:(cS.k σ).step t r c x=(cS.kP a',x'):=by show(cS.kP _,_)=_;rw[e]
  by_cases ho:a'.over=true
  .obtain⟨key,ar,er,rfl⟩:=et.iG ho;cases hl with
   |d=>
    refine z3 ?_ ?_ ?_<;>intros
    .have h0:er=0:=be;exact aa (e2.trans (Prod.ext (if_pos h0) rfl)) .r0 rfl HQ
    .have h0:¬er=0:=be;have h1:er=15:=be;exact aa (e2.trans (Prod.ext ((if_neg h0).trans (if_pos h1)) rfl)) .d rfl HQ
    .have h0:¬er=0:=be;have h1:¬er=15:=be;exact aa (e2.trans (Prod.ext ((if_neg h0).trans (if_neg h1)) rfl)) .d rfl HQ
  .rw[Bool.not_eq_true] at ho;obtain⟨p,vp,x0,L,key,ar,er,lf,rfl⟩:=hl.row ho;rw[ho];refine z1 ?_;have e3:(cS.k σ).step t r c x=(.k a',x'):=e2.trans (Prod.ext (by cases a'<;>first|rfl|cases ho) rfl);exact aa e3 (.k hl ho) rfl HQ
 |@r0 key=>
  have hw:=Me.aj hx r.runs;refine y2 H Vz ?_ ?_<;>intros
  all_goals try simp only[show r.runs+1-1=r.runs by omega]
  .have h1:r.ad-1=0:=be;rw[show List.map (λa=>[a]) [Z IntKind.u64 (x.word r.runs)]=aW [x.word r.runs] from rfl];have KA:=og (l:=[x.word r.runs]) ac;have hb:=gO (l:=[x.word r.runs]) ([x.word r.runs]).length;have N3:([x.word r.runs]).length=1:=ac;simp only[n0,n1];refine x1 ?_;refine Vx.E1 am ?_;refine z2 ?_ ?_<;>intros
   all_goals have ew:(bS ([x.word r.runs]) ([x.word r.runs]).length).toNat=dy ([x.word r.runs]):=by rw[<-KA];exact Int.toNat_natCast _
   all_goals rw[h1]
   .next h=>
    have e3:(cS.r key []).step t r c x=(.d 0,x.ld (r.runs)):=by have e0:r.runs+((0:Nat):Int)=r.runs:=am;show(if((0:Nat):Int)+1=r.ad then(if [x.word (r.runs+((0:Nat):Int))][dy [x.word (r.runs+((0:Nat):Int))]]?.getD 0<=key then cS.d 0 else .f (dy [x.word (r.runs+((0:Nat):Int))])) else .r key [x.word (r.runs+((0:Nat):Int))],x.ld (r.runs+((0:Nat):Int)))=_;rw[ew] at h;rw[e0,if_pos am,if_pos h]
    exact aa e3 .d rfl HQ
   .next h=>
    have e3:(cS.r key []).step t r c x=(.f (dy ([x.word r.runs])),x.ld (r.runs)):=by have e0:r.runs+((0:Nat):Int)=r.runs:=am;show(if((0:Nat):Int)+1=r.ad then(if [x.word (r.runs+((0:Nat):Int))][dy [x.word (r.runs+((0:Nat):Int))]]?.getD 0<=key then cS.d 0 else .f (dy [x.word (r.runs+((0:Nat):Int))])) else .r key [x.word (r.runs+((0:Nat):Int))],x.ld (r.runs+((0:Nat):Int)))=_;rw[ew] at h;rw[e0,if_pos am,if_neg h]
    rw[<-KA];exact aa e3 (.f am) rfl HQ
  .have h1:¬r.ad-1=0:=be;have e3:(cS.r key []).step t r c x=(.r key [x.word r.runs],x.ld r.runs):=by show(if _ then _ else cS.r key ([]++[x.word (r.runs+(0:Nat))]),x.ld (r.runs+(0:Nat)))=_;rw[if_neg (by simp;omega),show r.runs+((0:Nat):Int)=r.runs by omega];rfl
   exact aa e3 (.r1 (bh:=r.runs+1) (left:=r.ad-1) (l:=[x.word r.runs]) ac (by simp;omega) rfl rfl rfl be) rfl HQ
 |@r1 bh left key l v L h0 hl ha hf hL hv=>
  subst ha hf hL;have hw:=Me.aj hx (r.runs+l.length);have Yr:=di l;refine y3 H Vz ?_ ?_ ?_<;>intros
  .rw[Yr];simp;omega
  all_goals try simp only[show r.runs+l.length+1-1=r.runs+l.length by omega]
  all_goals rw[show aW l++List.map (λa=>[a]) [Z IntKind.u64 (x.word (r.runs+l.length))]=aW (l++[x.word (r.runs+l.length)]) from by simp[aW]]
  .have h1:r.ad-l.length-1=0:=be;have KA:=og (l:=l++[x.word (r.runs+l.length)]) ac;have hb:=gO (l:=l++[x.word (r.runs+l.length)]) (l++[x.word (r.runs+l.length)]).length;have N3:(l++[x.word (r.runs+l.length)]).length=l.length+1:=ac;simp only[n0,n1];refine x1 ?_;intros;refine Vx.E1 am ?_;refine z2 ?_ ?_<;>intros
   all_goals have ew:(bS (l++[x.word (r.runs+l.length)]) (l++[x.word (r.runs+l.length)]).length).toNat=dy (l++[x.word (r.runs+l.length)]):=by rw[<-KA];exact Int.toNat_natCast _
   all_goals rw[h1]
   .next h=>
    have e3:(cS.r key l).step t r c x=(.d 0,x.ld (r.runs+l.length)):=by show(if _ then(if(l++[x.word (r.runs+l.length)])[dy (l++[x.word (r.runs+l.length)])]?.getD 0<=key then cS.d 0 else _) else _,x.ld (r.runs+l.length))=_;rw[ew] at h;rw[if_pos am,if_pos h]
    exact aa e3 .d rfl HQ
   .next h=>
    have e3:(cS.r key l).step t r c x=(.f (dy (l++[x.word (r.runs+l.length)])),x.ld (r.runs+l.length)):=by show(if _ then(if(l++[x.word (r.runs+l.length)])[dy (l++[x.word (r.runs+l.length)])]?.getD 0<=key then cS.d 0 else .f (dy (l++[x.word (r.runs+l.length)]))) else _,x.ld (r.runs+l.length))=_;rw[ew] at h;rw[if_pos am,if_neg h]
    rw[<-KA];exact aa e3 (.f am) rfl HQ
  .have h1:¬r.ad-l.length-1=0:=be;have e3:(cS.r key l).step t r c x=(.r key (l++[x.word (r.runs+l.length)]),x.ld (r.runs+l.length)):=by show(if _ then _ else cS.r key (l++[x.word (r.runs+l.length)]),x.ld (r.runs+l.length))=_;rw[if_neg am]
   exact aa e3 (.r1 (bh:=r.runs+l.length+1) (left:=r.ad-l.length-1) (l:=l++[x.word (r.runs+l.length)]) ac (by simp;omega) (by simp;omega) (by simp;omega) rfl be) rfl HQ
 |@f bh key w v hw=>
  refine y1 H Vz ?_;exact aa rfl .d rfl HQ
 |d=>cases ho
end
end Go.cG
