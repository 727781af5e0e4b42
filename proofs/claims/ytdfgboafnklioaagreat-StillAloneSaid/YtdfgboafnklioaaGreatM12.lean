/- Contracts of functions, over the abstract machine. Conditions: stated in each theorem. -/
import Derived.Test.YtdfgboafnklioaaGreatM11
set_option linter.all false
set_option maxRecDepth 100000
set_option maxHeartbeats 4000000
namespace Go.cY
open Go.Proofs
section
theorem Vx.cf {M:ef}{ro:List aQ}{Φ:pH}{K:List Kf}{k:AV→AC}{α:Type}{Rl:α→List Own→Prop}{ov:α→Bool}{st:α×Me}{mem:Me→List Own}{A l R:List Own}{x:Me}{t f:Nat}{name:String}[c0:mi M t name f]{v:AV}{args:List AV}
  (hc:∀B W S,Cx B W S (l++(mem x++(A++R))) ro→aO M (.fn (.func f) [] []) (v::args) S fun r S'=>∃ab,eD Rl ov st mem (A++R) r ab∧Cx B W S' ab ro)
  (h:∀a' x' l',st=(a',x')→Rl a' l'→Zx M false (k (cY.B (ov a'))) K (A++(l'++(mem x'++R))) ro Φ):Vx M (.call (.fn (.method name) [] []) (.iface t v::args) k) K (A++(l++(mem x++R))) ro Φ:=
 fun B W S H=>b5 (i_ (c0.ok v) (az (hc B W S (H.gw sx)) fun r S' ⟨ab,⟨l',⟨h1,h2⟩,h3⟩,h4⟩=>by
  subst h2 h3
  exact(h st.1 st.2 l' rfl h1).ok B W S' (h4.gw sx.symm)))
instance Xg:mi EM 636 "coxswain/ready.run" 742:=⟨fun _=>by kernel_rfl⟩
instance Xh:mi EM 672 "coxswain/ready.run" 753:=⟨fun _=>by kernel_rfl⟩
instance Xi:mi EM 644 "coxswain/ready.run" 744:=⟨fun _=>by kernel_rfl⟩
instance Xj:mi EM 710 "coxswain/ready.run" 756:=⟨fun _=>by kernel_rfl⟩
instance Xk:mi EM 718 "coxswain/ready.run" 759:=⟨fun _=>by kernel_rfl⟩
instance Xl:mi EM 727 "coxswain/ready.run" 784:=⟨fun _=>by kernel_rfl⟩
instance Xm:mi EM 598 "coxswain/ready.run" 721:=⟨fun _=>by kernel_rfl⟩
instance Xn:mi EM 653 "coxswain/ready.run" 746:=⟨fun _=>by kernel_rfl⟩
instance Xo:mi EM 637 "Step" 743:=⟨fun _=>by kernel_rfl⟩
instance Xp:mi EM 673 "Step" 755:=⟨fun _=>by kernel_rfl⟩
instance Xq:mi EM 645 "Step" 745:=⟨fun _=>by kernel_rfl⟩
instance Xr:mi EM 711 "Step" 757:=⟨fun _=>by kernel_rfl⟩
instance Xs:mi EM 719 "Step" 760:=⟨fun _=>by kernel_rfl⟩
instance Xt:mi EM 728 "Step" 785:=⟨fun _=>by kernel_rfl⟩
instance Xu:mi EM 599 "Step" 722:=⟨fun _=>by kernel_rfl⟩
instance Xv:mi EM 654 "Step" 747:=⟨fun _=>by kernel_rfl⟩
instance z32 {n:Nat}[Mn n [742,753,744,756,759,784,721,746,707,501,559,561,516,574,606,626,502,563,603,620,604,623,565,605,560,575,562]]:cF n where
def m8 (p v q:Nat)(mk cz th now:AV)(made:Bool):List Own:=[.obj p (.row [mk,cz,th,now,B made]),.obj v (.row [.ptr q 0])]
def oP (q p v:Nat)(now:AV)(made:Bool):List Own:=m8 p v q (.fn (.func 559) [] [.ptr v 0]) Nf (.fn (.func 561) [] [.ptr v 0]) now made
def xC (q p v:Nat)(now:AV)(made:Bool):List Own:=m8 p v q (.fn (.func 563) [] [.ptr v 0]) Nf (.fn (.func 565) [.ptr q 0] []) now made
def gR (q p v:Nat)(now:AV)(made:Bool):List Own:=m8 p v q (.fn (.func 574) [] [.ptr v 0]) Nf Nf now made
def K6 (q p v:Nat)(now:AV)(made:Bool):List Own:=m8 p v q (.fn (.func 626) [] [.ptr v 0]) Nf Nf now made
def K7 (q p v:Nat)(now:AV)(made:Bool):List Own:=m8 p v q (.fn (.func 620) [] [.ptr v 0]) (zF 622) Nf now made
def F6 (q p v:Nat)(now:AV)(made:Bool):List Own:=m8 p v q (.fn (.func 623) [] [.ptr v 0]) (zF 625) Nf now made
def oQ (p:Nat):AV:=.iface 636 (.ptr p 0)
def xD (p:Nat):AV:=.iface 644 (.ptr p 0)
def gS (p:Nat):AV:=.iface 672 (.ptr p 0)
def K8 (p:Nat):AV:=.iface 727 (.ptr p 0)
def K9 (p:Nat):AV:=.iface 710 (.ptr p 0)
def F7 (p:Nat):AV:=.iface 718 (.ptr p 0)
def Tw.qI (t:Tw)(c p:Int)(parts:AV)(cz er:Int):List AV:=t.cs++[I c,B true,I p,parts,U cz,I er]
def Tw.ga (t:Tw)(c p:Int)(parts:AV)(cz er key aq high tries ref:Int):List AV:=t.qI c p parts cz er++[U key,I aq,I high,I tries,U ref]
section
variable{nd hd ht c3 c4 n c6 c7 c8 c9 dz cT dx i g key aq high:Int}
instance U0:NC EM (zF 621) [.agg [I nd,I hd,I ht,I c3,I c4,I n,I c6,I c7,I c8,I c9,I dz,I cT,I dx],U (aC i g),U key,I aq,I high] (((0≤nd∧nd<4096)∧(0≤hd∧hd<4096)∧(1≤ht∧ht≤4)∧1≤n∧n≤128)∧(cX i g∧i<n)∧(0≤aq∧aq≤65534)∧1≤high∧high≤ht)
  (fun p l=>y8 ⟨nd,hd,ht,⟨⟨⟨c3,c4,n⟩,c6,c7,c8⟩,⟨c9,dz,cT⟩,dx⟩⟩ i g key aq high p (.s 0) l):=.of rfl rfl fun h ro R=>by
 obtain⟨h0,hi,hj,hh⟩:=h
 have e1:aq%18446744073709551616=aq:=by omega
 have e2:high%18446744073709551616=high:=by omega
 show Zx EM false (Tryz.a621 _) _ _ _ _
 (repeat' first|constructor|exact ZQ|intro _)
 all_goals apply zL
 all_goals(try rw[e1])
 all_goals(try rw[e2])
 ·exact⟨h0,hi,hj,hh⟩
 ·exact⟨rfl,rfl,(_::_::_::_::_::_::_::_::_::_::_::R),⟨_,_,y8.s (k:=0) (by omega),rfl,rfl⟩,HQ⟩
end
theorem ko.row {t}{i g key high:Int}{q:Nat}{b:Int}{σ lo}(h:ko t i g key high q b σ lo):∃km ln lv w place ret er lf,lo=.obj q (.row (t.oO km (aC i g) key i high ln lv w place ret b er))::lf:=by
 cases h<;>exact⟨_,_,_,_,_,_,_,_,rfl⟩
instance z33:cF 622 where
instance z34:cF 625 where
inductive ic (t:Tw)(c key aq high:Int)(q:Nat)(b:Int):aV→List Own→Prop
 |p0 {p1 v1 p2 v2:Nat}{vp}{n:Nat}{p ref:Int}(hn:n≤3):ic t c key aq high q b (.p .a n) (.obj q (.row (t.ga c p vp b 0 key aq high n ref))::.sl vp 1 [[oQ p1],[xD p2]]::(oP q p1 v1 Np false++xC q p2 v2 Np false))
 |p1 {p1 v1 p2 v2 qm:Nat}{vp}{n:Nat}{p ref:Int}(hn:n≤3){σ lm}(h:vj t.l.e c qm σ lm)(ho:σ.over=false):ic t c key aq high q b (.p σ n) (.obj q (.row (t.ga c p vp b 0 key aq high n ref))::.sl vp 1 [[oQ p1],[xD p2]]::(oP q p1 v1 (.ptr qm 0) true++xC q p2 v2 Np false++lm))
 |a0 {p1 v1:Nat}{vp}{n:Nat}{p ref:Int}(hn:n≤3)(hp:0≤p∧p<4294967296):ic t c key aq high q b (.a (.p .a) n p) (.obj q (.row (t.ga c p vp b 0 key aq high n ref))::.sl vp 1 [[xD p1]]::(xC q p1 v1 Np false))
 |a1 {p1 v1 qm:Nat}{vp}{n:Nat}{p ref:Int}(hn:n≤3)(hp:0≤p∧p<4294967296){σ lm}(h:mY t.l.a qm σ lm)(ho:σ.over=false):ic t c key aq high q b (.a σ n p) (.obj q (.row (t.ga c p vp b 0 key aq high n ref))::.sl vp 1 [[xD p1]]::(xC q p1 v1 (.ptr qm 0) true++lm))
 |c0 {p1 v1 p2 v2 p3 v3 p4 v4:Nat}{vp}{n:Nat}{p ref:Int}(hn:n≤3)(hp:0≤p∧p<4294967296):ic t c key aq high q b (.c (.v .a) n p) (.obj q (.row (t.ga c p vp b 0 key aq high n ref))::.sl vp 1 [[K8 p1],[gS p2],[oQ p3],[xD p4]]::(K6 q p1 v1 Np false++gR q p2 v2 Np false++oP q p3 v3 Np false++xC q p4 v4 Np false))
 |c1 {p1 v1 p2 v2 p3 v3 p4 v4 qm:Nat}{vp}{n:Nat}{p ref:Int}(hn:n≤3)(hp:0≤p∧p<4294967296){σ lm}(h:xA t.l c p qm σ lm)(ho:σ.over=false):ic t c key aq high q b (.c σ n p) (.obj q (.row (t.ga c p vp b 0 key aq high n ref))::.sl vp 1 [[K8 p1],[gS p2],[oQ p3],[xD p4]]::(K6 q p1 v1 (.ptr qm 0) true++gR q p2 v2 Np false++oP q p3 v3 Np false++xC q p4 v4 Np false++lm))
 |l0 {p1 v1 p2 v2 p3 v3:Nat}{vp}{n:Nat}{p ref:Int}(hn:n≤3):ic t c key aq high q b (.l .a n) (.obj q (.row (t.ga c p vp b 0 key aq high n ref))::.sl vp 1 [[gS p1],[oQ p2],[xD p3]]::(gR q p1 v1 Np false++oP q p2 v2 Np false++xC q p3 v3 Np false))
 |l1 {p1 v1 p2 v2 p3 v3 qm:Nat}{vp}{n:Nat}{p ref:Int}(hn:n≤3){σ lm}(h:lM t.l.e c qm σ lm)(ho:σ.over=false):ic t c key aq high q b (.l σ n) (.obj q (.row (t.ga c p vp b 0 key aq high n ref))::.sl vp 1 [[gS p1],[oQ p2],[xD p3]]::(gR q p1 v1 (.ptr qm 0) true++oP q p2 v2 Np false++xC q p3 v3 Np false++lm))
 |y0 {p1 v1 p2 v2 p3 v3:Nat}{vp}{n:Nat}{p i g:Int}(hr:t.rf i g):ic t c key aq high q b (.y (.s 0) (aC i g)) (.obj q (.row (t.ga c p vp b 0 key aq high n (aC i g)))::.sl vp 1 [[K9 p1],[F7 p2],[gS p3]]::(K7 q p1 v1 Np false++F6 q p2 v2 Np false++gR q p3 v3 Np false))
 |y1 {p1 v1 p2 v2 p3 v3 qm:Nat}{vp}{n:Nat}{p i g:Int}(hr:t.rf i g){k:Nat}{lm}(h:y8 t i g key aq high qm (.s k) lm):ic t c key aq high q b (.y (.s k) (aC i g)) (.obj q (.row (t.ga c p vp b 0 key aq high n (aC i g)))::.sl vp 1 [[K9 p1],[F7 p2],[gS p3]]::(K7 q p1 v1 (.ptr qm 0) true++F6 q p2 v2 Np false++gR q p3 v3 Np false++lm))
 |i0 {p1 v1 p2 v2:Nat}{vp}{n:Nat}{p i g:Int}(hr:t.rf i g):ic t c key aq high q b (.i (.f (.new t)) (aC i g)) (.obj q (.row (t.ga c p vp b 0 key aq high n (aC i g)))::.sl vp 1 [[F7 p1],[gS p2]]::(F6 q p1 v1 Np false++gR q p2 v2 Np false))
 |i1 {p1 v1 p2 v2 qm:Nat}{vp}{n:Nat}{p i g:Int}(hr:t.rf i g){bi:Int}{σ lm}(h:ko t i g key high qm bi σ lm)(ho:σ.over=false):ic t c key aq high q b (.i σ (aC i g)) (.obj q (.row (t.ga c p vp b 0 key aq high n (aC i g)))::.sl vp 1 [[F7 p1],[gS p2]]::(F6 q p1 v1 (.ptr qm 0) true++gR q p2 v2 Np false++lm))
 |u0 {p1 v1:Nat}{vp}{n:Nat}{p ref e:Int}:ic t c key aq high q b (.u .a e) (.obj q (.row (t.ga c p vp b e key aq high n ref))::.sl vp 1 [[gS p1]]::(gR q p1 v1 Np false))
 |u1 {p1 v1 qm:Nat}{vp}{n:Nat}{p ref e:Int}{σ lm}(h:lM t.l.e c qm σ lm)(ho:σ.over=false):ic t c key aq high q b (.u σ e) (.obj q (.row (t.ga c p vp b e key aq high n ref))::.sl vp 1 [[gS p1]]::(gR q p1 v1 (.ptr qm 0) true++lm))
 |d {n:Nat}{p ref e:Int}{vp}:ic t c key aq high q b (.d e) [.obj q (.row (t.ga c p vp b e key aq high n ref)),.sl vp 1 []]
section
variable{B0 S:AH}{W:List Nat}{own R lo:List Own}{ro:List aQ}{m bl q:Nat}{x:Me}{rest:List AV}{t:Tw}{c key aq high b:Int}
theorem B_ {o1 own:List Own}(e:o1=own:=by conv=>lhs;simp only[Tw.ga,Tw.qI,Tw.cs,Lb.cs,Ar.cs,Ep.cs,oQ,xD,gS,K8,K9,F7,oP,xC,gR,K6,K7,F6,m8,lA,lB,lC]):o1=own:=e
theorem sA {σ:aV}(hs:t.ok)(hc:0≤c∧c<t.l.e.ah)(sB:(0≤aq∧aq≤65534)∧1≤high∧high≤t.ht)(hx:x.gd)(ho:σ.over=false)(B6:Me.ar key)(h:ic t c key aq high q b σ lo)(H:Cx B0 W S (lo++(ad m bl x rest++R)) ro):
  aO EM (zF 706) [.ptr q 0,.ptr m 0] S fun u S'=>∃ab,eD (ic t c key aq high q (σ.cz t key)) aV.over (σ.step t c key aq high x) (ad m bl · rest) R u ab∧Cx B0 W S' ab ro:=by
 have bn:=hs
 unfold Tw.ok Lb.ok Ar.ok Sk.ok Ep.ok at bn
 haveI:aS:=⟨⟩
 haveI:di:=⟨⟩
 cases h with
 |@p0 p1 v1 p2 v2 vp n p ref hn=>
  refine Vx.fm H B_ (b:=Tryz.a706) ?_;(repeat' first|constructor|exact ZQ|intro _);all_goals apply zL
  refine Vx.cb (own:=[.obj q _,.sl _ 1 _,.obj p1 _,.obj v1 _,.obj p2 _,.obj v2 _]++([.obj _ (.row (t.l.e.ga _ c 0 _))]++(ad m bl x rest++R))) HQ ?_
  refine Vx.cf (A:=[_,_,_,_,_,_]) (fun B W S H=>nD hs.2.2.2.2.2.1 hx (.a hc) H) fun a' x' l' e hl=>?_
  have e2:(aV.p .a n).step t c key aq high x=(aV.AI n a',x'):=by
   show(aV.AI _ _,_)=_
   rw[e]
  cases ho:a'.over
  ·(repeat' first|constructor|exact ZQ|intro _)
   all_goals apply zL
   have e3:(aV.p .a n).step t c key aq high x=(.p a' n,x'):=e2.trans (Prod.ext (by cases hl<;>first|rfl|cases ho) rfl)
   exact aa e3 (.p1 hn hl ho) rfl HQ
  ·cases hl with
   |a=>cases ho
   |b=>cases ho
   |c=>cases ho
   |d hp=>
    (repeat' first|constructor|exact ZQ|intro _)
    all_goals apply zL
    exact aa e2 (.a0 hn hp) rfl HQ
 |@p1 p1 v1 p2 v2 qm vp n p ref hn σ lm h hF=>
  refine Vx.fm H B_ (b:=Tryz.a706) ?_;(repeat' first|constructor|exact ZQ|intro _);all_goals apply zL
  refine Vx.cf (A:=[_,_,_,_,_,_]) (fun B W S H=>nD hs.2.2.2.2.2.1 hx h H) fun a' x' l' e hl=>?_
  have e2:(aV.p σ n).step t c key aq high x=(aV.AI n a',x'):=by
   show(aV.AI _ _,_)=_
   rw[e]
  cases ho:a'.over
  ·(repeat' first|constructor|exact ZQ|intro _)
   all_goals apply zL
   have e3:(aV.p σ n).step t c key aq high x=(.p a' n,x'):=e2.trans (Prod.ext (by cases hl<;>first|rfl|cases ho) rfl)
   exact aa e3 (.p1 hn hl ho) rfl HQ
  ·cases hl with
   |a=>cases ho
   |b=>cases ho
   |c=>cases ho
   |d hp=>
    (repeat' first|constructor|exact ZQ|intro _)
    all_goals apply zL
    exact aa e2 (.a0 hn hp) rfl HQ
 |@c0 p1 v1 p2 v2 p3 v3 p4 v4 vp n p ref hn hp=>
  refine Vx.fm H B_ (b:=Tryz.a706) ?_;(repeat' first|constructor|exact ZQ|intro _);all_goals apply zL
  rw[show(p%3+2)%3=(p+2)%3 by omega]
  refine Vx.cb (own:=[.obj q _,.sl _ 1 _,.obj p1 _,.obj v1 _,.obj p2 _,.obj v2 _,.obj p3 _,.obj v3 _,.obj p4 _,.obj v4 _]++([.obj _ (.row (t.l.jh _ _ _ _ _ _ _ _)),.obj _ (.row ((t.l.wait ((p+2)%3)).row _ _ _ _ _ 647)),.obj _ (.row (t.l.e.kj _ _ _ _ _ _ _))]++(ad m bl x rest++R))) HQ ?_
  refine Vx.cf (A:=[_,_,_,_,_,_,_,_,_,_]) (fun B W S H=>B3 hs.2.2.2.2 hx (.v hp (.a hc) rfl .a) H) fun a' x' l' e hl=>?_
  have e2:(aV.c (.v .a) n p).step t c key aq high x=(if a'.over then .l (.new t.l.e c) n else .c a' n p,x'):=by
   show(_,_)=_
   rw[e]
  cases ho:a'.over
  ·(repeat' first|constructor|exact ZQ|intro _)
   all_goals apply zL
   exact aa (e2.trans (Prod.ext (if_neg (by rw[ho];simp)) rfl)) (.c1 hn hp hl ho) rfl HQ
  ·(repeat' first|constructor|exact ZQ|intro _)
   all_goals apply zL
   exact aa (e2.trans (Prod.ext ((if_pos ho).trans (congrArg (aV.l · n) (if_neg (by omega)))) rfl)) (.l0 hn) rfl HQ
 |@c1 p1 v1 p2 v2 p3 v3 p4 v4 qm vp n p ref hn hp σ lm h hF=>
  refine Vx.fm H B_ (b:=Tryz.a706) ?_;(repeat' first|constructor|exact ZQ|intro _);all_goals apply zL
  refine Vx.cf (A:=[_,_,_,_,_,_,_,_,_,_]) (fun B W S H=>B3 hs.2.2.2.2 hx h H) fun a' x' l' e hl=>?_
  have e2:(aV.c σ n p).step t c key aq high x=(if a'.over then .l (.new t.l.e c) n else .c a' n p,x'):=by
   show(_,_)=_
   rw[e]
  cases ho:a'.over
  ·(repeat' first|constructor|exact ZQ|intro _)
   all_goals apply zL
   exact aa (e2.trans (Prod.ext (if_neg (by rw[ho];simp)) rfl)) (.c1 hn hp hl ho) rfl HQ
  ·(repeat' first|constructor|exact ZQ|intro _)
   all_goals apply zL
   exact aa (e2.trans (Prod.ext ((if_pos ho).trans (congrArg (aV.l · n) (if_neg (by omega)))) rfl)) (.l0 hn) rfl HQ
 |@a0 p1 v1 vp n p ref hn hp=>
  refine Vx.fm H B_ (b:=Tryz.a706) ?_;(repeat' first|constructor|exact ZQ|intro _);all_goals apply zL
  refine Vx.cb (own:=[.obj q _,.sl _ 1 _,.obj p1 _,.obj v1 _]++([.obj _ (.row (t.l.a.kj _ _ _ _ _)),.obj _ (.row (t.l.a.f.row _ _ _ _ _ 476))]++(ad m bl x rest++R))) HQ ?_
  refine Vx.cf (A:=[_,_,_,_]) (fun B W S H=>v_ hs.2.2.2.2.1 hx (.p .a rfl) H) fun a' x' l' e hl=>?_
  have e2:(aV.a (.p .a) n p).step t c key aq high x=(aV.h_ t c n p a',x'):=by
   show(aV.h_ _ _ _ _ _,_)=_
   rw[e]
  cases ho:a'.over
  ·(repeat' first|constructor|exact ZQ|intro _)
   all_goals apply zL
   have e3:(aV.a (.p .a) n p).step t c key aq high x=(.a a' n p,x'):=e2.trans (Prod.ext (by cases hl<;>first|rfl|cases ho) rfl)
   exact aa e3 (.a1 hn hp hl ho) rfl HQ
  ·cases hl with
   |p _ h=>cases ho
   |g=>cases ho
   |w=>cases ho
   |@d _ r er _ hr=>
    (repeat' first|constructor|exact ZQ|intro _)
    all_goals apply zL
    ·have h7:er=7:=by assumption
     have h3:(n:Int)<3:=by assumption
     have e3:aV.h_ t c n p (.d r er)=.c (.v .a) (n+1) p:=by
      unfold aV.h_ eN.new
      simp only[]
      rw[if_neg (by omega),if_pos ⟨h7,by omega⟩,if_neg (by omega)]
     exact aa (e2.trans (Prod.ext e3 rfl)) (.c0 (by omega) hp) rfl HQ
    ·have h7:er=7:=by assumption
     have h3:¬(n:Int)<3:=by assumption
     have e3:aV.h_ t c n p (.d r er)=.u .a er:=by
      unfold aV.h_ c_.new
      simp only[]
      rw[if_neg (by omega),if_neg (by omega),if_neg (by omega)]
     exact aa (e2.trans (Prod.ext e3 rfl)) .u0 rfl HQ
    ·have h7:¬er=7:=by assumption
     have h0:er≠0:=by assumption
     have e3:aV.h_ t c n p (.d r er)=.u .a er:=by
      unfold aV.h_ c_.new
      simp only[]
      rw[if_neg h0,if_neg (by omega),if_neg (by omega)]
     exact aa (e2.trans (Prod.ext e3 rfl)) .u0 rfl HQ
    ·have h0:¬er≠0:=by assumption
     have h0:=Decidable.not_not.1 h0
     obtain⟨i',g,Nb,rfl⟩:=hr h0
     have e3:aV.h_ t c n p (.d (aC i' g) er)=.y (.s 0) (aC i' g):=by
      unfold aV.h_
      simp only[]
      rw[if_pos h0]
     exact aa (e2.trans (Prod.ext e3 rfl)) (.y0 Nb) rfl HQ
 |@a1 p1 v1 qm vp n p ref hn hp σ lm h hF=>
  refine Vx.fm H B_ (b:=Tryz.a706) ?_;(repeat' first|constructor|exact ZQ|intro _);all_goals apply zL
  refine Vx.cf (A:=[_,_,_,_]) (fun B W S H=>v_ hs.2.2.2.2.1 hx h H) fun a' x' l' e hl=>?_
  have e2:(aV.a σ n p).step t c key aq high x=(aV.h_ t c n p a',x'):=by
   show(aV.h_ _ _ _ _ _,_)=_
   rw[e]
  cases ho:a'.over
  ·(repeat' first|constructor|exact ZQ|intro _)
   all_goals apply zL
   have e3:(aV.a σ n p).step t c key aq high x=(.a a' n p,x'):=e2.trans (Prod.ext (by cases hl<;>first|rfl|cases ho) rfl)
   exact aa e3 (.a1 hn hp hl ho) rfl HQ
  ·cases hl with
   |p _ h=>cases ho
   |g=>cases ho
   |w=>cases ho
   |@d _ r er _ hr=>
    (repeat' first|constructor|exact ZQ|intro _)
    all_goals apply zL
    ·have h7:er=7:=by assumption
     have h3:(n:Int)<3:=by assumption
     have e3:aV.h_ t c n p (.d r er)=.c (.v .a) (n+1) p:=by
      unfold aV.h_ eN.new
      simp only[]
      rw[if_neg (by omega),if_pos ⟨h7,by omega⟩,if_neg (by omega)]
     exact aa (e2.trans (Prod.ext e3 rfl)) (.c0 (by omega) hp) rfl HQ
    ·have h7:er=7:=by assumption
     have h3:¬(n:Int)<3:=by assumption
     have e3:aV.h_ t c n p (.d r er)=.u .a er:=by
      unfold aV.h_ c_.new
      simp only[]
      rw[if_neg (by omega),if_neg (by omega),if_neg (by omega)]
     exact aa (e2.trans (Prod.ext e3 rfl)) .u0 rfl HQ
    ·have h7:¬er=7:=by assumption
     have h0:er≠0:=by assumption
     have e3:aV.h_ t c n p (.d r er)=.u .a er:=by
      unfold aV.h_ c_.new
      simp only[]
      rw[if_neg h0,if_neg (by omega),if_neg (by omega)]
     exact aa (e2.trans (Prod.ext e3 rfl)) .u0 rfl HQ
    ·have h0:¬er≠0:=by assumption
     have h0:=Decidable.not_not.1 h0
     obtain⟨i',g,Nb,rfl⟩:=hr h0
     have e3:aV.h_ t c n p (.d (aC i' g) er)=.y (.s 0) (aC i' g):=by
      unfold aV.h_
      simp only[]
      rw[if_pos h0]
     exact aa (e2.trans (Prod.ext e3 rfl)) (.y0 Nb) rfl HQ
 |@l0 p1 v1 p2 v2 p3 v3 vp n p ref hn=>
  refine Vx.fm H B_ (b:=Tryz.a706) ?_;(repeat' first|constructor|exact ZQ|intro _);all_goals apply zL
  refine Vx.cb (own:=[.obj q _,.sl _ 1 _,.obj p1 _,.obj v1 _,.obj p2 _,.obj v2 _,.obj p3 _,.obj v3 _]++([.obj _ (.row (Jy [.fn (.func 610) [.ptr _ 0] [],Nf,Nf] 0 0++[I (t.l.e.pins+c)]))]++(ad m bl x rest++R))) HQ ?_
  refine Vx.cf (A:=[_,_,_,_,_,_,_,_]) (fun B W S H=>fX hs.2.2.2.2.2.1 hx (.a hc) H) fun a' x' l' e hl=>?_
  have e2:(aV.l .a n).step t c key aq high x=(if a'.over then .p (.new t.l.e c) n else .l a' n,x'):=by
   show(_,_)=_
   rw[e]
  cases ho:a'.over
  ·(repeat' first|constructor|exact ZQ|intro _)
   all_goals apply zL
   exact aa (e2.trans (Prod.ext (if_neg (by rw[ho];simp)) rfl)) (.l1 hn hl ho) rfl HQ
  ·(repeat' first|constructor|exact ZQ|intro _)
   all_goals apply zL
   exact aa (e2.trans (Prod.ext ((if_pos ho).trans (congrArg (aV.p · n) (if_neg (by omega)))) rfl)) (.p0 hn) rfl HQ
 |@l1 p1 v1 p2 v2 p3 v3 qm vp n p ref hn σ lm h hF=>
  refine Vx.fm H B_ (b:=Tryz.a706) ?_;(repeat' first|constructor|exact ZQ|intro _);all_goals apply zL
  refine Vx.cf (A:=[_,_,_,_,_,_,_,_]) (fun B W S H=>fX hs.2.2.2.2.2.1 hx h H) fun a' x' l' e hl=>?_
  have e2:(aV.l σ n).step t c key aq high x=(if a'.over then .p (.new t.l.e c) n else .l a' n,x'):=by
   show(_,_)=_
   rw[e]
  cases ho:a'.over
  ·(repeat' first|constructor|exact ZQ|intro _)
   all_goals apply zL
   exact aa (e2.trans (Prod.ext (if_neg (by rw[ho];simp)) rfl)) (.l1 hn hl ho) rfl HQ
  ·(repeat' first|constructor|exact ZQ|intro _)
   all_goals apply zL
   exact aa (e2.trans (Prod.ext ((if_pos ho).trans (congrArg (aV.p · n) (if_neg (by omega)))) rfl)) (.p0 hn) rfl HQ
 |@u0 p1 v1 vp n p ref er=>
  refine Vx.fm H B_ (b:=Tryz.a706) ?_;(repeat' first|constructor|exact ZQ|intro _);all_goals apply zL
  refine Vx.cb (own:=[.obj q _,.sl _ 1 _,.obj p1 _,.obj v1 _]++([.obj _ (.row (Jy [.fn (.func 610) [.ptr _ 0] [],Nf,Nf] 0 0++[I (t.l.e.pins+c)]))]++(ad m bl x rest++R))) HQ ?_
  refine Vx.cf (A:=[_,_,_,_]) (fun B W S H=>fX hs.2.2.2.2.2.1 hx (.a hc) H) fun a' x' l' e hl=>?_
  have e2:(aV.u .a er).step t c key aq high x=(if a'.over then .d er else .u a' er,x'):=by
   show(_,_)=_
   rw[e]
  cases ho:a'.over
  ·(repeat' first|constructor|exact ZQ|intro _)
   all_goals apply zL
   exact aa (e2.trans (Prod.ext (if_neg (by rw[ho];simp)) rfl)) (.u1 hl ho) rfl HQ
  ·(repeat' first|constructor|exact ZQ|intro _)
   all_goals apply zL
   exact aa (e2.trans (Prod.ext (if_pos ho) rfl)) .d rfl HQ
 |@u1 p1 v1 qm vp n p ref er σ lm h hF=>
  refine Vx.fm H B_ (b:=Tryz.a706) ?_;(repeat' first|constructor|exact ZQ|intro _);all_goals apply zL
  refine Vx.cf (A:=[_,_,_,_]) (fun B W S H=>fX hs.2.2.2.2.2.1 hx h H) fun a' x' l' e hl=>?_
  have e2:(aV.u σ er).step t c key aq high x=(if a'.over then .d er else .u a' er,x'):=by
   show(_,_)=_
   rw[e]
  cases ho:a'.over
  ·(repeat' first|constructor|exact ZQ|intro _)
   all_goals apply zL
   exact aa (e2.trans (Prod.ext (if_neg (by rw[ho];simp)) rfl)) (.u1 hl ho) rfl HQ
  ·(repeat' first|constructor|exact ZQ|intro _)
   all_goals apply zL
   exact aa (e2.trans (Prod.ext (if_pos ho) rfl)) .d rfl HQ
 |@y0 p1 v1 p2 v2 p3 v3 vp n p i g hr=>
  refine Vx.fm H B_ (b:=Tryz.a706) ?_;(repeat' first|constructor|exact ZQ|intro _);all_goals apply zL
  ·exact⟨⟨by omega,by omega,by omega,by omega,by omega⟩,hr,sB⟩
  rename_i qL lL hL
  refine Vx.cb (own:=[.obj q _,.sl _ 1 _,.obj p1 _,.obj v1 _,.obj p2 _,.obj v2 _,.obj p3 _,.obj v3 _]++(lL++(ad m bl x rest++R))) HQ ?_
  refine Vx.cf (A:=[_,_,_,_,_,_,_,_]) (fun B W S H=>B5 hs hr hx hL H) fun a' x' l' e hl=>?_
  have ea:a'=.s 1:=(congrArg Prod.fst e).symm
  subst ea
  have e2:(aV.y (.s 0) (aC i g)).step t c key aq high x=(.y (.s 1) (aC i g),x'):=by
   show(aV.y (.s 1) _,_)=_
   rw[e]
  cases hl with
  |s hk=>
   (repeat' first|constructor|exact ZQ|intro _)
   all_goals apply zL
   exact aa e2 (.y1 hr (.s hk)) rfl HQ
 |@y1 p1 v1 p2 v2 p3 v3 qm vp n p i g hr k lm h=>
  refine Vx.fm H B_ (b:=Tryz.a706) ?_;(repeat' first|constructor|exact ZQ|intro _);all_goals apply zL
  refine Vx.cf (A:=[_,_,_,_,_,_,_,_]) (fun B W S H=>B5 hs hr hx h H) fun a' x' l' e hl=>?_
  have e2:(aV.y (.s k) (aC i g)).step t c key aq high x=(if a'.over then .i (.f (.new t)) (aC i g) else .y a' (aC i g),x'):=by
   show(_,_)=_
   rw[e]
  have ek:a'=.d 0∨a'=.s (k+1):=by
   have:=(congrArg Prod.fst e).symm
   match k,this with
   |0,h=>exact .inr h
   |1,h=>exact .inr h
   |2,h=>exact .inr h
   |k+3,h=>exact .inl h
  rcases ek with rfl|rfl
  ·cases hl with
   |d=>
    (repeat' first|constructor|exact ZQ|intro _)
    all_goals apply zL
    exact aa e2 (.i0 hr) rfl HQ
  ·cases hl with
   |s hk=>
    (repeat' first|constructor|exact ZQ|intro _)
    all_goals apply zL
    exact aa e2 (.y1 hr (.s hk)) rfl HQ
 |@i0 p1 v1 p2 v2 vp n p i g hr=>
  refine Vx.fm H B_ (b:=Tryz.a706) ?_;(repeat' first|constructor|exact ZQ|intro _);all_goals apply zL
  ·exact⟨⟨by omega,by omega,by omega,by omega,by omega⟩,hr,sB.2⟩
  rename_i qL lL hL
  refine Vx.cb (own:=[.obj q _,.sl _ 1 _,.obj p1 _,.obj v1 _,.obj p2 _,.obj v2 _]++(lL++(ad m bl x rest++R))) HQ ?_
  refine Vx.cf (A:=[_,_,_,_,_,_]) (fun B W S H=>B7 hs hr sB.2 hx rfl B6 hL H) fun a' x' l' e hl=>?_
  have e2:(aV.i (.f (.new t)) (aC i g)).step t c key aq high x=(if a'.over then .u (.new t.l.e c) 0 else .i a' (aC i g),x'):=by
   show(_,_)=_
   rw[e]
  obtain⟨km,ln,lv,w,place,ret,er,lf,rfl⟩:=hl.row
  cases ho:a'.over
  ·(repeat' first|constructor|exact ZQ|intro _)
   all_goals apply zL
   exact aa (e2.trans (Prod.ext (if_neg (by rw[ho];simp)) rfl)) (.i1 hr hl ho) rfl HQ
  ·(repeat' first|constructor|exact ZQ|intro _)
   all_goals apply zL
   exact aa (e2.trans (Prod.ext ((if_pos ho).trans (congrArg (aV.u · 0) (if_neg (by omega)))) rfl)) .u0 rfl HQ
 |@i1 p1 v1 p2 v2 qm vp n p i g hr bi σ lm h hF=>
  refine Vx.fm H B_ (b:=Tryz.a706) ?_;(repeat' first|constructor|exact ZQ|intro _);all_goals apply zL
  refine Vx.cf (A:=[_,_,_,_,_,_]) (fun B W S H=>B7 hs hr sB.2 hx hF B6 h H) fun a' x' l' e hl=>?_
  have e2:(aV.i σ (aC i g)).step t c key aq high x=(if a'.over then .u (.new t.l.e c) 0 else .i a' (aC i g),x'):=by
   show(_,_)=_
   rw[e]
  obtain⟨km,ln,lv,w,place,ret,er,lf,rfl⟩:=hl.row
  cases ho:a'.over
  ·(repeat' first|constructor|exact ZQ|intro _)
   all_goals apply zL
   exact aa (e2.trans (Prod.ext (if_neg (by rw[ho];simp)) rfl)) (.i1 hr hl ho) rfl HQ
  ·(repeat' first|constructor|exact ZQ|intro _)
   all_goals apply zL
   exact aa (e2.trans (Prod.ext ((if_pos ho).trans (congrArg (aV.u · 0) (if_neg (by omega)))) rfl)) .u0 rfl HQ
 |d=>cases ho
end
end
end Go.cY
