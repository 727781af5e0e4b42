/- Contracts. Conditions: in each theorem. -/
import Derived.Test.YtdfgboafnklioaaGreatM11
set_option linter.all false
set_option maxRecDepth 100000
set_option maxHeartbeats 4000000
namespace Go.cG
open Go.Proofs
theorem Vx.cz {M:cP}{ro:List aI}{Φ:gz}{K:List Kf}{k:AV->AC}{α:Type}{Rl:α->List Own->Prop}{ov:α->Bool}{st:α×Me}{mem:Me->List Own}{A l R:List Own}{x:Me}{t f:Nat}{name:String}[c0:nj M t name f]{v:AV}{args:List AV}
  (hc:∀B W S,Cx B W S (l++(mem x++(A++R))) ro->aN M (.fn (.func f) [] []) (v::args) S λr S'=>∃ab,fb Rl ov st mem (A++R) r ab/\Cx B W S' ab ro)
  (h:∀a' x' l',st=(a',x')->Rl a' l'->Zx M false (k (cG.B (ov a'))) K (A++(l'++(mem x'++R))) ro Φ):Vx M (.call (.fn (.method name) [] []) (.iface t v::args) k) K (A++(l++(mem x++R))) ro Φ:=
 λB W S H=>cw (jQ (c0.ok v) (az (hc B W S (H.ic ud)) λr S' ⟨ab,⟨l',⟨h1,h2⟩,h3⟩,h4⟩=>by
  subst h2 h3;exact(h st.1 st.2 l' rfl h1).ok B W S' (h4.ic ud.symm)))
instance aar:nj EM 636 "coxswain/ready.run" 742:=⟨λ_=>by kernel_rfl⟩
instance aas:nj EM 672 "coxswain/ready.run" 753:=⟨λ_=>by kernel_rfl⟩
instance aat:nj EM 644 "coxswain/ready.run" 744:=⟨λ_=>by kernel_rfl⟩
instance aau:nj EM 710 "coxswain/ready.run" 756:=⟨λ_=>by kernel_rfl⟩
instance aav:nj EM 718 "coxswain/ready.run" 759:=⟨λ_=>by kernel_rfl⟩
instance aaw:nj EM 727 "coxswain/ready.run" 784:=⟨λ_=>by kernel_rfl⟩
instance aax:nj EM 598 "coxswain/ready.run" 721:=⟨λ_=>by kernel_rfl⟩
instance aay:nj EM 653 "coxswain/ready.run" 746:=⟨λ_=>by kernel_rfl⟩
instance aaz:nj EM 637 "Step" 743:=⟨λ_=>by kernel_rfl⟩
instance aa0:nj EM 673 "Step" 755:=⟨λ_=>by kernel_rfl⟩
instance aa1:nj EM 645 "Step" 745:=⟨λ_=>by kernel_rfl⟩
instance aa2:nj EM 711 "Step" 757:=⟨λ_=>by kernel_rfl⟩
instance aa3:nj EM 719 "Step" 760:=⟨λ_=>by kernel_rfl⟩
instance aa4:nj EM 728 "Step" 785:=⟨λ_=>by kernel_rfl⟩
instance aa5:nj EM 599 "Step" 722:=⟨λ_=>by kernel_rfl⟩
instance aa6:nj EM 654 "Step" 747:=⟨λ_=>by kernel_rfl⟩
instance z41 {n:Nat}[Mn n [742,753,744,756,759,784,721,746,707,501,559,561,516,574,606,626,502,563,603,620,604,623,565,605,560,575,562]]:cK n where
def oe (p v q:Nat)(mk cR th now:AV)(made:Bool):List Own:=[.obj p (.row [mk,cR,th,now,B made]),.obj v (.row [.ptr q 0])]
def pW (q p v:Nat)(now:AV)(made:Bool):List Own:=oe p v q (.fn (.func 559) [] [.ptr v 0]) Nf (.fn (.func 561) [] [.ptr v 0]) now made
def yX (q p v:Nat)(now:AV)(made:Bool):List Own:=oe p v q (.fn (.func 563) [] [.ptr v 0]) Nf (.fn (.func 565) [.ptr q 0] []) now made
def iE (q p v:Nat)(now:AV)(made:Bool):List Own:=oe p v q (.fn (.func 574) [] [.ptr v 0]) Nf Nf now made
def NX (q p v:Nat)(now:AV)(made:Bool):List Own:=oe p v q (.fn (.func 626) [] [.ptr v 0]) Nf Nf now made
def NY (q p v:Nat)(now:AV)(made:Bool):List Own:=oe p v q (.fn (.func 620) [] [.ptr v 0]) (zF 622) Nf now made
def H5 (q p v:Nat)(now:AV)(made:Bool):List Own:=oe p v q (.fn (.func 623) [] [.ptr v 0]) (zF 625) Nf now made
def pX (p:Nat):AV:=.iface 636 (.ptr p 0)
def yY (p:Nat):AV:=.iface 644 (.ptr p 0)
def iF (p:Nat):AV:=.iface 672 (.ptr p 0)
def NZ (p:Nat):AV:=.iface 727 (.ptr p 0)
def N1 (p:Nat):AV:=.iface 710 (.ptr p 0)
def H6 (p:Nat):AV:=.iface 718 (.ptr p 0)
def Tw.pY (t:Tw)(c p:Int)(parts:AV)(cR er:Int):List AV:=t.cs++[I c,B true,I p,parts,U cR,I er]
def Tw.rowP (t:Tw)(c p:Int)(parts:AV)(cR er key ar high tries ref:Int):List AV:=t.pY c p parts cR er++[U key,I ar,I high,I tries,U ref]
section
variable{nd hd ht c3 c4 n c6 c7 c8 c9 dS dt dW i g key ar high:Int}
instance Yn:NC EM (zF 621) [.agg [I nd,I hd,I ht,I c3,I c4,I n,I c6,I c7,I c8,I c9,I dS,I dt,I dW],U (aK i g),U key,I ar,I high] (((0<=nd/\nd<4096)/\(0<=hd/\hd<4096)/\(1<=ht/\ht<=4)/\1<=n/\n<=128)/\(dz i g/\i<n)/\(0<=ar/\ar<=65534)/\1<=high/\high<=ht)
  (λp l=>AP ⟨nd,hd,ht,⟨⟨⟨c3,c4,n⟩,c6,c7,c8⟩,⟨c9,dS,dt⟩,dW⟩⟩ i g key ar high p (.s 0) l):=.of rfl rfl λh ro R=>by
 obtain⟨h0,hi,hj,hh⟩:=h;have e1:ar%18446744073709551616=ar:=am;have e2:high%18446744073709551616=high:=am;show Zx EM false (Tryz.a621 _) _ _ _ _;refine z2 ?_ ?_<;>intros
 all_goals(try rw[e1])
 all_goals(try rw[e2])
 .exact⟨h0,hi,hj,hh⟩
 .exact⟨rfl,rfl,(_::_::_::_::_::_::_::_::_::_::_::R),⟨_,_,AP.s (k:=0) am,rfl,rfl⟩,HQ⟩
end
theorem lI.row {t:Tw}{i g key high:Int}{q:Nat}{b:Int}{σ:c_}{lo:List Own}(h:lI t i g key high q b σ lo):∃lH ln lv w place ret er lf,lo=.obj q (.row (t.pV lH (aK i g) key i high ln lv w place ret b er))::lf:=by
 cases h<;>exact⟨_,_,_,_,_,_,_,_,rfl⟩
instance z42:cK 622 where
instance z43:cK 625 where
inductive i4 (t:Tw)(c key ar high:Int)(q:Nat)(b:Int):aX->List Own->Prop
 |p0 {p1 v1 p2 v2:Nat}{vp:AV}{n:Nat}{p ref:Int}(hn:n<=3):i4 t c key ar high q b (.p .a n) (.obj q (.row (t.rowP c p vp b 0 key ar high n ref))::.sl vp 1 [[pX p1],[yY p2]]::(pW q p1 v1 Np false++yX q p2 v2 Np false))
 |p1 {p1 v1 p2 v2 qm:Nat}{vp:AV}{n:Nat}{p ref:Int}(hn:n<=3){σ:nk}{lm:List Own}(h:w_ t.l.e c qm σ lm)(ho:σ.over=false):i4 t c key ar high q b (.p σ n) (.obj q (.row (t.rowP c p vp b 0 key ar high n ref))::.sl vp 1 [[pX p1],[yY p2]]::(pW q p1 v1 (.ptr qm 0) true++yX q p2 v2 Np false++lm))
 |a0 {p1 v1:Nat}{vp:AV}{n:Nat}{p ref:Int}(hn:n<=3)(hp:0<=p/\p<4294967296):i4 t c key ar high q b (.a (.p .a) n p) (.obj q (.row (t.rowP c p vp b 0 key ar high n ref))::.sl vp 1 [[yY p1]]::(yX q p1 v1 Np false))
 |a1 {p1 v1 qm:Nat}{vp:AV}{n:Nat}{p ref:Int}(hn:n<=3)(hp:0<=p/\p<4294967296){σ:cV}{lm:List Own}(h:n9 t.l.a qm σ lm)(ho:σ.over=false):i4 t c key ar high q b (.a σ n p) (.obj q (.row (t.rowP c p vp b 0 key ar high n ref))::.sl vp 1 [[yY p1]]::(yX q p1 v1 (.ptr qm 0) true++lm))
 |c0 {p1 v1 p2 v2 p3 v3 p4 v4:Nat}{vp:AV}{n:Nat}{p ref:Int}(hn:n<=3)(hp:0<=p/\p<4294967296):i4 t c key ar high q b (.c (.v .a) n p) (.obj q (.row (t.rowP c p vp b 0 key ar high n ref))::.sl vp 1 [[NZ p1],[iF p2],[pX p3],[yY p4]]::(NX q p1 v1 Np false++iE q p2 v2 Np false++pW q p3 v3 Np false++yX q p4 v4 Np false))
 |c1 {p1 v1 p2 v2 p3 v3 p4 v4 qm:Nat}{vp:AV}{n:Nat}{p ref:Int}(hn:n<=3)(hp:0<=p/\p<4294967296){σ:ff}{lm:List Own}(h:yV t.l c p qm σ lm)(ho:σ.over=false):i4 t c key ar high q b (.c σ n p) (.obj q (.row (t.rowP c p vp b 0 key ar high n ref))::.sl vp 1 [[NZ p1],[iF p2],[pX p3],[yY p4]]::(NX q p1 v1 (.ptr qm 0) true++iE q p2 v2 Np false++pW q p3 v3 Np false++yX q p4 v4 Np false++lm))
 |l0 {p1 v1 p2 v2 p3 v3:Nat}{vp:AV}{n:Nat}{p ref:Int}(hn:n<=3):i4 t c key ar high q b (.l .a n) (.obj q (.row (t.rowP c p vp b 0 key ar high n ref))::.sl vp 1 [[iF p1],[pX p2],[yY p3]]::(iE q p1 v1 Np false++pW q p2 v2 Np false++yX q p3 v3 Np false))
 |l1 {p1 v1 p2 v2 p3 v3 qm:Nat}{vp:AV}{n:Nat}{p ref:Int}(hn:n<=3){σ:cM}{lm:List Own}(h:mK t.l.e c qm σ lm)(ho:σ.over=false):i4 t c key ar high q b (.l σ n) (.obj q (.row (t.rowP c p vp b 0 key ar high n ref))::.sl vp 1 [[iF p1],[pX p2],[yY p3]]::(iE q p1 v1 (.ptr qm 0) true++pW q p2 v2 Np false++yX q p3 v3 Np false++lm))
 |y0 {p1 v1 p2 v2 p3 v3:Nat}{vp:AV}{n:Nat}{p i g:Int}(hr:t.rf i g):i4 t c key ar high q b (.y (.s 0) (aK i g)) (.obj q (.row (t.rowP c p vp b 0 key ar high n (aK i g)))::.sl vp 1 [[N1 p1],[H6 p2],[iF p3]]::(NY q p1 v1 Np false++H5 q p2 v2 Np false++iE q p3 v3 Np false))
 |y1 {p1 v1 p2 v2 p3 v3 qm:Nat}{vp:AV}{n:Nat}{p i g:Int}(hr:t.rf i g){k:Nat}{lm:List Own}(h:AP t i g key ar high qm (.s k) lm):i4 t c key ar high q b (.y (.s k) (aK i g)) (.obj q (.row (t.rowP c p vp b 0 key ar high n (aK i g)))::.sl vp 1 [[N1 p1],[H6 p2],[iF p3]]::(NY q p1 v1 (.ptr qm 0) true++H5 q p2 v2 Np false++iE q p3 v3 Np false++lm))
 |i0 {p1 v1 p2 v2:Nat}{vp:AV}{n:Nat}{p i g:Int}(hr:t.rf i g):i4 t c key ar high q b (.i (.f (.new t)) (aK i g)) (.obj q (.row (t.rowP c p vp b 0 key ar high n (aK i g)))::.sl vp 1 [[H6 p1],[iF p2]]::(H5 q p1 v1 Np false++iE q p2 v2 Np false))
 |i1 {p1 v1 p2 v2 qm:Nat}{vp:AV}{n:Nat}{p i g:Int}(hr:t.rf i g){bi:Int}{σ:c_}{lm:List Own}(h:lI t i g key high qm bi σ lm)(ho:σ.over=false):i4 t c key ar high q b (.i σ (aK i g)) (.obj q (.row (t.rowP c p vp b 0 key ar high n (aK i g)))::.sl vp 1 [[H6 p1],[iF p2]]::(H5 q p1 v1 (.ptr qm 0) true++iE q p2 v2 Np false++lm))
 |u0 {p1 v1:Nat}{vp:AV}{n:Nat}{p ref e:Int}:i4 t c key ar high q b (.u .a e) (.obj q (.row (t.rowP c p vp b e key ar high n ref))::.sl vp 1 [[iF p1]]::(iE q p1 v1 Np false))
 |u1 {p1 v1 qm:Nat}{vp:AV}{n:Nat}{p ref e:Int}{σ:cM}{lm:List Own}(h:mK t.l.e c qm σ lm)(ho:σ.over=false):i4 t c key ar high q b (.u σ e) (.obj q (.row (t.rowP c p vp b e key ar high n ref))::.sl vp 1 [[iF p1]]::(iE q p1 v1 (.ptr qm 0) true++lm))
 |d {n:Nat}{p ref e:Int}{vp:AV}:i4 t c key ar high q b (.d e) [.obj q (.row (t.rowP c p vp b e key ar high n ref)),.sl vp 1 []]
section
variable{B0 S:AH}{W:List Nat}{own R lo:List Own}{ro:List aI}{m bl q:Nat}{x:Me}{rest:List AV}{t:Tw}{c key ar high b:Int}
theorem DL {o1 own:List Own}(e:o1=own:=by conv=>lhs;simp only[Tw.rowP,Tw.pY,Tw.cs,Lb.cs,Ar.cs,Ep.cs,pX,yY,iF,NZ,N1,H6,pW,yX,iE,NX,NY,H5,oe,lA,lB,lC]):o1=own:=e
theorem ug {σ:aX}(hs:t.ok)(hc:0<=c/\c<t.l.e.ad)(vK:(0<=ar/\ar<=65534)/\1<=high/\high<=t.ht)(hx:x.gd)(ho:σ.over=false)(DH:Me.aC key)(h:i4 t c key ar high q b σ lo)(H:Cx B0 W S (lo++(ae m bl x rest++R)) ro):
  aN EM (zF 706) [.ptr q 0,.ptr m 0] S λu S'=>∃ab,fb (i4 t c key ar high q (σ.cR t key)) aX.over (σ.step t c key ar high x) (ae m bl · rest) R u ab/\Cx B0 W S' ab ro:=by
 have bt:=hs;unfold Tw.ok Lb.ok Ar.ok Sk.ok Ep.ok at bt;haveI:aY:=⟨⟩;haveI:dQ:=⟨⟩;cases h with
 |@p0 p1 v1 p2 v2 vp n p ref hn=>
  refine y1 H DL ?_;intros;refine Vx.bQ (own:=[.obj q _,.sl _ 1 _,.obj p1 _,.obj v1 _,.obj p2 _,.obj v2 _]++([.obj _ (.row (t.l.e.rowP _ c 0 _))]++(ae m bl x rest++R))) HQ ?_;refine Vx.cz (A:=[_,_,_,_,_,_]) (λB W S H=>oM hs.2.2.2.2.2.1 hx (.a hc) H) λa' x' l' e hl=>?_;have e2:(aX.p .a n).step t c key ar high x=(aX.Cj n a',x'):=by show(aX.Cj _ _,_)=_;rw[e]
  cases ho:a'.over
  .refine z1 ?_;intros;have e3:(aX.p .a n).step t c key ar high x=(.p a' n,x'):=e2.trans (Prod.ext (by cases hl<;>first|rfl|cases ho) rfl);exact aa e3 (.p1 hn hl ho) rfl HQ
  .cases hl with
   |a=>cases ho
   |b=>cases ho
   |c=>cases ho
   |d hp=>
    refine z1 ?_;exact aa e2 (.a0 hn hp) rfl HQ
 |@p1 p1 v1 p2 v2 qm vp n p ref hn σ lm h hF=>
  refine y1 H DL ?_;intros;refine Vx.cz (A:=[_,_,_,_,_,_]) (λB W S H=>oM hs.2.2.2.2.2.1 hx h H) λa' x' l' e hl=>?_;have e2:(aX.p σ n).step t c key ar high x=(aX.Cj n a',x'):=by show(aX.Cj _ _,_)=_;rw[e]
  cases ho:a'.over
  .refine z1 ?_;intros;have e3:(aX.p σ n).step t c key ar high x=(.p a' n,x'):=e2.trans (Prod.ext (by cases hl<;>first|rfl|cases ho) rfl);exact aa e3 (.p1 hn hl ho) rfl HQ
  .cases hl with
   |a=>cases ho
   |b=>cases ho
   |c=>cases ho
   |d hp=>
    refine z1 ?_;exact aa e2 (.a0 hn hp) rfl HQ
 |@c0 p1 v1 p2 v2 p3 v3 p4 v4 vp n p ref hn hp=>
  refine y1 H DL ?_;intros;rw[show(p%3+2)%3=(p+2)%3 by omega];refine Vx.bQ (own:=[.obj q _,.sl _ 1 _,.obj p1 _,.obj v1 _,.obj p2 _,.obj v2 _,.obj p3 _,.obj v3 _,.obj p4 _,.obj v4 _]++([.obj _ (.row (t.l.dX _ _ _ _ _ _ _ _)),.obj _ (.row ((t.l.wait ((p+2)%3)).row _ _ _ _ _ 647)),.obj _ (.row (t.l.e.lF _ _ _ _ _ _ _))]++(ae m bl x rest++R))) HQ ?_;refine Vx.cz (A:=[_,_,_,_,_,_,_,_,_,_]) (λB W S H=>DE hs.2.2.2.2 hx (.v hp (.a hc) rfl .a) H) λa' x' l' e hl=>?_;have e2:(aX.c (.v .a) n p).step t c key ar high x=(if a'.over then .l (.new t.l.e c) n else .c a' n p,x'):=by show(_,_)=_;rw[e]
  cases ho:a'.over
  .refine z1 ?_;intros;exact aa (e2.trans (Prod.ext (if_neg (by rw[ho];simp)) rfl)) (.c1 hn hp hl ho) rfl HQ
  .refine z1 ?_;exact aa (e2.trans (Prod.ext ((if_pos ho).trans (congrArg (aX.l · n) (if_neg am))) rfl)) (.l0 hn) rfl HQ
 |@c1 p1 v1 p2 v2 p3 v3 p4 v4 qm vp n p ref hn hp σ lm h hF=>
  refine y1 H DL ?_;intros;refine Vx.cz (A:=[_,_,_,_,_,_,_,_,_,_]) (λB W S H=>DE hs.2.2.2.2 hx h H) λa' x' l' e hl=>?_;have e2:(aX.c σ n p).step t c key ar high x=(if a'.over then .l (.new t.l.e c) n else .c a' n p,x'):=by show(_,_)=_;rw[e]
  cases ho:a'.over
  .refine z1 ?_;intros;exact aa (e2.trans (Prod.ext (if_neg (by rw[ho];simp)) rfl)) (.c1 hn hp hl ho) rfl HQ
  .refine z1 ?_;exact aa (e2.trans (Prod.ext ((if_pos ho).trans (congrArg (aX.l · n) (if_neg am))) rfl)) (.l0 hn) rfl HQ
 |@a0 p1 v1 vp n p ref hn hp=>
  refine y1 H DL ?_;intros;refine Vx.bQ (own:=[.obj q _,.sl _ 1 _,.obj p1 _,.obj v1 _]++([.obj _ (.row (t.l.a.lF _ _ _ _ _)),.obj _ (.row (t.l.a.f.row _ _ _ _ _ 476))]++(ae m bl x rest++R))) HQ ?_;refine Vx.cz (A:=[_,_,_,_]) (λB W S H=>xJ hs.2.2.2.2.1 hx (.p .a rfl) H) λa' x' l' e hl=>?_;have e2:(aX.a (.p .a) n p).step t c key ar high x=(aX.iY t c n p a',x'):=by show(aX.iY _ _ _ _ _,_)=_;rw[e]
  cases ho:a'.over
  .refine z1 ?_;intros;have e3:(aX.a (.p .a) n p).step t c key ar high x=(.a a' n p,x'):=e2.trans (Prod.ext (by cases hl<;>first|rfl|cases ho) rfl);exact aa e3 (.a1 hn hp hl ho) rfl HQ
  .cases hl with
   |p _ h=>cases ho
   |g=>cases ho
   |w=>cases ho
   |@d _ r er _ hr=>
    refine z4 ?_ ?_ ?_ ?_<;>intros
    .have h7:er=7:=be;have h3:(n:Int)<3:=be;have e3:aX.iY t c n p (.d r er)=.c (.v .a) (n+1) p:=by unfold aX.iY ff.new;simp only[];rw[if_neg am,if_pos ⟨h7,am⟩,if_neg am]
     exact aa (e2.trans (Prod.ext e3 rfl)) (.c0 am hp) rfl HQ
    .have h7:er=7:=be;have h3:¬(n:Int)<3:=be;have e3:aX.iY t c n p (.d r er)=.u .a er:=by unfold aX.iY cM.new;simp only[];rw[if_neg am,if_neg am,if_neg am]
     exact aa (e2.trans (Prod.ext e3 rfl)) .u0 rfl HQ
    .have h7:¬er=7:=be;have h0:er≠0:=be;have e3:aX.iY t c n p (.d r er)=.u .a er:=by unfold aX.iY cM.new;simp only[];rw[if_neg h0,if_neg am,if_neg am]
     exact aa (e2.trans (Prod.ext e3 rfl)) .u0 rfl HQ
    .have h0:¬er≠0:=be;have h0:=Decidable.not_not.1 h0;obtain⟨i',g,Qr,rfl⟩:=hr h0;have e3:aX.iY t c n p (.d (aK i' g) er)=.y (.s 0) (aK i' g):=by unfold aX.iY;simp only[];rw[if_pos h0]
     exact aa (e2.trans (Prod.ext e3 rfl)) (.y0 Qr) rfl HQ
 |@a1 p1 v1 qm vp n p ref hn hp σ lm h hF=>
  refine y1 H DL ?_;intros;refine Vx.cz (A:=[_,_,_,_]) (λB W S H=>xJ hs.2.2.2.2.1 hx h H) λa' x' l' e hl=>?_;have e2:(aX.a σ n p).step t c key ar high x=(aX.iY t c n p a',x'):=by show(aX.iY _ _ _ _ _,_)=_;rw[e]
  cases ho:a'.over
  .refine z1 ?_;intros;have e3:(aX.a σ n p).step t c key ar high x=(.a a' n p,x'):=e2.trans (Prod.ext (by cases hl<;>first|rfl|cases ho) rfl);exact aa e3 (.a1 hn hp hl ho) rfl HQ
  .cases hl with
   |p _ h=>cases ho
   |g=>cases ho
   |w=>cases ho
   |@d _ r er _ hr=>
    refine z4 ?_ ?_ ?_ ?_<;>intros
    .have h7:er=7:=be;have h3:(n:Int)<3:=be;have e3:aX.iY t c n p (.d r er)=.c (.v .a) (n+1) p:=by unfold aX.iY ff.new;simp only[];rw[if_neg am,if_pos ⟨h7,am⟩,if_neg am]
     exact aa (e2.trans (Prod.ext e3 rfl)) (.c0 am hp) rfl HQ
    .have h7:er=7:=be;have h3:¬(n:Int)<3:=be;have e3:aX.iY t c n p (.d r er)=.u .a er:=by unfold aX.iY cM.new;simp only[];rw[if_neg am,if_neg am,if_neg am]
     exact aa (e2.trans (Prod.ext e3 rfl)) .u0 rfl HQ
    .have h7:¬er=7:=be;have h0:er≠0:=be;have e3:aX.iY t c n p (.d r er)=.u .a er:=by unfold aX.iY cM.new;simp only[];rw[if_neg h0,if_neg am,if_neg am]
     exact aa (e2.trans (Prod.ext e3 rfl)) .u0 rfl HQ
    .have h0:¬er≠0:=be;have h0:=Decidable.not_not.1 h0;obtain⟨i',g,Qr,rfl⟩:=hr h0;have e3:aX.iY t c n p (.d (aK i' g) er)=.y (.s 0) (aK i' g):=by unfold aX.iY;simp only[];rw[if_pos h0]
     exact aa (e2.trans (Prod.ext e3 rfl)) (.y0 Qr) rfl HQ
 |@l0 p1 v1 p2 v2 p3 v3 vp n p ref hn=>
  refine y1 H DL ?_;intros;refine Vx.bQ (own:=[.obj q _,.sl _ 1 _,.obj p1 _,.obj v1 _,.obj p2 _,.obj v2 _,.obj p3 _,.obj v3 _]++([.obj _ (.row (Mg [.fn (.func 610) [.ptr _ 0] [],Nf,Nf] 0 0++[I (t.l.e.pins+c)]))]++(ae m bl x rest++R))) HQ ?_;refine Vx.cz (A:=[_,_,_,_,_,_,_,_]) (λB W S H=>gM hs.2.2.2.2.2.1 hx (.a hc) H) λa' x' l' e hl=>?_;have e2:(aX.l .a n).step t c key ar high x=(if a'.over then .p (.new t.l.e c) n else .l a' n,x'):=by show(_,_)=_;rw[e]
  cases ho:a'.over
  .refine z1 ?_;intros;exact aa (e2.trans (Prod.ext (if_neg (by rw[ho];simp)) rfl)) (.l1 hn hl ho) rfl HQ
  .refine z1 ?_;exact aa (e2.trans (Prod.ext ((if_pos ho).trans (congrArg (aX.p · n) (if_neg am))) rfl)) (.p0 hn) rfl HQ
 |@l1 p1 v1 p2 v2 p3 v3 qm vp n p ref hn σ lm h hF=>
  refine y1 H DL ?_;intros;refine Vx.cz (A:=[_,_,_,_,_,_,_,_]) (λB W S H=>gM hs.2.2.2.2.2.1 hx h H) λa' x' l' e hl=>?_;have e2:(aX.l σ n).step t c key ar high x=(if a'.over then .p (.new t.l.e c) n else .l a' n,x'):=by show(_,_)=_;rw[e]
  cases ho:a'.over
  .refine z1 ?_;intros;exact aa (e2.trans (Prod.ext (if_neg (by rw[ho];simp)) rfl)) (.l1 hn hl ho) rfl HQ
  .refine z1 ?_;exact aa (e2.trans (Prod.ext ((if_pos ho).trans (congrArg (aX.p · n) (if_neg am))) rfl)) (.p0 hn) rfl HQ
 |@u0 p1 v1 vp n p ref er=>
  refine y1 H DL ?_;intros;refine Vx.bQ (own:=[.obj q _,.sl _ 1 _,.obj p1 _,.obj v1 _]++([.obj _ (.row (Mg [.fn (.func 610) [.ptr _ 0] [],Nf,Nf] 0 0++[I (t.l.e.pins+c)]))]++(ae m bl x rest++R))) HQ ?_;refine Vx.cz (A:=[_,_,_,_]) (λB W S H=>gM hs.2.2.2.2.2.1 hx (.a hc) H) λa' x' l' e hl=>?_;have e2:(aX.u .a er).step t c key ar high x=(if a'.over then .d er else .u a' er,x'):=by show(_,_)=_;rw[e]
  cases ho:a'.over
  .refine z1 ?_;intros;exact aa (e2.trans (Prod.ext (if_neg (by rw[ho];simp)) rfl)) (.u1 hl ho) rfl HQ
  .refine z1 ?_;exact aa (e2.trans (Prod.ext (if_pos ho) rfl)) .d rfl HQ
 |@u1 p1 v1 qm vp n p ref er σ lm h hF=>
  refine y1 H DL ?_;intros;refine Vx.cz (A:=[_,_,_,_]) (λB W S H=>gM hs.2.2.2.2.2.1 hx h H) λa' x' l' e hl=>?_;have e2:(aX.u σ er).step t c key ar high x=(if a'.over then .d er else .u a' er,x'):=by show(_,_)=_;rw[e]
  cases ho:a'.over
  .refine z1 ?_;intros;exact aa (e2.trans (Prod.ext (if_neg (by rw[ho];simp)) rfl)) (.u1 hl ho) rfl HQ
  .refine z1 ?_;exact aa (e2.trans (Prod.ext (if_pos ho) rfl)) .d rfl HQ
 |@y0 p1 v1 p2 v2 p3 v3 vp n p i g hr=>
  refine y2 H DL ?_ ?_<;>intros
  .exact⟨⟨am,am,am,am,am⟩,hr,vK⟩
  rename_i qL lL hL;refine Vx.bQ (own:=[.obj q _,.sl _ 1 _,.obj p1 _,.obj v1 _,.obj p2 _,.obj v2 _,.obj p3 _,.obj v3 _]++(lL++(ae m bl x rest++R))) HQ ?_;refine Vx.cz (A:=[_,_,_,_,_,_,_,_]) (λB W S H=>DG hs hr hx hL H) λa' x' l' e hl=>?_;have ea:a'=.s 1:=(congrArg Prod.fst e).symm;subst ea;have e2:(aX.y (.s 0) (aK i g)).step t c key ar high x=(.y (.s 1) (aK i g),x'):=by show(aX.y (.s 1) _,_)=_;rw[e]
  cases hl with
  |s hk=>
   refine z1 ?_;intros;exact aa e2 (.y1 hr (.s hk)) rfl HQ
 |@y1 p1 v1 p2 v2 p3 v3 qm vp n p i g hr k lm h=>
  refine y1 H DL ?_;intros;refine Vx.cz (A:=[_,_,_,_,_,_,_,_]) (λB W S H=>DG hs hr hx h H) λa' x' l' e hl=>?_;have e2:(aX.y (.s k) (aK i g)).step t c key ar high x=(if a'.over then .i (.f (.new t)) (aK i g) else .y a' (aK i g),x'):=by show(_,_)=_;rw[e]
  have ek:a'=.d 0\/a'=.s (k+1):=by
   have:=(congrArg Prod.fst e).symm;match k,this with
   |0,h=>exact .inr h
   |1,h=>exact .inr h
   |2,h=>exact .inr h
   |k+3,h=>exact .inl h
  rcases ek with rfl|rfl
  .cases hl with
   |d=>refine z1 ?_;exact aa e2 (.i0 hr) rfl HQ
  .cases hl with
   |s hk=>
    refine z1 ?_;intros;exact aa e2 (.y1 hr (.s hk)) rfl HQ
 |@i0 p1 v1 p2 v2 vp n p i g hr=>
  refine y2 H DL ?_ ?_<;>intros
  .exact⟨⟨am,am,am,am,am⟩,hr,vK.2⟩
  rename_i qL lL hL;refine Vx.bQ (own:=[.obj q _,.sl _ 1 _,.obj p1 _,.obj v1 _,.obj p2 _,.obj v2 _]++(lL++(ae m bl x rest++R))) HQ ?_;refine Vx.cz (A:=[_,_,_,_,_,_]) (λB W S H=>DI hs hr vK.2 hx rfl DH hL H) λa' x' l' e hl=>?_;have e2:(aX.i (.f (.new t)) (aK i g)).step t c key ar high x=(if a'.over then .u (.new t.l.e c) 0 else .i a' (aK i g),x'):=by show(_,_)=_;rw[e]
  obtain⟨lH,ln,lv,w,place,ret,er,lf,rfl⟩:=hl.row;cases ho:a'.over
  .refine z1 ?_;intros;exact aa (e2.trans (Prod.ext (if_neg (by rw[ho];simp)) rfl)) (.i1 hr hl ho) rfl HQ
  .refine z1 ?_;exact aa (e2.trans (Prod.ext ((if_pos ho).trans (congrArg (aX.u · 0) (if_neg am))) rfl)) .u0 rfl HQ
 |@i1 p1 v1 p2 v2 qm vp n p i g hr bi σ lm h hF=>
  refine y1 H DL ?_;intros;refine Vx.cz (A:=[_,_,_,_,_,_]) (λB W S H=>DI hs hr vK.2 hx hF DH h H) λa' x' l' e hl=>?_;have e2:(aX.i σ (aK i g)).step t c key ar high x=(if a'.over then .u (.new t.l.e c) 0 else .i a' (aK i g),x'):=by show(_,_)=_;rw[e]
  obtain⟨lH,ln,lv,w,place,ret,er,lf,rfl⟩:=hl.row;cases ho:a'.over
  .refine z1 ?_;intros;exact aa (e2.trans (Prod.ext (if_neg (by rw[ho];simp)) rfl)) (.i1 hr hl ho) rfl HQ
  .refine z1 ?_;exact aa (e2.trans (Prod.ext ((if_pos ho).trans (congrArg (aX.u · 0) (if_neg am))) rfl)) .u0 rfl HQ
 |d=>cases ho
end
end Go.cG
