/- Contracts. Conditions: in each theorem. -/
import Derived.Test.YtdfgboafnklioaaGreatM11
set_option linter.all false
set_option maxRecDepth 100000
set_option maxHeartbeats 4000000
namespace Go.cO
open Go.Proofs
theorem Vx.cC {M:cQ}{ro:List aB}{Φ:gn}{K:List Kf}{k:AV->AC}{α:Type}{Rl:α->List Own->Prop}{ov:α->Bool}{st:α×Me}{mem:Me->List Own}{A l R:List Own}{x:Me}{t f:Nat}{name:String}[c0:m9 M t name f]{v:AV}{args:List AV}
  (hc:∀B W S,Cx B W S (l++(mem x++(A++R))) ro->aG M (.fn (.func f) [] []) (v::args) S λr S'=>∃ab,eW Rl ov st mem (A++R) r ab/\Cx B W S' ab ro)
  (h:∀a' x' l',st=(a',x')->Rl a' l'->Zx M false (k (cO.B (ov a'))) K (A++(l'++(mem x'++R))) ro Φ):Vx M (.call (.fn (.method name) [] []) (.iface t v::args) k) K (A++(l++(mem x++R))) ro Φ:=
 λB W S H=>bW (jT (c0.ok v) (aw (hc B W S (H.hX tL)) λr S' ⟨ab,⟨l',⟨h1,h2⟩,h3⟩,h4⟩=>by
  subst h2 h3;exact(h st.1 st.2 l' rfl h1).ok B W S' (h4.hX tL.symm)))
instance aap:m9 EM 636 "coxswain/ready.run" 742:=⟨λ_=>by kernel_rfl⟩
instance aaq:m9 EM 672 "coxswain/ready.run" 753:=⟨λ_=>by kernel_rfl⟩
instance aar:m9 EM 644 "coxswain/ready.run" 744:=⟨λ_=>by kernel_rfl⟩
instance aas:m9 EM 710 "coxswain/ready.run" 756:=⟨λ_=>by kernel_rfl⟩
instance aat:m9 EM 718 "coxswain/ready.run" 759:=⟨λ_=>by kernel_rfl⟩
instance aau:m9 EM 727 "coxswain/ready.run" 784:=⟨λ_=>by kernel_rfl⟩
instance aav:m9 EM 598 "coxswain/ready.run" 721:=⟨λ_=>by kernel_rfl⟩
instance aaw:m9 EM 653 "coxswain/ready.run" 746:=⟨λ_=>by kernel_rfl⟩
instance aax:m9 EM 637 "Step" 743:=⟨λ_=>by kernel_rfl⟩
instance aay:m9 EM 673 "Step" 755:=⟨λ_=>by kernel_rfl⟩
instance aaz:m9 EM 645 "Step" 745:=⟨λ_=>by kernel_rfl⟩
instance aa0:m9 EM 711 "Step" 757:=⟨λ_=>by kernel_rfl⟩
instance aa1:m9 EM 719 "Step" 760:=⟨λ_=>by kernel_rfl⟩
instance aa2:m9 EM 728 "Step" 785:=⟨λ_=>by kernel_rfl⟩
instance aa3:m9 EM 599 "Step" 722:=⟨λ_=>by kernel_rfl⟩
instance aa4:m9 EM 654 "Step" 747:=⟨λ_=>by kernel_rfl⟩
instance z41 {n:Nat}[Mn n [742,753,744,756,759,784,721,746,707,501,559,561,516,574,606,626,502,563,603,620,604,623,565,605,560,575,562]]:cH n where
def nU (p v q:Nat)(mk cM th now:AV)(made:Bool):List Own:=[.obj p (.row [mk,cM,th,now,B made]),.obj v (.row [.ptr q 0])]
def pQ (q p v:Nat)(now:AV)(made:Bool):List Own:=nU p v q (.fn (.func 559) [] [.ptr v 0]) Nf (.fn (.func 561) [] [.ptr v 0]) now made
def yF (q p v:Nat)(now:AV)(made:Bool):List Own:=nU p v q (.fn (.func 563) [] [.ptr v 0]) Nf (.fn (.func 565) [.ptr q 0] []) now made
def iB (q p v:Nat)(now:AV)(made:Bool):List Own:=nU p v q (.fn (.func 574) [] [.ptr v 0]) Nf Nf now made
def Nn (q p v:Nat)(now:AV)(made:Bool):List Own:=nU p v q (.fn (.func 626) [] [.ptr v 0]) Nf Nf now made
def Nq (q p v:Nat)(now:AV)(made:Bool):List Own:=nU p v q (.fn (.func 620) [] [.ptr v 0]) (zF 622) Nf now made
def Hy (q p v:Nat)(now:AV)(made:Bool):List Own:=nU p v q (.fn (.func 623) [] [.ptr v 0]) (zF 625) Nf now made
def pR (p:Nat):AV:=.iface 636 (.ptr p 0)
def yG (p:Nat):AV:=.iface 644 (.ptr p 0)
def iC (p:Nat):AV:=.iface 672 (.ptr p 0)
def Nr (p:Nat):AV:=.iface 727 (.ptr p 0)
def Nt (p:Nat):AV:=.iface 710 (.ptr p 0)
def Hz (p:Nat):AV:=.iface 718 (.ptr p 0)
def Tw.pS (t:Tw)(c p:Int)(parts:AV)(cM er:Int):List AV:=t.cs++[I c,B true,I p,parts,U cM,I er]
def Tw.rowP (t:Tw)(c p:Int)(parts:AV)(cM er key aq high tries ref:Int):List AV:=t.pS c p parts cM er++[U key,I aq,I high,I tries,U ref]
section
variable{nd hd ht c3 c4 n c6 c7 c8 c9 dP dp dM i g key aq high:Int}
instance XX:NC EM (zF 621) [.agg [I nd,I hd,I ht,I c3,I c4,I n,I c6,I c7,I c8,I c9,I dP,I dp,I dM],U (aD i g),U key,I aq,I high] (((0<=nd/\nd<4096)/\(0<=hd/\hd<4096)/\(1<=ht/\ht<=4)/\1<=n/\n<=128)/\(dw i g/\i<n)/\(0<=aq/\aq<=65534)/\1<=high/\high<=ht)
  (λp l=>Av ⟨nd,hd,ht,⟨⟨⟨c3,c4,n⟩,c6,c7,c8⟩,⟨c9,dP,dp⟩,dM⟩⟩ i g key aq high p (.s 0) l):=.of rfl rfl λh ro R=>by
 obtain⟨h0,hi,hj,hh⟩:=h;have e1:aq%18446744073709551616=aq:=am;have e2:high%18446744073709551616=high:=am;show Zx EM false (Tryz.a621 _) _ _ _ _;refine z2 ?_ ?_<;>intros
 all_goals(try rw[e1])
 all_goals(try rw[e2])
 .exact⟨h0,hi,hj,hh⟩
 .exact⟨rfl,rfl,(_::_::_::_::_::_::_::_::_::_::_::R),⟨_,_,Av.s (k:=0) am,rfl,rfl⟩,HQ⟩
end
theorem lz.row {t:Tw}{i g key high:Int}{q:Nat}{b:Int}{σ:cW}{lo:List Own}(h:lz t i g key high q b σ lo):∃ko ln lv w place ret er lf,lo=.obj q (.row (t.pP ko (aD i g) key i high ln lv w place ret b er))::lf:=by
 cases h<;>exact⟨_,_,_,_,_,_,_,_,rfl⟩
instance z42:cH 622 where
instance z43:cH 625 where
inductive iX (t:Tw)(c key aq high:Int)(q:Nat)(b:Int):aI->List Own->Prop
 |p0 {p1 v1 p2 v2:Nat}{vp:AV}{n:Nat}{p ref:Int}(hn:n<=3):iX t c key aq high q b (.p .a n) (.obj q (.row (t.rowP c p vp b 0 key aq high n ref))::.sl vp 1 [[pR p1],[yG p2]]::(pQ q p1 v1 Np false++yF q p2 v2 Np false))
 |p1 {p1 v1 p2 v2 qm:Nat}{vp:AV}{n:Nat}{p ref:Int}(hn:n<=3){σ:m_}{lm:List Own}(h:wD t.l.e c qm σ lm)(ho:σ.over=false):iX t c key aq high q b (.p σ n) (.obj q (.row (t.rowP c p vp b 0 key aq high n ref))::.sl vp 1 [[pR p1],[yG p2]]::(pQ q p1 v1 (.ptr qm 0) true++yF q p2 v2 Np false++lm))
 |a0 {p1 v1:Nat}{vp:AV}{n:Nat}{p ref:Int}(hn:n<=3)(hp:0<=p/\p<4294967296):iX t c key aq high q b (.a (.p .a) n p) (.obj q (.row (t.rowP c p vp b 0 key aq high n ref))::.sl vp 1 [[yG p1]]::(yF q p1 v1 Np false))
 |a1 {p1 v1 qm:Nat}{vp:AV}{n:Nat}{p ref:Int}(hn:n<=3)(hp:0<=p/\p<4294967296){σ:bN}{lm:List Own}(h:nS t.l.a qm σ lm)(ho:σ.over=false):iX t c key aq high q b (.a σ n p) (.obj q (.row (t.rowP c p vp b 0 key aq high n ref))::.sl vp 1 [[yG p1]]::(yF q p1 v1 (.ptr qm 0) true++lm))
 |c0 {p1 v1 p2 v2 p3 v3 p4 v4:Nat}{vp:AV}{n:Nat}{p ref:Int}(hn:n<=3)(hp:0<=p/\p<4294967296):iX t c key aq high q b (.c (.v .a) n p) (.obj q (.row (t.rowP c p vp b 0 key aq high n ref))::.sl vp 1 [[Nr p1],[iC p2],[pR p3],[yG p4]]::(Nn q p1 v1 Np false++iB q p2 v2 Np false++pQ q p3 v3 Np false++yF q p4 v4 Np false))
 |c1 {p1 v1 p2 v2 p3 v3 p4 v4 qm:Nat}{vp:AV}{n:Nat}{p ref:Int}(hn:n<=3)(hp:0<=p/\p<4294967296){σ:eX}{lm:List Own}(h:yD t.l c p qm σ lm)(ho:σ.over=false):iX t c key aq high q b (.c σ n p) (.obj q (.row (t.rowP c p vp b 0 key aq high n ref))::.sl vp 1 [[Nr p1],[iC p2],[pR p3],[yG p4]]::(Nn q p1 v1 (.ptr qm 0) true++iB q p2 v2 Np false++pQ q p3 v3 Np false++yF q p4 v4 Np false++lm))
 |l0 {p1 v1 p2 v2 p3 v3:Nat}{vp:AV}{n:Nat}{p ref:Int}(hn:n<=3):iX t c key aq high q b (.l .a n) (.obj q (.row (t.rowP c p vp b 0 key aq high n ref))::.sl vp 1 [[iC p1],[pR p2],[yG p3]]::(iB q p1 v1 Np false++pQ q p2 v2 Np false++yF q p3 v3 Np false))
 |l1 {p1 v1 p2 v2 p3 v3 qm:Nat}{vp:AV}{n:Nat}{p ref:Int}(hn:n<=3){σ:cG}{lm:List Own}(h:mE t.l.e c qm σ lm)(ho:σ.over=false):iX t c key aq high q b (.l σ n) (.obj q (.row (t.rowP c p vp b 0 key aq high n ref))::.sl vp 1 [[iC p1],[pR p2],[yG p3]]::(iB q p1 v1 (.ptr qm 0) true++pQ q p2 v2 Np false++yF q p3 v3 Np false++lm))
 |y0 {p1 v1 p2 v2 p3 v3:Nat}{vp:AV}{n:Nat}{p i g:Int}(hr:t.rf i g):iX t c key aq high q b (.y (.s 0) (aD i g)) (.obj q (.row (t.rowP c p vp b 0 key aq high n (aD i g)))::.sl vp 1 [[Nt p1],[Hz p2],[iC p3]]::(Nq q p1 v1 Np false++Hy q p2 v2 Np false++iB q p3 v3 Np false))
 |y1 {p1 v1 p2 v2 p3 v3 qm:Nat}{vp:AV}{n:Nat}{p i g:Int}(hr:t.rf i g){k:Nat}{lm:List Own}(h:Av t i g key aq high qm (.s k) lm):iX t c key aq high q b (.y (.s k) (aD i g)) (.obj q (.row (t.rowP c p vp b 0 key aq high n (aD i g)))::.sl vp 1 [[Nt p1],[Hz p2],[iC p3]]::(Nq q p1 v1 (.ptr qm 0) true++Hy q p2 v2 Np false++iB q p3 v3 Np false++lm))
 |i0 {p1 v1 p2 v2:Nat}{vp:AV}{n:Nat}{p i g:Int}(hr:t.rf i g):iX t c key aq high q b (.i (.f (.new t)) (aD i g)) (.obj q (.row (t.rowP c p vp b 0 key aq high n (aD i g)))::.sl vp 1 [[Hz p1],[iC p2]]::(Hy q p1 v1 Np false++iB q p2 v2 Np false))
 |i1 {p1 v1 p2 v2 qm:Nat}{vp:AV}{n:Nat}{p i g:Int}(hr:t.rf i g){bi:Int}{σ:cW}{lm:List Own}(h:lz t i g key high qm bi σ lm)(ho:σ.over=false):iX t c key aq high q b (.i σ (aD i g)) (.obj q (.row (t.rowP c p vp b 0 key aq high n (aD i g)))::.sl vp 1 [[Hz p1],[iC p2]]::(Hy q p1 v1 (.ptr qm 0) true++iB q p2 v2 Np false++lm))
 |u0 {p1 v1:Nat}{vp:AV}{n:Nat}{p ref e:Int}:iX t c key aq high q b (.u .a e) (.obj q (.row (t.rowP c p vp b e key aq high n ref))::.sl vp 1 [[iC p1]]::(iB q p1 v1 Np false))
 |u1 {p1 v1 qm:Nat}{vp:AV}{n:Nat}{p ref e:Int}{σ:cG}{lm:List Own}(h:mE t.l.e c qm σ lm)(ho:σ.over=false):iX t c key aq high q b (.u σ e) (.obj q (.row (t.rowP c p vp b e key aq high n ref))::.sl vp 1 [[iC p1]]::(iB q p1 v1 (.ptr qm 0) true++lm))
 |d {n:Nat}{p ref e:Int}{vp:AV}:iX t c key aq high q b (.d e) [.obj q (.row (t.rowP c p vp b e key aq high n ref)),.sl vp 1 []]
section
variable{B0 S:AH}{W:List Nat}{own R lo:List Own}{ro:List aB}{m bl q:Nat}{x:Me}{rest:List AV}{t:Tw}{c key aq high b:Int}
theorem Dr {o1 own:List Own}(e:o1=own:=by conv=>lhs;simp only[Tw.rowP,Tw.pS,Tw.cs,Lb.cs,Ar.cs,Ep.cs,pR,yG,iC,Nr,Nt,Hz,pQ,yF,iB,Nn,Nq,Hy,nU,lA,lB,lC]):o1=own:=e
theorem tO {σ:aI}(hs:t.ok)(hc:0<=c/\c<t.l.e.ah)(tQ:(0<=aq/\aq<=65534)/\1<=high/\high<=t.ht)(hx:x.gd)(ho:σ.over=false)(Dm:Me.ar key)(h:iX t c key aq high q b σ lo)(H:Cx B0 W S (lo++(ad m bl x rest++R)) ro):
  aG EM (zF 706) [.ptr q 0,.ptr m 0] S λu S'=>∃ab,eW (iX t c key aq high q (σ.cM t key)) aI.over (σ.step t c key aq high x) (ad m bl · rest) R u ab/\Cx B0 W S' ab ro:=by
 have bt:=hs;unfold Tw.ok Lb.ok Ar.ok Sk.ok Ep.ok at bt;haveI:aU:=⟨⟩;haveI:dH:=⟨⟩;cases h with
 |@p0 p1 v1 p2 v2 vp n p ref hn=>
  refine y1 H Dr ?_;intros;refine Vx.bB (own:=[.obj q _,.sl _ 1 _,.obj p1 _,.obj v1 _,.obj p2 _,.obj v2 _]++([.obj _ (.row (t.l.e.rowP _ c 0 _))]++(ad m bl x rest++R))) HQ ?_;refine Vx.cC (A:=[_,_,_,_,_,_]) (λB W S H=>oy hs.2.2.2.2.2.1 hx (.a hc) H) λa' x' l' e hl=>?_;have e2:(aI.p .a n).step t c key aq high x=(aI.B4 n a',x'):=by show(aI.B4 _ _,_)=_;rw[e]
  cases ho:a'.over
  .refine z1 ?_;intros;have e3:(aI.p .a n).step t c key aq high x=(.p a' n,x'):=e2.trans (Prod.ext (by cases hl<;>first|rfl|cases ho) rfl);exact aa e3 (.p1 hn hl ho) rfl HQ
  .cases hl with
   |a=>cases ho
   |b=>cases ho
   |c=>cases ho
   |d hp=>
    refine z1 ?_;exact aa e2 (.a0 hn hp) rfl HQ
 |@p1 p1 v1 p2 v2 qm vp n p ref hn σ lm h hF=>
  refine y1 H Dr ?_;intros;refine Vx.cC (A:=[_,_,_,_,_,_]) (λB W S H=>oy hs.2.2.2.2.2.1 hx h H) λa' x' l' e hl=>?_;have e2:(aI.p σ n).step t c key aq high x=(aI.B4 n a',x'):=by show(aI.B4 _ _,_)=_;rw[e]
  cases ho:a'.over
  .refine z1 ?_;intros;have e3:(aI.p σ n).step t c key aq high x=(.p a' n,x'):=e2.trans (Prod.ext (by cases hl<;>first|rfl|cases ho) rfl);exact aa e3 (.p1 hn hl ho) rfl HQ
  .cases hl with
   |a=>cases ho
   |b=>cases ho
   |c=>cases ho
   |d hp=>
    refine z1 ?_;exact aa e2 (.a0 hn hp) rfl HQ
 |@c0 p1 v1 p2 v2 p3 v3 p4 v4 vp n p ref hn hp=>
  refine y1 H Dr ?_;intros;rw[show(p%3+2)%3=(p+2)%3 by omega];refine Vx.bB (own:=[.obj q _,.sl _ 1 _,.obj p1 _,.obj v1 _,.obj p2 _,.obj v2 _,.obj p3 _,.obj v3 _,.obj p4 _,.obj v4 _]++([.obj _ (.row (t.l.j8 _ _ _ _ _ _ _ _)),.obj _ (.row ((t.l.wait ((p+2)%3)).row _ _ _ _ _ 647)),.obj _ (.row (t.l.e.lq _ _ _ _ _ _ _))]++(ad m bl x rest++R))) HQ ?_;refine Vx.cC (A:=[_,_,_,_,_,_,_,_,_,_]) (λB W S H=>Dj hs.2.2.2.2 hx (.v hp (.a hc) rfl .a) H) λa' x' l' e hl=>?_;have e2:(aI.c (.v .a) n p).step t c key aq high x=(if a'.over then .l (.new t.l.e c) n else .c a' n p,x'):=by show(_,_)=_;rw[e]
  cases ho:a'.over
  .refine z1 ?_;intros;exact aa (e2.trans (Prod.ext (if_neg (by rw[ho];simp)) rfl)) (.c1 hn hp hl ho) rfl HQ
  .refine z1 ?_;exact aa (e2.trans (Prod.ext ((if_pos ho).trans (congrArg (aI.l · n) (if_neg am))) rfl)) (.l0 hn) rfl HQ
 |@c1 p1 v1 p2 v2 p3 v3 p4 v4 qm vp n p ref hn hp σ lm h hF=>
  refine y1 H Dr ?_;intros;refine Vx.cC (A:=[_,_,_,_,_,_,_,_,_,_]) (λB W S H=>Dj hs.2.2.2.2 hx h H) λa' x' l' e hl=>?_;have e2:(aI.c σ n p).step t c key aq high x=(if a'.over then .l (.new t.l.e c) n else .c a' n p,x'):=by show(_,_)=_;rw[e]
  cases ho:a'.over
  .refine z1 ?_;intros;exact aa (e2.trans (Prod.ext (if_neg (by rw[ho];simp)) rfl)) (.c1 hn hp hl ho) rfl HQ
  .refine z1 ?_;exact aa (e2.trans (Prod.ext ((if_pos ho).trans (congrArg (aI.l · n) (if_neg am))) rfl)) (.l0 hn) rfl HQ
 |@a0 p1 v1 vp n p ref hn hp=>
  refine y1 H Dr ?_;intros;refine Vx.bB (own:=[.obj q _,.sl _ 1 _,.obj p1 _,.obj v1 _]++([.obj _ (.row (t.l.a.lq _ _ _ _ _)),.obj _ (.row (t.l.a.f.row _ _ _ _ _ 476))]++(ad m bl x rest++R))) HQ ?_;refine Vx.cC (A:=[_,_,_,_]) (λB W S H=>xb hs.2.2.2.2.1 hx (.p .a rfl) H) λa' x' l' e hl=>?_;have e2:(aI.a (.p .a) n p).step t c key aq high x=(aI.iz t c n p a',x'):=by show(aI.iz _ _ _ _ _,_)=_;rw[e]
  cases ho:a'.over
  .refine z1 ?_;intros;have e3:(aI.a (.p .a) n p).step t c key aq high x=(.a a' n p,x'):=e2.trans (Prod.ext (by cases hl<;>first|rfl|cases ho) rfl);exact aa e3 (.a1 hn hp hl ho) rfl HQ
  .cases hl with
   |p _ h=>cases ho
   |g=>cases ho
   |w=>cases ho
   |@d _ r er _ hr=>
    refine z4 ?_ ?_ ?_ ?_<;>intros
    .have h7:er=7:=ci;have h3:(n:Int)<3:=ci;have e3:aI.iz t c n p (.d r er)=.c (.v .a) (n+1) p:=by unfold aI.iz eX.new;simp only[];rw[if_neg am,if_pos ⟨h7,am⟩,if_neg am]
     exact aa (e2.trans (Prod.ext e3 rfl)) (.c0 am hp) rfl HQ
    .have h7:er=7:=ci;have h3:¬(n:Int)<3:=ci;have e3:aI.iz t c n p (.d r er)=.u .a er:=by unfold aI.iz cG.new;simp only[];rw[if_neg am,if_neg am,if_neg am]
     exact aa (e2.trans (Prod.ext e3 rfl)) .u0 rfl HQ
    .have h7:¬er=7:=ci;have h0:er≠0:=ci;have e3:aI.iz t c n p (.d r er)=.u .a er:=by unfold aI.iz cG.new;simp only[];rw[if_neg h0,if_neg am,if_neg am]
     exact aa (e2.trans (Prod.ext e3 rfl)) .u0 rfl HQ
    .have h0:¬er≠0:=ci;have h0:=Decidable.not_not.1 h0;obtain⟨i',g,P9,rfl⟩:=hr h0;have e3:aI.iz t c n p (.d (aD i' g) er)=.y (.s 0) (aD i' g):=by unfold aI.iz;simp only[];rw[if_pos h0]
     exact aa (e2.trans (Prod.ext e3 rfl)) (.y0 P9) rfl HQ
 |@a1 p1 v1 qm vp n p ref hn hp σ lm h hF=>
  refine y1 H Dr ?_;intros;refine Vx.cC (A:=[_,_,_,_]) (λB W S H=>xb hs.2.2.2.2.1 hx h H) λa' x' l' e hl=>?_;have e2:(aI.a σ n p).step t c key aq high x=(aI.iz t c n p a',x'):=by show(aI.iz _ _ _ _ _,_)=_;rw[e]
  cases ho:a'.over
  .refine z1 ?_;intros;have e3:(aI.a σ n p).step t c key aq high x=(.a a' n p,x'):=e2.trans (Prod.ext (by cases hl<;>first|rfl|cases ho) rfl);exact aa e3 (.a1 hn hp hl ho) rfl HQ
  .cases hl with
   |p _ h=>cases ho
   |g=>cases ho
   |w=>cases ho
   |@d _ r er _ hr=>
    refine z4 ?_ ?_ ?_ ?_<;>intros
    .have h7:er=7:=ci;have h3:(n:Int)<3:=ci;have e3:aI.iz t c n p (.d r er)=.c (.v .a) (n+1) p:=by unfold aI.iz eX.new;simp only[];rw[if_neg am,if_pos ⟨h7,am⟩,if_neg am]
     exact aa (e2.trans (Prod.ext e3 rfl)) (.c0 am hp) rfl HQ
    .have h7:er=7:=ci;have h3:¬(n:Int)<3:=ci;have e3:aI.iz t c n p (.d r er)=.u .a er:=by unfold aI.iz cG.new;simp only[];rw[if_neg am,if_neg am,if_neg am]
     exact aa (e2.trans (Prod.ext e3 rfl)) .u0 rfl HQ
    .have h7:¬er=7:=ci;have h0:er≠0:=ci;have e3:aI.iz t c n p (.d r er)=.u .a er:=by unfold aI.iz cG.new;simp only[];rw[if_neg h0,if_neg am,if_neg am]
     exact aa (e2.trans (Prod.ext e3 rfl)) .u0 rfl HQ
    .have h0:¬er≠0:=ci;have h0:=Decidable.not_not.1 h0;obtain⟨i',g,P9,rfl⟩:=hr h0;have e3:aI.iz t c n p (.d (aD i' g) er)=.y (.s 0) (aD i' g):=by unfold aI.iz;simp only[];rw[if_pos h0]
     exact aa (e2.trans (Prod.ext e3 rfl)) (.y0 P9) rfl HQ
 |@l0 p1 v1 p2 v2 p3 v3 vp n p ref hn=>
  refine y1 H Dr ?_;intros;refine Vx.bB (own:=[.obj q _,.sl _ 1 _,.obj p1 _,.obj v1 _,.obj p2 _,.obj v2 _,.obj p3 _,.obj v3 _]++([.obj _ (.row (LI [.fn (.func 610) [.ptr _ 0] [],Nf,Nf] 0 0++[I (t.l.e.pins+c)]))]++(ad m bl x rest++R))) HQ ?_;refine Vx.cC (A:=[_,_,_,_,_,_,_,_]) (λB W S H=>gG hs.2.2.2.2.2.1 hx (.a hc) H) λa' x' l' e hl=>?_;have e2:(aI.l .a n).step t c key aq high x=(if a'.over then .p (.new t.l.e c) n else .l a' n,x'):=by show(_,_)=_;rw[e]
  cases ho:a'.over
  .refine z1 ?_;intros;exact aa (e2.trans (Prod.ext (if_neg (by rw[ho];simp)) rfl)) (.l1 hn hl ho) rfl HQ
  .refine z1 ?_;exact aa (e2.trans (Prod.ext ((if_pos ho).trans (congrArg (aI.p · n) (if_neg am))) rfl)) (.p0 hn) rfl HQ
 |@l1 p1 v1 p2 v2 p3 v3 qm vp n p ref hn σ lm h hF=>
  refine y1 H Dr ?_;intros;refine Vx.cC (A:=[_,_,_,_,_,_,_,_]) (λB W S H=>gG hs.2.2.2.2.2.1 hx h H) λa' x' l' e hl=>?_;have e2:(aI.l σ n).step t c key aq high x=(if a'.over then .p (.new t.l.e c) n else .l a' n,x'):=by show(_,_)=_;rw[e]
  cases ho:a'.over
  .refine z1 ?_;intros;exact aa (e2.trans (Prod.ext (if_neg (by rw[ho];simp)) rfl)) (.l1 hn hl ho) rfl HQ
  .refine z1 ?_;exact aa (e2.trans (Prod.ext ((if_pos ho).trans (congrArg (aI.p · n) (if_neg am))) rfl)) (.p0 hn) rfl HQ
 |@u0 p1 v1 vp n p ref er=>
  refine y1 H Dr ?_;intros;refine Vx.bB (own:=[.obj q _,.sl _ 1 _,.obj p1 _,.obj v1 _]++([.obj _ (.row (LI [.fn (.func 610) [.ptr _ 0] [],Nf,Nf] 0 0++[I (t.l.e.pins+c)]))]++(ad m bl x rest++R))) HQ ?_;refine Vx.cC (A:=[_,_,_,_]) (λB W S H=>gG hs.2.2.2.2.2.1 hx (.a hc) H) λa' x' l' e hl=>?_;have e2:(aI.u .a er).step t c key aq high x=(if a'.over then .d er else .u a' er,x'):=by show(_,_)=_;rw[e]
  cases ho:a'.over
  .refine z1 ?_;intros;exact aa (e2.trans (Prod.ext (if_neg (by rw[ho];simp)) rfl)) (.u1 hl ho) rfl HQ
  .refine z1 ?_;exact aa (e2.trans (Prod.ext (if_pos ho) rfl)) .d rfl HQ
 |@u1 p1 v1 qm vp n p ref er σ lm h hF=>
  refine y1 H Dr ?_;intros;refine Vx.cC (A:=[_,_,_,_]) (λB W S H=>gG hs.2.2.2.2.2.1 hx h H) λa' x' l' e hl=>?_;have e2:(aI.u σ er).step t c key aq high x=(if a'.over then .d er else .u a' er,x'):=by show(_,_)=_;rw[e]
  cases ho:a'.over
  .refine z1 ?_;intros;exact aa (e2.trans (Prod.ext (if_neg (by rw[ho];simp)) rfl)) (.u1 hl ho) rfl HQ
  .refine z1 ?_;exact aa (e2.trans (Prod.ext (if_pos ho) rfl)) .d rfl HQ
 |@y0 p1 v1 p2 v2 p3 v3 vp n p i g hr=>
  refine y2 H Dr ?_ ?_<;>intros
  .exact⟨⟨am,am,am,am,am⟩,hr,tQ⟩
  rename_i qL lL hL;refine Vx.bB (own:=[.obj q _,.sl _ 1 _,.obj p1 _,.obj v1 _,.obj p2 _,.obj v2 _,.obj p3 _,.obj v3 _]++(lL++(ad m bl x rest++R))) HQ ?_;refine Vx.cC (A:=[_,_,_,_,_,_,_,_]) (λB W S H=>Dl hs hr hx hL H) λa' x' l' e hl=>?_;have ea:a'=.s 1:=(congrArg Prod.fst e).symm;subst ea;have e2:(aI.y (.s 0) (aD i g)).step t c key aq high x=(.y (.s 1) (aD i g),x'):=by show(aI.y (.s 1) _,_)=_;rw[e]
  cases hl with
  |s hk=>
   refine z1 ?_;intros;exact aa e2 (.y1 hr (.s hk)) rfl HQ
 |@y1 p1 v1 p2 v2 p3 v3 qm vp n p i g hr k lm h=>
  refine y1 H Dr ?_;intros;refine Vx.cC (A:=[_,_,_,_,_,_,_,_]) (λB W S H=>Dl hs hr hx h H) λa' x' l' e hl=>?_;have e2:(aI.y (.s k) (aD i g)).step t c key aq high x=(if a'.over then .i (.f (.new t)) (aD i g) else .y a' (aD i g),x'):=by show(_,_)=_;rw[e]
  have ek:a'=.d 0\/a'=.s (k+1):=by
   have:=(congrArg Prod.fst e).symm;match k,this with
   |0,h=>exact .inr h
   |1,h=>exact .inr h
   |2,h=>exact .inr h
   |k+3,h=>exact .inl h
  rcases ek with rfl|rfl
  .cases hl with
   |d=>refine z1 ?_;exact aa e2 (.i0 hr) rfl HQ
  .cases hl with
   |s hk=>
    refine z1 ?_;intros;exact aa e2 (.y1 hr (.s hk)) rfl HQ
 |@i0 p1 v1 p2 v2 vp n p i g hr=>
  refine y2 H Dr ?_ ?_<;>intros
  .exact⟨⟨am,am,am,am,am⟩,hr,tQ.2⟩
  rename_i qL lL hL;refine Vx.bB (own:=[.obj q _,.sl _ 1 _,.obj p1 _,.obj v1 _,.obj p2 _,.obj v2 _]++(lL++(ad m bl x rest++R))) HQ ?_;refine Vx.cC (A:=[_,_,_,_,_,_]) (λB W S H=>Dn hs hr tQ.2 hx rfl Dm hL H) λa' x' l' e hl=>?_;have e2:(aI.i (.f (.new t)) (aD i g)).step t c key aq high x=(if a'.over then .u (.new t.l.e c) 0 else .i a' (aD i g),x'):=by show(_,_)=_;rw[e]
  obtain⟨ko,ln,lv,w,place,ret,er,lf,rfl⟩:=hl.row;cases ho:a'.over
  .refine z1 ?_;intros;exact aa (e2.trans (Prod.ext (if_neg (by rw[ho];simp)) rfl)) (.i1 hr hl ho) rfl HQ
  .refine z1 ?_;exact aa (e2.trans (Prod.ext ((if_pos ho).trans (congrArg (aI.u · 0) (if_neg am))) rfl)) .u0 rfl HQ
 |@i1 p1 v1 p2 v2 qm vp n p i g hr bi σ lm h hF=>
  refine y1 H Dr ?_;intros;refine Vx.cC (A:=[_,_,_,_,_,_]) (λB W S H=>Dn hs hr tQ.2 hx hF Dm h H) λa' x' l' e hl=>?_;have e2:(aI.i σ (aD i g)).step t c key aq high x=(if a'.over then .u (.new t.l.e c) 0 else .i a' (aD i g),x'):=by show(_,_)=_;rw[e]
  obtain⟨ko,ln,lv,w,place,ret,er,lf,rfl⟩:=hl.row;cases ho:a'.over
  .refine z1 ?_;intros;exact aa (e2.trans (Prod.ext (if_neg (by rw[ho];simp)) rfl)) (.i1 hr hl ho) rfl HQ
  .refine z1 ?_;exact aa (e2.trans (Prod.ext ((if_pos ho).trans (congrArg (aI.u · 0) (if_neg am))) rfl)) .u0 rfl HQ
 |d=>cases ho
end
end Go.cO
