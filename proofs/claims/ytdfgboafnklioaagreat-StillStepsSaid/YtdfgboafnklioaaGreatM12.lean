/- Contracts. Conditions: in each theorem. -/
import Derived.Test.YtdfgboafnklioaaGreatM11
set_option linter.all false
set_option maxRecDepth 100000
set_option maxHeartbeats 4000000
namespace Go.cI
open Go.Proofs
theorem Vx.ck {M:dS}{ro:List aF}{Φ:ma}{K:List Kf}{k:AV->AC}{α:Type}{Rl:α->List Own->Prop}{ov:α->Bool}{st:α×Me}{mem:Me->List Own}{A l R:List Own}{x:Me}{t f:Nat}{name:String}[c0:mP M t name f]{v:AV}{args:List AV}
  (hc:∀B W S,Cx B W S (l++(mem x++(A++R))) ro->aG M (.fn (.func f) [] []) (v::args) S λr S'=>∃ab,eH Rl ov st mem (A++R) r ab/\Cx B W S' ab ro)
  (h:∀a' x' l',st=(a',x')->Rl a' l'->Zx M false (k (cI.B (ov a'))) K (A++(l'++(mem x'++R))) ro Φ):Vx M (.call (.fn (.method name) [] []) (.iface t v::args) k) K (A++(l++(mem x++R))) ro Φ:=
 λB W S H=>bW (jr (c0.ok v) (ar (hc B W S (H.gF tR)) λr S' ⟨ab,⟨l',⟨h1,h2⟩,h3⟩,h4⟩=>by
  subst h2 h3;exact(h st.1 st.2 l' rfl h1).ok B W S' (h4.gF tR.symm)))
instance aar:mP EM 636 "coxswain/ready.run" 742:=⟨λ_=>by kernel_rfl⟩
instance aas:mP EM 672 "coxswain/ready.run" 753:=⟨λ_=>by kernel_rfl⟩
instance aat:mP EM 644 "coxswain/ready.run" 744:=⟨λ_=>by kernel_rfl⟩
instance aau:mP EM 710 "coxswain/ready.run" 756:=⟨λ_=>by kernel_rfl⟩
instance aav:mP EM 718 "coxswain/ready.run" 759:=⟨λ_=>by kernel_rfl⟩
instance aaw:mP EM 727 "coxswain/ready.run" 784:=⟨λ_=>by kernel_rfl⟩
instance aax:mP EM 598 "coxswain/ready.run" 721:=⟨λ_=>by kernel_rfl⟩
instance aay:mP EM 653 "coxswain/ready.run" 746:=⟨λ_=>by kernel_rfl⟩
instance aaz:mP EM 637 "Step" 743:=⟨λ_=>by kernel_rfl⟩
instance aa0:mP EM 673 "Step" 755:=⟨λ_=>by kernel_rfl⟩
instance aa1:mP EM 645 "Step" 745:=⟨λ_=>by kernel_rfl⟩
instance aa2:mP EM 711 "Step" 757:=⟨λ_=>by kernel_rfl⟩
instance aa3:mP EM 719 "Step" 760:=⟨λ_=>by kernel_rfl⟩
instance aa4:mP EM 728 "Step" 785:=⟨λ_=>by kernel_rfl⟩
instance aa5:mP EM 599 "Step" 722:=⟨λ_=>by kernel_rfl⟩
instance aa6:mP EM 654 "Step" 747:=⟨λ_=>by kernel_rfl⟩
instance z41 {n:Nat}[Mn n [742,753,744,756,759,784,721,746,707,501,559,561,516,574,606,626,502,563,603,620,604,623,565,605,560,575,562]]:cA n where
def nE (p v q:Nat)(mk cG th now:AV)(made:Bool):List Own:=[.obj p (.row [mk,cG,th,now,B made]),.obj v (.row [.ptr q 0])]
def pj (q p v:Nat)(now:AV)(made:Bool):List Own:=nE p v q (.fn (.func 559) [] [.ptr v 0]) Nf (.fn (.func 561) [] [.ptr v 0]) now made
def yK (q p v:Nat)(now:AV)(made:Bool):List Own:=nE p v q (.fn (.func 563) [] [.ptr v 0]) Nf (.fn (.func 565) [.ptr q 0] []) now made
def gU (q p v:Nat)(now:AV)(made:Bool):List Own:=nE p v q (.fn (.func 574) [] [.ptr v 0]) Nf Nf now made
def Nx (q p v:Nat)(now:AV)(made:Bool):List Own:=nE p v q (.fn (.func 626) [] [.ptr v 0]) Nf Nf now made
def Ny (q p v:Nat)(now:AV)(made:Bool):List Own:=nE p v q (.fn (.func 620) [] [.ptr v 0]) (zF 622) Nf now made
def HB (q p v:Nat)(now:AV)(made:Bool):List Own:=nE p v q (.fn (.func 623) [] [.ptr v 0]) (zF 625) Nf now made
def pn (p:Nat):AV:=.iface 636 (.ptr p 0)
def yL (p:Nat):AV:=.iface 644 (.ptr p 0)
def gV (p:Nat):AV:=.iface 672 (.ptr p 0)
def Nz (p:Nat):AV:=.iface 727 (.ptr p 0)
def NA (p:Nat):AV:=.iface 710 (.ptr p 0)
def HC (p:Nat):AV:=.iface 718 (.ptr p 0)
def Tw.fJ (t:Tw)(c p:Int)(parts:AV)(cG er:Int):List AV:=t.cs++[I c,B true,I p,parts,U cG,I er]
def Tw.rowP (t:Tw)(c p:Int)(parts:AV)(cG er key aq high tries ref:Int):List AV:=t.fJ c p parts cG er++[U key,I aq,I high,I tries,U ref]
section
variable{nd hd ht c3 c4 n c6 c7 c8 c9 dG cZ dF i g key aq high:Int}
instance X_:NC EM (zF 621) [.agg [I nd,I hd,I ht,I c3,I c4,I n,I c6,I c7,I c8,I c9,I dG,I cZ,I dF],U (aE i g),U key,I aq,I high] (((0<=nd/\nd<4096)/\(0<=hd/\hd<4096)/\(1<=ht/\ht<=4)/\1<=n/\n<=128)/\(db i g/\i<n)/\(0<=aq/\aq<=65534)/\1<=high/\high<=ht)
  (λp l=>AQ ⟨nd,hd,ht,⟨⟨⟨c3,c4,n⟩,c6,c7,c8⟩,⟨c9,dG,cZ⟩,dF⟩⟩ i g key aq high p (.s 0) l):=.of rfl rfl λh ro R=>by
 obtain⟨h0,hi,hj,hh⟩:=h;have e1:aq%18446744073709551616=aq:=am;have e2:high%18446744073709551616=high:=am;show Zx EM false (Tryz.a621 _) _ _ _ _;refine z2 ?_ ?_<;>intros
 all_goals(try rw[e1])
 all_goals(try rw[e2])
 .exact⟨h0,hi,hj,hh⟩
 .exact⟨rfl,rfl,(_::_::_::_::_::_::_::_::_::_::_::R),⟨_,_,AQ.s (k:=0) am,rfl,rfl⟩,HQ⟩
end
theorem kM.row {t:Tw}{i g key high:Int}{q:Nat}{b:Int}{σ:cP}{lo:List Own}(h:kM t i g key high q b σ lo):∃kL ln lv w place ret er lf,lo=.obj q (.row (t.ph kL (aE i g) key i high ln lv w place ret b er))::lf:=by
 cases h<;>exact⟨_,_,_,_,_,_,_,_,rfl⟩
instance z42:cA 622 where
instance z43:cA 625 where
inductive iv (t:Tw)(c key aq high:Int)(q:Nat)(b:Int):aW->List Own->Prop
 |p0 {p1 v1 p2 v2:Nat}{vp:AV}{n:Nat}{p ref:Int}(hn:n<=3):iv t c key aq high q b (.p .a n) (.obj q (.row (t.rowP c p vp b 0 key aq high n ref))::.sl vp 1 [[pn p1],[yL p2]]::(pj q p1 v1 Np false++yK q p2 v2 Np false))
 |p1 {p1 v1 p2 v2 qm:Nat}{vp:AV}{n:Nat}{p ref:Int}(hn:n<=3){σ:mQ}{lm:List Own}(h:wS t.l.e c qm σ lm)(ho:σ.over=false):iv t c key aq high q b (.p σ n) (.obj q (.row (t.rowP c p vp b 0 key aq high n ref))::.sl vp 1 [[pn p1],[yL p2]]::(pj q p1 v1 (.ptr qm 0) true++yK q p2 v2 Np false++lm))
 |a0 {p1 v1:Nat}{vp:AV}{n:Nat}{p ref:Int}(hn:n<=3)(hp:0<=p/\p<4294967296):iv t c key aq high q b (.a (.p .a) n p) (.obj q (.row (t.rowP c p vp b 0 key aq high n ref))::.sl vp 1 [[yL p1]]::(yK q p1 v1 Np false))
 |a1 {p1 v1 qm:Nat}{vp:AV}{n:Nat}{p ref:Int}(hn:n<=3)(hp:0<=p/\p<4294967296){σ:cO}{lm:List Own}(h:nC t.l.a qm σ lm)(ho:σ.over=false):iv t c key aq high q b (.a σ n p) (.obj q (.row (t.rowP c p vp b 0 key aq high n ref))::.sl vp 1 [[yL p1]]::(yK q p1 v1 (.ptr qm 0) true++lm))
 |c0 {p1 v1 p2 v2 p3 v3 p4 v4:Nat}{vp:AV}{n:Nat}{p ref:Int}(hn:n<=3)(hp:0<=p/\p<4294967296):iv t c key aq high q b (.c (.v .a) n p) (.obj q (.row (t.rowP c p vp b 0 key aq high n ref))::.sl vp 1 [[Nz p1],[gV p2],[pn p3],[yL p4]]::(Nx q p1 v1 Np false++gU q p2 v2 Np false++pj q p3 v3 Np false++yK q p4 v4 Np false))
 |c1 {p1 v1 p2 v2 p3 v3 p4 v4 qm:Nat}{vp:AV}{n:Nat}{p ref:Int}(hn:n<=3)(hp:0<=p/\p<4294967296){σ:eJ}{lm:List Own}(h:yI t.l c p qm σ lm)(ho:σ.over=false):iv t c key aq high q b (.c σ n p) (.obj q (.row (t.rowP c p vp b 0 key aq high n ref))::.sl vp 1 [[Nz p1],[gV p2],[pn p3],[yL p4]]::(Nx q p1 v1 (.ptr qm 0) true++gU q p2 v2 Np false++pj q p3 v3 Np false++yK q p4 v4 Np false++lm))
 |l0 {p1 v1 p2 v2 p3 v3:Nat}{vp:AV}{n:Nat}{p ref:Int}(hn:n<=3):iv t c key aq high q b (.l .a n) (.obj q (.row (t.rowP c p vp b 0 key aq high n ref))::.sl vp 1 [[gV p1],[pn p2],[yL p3]]::(gU q p1 v1 Np false++pj q p2 v2 Np false++yK q p3 v3 Np false))
 |l1 {p1 v1 p2 v2 p3 v3 qm:Nat}{vp:AV}{n:Nat}{p ref:Int}(hn:n<=3){σ:cB}{lm:List Own}(h:mg t.l.e c qm σ lm)(ho:σ.over=false):iv t c key aq high q b (.l σ n) (.obj q (.row (t.rowP c p vp b 0 key aq high n ref))::.sl vp 1 [[gV p1],[pn p2],[yL p3]]::(gU q p1 v1 (.ptr qm 0) true++pj q p2 v2 Np false++yK q p3 v3 Np false++lm))
 |y0 {p1 v1 p2 v2 p3 v3:Nat}{vp:AV}{n:Nat}{p i g:Int}(hr:t.rf i g):iv t c key aq high q b (.y (.s 0) (aE i g)) (.obj q (.row (t.rowP c p vp b 0 key aq high n (aE i g)))::.sl vp 1 [[NA p1],[HC p2],[gV p3]]::(Ny q p1 v1 Np false++HB q p2 v2 Np false++gU q p3 v3 Np false))
 |y1 {p1 v1 p2 v2 p3 v3 qm:Nat}{vp:AV}{n:Nat}{p i g:Int}(hr:t.rf i g){k:Nat}{lm:List Own}(h:AQ t i g key aq high qm (.s k) lm):iv t c key aq high q b (.y (.s k) (aE i g)) (.obj q (.row (t.rowP c p vp b 0 key aq high n (aE i g)))::.sl vp 1 [[NA p1],[HC p2],[gV p3]]::(Ny q p1 v1 (.ptr qm 0) true++HB q p2 v2 Np false++gU q p3 v3 Np false++lm))
 |i0 {p1 v1 p2 v2:Nat}{vp:AV}{n:Nat}{p i g:Int}(hr:t.rf i g):iv t c key aq high q b (.i (.f (.new t)) (aE i g)) (.obj q (.row (t.rowP c p vp b 0 key aq high n (aE i g)))::.sl vp 1 [[HC p1],[gV p2]]::(HB q p1 v1 Np false++gU q p2 v2 Np false))
 |i1 {p1 v1 p2 v2 qm:Nat}{vp:AV}{n:Nat}{p i g:Int}(hr:t.rf i g){bi:Int}{σ:cP}{lm:List Own}(h:kM t i g key high qm bi σ lm)(ho:σ.over=false):iv t c key aq high q b (.i σ (aE i g)) (.obj q (.row (t.rowP c p vp b 0 key aq high n (aE i g)))::.sl vp 1 [[HC p1],[gV p2]]::(HB q p1 v1 (.ptr qm 0) true++gU q p2 v2 Np false++lm))
 |u0 {p1 v1:Nat}{vp:AV}{n:Nat}{p ref e:Int}:iv t c key aq high q b (.u .a e) (.obj q (.row (t.rowP c p vp b e key aq high n ref))::.sl vp 1 [[gV p1]]::(gU q p1 v1 Np false))
 |u1 {p1 v1 qm:Nat}{vp:AV}{n:Nat}{p ref e:Int}{σ:cB}{lm:List Own}(h:mg t.l.e c qm σ lm)(ho:σ.over=false):iv t c key aq high q b (.u σ e) (.obj q (.row (t.rowP c p vp b e key aq high n ref))::.sl vp 1 [[gV p1]]::(gU q p1 v1 (.ptr qm 0) true++lm))
 |d {n:Nat}{p ref e:Int}{vp:AV}:iv t c key aq high q b (.d e) [.obj q (.row (t.rowP c p vp b e key aq high n ref)),.sl vp 1 []]
section
variable{B0 S:AH}{W:List Nat}{own R lo:List Own}{ro:List aF}{m bl q:Nat}{x:Me}{rest:List AV}{t:Tw}{c key aq high b:Int}
theorem Dx {o1 own:List Own}(e:o1=own:=by conv=>lhs;simp only[Tw.rowP,Tw.fJ,Tw.cs,Lb.cs,Ar.cs,Ep.cs,pn,yL,gV,Nz,NA,HC,pj,yK,gU,Nx,Ny,HB,nE,lA,lB,lC]):o1=own:=e
theorem tV {σ:aW}(hs:t.ok)(hc:0<=c/\c<t.l.e.ae)(tW:(0<=aq/\aq<=65534)/\1<=high/\high<=t.ht)(hx:x.gd)(ho:σ.over=false)(Dt:Me.au key)(h:iv t c key aq high q b σ lo)(H:Cx B0 W S (lo++(ad m bl x rest++R)) ro):
  aG EM (zF 706) [.ptr q 0,.ptr m 0] S λu S'=>∃ab,eH (iv t c key aq high q (σ.cG t key)) aW.over (σ.step t c key aq high x) (ad m bl · rest) R u ab/\Cx B0 W S' ab ro:=by
 have aZ:=hs;unfold Tw.ok Lb.ok Ar.ok Sk.ok Ep.ok at aZ;haveI:aV:=⟨⟩;haveI:dx:=⟨⟩;cases h with
 |@p0 p1 v1 p2 v2 vp n p ref hn=>
  refine y1 H Dx ?_;intros;refine Vx.aO (own:=[.obj q _,.sl _ 1 _,.obj p1 _,.obj v1 _,.obj p2 _,.obj v2 _]++([.obj _ (.row (t.l.e.rowP _ c 0 _))]++(ad m bl x rest++R))) HQ ?_;refine Vx.ck (A:=[_,_,_,_,_,_]) (λB W S H=>nV hs.2.2.2.2.2.1 hx (.a hc) H) λa' x' l' e hl=>?_;have e2:(aW.p .a n).step t c key aq high x=(aW.Cg n a',x'):=by show(aW.Cg _ _,_)=_;rw[e]
  cases ho:a'.over
  .refine z1 ?_;intros;have e3:(aW.p .a n).step t c key aq high x=(.p a' n,x'):=e2.trans (Prod.ext (by cases hl<;>first|rfl|cases ho) rfl);exact aa e3 (.p1 hn hl ho) rfl HQ
  .cases hl with
   |a=>cases ho
   |b=>cases ho
   |c=>cases ho
   |d hp=>
    refine z1 ?_;exact aa e2 (.a0 hn hp) rfl HQ
 |@p1 p1 v1 p2 v2 qm vp n p ref hn σ lm h hF=>
  refine y1 H Dx ?_;intros;refine Vx.ck (A:=[_,_,_,_,_,_]) (λB W S H=>nV hs.2.2.2.2.2.1 hx h H) λa' x' l' e hl=>?_;have e2:(aW.p σ n).step t c key aq high x=(aW.Cg n a',x'):=by show(aW.Cg _ _,_)=_;rw[e]
  cases ho:a'.over
  .refine z1 ?_;intros;have e3:(aW.p σ n).step t c key aq high x=(.p a' n,x'):=e2.trans (Prod.ext (by cases hl<;>first|rfl|cases ho) rfl);exact aa e3 (.p1 hn hl ho) rfl HQ
  .cases hl with
   |a=>cases ho
   |b=>cases ho
   |c=>cases ho
   |d hp=>
    refine z1 ?_;exact aa e2 (.a0 hn hp) rfl HQ
 |@c0 p1 v1 p2 v2 p3 v3 p4 v4 vp n p ref hn hp=>
  refine y1 H Dx ?_;intros;rw[show(p%3+2)%3=(p+2)%3 by omega];refine Vx.aO (own:=[.obj q _,.sl _ 1 _,.obj p1 _,.obj v1 _,.obj p2 _,.obj v2 _,.obj p3 _,.obj v3 _,.obj p4 _,.obj v4 _]++([.obj _ (.row (t.l.jA _ _ _ _ _ _ _ _)),.obj _ (.row ((t.l.wait ((p+2)%3)).row _ _ _ _ _ 647)),.obj _ (.row (t.l.e.kJ _ _ _ _ _ _ _))]++(ad m bl x rest++R))) HQ ?_;refine Vx.ck (A:=[_,_,_,_,_,_,_,_,_,_]) (λB W S H=>Dq hs.2.2.2.2 hx (.v hp (.a hc) rfl .a) H) λa' x' l' e hl=>?_;have e2:(aW.c (.v .a) n p).step t c key aq high x=(if a'.over then .l (.new t.l.e c) n else .c a' n p,x'):=by show(_,_)=_;rw[e]
  cases ho:a'.over
  .refine z1 ?_;intros;exact aa (e2.trans (Prod.ext (if_neg (by rw[ho];simp)) rfl)) (.c1 hn hp hl ho) rfl HQ
  .refine z1 ?_;exact aa (e2.trans (Prod.ext ((if_pos ho).trans (congrArg (aW.l · n) (if_neg am))) rfl)) (.l0 hn) rfl HQ
 |@c1 p1 v1 p2 v2 p3 v3 p4 v4 qm vp n p ref hn hp σ lm h hF=>
  refine y1 H Dx ?_;intros;refine Vx.ck (A:=[_,_,_,_,_,_,_,_,_,_]) (λB W S H=>Dq hs.2.2.2.2 hx h H) λa' x' l' e hl=>?_;have e2:(aW.c σ n p).step t c key aq high x=(if a'.over then .l (.new t.l.e c) n else .c a' n p,x'):=by show(_,_)=_;rw[e]
  cases ho:a'.over
  .refine z1 ?_;intros;exact aa (e2.trans (Prod.ext (if_neg (by rw[ho];simp)) rfl)) (.c1 hn hp hl ho) rfl HQ
  .refine z1 ?_;exact aa (e2.trans (Prod.ext ((if_pos ho).trans (congrArg (aW.l · n) (if_neg am))) rfl)) (.l0 hn) rfl HQ
 |@a0 p1 v1 vp n p ref hn hp=>
  refine y1 H Dx ?_;intros;refine Vx.aO (own:=[.obj q _,.sl _ 1 _,.obj p1 _,.obj v1 _]++([.obj _ (.row (t.l.a.kJ _ _ _ _ _)),.obj _ (.row (t.l.a.f.row _ _ _ _ _ 476))]++(ad m bl x rest++R))) HQ ?_;refine Vx.ck (A:=[_,_,_,_]) (λB W S H=>xq hs.2.2.2.2.1 hx (.p .a rfl) H) λa' x' l' e hl=>?_;have e2:(aW.a (.p .a) n p).step t c key aq high x=(aW.iu t c n p a',x'):=by show(aW.iu _ _ _ _ _,_)=_;rw[e]
  cases ho:a'.over
  .refine z1 ?_;intros;have e3:(aW.a (.p .a) n p).step t c key aq high x=(.a a' n p,x'):=e2.trans (Prod.ext (by cases hl<;>first|rfl|cases ho) rfl);exact aa e3 (.a1 hn hp hl ho) rfl HQ
  .cases hl with
   |p _ h=>cases ho
   |g=>cases ho
   |w=>cases ho
   |@d _ r er _ hr=>
    refine z4 ?_ ?_ ?_ ?_<;>intros
    .have h7:er=7:=ci;have h3:(n:Int)<3:=ci;have e3:aW.iu t c n p (.d r er)=.c (.v .a) (n+1) p:=by unfold aW.iu eJ.new;simp only[];rw[if_neg am,if_pos ⟨h7,am⟩,if_neg am]
     exact aa (e2.trans (Prod.ext e3 rfl)) (.c0 am hp) rfl HQ
    .have h7:er=7:=ci;have h3:¬(n:Int)<3:=ci;have e3:aW.iu t c n p (.d r er)=.u .a er:=by unfold aW.iu cB.new;simp only[];rw[if_neg am,if_neg am,if_neg am]
     exact aa (e2.trans (Prod.ext e3 rfl)) .u0 rfl HQ
    .have h7:¬er=7:=ci;have h0:er≠0:=ci;have e3:aW.iu t c n p (.d r er)=.u .a er:=by unfold aW.iu cB.new;simp only[];rw[if_neg h0,if_neg am,if_neg am]
     exact aa (e2.trans (Prod.ext e3 rfl)) .u0 rfl HQ
    .have h0:¬er≠0:=ci;have h0:=Decidable.not_not.1 h0;obtain⟨i',g,Fj,rfl⟩:=hr h0;have e3:aW.iu t c n p (.d (aE i' g) er)=.y (.s 0) (aE i' g):=by unfold aW.iu;simp only[];rw[if_pos h0]
     exact aa (e2.trans (Prod.ext e3 rfl)) (.y0 Fj) rfl HQ
 |@a1 p1 v1 qm vp n p ref hn hp σ lm h hF=>
  refine y1 H Dx ?_;intros;refine Vx.ck (A:=[_,_,_,_]) (λB W S H=>xq hs.2.2.2.2.1 hx h H) λa' x' l' e hl=>?_;have e2:(aW.a σ n p).step t c key aq high x=(aW.iu t c n p a',x'):=by show(aW.iu _ _ _ _ _,_)=_;rw[e]
  cases ho:a'.over
  .refine z1 ?_;intros;have e3:(aW.a σ n p).step t c key aq high x=(.a a' n p,x'):=e2.trans (Prod.ext (by cases hl<;>first|rfl|cases ho) rfl);exact aa e3 (.a1 hn hp hl ho) rfl HQ
  .cases hl with
   |p _ h=>cases ho
   |g=>cases ho
   |w=>cases ho
   |@d _ r er _ hr=>
    refine z4 ?_ ?_ ?_ ?_<;>intros
    .have h7:er=7:=ci;have h3:(n:Int)<3:=ci;have e3:aW.iu t c n p (.d r er)=.c (.v .a) (n+1) p:=by unfold aW.iu eJ.new;simp only[];rw[if_neg am,if_pos ⟨h7,am⟩,if_neg am]
     exact aa (e2.trans (Prod.ext e3 rfl)) (.c0 am hp) rfl HQ
    .have h7:er=7:=ci;have h3:¬(n:Int)<3:=ci;have e3:aW.iu t c n p (.d r er)=.u .a er:=by unfold aW.iu cB.new;simp only[];rw[if_neg am,if_neg am,if_neg am]
     exact aa (e2.trans (Prod.ext e3 rfl)) .u0 rfl HQ
    .have h7:¬er=7:=ci;have h0:er≠0:=ci;have e3:aW.iu t c n p (.d r er)=.u .a er:=by unfold aW.iu cB.new;simp only[];rw[if_neg h0,if_neg am,if_neg am]
     exact aa (e2.trans (Prod.ext e3 rfl)) .u0 rfl HQ
    .have h0:¬er≠0:=ci;have h0:=Decidable.not_not.1 h0;obtain⟨i',g,Fj,rfl⟩:=hr h0;have e3:aW.iu t c n p (.d (aE i' g) er)=.y (.s 0) (aE i' g):=by unfold aW.iu;simp only[];rw[if_pos h0]
     exact aa (e2.trans (Prod.ext e3 rfl)) (.y0 Fj) rfl HQ
 |@l0 p1 v1 p2 v2 p3 v3 vp n p ref hn=>
  refine y1 H Dx ?_;intros;refine Vx.aO (own:=[.obj q _,.sl _ 1 _,.obj p1 _,.obj v1 _,.obj p2 _,.obj v2 _,.obj p3 _,.obj v3 _]++([.obj _ (.row (LP [.fn (.func 610) [.ptr _ 0] [],Nf,Nf] 0 0++[I (t.l.e.pins+c)]))]++(ad m bl x rest++R))) HQ ?_;refine Vx.ck (A:=[_,_,_,_,_,_,_,_]) (λB W S H=>fV hs.2.2.2.2.2.1 hx (.a hc) H) λa' x' l' e hl=>?_;have e2:(aW.l .a n).step t c key aq high x=(if a'.over then .p (.new t.l.e c) n else .l a' n,x'):=by show(_,_)=_;rw[e]
  cases ho:a'.over
  .refine z1 ?_;intros;exact aa (e2.trans (Prod.ext (if_neg (by rw[ho];simp)) rfl)) (.l1 hn hl ho) rfl HQ
  .refine z1 ?_;exact aa (e2.trans (Prod.ext ((if_pos ho).trans (congrArg (aW.p · n) (if_neg am))) rfl)) (.p0 hn) rfl HQ
 |@l1 p1 v1 p2 v2 p3 v3 qm vp n p ref hn σ lm h hF=>
  refine y1 H Dx ?_;intros;refine Vx.ck (A:=[_,_,_,_,_,_,_,_]) (λB W S H=>fV hs.2.2.2.2.2.1 hx h H) λa' x' l' e hl=>?_;have e2:(aW.l σ n).step t c key aq high x=(if a'.over then .p (.new t.l.e c) n else .l a' n,x'):=by show(_,_)=_;rw[e]
  cases ho:a'.over
  .refine z1 ?_;intros;exact aa (e2.trans (Prod.ext (if_neg (by rw[ho];simp)) rfl)) (.l1 hn hl ho) rfl HQ
  .refine z1 ?_;exact aa (e2.trans (Prod.ext ((if_pos ho).trans (congrArg (aW.p · n) (if_neg am))) rfl)) (.p0 hn) rfl HQ
 |@u0 p1 v1 vp n p ref er=>
  refine y1 H Dx ?_;intros;refine Vx.aO (own:=[.obj q _,.sl _ 1 _,.obj p1 _,.obj v1 _]++([.obj _ (.row (LP [.fn (.func 610) [.ptr _ 0] [],Nf,Nf] 0 0++[I (t.l.e.pins+c)]))]++(ad m bl x rest++R))) HQ ?_;refine Vx.ck (A:=[_,_,_,_]) (λB W S H=>fV hs.2.2.2.2.2.1 hx (.a hc) H) λa' x' l' e hl=>?_;have e2:(aW.u .a er).step t c key aq high x=(if a'.over then .d er else .u a' er,x'):=by show(_,_)=_;rw[e]
  cases ho:a'.over
  .refine z1 ?_;intros;exact aa (e2.trans (Prod.ext (if_neg (by rw[ho];simp)) rfl)) (.u1 hl ho) rfl HQ
  .refine z1 ?_;exact aa (e2.trans (Prod.ext (if_pos ho) rfl)) .d rfl HQ
 |@u1 p1 v1 qm vp n p ref er σ lm h hF=>
  refine y1 H Dx ?_;intros;refine Vx.ck (A:=[_,_,_,_]) (λB W S H=>fV hs.2.2.2.2.2.1 hx h H) λa' x' l' e hl=>?_;have e2:(aW.u σ er).step t c key aq high x=(if a'.over then .d er else .u a' er,x'):=by show(_,_)=_;rw[e]
  cases ho:a'.over
  .refine z1 ?_;intros;exact aa (e2.trans (Prod.ext (if_neg (by rw[ho];simp)) rfl)) (.u1 hl ho) rfl HQ
  .refine z1 ?_;exact aa (e2.trans (Prod.ext (if_pos ho) rfl)) .d rfl HQ
 |@y0 p1 v1 p2 v2 p3 v3 vp n p i g hr=>
  refine y2 H Dx ?_ ?_<;>intros
  .exact⟨⟨am,am,am,am,am⟩,hr,tW⟩
  rename_i qL lL hL;refine Vx.aO (own:=[.obj q _,.sl _ 1 _,.obj p1 _,.obj v1 _,.obj p2 _,.obj v2 _,.obj p3 _,.obj v3 _]++(lL++(ad m bl x rest++R))) HQ ?_;refine Vx.ck (A:=[_,_,_,_,_,_,_,_]) (λB W S H=>Ds hs hr hx hL H) λa' x' l' e hl=>?_;have ea:a'=.s 1:=(congrArg Prod.fst e).symm;subst ea;have e2:(aW.y (.s 0) (aE i g)).step t c key aq high x=(.y (.s 1) (aE i g),x'):=by show(aW.y (.s 1) _,_)=_;rw[e]
  cases hl with
  |s hk=>
   refine z1 ?_;intros;exact aa e2 (.y1 hr (.s hk)) rfl HQ
 |@y1 p1 v1 p2 v2 p3 v3 qm vp n p i g hr k lm h=>
  refine y1 H Dx ?_;intros;refine Vx.ck (A:=[_,_,_,_,_,_,_,_]) (λB W S H=>Ds hs hr hx h H) λa' x' l' e hl=>?_;have e2:(aW.y (.s k) (aE i g)).step t c key aq high x=(if a'.over then .i (.f (.new t)) (aE i g) else .y a' (aE i g),x'):=by show(_,_)=_;rw[e]
  have ek:a'=.d 0\/a'=.s (k+1):=by
   have:=(congrArg Prod.fst e).symm;match k,this with
   |0,h=>exact .inr h
   |1,h=>exact .inr h
   |2,h=>exact .inr h
   |k+3,h=>exact .inl h
  rcases ek with rfl|rfl
  .cases hl with
   |d=>refine z1 ?_;exact aa e2 (.i0 hr) rfl HQ
  .cases hl with
   |s hk=>
    refine z1 ?_;intros;exact aa e2 (.y1 hr (.s hk)) rfl HQ
 |@i0 p1 v1 p2 v2 vp n p i g hr=>
  refine y2 H Dx ?_ ?_<;>intros
  .exact⟨⟨am,am,am,am,am⟩,hr,tW.2⟩
  rename_i qL lL hL;refine Vx.aO (own:=[.obj q _,.sl _ 1 _,.obj p1 _,.obj v1 _,.obj p2 _,.obj v2 _]++(lL++(ad m bl x rest++R))) HQ ?_;refine Vx.ck (A:=[_,_,_,_,_,_]) (λB W S H=>Du hs hr tW.2 hx rfl Dt hL H) λa' x' l' e hl=>?_;have e2:(aW.i (.f (.new t)) (aE i g)).step t c key aq high x=(if a'.over then .u (.new t.l.e c) 0 else .i a' (aE i g),x'):=by show(_,_)=_;rw[e]
  obtain⟨kL,ln,lv,w,place,ret,er,lf,rfl⟩:=hl.row;cases ho:a'.over
  .refine z1 ?_;intros;exact aa (e2.trans (Prod.ext (if_neg (by rw[ho];simp)) rfl)) (.i1 hr hl ho) rfl HQ
  .refine z1 ?_;exact aa (e2.trans (Prod.ext ((if_pos ho).trans (congrArg (aW.u · 0) (if_neg am))) rfl)) .u0 rfl HQ
 |@i1 p1 v1 p2 v2 qm vp n p i g hr bi σ lm h hF=>
  refine y1 H Dx ?_;intros;refine Vx.ck (A:=[_,_,_,_,_,_]) (λB W S H=>Du hs hr tW.2 hx hF Dt h H) λa' x' l' e hl=>?_;have e2:(aW.i σ (aE i g)).step t c key aq high x=(if a'.over then .u (.new t.l.e c) 0 else .i a' (aE i g),x'):=by show(_,_)=_;rw[e]
  obtain⟨kL,ln,lv,w,place,ret,er,lf,rfl⟩:=hl.row;cases ho:a'.over
  .refine z1 ?_;intros;exact aa (e2.trans (Prod.ext (if_neg (by rw[ho];simp)) rfl)) (.i1 hr hl ho) rfl HQ
  .refine z1 ?_;exact aa (e2.trans (Prod.ext ((if_pos ho).trans (congrArg (aW.u · 0) (if_neg am))) rfl)) .u0 rfl HQ
 |d=>cases ho
end
end Go.cI
