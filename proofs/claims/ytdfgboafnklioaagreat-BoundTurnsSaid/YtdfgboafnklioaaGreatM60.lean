/- Contracts. Conditions: in each theorem. -/
import Derived.Test.YtdfgboafnklioaaGreatM0
set_option linter.all false
set_option maxRecDepth 100000
set_option maxHeartbeats 4000000
namespace Go.cO.X
open Go.Proofs
section
variable{M:cQ}{B0 S:AH}{W:List Nat}{own:List Own}{ro:List aB}{Q:ga}{k:AV->AC}{kc:AC}
theorem eH (H:Cx B0 W S own ro){id o:Nat}{cs v}(hm:aB.pt id 0 cs∈ro)(hj:cs[o]?=some v)(h:wp M (k v) S Q):wp M (.op (.load 1 false (.ptr id o)) k) S Q:=by
 have:=lU (M:=M) (k:=k) (off:=0) (j:=o) H hm hj h
 rwa[show Nat.add 0 o=o from Nat.zero_add o] at this
theorem kb (H:Cx B0 W S own ro){id o n:Nat}{cs}(hm:aB.pt id 0 cs∈ro)(hj:Nat.ble (o+n) cs.length=true)(h:wp M (k (.agg ((cs.drop o).take n))) S Q):wp M (.op (.load n true (.ptr id o)) k) S Q:=by
 have:=uX (M:=M) (k:=k) (off:=0) (j:=o) H hm (Nat.le_of_ble_eq_true hj) h
 rwa[show Nat.add 0 o=o from Nat.zero_add o] at this
theorem oE (H:Cx B0 W S own ro){z}{n:Nat}{v}(ho:odd v=false)(hz:z.length=n)(hn:v.cells.length=n)(h:∀id S1,Cx B0 W S1 own (.pt id 0 v.cells::ro)->wp M (k (.ptr id 0)) S1 Q):
  wp M (.op (.alloc z) λp=>.op (.store n p v) λ_=>k p) S Q:=by
 refine fM H λid S1 H1=>?_;refine gl H1 0 (c:=z) rfl ho hn am λS2 H2=>?_;have e:aH z 0 v.cells=v.cells:=by rw[bM,List.take_zero,lB,Nat.zero_add,List.drop_eq_nil_of_le am,List.append_nil]
 have H2:Cx B0 W S2 (.obj id (.row (aH z 0 v.cells))::own) ro:=H2;rw[e] at H2;exact h id S2 (H2.freeze (i:=0) rfl)
theorem kQ (h:wp M (k (B false)) S Q):wp M (.op (.un .not (B true)) k) S Q:=ae (v:=B false) rfl h
theorem kR (h:wp M (k (B true)) S Q):wp M (.op (.un .not (B false)) k) S Q:=ae (v:=B true) rfl h
end
structure To where
 nd:Int
 hd:Int
 ht:Int
 Km:Int
 yS:Int
 rn:Int
 km:Int
 lW:Int
 Fq:Int
 VN:Int
 pins:Int
 ah:Int
 vd:Int
def To.cs (t:To):List AV:=[I t.nd,I t.hd,I t.ht,I t.Km,I t.yS,I t.rn,I t.km,I t.lW,I t.Fq,I t.VN,I t.pins,I t.ah,I t.vd]
def To.ok (t:To):Prop:=1<=t.ht/\t.ht<=4/\1<=t.rn/\t.rn<=128/\0<=t.nd/\t.nd<4096/\0<=t.hd/\t.hd<4096
instance ab9 (t:To):Decidable t.ok:=inferInstanceAs (Decidable (_/\_))
theorem AX {S:AH}{t:To}:aG EM (zF 133) [.agg t.cs] S λr S'=>r=B (decide t.ok)/\aR S S':=by
 refine aV (b:=Tryz.a133) rfl rfl ?_;have H:Cx S [] S [] []:=Cx.enter ac;rw[Tryz.u133];unfold To.ok;repeat'(first|(first|refine cI ?_|refine dW rfl ?_|refine eC ?_|refine cK ?_|refine cD rfl ?_|refine cL ?_|refine cT ?_|refine cU ?_|refine cV ?_|refine dS ?_|refine ae (o:=.mv _) rfl ?_|refine ae (o:=.pick _ _ _) rfl ?_|refine ae (o:=.extract _ _) rfl ?_)|refine wp_bind ?_|refine gf ci rfl λ_ _ _=>?_|refine oE ci rfl rfl rfl λ_ _ _=>?_|refine eH ci Mm rfl ?_|refine kb ci Mm rfl ?_|refine kQ ?_|refine kR ?_|(refine wp_ret ?_;show wp EM _ _ _)|refine fL (λ_=>?_) (λ_=>?_)|refine ja (λ_=>?_) (λ_=>?_)|refine nN (λ_=>?_) (λ_=>?_)|refine jW (λ_=>?_) (λ_=>?_)|refine lg (λ_=>?_) (λ_=>?_)|refine gE (λ_=>?_) (λ_=>?_)|refine ct am am ?_|refine jU am am ?_)
 all_goals(first|exact wp_ret ⟨rfl,(congrArg B (decide_eq_true am)).symm,Cx.cr ci⟩|exact wp_ret ⟨rfl,(congrArg B (decide_eq_false am)).symm,Cx.cr ci⟩)
theorem vG {S:AH}{t:To}:aG EM (zF 63) [.agg t.cs] S λr S'=>r=B (decide t.ok)/\aR S S':=by
 refine aV (b:=Tryz.a63) rfl rfl ?_;have H:Cx S [] S [] []:=Cx.enter ac;rw[Tryz.u63];unfold To.ok;repeat'(first|(first|refine cI ?_|refine dW rfl ?_|refine eC ?_|refine cK ?_|refine cD rfl ?_|refine cL ?_|refine cT ?_|refine cU ?_|refine cV ?_|refine dS ?_|refine ae (o:=.mv _) rfl ?_|refine ae (o:=.pick _ _ _) rfl ?_|refine ae (o:=.extract _ _) rfl ?_)|refine wp_bind ?_|refine gf ci rfl λ_ _ _=>?_|refine oE ci rfl rfl rfl λ_ _ _=>?_|refine eH ci Mm rfl ?_|refine kb ci Mm rfl ?_|refine kQ ?_|refine kR ?_|(refine wp_ret ?_;show wp EM _ _ _)|refine fL (λ_=>?_) (λ_=>?_)|refine ja (λ_=>?_) (λ_=>?_)|refine nN (λ_=>?_) (λ_=>?_)|refine jW (λ_=>?_) (λ_=>?_)|refine lg (λ_=>?_) (λ_=>?_)|refine gE (λ_=>?_) (λ_=>?_)|refine ct am am ?_|refine jU am am ?_)
 all_goals(first|exact wp_ret ⟨rfl,(congrArg B (decide_eq_true am)).symm,Cx.cr ci⟩|exact wp_ret ⟨rfl,(congrArg B (decide_eq_false am)).symm,Cx.cr ci⟩)
def dJ (a:Int):Prop:=0<=a/\a<4096
instance aca (a:Int):Decidable (dJ a):=inferInstanceAs (Decidable (_/\_))
theorem yw {S}{a:Int}:aG EM (zF 65) [I a] S λr S'=>r=B (decide (dJ a))/\aR S S':=by
 refine aV (b:=Tryz.a65) rfl rfl ?_;have H:Cx S [] S [] []:=Cx.enter ac;rw[Tryz.u65];unfold dJ;repeat'(first|(first|refine cI ?_|refine dW rfl ?_|refine eC ?_|refine cK ?_|refine cD rfl ?_|refine cL ?_|refine cT ?_|refine cU ?_|refine cV ?_|refine dS ?_|refine ae (o:=.mv _) rfl ?_|refine ae (o:=.pick _ _ _) rfl ?_|refine ae (o:=.extract _ _) rfl ?_)|refine wp_bind ?_|refine gf ci rfl λ_ _ _=>?_|refine oE ci rfl rfl rfl λ_ _ _=>?_|refine eH ci Mm rfl ?_|refine kb ci Mm rfl ?_|refine kQ ?_|refine kR ?_|(refine wp_ret ?_;show wp EM _ _ _)|refine fL (λ_=>?_) (λ_=>?_)|refine ja (λ_=>?_) (λ_=>?_)|refine nN (λ_=>?_) (λ_=>?_)|refine jW (λ_=>?_) (λ_=>?_)|refine lg (λ_=>?_) (λ_=>?_)|refine gE (λ_=>?_) (λ_=>?_)|refine ct am am ?_|refine jU am am ?_)
 all_goals(first|exact wp_ret ⟨rfl,(congrArg B (decide_eq_true am)).symm,Cx.cr ci⟩|exact wp_ret ⟨rfl,(congrArg B (decide_eq_false am)).symm,Cx.cr ci⟩)
theorem yT {S}{h:Int}(h0:0<=h)(h1:h<=4):aG EM (zF 137) [I h] S λr S'=>r=I (4+h)/\aR S S':=by refine aV (b:=Tryz.a137) rfl rfl ?_;rw[Tryz.u137];exact ct am am (wp_ret ⟨rfl,rfl,aR.refl _⟩)
theorem H7 {S:AH}{t:To}:aG EM (zF 136) [.agg t.cs] S λr S'=>r=.agg [I t.nd,I t.rn,I t.ht]/\aR S S':=by
 refine aV (b:=Tryz.a136) rfl rfl ?_;have H:Cx S [] S [] []:=Cx.enter ac;rw[Tryz.u136];refine uL ?_;refine gf H rfl λp S1 H=>?_;refine fM H λq S2 H=>?_;repeat'(first|(first|refine cI ?_|refine dW rfl ?_|refine eC ?_|refine cK ?_|refine cD rfl ?_|refine cL ?_|refine cT ?_|refine cU ?_|refine cV ?_|refine dS ?_|refine ae (o:=.mv _) rfl ?_|refine ae (o:=.pick _ _ _) rfl ?_|refine ae (o:=.extract _ _) rfl ?_)|refine wp_bind ?_|refine gf ci rfl λ_ _ _=>?_|refine oE ci rfl rfl rfl λ_ _ _=>?_|refine eH ci Mm rfl ?_|refine kb ci Mm rfl ?_|refine kQ ?_|refine kR ?_|(refine wp_ret ?_;show wp EM _ _ _)|refine fL (λ_=>?_) (λ_=>?_)|refine ja (λ_=>?_) (λ_=>?_)|refine nN (λ_=>?_) (λ_=>?_)|refine jW (λ_=>?_) (λ_=>?_)|refine lg (λ_=>?_) (λ_=>?_)|refine gE (λ_=>?_) (λ_=>?_)|refine ct am am ?_|refine jU am am ?_)
 refine ae (v:=.agg [I t.nd,I t.rn,I t.ht]) rfl ?_;refine gl H 0 (c:=[I 0,I 0,I 0]) rfl rfl rfl ac λS3 H=>?_;refine wp_ret ⟨.inr rfl,?_⟩;have H:Cx S [] S3 [.obj q (.row [I t.nd,I t.rn,I t.ht])] [.pt p 0 t.cs]:=H;refine gF (n:=3) H 0 rfl ac ?_;exact wp_ret ⟨rfl,rfl,H.cr⟩
end Go.cO.X
namespace Go.cO.dZ
open Go.Proofs
structure Tk where
 kind:Int
 prio:Int
 every:Int
 first:Int
def Tk.cs (x:Tk):List AV:=[I x.kind,I x.prio,I x.every,I x.first]
def ep (l:List Tk):List (List AV):=l.map Tk.cs
theorem d_ (l:List Tk):(ep l).length=l.length:=List.length_map ..
theorem DF {l}{i:Nat}(hi:i<l.length):(ep l)[i]?=some (l[i].cs):=by simp[ep,hi]
def rZ (x:Tk):Int:=if x.kind≠1/\x.kind≠2 then 5 else
 if x.prio<0\/254<x.prio\/x.every<0\/(x.kind=1/\x.every<1)\/1099511627776<x.every\/x.first<0\/1099511627776<x.first\/(x.kind=2/\x.first≠0) then 3 else 0
set_option maxHeartbeats 4000000 in
theorem OA {S:AH}{x:Tk}:aG EM (zF 152) [.agg x.cs] S λr S'=>r=I (rZ x)/\aR S S':=by
 refine aV (b:=Tryz.a152) rfl rfl ?_;have H:Cx S [] S [] []:=Cx.enter ac;rw[Tryz.u152];refine gf H rfl λb S1 H=>?_
 (repeat'(first|(first|refine cI ?_|refine dW rfl ?_|refine eC ?_|refine cK ?_|refine cD rfl ?_|refine cL ?_|refine cT ?_|refine cU ?_|refine cV ?_|refine dS ?_|refine ae (o:=.mv _) rfl ?_|refine ae (o:=.pick _ _ _) rfl ?_|refine ae (o:=.extract _ _) rfl ?_)|refine wp_bind ?_|refine lU H Mm rfl ?_|(refine wp_ret ?_;show wp EM _ _ _)|refine fL (λ_=>?_) (λ_=>?_)|refine ja (λ_=>?_) (λ_=>?_)|refine nN (λ_=>?_) (λ_=>?_)|refine jW (λ_=>?_) (λ_=>?_)|refine lg (λ_=>?_) (λ_=>?_)|refine gE (λ_=>?_) (λ_=>?_)))
 all_goals first
  |exact wp_ret ⟨rfl,congrArg I (by unfold rZ;split<;>(try split)<;>omega),H.cr⟩
set_option maxHeartbeats 4000000 in
theorem EL {S:AH}{x:Tk}:aG EM (zF 153) [.agg x.cs] S λr S'=>r=I (rZ x)/\aR S S':=by
 refine aV (b:=Tryz.a153) rfl rfl ?_;have H:Cx S [] S [] []:=Cx.enter ac;rw[Tryz.u153];refine gf H rfl λb S1 H=>?_
 (repeat'(first|(first|refine cI ?_|refine dW rfl ?_|refine eC ?_|refine cK ?_|refine cD rfl ?_|refine cL ?_|refine cT ?_|refine cU ?_|refine cV ?_|refine dS ?_|refine ae (o:=.mv _) rfl ?_|refine ae (o:=.pick _ _ _) rfl ?_|refine ae (o:=.extract _ _) rfl ?_)|refine wp_bind ?_|refine lU H Mm rfl ?_|(refine wp_ret ?_;show wp EM _ _ _)|refine fL (λ_=>?_) (λ_=>?_)|refine ja (λ_=>?_) (λ_=>?_)|refine nN (λ_=>?_) (λ_=>?_)|refine jW (λ_=>?_) (λ_=>?_)|refine lg (λ_=>?_) (λ_=>?_)|refine gE (λ_=>?_) (λ_=>?_)))
 all_goals first
  |exact wp_ret ⟨rfl,congrArg I (by unfold rZ;split<;>(try split)<;>omega),H.cr⟩
def jh:List Tk->Int
 |[]=>0
 |x::l=>if rZ x=0 then jh l else rZ x
def kq (l:List Tk):Int:=if 32<l.length then 4 else jh l
theorem sT {l:List Tk}{i:Nat}(hi:i<l.length):jh (l.drop i)=if rZ l[i]=0 then jh (l.drop (i+1)) else rZ l[i]:=by rw[List.drop_eq_getElem_cons hi];rfl
theorem AY {S:AH}{v:AV}{l:List Tk}(hv:iU S v 4 (ep l)):aG EM (zF 62) [v] S λr S'=>r=I (kq l)/\aR S S':=by
 refine aV (b:=Tryz.a62) rfl rfl ?_;have H:=Cx.C_ hv;rw[Tryz.u62];refine iu H Mm ?_;rw[d_];unfold kq;refine ja (λcA=>?_) (λzw=>?_)
 ·(try(refine zz ?_;(repeat constructor);intro _))
  refine wp_ret ⟨rfl,?_,H.cr⟩;rw[if_pos am];rfl
 .rw[if_neg am]
  (try(refine zz ?_;(repeat constructor);intro _))
  refine iu H Mm ?_;rw[d_];refine wp_bind (wp_loop (ym l.length (λi vs S1=>∃u:AV,vs=[I (i:Int),u]/\jh (l.drop i)=jh l/\Cx S [] S1 [] [.sl v 4 (ep l)]) ?_ ?_ ⟨_,rfl,rfl,H⟩))
  .rintro i vs S1 cA ⟨u,rfl,hc,H⟩;rw[sT cA] at hc;refine nM am ?_
   (try(refine zz ?_;(repeat constructor);intro _))
   refine wp_bind ?_;refine nO (i:=i) H Mm (DF cA) λp off H=>?_;refine uY H (cs:=l[i].cs) Mm (Nat.le_of_ble_eq_true rfl) ?_;refine fM H λb S3 H=>?_;refine gl H 0 rfl rfl rfl (Nat.le_of_ble_eq_true rfl) λS4 H=>?_;replace H:Cx S [] S4 [] [.pt b 0 l[i].cs,.pt p off l[i].cs,.sl v 4 (ep l)]:=H.freeze (i:=0) (c:=l[i].cs) rfl;refine uY H (cs:=l[i].cs) Mm (Nat.le_of_ble_eq_true rfl) ?_;refine dX H OA λS5 H=>?_;refine gE (λfI=>?_) (λhe=>?_)
   .rw[if_neg fI] at hc
    (try(refine zz ?_;(repeat constructor);intro _))
    exact wp_ret (.inr ⟨ac,rfl,by rw[<-hc];rfl,H.cr⟩)
   .rw[if_pos he] at hc
    (try(refine zz ?_;(repeat constructor);intro _))
    refine wp_ret ?_;show wp EM _ _ _;exact ct am am (wp_ret (.inl ⟨rfl,_,rfl,hc,H.tl.tl⟩))
  .rintro vs S1 ⟨u,rfl,hc,H⟩;refine jV am ?_
   (try(refine zz ?_;(repeat constructor);intro _))
   refine wp_ret ⟨ac,wp_ret ⟨rfl,?_,H.cr⟩⟩;rw[List.drop_length] at hc;rw[<-hc];rfl
theorem AZ {S:AH}{v:AV}{l:List Tk}(hv:iU S v 4 (ep l)):aG EM (zF 64) [v] S λr S'=>r=I (kq l)/\aR S S':=by
 refine aV (b:=Tryz.a64) rfl rfl ?_;have H:=Cx.C_ hv;rw[Tryz.u64];refine iu H Mm ?_;rw[d_];unfold kq;refine ja (λcA=>?_) (λzw=>?_)
 ·(try(refine zz ?_;(repeat constructor);intro _))
  refine wp_ret ⟨rfl,?_,H.cr⟩;rw[if_pos am];rfl
 .rw[if_neg am]
  (try(refine zz ?_;(repeat constructor);intro _))
  refine wp_bind (wp_loop (ym l.length (λi vs S1=>∃u:AV,vs=[I (i:Int),u]/\jh (l.drop i)=jh l/\Cx S [] S1 [] [.sl v 4 (ep l)]) ?_ ?_ ⟨_,rfl,rfl,H⟩))
  .rintro i vs S1 cA ⟨u,rfl,hc,H⟩;rw[sT cA] at hc;refine iu H Mm ?_;rw[d_];refine nM am ?_
   (try(refine zz ?_;(repeat constructor);intro _))
   refine wp_bind ?_;refine nO (i:=i) H Mm (DF cA) λp off H=>?_;refine uY H (cs:=l[i].cs) Mm (Nat.le_of_ble_eq_true rfl) ?_;refine dX H EL λS5 H=>?_;refine gE (λfI=>?_) (λhe=>?_)
   .rw[if_neg fI] at hc
    (try(refine zz ?_;(repeat constructor);intro _))
    exact wp_ret (.inr ⟨ac,rfl,by rw[<-hc];rfl,H.cr⟩)
   .rw[if_pos he] at hc
    (try(refine zz ?_;(repeat constructor);intro _))
    refine wp_ret ?_;show wp EM _ _ _;exact ct am am (wp_ret (.inl ⟨rfl,_,rfl,hc,H.tl⟩))
  .rintro vs S1 ⟨u,rfl,hc,H⟩;refine iu H Mm ?_;rw[d_];refine jV am ?_
   (try(refine zz ?_;(repeat constructor);intro _))
   refine wp_ret ⟨ac,wp_ret ⟨rfl,?_,H.cr⟩⟩;rw[List.drop_length] at hc;rw[<-hc];rfl
structure LS (f e:Int):Prop where
 f0:0<=f
 f1:f<=1099511627776
 e0:1<=e
 e1:e<=1099511627776
def cl (f e:Int):AV:=.agg [I f,I e]
def many (f e:Int):Int:=(1099511627776-f)/e+1
def num (f e now:Int):Int:=if now<=f then 0 else(now-f)/e+(if(now-f)%e=0 then 0 else 1)
end Go.cO.dZ
namespace Go.cO.X
open Go.Proofs
section
open dZ (Tk ep kq)
section
variable{M:cQ}{B0 S:AH}{W:List Nat}{own:List Own}{ro:List aB}{Q:ga}{k:AV->AC}{kc:AC}
theorem A0 {a b:Int}(h1:-9223372036854775808<=a*b)(h2:a*b<=9223372036854775807)(h:wp M (k (I (a*b))) S Q):wp M (.op (.bin .mul (I a) (I b)) k) S Q:=GU (wrap64 h1 h2) h
theorem H8 (H:Cx B0 W S own ro){id o:Nat}{cs v}(hm:aB.pt id 0 cs∈ro)(hj:cs[o]?=some v)(hb:AV.beq v v=true)(h:wp M kc S Q):wp M (.lH (.load 1 false (.ptr id o)) v kc) S Q:=by
 have:=JQ (M:=M) (k:=kc) (off:=0) (j:=o) H hm hj hb h
 rwa[show Nat.add 0 o=o from Nat.zero_add o] at this
theorem Kn (H:Cx B0 W S own ro){n:Nat}{ps}(l:List Int)(he:fo (bh [I 0] n) ps=some (l.map λa=>I a))(hn:l.length=n)
  (h:∀v S1,Cx B0 W S1 own (.sl v 1 (ints l)::ro)->wp M (k v) S1 Q):wp M (.op (.gK 1 n [I 0] ps) k) S Q:=by
 refine ae (v:=.sl S.next 0 n n) (S1:=S.new (.row (l.map λa=>I a))) ?_ (h _ _ (H.Ab (aR.new S _) (φ:=.sl (.sl S.next 0 n n) 1 (ints l)) ?_ ?_))
 .show eI 1 n [I 0] ps S=_;unfold eI;rw[he];have e:(Nat.beq (bD (l.map λa=>I a)) (Nat.mul n 1)&&Nat.beq (bD [I 0]) 1)=true:=by rw[aS,List.length_map,hn,show Nat.mul n 1=n from Nat.mul_one n,Nat.beq_refl];rfl
  simp only[e];rfl
 .refine .inr ⟨S.next,0,l.map λa=>I a,.inl ⟨n,by rw[bJ];omega,by simp[hn],by rw[bJ,hn]⟩,dh (bk _ _),?_,?_⟩
  .rw[bJ,List.drop_zero,List.take_of_length_le ac];unfold ints;clear he hn h;induction l with
   |nil=>rfl
   |cons a r ih=>simp only[List.map_cons,List.flatten_cons,ih];rfl
  .intro x hx;obtain⟨a,_,rfl⟩:=List.mem_map.1 hx;rfl
 .intro id bQ;simp only[aB.ids,dQ,List.mem_singleton] at bQ;subst bQ;exact⟨Nat.le_refl _,by simp[AH.new]⟩
end
theorem Cm {a b A C:Int}(h1:0<=a)(h2:a<=A)(h3:0<=b)(h4:b<=C):0<=a*b/\a*b<=A*C:=
 ⟨Int.mul_nonneg h1 h3,Int.mul_le_mul h2 h4 h3 am⟩
theorem H_ {v}:methodOf EM.P 219 v "coxswain/tower.cells"=some (137,v):=by kernel_rfl
def YP (a n h i p:Int):Int:=if i<0\/n<=i\/p<0\/4+h<=p then-1 else a+i*(4+h)+p
theorem EN {S}{a n h i p:Int}(h0:0<=h)(h1:h<=4)(ha:0<=a)(ha2:a<4096)(hn:n<=128):aG EM (zF 149) [.agg [I a,I n,I h],I i,I p] S λr S'=>r=I (YP a n h i p)/\aR S S':=by
 refine aV (b:=Tryz.a149) rfl rfl ?_;have H:Cx S [] S [] []:=Cx.enter ac;rw[Tryz.u149];unfold YP;repeat'(first|(first|(first|refine cI ?_|refine dW rfl ?_|refine eC ?_|refine cK ?_|refine cD rfl ?_|refine cL ?_|refine cT ?_|refine cU ?_|refine cV ?_|refine dS ?_|refine ae (o:=.mv _) rfl ?_|refine ae (o:=.pick _ _ _) rfl ?_|refine ae (o:=.extract _ _) rfl ?_)|refine wp_bind ?_|refine gf ci rfl λ_ _ _=>?_|refine oE ci rfl rfl rfl λ_ _ _=>?_|refine eH ci Mm rfl ?_|refine kb ci Mm rfl ?_|refine kQ ?_|refine kR ?_|(refine wp_ret ?_;show wp EM _ _ _)|refine fL (λ_=>?_) (λ_=>?_)|refine ja (λ_=>?_) (λ_=>?_)|refine nN (λ_=>?_) (λ_=>?_)|refine jW (λ_=>?_) (λ_=>?_)|refine lg (λ_=>?_) (λ_=>?_)|refine gE (λ_=>?_) (λ_=>?_)|refine ct am am ?_|refine jU am am ?_)|refine dX ci (jT H_ (yT h0 h1)) λ_ _=>?_|refine H8 ci Mm rfl yn ?_)
 all_goals try(first|exact wp_ret ⟨rfl,by first|rw[if_pos am];rfl|rw[if_neg am];rfl,Cx.cr ci⟩)
 have hm:=Cm (a:=i) (b:=4+h) (A:=128) (C:=8) am am am am;refine A0 am am ?_;refine ct am am ?_;refine ct am am ?_;exact wp_ret ⟨rfl,by rw[if_neg am];rfl,Cx.cr ci⟩
theorem OB {S:AH}{t:To}:aG EM (zF 61) [.agg t.cs,I 0,I 0] S λr S'=>r=I (if t.ok then t.nd else-1)/\aR S S':=by
 refine aV (b:=Tryz.a61) rfl rfl ?_;have H:Cx S [] S [] []:=Cx.enter ac;rw[Tryz.u61];refine gf H rfl λp S1 H=>?_;refine wp_bind ?_;refine kb H Mm rfl ?_;refine dX H (AX (t:=t)) λS2 H=>?_;by_cases ht:t.ok
 .rw[decide_eq_true ht,if_pos ht];have h0:=ht;unfold To.ok at ht;refine kQ ?_
  (try(refine zz ?_;(repeat constructor);intro _))
  refine uW am ?_
  (try(refine zz ?_;(repeat constructor);intro _))
  refine kb H Mm rfl ?_;refine dX H (H7 (t:=t)) λS3 H=>?_;refine dX H (EN am am am am am) λS4 H=>?_;refine wp_ret ⟨rfl,?_,H.cr⟩;unfold YP;rw[if_neg am];have:t.nd+0*(4+t.ht)+0=t.nd:=am;rw[this];rfl
 .rw[decide_eq_false ht,if_neg ht];refine kR ?_
  (try(refine zz ?_;(repeat constructor);intro _))
  exact wp_ret ⟨rfl,rfl,H.cr⟩
structure Ex where
 t:To
 r7:Int
 xt:Int
 Qz:Int
 xu:Int
 EO:Int
 r8:Int
 rp:Int
 r9:Int
 aJ:Int
 rq:Int
 xw:Int
 r_:Int
 se:Int
 own:Int
 seq:Int
def Ex.cs (e:Ex)(v:AV):List AV:=[I e.t.nd,I e.t.hd,I e.t.ht,I e.t.Km,I e.t.yS,I e.t.rn,I e.t.km,I e.t.lW,I e.t.Fq,I e.t.VN,I e.t.pins,I e.t.ah,I e.t.vd,
 I e.r7,I e.xt,I e.Qz,I e.xu,I e.EO,I e.r8,I e.rp,I e.r9,I e.aJ,I e.rq,I e.xw,I e.r_,I e.se,I e.own,I e.seq,v]
def Ex.ok (e:Ex)(l:List Tk):Prop:=e.t.ok/\kq l=0/\0<l.length/\e.xt=l.length/\1<=e.t.ah/\e.t.ah<=64/\e.aJ=e.t.ah/\e.se=e.t.ah/\1<=e.rp/\e.rp<=64/\1<=e.rq/\e.rq<=16/\
 dJ e.r7/\dJ e.Qz/\dJ e.xu/\dJ e.EO/\dJ e.r8/\dJ e.r9/\dJ e.xw/\dJ e.r_/\dJ e.own/\dJ e.seq
instance acb (e:Ex)(l:List Tk):Decidable (e.ok l):=inferInstanceAs (Decidable (_/\_))
def Ex.vH (e:Ex):List Int:=[e.r7,e.Qz,e.xu,e.EO,e.r8,e.r9,e.xw,e.r_,e.own,e.seq]
theorem vI (e:Ex):(∀a∈e.vH,dJ a)↔(dJ e.r7/\dJ e.Qz/\dJ e.xu/\dJ e.EO/\dJ e.r8/\dJ e.r9/\dJ e.xw/\dJ e.r_/\dJ e.own/\dJ e.seq):=by simp[Ex.vH]
section
variable{B0 S:AH}{W:List Nat}{own:List Own}{ro:List aB}{Q:ga}{k:AV->AC}
theorem ef {S v}{es:Nat}{L}(h:g_ S v es L):odd v=false/\v.cells=[v]:=by
 rcases h with⟨⟨_,rfl⟩,_⟩|⟨id,off,c,(⟨_,_,_,rfl⟩|⟨_,_,_,rfl⟩),_⟩<;>exact⟨rfl,rfl⟩
set_option maxHeartbeats 4000000 in
theorem xy {v:AV}{e:Ex}{l:List Tk}(hv:aB.sl v 4 (ep l)∈ro)(H:Cx B0 W S own ro):aG EM (zF 9) [.agg (e.cs v)] S λr S'=>r=B (decide (e.ok l))/\aR S S':=by
 refine aV (b:=Tryz.a9) rfl rfl ?_;have Qm:iU S v 4 (ep l):=H.hH hv;clear H;have H:=Cx.C_ Qm;have hT:=λ{S1:AH} {own:List Own} {ro:List aB} (H:Cx S [] S1 own ro) (hm:aB.sl v 4 (ep l)∈ro)=>dZ.AY (l:=l) (H.hH hm);rw[Tryz.u9];have bad:∀(S1:AH),¬e.ok l->aR S S1->(Tag.ret=Tag.ret/\oneOf [B false]=B (decide (e.ok l))/\aR S S1):=λS1 hn hg=>⟨rfl,by rw[decide_eq_false hn];rfl,hg⟩;refine gf H rfl λp S1 H=>?_
 (try(refine zz ?_;(repeat constructor);intro _))
 refine eH H Mm rfl ?_
 (try(refine zz ?_;(repeat constructor);intro _))
 refine kb H Mm rfl ?_;refine dX H (OB (t:=e.t)) λS2 H=>?_;by_cases ht:e.t.ok
 rotate_left
 .rw[if_neg ht];refine nM am ?_
  (try(refine zz ?_;(repeat constructor);intro _))
  exact wp_ret (bad _ (λh=>ht h.1) H.cr)
 rw[if_pos ht];have YQ:=ht;unfold To.ok at ht;refine jV am ?_
 (try(refine zz ?_;(repeat constructor);intro _))
 refine eH H Mm rfl ?_
 (try(refine zz ?_;(repeat constructor);intro _))
 refine dX H (hT H Mm) λS3 H=>?_
 (try(refine zz ?_;(repeat constructor);intro _))
 refine gE (λfI=>?_) (λhz=>?_)
 ·(try(refine zz ?_;(repeat constructor);intro _))
  exact wp_ret (bad _ (λh=>fI h.2.1) H.cr)
 (try(refine zz ?_;(repeat constructor);intro _))
 refine eH H Mm rfl ?_
 (try(refine zz ?_;(repeat constructor);intro _))
 refine iu H Mm ?_;rw[dZ.d_]
 (try(refine zz ?_;(repeat constructor);intro _))
 refine lg (λh0=>?_) (λTA=>?_)
 ·(try(refine zz ?_;(repeat constructor);intro _))
  exact wp_ret (bad _ (λh=>by have:=h.2.2.1;omega) H.cr)
 (try(refine zz ?_;(repeat constructor);intro _))
 refine eH H Mm rfl ?_
 (try(refine zz ?_;(repeat constructor);intro _))
 refine eH H Mm rfl ?_
 (try(refine zz ?_;(repeat constructor);intro _))
 refine iu H Mm ?_;rw[dZ.d_];have fin:∀(S1:AH),¬(e.xt=l.length/\1<=e.t.ah/\e.t.ah<=64/\e.aJ=e.t.ah/\e.se=e.t.ah/\1<=e.rp/\e.rp<=64/\1<=e.rq/\e.rq<=16)->aR S S1->(Tag.ret=Tag.ret/\oneOf [B false]=B (decide (e.ok l))/\aR S S1):=
  λS1 hn hg=>bad S1 (λh=>hn (by unfold Ex.ok at h;omega)) hg
 repeat'(first|exact wp_ret (fin _ am (Cx.cr ci))|(refine Kn ci e.vH rfl rfl λvl S4 H=>?_)|(first|refine cI ?_|refine dW rfl ?_|refine eC ?_|refine cK ?_|refine cD rfl ?_|refine cL ?_|refine cT ?_|refine cU ?_|refine cV ?_|refine dS ?_|refine ae (o:=.mv _) rfl ?_|refine ae (o:=.pick _ _ _) rfl ?_|refine ae (o:=.extract _ _) rfl ?_)|refine eH ci Mm rfl ?_|refine fL (λ_=>?_) (λ_=>?_)|refine ja (λ_=>?_) (λ_=>?_)|refine gE (λ_=>?_) (λ_=>?_))
 refine iu H Mm ?_;rw[bJ];refine wp_bind (wp_loop (yh (λm vs S1=>∃(i:Nat),vs=[I (i:Int),B false]/\i<=10/\m=10-i/\(∀a∈e.vH.take i,dJ a)/\Cx S [] S1 [] [.sl vl 1 (ints e.vH),.pt p 0 (AV.agg (e.cs v)).cells,.sl v 4 (ep l)]) ?_ 10 ⟨0,rfl,am,am,ac,H⟩));clear H;rintro m vs S5 ⟨i,rfl,hi,rfl,gT,H⟩;have OC:e.vH.length=10:=rfl;refine fL (λcA=>?_) (λzw=>?_)
 .have cA:i<e.vH.length:=by rw[OC] at cA⊢;omega
  (try(refine zz ?_;(repeat constructor);intro _))
  refine wp_bind ?_;refine nO (i:=i) (x:=[I e.vH[i]]) H Mm (by simp[ints,cA]) λq1 o1 H1=>?_;refine Ae H1 Mm rfl ?_;replace H:=H1.tl;have out:¬dJ e.vH[i]->Tag.ret=Tag.ret/\oneOf [B false]=B (decide (e.ok l))/\aR S S5:=λhn=>bad _ (λh=>hn ((vI e).2 (by unfold Ex.ok at h;simp only[h,and_self]) _ (List.getElem_mem cA))) H.cr;refine fL (λh0=>?_) (λh0=>?_)
  ·(try(refine zz ?_;(repeat constructor);intro _))
   refine wp_ret (.inr ⟨ac,out (λh=>by unfold dJ at h;omega)⟩)
  (try(refine zz ?_;(repeat constructor);intro _))
  refine jW (λh1=>?_) (λh1=>?_)
  ·(try(refine zz ?_;(repeat constructor);intro _))
   refine wp_ret (.inr ⟨ac,out (λh=>by unfold dJ at h;omega)⟩)
  (try(refine zz ?_;(repeat constructor);intro _))
  refine wp_ret ?_;show wp EM _ _ _;refine ct am am (wp_ret (.inl ⟨rfl,10-(i+1),am,i+1,rfl,am,rfl,?_,H⟩));rw[List.take_succ_eq_append_getElem cA];intro a ha;rcases List.mem_append.1 ha with ha|ha;.exact gT a ha
  .rw[List.mem_singleton.1 ha];exact⟨h0,h1⟩
 ·(try(refine zz ?_;(repeat constructor);intro _))
  refine wp_ret (.inr ⟨ac,?_⟩);show wp EM _ _ _;have:i=10:=by rw[OC] at zw;omega
  subst this;rw[List.take_of_length_le (by rw[OC];omega)] at gT;refine wp_ret ⟨rfl,?_,H.cr⟩;have:=(vI e).1 gT;rw[decide_eq_true (show e.ok l by unfold Ex.ok;refine⟨YQ,am,am,am,am,am,am,am,am,am,am,am,this⟩)];rfl
set_option maxHeartbeats 4000000 in
theorem iF {v:AV}{e:Ex}{l:List Tk}(hv:aB.sl v 4 (ep l)∈ro)(H:Cx B0 W S own ro):aG EM (zF 10) [.agg (e.cs v)] S λr S'=>r=B (decide (e.ok l))/\aR S S':=by
 refine aV (b:=Tryz.a10) rfl rfl ?_;have Qm:iU S v 4 (ep l):=H.hH hv;clear H;have H:=Cx.C_ Qm;have hT:=λ{S1:AH} {own:List Own} {ro:List aB} (H:Cx S [] S1 own ro) (hm:aB.sl v 4 (ep l)∈ro)=>dZ.AZ (l:=l) (H.hH hm);rw[Tryz.u10];have bad:∀(S1:AH),¬e.ok l->aR S S1->(Tag.ret=Tag.ret/\oneOf [B false]=B (decide (e.ok l))/\aR S S1):=λS1 hn hg=>⟨rfl,by rw[decide_eq_false hn];rfl,hg⟩;refine gf H rfl λp S1 H=>?_
 (try(refine zz ?_;(repeat constructor);intro _))
 refine eH H Mm rfl ?_
 (try(refine zz ?_;(repeat constructor);intro _))
 refine kb H Mm rfl ?_;refine dX H (vG (t:=e.t)) λS2 H=>?_;by_cases ht:e.t.ok
 rotate_left
 .rw[decide_eq_false ht];refine kR ?_
  (try(refine zz ?_;(repeat constructor);intro _))
  exact wp_ret (bad _ (λh=>ht h.1) H.cr)
 rw[decide_eq_true ht];have YQ:=ht;unfold To.ok at ht;refine kQ ?_
 (try(refine zz ?_;(repeat constructor);intro _))
 refine eH H Mm rfl ?_
 (try(refine zz ?_;(repeat constructor);intro _))
 refine dX H (hT H Mm) λS3 H=>?_
 (try(refine zz ?_;(repeat constructor);intro _))
 refine gE (λfI=>?_) (λhz=>?_)
 ·(try(refine zz ?_;(repeat constructor);intro _))
  exact wp_ret (bad _ (λh=>fI h.2.1) H.cr)
 (try(refine zz ?_;(repeat constructor);intro _))
 refine eH H Mm rfl ?_
 (try(refine zz ?_;(repeat constructor);intro _))
 refine iu H Mm ?_;rw[dZ.d_]
 (try(refine zz ?_;(repeat constructor);intro _))
 refine lg (λh0=>?_) (λTA=>?_)
 ·(try(refine zz ?_;(repeat constructor);intro _))
  exact wp_ret (bad _ (λh=>by have:=h.2.2.1;omega) H.cr)
 (try(refine zz ?_;(repeat constructor);intro _))
 refine eH H Mm rfl ?_
 (try(refine zz ?_;(repeat constructor);intro _))
 refine eH H Mm rfl ?_
 (try(refine zz ?_;(repeat constructor);intro _))
 refine iu H Mm ?_;rw[dZ.d_];have kl:∀{P:Prop},(e.ok l->P)->¬P->¬e.ok l:=λh hn he=>hn (h he);have fin:∀(S1:AH),¬(e.xt=l.length/\1<=e.t.ah/\e.t.ah<=64/\e.aJ=e.t.ah/\e.se=e.t.ah/\1<=e.rp/\e.rp<=64/\1<=e.rq/\e.rq<=16)->aR S S1->(Tag.ret=Tag.ret/\oneOf [B false]=B (decide (e.ok l))/\aR S S1):=
  λS1 hn hg=>bad S1 (λh=>hn (by unfold Ex.ok at h;omega)) hg
 have TB:∀{a:Int} {K:AV->AC} {S1:AH} {own:List Own} {ro:List aB} {Q:ga},a∈e.vH->Cx S [] S1 own ro->(∀S2,Cx S [] S2 own ro->dJ a->wp EM (K (B true)) S2 Q)->(∀S2,Cx S [] S2 own ro->¬e.ok l->wp EM (K (B false)) S2 Q)->wp EM (.call (zF 65) [I a] K) S1 Q:=by
  intro a K S1 own ro Q ha H h1 h2;refine dX H yw λS2 H=>?_;by_cases hc:dJ a;.rw[decide_eq_true hc];exact h1 _ H hc
  .rw[decide_eq_false hc];exact h2 _ H λh=>hc ((vI e).2 (by unfold Ex.ok at h;simp only[h,and_self]) _ ha)
 repeat'(first|exact wp_ret (fin _ am (Cx.cr ci))|exact wp_ret (bad _ ci (Cx.cr ci))|exact wp_ret ⟨rfl,(congrArg B (decide_eq_true (by unfold Ex.ok;exact⟨YQ,am,am,am,am,am,am,am,am,am,am,am,ci,ci,ci,ci,ci,ci,ci,ci,ci,ci⟩))).symm,Cx.cr ci⟩|(first|refine cI ?_|refine dW rfl ?_|refine eC ?_|refine cK ?_|refine cD rfl ?_|refine cL ?_|refine cT ?_|refine cU ?_|refine cV ?_|refine dS ?_|refine ae (o:=.mv _) rfl ?_|refine ae (o:=.pick _ _ _) rfl ?_|refine ae (o:=.extract _ _) rfl ?_)|refine kQ ?_|refine kR ?_|refine eH ci Mm rfl ?_|refine TB (by simp[Ex.vH]) ci (λ_ _ _=>?_) (λ_ _ _=>?_)|refine fL (λ_=>?_) (λ_=>?_)|refine ja (λ_=>?_) (λ_=>?_)|refine gE (λ_=>?_) (λ_=>?_))
end
end
section
open dZ (Tk ep kq)
structure Su where
 ah:Int
 mN:Int
 nodes:Int
 ji:Int
 room:Int
 xz:Int
def Su.cs (s:Su)(v:AV):List AV:=[I s.ah,I s.mN,I s.nodes,I s.ji,I s.room,I s.xz,v]
def Su.wJ (s:Su):Prop:=1<=s.ah/\s.ah<=64/\1<=s.mN/\s.mN<=64/\s.mN+1<=s.nodes/\s.nodes<=128/\1<=s.ji/\s.ji<=4/\1<=s.room/\s.room<=16/\1<=s.xz/\s.xz<=4294967295
instance acd (s:Su):Decidable s.wJ:=inferInstanceAs (Decidable (_/\_))
def Su.lH (s:Su)(l:List Tk):Int:=if s.wJ then(if kq l≠0 then kq l else if l.length=0 then 2 else 0) else 3
def Su.bd (s:Su):List (Int×Int×Int):=[(s.ah,1,64),(s.mN,1,64),(s.nodes,min s.mN 64+1,128),(s.ji,1,4),(s.room,1,16),(s.xz,1,4294967295)]
theorem Su.Ia (s:Su):(∀b∈s.bd,b.2.1<=b.1/\b.1<=b.2.2)↔s.wJ:=by simp only[Su.bd,List.mem_cons,List.not_mem_nil,or_false,forall_eq_or_imp,forall_eq];unfold Su.wJ;omega
theorem OD (a b:Int):n_ false (I a) (I b)=some (I (min a b)):=by
 show some (AV.sc (.int .i64 (if DS b a then b else a)))=_;rw[f_];by_cases h:b<a;.rw[decide_eq_true h,Int.min_eq_right am];rfl
 .rw[decide_eq_false h,Int.min_eq_left am];rfl
section
variable{M:cQ}{B0 S:AH}{W:List Nat}{own:List Own}{ro:List aB}{Q:ga}{k:AV->AC}{kc:AC}
theorem Ko {a b:Int}(h:wp M (k (I (min a b))) S Q):wp M (.op (.pg false [I a,I b]) k) S Q:=ae (v:=I (min a b)) (by
 show eN (n_ false (I a) (I b)>>=λx=>some x) S=_;rw[OD];rfl) h
theorem vJ (H:Cx B0 W S own ro)(i:Nat){id off n:Nat}{c v}(hi:own[i]?=some (.obj id (.row c)))(ho:odd v=false)(hn:v.cells.length=n)(hl:Nat.ble (off+n) c.length=true)
  (h:∀S1,Cx B0 W S1 (own.set i (.obj id (.row (aH c off v.cells)))) ro->wp M (k uv) S1 Q):wp M (.op (.store n (.ptr id off) v) k) S Q:=
 gl H i hi ho hn (Nat.le_of_ble_eq_true hl) h
theorem OE (H:Cx B0 W S own ro)(i:Nat){id o:Nat}{c v}(hi:own[i]?=some (.obj id (.row c)))(hj:c[o]?=some v)(hb:AV.beq v v=true)(h:wp M kc S Q):wp M (.lH (.load 1 false (.ptr id o)) v kc) S Q:=by refine yf (v':=v) ?_ hb h;show(match S.cells? id with|some c=>fE false c o 1|none=>none)=_;rw[dh (H.oh _ (List.mem_of_getElem? hi))];exact mz hj
theorem Cn (H:Cx B0 W S own ro){es:Nat}{z}(hz:z.length=es)(h:∀v S1,Cx B0 W S1 (.sl v es []::own) ro->wp M (k v) S1 Q):wp M (.op (.gK es 0 z []) k) S Q:=by
 refine ae (v:=.sl S.next 0 0 0) (S1:=S.new (.row [])) ?_ (h _ _ (H.gD (aR.new S _) (x:=.sl (.sl S.next 0 0 0) es []) ?_ ?_))
 .show eI es 0 z [] S=_;unfold eI;have e:(Nat.beq (bD ([]:List AV)) (Nat.mul 0 es)&&Nat.beq (bD z) es)=true:=by rw[aS,aS,hz,Nat.beq_refl,show Nat.mul 0 es=0 from Nat.zero_mul es];rfl
  show(match Nat.beq (bD ([]:List AV)) (Nat.mul 0 es)&&Nat.beq (bD z) es with|true=>lay S (.row []) λid=>.sl id 0 0 0|false=>none)=_;rw[e];rfl
 .exact .inr ⟨S.next,0,[],.inl ⟨0,ac,ac,rfl⟩,bk _ _,ac,ac⟩
 .intro id bQ;simp only[Own.ids,dQ,List.mem_singleton] at bQ;subst bQ;exact⟨Nat.le_refl _,by simp[AH.new]⟩
end
theorem _root_.Go.cO.Cx.tT {B0 S W own ro}(H:Cx B0 W S own ro)(es:Nat):Cx B0 W S (.sl Ns es []::own) ro:=H.gD (aR.refl S) (.inl ⟨rfl,rfl⟩) (λid bQ=>by simp[Own.ids,dQ] at bQ)
theorem Co {S:AH}{s:Su}{v:AV}{l:List Tk}(hj:-9223372036854775808<=s.mN)(hv:iU S v 4 (ep l)):aG EM (zF 230) [.agg (s.cs v)] S λr S'=>(∃cs:List AV,r=.agg cs/\∀i,i<6->∃x b,(cs.drop (i*4)).take 4=[x,I b.1,I b.2.1,I b.2.2]/\odd x=false/\x.cells=[x]/\s.bd[i]?=some b)/\aR S S':=by
 refine aV (b:=Tryz.a230) rfl rfl ?_;have H:=Cx.C_ hv;rw[Tryz.u230];refine uL ?_;refine gf H rfl λp S1 H=>?_;refine fM H λq S2 H=>?_;repeat'(first|(first|refine cI ?_|refine dW rfl ?_|refine eC ?_|refine cK ?_|refine cD rfl ?_|refine cL ?_|refine cT ?_|refine cU ?_|refine cV ?_|refine dS ?_|refine ae (o:=.mv _) rfl ?_|refine ae (o:=.pick _ _ _) rfl ?_|refine ae (o:=.extract _ _) rfl ?_)|refine eH ci Mm rfl ?_|refine ae (o:=.build _ _) rfl ?_|refine Ko ?_|refine ct am am ?_)
 refine vJ H 0 rfl rfl rfl rfl λS3 H=>?_;refine wp_ret ⟨.inr rfl,?_⟩;refine gF (n:=24) H 0 rfl (Nat.le_of_ble_eq_true rfl) ?_;refine wp_ret ⟨rfl,⟨_,rfl,?_⟩,H.cr⟩;intro i hi;match i,hi with
 |0,_=>exact⟨_,_,rfl,rfl,rfl,rfl⟩
 |1,_=>exact⟨_,_,rfl,rfl,rfl,rfl⟩
 |2,_=>exact⟨_,_,rfl,rfl,rfl,rfl⟩
 |3,_=>exact⟨_,_,rfl,rfl,rfl,rfl⟩
 |4,_=>exact⟨_,_,rfl,rfl,rfl,rfl⟩
 |5,_=>exact⟨_,_,rfl,rfl,rfl,rfl⟩
 |j+6,h=>exact absurd h am
section
variable{B0 S:AH}{W:List Nat}{own:List Own}{ro:List aB}{Q:ga}{k:AV->AC}
theorem Ib {len es i:Nat}{cs l}(hi:i<len)(hl:i*es+es<=cs.length)(he:(cs.drop (i*es)).take es=l)(h:wp EM (k (.agg l)) S Q):wp EM (.op (.Bk len es true (.agg cs) (I (i:Int))) k) S Q:=by
 refine ae (v:=.agg l) ?_ h;have h3:nj (I (i:Int)) len=some i:=by show below i len=some i;unfold below;rw[cJ am]
 show eN (sm len es true (.agg cs) (I (i:Int))) S=_;have:sm len es true (.agg cs) (I (i:Int))=some (.agg l):=by show(match nj (I (i:Int)) len with|some i=>fE true cs (Nat.mul i es) es|none=>none)=_;rw[h3];simp only;rw[mA (by show Nat.mul i es+es<=_;exact hl)];show some (AV.agg ((cs.drop (i*es)).take es))=_;rw[he]
 rw[this];rfl
theorem EP {s:Su}{v:AV}{l:List Tk}(hj:-9223372036854775808<=s.mN)(hv:aB.sl v 4 (ep l)∈ro)(H:Cx B0 W S own ro):aG EM (zF 128) [.agg (s.cs v)] S λr S'=>r=I (s.lH l)/\aR S S':=by
 refine aV (b:=Tryz.a128) rfl rfl ?_;have Qm:iU S v 4 (ep l):=H.hH hv;clear H;have H:=Cx.C_ Qm;rw[Tryz.u128];refine gf H rfl λp S1 H=>?_;refine kb H Mm rfl ?_;refine Aj H (Co (s:=s) hj (H.hH (show aB.sl v 4 (ep l)∈_ by(repeat(first|exact List.Mem.head _|apply List.Mem.tail))))) λr S2 ⟨cs,hr,Lg⟩ H=>?_;subst hr;refine wp_bind (wp_loop (yh (λm vs S1=>∃(i:Nat),vs=[I (i:Int),I 0]/\i<=6/\m=6-i/\(∀b∈s.bd.take i,b.2.1<=b.1/\b.1<=b.2.2)/\Cx S [] S1 [] [.pt p 0 (s.cs v),.sl v 4 (ep l)]) ?_ 6 ⟨0,rfl,am,am,ac,H⟩));clear H;rintro m vs S5 ⟨i,rfl,hi,rfl,gT,H⟩;refine fL (λcA=>?_) (λzw=>?_)
 .have cA:i<6:=am;obtain⟨x,b,h1,hx1,hx2,h2⟩:=Lg i cA;have dc:i*4+4<=cs.length:=by have:=congrArg List.length h1;rw[List.length_take,List.length_drop] at this;simp at this;omega
  (try(refine zz ?_;(repeat constructor);intro _))
  refine wp_bind ?_;refine Ib cA dc h1 ?_;refine oE H rfl rfl rfl λq S6 H=>?_;have H:Cx S [] S6 [] [.pt q 0 [x,I b.1,I b.2.1,I b.2.2],.pt p 0 (s.cs v),.sl v 4 (ep l)]:=H;have LU:s.bd.length=6:=rfl;have hb:s.bd[i]'(by rw[LU];exact cA)=b:=by have:=(List.getElem?_eq_some_iff.1 h2).2;exact this
  have out:¬(b.2.1<=b.1/\b.1<=b.2.2)->I 3=I (s.lH l):=λhn=>by unfold Su.lH;rw[if_neg λhf=>hn ((s.Ia).2 hf b (List.mem_of_getElem? h2))]
  (try(refine zz ?_;(repeat constructor);intro _))
  refine eH H Mm rfl ?_
  (try(refine zz ?_;(repeat constructor);intro _))
  refine eH H Mm rfl ?_;refine fL (λh0=>?_) (λh0=>?_)
  ·(try(refine zz ?_;(repeat constructor);intro _))
   refine wp_ret (.inr ⟨ac,rfl,out am,H.cr⟩)
  (try(refine zz ?_;(repeat constructor);intro _))
  refine eH H Mm rfl ?_
  (try(refine zz ?_;(repeat constructor);intro _))
  refine eH H Mm rfl ?_
  (try(refine zz ?_;(repeat constructor);intro _))
  refine ja (λh3=>?_) (λh3=>?_)
  ·(try(refine zz ?_;(repeat constructor);intro _))
   refine wp_ret (.inr ⟨ac,rfl,out am,H.cr⟩)
  (try(refine zz ?_;(repeat constructor);intro _))
  refine wp_ret ?_;show wp EM _ _ _;refine ct am am (wp_ret (.inl ⟨rfl,6-(i+1),am,i+1,rfl,am,rfl,?_,H.tl⟩));rw[List.take_succ_eq_append_getElem (by rw[LU];exact cA)];intro a ha;rcases List.mem_append.1 ha with ha|ha;.exact gT a ha
  .rw[List.mem_singleton.1 ha,hb];exact⟨h0,h3⟩
 .have:i=6:=am;subst this
  (try(refine zz ?_;(repeat constructor);intro _))
  refine wp_ret (.inr ⟨ac,?_⟩);show wp EM _ _ _;rw[List.take_of_length_le (by show s.bd.length<=6;exact Nat.le_refl 6)] at gT;have hf:=(s.Ia).1 gT
  (try(refine zz ?_;(repeat constructor);intro _))
  refine eH H Mm rfl ?_;refine dX H (dZ.AY (l:=l) (H.hH Mm)) λS6 H=>?_;unfold Su.lH;rw[if_pos hf];refine gE (λfI=>?_) (λhz=>?_)
  ·(try(refine zz ?_;(repeat constructor);intro _))
   rw[if_pos fI];exact wp_ret ⟨rfl,rfl,H.cr⟩
  (try(refine zz ?_;(repeat constructor);intro _))
  rw[if_neg am];refine eH H Mm rfl ?_;refine iu H Mm ?_;rw[dZ.d_];refine lg (λh0=>?_) (λTA=>?_)
  ·(try(refine zz ?_;(repeat constructor);intro _))
   rw[if_pos am];exact wp_ret ⟨rfl,rfl,H.cr⟩
  ·(try(refine zz ?_;(repeat constructor);intro _))
   rw[if_neg am];exact wp_ret ⟨rfl,rfl,H.cr⟩
theorem Kp (l:List Tk):∀x∈ep l,x.length=4:=by intro x hx;obtain⟨y,_,rfl⟩:=List.mem_map.1 hx;rfl
theorem ER {v l}(hv:iU S v 4 (ep l))(hl:l.length<=100000):aG EM (zF 130) [v] S λr S'=>Cx S [] S' [.sl r 4 (ep l)] []:=by
 refine aV (b:=Tryz.a130) rfl rfl ?_;have H:=Cx.C_ hv;rw[Tryz.u130];have TC:v≠Ns->evalOp EM.P (.eq 40 false v Ns) S=some (B false,S):=λfI=>by
  rcases hv.1 with⟨⟨sa,rfl⟩,_⟩|⟨id,off,c,(⟨_,_,_,rfl⟩|⟨_,_,_,rfl⟩),_⟩
  .cases sa with
   |none=>exact absurd rfl fI
   |some a=>kernel_rfl
  .kernel_rfl
  .kernel_rfl
 by_cases hn:v=Ns
 .subst hn;have h0:ep l=[]:=by
   rcases hv.1 with⟨_,h⟩|⟨id,off,c,(⟨_,_,_,h⟩|⟨_,_,_,h⟩),_⟩;.exact h
   .cases h
   .cases h
  refine ae (v:=B true) (S1:=S) (by kernel_rfl) ?_
  (try(refine zz ?_;(repeat constructor);intro _))
  refine wp_ret ⟨rfl,?_⟩;rw[h0];rw[h0] at H;exact(H.tT 4).tl
 .refine ae (TC hn) ?_
  (try(refine zz ?_;(repeat constructor);intro _))
  refine Cn H rfl λu S1 H=>?_;refine pI (x:=v) (N:=ep l) H 0 rfl Mm (Kp l) (by rw[dZ.d_];unfold ca;simp;omega) (by rw[dZ.d_];unfold cP;simp;omega) λv1 S2 H=>?_;refine wp_ret ⟨rfl,?_⟩;exact H.tl
end
def tt (s:Su)(n:Int):Ex:=
 let N:=s.nodes
 let C:=s.ah
 let P:=s.nodes*(4+s.ji)
 let g:=6+2*N+C+s.ji+P
 let j:=g+n
 let m:=j+3*s.mN+1
 let r:=m+s.ah*(s.room+2)
 {t:={nd:=6+2*N+C+s.ji,hd:=6+2*N+C,ht:=s.ji,Km:=0,yS:=1,rn:=N,km:=1+N,lW:=1+2*N,Fq:=s.xz,VN:=2+2*N,pins:=3+2*N,ah:=C,vd:=3+2*N+C},
  r7:=g,xt:=n,Qz:=j,xu:=j+s.mN,EO:=j+2*s.mN,r8:=j+2*s.mN+1,rp:=s.mN,r9:=m,aJ:=C,rq:=s.room,xw:=r,r_:=r+C,se:=C,own:=r+2*C,seq:=r+3*C}
def Cp (s:Su)(n:Int):Int:=(tt s n).seq+1
theorem Ic {s:Su}{l:List Tk}(h:s.lH l=0):s.wJ/\kq l=0/\1<=l.length/\l.length<=32/\(0<=s.nodes*(4+s.ji)/\s.nodes*(4+s.ji)<=128*8)/\(0<=s.ah*(s.room+2)/\s.ah*(s.room+2)<=64*18):=by
 unfold Su.lH at h;by_cases hf:s.wJ
 .rw[if_pos hf] at h;by_cases ht:kq l≠0;.rw[if_pos ht] at h;exact absurd h ht
  .rw[if_neg ht] at h;have ht:kq l=0:=Decidable.not_not.1 ht;have hl:l.length<=32:=by
    unfold dZ.kq at ht;split at ht;.cases ht
    .omega
   have hp:1<=l.length:=by
    split at h;.cases h
    .omega
   have Q6:=hf;unfold Su.wJ at Q6;exact⟨hf,ht,hp,hl,Cm am am am am,Cm am am am am⟩
 .rw[if_neg hf] at h;cases h
theorem YR {c c'}{a b:Int}(h:c=c')(h2:a=b):AV.dD [.agg c,I a,I 0]=.dD [.agg c',I b,I 0]:=by rw[h,h2]
theorem Ex.OG {S v}{es:Nat}{L}(hv:g_ S v es L):AV.beq v v=true:=by
 rcases hv with⟨⟨_,rfl⟩,_⟩|⟨id,off,c,(⟨cap,_,_,rfl⟩|⟨cap,_,_,rfl⟩),_⟩;.simp[AV.beq]
 .show(Nat.beq id id&&Nat.beq off off&&Nat.beq L.length L.length&&Nat.beq cap cap)=true;simp only[Nat.beq_refl,Bool.and_self]
 .show(Nat.beq id id&&Nat.beq off off&&Nat.beq L.length L.length&&Nat.beq cap cap&&Nat.beq es es)=true;simp only[Nat.beq_refl,Bool.and_self]
theorem TD {a b:Int}{l m}(h:a=b)(h2:l=m):I a::l=I b::m:=by rw[h,h2]
section
variable{B0 S:AH}{W:List Nat}{own:List Own}{ro:List aB}{Q:ga}{k:AV->AC}
theorem Kq {x cb res:Nat}{u}{es:Nat}{L r z}{a n:Int}(H:Cx B0 W S [.obj x r,.sl u es L,.obj cb (.row [I a]),.obj res z] ro)(h1:-9223372036854775808<=a+n)(h2:a+n<=9223372036854775807)(h3:-9223372036854775808<=a)(h4:a<=9223372036854775807)
  (h:∀S1,Cx B0 W S1 [.obj x r,.sl u es L,.obj cb (.row [I (a+n)]),.obj res z] ro->wp EM (k (I a)) S1 Q):wp EM (.call (.fn (.func 129) [] [.ptr cb 0]) [I n] k) S Q:=by
 refine bW (aV (b:=Tryz.a129) rfl rfl ?_);rw[Tryz.u129];refine qN H 2 rfl rfl ?_;refine ct h1 h2 ?_;refine vJ H 2 rfl rfl rfl rfl λS1 H=>?_;have H:Cx B0 W S1 [.obj x r,.sl u es L,.obj cb (.row [I (a+n)]),.obj res z] ro:=H;refine qN H 2 rfl rfl ?_;refine jU am am ?_;refine wp_ret ⟨rfl,?_⟩;show wp EM (k (I (a+n-n))) S1 Q;rw[show a+n-n=a by omega];exact h S1 H
theorem Ie {u}{es:Nat}{L}(hs:g_ S u es L):evalOp EM.P (.build [I 0,I 0,I 0,I 0,I 0,I 0,I 0,I 0,I 0,I 0,I 0,I 0,I 0,I 0,I 0,I 0,I 0,I 0,I 0,I 0,I 0,I 0,I 0,I 0,I 0,I 0,I 0,I 0,Ns] [(28,1,u)]) S=some (.agg [I 0,I 0,I 0,I 0,I 0,I 0,I 0,I 0,I 0,I 0,I 0,I 0,I 0,I 0,I 0,I 0,I 0,I 0,I 0,I 0,I 0,I 0,I 0,I 0,I 0,I 0,I 0,I 0,u],S):=by
 rcases hs with⟨⟨_,rfl⟩,_⟩|⟨id,off,c,(⟨_,_,_,rfl⟩|⟨_,_,_,rfl⟩),_⟩<;>rfl
def DG (v:AV):List AV:=[I 0,I 0,I 0,I 0,I 0,I 0,I 0,I 0,I 0,I 0,I 0,I 0,I 0,I 0,I 0,I 0,I 0,I 0,I 0,I 0,I 0,I 0,I 0,I 0,I 0,I 0,I 0,I 0,v]
def OH (s:Su)(l:List Tk)(u r:AV):Prop:=(s.lH l≠0/\u=Ns/\r=.dD [.agg (DG Ns),I 0,I (s.lH l)])\/(s.lH l=0/\r=.dD [.agg ((tt s l.length).cs u),I (Cp s l.length),I 0])
set_option maxHeartbeats 4000000 in
theorem ES {s:Su}{v:AV}{l:List Tk}(hj:-9223372036854775808<=s.mN)(hv:iU S v 4 (ep l)):aG EM (zF 46) [.agg (s.cs v)] S λr S'=>∃u,OH s l u r/\Cx S [] S' [.sl u 4 (if s.lH l=0 then ep l else [])] []:=by
 refine aV (b:=Tryz.a46) rfl rfl ?_;have H:=Cx.C_ hv;rw[Tryz.u46];unfold OH;refine uL ?_;refine gf H rfl λp S1 H=>?_;refine fM H λq S2 H=>?_;refine kb H Mm rfl ?_;refine dX H (EP (s:=s) (l:=l) hj Mm H) λS3 H=>?_;refine gE (λfI=>?_) (λhz=>?_)
 ·(try(refine zz ?_;(repeat constructor);intro _))
  refine ae (o:=.build _ _) rfl ?_;refine vJ H 0 rfl rfl rfl rfl λS4 H=>?_;refine wp_ret ⟨.inr rfl,?_⟩;refine gF (n:=29) H 0 rfl (Nat.le_of_ble_eq_true rfl) ?_;refine wp_ret ⟨rfl,Ns,.inl ⟨fI,rfl,rfl⟩,?_⟩;rw[if_neg fI];exact((H.iw 0).tT 4).BV ac
 obtain⟨hf,ht,hp,hl,wT,tC⟩:=Ic hz;have hf0:=hf;unfold Su.wJ at hf;rw[if_pos hz]
 (try(refine zz ?_;(repeat constructor);intro _))
 refine fM H λcb S4 H=>?_;refine vJ H 0 rfl rfl rfl rfl λS5 H=>?_;have H:Cx S [] S5 [.obj cb (.row [I 0]),.obj q (.row (DG Ns))] [.pt p 0 (s.cs v),.sl v 4 (ep l)]:=H
 (try(refine zz ?_;(repeat constructor);intro _))
 refine eH H Mm rfl ?_;refine G4 H (ER (l:=l) (H.hH Mm) am) λu S6 H=>?_;refine ae (Ie (iT (H.oh _ (List.Mem.head _)))) ?_;refine fM H λx S7 H=>?_;refine vJ H 0 rfl rfl rfl rfl λS8 H=>?_;have H:Cx S [] S8 [.obj x (.row (DG u)),.sl u 4 (ep l),.obj cb (.row [I 0]),.obj q (.row (DG Ns))] [.pt p 0 (s.cs v),.sl v 4 (ep l)]:=H;repeat'(first|(first|refine cI ?_|refine dW rfl ?_|refine eC ?_|refine cK ?_|refine cD rfl ?_|refine cL ?_|refine cT ?_|refine cU ?_|refine cV ?_|refine dS ?_|refine ae (o:=.mv _) rfl ?_|refine ae (o:=.pick _ _ _) rfl ?_|refine ae (o:=.extract _ _) rfl ?_)|refine eH ci Mm rfl ?_|refine iu ci (show aB.sl v 4 (ep l)∈_ by(repeat(first|exact List.Mem.head _|apply List.Mem.tail))) ?_|rw[dZ.d_]|refine Kq ci am am am am λ_ _=>?_|refine H8 ci Mm rfl yn ?_|refine H8 ci Mm rfl (Ex.OG (Cx.rh ci _ (show aB.sl v 4 (ep l)∈_ by(repeat(first|exact List.Mem.head _|apply List.Mem.tail))))) ?_|refine vJ ci 0 rfl rfl rfl rfl λ_ _=>?_|refine ct am am ?_|refine A0 am am ?_)
 refine gF (n:=29) ci 0 rfl (Nat.le_of_ble_eq_true rfl) ?_;refine qN ci 2 rfl rfl ?_;refine vJ ci 3 rfl rfl rfl rfl λS9 H9=>?_;refine OE H9 2 rfl rfl yn ?_;refine wp_ret ⟨.inr rfl,?_⟩;refine gF (n:=29) H9 3 rfl (Nat.le_of_ble_eq_true rfl) ?_;refine wp_ret ⟨rfl,u,.inr ⟨hz,YR ?_ ?_⟩,(((H9.iw 0).iw 1).iw 1).BV ac⟩
 .unfold Ex.cs;repeat'(refine TD (by unfold tt;dsimp only<;>omega) ?_)
  rfl
 .unfold Cp tt;dsimp only<;>omega
end
end
end Go.cO.X
