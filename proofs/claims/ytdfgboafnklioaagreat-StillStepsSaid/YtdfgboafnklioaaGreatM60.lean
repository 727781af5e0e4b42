/- Contracts. Conditions: in each theorem. -/
import Derived.Test.YtdfgboafnklioaaGreatM0
set_option linter.all false
set_option maxRecDepth 100000
set_option maxHeartbeats 4000000
namespace Go.cI.X
open Go.Proofs
section
variable{M:dS}{B0 S:AH}{W:List Nat}{own:List Own}{ro:List aF}{Q:iG}{k:AV->AC}{kc:AC}
theorem fY (H:Cx B0 W S own ro){id o:Nat}{cs v}(hm:aF.pt id 0 cs∈ro)(hj:cs[o]?=some v)(h:wp M (k v) S Q):wp M (.op (.load 1 false (.ptr id o)) k) S Q:=by
 have:=ny (M:=M) (k:=k) (off:=0) (j:=o) H hm hj h
 rwa[show Nat.add 0 o=o from Nat.zero_add o] at this
theorem kR (H:Cx B0 W S own ro){id o n:Nat}{cs}(hm:aF.pt id 0 cs∈ro)(hj:Nat.ble (o+n) cs.length=true)(h:wp M (k (.agg ((cs.drop o).take n))) S Q):wp M (.op (.load n true (.ptr id o)) k) S Q:=by
 have:=qz (M:=M) (k:=k) (off:=0) (j:=o) H hm (Nat.le_of_ble_eq_true hj) h
 rwa[show Nat.add 0 o=o from Nat.zero_add o] at this
theorem qZ (H:Cx B0 W S own ro){z}{n:Nat}{v}(ho:odd v=false)(hz:z.length=n)(hn:v.cells.length=n)(h:∀id S1,Cx B0 W S1 own (.pt id 0 v.cells::ro)->wp M (k (.ptr id 0)) S1 Q):
  wp M (.op (.alloc z) λp=>.op (.store n p v) λ_=>k p) S Q:=by
 refine gp H λid S1 H1=>?_;refine fI H1 0 (c:=z) rfl ho hn am λS2 H2=>?_;have e:bn z 0 v.cells=v.cells:=by rw[cb,List.take_zero,lB,Nat.zero_add,List.drop_eq_nil_of_le am,List.append_nil]
 have H2:Cx B0 W S2 (.obj id (.row (bn z 0 v.cells))::own) ro:=H2;rw[e] at H2;exact h id S2 (H2.freeze (i:=0) rfl)
theorem kj (h:wp M (k (B false)) S Q):wp M (.op (.un .not (B true)) k) S Q:=ah (v:=B false) rfl h
theorem kl (h:wp M (k (B true)) S Q):wp M (.op (.un .not (B false)) k) S Q:=ah (v:=B true) rfl h
end
structure To where
 nd:Int
 hd:Int
 ht:Int
 Ku:Int
 yX:Int
 q8:Int
 iY:Int
 iJ:Int
 Dk:Int
 VN:Int
 pins:Int
 ae:Int
 rP:Int
def To.cs (t:To):List AV:=[I t.nd,I t.hd,I t.ht,I t.Ku,I t.yX,I t.q8,I t.iY,I t.iJ,I t.Dk,I t.VN,I t.pins,I t.ae,I t.rP]
def To.ok (t:To):Prop:=1<=t.ht/\t.ht<=4/\1<=t.q8/\t.q8<=128/\0<=t.nd/\t.nd<4096/\0<=t.hd/\t.hd<4096
instance acb (t:To):Decidable t.ok:=inferInstanceAs (Decidable (_/\_))
theorem Bf {S:AH}{t:To}:aG EM (zF 133) [.agg t.cs] S λr S'=>r=B (decide t.ok)/\bj S S':=by
 refine bk (b:=Tryz.a133) rfl rfl ?_;have H:Cx S [] S [] []:=Cx.enter ac;rw[Tryz.u133];unfold To.ok;repeat'(first|(first|refine cC ?_|refine dO rfl ?_|refine ed ?_|refine cE ?_|refine ct rfl ?_|refine cF ?_|refine cM ?_|refine cN ?_|refine cD ?_|refine dJ ?_|refine ah (o:=.mv _) rfl ?_|refine ah (o:=.pick _ _ _) rfl ?_|refine ah (o:=.extract _ _) rfl ?_)|refine wp_bind ?_|refine fU ci rfl λ_ _ _=>?_|refine qZ ci rfl rfl rfl λ_ _ _=>?_|refine fY ci Mm rfl ?_|refine kR ci Mm rfl ?_|refine kj ?_|refine kl ?_|(refine wp_ret ?_;show wp EM _ _ _)|refine fD (λ_=>?_) (λ_=>?_)|refine iH (λ_=>?_) (λ_=>?_)|refine nw (λ_=>?_) (λ_=>?_)|refine jt (λ_=>?_) (λ_=>?_)|refine kG (λ_=>?_) (λ_=>?_)|refine fT (λ_=>?_) (λ_=>?_)|refine cr am am ?_|refine lj am am ?_)
 all_goals(first|exact wp_ret ⟨rfl,(congrArg B (decide_eq_true am)).symm,Cx.cq ci⟩|exact wp_ret ⟨rfl,(congrArg B (decide_eq_false am)).symm,Cx.cq ci⟩)
theorem vM {S:AH}{t:To}:aG EM (zF 63) [.agg t.cs] S λr S'=>r=B (decide t.ok)/\bj S S':=by
 refine bk (b:=Tryz.a63) rfl rfl ?_;have H:Cx S [] S [] []:=Cx.enter ac;rw[Tryz.u63];unfold To.ok;repeat'(first|(first|refine cC ?_|refine dO rfl ?_|refine ed ?_|refine cE ?_|refine ct rfl ?_|refine cF ?_|refine cM ?_|refine cN ?_|refine cD ?_|refine dJ ?_|refine ah (o:=.mv _) rfl ?_|refine ah (o:=.pick _ _ _) rfl ?_|refine ah (o:=.extract _ _) rfl ?_)|refine wp_bind ?_|refine fU ci rfl λ_ _ _=>?_|refine qZ ci rfl rfl rfl λ_ _ _=>?_|refine fY ci Mm rfl ?_|refine kR ci Mm rfl ?_|refine kj ?_|refine kl ?_|(refine wp_ret ?_;show wp EM _ _ _)|refine fD (λ_=>?_) (λ_=>?_)|refine iH (λ_=>?_) (λ_=>?_)|refine nw (λ_=>?_) (λ_=>?_)|refine jt (λ_=>?_) (λ_=>?_)|refine kG (λ_=>?_) (λ_=>?_)|refine fT (λ_=>?_) (λ_=>?_)|refine cr am am ?_|refine lj am am ?_)
 all_goals(first|exact wp_ret ⟨rfl,(congrArg B (decide_eq_true am)).symm,Cx.cq ci⟩|exact wp_ret ⟨rfl,(congrArg B (decide_eq_false am)).symm,Cx.cq ci⟩)
def dB (a:Int):Prop:=0<=a/\a<4096
instance acd (a:Int):Decidable (dB a):=inferInstanceAs (Decidable (_/\_))
theorem yB {S}{a:Int}:aG EM (zF 65) [I a] S λr S'=>r=B (decide (dB a))/\bj S S':=by
 refine bk (b:=Tryz.a65) rfl rfl ?_;have H:Cx S [] S [] []:=Cx.enter ac;rw[Tryz.u65];unfold dB;repeat'(first|(first|refine cC ?_|refine dO rfl ?_|refine ed ?_|refine cE ?_|refine ct rfl ?_|refine cF ?_|refine cM ?_|refine cN ?_|refine cD ?_|refine dJ ?_|refine ah (o:=.mv _) rfl ?_|refine ah (o:=.pick _ _ _) rfl ?_|refine ah (o:=.extract _ _) rfl ?_)|refine wp_bind ?_|refine fU ci rfl λ_ _ _=>?_|refine qZ ci rfl rfl rfl λ_ _ _=>?_|refine fY ci Mm rfl ?_|refine kR ci Mm rfl ?_|refine kj ?_|refine kl ?_|(refine wp_ret ?_;show wp EM _ _ _)|refine fD (λ_=>?_) (λ_=>?_)|refine iH (λ_=>?_) (λ_=>?_)|refine nw (λ_=>?_) (λ_=>?_)|refine jt (λ_=>?_) (λ_=>?_)|refine kG (λ_=>?_) (λ_=>?_)|refine fT (λ_=>?_) (λ_=>?_)|refine cr am am ?_|refine lj am am ?_)
 all_goals(first|exact wp_ret ⟨rfl,(congrArg B (decide_eq_true am)).symm,Cx.cq ci⟩|exact wp_ret ⟨rfl,(congrArg B (decide_eq_false am)).symm,Cx.cq ci⟩)
theorem yY {S}{h:Int}(h0:0<=h)(h1:h<=4):aG EM (zF 137) [I h] S λr S'=>r=I (4+h)/\bj S S':=by refine bk (b:=Tryz.a137) rfl rfl ?_;rw[Tryz.u137];exact cr am am (wp_ret ⟨rfl,rfl,bj.refl _⟩)
theorem Ia {S:AH}{t:To}:aG EM (zF 136) [.agg t.cs] S λr S'=>r=.agg [I t.nd,I t.q8,I t.ht]/\bj S S':=by
 refine bk (b:=Tryz.a136) rfl rfl ?_;have H:Cx S [] S [] []:=Cx.enter ac;rw[Tryz.u136];refine yt ?_;refine fU H rfl λp S1 H=>?_;refine gp H λq S2 H=>?_;repeat'(first|(first|refine cC ?_|refine dO rfl ?_|refine ed ?_|refine cE ?_|refine ct rfl ?_|refine cF ?_|refine cM ?_|refine cN ?_|refine cD ?_|refine dJ ?_|refine ah (o:=.mv _) rfl ?_|refine ah (o:=.pick _ _ _) rfl ?_|refine ah (o:=.extract _ _) rfl ?_)|refine wp_bind ?_|refine fU ci rfl λ_ _ _=>?_|refine qZ ci rfl rfl rfl λ_ _ _=>?_|refine fY ci Mm rfl ?_|refine kR ci Mm rfl ?_|refine kj ?_|refine kl ?_|(refine wp_ret ?_;show wp EM _ _ _)|refine fD (λ_=>?_) (λ_=>?_)|refine iH (λ_=>?_) (λ_=>?_)|refine nw (λ_=>?_) (λ_=>?_)|refine jt (λ_=>?_) (λ_=>?_)|refine kG (λ_=>?_) (λ_=>?_)|refine fT (λ_=>?_) (λ_=>?_)|refine cr am am ?_|refine lj am am ?_)
 refine ah (v:=.agg [I t.nd,I t.q8,I t.ht]) rfl ?_;refine fI H 0 (c:=[I 0,I 0,I 0]) rfl rfl rfl ac λS3 H=>?_;refine wp_ret ⟨.inr rfl,?_⟩;have H:Cx S [] S3 [.obj q (.row [I t.nd,I t.q8,I t.ht])] [.pt p 0 t.cs]:=H;refine gN (n:=3) H 0 rfl ac ?_;exact wp_ret ⟨rfl,rfl,H.cq⟩
end Go.cI.X
namespace Go.cI.cX
open Go.Proofs
structure Tk where
 kind:Int
 prio:Int
 every:Int
 first:Int
def Tk.cs (x:Tk):List AV:=[I x.kind,I x.prio,I x.every,I x.first]
def dm (l:List Tk):List (List AV):=l.map Tk.cs
theorem eB (l:List Tk):(dm l).length=l.length:=List.length_map ..
theorem DM {l}{i:Nat}(hi:i<l.length):(dm l)[i]?=some (l[i].cs):=by simp[dm,hi]
def wY (x:Tk):Int:=if x.kind≠1/\x.kind≠2 then 5 else
 if x.prio<0\/254<x.prio\/x.every<0\/(x.kind=1/\x.every<1)\/1099511627776<x.every\/x.first<0\/1099511627776<x.first\/(x.kind=2/\x.first≠0) then 3 else 0
set_option maxHeartbeats 4000000 in
theorem OJ {S:AH}{x:Tk}:aG EM (zF 152) [.agg x.cs] S λr S'=>r=I (wY x)/\bj S S':=by
 refine bk (b:=Tryz.a152) rfl rfl ?_;have H:Cx S [] S [] []:=Cx.enter ac;rw[Tryz.u152];refine fU H rfl λb S1 H=>?_
 (repeat'(first|(first|refine cC ?_|refine dO rfl ?_|refine ed ?_|refine cE ?_|refine ct rfl ?_|refine cF ?_|refine cM ?_|refine cN ?_|refine cD ?_|refine dJ ?_|refine ah (o:=.mv _) rfl ?_|refine ah (o:=.pick _ _ _) rfl ?_|refine ah (o:=.extract _ _) rfl ?_)|refine wp_bind ?_|refine ny H Mm rfl ?_|(refine wp_ret ?_;show wp EM _ _ _)|refine fD (λ_=>?_) (λ_=>?_)|refine iH (λ_=>?_) (λ_=>?_)|refine nw (λ_=>?_) (λ_=>?_)|refine jt (λ_=>?_) (λ_=>?_)|refine kG (λ_=>?_) (λ_=>?_)|refine fT (λ_=>?_) (λ_=>?_)))
 all_goals first
  |exact wp_ret ⟨rfl,congrArg I (by unfold wY;split<;>(try split)<;>omega),H.cq⟩
set_option maxHeartbeats 4000000 in
theorem EX {S:AH}{x:Tk}:aG EM (zF 153) [.agg x.cs] S λr S'=>r=I (wY x)/\bj S S':=by
 refine bk (b:=Tryz.a153) rfl rfl ?_;have H:Cx S [] S [] []:=Cx.enter ac;rw[Tryz.u153];refine fU H rfl λb S1 H=>?_
 (repeat'(first|(first|refine cC ?_|refine dO rfl ?_|refine ed ?_|refine cE ?_|refine ct rfl ?_|refine cF ?_|refine cM ?_|refine cN ?_|refine cD ?_|refine dJ ?_|refine ah (o:=.mv _) rfl ?_|refine ah (o:=.pick _ _ _) rfl ?_|refine ah (o:=.extract _ _) rfl ?_)|refine wp_bind ?_|refine ny H Mm rfl ?_|(refine wp_ret ?_;show wp EM _ _ _)|refine fD (λ_=>?_) (λ_=>?_)|refine iH (λ_=>?_) (λ_=>?_)|refine nw (λ_=>?_) (λ_=>?_)|refine jt (λ_=>?_) (λ_=>?_)|refine kG (λ_=>?_) (λ_=>?_)|refine fT (λ_=>?_) (λ_=>?_)))
 all_goals first
  |exact wp_ret ⟨rfl,congrArg I (by unfold wY;split<;>(try split)<;>omega),H.cq⟩
def jD:List Tk->Int
 |[]=>0
 |x::l=>if wY x=0 then jD l else wY x
def mR (l:List Tk):Int:=if 32<l.length then 4 else jD l
theorem sR {l:List Tk}{i:Nat}(hi:i<l.length):jD (l.drop i)=if wY l[i]=0 then jD (l.drop (i+1)) else wY l[i]:=by rw[List.drop_eq_getElem_cons hi];rfl
theorem Ib {S:AH}{v:AV}{l:List Tk}(hv:lq S v 4 (dm l)):aG EM (zF 62) [v] S λr S'=>r=I (mR l)/\bj S S':=by
 refine bk (b:=Tryz.a62) rfl rfl ?_;have H:=Cx.M8 hv;rw[Tryz.u62];refine gO H Mm ?_;rw[eB];unfold mR;refine iH (λdu=>?_) (λFc=>?_)
 ·(try(refine zz ?_;(repeat constructor);intro _))
  refine wp_ret ⟨rfl,?_,H.cq⟩;rw[if_pos am];rfl
 .rw[if_neg am]
  (try(refine zz ?_;(repeat constructor);intro _))
  refine gO H Mm ?_;rw[eB];refine wp_bind (wp_loop (yx l.length (λi vs S1=>∃u:AV,vs=[I (i:Int),u]/\jD (l.drop i)=jD l/\Cx S [] S1 [] [.sl v 4 (dm l)]) ?_ ?_ ⟨_,rfl,rfl,H⟩))
  .rintro i vs S1 du ⟨u,rfl,hc,H⟩;rw[sR du] at hc;refine nv am ?_
   (try(refine zz ?_;(repeat constructor);intro _))
   refine wp_bind ?_;refine nA (i:=i) H Mm (DM du) λp off H=>?_;refine va H (cs:=l[i].cs) Mm (Nat.le_of_ble_eq_true rfl) ?_;refine gp H λb S3 H=>?_;refine fI H 0 rfl rfl rfl (Nat.le_of_ble_eq_true rfl) λS4 H=>?_;replace H:Cx S [] S4 [] [.pt b 0 l[i].cs,.pt p off l[i].cs,.sl v 4 (dm l)]:=H.freeze (i:=0) (c:=l[i].cs) rfl;refine va H (cs:=l[i].cs) Mm (Nat.le_of_ble_eq_true rfl) ?_;refine dP H OJ λS5 H=>?_;refine fT (λfF=>?_) (λhe=>?_)
   .rw[if_neg fF] at hc
    (try(refine zz ?_;(repeat constructor);intro _))
    exact wp_ret (.inr ⟨ac,rfl,by rw[<-hc];rfl,H.cq⟩)
   .rw[if_pos he] at hc
    (try(refine zz ?_;(repeat constructor);intro _))
    refine wp_ret ?_;show wp EM _ _ _;exact cr am am (wp_ret (.inl ⟨rfl,_,rfl,hc,H.tl.tl⟩))
  .rintro vs S1 ⟨u,rfl,hc,H⟩;refine js am ?_
   (try(refine zz ?_;(repeat constructor);intro _))
   refine wp_ret ⟨ac,wp_ret ⟨rfl,?_,H.cq⟩⟩;rw[List.drop_length] at hc;rw[<-hc];rfl
theorem sS {S:AH}{v:AV}{l:List Tk}(hv:lq S v 4 (dm l)):aG EM (zF 64) [v] S λr S'=>r=I (mR l)/\bj S S':=by
 refine bk (b:=Tryz.a64) rfl rfl ?_;have H:=Cx.M8 hv;rw[Tryz.u64];refine gO H Mm ?_;rw[eB];unfold mR;refine iH (λdu=>?_) (λFc=>?_)
 ·(try(refine zz ?_;(repeat constructor);intro _))
  refine wp_ret ⟨rfl,?_,H.cq⟩;rw[if_pos am];rfl
 .rw[if_neg am]
  (try(refine zz ?_;(repeat constructor);intro _))
  refine wp_bind (wp_loop (yx l.length (λi vs S1=>∃u:AV,vs=[I (i:Int),u]/\jD (l.drop i)=jD l/\Cx S [] S1 [] [.sl v 4 (dm l)]) ?_ ?_ ⟨_,rfl,rfl,H⟩))
  .rintro i vs S1 du ⟨u,rfl,hc,H⟩;rw[sR du] at hc;refine gO H Mm ?_;rw[eB];refine nv am ?_
   (try(refine zz ?_;(repeat constructor);intro _))
   refine wp_bind ?_;refine nA (i:=i) H Mm (DM du) λp off H=>?_;refine va H (cs:=l[i].cs) Mm (Nat.le_of_ble_eq_true rfl) ?_;refine dP H EX λS5 H=>?_;refine fT (λfF=>?_) (λhe=>?_)
   .rw[if_neg fF] at hc
    (try(refine zz ?_;(repeat constructor);intro _))
    exact wp_ret (.inr ⟨ac,rfl,by rw[<-hc];rfl,H.cq⟩)
   .rw[if_pos he] at hc
    (try(refine zz ?_;(repeat constructor);intro _))
    refine wp_ret ?_;show wp EM _ _ _;exact cr am am (wp_ret (.inl ⟨rfl,_,rfl,hc,H.tl⟩))
  .rintro vs S1 ⟨u,rfl,hc,H⟩;refine gO H Mm ?_;rw[eB];refine js am ?_
   (try(refine zz ?_;(repeat constructor);intro _))
   refine wp_ret ⟨ac,wp_ret ⟨rfl,?_,H.cq⟩⟩;rw[List.drop_length] at hc;rw[<-hc];rfl
def cl (f e:Int):AV:=.agg [I f,I e]
def many (f e:Int):Int:=(1099511627776-f)/e+1
def num (f e now:Int):Int:=if now<=f then 0 else(now-f)/e+(if(now-f)%e=0 then 0 else 1)
end Go.cI.cX
namespace Go.cI.X
open Go.Proofs
section
open cX (Tk dm mR)
section
variable{M:dS}{B0 S:AH}{W:List Nat}{own:List Own}{ro:List aF}{Q:iG}{k:AV->AC}{kc:AC}
theorem Bg {a b:Int}(h1:-9223372036854775808<=a*b)(h2:a*b<=9223372036854775807)(h:wp M (k (I (a*b))) S Q):wp M (.op (.bin .mul (I a) (I b)) k) S Q:=GI (wrap64 h1 h2) h
theorem Ic (H:Cx B0 W S own ro){id o:Nat}{cs v}(hm:aF.pt id 0 cs∈ro)(hj:cs[o]?=some v)(hb:AV.beq v v=true)(h:wp M kc S Q):wp M (.lN (.load 1 false (.ptr id o)) v kc) S Q:=by
 have:=JQ (M:=M) (k:=kc) (off:=0) (j:=o) H hm hj hb h
 rwa[show Nat.add 0 o=o from Nat.zero_add o] at this
theorem Kv (H:Cx B0 W S own ro){n:Nat}{ps}(l:List Int)(he:eg (cn [I 0] n) ps=some (l.map λa=>I a))(hn:l.length=n)
  (h:∀v S1,Cx B0 W S1 own (.sl v 1 (ints l)::ro)->wp M (k v) S1 Q):wp M (.op (.lK 1 n [I 0] ps) k) S Q:=by
 refine ah (v:=.sl S.next 0 n n) (S1:=S.new (.row (l.map λa=>I a))) ?_ (h _ _ (H.Au (bj.new S _) (φ:=.sl (.sl S.next 0 n n) 1 (ints l)) ?_ ?_))
 .show gf 1 n [I 0] ps S=_;unfold gf;rw[he];have e:(Nat.beq (bS (l.map λa=>I a)) (Nat.mul n 1)&&Nat.beq (bS [I 0]) 1)=true:=by rw[bB,List.length_map,hn,show Nat.mul n 1=n from Nat.mul_one n,Nat.beq_refl];rfl
  simp only[e];rfl
 .refine .inr ⟨S.next,0,l.map λa=>I a,.inl ⟨n,by rw[qA];omega,by simp[hn],by rw[qA,hn]⟩,dj (bT _ _),?_,?_⟩
  .rw[qA,List.drop_zero,List.take_of_length_le ac];unfold ints;clear he hn h;induction l with
   |nil=>rfl
   |cons a r ih=>simp only[List.map_cons,List.flatten_cons,ih];rfl
  .intro x hx;obtain⟨a,_,rfl⟩:=List.mem_map.1 hx;rfl
 .intro id bR;simp only[aF.ids,ef,List.mem_singleton] at bR;subst bR;exact⟨Nat.le_refl _,by simp[AH.new]⟩
end
theorem CA {a b A C:Int}(h1:0<=a)(h2:a<=A)(h3:0<=b)(h4:b<=C):0<=a*b/\a*b<=A*C:=
 ⟨Int.mul_nonneg h1 h3,Int.mul_le_mul h2 h4 h3 am⟩
theorem Ie {v}:methodOf EM.P 219 v "coxswain/tower.cells"=some (137,v):=by kernel_rfl
def Y2 (a n h i p:Int):Int:=if i<0\/n<=i\/p<0\/4+h<=p then-1 else a+i*(4+h)+p
theorem EY {S}{a n h i p:Int}(h0:0<=h)(h1:h<=4)(ha:0<=a)(Tq:a<4096)(hn:n<=128):aG EM (zF 149) [.agg [I a,I n,I h],I i,I p] S λr S'=>r=I (Y2 a n h i p)/\bj S S':=by
 refine bk (b:=Tryz.a149) rfl rfl ?_;have H:Cx S [] S [] []:=Cx.enter ac;rw[Tryz.u149];unfold Y2;repeat'(first|(first|(first|refine cC ?_|refine dO rfl ?_|refine ed ?_|refine cE ?_|refine ct rfl ?_|refine cF ?_|refine cM ?_|refine cN ?_|refine cD ?_|refine dJ ?_|refine ah (o:=.mv _) rfl ?_|refine ah (o:=.pick _ _ _) rfl ?_|refine ah (o:=.extract _ _) rfl ?_)|refine wp_bind ?_|refine fU ci rfl λ_ _ _=>?_|refine qZ ci rfl rfl rfl λ_ _ _=>?_|refine fY ci Mm rfl ?_|refine kR ci Mm rfl ?_|refine kj ?_|refine kl ?_|(refine wp_ret ?_;show wp EM _ _ _)|refine fD (λ_=>?_) (λ_=>?_)|refine iH (λ_=>?_) (λ_=>?_)|refine nw (λ_=>?_) (λ_=>?_)|refine jt (λ_=>?_) (λ_=>?_)|refine kG (λ_=>?_) (λ_=>?_)|refine fT (λ_=>?_) (λ_=>?_)|refine cr am am ?_|refine lj am am ?_)|refine dP ci (jr Ie (yY h0 h1)) λ_ _=>?_|refine Ic ci Mm rfl tO ?_)
 all_goals try(first|exact wp_ret ⟨rfl,by first|rw[if_pos am];rfl|rw[if_neg am];rfl,Cx.cq ci⟩)
 have hm:=CA (a:=i) (b:=4+h) (A:=128) (C:=8) am am am am;refine Bg am am ?_;refine cr am am ?_;refine cr am am ?_;exact wp_ret ⟨rfl,by rw[if_neg am];rfl,Cx.cq ci⟩
theorem OK {S:AH}{t:To}:aG EM (zF 61) [.agg t.cs,I 0,I 0] S λr S'=>r=I (if t.ok then t.nd else-1)/\bj S S':=by
 refine bk (b:=Tryz.a61) rfl rfl ?_;have H:Cx S [] S [] []:=Cx.enter ac;rw[Tryz.u61];refine fU H rfl λp S1 H=>?_;refine wp_bind ?_;refine kR H Mm rfl ?_;refine dP H (Bf (t:=t)) λS2 H=>?_;by_cases ht:t.ok
 .rw[decide_eq_true ht,if_pos ht];have h0:=ht;unfold To.ok at ht;refine kj ?_
  (try(refine zz ?_;(repeat constructor);intro _))
  refine uZ am ?_
  (try(refine zz ?_;(repeat constructor);intro _))
  refine kR H Mm rfl ?_;refine dP H (Ia (t:=t)) λS3 H=>?_;refine dP H (EY am am am am am) λS4 H=>?_;refine wp_ret ⟨rfl,?_,H.cq⟩;unfold Y2;rw[if_neg am];have:t.nd+0*(4+t.ht)+0=t.nd:=am;rw[this];rfl
 .rw[decide_eq_false ht,if_neg ht];refine kl ?_
  (try(refine zz ?_;(repeat constructor);intro _))
  exact wp_ret ⟨rfl,rfl,H.cq⟩
structure Ex where
 t:To
 rX:Int
 xK:Int
 Ql:Int
 xL:Int
 EZ:Int
 rY:Int
 q9:Int
 rZ:Int
 aI:Int
 q_:Int
 xM:Int
 r7:Int
 r8:Int
 own:Int
 seq:Int
def Ex.cs (e:Ex)(v:AV):List AV:=[I e.t.nd,I e.t.hd,I e.t.ht,I e.t.Ku,I e.t.yX,I e.t.q8,I e.t.iY,I e.t.iJ,I e.t.Dk,I e.t.VN,I e.t.pins,I e.t.ae,I e.t.rP,
 I e.rX,I e.xK,I e.Ql,I e.xL,I e.EZ,I e.rY,I e.q9,I e.rZ,I e.aI,I e.q_,I e.xM,I e.r7,I e.r8,I e.own,I e.seq,v]
def Ex.ok (e:Ex)(l:List Tk):Prop:=e.t.ok/\mR l=0/\0<l.length/\e.xK=l.length/\1<=e.t.ae/\e.t.ae<=64/\e.aI=e.t.ae/\e.r8=e.t.ae/\1<=e.q9/\e.q9<=64/\1<=e.q_/\e.q_<=16/\
 dB e.rX/\dB e.Ql/\dB e.xL/\dB e.EZ/\dB e.rY/\dB e.rZ/\dB e.xM/\dB e.r7/\dB e.own/\dB e.seq
instance ace (e:Ex)(l:List Tk):Decidable (e.ok l):=inferInstanceAs (Decidable (_/\_))
def Ex.vN (e:Ex):List Int:=[e.rX,e.Ql,e.xL,e.EZ,e.rY,e.rZ,e.xM,e.r7,e.own,e.seq]
theorem vO (e:Ex):(∀a∈e.vN,dB a)↔(dB e.rX/\dB e.Ql/\dB e.xL/\dB e.EZ/\dB e.rY/\dB e.rZ/\dB e.xM/\dB e.r7/\dB e.own/\dB e.seq):=by simp[Ex.vN]
section
variable{B0 S:AH}{W:List Nat}{own:List Own}{ro:List aF}{Q:iG}{k:AV->AC}
theorem dC {S v}{es:Nat}{L}(h:gl S v es L):odd v=false/\v.cells=[v]:=by
 rcases h with⟨rfl,_⟩|⟨id,off,c,(⟨_,_,_,rfl⟩|⟨_,_,_,rfl⟩),_⟩<;>exact⟨rfl,rfl⟩
set_option maxHeartbeats 4000000 in
theorem lG {v:AV}{e:Ex}{l:List Tk}(hv:aF.sl v 4 (dm l)∈ro)(H:Cx B0 W S own ro):aG EM (zF 9) [.agg (e.cs v)] S λr S'=>r=B (decide (e.ok l))/\bj S S':=by
 refine bk (b:=Tryz.a9) rfl rfl ?_;have P7:lq S v 4 (dm l):=H.eT hv;clear H;have H:=Cx.M8 P7;have hT:=λ{S1:AH} {own:List Own} {ro:List aF} (H:Cx S [] S1 own ro) (hm:aF.sl v 4 (dm l)∈ro)=>cX.Ib (l:=l) (H.eT hm);rw[Tryz.u9];have bad:∀(S1:AH),¬e.ok l->bj S S1->(Tag.ret=Tag.ret/\oneOf [B false]=B (decide (e.ok l))/\bj S S1):=λS1 hn hg=>⟨rfl,by rw[decide_eq_false hn];rfl,hg⟩;refine fU H rfl λp S1 H=>?_
 (try(refine zz ?_;(repeat constructor);intro _))
 refine fY H Mm rfl ?_
 (try(refine zz ?_;(repeat constructor);intro _))
 refine kR H Mm rfl ?_;refine dP H (OK (t:=e.t)) λS2 H=>?_;by_cases ht:e.t.ok
 rotate_left
 .rw[if_neg ht];refine nv am ?_
  (try(refine zz ?_;(repeat constructor);intro _))
  exact wp_ret (bad _ (λh=>ht h.1) H.cq)
 rw[if_pos ht];have Y3:=ht;unfold To.ok at ht;refine js am ?_
 (try(refine zz ?_;(repeat constructor);intro _))
 refine fY H Mm rfl ?_
 (try(refine zz ?_;(repeat constructor);intro _))
 refine dP H (hT H Mm) λS3 H=>?_
 (try(refine zz ?_;(repeat constructor);intro _))
 refine fT (λfF=>?_) (λhz=>?_)
 ·(try(refine zz ?_;(repeat constructor);intro _))
  exact wp_ret (bad _ (λh=>fF h.2.1) H.cq)
 (try(refine zz ?_;(repeat constructor);intro _))
 refine fY H Mm rfl ?_
 (try(refine zz ?_;(repeat constructor);intro _))
 refine gO H Mm ?_;rw[cX.eB]
 (try(refine zz ?_;(repeat constructor);intro _))
 refine kG (λh0=>?_) (λTr=>?_)
 ·(try(refine zz ?_;(repeat constructor);intro _))
  exact wp_ret (bad _ (λh=>by have:=h.2.2.1;omega) H.cq)
 (try(refine zz ?_;(repeat constructor);intro _))
 refine fY H Mm rfl ?_
 (try(refine zz ?_;(repeat constructor);intro _))
 refine fY H Mm rfl ?_
 (try(refine zz ?_;(repeat constructor);intro _))
 refine gO H Mm ?_;rw[cX.eB];have fin:∀(S1:AH),¬(e.xK=l.length/\1<=e.t.ae/\e.t.ae<=64/\e.aI=e.t.ae/\e.r8=e.t.ae/\1<=e.q9/\e.q9<=64/\1<=e.q_/\e.q_<=16)->bj S S1->(Tag.ret=Tag.ret/\oneOf [B false]=B (decide (e.ok l))/\bj S S1):=
  λS1 hn hg=>bad S1 (λh=>hn (by unfold Ex.ok at h;omega)) hg
 repeat'(first|exact wp_ret (fin _ am (Cx.cq ci))|(refine Kv ci e.vN rfl rfl λvl S4 H=>?_)|(first|refine cC ?_|refine dO rfl ?_|refine ed ?_|refine cE ?_|refine ct rfl ?_|refine cF ?_|refine cM ?_|refine cN ?_|refine cD ?_|refine dJ ?_|refine ah (o:=.mv _) rfl ?_|refine ah (o:=.pick _ _ _) rfl ?_|refine ah (o:=.extract _ _) rfl ?_)|refine fY ci Mm rfl ?_|refine fD (λ_=>?_) (λ_=>?_)|refine iH (λ_=>?_) (λ_=>?_)|refine fT (λ_=>?_) (λ_=>?_))
 refine gO H Mm ?_;rw[qA];refine wp_bind (wp_loop (Dc (λm vs S1=>∃(i:Nat),vs=[I (i:Int),B false]/\i<=10/\m=10-i/\(∀a∈e.vN.take i,dB a)/\Cx S [] S1 [] [.sl vl 1 (ints e.vN),.pt p 0 (AV.agg (e.cs v)).cells,.sl v 4 (dm l)]) ?_ 10 ⟨0,rfl,am,am,ac,H⟩));clear H;rintro m vs S5 ⟨i,rfl,hi,rfl,jM,H⟩;have OL:e.vN.length=10:=rfl;refine fD (λdu=>?_) (λFc=>?_)
 .have du:i<e.vN.length:=by rw[OL] at du⊢;omega
  (try(refine zz ?_;(repeat constructor);intro _))
  refine wp_bind ?_;refine nA (i:=i) (x:=[I e.vN[i]]) H Mm (by simp[ints,du]) λq1 o1 H1=>?_;refine u_ H1 Mm rfl ?_;replace H:=H1.tl;have out:¬dB e.vN[i]->Tag.ret=Tag.ret/\oneOf [B false]=B (decide (e.ok l))/\bj S S5:=λhn=>bad _ (λh=>hn ((vO e).2 (by unfold Ex.ok at h;simp only[h,and_self]) _ (List.getElem_mem du))) H.cq;refine fD (λh0=>?_) (λh0=>?_)
  ·(try(refine zz ?_;(repeat constructor);intro _))
   refine wp_ret (.inr ⟨ac,out (λh=>by unfold dB at h;omega)⟩)
  (try(refine zz ?_;(repeat constructor);intro _))
  refine jt (λh1=>?_) (λh1=>?_)
  ·(try(refine zz ?_;(repeat constructor);intro _))
   refine wp_ret (.inr ⟨ac,out (λh=>by unfold dB at h;omega)⟩)
  (try(refine zz ?_;(repeat constructor);intro _))
  refine wp_ret ?_;show wp EM _ _ _;refine cr am am (wp_ret (.inl ⟨rfl,10-(i+1),am,i+1,rfl,am,rfl,?_,H⟩));rw[List.take_succ_eq_append_getElem du];intro a ha;rcases List.mem_append.1 ha with ha|ha;.exact jM a ha
  .rw[List.mem_singleton.1 ha];exact⟨h0,h1⟩
 ·(try(refine zz ?_;(repeat constructor);intro _))
  refine wp_ret (.inr ⟨ac,?_⟩);show wp EM _ _ _;have:i=10:=by rw[OL] at Fc;omega
  subst this;rw[List.take_of_length_le (by rw[OL];omega)] at jM;refine wp_ret ⟨rfl,?_,H.cq⟩;have:=(vO e).1 jM;rw[decide_eq_true (show e.ok l by unfold Ex.ok;refine⟨Y3,am,am,am,am,am,am,am,am,am,am,am,this⟩)];rfl
set_option maxHeartbeats 4000000 in
theorem eC {v:AV}{e:Ex}{l:List Tk}(hv:aF.sl v 4 (dm l)∈ro)(H:Cx B0 W S own ro):aG EM (zF 10) [.agg (e.cs v)] S λr S'=>r=B (decide (e.ok l))/\bj S S':=by
 refine bk (b:=Tryz.a10) rfl rfl ?_;have P7:lq S v 4 (dm l):=H.eT hv;clear H;have H:=Cx.M8 P7;have hT:=λ{S1:AH} {own:List Own} {ro:List aF} (H:Cx S [] S1 own ro) (hm:aF.sl v 4 (dm l)∈ro)=>cX.sS (l:=l) (H.eT hm);rw[Tryz.u10];have bad:∀(S1:AH),¬e.ok l->bj S S1->(Tag.ret=Tag.ret/\oneOf [B false]=B (decide (e.ok l))/\bj S S1):=λS1 hn hg=>⟨rfl,by rw[decide_eq_false hn];rfl,hg⟩;refine fU H rfl λp S1 H=>?_
 (try(refine zz ?_;(repeat constructor);intro _))
 refine fY H Mm rfl ?_
 (try(refine zz ?_;(repeat constructor);intro _))
 refine kR H Mm rfl ?_;refine dP H (vM (t:=e.t)) λS2 H=>?_;by_cases ht:e.t.ok
 rotate_left
 .rw[decide_eq_false ht];refine kl ?_
  (try(refine zz ?_;(repeat constructor);intro _))
  exact wp_ret (bad _ (λh=>ht h.1) H.cq)
 rw[decide_eq_true ht];have Y3:=ht;unfold To.ok at ht;refine kj ?_
 (try(refine zz ?_;(repeat constructor);intro _))
 refine fY H Mm rfl ?_
 (try(refine zz ?_;(repeat constructor);intro _))
 refine dP H (hT H Mm) λS3 H=>?_
 (try(refine zz ?_;(repeat constructor);intro _))
 refine fT (λfF=>?_) (λhz=>?_)
 ·(try(refine zz ?_;(repeat constructor);intro _))
  exact wp_ret (bad _ (λh=>fF h.2.1) H.cq)
 (try(refine zz ?_;(repeat constructor);intro _))
 refine fY H Mm rfl ?_
 (try(refine zz ?_;(repeat constructor);intro _))
 refine gO H Mm ?_;rw[cX.eB]
 (try(refine zz ?_;(repeat constructor);intro _))
 refine kG (λh0=>?_) (λTr=>?_)
 ·(try(refine zz ?_;(repeat constructor);intro _))
  exact wp_ret (bad _ (λh=>by have:=h.2.2.1;omega) H.cq)
 (try(refine zz ?_;(repeat constructor);intro _))
 refine fY H Mm rfl ?_
 (try(refine zz ?_;(repeat constructor);intro _))
 refine fY H Mm rfl ?_
 (try(refine zz ?_;(repeat constructor);intro _))
 refine gO H Mm ?_;rw[cX.eB];have jL:∀{P:Prop},(e.ok l->P)->¬P->¬e.ok l:=λh hn he=>hn (h he);have fin:∀(S1:AH),¬(e.xK=l.length/\1<=e.t.ae/\e.t.ae<=64/\e.aI=e.t.ae/\e.r8=e.t.ae/\1<=e.q9/\e.q9<=64/\1<=e.q_/\e.q_<=16)->bj S S1->(Tag.ret=Tag.ret/\oneOf [B false]=B (decide (e.ok l))/\bj S S1):=
  λS1 hn hg=>bad S1 (λh=>hn (by unfold Ex.ok at h;omega)) hg
 have GZ:∀{a:Int} {K:AV->AC} {S1:AH} {own:List Own} {ro:List aF} {Q:iG},a∈e.vN->Cx S [] S1 own ro->(∀S2,Cx S [] S2 own ro->dB a->wp EM (K (B true)) S2 Q)->(∀S2,Cx S [] S2 own ro->¬e.ok l->wp EM (K (B false)) S2 Q)->wp EM (.call (zF 65) [I a] K) S1 Q:=by
  intro a K S1 own ro Q ha H h1 h2;refine dP H yB λS2 H=>?_;by_cases hc:dB a;.rw[decide_eq_true hc];exact h1 _ H hc
  .rw[decide_eq_false hc];exact h2 _ H λh=>hc ((vO e).2 (by unfold Ex.ok at h;simp only[h,and_self]) _ ha)
 repeat'(first|exact wp_ret (fin _ am (Cx.cq ci))|exact wp_ret (bad _ ci (Cx.cq ci))|exact wp_ret ⟨rfl,(congrArg B (decide_eq_true (by unfold Ex.ok;exact⟨Y3,am,am,am,am,am,am,am,am,am,am,am,ci,ci,ci,ci,ci,ci,ci,ci,ci,ci⟩))).symm,Cx.cq ci⟩|(first|refine cC ?_|refine dO rfl ?_|refine ed ?_|refine cE ?_|refine ct rfl ?_|refine cF ?_|refine cM ?_|refine cN ?_|refine cD ?_|refine dJ ?_|refine ah (o:=.mv _) rfl ?_|refine ah (o:=.pick _ _ _) rfl ?_|refine ah (o:=.extract _ _) rfl ?_)|refine kj ?_|refine kl ?_|refine fY ci Mm rfl ?_|refine GZ (by simp[Ex.vN]) ci (λ_ _ _=>?_) (λ_ _ _=>?_)|refine fD (λ_=>?_) (λ_=>?_)|refine iH (λ_=>?_) (λ_=>?_)|refine fT (λ_=>?_) (λ_=>?_))
end
end
section
open cX (Tk dm mR)
structure Su where
 ae:Int
 vP:Int
 nodes:Int
 kS:Int
 room:Int
 Bh:Int
def Su.cs (s:Su)(v:AV):List AV:=[I s.ae,I s.vP,I s.nodes,I s.kS,I s.room,I s.Bh,v]
def Su.tw (s:Su):Prop:=1<=s.ae/\s.ae<=64/\1<=s.vP/\s.vP<=64/\s.vP+1<=s.nodes/\s.nodes<=128/\1<=s.kS/\s.kS<=4/\1<=s.room/\s.room<=16/\1<=s.Bh/\s.Bh<=4294967295
instance acf (s:Su):Decidable s.tw:=inferInstanceAs (Decidable (_/\_))
def Su.lN (s:Su)(l:List Tk):Int:=if s.tw then(if mR l≠0 then mR l else if l.length=0 then 2 else 0) else 3
def Su.bd (s:Su):List (Int×Int×Int):=[(s.ae,1,64),(s.vP,1,64),(s.nodes,min s.vP 64+1,128),(s.kS,1,4),(s.room,1,16),(s.Bh,1,4294967295)]
section
variable{M:dS}{B0 S:AH}{W:List Nat}{own:List Own}{ro:List aF}{Q:iG}{k:AV->AC}{kc:AC}
theorem DN (H:Cx B0 W S own ro)(i:Nat){id off n:Nat}{c v}(hi:own[i]?=some (.obj id (.row c)))(ho:odd v=false)(hn:v.cells.length=n)(hl:Nat.ble (off+n) c.length=true)
  (h:∀S1,Cx B0 W S1 (own.set i (.obj id (.row (bn c off v.cells)))) ro->wp M (k uv) S1 Q):wp M (.op (.store n (.ptr id off) v) k) S Q:=
 fI H i hi ho hn (Nat.le_of_ble_eq_true hl) h
theorem Ig (H:Cx B0 W S own ro)(i:Nat){id o:Nat}{c v}(hi:own[i]?=some (.obj id (.row c)))(hj:c[o]?=some v)(hb:AV.beq v v=true)(h:wp M kc S Q):wp M (.lN (.load 1 false (.ptr id o)) v kc) S Q:=by refine yq (v':=v) ?_ hb h;show(match S.cells? id with|some c=>fB false c o 1|none=>none)=_;rw[dj (H.oh _ (List.mem_of_getElem? hi))];exact l8 hj
theorem vQ (H:Cx B0 W S own ro){es:Nat}{z}(hz:z.length=es)(h:∀v S1,Cx B0 W S1 (.sl v es []::own) ro->wp M (k v) S1 Q):wp M (.op (.lK es 0 z []) k) S Q:=by
 refine ah (v:=.sl S.next 0 0 0) (S1:=S.new (.row [])) ?_ (h _ _ (H.gM (bj.new S _) (x:=.sl (.sl S.next 0 0 0) es []) ?_ ?_))
 .show gf es 0 z [] S=_;unfold gf;have e:(Nat.beq (bS ([]:List AV)) (Nat.mul 0 es)&&Nat.beq (bS z) es)=true:=by rw[bB,bB,hz,Nat.beq_refl,show Nat.mul 0 es=0 from Nat.zero_mul es];rfl
  show(match Nat.beq (bS ([]:List AV)) (Nat.mul 0 es)&&Nat.beq (bS z) es with|true=>lay S (.row []) λid=>.sl id 0 0 0|false=>none)=_;rw[e];rfl
 .exact .inr ⟨S.next,0,[],.inl ⟨0,ac,ac,rfl⟩,bT _ _,ac,ac⟩
 .intro id bR;simp only[Own.ids,ef,List.mem_singleton] at bR;subst bR;exact⟨Nat.le_refl _,by simp[AH.new]⟩
end
theorem _root_.Go.cI.Cx.yZ {B0 S W own ro}(H:Cx B0 W S own ro)(es:Nat):Cx B0 W S (.sl Ns es []::own) ro:=H.gM (bj.refl S) (.inl ⟨rfl,rfl⟩) (λid bR=>by simp[Own.ids,ef] at bR)
section
variable{B0 S:AH}{W:List Nat}{own:List Own}{ro:List aF}{Q:iG}{k:AV->AC}
set_option maxHeartbeats 4000000 in
theorem CB {s:Su}{v:AV}{l:List Tk}(hv:aF.sl v 4 (dm l)∈ro)(H:Cx B0 W S own ro):aG EM (zF 110) [.agg (s.cs v)] S λr S'=>r=I (s.lN l)/\bj S S':=by
 refine bk (b:=Tryz.a110) rfl rfl ?_;have P7:lq S v 4 (dm l):=H.eT hv;clear H;have H:=Cx.M8 P7;rw[Tryz.u110];refine fU H rfl λp S1 H=>?_;have bad:∀(S1:AH),¬s.tw->bj S S1->(Tag.ret=Tag.ret/\oneOf [I 3]=I (s.lN l)/\bj S S1):=λS1 hn hg=>⟨rfl,by unfold Su.lN;rw[if_neg hn];rfl,hg⟩;repeat'(first|exact wp_ret (bad _ (by unfold Su.tw;omega) (Cx.cq ci))|(first|refine cC ?_|refine dO rfl ?_|refine ed ?_|refine cE ?_|refine ct rfl ?_|refine cF ?_|refine cM ?_|refine cN ?_|refine cD ?_|refine dJ ?_|refine ah (o:=.mv _) rfl ?_|refine ah (o:=.pick _ _ _) rfl ?_|refine ah (o:=.extract _ _) rfl ?_)|refine dP ci (cX.sS (l:=l) (Cx.eT ci Mm)) λS6 H=>?_|refine gO ci (show aF.sl v 4 (dm l)∈_ by(repeat(first|exact List.Mem.head _|apply List.Mem.tail))) ?_|refine fY ci Mm rfl ?_|refine cr am am ?_|refine fD (λ_=>?_) (λ_=>?_)|refine iH (λ_=>?_) (λ_=>?_)|refine fT (λfF=>?_) (λhz=>?_)|(rw[cX.eB];refine kG (λh0=>?_) (λTr=>?_)))
 all_goals
  have hf:s.tw:=by unfold Su.tw;omega
  unfold Su.lN;rw[if_pos hf];first
   |(rw[if_pos ci];exact wp_ret ⟨rfl,rfl,Cx.cq ci⟩)
   |(rw[if_neg am,if_pos am];exact wp_ret ⟨rfl,rfl,Cx.cq ci⟩)
   |(rw[if_neg am,if_neg am];exact wp_ret ⟨rfl,rfl,Cx.cq ci⟩)
theorem Kw (l:List Tk):∀x∈dm l,x.length=4:=by intro x hx;obtain⟨y,_,rfl⟩:=List.mem_map.1 hx;rfl
end
def tx (s:Su)(n:Int):Ex:=
 let N:=s.nodes
 let C:=s.ae
 let P:=s.nodes*(4+s.kS)
 let g:=6+2*N+C+s.kS+P
 let j:=g+n
 let m:=j+3*s.vP+1
 let r:=m+s.ae*(s.room+2)
 {t:={nd:=6+2*N+C+s.kS,hd:=6+2*N+C,ht:=s.kS,Ku:=0,yX:=1,q8:=N,iY:=1+N,iJ:=1+2*N,Dk:=s.Bh,VN:=2+2*N,pins:=3+2*N,ae:=C,rP:=3+2*N+C},
  rX:=g,xK:=n,Ql:=j,xL:=j+s.vP,EZ:=j+2*s.vP,rY:=j+2*s.vP+1,q9:=s.vP,rZ:=m,aI:=C,q_:=s.room,xM:=r,r7:=r+C,r8:=C,own:=r+2*C,seq:=r+3*C}
def CC (s:Su)(n:Int):Int:=(tx s n).seq+1
theorem CD {s:Su}{l:List Tk}(h:s.lN l=0):s.tw/\mR l=0/\1<=l.length/\l.length<=32/\(0<=s.nodes*(4+s.kS)/\s.nodes*(4+s.kS)<=128*8)/\(0<=s.ae*(s.room+2)/\s.ae*(s.room+2)<=64*18):=by
 unfold Su.lN at h;by_cases hf:s.tw
 .rw[if_pos hf] at h;by_cases ht:mR l≠0;.rw[if_pos ht] at h;exact absurd h ht
  .rw[if_neg ht] at h;have ht:mR l=0:=Decidable.not_not.1 ht;have hl:l.length<=32:=by
    unfold cX.mR at ht;split at ht;.cases ht
    .omega
   have hp:1<=l.length:=by
    split at h;.cases h
    .omega
   have QQ:=hf;unfold Su.tw at QQ;exact⟨hf,ht,hp,hl,CA am am am am,CA am am am am⟩
 .rw[if_neg hf] at h;cases h
theorem Y4 {c c'}{a b:Int}(h:c=c')(h2:a=b):AV.dh [.agg c,I a,I 0]=.dh [.agg c',I b,I 0]:=by rw[h,h2]
theorem Ex.OM {S v}{es:Nat}{L}(hv:gl S v es L):AV.beq v v=true:=by
 rcases hv with⟨rfl,_⟩|⟨id,off,c,(⟨cap,_,_,rfl⟩|⟨cap,_,_,rfl⟩),_⟩;.rfl
 .show(Nat.beq id id&&Nat.beq off off&&Nat.beq L.length L.length&&Nat.beq cap cap)=true;simp only[Nat.beq_refl,Bool.and_self]
 .show(Nat.beq id id&&Nat.beq off off&&Nat.beq L.length L.length&&Nat.beq cap cap&&Nat.beq es es)=true;simp only[Nat.beq_refl,Bool.and_self]
theorem Ts {a b:Int}{l m}(h:a=b)(h2:l=m):I a::l=I b::m:=by rw[h,h2]
section
variable{B0 S:AH}{W:List Nat}{own:List Own}{ro:List aF}{Q:iG}{k:AV->AC}
theorem Ih {u}{es:Nat}{L}(hs:gl S u es L):evalOp EM.P (.build [I 0,I 0,I 0,I 0,I 0,I 0,I 0,I 0,I 0,I 0,I 0,I 0,I 0,I 0,I 0,I 0,I 0,I 0,I 0,I 0,I 0,I 0,I 0,I 0,I 0,I 0,I 0,I 0,Ns] [(28,1,u)]) S=some (.agg [I 0,I 0,I 0,I 0,I 0,I 0,I 0,I 0,I 0,I 0,I 0,I 0,I 0,I 0,I 0,I 0,I 0,I 0,I 0,I 0,I 0,I 0,I 0,I 0,I 0,I 0,I 0,I 0,u],S):=by
 rcases hs with⟨rfl,_⟩|⟨id,off,c,(⟨_,_,_,rfl⟩|⟨_,_,_,rfl⟩),_⟩<;>rfl
def DO (v:AV):List AV:=[I 0,I 0,I 0,I 0,I 0,I 0,I 0,I 0,I 0,I 0,I 0,I 0,I 0,I 0,I 0,I 0,I 0,I 0,I 0,I 0,I 0,I 0,I 0,I 0,I 0,I 0,I 0,I 0,v]
def ON (s:Su)(l:List Tk)(u r:AV):Prop:=(s.lN l≠0/\u=Ns/\r=.dh [.agg (DO Ns),I 0,I (s.lN l)])\/(s.lN l=0/\r=.dh [.agg ((tx s l.length).cs u),I (CC s l.length),I 0])
set_option maxHeartbeats 4000000 in
theorem CE {s:Su}{v:AV}{l:List Tk}(hv:lq S v 4 (dm l)):aG EM (zF 30) [.agg (s.cs v)] S λr S'=>∃u,ON s l u r/\Cx S [] S' [.sl u 4 (if s.lN l=0 then dm l else [])] []:=by
 refine bk (b:=Tryz.a30) rfl rfl ?_;have H:=Cx.M8 hv;rw[Tryz.u30];unfold ON;refine yt ?_;refine fU H rfl λp S1 H=>?_;refine gp H λq S2 H=>?_;refine kR H Mm rfl ?_;refine dP H (CB (s:=s) (l:=l) Mm H) λS3 H=>?_;refine fT (λfF=>?_) (λhz=>?_)
 ·(try(refine zz ?_;(repeat constructor);intro _))
  refine ah (o:=.build _ _) rfl ?_;refine DN H 0 rfl rfl rfl rfl λS4 H=>?_;refine wp_ret ⟨.inr rfl,?_⟩;refine gN (n:=29) H 0 rfl (Nat.le_of_ble_eq_true rfl) ?_;refine wp_ret ⟨rfl,Ns,.inl ⟨fF,rfl,rfl⟩,?_⟩;rw[if_neg fF];exact((H.iI 0).yZ 4).B_ ac
 obtain⟨hf,ht,hp,hl,wk,zq⟩:=CD hz;have hf0:=hf;unfold Su.tw at hf;rw[if_pos hz]
 (try(refine zz ?_;(repeat constructor);intro _))
 refine vQ H rfl λu0 S4 H=>?_
 (try(refine zz ?_;(repeat constructor);intro _))
 refine fY H Mm rfl ?_;refine o5 (x:=v) (N:=dm l) H 0 rfl Mm (Kw l) (by rw[cX.eB];unfold cK;simp;omega) (by rw[cX.eB];unfold dL;simp;omega) λu S5 H=>?_;refine ah (Ih (ij (H.oh _ (List.Mem.head _)))) ?_;refine gp H λx S7 H=>?_;refine DN H 0 rfl rfl rfl rfl λS8 H=>?_;have H:Cx S [] S8 [.obj x (.row (DO u)),.sl u 4 (dm l),.obj q (.row (DO Ns))] [.pt p 0 (s.cs v),.sl v 4 (dm l)]:=H;repeat'(first|(first|refine cC ?_|refine dO rfl ?_|refine ed ?_|refine cE ?_|refine ct rfl ?_|refine cF ?_|refine cM ?_|refine cN ?_|refine cD ?_|refine dJ ?_|refine ah (o:=.mv _) rfl ?_|refine ah (o:=.pick _ _ _) rfl ?_|refine ah (o:=.extract _ _) rfl ?_)|refine fY ci Mm rfl ?_|refine vd ci 0 rfl rfl ?_|refine gO ci (show aF.sl v 4 (dm l)∈_ by(repeat(first|exact List.Mem.head _|apply List.Mem.tail))) ?_|rw[cX.eB]|refine ah (o:=.build _ _) rfl ?_|refine Ic ci Mm rfl tO ?_|refine Ig ci 0 rfl rfl tO ?_|refine Ic ci Mm rfl (Ex.OM (Cx.rh ci _ (show aF.sl v 4 (dm l)∈_ by(repeat(first|exact List.Mem.head _|apply List.Mem.tail))))) ?_|refine DN ci 0 rfl rfl rfl rfl λ_ _=>?_|refine cr am am ?_|refine Bg am am ?_)
 refine gN (n:=29) ci 0 rfl (Nat.le_of_ble_eq_true rfl) ?_
 (try(refine zz ?_;(repeat constructor);intro _))
 refine vd ci 0 rfl rfl ?_;refine cr am am ?_;refine DN ci 2 rfl rfl rfl rfl λS9 H9=>?_;refine Ig H9 0 rfl rfl tO ?_;refine wp_ret ⟨.inr rfl,?_⟩;refine gN (n:=29) H9 2 rfl (Nat.le_of_ble_eq_true rfl) ?_;refine wp_ret ⟨rfl,u,.inr ⟨hz,Y4 ?_ ?_⟩,((H9.iI 0).iI 1).B_ ac⟩
 .unfold Ex.cs;repeat'(refine Ts (by unfold tx;dsimp only<;>omega) ?_)
  rfl
 .unfold CC tx;dsimp only<;>omega
end
end
end Go.cI.X
