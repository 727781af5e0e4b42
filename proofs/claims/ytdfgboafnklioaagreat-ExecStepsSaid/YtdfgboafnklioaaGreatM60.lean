/- Contracts. Conditions: in each theorem. -/
import Derived.Test.YtdfgboafnklioaaGreatM0
set_option linter.all false
set_option maxRecDepth 100000
set_option maxHeartbeats 4000000
namespace Go.cG.X
open Go.Proofs
section
variable{M:cP}{B0 S:AH}{W:List Nat}{own:List Own}{ro:List aI}{Q:gG}{k:AV->AC}{kc:AC}
theorem i7 (H:Cx B0 W S own ro){id o:Nat}{cs v}(hm:aI.pt id 0 cs∈ro)(hj:cs[o]?=some v)(h:wp M (k v) S Q):wp M (.op (.load 1 false (.ptr id o)) k) S Q:=by
 have:=nT (M:=M) (k:=k) (off:=0) (j:=o) H hm hj h
 rwa[show Nat.add 0 o=o from Nat.zero_add o] at this
theorem mQ (H:Cx B0 W S own ro){id o n:Nat}{cs}(hm:aI.pt id 0 cs∈ro)(hj:Nat.ble (o+n) cs.length=true)(h:wp M (k (.agg ((cs.drop o).take n))) S Q):wp M (.op (.load n true (.ptr id o)) k) S Q:=by
 have:=qY (M:=M) (k:=k) (off:=0) (j:=o) H hm (Nat.le_of_ble_eq_true hj) h
 rwa[show Nat.add 0 o=o from Nat.zero_add o] at this
theorem rH (H:Cx B0 W S own ro){z}{n:Nat}{v}(ho:odd v=false)(hz:z.length=n)(hn:v.cells.length=n)(h:∀id S1,Cx B0 W S1 own (.pt id 0 v.cells::ro)->wp M (k (.ptr id 0)) S1 Q):
  wp M (.op (.alloc z) λp=>.op (.store n p v) λ_=>k p) S Q:=by
 refine jV H λid S1 H1=>?_;refine gX H1 0 (c:=z) rfl ho hn am λS2 H2=>?_;have e:bu z 0 v.cells=v.cells:=by rw[cr,List.take_zero,lB,Nat.zero_add,List.drop_eq_nil_of_le am,List.append_nil]
 have H2:Cx B0 W S2 (.obj id (.row (bu z 0 v.cells))::own) ro:=H2;rw[e] at H2;exact h id S2 (H2.freeze (i:=0) rfl)
theorem kV (h:wp M (k (B false)) S Q):wp M (.op (.un .not (B true)) k) S Q:=ah (v:=B false) rfl h
theorem kW (h:wp M (k (B true)) S Q):wp M (.op (.un .not (B false)) k) S Q:=ah (v:=B true) rfl h
end
structure To where
 nd:Int
 hd:Int
 ht:Int
 eJ:Int
 bo:Int
 aH:Int
 an:Int
 aF:Int
 fJ:Int
 mR:Int
 pins:Int
 ad:Int
 aL:Int
def To.cs (t:To):List AV:=[I t.nd,I t.hd,I t.ht,I t.eJ,I t.bo,I t.aH,I t.an,I t.aF,I t.fJ,I t.mR,I t.pins,I t.ad,I t.aL]
def To.ok (t:To):Prop:=1<=t.ht/\t.ht<=4/\1<=t.aH/\t.aH<=128/\0<=t.nd/\t.nd<4096/\0<=t.hd/\t.hd<4096
instance ace (t:To):Decidable t.ok:=inferInstanceAs (Decidable (_/\_))
theorem v8 {S:AH}{t:To}:aN EM (zF 133) [.agg t.cs] S λr S'=>r=B (decide t.ok)/\bn S S':=by
 refine br (b:=Tryz.a133) rfl rfl ?_;have H:Cx S [] S [] []:=Cx.enter ac;rw[Tryz.u133];unfold To.ok;repeat'(first|(first|refine cN ?_|refine eZ rfl ?_|refine fQ ?_|refine dM ?_|refine dm rfl ?_|refine dN ?_|refine dO ?_|refine dP ?_|refine dx ?_|refine fo ?_|refine ah (o:=.mv _) rfl ?_|refine ah (o:=.pick _ _ _) rfl ?_|refine ah (o:=.extract _ _) rfl ?_)|refine wp_bind ?_|refine iA be rfl λ_ _ _=>?_|refine rH be rfl rfl rfl λ_ _ _=>?_|refine i7 be Mm rfl ?_|refine mQ be Mm rfl ?_|refine kV ?_|refine kW ?_|(refine wp_ret ?_;show wp EM _ _ _)|refine gI (λ_=>?_) (λ_=>?_)|refine jT (λ_=>?_) (λ_=>?_)|refine nS (λ_=>?_) (λ_=>?_)|refine jU (λ_=>?_) (λ_=>?_)|refine mC (λ_=>?_) (λ_=>?_)|refine iz (λ_=>?_) (λ_=>?_)|refine dw am am ?_|refine l8 am am ?_)
 all_goals(first|exact wp_ret ⟨rfl,(congrArg B (decide_eq_true am)).symm,Cx.du be⟩|exact wp_ret ⟨rfl,(congrArg B (decide_eq_false am)).symm,Cx.du be⟩)
theorem qd {S:AH}{t:To}:aN EM (zF 63) [.agg t.cs] S λr S'=>r=B (decide t.ok)/\bn S S':=by
 refine br (b:=Tryz.a63) rfl rfl ?_;have H:Cx S [] S [] []:=Cx.enter ac;rw[Tryz.u63];unfold To.ok;repeat'(first|(first|refine cN ?_|refine eZ rfl ?_|refine fQ ?_|refine dM ?_|refine dm rfl ?_|refine dN ?_|refine dO ?_|refine dP ?_|refine dx ?_|refine fo ?_|refine ah (o:=.mv _) rfl ?_|refine ah (o:=.pick _ _ _) rfl ?_|refine ah (o:=.extract _ _) rfl ?_)|refine wp_bind ?_|refine iA be rfl λ_ _ _=>?_|refine rH be rfl rfl rfl λ_ _ _=>?_|refine i7 be Mm rfl ?_|refine mQ be Mm rfl ?_|refine kV ?_|refine kW ?_|(refine wp_ret ?_;show wp EM _ _ _)|refine gI (λ_=>?_) (λ_=>?_)|refine jT (λ_=>?_) (λ_=>?_)|refine nS (λ_=>?_) (λ_=>?_)|refine jU (λ_=>?_) (λ_=>?_)|refine mC (λ_=>?_) (λ_=>?_)|refine iz (λ_=>?_) (λ_=>?_)|refine dw am am ?_|refine l8 am am ?_)
 all_goals(first|exact wp_ret ⟨rfl,(congrArg B (decide_eq_true am)).symm,Cx.du be⟩|exact wp_ret ⟨rfl,(congrArg B (decide_eq_false am)).symm,Cx.du be⟩)
def dF (a:Int):Prop:=0<=a/\a<4096
instance acf (a:Int):Decidable (dF a):=inferInstanceAs (Decidable (_/\_))
theorem yO {S}{a:Int}:aN EM (zF 65) [I a] S λr S'=>r=B (decide (dF a))/\bn S S':=by
 refine br (b:=Tryz.a65) rfl rfl ?_;have H:Cx S [] S [] []:=Cx.enter ac;rw[Tryz.u65];unfold dF;repeat'(first|(first|refine cN ?_|refine eZ rfl ?_|refine fQ ?_|refine dM ?_|refine dm rfl ?_|refine dN ?_|refine dO ?_|refine dP ?_|refine dx ?_|refine fo ?_|refine ah (o:=.mv _) rfl ?_|refine ah (o:=.pick _ _ _) rfl ?_|refine ah (o:=.extract _ _) rfl ?_)|refine wp_bind ?_|refine iA be rfl λ_ _ _=>?_|refine rH be rfl rfl rfl λ_ _ _=>?_|refine i7 be Mm rfl ?_|refine mQ be Mm rfl ?_|refine kV ?_|refine kW ?_|(refine wp_ret ?_;show wp EM _ _ _)|refine gI (λ_=>?_) (λ_=>?_)|refine jT (λ_=>?_) (λ_=>?_)|refine nS (λ_=>?_) (λ_=>?_)|refine jU (λ_=>?_) (λ_=>?_)|refine mC (λ_=>?_) (λ_=>?_)|refine iz (λ_=>?_) (λ_=>?_)|refine dw am am ?_|refine l8 am am ?_)
 all_goals(first|exact wp_ret ⟨rfl,(congrArg B (decide_eq_true am)).symm,Cx.du be⟩|exact wp_ret ⟨rfl,(congrArg B (decide_eq_false am)).symm,Cx.du be⟩)
theorem zf {S}{h:Int}(h0:0<=h)(h1:h<=4):aN EM (zF 137) [I h] S λr S'=>r=I (4+h)/\bn S S':=by refine br (b:=Tryz.a137) rfl rfl ?_;rw[Tryz.u137];exact dw am am (wp_ret ⟨rfl,rfl,bn.refl _⟩)
theorem ID {S:AH}{t:To}:aN EM (zF 136) [.agg t.cs] S λr S'=>r=.agg [I t.nd,I t.aH,I t.ht]/\bn S S':=by
 refine br (b:=Tryz.a136) rfl rfl ?_;have H:Cx S [] S [] []:=Cx.enter ac;rw[Tryz.u136];refine Ca ?_;refine iA H rfl λp S1 H=>?_;refine jV H λq S2 H=>?_;repeat'(first|(first|refine cN ?_|refine eZ rfl ?_|refine fQ ?_|refine dM ?_|refine dm rfl ?_|refine dN ?_|refine dO ?_|refine dP ?_|refine dx ?_|refine fo ?_|refine ah (o:=.mv _) rfl ?_|refine ah (o:=.pick _ _ _) rfl ?_|refine ah (o:=.extract _ _) rfl ?_)|refine wp_bind ?_|refine iA be rfl λ_ _ _=>?_|refine rH be rfl rfl rfl λ_ _ _=>?_|refine i7 be Mm rfl ?_|refine mQ be Mm rfl ?_|refine kV ?_|refine kW ?_|(refine wp_ret ?_;show wp EM _ _ _)|refine gI (λ_=>?_) (λ_=>?_)|refine jT (λ_=>?_) (λ_=>?_)|refine nS (λ_=>?_) (λ_=>?_)|refine jU (λ_=>?_) (λ_=>?_)|refine mC (λ_=>?_) (λ_=>?_)|refine iz (λ_=>?_) (λ_=>?_)|refine dw am am ?_|refine l8 am am ?_)
 refine ah (v:=.agg [I t.nd,I t.aH,I t.ht]) rfl ?_;refine gX H 0 (c:=[I 0,I 0,I 0]) rfl rfl rfl ac λS3 H=>?_;refine wp_ret ⟨.inr rfl,?_⟩;have H:Cx S [] S3 [.obj q (.row [I t.nd,I t.aH,I t.ht])] [.pt p 0 t.cs]:=H;refine oI (n:=3) H 0 rfl ac ?_;exact wp_ret ⟨rfl,rfl,H.du⟩
end Go.cG.X
namespace Go.cG.dA
open Go.Proofs
structure Tk where
 kind:Int
 prio:Int
 every:Int
 first:Int
def Tk.cs (x:Tk):List AV:=[I x.kind,I x.prio,I x.every,I x.first]
def gK (l:List Tk):List (List AV):=l.map Tk.cs
theorem hG (l:List Tk):(gK l).length=l.length:=List.length_map ..
theorem D0 {l}{i:Nat}(hi:i<l.length):(gK l)[i]?=some (l[i].cs):=by simp[gK,hi]
def xf (x:Tk):Int:=if x.kind≠1/\x.kind≠2 then 5 else
 if x.prio<0\/254<x.prio\/x.every<0\/(x.kind=1/\x.every<1)\/1099511627776<x.every\/x.first<0\/1099511627776<x.first\/(x.kind=2/\x.first≠0) then 3 else 0
set_option maxHeartbeats 4000000 in
theorem Pc {S:AH}{x:Tk}:aN EM (zF 152) [.agg x.cs] S λr S'=>r=I (xf x)/\bn S S':=by
 refine br (b:=Tryz.a152) rfl rfl ?_;have H:Cx S [] S [] []:=Cx.enter ac;rw[Tryz.u152];refine iA H rfl λb S1 H=>?_
 (repeat'(first|(first|refine cN ?_|refine eZ rfl ?_|refine fQ ?_|refine dM ?_|refine dm rfl ?_|refine dN ?_|refine dO ?_|refine dP ?_|refine dx ?_|refine fo ?_|refine ah (o:=.mv _) rfl ?_|refine ah (o:=.pick _ _ _) rfl ?_|refine ah (o:=.extract _ _) rfl ?_)|refine wp_bind ?_|refine nT H Mm rfl ?_|(refine wp_ret ?_;show wp EM _ _ _)|refine gI (λ_=>?_) (λ_=>?_)|refine jT (λ_=>?_) (λ_=>?_)|refine nS (λ_=>?_) (λ_=>?_)|refine jU (λ_=>?_) (λ_=>?_)|refine mC (λ_=>?_) (λ_=>?_)|refine iz (λ_=>?_) (λ_=>?_)))
 all_goals first
  |exact wp_ret ⟨rfl,congrArg I (by unfold xf;split<;>(try split)<;>omega),H.du⟩
set_option maxHeartbeats 4000000 in
theorem Fi {S:AH}{x:Tk}:aN EM (zF 153) [.agg x.cs] S λr S'=>r=I (xf x)/\bn S S':=by
 refine br (b:=Tryz.a153) rfl rfl ?_;have H:Cx S [] S [] []:=Cx.enter ac;rw[Tryz.u153];refine iA H rfl λb S1 H=>?_
 (repeat'(first|(first|refine cN ?_|refine eZ rfl ?_|refine fQ ?_|refine dM ?_|refine dm rfl ?_|refine dN ?_|refine dO ?_|refine dP ?_|refine dx ?_|refine fo ?_|refine ah (o:=.mv _) rfl ?_|refine ah (o:=.pick _ _ _) rfl ?_|refine ah (o:=.extract _ _) rfl ?_)|refine wp_bind ?_|refine nT H Mm rfl ?_|(refine wp_ret ?_;show wp EM _ _ _)|refine gI (λ_=>?_) (λ_=>?_)|refine jT (λ_=>?_) (λ_=>?_)|refine nS (λ_=>?_) (λ_=>?_)|refine jU (λ_=>?_) (λ_=>?_)|refine mC (λ_=>?_) (λ_=>?_)|refine iz (λ_=>?_) (λ_=>?_)))
 all_goals first
  |exact wp_ret ⟨rfl,congrArg I (by unfold xf;split<;>(try split)<;>omega),H.du⟩
def kg:List Tk->Int
 |[]=>0
 |x::l=>if xf x=0 then kg l else xf x
def oZ (l:List Tk):Int:=if 32<l.length then 4 else kg l
theorem ti {l:List Tk}{i:Nat}(hi:i<l.length):kg (l.drop i)=if xf l[i]=0 then kg (l.drop (i+1)) else xf l[i]:=by rw[List.drop_eq_getElem_cons hi];rfl
theorem IE {S:AH}{v:AV}{l:List Tk}(hv:oW S v 4 (gK l)):aN EM (zF 62) [v] S λr S'=>r=I (oZ l)/\bn S S':=by
 refine br (b:=Tryz.a62) rfl rfl ?_;have H:=Cx.Vh hv;rw[Tryz.u62];refine jX H Mm ?_;rw[hG];unfold oZ;refine jT (λde=>?_) (λJr=>?_)
 ·(try(refine zz ?_;(repeat constructor);intro _))
  refine wp_ret ⟨rfl,?_,H.du⟩;rw[if_pos am];rfl
 .rw[if_neg am]
  (try(refine zz ?_;(repeat constructor);intro _))
  refine jX H Mm ?_;rw[hG];refine wp_bind (wp_loop (yG l.length (λi vs S1=>∃u:AV,vs=[I (i:Int),u]/\kg (l.drop i)=kg l/\Cx S [] S1 [] [.sl v 4 (gK l)]) ?_ ?_ ⟨_,rfl,rfl,H⟩))
  .rintro i vs S1 de ⟨u,rfl,hc,H⟩;rw[ti de] at hc;refine nR am ?_
   (try(refine zz ?_;(repeat constructor);intro _))
   refine wp_bind ?_;refine nU (i:=i) H Mm (D0 de) λp off H=>?_;refine vC H (cs:=l[i].cs) Mm (Nat.le_of_ble_eq_true rfl) ?_;refine jV H λb S3 H=>?_;refine gX H 0 rfl rfl rfl (Nat.le_of_ble_eq_true rfl) λS4 H=>?_;replace H:Cx S [] S4 [] [.pt b 0 l[i].cs,.pt p off l[i].cs,.sl v 4 (gK l)]:=H.freeze (i:=0) (c:=l[i].cs) rfl;refine vC H (cs:=l[i].cs) Mm (Nat.le_of_ble_eq_true rfl) ?_;refine e_ H Pc λS5 H=>?_;refine iz (λgQ=>?_) (λhe=>?_)
   .rw[if_neg gQ] at hc
    (try(refine zz ?_;(repeat constructor);intro _))
    exact wp_ret (.inr ⟨ac,rfl,by rw[<-hc];rfl,H.du⟩)
   .rw[if_pos he] at hc
    (try(refine zz ?_;(repeat constructor);intro _))
    refine wp_ret ?_;show wp EM _ _ _;exact dw am am (wp_ret (.inl ⟨rfl,_,rfl,hc,H.tl.tl⟩))
  .rintro vs S1 ⟨u,rfl,hc,H⟩;refine jS am ?_
   (try(refine zz ?_;(repeat constructor);intro _))
   refine wp_ret ⟨ac,wp_ret ⟨rfl,?_,H.du⟩⟩;rw[List.drop_length] at hc;rw[<-hc];rfl
theorem Bd {S:AH}{v:AV}{l:List Tk}(hv:oW S v 4 (gK l)):aN EM (zF 64) [v] S λr S'=>r=I (oZ l)/\bn S S':=by
 refine br (b:=Tryz.a64) rfl rfl ?_;have H:=Cx.Vh hv;rw[Tryz.u64];refine jX H Mm ?_;rw[hG];unfold oZ;refine jT (λde=>?_) (λJr=>?_)
 ·(try(refine zz ?_;(repeat constructor);intro _))
  refine wp_ret ⟨rfl,?_,H.du⟩;rw[if_pos am];rfl
 .rw[if_neg am]
  (try(refine zz ?_;(repeat constructor);intro _))
  refine wp_bind (wp_loop (yG l.length (λi vs S1=>∃u:AV,vs=[I (i:Int),u]/\kg (l.drop i)=kg l/\Cx S [] S1 [] [.sl v 4 (gK l)]) ?_ ?_ ⟨_,rfl,rfl,H⟩))
  .rintro i vs S1 de ⟨u,rfl,hc,H⟩;rw[ti de] at hc;refine jX H Mm ?_;rw[hG];refine nR am ?_
   (try(refine zz ?_;(repeat constructor);intro _))
   refine wp_bind ?_;refine nU (i:=i) H Mm (D0 de) λp off H=>?_;refine vC H (cs:=l[i].cs) Mm (Nat.le_of_ble_eq_true rfl) ?_;refine e_ H Fi λS5 H=>?_;refine iz (λgQ=>?_) (λhe=>?_)
   .rw[if_neg gQ] at hc
    (try(refine zz ?_;(repeat constructor);intro _))
    exact wp_ret (.inr ⟨ac,rfl,by rw[<-hc];rfl,H.du⟩)
   .rw[if_pos he] at hc
    (try(refine zz ?_;(repeat constructor);intro _))
    refine wp_ret ?_;show wp EM _ _ _;exact dw am am (wp_ret (.inl ⟨rfl,_,rfl,hc,H.tl⟩))
  .rintro vs S1 ⟨u,rfl,hc,H⟩;refine jX H Mm ?_;rw[hG];refine jS am ?_
   (try(refine zz ?_;(repeat constructor);intro _))
   refine wp_ret ⟨ac,wp_ret ⟨rfl,?_,H.du⟩⟩;rw[List.drop_length] at hc;rw[<-hc];rfl
def cl (f e:Int):AV:=.agg [I f,I e]
def many (f e:Int):Int:=(1099511627776-f)/e+1
def num (f e now:Int):Int:=if now<=f then 0 else(now-f)/e+(if(now-f)%e=0 then 0 else 1)
end Go.cG.dA
namespace Go.cG.X
open Go.Proofs
section
open dA (Tk gK oZ)
section
variable{M:cP}{B0 S:AH}{W:List Nat}{own:List Own}{ro:List aI}{Q:gG}{k:AV->AC}{kc:AC}
theorem IF {a b:Int}(h1:-9223372036854775808<=a*b)(h2:a*b<=9223372036854775807)(h:wp M (k (I (a*b))) S Q):wp M (.op (.bin .mul (I a) (I b)) k) S Q:=G8 (wrap64 h1 h2) h
theorem TQ (H:Cx B0 W S own ro){id o:Nat}{cs v}(hm:aI.pt id 0 cs∈ro)(hj:cs[o]?=some v)(hb:AV.beq v v=true)(h:wp M kc S Q):wp M (.rN (.load 1 false (.ptr id o)) v kc) S Q:=by
 have:=Kl (M:=M) (k:=kc) (off:=0) (j:=o) H hm hj hb h
 rwa[show Nat.add 0 o=o from Nat.zero_add o] at this
theorem KY (H:Cx B0 W S own ro){n:Nat}{ps}(l:List Int)(he:fX (cD [I 0] n) ps=some (l.map λa=>I a))(hn:l.length=n)
  (h:∀v S1,Cx B0 W S1 own (.sl v 1 (ints l)::ro)->wp M (k v) S1 Q):wp M (.op (.nu 1 n [I 0] ps) k) S Q:=by
 refine ah (v:=.sl S.next 0 n n) (S1:=S.new (.row (l.map λa=>I a))) ?_ (h _ _ (H.At (bn.new S _) (φ:=.sl (.sl S.next 0 n n) 1 (ints l)) ?_ ?_))
 .show jn 1 n [I 0] ps S=_;unfold jn;rw[he];have e:(Nat.beq (ca (l.map λa=>I a)) (Nat.mul n 1)&&Nat.beq (ca [I 0]) 1)=true:=by rw[bK,List.length_map,hn,show Nat.mul n 1=n from Nat.mul_one n,Nat.beq_refl];rfl
  simp only[e];rfl
 .refine .inr ⟨S.next,0,l.map λa=>I a,.inl ⟨n,by rw[cO];omega,by simp[hn],by rw[cO,hn]⟩,ef (bU _ _),?_,?_⟩
  .rw[cO,List.drop_zero,List.take_of_length_le ac];unfold ints;clear he hn h;induction l with
   |nil=>rfl
   |cons a r ih=>simp only[List.map_cons,List.flatten_cons,ih];rfl
  .intro x hx;obtain⟨a,_,rfl⟩:=List.mem_map.1 hx;rfl
 .intro id bT;simp only[aI.ids,eR,List.mem_singleton] at bT;subst bT;exact⟨Nat.le_refl _,by simp[AH.new]⟩
end
theorem Pd {a b A C:Int}(h1:0<=a)(h2:a<=A)(h3:0<=b)(h4:b<=C):0<=a*b/\a*b<=A*C:=
 ⟨Int.mul_nonneg h1 h3,Int.mul_le_mul h2 h4 h3 am⟩
theorem IG {v}:methodOf EM.P 219 v "coxswain/tower.cells"=some (137,v):=by kernel_rfl
def Ze (a n h i p:Int):Int:=if i<0\/n<=i\/p<0\/4+h<=p then-1 else a+i*(4+h)+p
theorem Fj {S}{a n h i p:Int}(h0:0<=h)(h1:h<=4)(ha:0<=a)(ha2:a<4096)(hn:n<=128):aN EM (zF 149) [.agg [I a,I n,I h],I i,I p] S λr S'=>r=I (Ze a n h i p)/\bn S S':=by
 refine br (b:=Tryz.a149) rfl rfl ?_;have H:Cx S [] S [] []:=Cx.enter ac;rw[Tryz.u149];unfold Ze;repeat'(first|(first|(first|refine cN ?_|refine eZ rfl ?_|refine fQ ?_|refine dM ?_|refine dm rfl ?_|refine dN ?_|refine dO ?_|refine dP ?_|refine dx ?_|refine fo ?_|refine ah (o:=.mv _) rfl ?_|refine ah (o:=.pick _ _ _) rfl ?_|refine ah (o:=.extract _ _) rfl ?_)|refine wp_bind ?_|refine iA be rfl λ_ _ _=>?_|refine rH be rfl rfl rfl λ_ _ _=>?_|refine i7 be Mm rfl ?_|refine mQ be Mm rfl ?_|refine kV ?_|refine kW ?_|(refine wp_ret ?_;show wp EM _ _ _)|refine gI (λ_=>?_) (λ_=>?_)|refine jT (λ_=>?_) (λ_=>?_)|refine nS (λ_=>?_) (λ_=>?_)|refine jU (λ_=>?_) (λ_=>?_)|refine mC (λ_=>?_) (λ_=>?_)|refine iz (λ_=>?_) (λ_=>?_)|refine dw am am ?_|refine l8 am am ?_)|refine e_ be (jQ IG (zf h0 h1)) λ_ _=>?_|refine TQ be Mm rfl Kk ?_)
 all_goals try(first|exact wp_ret ⟨rfl,by first|rw[if_pos am];rfl|rw[if_neg am];rfl,Cx.du be⟩)
 have hm:=Pd (a:=i) (b:=4+h) (A:=128) (C:=8) am am am am;refine IF am am ?_;refine dw am am ?_;refine dw am am ?_;exact wp_ret ⟨rfl,by rw[if_neg am];rfl,Cx.du be⟩
theorem Pe {S:AH}{t:To}:aN EM (zF 61) [.agg t.cs,I 0,I 0] S λr S'=>r=I (if t.ok then t.nd else-1)/\bn S S':=by
 refine br (b:=Tryz.a61) rfl rfl ?_;have H:Cx S [] S [] []:=Cx.enter ac;rw[Tryz.u61];refine iA H rfl λp S1 H=>?_;refine wp_bind ?_;refine mQ H Mm rfl ?_;refine e_ H (v8 (t:=t)) λS2 H=>?_;by_cases ht:t.ok
 .rw[decide_eq_true ht,if_pos ht];have h0:=ht;unfold To.ok at ht;refine kV ?_
  (try(refine zz ?_;(repeat constructor);intro _))
  refine vA am ?_
  (try(refine zz ?_;(repeat constructor);intro _))
  refine mQ H Mm rfl ?_;refine e_ H (ID (t:=t)) λS3 H=>?_;refine e_ H (Fj am am am am am) λS4 H=>?_;refine wp_ret ⟨rfl,?_,H.du⟩;unfold Ze;rw[if_neg am];have:t.nd+0*(4+t.ht)+0=t.nd:=am;rw[this];rfl
 .rw[decide_eq_false ht,if_neg ht];refine kW ?_
  (try(refine zz ?_;(repeat constructor);intro _))
  exact wp_ret ⟨rfl,rfl,H.du⟩
structure Ex where
 t:To
 dp:Int
 fj:Int
 tJ:Int
 fk:Int
 kz:Int
 cZ:Int
 cL:Int
 dq:Int
 aq:Int
 cF:Int
 gf:Int
 d_:Int
 dU:Int
 own:Int
 seq:Int
def Ex.cs (e:Ex)(v:AV):List AV:=[I e.t.nd,I e.t.hd,I e.t.ht,I e.t.eJ,I e.t.bo,I e.t.aH,I e.t.an,I e.t.aF,I e.t.fJ,I e.t.mR,I e.t.pins,I e.t.ad,I e.t.aL,
 I e.dp,I e.fj,I e.tJ,I e.fk,I e.kz,I e.cZ,I e.cL,I e.dq,I e.aq,I e.cF,I e.gf,I e.d_,I e.dU,I e.own,I e.seq,v]
def Ex.ok (e:Ex)(l:List Tk):Prop:=e.t.ok/\oZ l=0/\0<l.length/\e.fj=l.length/\1<=e.t.ad/\e.t.ad<=64/\e.aq=e.t.ad/\e.dU=e.t.ad/\1<=e.cL/\e.cL<=64/\1<=e.cF/\e.cF<=16/\
 dF e.dp/\dF e.tJ/\dF e.fk/\dF e.kz/\dF e.cZ/\dF e.dq/\dF e.gf/\dF e.d_/\dF e.own/\dF e.seq
instance acg (e:Ex)(l:List Tk):Decidable (e.ok l):=inferInstanceAs (Decidable (_/\_))
def Ex.v_ (e:Ex):List Int:=[e.dp,e.tJ,e.fk,e.kz,e.cZ,e.dq,e.gf,e.d_,e.own,e.seq]
theorem wa (e:Ex):(∀a∈e.v_,dF a)↔(dF e.dp/\dF e.tJ/\dF e.fk/\dF e.kz/\dF e.cZ/\dF e.dq/\dF e.gf/\dF e.d_/\dF e.own/\dF e.seq):=by simp[Ex.v_]
section
variable{B0 S:AH}{W:List Nat}{own:List Own}{ro:List aI}{Q:gG}{k:AV->AC}
theorem eu {S v}{es:Nat}{L}(h:iV S v es L):odd v=false/\v.cells=[v]:=by
 rcases h with⟨rfl,_⟩|⟨id,off,c,(⟨_,_,_,rfl⟩|⟨_,_,_,rfl⟩),_⟩<;>exact⟨rfl,rfl⟩
set_option maxHeartbeats 4000000 in
theorem oT {v:AV}{e:Ex}{l:List Tk}(hv:aI.sl v 4 (gK l)∈ro)(H:Cx B0 W S own ro):aN EM (zF 9) [.agg (e.cs v)] S λr S'=>r=B (decide (e.ok l))/\bn S S':=by
 refine br (b:=Tryz.a9) rfl rfl ?_;have Vl:oW S v 4 (gK l):=H.ku hv;clear H;have H:=Cx.Vh Vl;have hT:=λ{S1:AH} {own:List Own} {ro:List aI} (H:Cx S [] S1 own ro) (hm:aI.sl v 4 (gK l)∈ro)=>dA.IE (l:=l) (H.ku hm);rw[Tryz.u9];have bad:∀(S1:AH),¬e.ok l->bn S S1->(Tag.ret=Tag.ret/\oneOf [B false]=B (decide (e.ok l))/\bn S S1):=λS1 hn hg=>⟨rfl,by rw[decide_eq_false hn];rfl,hg⟩;refine iA H rfl λp S1 H=>?_
 (try(refine zz ?_;(repeat constructor);intro _))
 refine i7 H Mm rfl ?_
 (try(refine zz ?_;(repeat constructor);intro _))
 refine mQ H Mm rfl ?_;refine e_ H (Pe (t:=e.t)) λS2 H=>?_;by_cases ht:e.t.ok
 rotate_left
 .rw[if_neg ht];refine nR am ?_
  (try(refine zz ?_;(repeat constructor);intro _))
  exact wp_ret (bad _ (λh=>ht h.1) H.du)
 rw[if_pos ht];have Zf:=ht;unfold To.ok at ht;refine jS am ?_
 (try(refine zz ?_;(repeat constructor);intro _))
 refine i7 H Mm rfl ?_
 (try(refine zz ?_;(repeat constructor);intro _))
 refine e_ H (hT H Mm) λS3 H=>?_
 (try(refine zz ?_;(repeat constructor);intro _))
 refine iz (λgQ=>?_) (λhz=>?_)
 ·(try(refine zz ?_;(repeat constructor);intro _))
  exact wp_ret (bad _ (λh=>gQ h.2.1) H.du)
 (try(refine zz ?_;(repeat constructor);intro _))
 refine i7 H Mm rfl ?_
 (try(refine zz ?_;(repeat constructor);intro _))
 refine jX H Mm ?_;rw[dA.hG]
 (try(refine zz ?_;(repeat constructor);intro _))
 refine mC (λh0=>?_) (λKZ=>?_)
 ·(try(refine zz ?_;(repeat constructor);intro _))
  exact wp_ret (bad _ (λh=>by have:=h.2.2.1;omega) H.du)
 (try(refine zz ?_;(repeat constructor);intro _))
 refine i7 H Mm rfl ?_
 (try(refine zz ?_;(repeat constructor);intro _))
 refine i7 H Mm rfl ?_
 (try(refine zz ?_;(repeat constructor);intro _))
 refine jX H Mm ?_;rw[dA.hG];have fin:∀(S1:AH),¬(e.fj=l.length/\1<=e.t.ad/\e.t.ad<=64/\e.aq=e.t.ad/\e.dU=e.t.ad/\1<=e.cL/\e.cL<=64/\1<=e.cF/\e.cF<=16)->bn S S1->(Tag.ret=Tag.ret/\oneOf [B false]=B (decide (e.ok l))/\bn S S1):=
  λS1 hn hg=>bad S1 (λh=>hn (by unfold Ex.ok at h;omega)) hg
 repeat'(first|exact wp_ret (fin _ am (Cx.du be))|(refine KY be e.v_ rfl rfl λvl S4 H=>?_)|(first|refine cN ?_|refine eZ rfl ?_|refine fQ ?_|refine dM ?_|refine dm rfl ?_|refine dN ?_|refine dO ?_|refine dP ?_|refine dx ?_|refine fo ?_|refine ah (o:=.mv _) rfl ?_|refine ah (o:=.pick _ _ _) rfl ?_|refine ah (o:=.extract _ _) rfl ?_)|refine i7 be Mm rfl ?_|refine gI (λ_=>?_) (λ_=>?_)|refine jT (λ_=>?_) (λ_=>?_)|refine iz (λ_=>?_) (λ_=>?_))
 refine jX H Mm ?_;rw[cO];refine wp_bind (wp_loop (Dt (λm vs S1=>∃(i:Nat),vs=[I (i:Int),B false]/\i<=10/\m=10-i/\(∀a∈e.v_.take i,dF a)/\Cx S [] S1 [] [.sl vl 1 (ints e.v_),.pt p 0 (AV.agg (e.cs v)).cells,.sl v 4 (gK l)]) ?_ 10 ⟨0,rfl,am,am,ac,H⟩));clear H;rintro m vs S5 ⟨i,rfl,hi,rfl,kq,H⟩;have Pf:e.v_.length=10:=rfl;refine gI (λde=>?_) (λJr=>?_)
 .have de:i<e.v_.length:=by rw[Pf] at de⊢;omega
  (try(refine zz ?_;(repeat constructor);intro _))
  refine wp_bind ?_;refine nU (i:=i) (x:=[I e.v_[i]]) H Mm (by simp[ints,de]) λq1 o1 H1=>?_;refine vB H1 Mm rfl ?_;replace H:=H1.tl;have out:¬dF e.v_[i]->Tag.ret=Tag.ret/\oneOf [B false]=B (decide (e.ok l))/\bn S S5:=λhn=>bad _ (λh=>hn ((wa e).2 (by unfold Ex.ok at h;simp only[h,and_self]) _ (List.getElem_mem de))) H.du;refine gI (λh0=>?_) (λh0=>?_)
  ·(try(refine zz ?_;(repeat constructor);intro _))
   refine wp_ret (.inr ⟨ac,out (λh=>by unfold dF at h;omega)⟩)
  (try(refine zz ?_;(repeat constructor);intro _))
  refine jU (λh1=>?_) (λh1=>?_)
  ·(try(refine zz ?_;(repeat constructor);intro _))
   refine wp_ret (.inr ⟨ac,out (λh=>by unfold dF at h;omega)⟩)
  (try(refine zz ?_;(repeat constructor);intro _))
  refine wp_ret ?_;show wp EM _ _ _;refine dw am am (wp_ret (.inl ⟨rfl,10-(i+1),am,i+1,rfl,am,rfl,?_,H⟩));rw[List.take_succ_eq_append_getElem de];intro a ha;rcases List.mem_append.1 ha with ha|ha;.exact kq a ha
  .rw[List.mem_singleton.1 ha];exact⟨h0,h1⟩
 ·(try(refine zz ?_;(repeat constructor);intro _))
  refine wp_ret (.inr ⟨ac,?_⟩);show wp EM _ _ _;have:i=10:=by rw[Pf] at Jr;omega
  subst this;rw[List.take_of_length_le (by rw[Pf];omega)] at kq;refine wp_ret ⟨rfl,?_,H.du⟩;have:=(wa e).1 kq;rw[decide_eq_true (show e.ok l by unfold Ex.ok;refine⟨Zf,am,am,am,am,am,am,am,am,am,am,am,this⟩)];rfl
set_option maxHeartbeats 4000000 in
theorem fS {v:AV}{e:Ex}{l:List Tk}(hv:aI.sl v 4 (gK l)∈ro)(H:Cx B0 W S own ro):aN EM (zF 10) [.agg (e.cs v)] S λr S'=>r=B (decide (e.ok l))/\bn S S':=by
 refine br (b:=Tryz.a10) rfl rfl ?_;have Vl:oW S v 4 (gK l):=H.ku hv;clear H;have H:=Cx.Vh Vl;have hT:=λ{S1:AH} {own:List Own} {ro:List aI} (H:Cx S [] S1 own ro) (hm:aI.sl v 4 (gK l)∈ro)=>dA.Bd (l:=l) (H.ku hm);rw[Tryz.u10];have bad:∀(S1:AH),¬e.ok l->bn S S1->(Tag.ret=Tag.ret/\oneOf [B false]=B (decide (e.ok l))/\bn S S1):=λS1 hn hg=>⟨rfl,by rw[decide_eq_false hn];rfl,hg⟩;refine iA H rfl λp S1 H=>?_
 (try(refine zz ?_;(repeat constructor);intro _))
 refine i7 H Mm rfl ?_
 (try(refine zz ?_;(repeat constructor);intro _))
 refine mQ H Mm rfl ?_;refine e_ H (qd (t:=e.t)) λS2 H=>?_;by_cases ht:e.t.ok
 rotate_left
 .rw[decide_eq_false ht];refine kW ?_
  (try(refine zz ?_;(repeat constructor);intro _))
  exact wp_ret (bad _ (λh=>ht h.1) H.du)
 rw[decide_eq_true ht];have Zf:=ht;unfold To.ok at ht;refine kV ?_
 (try(refine zz ?_;(repeat constructor);intro _))
 refine i7 H Mm rfl ?_
 (try(refine zz ?_;(repeat constructor);intro _))
 refine e_ H (hT H Mm) λS3 H=>?_
 (try(refine zz ?_;(repeat constructor);intro _))
 refine iz (λgQ=>?_) (λhz=>?_)
 ·(try(refine zz ?_;(repeat constructor);intro _))
  exact wp_ret (bad _ (λh=>gQ h.2.1) H.du)
 (try(refine zz ?_;(repeat constructor);intro _))
 refine i7 H Mm rfl ?_
 (try(refine zz ?_;(repeat constructor);intro _))
 refine jX H Mm ?_;rw[dA.hG]
 (try(refine zz ?_;(repeat constructor);intro _))
 refine mC (λh0=>?_) (λKZ=>?_)
 ·(try(refine zz ?_;(repeat constructor);intro _))
  exact wp_ret (bad _ (λh=>by have:=h.2.2.1;omega) H.du)
 (try(refine zz ?_;(repeat constructor);intro _))
 refine i7 H Mm rfl ?_
 (try(refine zz ?_;(repeat constructor);intro _))
 refine i7 H Mm rfl ?_
 (try(refine zz ?_;(repeat constructor);intro _))
 refine jX H Mm ?_;rw[dA.hG];have kp:∀{P:Prop},(e.ok l->P)->¬P->¬e.ok l:=λh hn he=>hn (h he);have fin:∀(S1:AH),¬(e.fj=l.length/\1<=e.t.ad/\e.t.ad<=64/\e.aq=e.t.ad/\e.dU=e.t.ad/\1<=e.cL/\e.cL<=64/\1<=e.cF/\e.cF<=16)->bn S S1->(Tag.ret=Tag.ret/\oneOf [B false]=B (decide (e.ok l))/\bn S S1):=
  λS1 hn hg=>bad S1 (λh=>hn (by unfold Ex.ok at h;omega)) hg
 have Hr:∀{a:Int} {K:AV->AC} {S1:AH} {own:List Own} {ro:List aI} {Q:gG},a∈e.v_->Cx S [] S1 own ro->(∀S2,Cx S [] S2 own ro->dF a->wp EM (K (B true)) S2 Q)->(∀S2,Cx S [] S2 own ro->¬e.ok l->wp EM (K (B false)) S2 Q)->wp EM (.call (zF 65) [I a] K) S1 Q:=by
  intro a K S1 own ro Q ha H h1 h2;refine e_ H yO λS2 H=>?_;by_cases hc:dF a;.rw[decide_eq_true hc];exact h1 _ H hc
  .rw[decide_eq_false hc];exact h2 _ H λh=>hc ((wa e).2 (by unfold Ex.ok at h;simp only[h,and_self]) _ ha)
 repeat'(first|exact wp_ret (fin _ am (Cx.du be))|exact wp_ret (bad _ be (Cx.du be))|exact wp_ret ⟨rfl,(congrArg B (decide_eq_true (by unfold Ex.ok;exact⟨Zf,am,am,am,am,am,am,am,am,am,am,am,be,be,be,be,be,be,be,be,be,be⟩))).symm,Cx.du be⟩|(first|refine cN ?_|refine eZ rfl ?_|refine fQ ?_|refine dM ?_|refine dm rfl ?_|refine dN ?_|refine dO ?_|refine dP ?_|refine dx ?_|refine fo ?_|refine ah (o:=.mv _) rfl ?_|refine ah (o:=.pick _ _ _) rfl ?_|refine ah (o:=.extract _ _) rfl ?_)|refine kV ?_|refine kW ?_|refine i7 be Mm rfl ?_|refine Hr (by simp[Ex.v_]) be (λ_ _ _=>?_) (λ_ _ _=>?_)|refine gI (λ_=>?_) (λ_=>?_)|refine jT (λ_=>?_) (λ_=>?_)|refine iz (λ_=>?_) (λ_=>?_))
end
end
section
open dA (Tk gK oZ)
structure Su where
 ad:Int
 Fk:Int
 nodes:Int
 zg:Int
 room:Int
 D1:Int
def Su.cs (s:Su)(v:AV):List AV:=[I s.ad,I s.Fk,I s.nodes,I s.zg,I s.room,I s.D1,v]
def Su.TR (s:Su):Prop:=1<=s.ad/\s.ad<=64/\1<=s.Fk/\s.Fk<=64/\s.Fk+1<=s.nodes/\s.nodes<=128/\1<=s.zg/\s.zg<=4/\1<=s.room/\s.room<=16/\1<=s.D1/\s.D1<=4294967295
instance ach (s:Su):Decidable s.TR:=inferInstanceAs (Decidable (_/\_))
def Su.rN (s:Su)(l:List Tk):Int:=if s.TR then(if oZ l≠0 then oZ l else if l.length=0 then 2 else 0) else 3
def Su.bd (s:Su):List (Int×Int×Int):=[(s.ad,1,64),(s.Fk,1,64),(s.nodes,min s.Fk 64+1,128),(s.zg,1,4),(s.room,1,16),(s.D1,1,4294967295)]
theorem Pg (a b:Int):oD true (I a) (I b)=some (I (max a b)):=by
 show some (AV.sc (.int .i64 (if Eh a b then b else a)))=_;rw[gj];by_cases h:a<b;.rw[decide_eq_true h,Int.max_eq_right am];rfl
 .rw[decide_eq_false h,Int.max_eq_left am];rfl
section
variable{M:cP}{B0 S:AH}{W:List Nat}{own:List Own}{ro:List aI}{Q:gG}{k:AV->AC}{kc:AC}
theorem K0 {a b:Int}(h:wp M (k (I (max a b))) S Q):wp M (.op (.nt true [I a,I b]) k) S Q:=ah (v:=I (max a b)) (by
 show eU (oD true (I a) (I b)>>=λx=>some x) S=_;rw[Pg];rfl) h
end
theorem _root_.Go.cG.Cx.K1 {B0 S W own ro}(H:Cx B0 W S own ro)(es:Nat):Cx B0 W S (.sl Ns es []::own) ro:=H.jR (bn.refl S) (.inl ⟨rfl,rfl⟩) (λid bT=>by simp[Own.ids,eR] at bT)
section
variable{B0 S:AH}{W:List Nat}{own:List Own}{ro:List aI}{Q:gG}{k:AV->AC}
end
section
variable{B0 S:AH}{W:List Nat}{own:List Own}{ro:List aI}{Q:gG}{k:AV->AC}
end
end
end Go.cG.X
