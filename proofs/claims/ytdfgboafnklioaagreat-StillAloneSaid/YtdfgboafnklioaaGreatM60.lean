/- Contracts of functions, over the abstract machine. Conditions: stated in each theorem. -/
import Derived.Test.YtdfgboafnklioaaGreatM0
set_option linter.all false
set_option maxRecDepth 100000
set_option maxHeartbeats 4000000
namespace Go.cY.X
open Go.Proofs
section
section
variable{M:ef}{B0 S:AH}{W:List Nat}{own:List Own}{ro:List aQ}{Q:hX}{k:AV→AC}{kc:AC}
theorem f_ (H:Cx B0 W S own ro){id o:Nat}{cs v}(hm:aQ.pt id 0 cs∈ro)(hj:cs[o]?=some v)(h:wp M (k v) S Q):wp M (.op (.load 1 false (.ptr id o)) k) S Q:=by
 have:=pE (M:=M) (k:=k) (off:=0) (j:=o) H hm hj h
 rwa[show Nat.add 0 o=o from Nat.zero_add o] at this
theorem ku (H:Cx B0 W S own ro){id o n:Nat}{cs}(hm:aQ.pt id 0 cs∈ro)(hj:Nat.ble (o+n) cs.length=true)(h:wp M (k (.agg ((cs.drop o).take n))) S Q):wp M (.op (.load n true (.ptr id o)) k) S Q:=by
 have:=pF (M:=M) (k:=k) (off:=0) (j:=o) H hm (Nat.le_of_ble_eq_true hj) h
 rwa[show Nat.add 0 o=o from Nat.zero_add o] at this
theorem qe (H:Cx B0 W S own ro){z}{n:Nat}{v}(ho:ep v=false)(hz:z.length=n)(hn:v.cells.length=n)(h:∀id S1,Cx B0 W S1 own (.pt id 0 v.cells::ro)→wp M (k (.ptr id 0)) S1 Q):
  wp M (.op (.alloc z) fun p=>.op (.store n p v) fun _=>k p) S Q:=by
 refine gr H fun id S1 H1=>?_
 refine fI H1 0 (c:=z) rfl ho hn (by omega) fun S2 H2=>?_
 have e:aL z 0 v.cells=v.cells:=by
  rw[bD,List.take_zero,lB,Nat.zero_add,List.drop_eq_nil_of_le (by omega),List.append_nil]
 have H2:Cx B0 W S2 (.obj id (.row (aL z 0 v.cells))::own) ro:=H2
 rw[e] at H2
 exact h id S2 (H2.freeze (i:=0) rfl)
theorem jT (h:wp M (k (B false)) S Q):wp M (.op (.un .not (B true)) k) S Q:=ae (v:=B false) rfl h
theorem jU (h:wp M (k (B true)) S Q):wp M (.op (.un .not (B false)) k) S Q:=ae (v:=B true) rfl h
end
structure To where
 nd:Int
 hd:Int
 ht:Int
 Iv:Int
 xP:Int
 qg:Int
 ju:Int
 pK:Int
 DN:Int
 Sx:Int
 pins:Int
 ah:Int
 tN:Int
def To.cs (t:To):List AV:=[I t.nd,I t.hd,I t.ht,I t.Iv,I t.xP,I t.qg,I t.ju,I t.pK,I t.DN,I t.Sx,I t.pins,I t.ah,I t.tN]
def To.ok (t:To):Prop:=1≤t.ht∧t.ht≤4∧1≤t.qg∧t.qg≤128∧0≤t.nd∧t.nd<4096∧0≤t.hd∧t.hd<4096
instance aaa (t:To):Decidable t.ok:=inferInstanceAs (Decidable (_∧_))
theorem zw {S:AH}{t:To}:aO EM (zF 133) [.agg t.cs] S fun r S'=>r=B (decide t.ok)∧aY S S':=by
 refine bg (b:=Tryz.a133) rfl rfl ?_
 have H:Cx S [] S [] []:=Cx.enter (by simp)
 rw[Tryz.u133];unfold To.ok
 repeat'(first|(first|refine dS ?_|refine dG rfl ?_|refine dT ?_|refine cw ?_|refine cj rfl ?_|refine cy ?_|refine cD ?_|refine cE ?_|refine dh ?_|refine dC ?_|refine ae (o:=.mv _) rfl ?_|refine ae (o:=.pick _ _ _) rfl ?_|refine ae (o:=.extract _ _) rfl ?_)|refine wp_bind ?_|refine fU (by assumption) rfl fun _ _ _=>?_|refine qe (by assumption) rfl rfl rfl fun _ _ _=>?_|refine f_ (by assumption) Mm rfl ?_|refine ku (by assumption) Mm rfl ?_|refine jT ?_|refine jU ?_|(refine wp_ret ?_;show wp EM _ _ _)|refine fE (fun _=>?_) (fun _=>?_)|refine iw (fun _=>?_) (fun _=>?_)|refine mS (fun _=>?_) (fun _=>?_)|refine jb (fun _=>?_) (fun _=>?_)|refine kf (fun _=>?_) (fun _=>?_)|refine fT (fun _=>?_) (fun _=>?_)|refine cg (by omega) (by omega) ?_|refine kM (by omega) (by omega) ?_)
 all_goals(first|exact wp_ret ⟨rfl,(congrArg B (decide_eq_true (by omega))).symm,Cx.cr (by assumption)⟩|exact wp_ret ⟨rfl,(congrArg B (decide_eq_false (by omega))).symm,Cx.cr (by assumption)⟩)
theorem ue {S:AH}{t:To}:aO EM (zF 63) [.agg t.cs] S fun r S'=>r=B (decide t.ok)∧aY S S':=by
 refine bg (b:=Tryz.a63) rfl rfl ?_
 have H:Cx S [] S [] []:=Cx.enter (by simp)
 rw[Tryz.u63];unfold To.ok
 repeat'(first|(first|refine dS ?_|refine dG rfl ?_|refine dT ?_|refine cw ?_|refine cj rfl ?_|refine cy ?_|refine cD ?_|refine cE ?_|refine dh ?_|refine dC ?_|refine ae (o:=.mv _) rfl ?_|refine ae (o:=.pick _ _ _) rfl ?_|refine ae (o:=.extract _ _) rfl ?_)|refine wp_bind ?_|refine fU (by assumption) rfl fun _ _ _=>?_|refine qe (by assumption) rfl rfl rfl fun _ _ _=>?_|refine f_ (by assumption) Mm rfl ?_|refine ku (by assumption) Mm rfl ?_|refine jT ?_|refine jU ?_|(refine wp_ret ?_;show wp EM _ _ _)|refine fE (fun _=>?_) (fun _=>?_)|refine iw (fun _=>?_) (fun _=>?_)|refine mS (fun _=>?_) (fun _=>?_)|refine jb (fun _=>?_) (fun _=>?_)|refine kf (fun _=>?_) (fun _=>?_)|refine fT (fun _=>?_) (fun _=>?_)|refine cg (by omega) (by omega) ?_|refine kM (by omega) (by omega) ?_)
 all_goals(first|exact wp_ret ⟨rfl,(congrArg B (decide_eq_true (by omega))).symm,Cx.cr (by assumption)⟩|exact wp_ret ⟨rfl,(congrArg B (decide_eq_false (by omega))).symm,Cx.cr (by assumption)⟩)
def dq (a:Int):Prop:=0≤a∧a<4096
instance aab (a:Int):Decidable (dq a):=inferInstanceAs (Decidable (_∧_))
theorem xq {S}{a:Int}:aO EM (zF 65) [I a] S fun r S'=>r=B (decide (dq a))∧aY S S':=by
 refine bg (b:=Tryz.a65) rfl rfl ?_
 have H:Cx S [] S [] []:=Cx.enter (by simp)
 rw[Tryz.u65];unfold dq
 repeat'(first|(first|refine dS ?_|refine dG rfl ?_|refine dT ?_|refine cw ?_|refine cj rfl ?_|refine cy ?_|refine cD ?_|refine cE ?_|refine dh ?_|refine dC ?_|refine ae (o:=.mv _) rfl ?_|refine ae (o:=.pick _ _ _) rfl ?_|refine ae (o:=.extract _ _) rfl ?_)|refine wp_bind ?_|refine fU (by assumption) rfl fun _ _ _=>?_|refine qe (by assumption) rfl rfl rfl fun _ _ _=>?_|refine f_ (by assumption) Mm rfl ?_|refine ku (by assumption) Mm rfl ?_|refine jT ?_|refine jU ?_|(refine wp_ret ?_;show wp EM _ _ _)|refine fE (fun _=>?_) (fun _=>?_)|refine iw (fun _=>?_) (fun _=>?_)|refine mS (fun _=>?_) (fun _=>?_)|refine jb (fun _=>?_) (fun _=>?_)|refine kf (fun _=>?_) (fun _=>?_)|refine fT (fun _=>?_) (fun _=>?_)|refine cg (by omega) (by omega) ?_|refine kM (by omega) (by omega) ?_)
 all_goals(first|exact wp_ret ⟨rfl,(congrArg B (decide_eq_true (by omega))).symm,Cx.cr (by assumption)⟩|exact wp_ret ⟨rfl,(congrArg B (decide_eq_false (by omega))).symm,Cx.cr (by assumption)⟩)
theorem xQ {S}{h:Int}(h0:0≤h)(h1:h≤4):aO EM (zF 137) [I h] S fun r S'=>r=I (4+h)∧aY S S':=by
 refine bg (b:=Tryz.a137) rfl rfl ?_
 rw[Tryz.u137]
 exact cg (by omega) (by omega) (wp_ret ⟨rfl,rfl,aY.refl _⟩)
theorem GC {S:AH}{t:To}:aO EM (zF 136) [.agg t.cs] S fun r S'=>r=.agg [I t.nd,I t.qg,I t.ht]∧aY S S':=by
 refine bg (b:=Tryz.a136) rfl rfl ?_
 have H:Cx S [] S [] []:=Cx.enter (by simp)
 rw[Tryz.u136]
 refine xg ?_
 refine fU H rfl fun p S1 H=>?_
 refine gr H fun q S2 H=>?_
 repeat'(first|(first|refine dS ?_|refine dG rfl ?_|refine dT ?_|refine cw ?_|refine cj rfl ?_|refine cy ?_|refine cD ?_|refine cE ?_|refine dh ?_|refine dC ?_|refine ae (o:=.mv _) rfl ?_|refine ae (o:=.pick _ _ _) rfl ?_|refine ae (o:=.extract _ _) rfl ?_)|refine wp_bind ?_|refine fU (by assumption) rfl fun _ _ _=>?_|refine qe (by assumption) rfl rfl rfl fun _ _ _=>?_|refine f_ (by assumption) Mm rfl ?_|refine ku (by assumption) Mm rfl ?_|refine jT ?_|refine jU ?_|(refine wp_ret ?_;show wp EM _ _ _)|refine fE (fun _=>?_) (fun _=>?_)|refine iw (fun _=>?_) (fun _=>?_)|refine mS (fun _=>?_) (fun _=>?_)|refine jb (fun _=>?_) (fun _=>?_)|refine kf (fun _=>?_) (fun _=>?_)|refine fT (fun _=>?_) (fun _=>?_)|refine cg (by omega) (by omega) ?_|refine kM (by omega) (by omega) ?_)
 refine ae (v:=.agg [I t.nd,I t.qg,I t.ht]) rfl ?_
 refine fI H 0 (c:=[I 0,I 0,I 0]) rfl rfl rfl (by simp) fun S3 H=>?_
 refine wp_ret ⟨.inr rfl,?_⟩
 have H:Cx S [] S3 [.obj q (.row [I t.nd,I t.qg,I t.ht])] [.pt p 0 t.cs]:=H
 refine gN (n:=3) H 0 rfl (by simp) ?_
 exact wp_ret ⟨rfl,rfl,H.cr⟩
end
end Go.cY.X
namespace Go.cY.dW
open Go.Proofs
section
structure Tk where
 kind:Int
 prio:Int
 every:Int
 first:Int
def Tk.cs (x:Tk):List AV:=[I x.kind,I x.prio,I x.every,I x.first]
def eK (l:List Tk):List (List AV):=l.map Tk.cs
theorem en (l:List Tk):(eK l).length=l.length:=List.length_map ..
theorem Cn {l}{i:Nat}(hi:i<l.length):(eK l)[i]?=some (l[i].cs):=by simp[eK,hi]
def vA (x:Tk):Int:=if x.kind≠1∧x.kind≠2 then 5 else
 if x.prio<0∨254<x.prio∨x.every<0∨(x.kind=1∧x.every<1)∨1099511627776<x.every∨x.first<0∨1099511627776<x.first∨(x.kind=2∧x.first≠0) then 3 else 0
set_option maxHeartbeats 4000000 in
theorem Mj {S:AH}{x:Tk}:aO EM (zF 152) [.agg x.cs] S fun r S'=>r=I (vA x)∧aY S S':=by
 refine bg (b:=Tryz.a152) rfl rfl ?_
 have H:Cx S [] S [] []:=Cx.enter (by simp)
 rw[Tryz.u152]
 refine fU H rfl fun b S1 H=>?_
 (repeat'(first|(first|refine dS ?_|refine dG rfl ?_|refine dT ?_|refine cw ?_|refine cj rfl ?_|refine cy ?_|refine cD ?_|refine cE ?_|refine dh ?_|refine dC ?_|refine ae (o:=.mv _) rfl ?_|refine ae (o:=.pick _ _ _) rfl ?_|refine ae (o:=.extract _ _) rfl ?_)|refine wp_bind ?_|refine pE H Mm rfl ?_|(refine wp_ret ?_;show wp EM _ _ _)|refine fE (fun _=>?_) (fun _=>?_)|refine iw (fun _=>?_) (fun _=>?_)|refine mS (fun _=>?_) (fun _=>?_)|refine jb (fun _=>?_) (fun _=>?_)|refine kf (fun _=>?_) (fun _=>?_)|refine fT (fun _=>?_) (fun _=>?_)))
 all_goals first
  |exact wp_ret ⟨rfl,congrArg I (by unfold vA;split<;>(try split)<;>omega),H.cr⟩
set_option maxHeartbeats 4000000 in
theorem Dn {S:AH}{x:Tk}:aO EM (zF 153) [.agg x.cs] S fun r S'=>r=I (vA x)∧aY S S':=by
 refine bg (b:=Tryz.a153) rfl rfl ?_
 have H:Cx S [] S [] []:=Cx.enter (by simp)
 rw[Tryz.u153]
 refine fU H rfl fun b S1 H=>?_
 (repeat'(first|(first|refine dS ?_|refine dG rfl ?_|refine dT ?_|refine cw ?_|refine cj rfl ?_|refine cy ?_|refine cD ?_|refine cE ?_|refine dh ?_|refine dC ?_|refine ae (o:=.mv _) rfl ?_|refine ae (o:=.pick _ _ _) rfl ?_|refine ae (o:=.extract _ _) rfl ?_)|refine wp_bind ?_|refine pE H Mm rfl ?_|(refine wp_ret ?_;show wp EM _ _ _)|refine fE (fun _=>?_) (fun _=>?_)|refine iw (fun _=>?_) (fun _=>?_)|refine mS (fun _=>?_) (fun _=>?_)|refine jb (fun _=>?_) (fun _=>?_)|refine kf (fun _=>?_) (fun _=>?_)|refine fT (fun _=>?_) (fun _=>?_)))
 all_goals first
  |exact wp_ret ⟨rfl,congrArg I (by unfold vA;split<;>(try split)<;>omega),H.cr⟩
end
section
def jk:List Tk→Int
 |[]=>0
 |x::l=>if vA x=0 then jk l else vA x
def ni (l:List Tk):Int:=if 32<l.length then 4 else jk l
theorem rI {l:List Tk}{i:Nat}(hi:i<l.length):jk (l.drop i)=if vA l[i]=0 then jk (l.drop (i+1)) else vA l[i]:=by
 rw[List.drop_eq_getElem_cons hi];rfl
theorem GD {S:AH}{v:AV}{l:List Tk}(hv:mW S v 4 (eK l)):aO EM (zF 62) [v] S fun r S'=>r=I (ni l)∧aY S S':=by
 refine bg (b:=Tryz.a62) rfl rfl ?_
 have H:=Cx.Nj hv
 rw[Tryz.u62]
 refine gO H Mm ?_
 rw[en]
 unfold ni
 refine iw (fun dN=>?_) (fun G2=>?_)
 ·(try(refine zz ?_;(repeat constructor);intro _))
  refine wp_ret ⟨rfl,?_,H.cr⟩
  rw[if_pos (by omega)];rfl
 ·rw[if_neg (by omega)]
  (try(refine zz ?_;(repeat constructor);intro _))
  refine gO H Mm ?_
  rw[en]
  refine wp_bind (wp_loop (xk l.length (fun i vs S1=>∃u:AV,vs=[I (i:Int),u]∧jk (l.drop i)=jk l∧Cx S [] S1 [] [.sl v 4 (eK l)]) ?_ ?_ ⟨_,rfl,rfl,H⟩))
  ·rintro i vs S1 dN ⟨u,rfl,hc,H⟩
   rw[rI dN] at hc
   refine mR (by omega) ?_
   (try(refine zz ?_;(repeat constructor);intro _))
   refine wp_bind ?_
   refine mU (i:=i) H Mm (Cn dN) fun p off H=>?_
   refine tH H (cs:=l[i].cs) Mm (Nat.le_of_ble_eq_true rfl) ?_
   refine gr H fun b S3 H=>?_
   refine fI H 0 rfl rfl rfl (Nat.le_of_ble_eq_true rfl) fun S4 H=>?_
   replace H:Cx S [] S4 [] [.pt b 0 l[i].cs,.pt p off l[i].cs,.sl v 4 (eK l)]:=H.freeze (i:=0) (c:=l[i].cs) rfl
   refine tH H (cs:=l[i].cs) Mm (Nat.le_of_ble_eq_true rfl) ?_
   refine dH H Mj fun S5 H=>?_
   refine fT (fun fQ=>?_) (fun he=>?_)
   ·rw[if_neg fQ] at hc
    (try(refine zz ?_;(repeat constructor);intro _))
    exact wp_ret (.inr ⟨by simp,rfl,by rw[←hc];rfl,H.cr⟩)
   ·rw[if_pos he] at hc
    (try(refine zz ?_;(repeat constructor);intro _))
    refine wp_ret ?_
    show wp EM _ _ _
    exact cg (by omega) (by omega) (wp_ret (.inl ⟨rfl,_,rfl,hc,H.tl.tl⟩))
  ·rintro vs S1 ⟨u,rfl,hc,H⟩
   refine ja (by omega) ?_
   (try(refine zz ?_;(repeat constructor);intro _))
   refine wp_ret ⟨by simp,wp_ret ⟨rfl,?_,H.cr⟩⟩
   rw[List.drop_length] at hc
   rw[←hc];rfl
theorem rJ {S:AH}{v:AV}{l:List Tk}(hv:mW S v 4 (eK l)):aO EM (zF 64) [v] S fun r S'=>r=I (ni l)∧aY S S':=by
 refine bg (b:=Tryz.a64) rfl rfl ?_
 have H:=Cx.Nj hv
 rw[Tryz.u64]
 refine gO H Mm ?_
 rw[en]
 unfold ni
 refine iw (fun dN=>?_) (fun G2=>?_)
 ·(try(refine zz ?_;(repeat constructor);intro _))
  refine wp_ret ⟨rfl,?_,H.cr⟩
  rw[if_pos (by omega)];rfl
 ·rw[if_neg (by omega)]
  (try(refine zz ?_;(repeat constructor);intro _))
  refine wp_bind (wp_loop (xk l.length (fun i vs S1=>∃u:AV,vs=[I (i:Int),u]∧jk (l.drop i)=jk l∧Cx S [] S1 [] [.sl v 4 (eK l)]) ?_ ?_ ⟨_,rfl,rfl,H⟩))
  ·rintro i vs S1 dN ⟨u,rfl,hc,H⟩
   rw[rI dN] at hc
   refine gO H Mm ?_
   rw[en]
   refine mR (by omega) ?_
   (try(refine zz ?_;(repeat constructor);intro _))
   refine wp_bind ?_
   refine mU (i:=i) H Mm (Cn dN) fun p off H=>?_
   refine tH H (cs:=l[i].cs) Mm (Nat.le_of_ble_eq_true rfl) ?_
   refine dH H Dn fun S5 H=>?_
   refine fT (fun fQ=>?_) (fun he=>?_)
   ·rw[if_neg fQ] at hc
    (try(refine zz ?_;(repeat constructor);intro _))
    exact wp_ret (.inr ⟨by simp,rfl,by rw[←hc];rfl,H.cr⟩)
   ·rw[if_pos he] at hc
    (try(refine zz ?_;(repeat constructor);intro _))
    refine wp_ret ?_
    show wp EM _ _ _
    exact cg (by omega) (by omega) (wp_ret (.inl ⟨rfl,_,rfl,hc,H.tl⟩))
  ·rintro vs S1 ⟨u,rfl,hc,H⟩
   refine gO H Mm ?_
   rw[en]
   refine ja (by omega) ?_
   (try(refine zz ?_;(repeat constructor);intro _))
   refine wp_ret ⟨by simp,wp_ret ⟨rfl,?_,H.cr⟩⟩
   rw[List.drop_length] at hc
   rw[←hc];rfl
def cl (f e:Int):AV:=.agg [I f,I e]
def many (f e:Int):Int:=(1099511627776-f)/e+1
def num (f e now:Int):Int:=if now≤f then 0 else(now-f)/e+(if(now-f)%e=0 then 0 else 1)
end
end Go.cY.dW
namespace Go.cY.X
open Go.Proofs
section
open dW (Tk eK ni)
section
variable{M:ef}{B0 S:AH}{W:List Nat}{own:List Own}{ro:List aQ}{Q:hX}{k:AV→AC}{kc:AC}
theorem zx {a b:Int}(h1:-9223372036854775808≤a*b)(h2:a*b≤9223372036854775807)(h:wp M (k (I (a*b))) S Q):wp M (.op (.bin .mul (I a) (I b)) k) S Q:=E7 (wrap64 h1 h2) h
theorem GF (H:Cx B0 W S own ro){id o:Nat}{cs v}(hm:aQ.pt id 0 cs∈ro)(hj:cs[o]?=some v)(hb:AV.beq v v=true)(h:wp M kc S Q):wp M (.kA (.load 1 false (.ptr id o)) v kc) S Q:=by
 have:=HR (M:=M) (k:=kc) (off:=0) (j:=o) H hm hj hb h
 rwa[show Nat.add 0 o=o from Nat.zero_add o] at this
theorem Iw (H:Cx B0 W S own ro){n:Nat}{ps}(l:List Int)(he:fx (bH [I 0] n) ps=some (l.map fun a=>I a))(hn:l.length=n)
  (h:∀v S1,Cx B0 W S1 own (.sl v 1 (ints l)::ro)→wp M (k v) S1 Q):wp M (.op (.kU 1 n [I 0] ps) k) S Q:=by
 refine ae (v:=.sl S.next 0 n n) (S1:=S.new (.row (l.map fun a=>I a))) ?_ (h _ _ (H.yM (aY.new S _) (φ:=.sl (.sl S.next 0 n n) 1 (ints l)) ?_ ?_))
 ·show gg 1 n [I 0] ps S=_
  unfold gg
  rw[he]
  have e:(Nat.beq (bI (l.map fun a=>I a)) (Nat.mul n 1)&&Nat.beq (bI [I 0]) 1)=true:=by
   rw[aZ,List.length_map,hn,show Nat.mul n 1=n from Nat.mul_one n,Nat.beq_refl];rfl
  simp only[e]
  rfl
 ·refine .inr ⟨S.next,0,l.map fun a=>I a,.inl ⟨n,by rw[pG];omega,by simp[hn],by rw[pG,hn]⟩,dB (bN _ _),?_,?_⟩
  ·rw[pG,List.drop_zero,List.take_of_length_le (by simp)]
   unfold ints
   clear he hn h
   induction l with
   |nil=>rfl
   |cons a r ih=>simp only[List.map_cons,List.flatten_cons,ih];rfl
  ·intro x hx
   obtain⟨a,_,rfl⟩:=List.mem_map.1 hx
   rfl
 ·intro id bS
  simp only[aQ.ids,eg,List.mem_singleton] at bS
  subst bS
  exact⟨Nat.le_refl _,by simp[AH.new]⟩
end
theorem A6 {a b A C:Int}(h1:0≤a)(h2:a≤A)(h3:0≤b)(h4:b≤C):0≤a*b∧a*b≤A*C:=
 ⟨Int.mul_nonneg h1 h3,Int.mul_le_mul h2 h4 h3 (by omega)⟩
theorem GG {v}:methodOf EM.P 219 v "coxswain/tower.cells"=some (137,v):=by kernel_rfl
def VV (a n h i p:Int):Int:=if i<0∨n≤i∨p<0∨4+h≤p then-1 else a+i*(4+h)+p
theorem Dp {S}{a n h i p:Int}(h0:0≤h)(h1:h≤4)(ha:0≤a)(ha2:a<4096)(hn:n≤128):aO EM (zF 149) [.agg [I a,I n,I h],I i,I p] S fun r S'=>r=I (VV a n h i p)∧aY S S':=by
 refine bg (b:=Tryz.a149) rfl rfl ?_
 have H:Cx S [] S [] []:=Cx.enter (by simp)
 rw[Tryz.u149];unfold VV
 repeat'(first|(first|(first|refine dS ?_|refine dG rfl ?_|refine dT ?_|refine cw ?_|refine cj rfl ?_|refine cy ?_|refine cD ?_|refine cE ?_|refine dh ?_|refine dC ?_|refine ae (o:=.mv _) rfl ?_|refine ae (o:=.pick _ _ _) rfl ?_|refine ae (o:=.extract _ _) rfl ?_)|refine wp_bind ?_|refine fU (by assumption) rfl fun _ _ _=>?_|refine qe (by assumption) rfl rfl rfl fun _ _ _=>?_|refine f_ (by assumption) Mm rfl ?_|refine ku (by assumption) Mm rfl ?_|refine jT ?_|refine jU ?_|(refine wp_ret ?_;show wp EM _ _ _)|refine fE (fun _=>?_) (fun _=>?_)|refine iw (fun _=>?_) (fun _=>?_)|refine mS (fun _=>?_) (fun _=>?_)|refine jb (fun _=>?_) (fun _=>?_)|refine kf (fun _=>?_) (fun _=>?_)|refine fT (fun _=>?_) (fun _=>?_)|refine cg (by omega) (by omega) ?_|refine kM (by omega) (by omega) ?_)|refine dH (by assumption) (i_ GG (xQ h0 h1)) fun _ _=>?_|refine GF (by assumption) Mm rfl su ?_)
 all_goals try(first|exact wp_ret ⟨rfl,by first|rw[if_pos (by omega)];rfl|rw[if_neg (by omega)];rfl,Cx.cr (by assumption)⟩)
 have hm:=A6 (a:=i) (b:=4+h) (A:=128) (C:=8) (by omega) (by omega) (by omega) (by omega)
 refine zx (by omega) (by omega) ?_
 refine cg (by omega) (by omega) ?_
 refine cg (by omega) (by omega) ?_
 exact wp_ret ⟨rfl,by rw[if_neg (by omega)];rfl,Cx.cr (by assumption)⟩
theorem Mk {S:AH}{t:To}:aO EM (zF 61) [.agg t.cs,I 0,I 0] S fun r S'=>r=I (if t.ok then t.nd else-1)∧aY S S':=by
 refine bg (b:=Tryz.a61) rfl rfl ?_
 have H:Cx S [] S [] []:=Cx.enter (by simp)
 rw[Tryz.u61]
 refine fU H rfl fun p S1 H=>?_
 refine wp_bind ?_
 refine ku H Mm rfl ?_
 refine dH H (zw (t:=t)) fun S2 H=>?_
 by_cases ht:t.ok
 ·rw[decide_eq_true ht,if_pos ht]
  have h0:=ht
  unfold To.ok at ht
  refine jT ?_
  (try(refine zz ?_;(repeat constructor);intro _))
  refine tF (by omega) ?_
  (try(refine zz ?_;(repeat constructor);intro _))
  refine ku H Mm rfl ?_
  refine dH H (GC (t:=t)) fun S3 H=>?_
  refine dH H (Dp (by omega) (by omega) (by omega) (by omega) (by omega)) fun S4 H=>?_
  refine wp_ret ⟨rfl,?_,H.cr⟩
  unfold VV
  rw[if_neg (by omega)]
  have:t.nd+0*(4+t.ht)+0=t.nd:=by omega
  rw[this];rfl
 ·rw[decide_eq_false ht,if_neg ht]
  refine jU ?_
  (try(refine zz ?_;(repeat constructor);intro _))
  exact wp_ret ⟨rfl,rfl,H.cr⟩
structure Ex where
 t:To
 qP:Int
 wy:Int
 ND:Int
 wz:Int
 Dq:Int
 qQ:Int
 qh:Int
 qR:Int
 aH:Int
 qi:Int
 wA:Int
 qS:Int
 qT:Int
 own:Int
 seq:Int
def Ex.cs (e:Ex)(v:AV):List AV:=[I e.t.nd,I e.t.hd,I e.t.ht,I e.t.Iv,I e.t.xP,I e.t.qg,I e.t.ju,I e.t.pK,I e.t.DN,I e.t.Sx,I e.t.pins,I e.t.ah,I e.t.tN,
 I e.qP,I e.wy,I e.ND,I e.wz,I e.Dq,I e.qQ,I e.qh,I e.qR,I e.aH,I e.qi,I e.wA,I e.qS,I e.qT,I e.own,I e.seq,v]
def Ex.ok (e:Ex)(l:List Tk):Prop:=e.t.ok∧ni l=0∧0<l.length∧e.wy=l.length∧1≤e.t.ah∧e.t.ah≤64∧e.aH=e.t.ah∧e.qT=e.t.ah∧1≤e.qh∧e.qh≤64∧1≤e.qi∧e.qi≤16∧
 dq e.qP∧dq e.ND∧dq e.wz∧dq e.Dq∧dq e.qQ∧dq e.qR∧dq e.wA∧dq e.qS∧dq e.own∧dq e.seq
instance aac (e:Ex)(l:List Tk):Decidable (e.ok l):=inferInstanceAs (Decidable (_∧_))
def Ex.uf (e:Ex):List Int:=[e.qP,e.ND,e.wz,e.Dq,e.qQ,e.qR,e.wA,e.qS,e.own,e.seq]
theorem ug (e:Ex):(∀a∈e.uf,dq a)↔(dq e.qP∧dq e.ND∧dq e.wz∧dq e.Dq∧dq e.qQ∧dq e.qR∧dq e.wA∧dq e.qS∧dq e.own∧dq e.seq):=by
 simp[Ex.uf]
section
variable{B0 S:AH}{W:List Nat}{own:List Own}{ro:List aQ}{Q:hX}{k:AV→AC}
theorem dt {S v}{es:Nat}{L}(h:gq S v es L):ep v=false∧v.cells=[v]:=by
 rcases h with⟨rfl,_⟩|⟨id,off,c,(⟨_,_,_,rfl⟩|⟨_,_,_,rfl⟩),_⟩<;>exact⟨rfl,rfl⟩
set_option maxHeartbeats 4000000 in
theorem wB {v:AV}{e:Ex}{l:List Tk}(hv:aQ.sl v 4 (eK l)∈ro)(H:Cx B0 W S own ro):aO EM (zF 9) [.agg (e.cs v)] S fun r S'=>r=B (decide (e.ok l))∧aY S S':=by
 refine bg (b:=Tryz.a9) rfl rfl ?_
 have Nn:mW S v 4 (eK l):=H.iy hv
 clear H
 have H:=Cx.Nj Nn
 have hT:=fun{S1:AH} {own:List Own} {ro:List aQ} (H:Cx S [] S1 own ro) (hm:aQ.sl v 4 (eK l)∈ro)=>dW.GD (l:=l) (H.iy hm)
 rw[Tryz.u9]
 have bad:∀(S1:AH),¬e.ok l→aY S S1→(Tag.ret=Tag.ret∧oneOf [B false]=B (decide (e.ok l))∧aY S S1):=fun S1 hn hg=>⟨rfl,by rw[decide_eq_false hn];rfl,hg⟩
 refine fU H rfl fun p S1 H=>?_
 (try(refine zz ?_;(repeat constructor);intro _))
 refine f_ H Mm rfl ?_
 (try(refine zz ?_;(repeat constructor);intro _))
 refine ku H Mm rfl ?_
 refine dH H (Mk (t:=e.t)) fun S2 H=>?_
 by_cases ht:e.t.ok
 rotate_left
 ·rw[if_neg ht]
  refine mR (by omega) ?_
  (try(refine zz ?_;(repeat constructor);intro _))
  exact wp_ret (bad _ (fun h=>ht h.1) H.cr)
 rw[if_pos ht]
 have VW:=ht
 unfold To.ok at ht
 refine ja (by omega) ?_
 (try(refine zz ?_;(repeat constructor);intro _))
 refine f_ H Mm rfl ?_
 (try(refine zz ?_;(repeat constructor);intro _))
 refine dH H (hT H Mm) fun S3 H=>?_
 (try(refine zz ?_;(repeat constructor);intro _))
 refine fT (fun fQ=>?_) (fun hz=>?_)
 ·(try(refine zz ?_;(repeat constructor);intro _))
  exact wp_ret (bad _ (fun h=>fQ h.2.1) H.cr)
 (try(refine zz ?_;(repeat constructor);intro _))
 refine f_ H Mm rfl ?_
 (try(refine zz ?_;(repeat constructor);intro _))
 refine gO H Mm ?_
 rw[dW.en]
 (try(refine zz ?_;(repeat constructor);intro _))
 refine kf (fun h0=>?_) (fun QC=>?_)
 ·(try(refine zz ?_;(repeat constructor);intro _))
  exact wp_ret (bad _ (fun h=>by have:=h.2.2.1;omega) H.cr)
 (try(refine zz ?_;(repeat constructor);intro _))
 refine f_ H Mm rfl ?_
 (try(refine zz ?_;(repeat constructor);intro _))
 refine f_ H Mm rfl ?_
 (try(refine zz ?_;(repeat constructor);intro _))
 refine gO H Mm ?_
 rw[dW.en]
 have fin:∀(S1:AH),¬(e.wy=l.length∧1≤e.t.ah∧e.t.ah≤64∧e.aH=e.t.ah∧e.qT=e.t.ah∧1≤e.qh∧e.qh≤64∧1≤e.qi∧e.qi≤16)→aY S S1→(Tag.ret=Tag.ret∧oneOf [B false]=B (decide (e.ok l))∧aY S S1):=
  fun S1 hn hg=>bad S1 (fun h=>hn (by unfold Ex.ok at h;omega)) hg
 repeat'(first|exact wp_ret (fin _ (by omega) (Cx.cr (by assumption)))|(refine Iw (by assumption) e.uf rfl rfl fun vl S4 H=>?_)|(first|refine dS ?_|refine dG rfl ?_|refine dT ?_|refine cw ?_|refine cj rfl ?_|refine cy ?_|refine cD ?_|refine cE ?_|refine dh ?_|refine dC ?_|refine ae (o:=.mv _) rfl ?_|refine ae (o:=.pick _ _ _) rfl ?_|refine ae (o:=.extract _ _) rfl ?_)|refine f_ (by assumption) Mm rfl ?_|refine fE (fun _=>?_) (fun _=>?_)|refine iw (fun _=>?_) (fun _=>?_)|refine fT (fun _=>?_) (fun _=>?_))
 refine gO H Mm ?_
 rw[pG]
 refine wp_bind (wp_loop (BQ (fun m vs S1=>∃(i:Nat),vs=[I (i:Int),B false]∧i≤10∧m=10-i∧(∀a∈e.uf.take i,dq a)∧Cx S [] S1 [] [.sl vl 1 (ints e.uf),.pt p 0 (AV.agg (e.cs v)).cells,.sl v 4 (eK l)]) ?_ 10 ⟨0,rfl,by omega,by omega,by simp,H⟩))
 clear H
 rintro m vs S5 ⟨i,rfl,hi,rfl,js,H⟩
 have Ml:e.uf.length=10:=rfl
 refine fE (fun dN=>?_) (fun G2=>?_)
 ·have dN:i<e.uf.length:=by rw[Ml] at dN⊢;omega
  (try(refine zz ?_;(repeat constructor);intro _))
  refine wp_bind ?_
  refine mU (i:=i) (x:=[I e.uf[i]]) H Mm (by simp[ints,dN]) fun q1 o1 H1=>?_
  refine Fi H1 Mm rfl ?_
  replace H:=H1.tl
  have out:¬dq e.uf[i]→Tag.ret=Tag.ret∧oneOf [B false]=B (decide (e.ok l))∧aY S S5:=fun hn=>bad _ (fun h=>hn ((ug e).2 (by unfold Ex.ok at h;simp only[h,and_self]) _ (List.getElem_mem dN))) H.cr
  refine fE (fun h0=>?_) (fun h0=>?_)
  ·(try(refine zz ?_;(repeat constructor);intro _))
   refine wp_ret (.inr ⟨by simp,out (fun h=>by unfold dq at h;omega)⟩)
  (try(refine zz ?_;(repeat constructor);intro _))
  refine jb (fun h1=>?_) (fun h1=>?_)
  ·(try(refine zz ?_;(repeat constructor);intro _))
   refine wp_ret (.inr ⟨by simp,out (fun h=>by unfold dq at h;omega)⟩)
  (try(refine zz ?_;(repeat constructor);intro _))
  refine wp_ret ?_
  show wp EM _ _ _
  refine cg (by omega) (by omega) (wp_ret (.inl ⟨rfl,10-(i+1),by omega,i+1,rfl,by omega,rfl,?_,H⟩))
  rw[List.take_succ_eq_append_getElem dN]
  intro a ha
  rcases List.mem_append.1 ha with ha|ha
  ·exact js a ha
  ·rw[List.mem_singleton.1 ha];exact⟨h0,h1⟩
 ·(try(refine zz ?_;(repeat constructor);intro _))
  refine wp_ret (.inr ⟨by simp,?_⟩)
  show wp EM _ _ _
  have:i=10:=by rw[Ml] at G2;omega
  subst this
  rw[List.take_of_length_le (by rw[Ml];omega)] at js
  refine wp_ret ⟨rfl,?_,H.cr⟩
  have:=(ug e).1 js
  rw[decide_eq_true (show e.ok l by unfold Ex.ok;refine⟨VW,by omega,by omega,by omega,by omega,by omega,by omega,by omega,by omega,by omega,by omega,by omega,this⟩)]
  rfl
set_option maxHeartbeats 4000000 in
theorem gV {v:AV}{e:Ex}{l:List Tk}(hv:aQ.sl v 4 (eK l)∈ro)(H:Cx B0 W S own ro):aO EM (zF 10) [.agg (e.cs v)] S fun r S'=>r=B (decide (e.ok l))∧aY S S':=by
 refine bg (b:=Tryz.a10) rfl rfl ?_
 have Nn:mW S v 4 (eK l):=H.iy hv
 clear H
 have H:=Cx.Nj Nn
 have hT:=fun{S1:AH} {own:List Own} {ro:List aQ} (H:Cx S [] S1 own ro) (hm:aQ.sl v 4 (eK l)∈ro)=>dW.rJ (l:=l) (H.iy hm)
 rw[Tryz.u10]
 have bad:∀(S1:AH),¬e.ok l→aY S S1→(Tag.ret=Tag.ret∧oneOf [B false]=B (decide (e.ok l))∧aY S S1):=fun S1 hn hg=>⟨rfl,by rw[decide_eq_false hn];rfl,hg⟩
 refine fU H rfl fun p S1 H=>?_
 (try(refine zz ?_;(repeat constructor);intro _))
 refine f_ H Mm rfl ?_
 (try(refine zz ?_;(repeat constructor);intro _))
 refine ku H Mm rfl ?_
 refine dH H (ue (t:=e.t)) fun S2 H=>?_
 by_cases ht:e.t.ok
 rotate_left
 ·rw[decide_eq_false ht]
  refine jU ?_
  (try(refine zz ?_;(repeat constructor);intro _))
  exact wp_ret (bad _ (fun h=>ht h.1) H.cr)
 rw[decide_eq_true ht]
 have VW:=ht
 unfold To.ok at ht
 refine jT ?_
 (try(refine zz ?_;(repeat constructor);intro _))
 refine f_ H Mm rfl ?_
 (try(refine zz ?_;(repeat constructor);intro _))
 refine dH H (hT H Mm) fun S3 H=>?_
 (try(refine zz ?_;(repeat constructor);intro _))
 refine fT (fun fQ=>?_) (fun hz=>?_)
 ·(try(refine zz ?_;(repeat constructor);intro _))
  exact wp_ret (bad _ (fun h=>fQ h.2.1) H.cr)
 (try(refine zz ?_;(repeat constructor);intro _))
 refine f_ H Mm rfl ?_
 (try(refine zz ?_;(repeat constructor);intro _))
 refine gO H Mm ?_
 rw[dW.en]
 (try(refine zz ?_;(repeat constructor);intro _))
 refine kf (fun h0=>?_) (fun QC=>?_)
 ·(try(refine zz ?_;(repeat constructor);intro _))
  exact wp_ret (bad _ (fun h=>by have:=h.2.2.1;omega) H.cr)
 (try(refine zz ?_;(repeat constructor);intro _))
 refine f_ H Mm rfl ?_
 (try(refine zz ?_;(repeat constructor);intro _))
 refine f_ H Mm rfl ?_
 (try(refine zz ?_;(repeat constructor);intro _))
 refine gO H Mm ?_
 rw[dW.en]
 have jr:∀{P:Prop},(e.ok l→P)→¬P→¬e.ok l:=fun h hn he=>hn (h he)
 have fin:∀(S1:AH),¬(e.wy=l.length∧1≤e.t.ah∧e.t.ah≤64∧e.aH=e.t.ah∧e.qT=e.t.ah∧1≤e.qh∧e.qh≤64∧1≤e.qi∧e.qi≤16)→aY S S1→(Tag.ret=Tag.ret∧oneOf [B false]=B (decide (e.ok l))∧aY S S1):=
  fun S1 hn hg=>bad S1 (fun h=>hn (by unfold Ex.ok at h;omega)) hg
 have Fq:∀{a:Int} {K:AV→AC} {S1:AH} {own:List Own} {ro:List aQ} {Q:hX},a∈e.uf→Cx S [] S1 own ro→(∀S2,Cx S [] S2 own ro→dq a→wp EM (K (B true)) S2 Q)→(∀S2,Cx S [] S2 own ro→¬e.ok l→wp EM (K (B false)) S2 Q)→wp EM (.call (zF 65) [I a] K) S1 Q:=by
  intro a K S1 own ro Q ha H h1 h2
  refine dH H xq fun S2 H=>?_
  by_cases hc:dq a
  ·rw[decide_eq_true hc];exact h1 _ H hc
  ·rw[decide_eq_false hc];exact h2 _ H fun h=>hc ((ug e).2 (by unfold Ex.ok at h;simp only[h,and_self]) _ ha)
 repeat'(first|exact wp_ret (fin _ (by omega) (Cx.cr (by assumption)))|exact wp_ret (bad _ (by assumption) (Cx.cr (by assumption)))|exact wp_ret ⟨rfl,(congrArg B (decide_eq_true (by unfold Ex.ok;exact⟨VW,by omega,by omega,by omega,by omega,by omega,by omega,by omega,by omega,by omega,by omega,by omega,by assumption,by assumption,by assumption,by assumption,by assumption,by assumption,by assumption,by assumption,by assumption,by assumption⟩))).symm,Cx.cr (by assumption)⟩|(first|refine dS ?_|refine dG rfl ?_|refine dT ?_|refine cw ?_|refine cj rfl ?_|refine cy ?_|refine cD ?_|refine cE ?_|refine dh ?_|refine dC ?_|refine ae (o:=.mv _) rfl ?_|refine ae (o:=.pick _ _ _) rfl ?_|refine ae (o:=.extract _ _) rfl ?_)|refine jT ?_|refine jU ?_|refine f_ (by assumption) Mm rfl ?_|refine Fq (by simp[Ex.uf]) (by assumption) (fun _ _ _=>?_) (fun _ _ _=>?_)|refine fE (fun _=>?_) (fun _=>?_)|refine iw (fun _=>?_) (fun _=>?_)|refine fT (fun _=>?_) (fun _=>?_))
end
end
section
open dW (Tk eK ni)
structure Su where
 ah:Int
 uh:Int
 nodes:Int
 kx:Int
 room:Int
 zy:Int
def Su.cs (s:Su)(v:AV):List AV:=[I s.ah,I s.uh,I s.nodes,I s.kx,I s.room,I s.zy,v]
def Su.sb (s:Su):Prop:=1≤s.ah∧s.ah≤64∧1≤s.uh∧s.uh≤64∧s.uh+1≤s.nodes∧s.nodes≤128∧1≤s.kx∧s.kx≤4∧1≤s.room∧s.room≤16∧1≤s.zy∧s.zy≤4294967295
instance aad (s:Su):Decidable s.sb:=inferInstanceAs (Decidable (_∧_))
def Su.kA (s:Su)(l:List Tk):Int:=if s.sb then(if ni l≠0 then ni l else if l.length=0 then 2 else 0) else 3
def Su.bd (s:Su):List (Int×Int×Int):=[(s.ah,1,64),(s.uh,1,64),(s.nodes,min s.uh 64+1,128),(s.kx,1,4),(s.room,1,16),(s.zy,1,4294967295)]
section
variable{M:ef}{B0 S:AH}{W:List Nat}{own:List Own}{ro:List aQ}{Q:hX}{k:AV→AC}{kc:AC}
theorem Co (H:Cx B0 W S own ro)(i:Nat){id off n:Nat}{c v}(hi:own[i]?=some (.obj id (.row c)))(ho:ep v=false)(hn:v.cells.length=n)(hl:Nat.ble (off+n) c.length=true)
  (h:∀S1,Cx B0 W S1 (own.set i (.obj id (.row (aL c off v.cells)))) ro→wp M (k uv) S1 Q):wp M (.op (.store n (.ptr id off) v) k) S Q:=
 fI H i hi ho hn (Nat.le_of_ble_eq_true hl) h
theorem GH (H:Cx B0 W S own ro)(i:Nat){id o:Nat}{c v}(hi:own[i]?=some (.obj id (.row c)))(hj:c[o]?=some v)(hb:AV.beq v v=true)(h:wp M kc S Q):wp M (.kA (.load 1 false (.ptr id o)) v kc) S Q:=by
 refine tt (v':=v) ?_ hb h
 show(match S.cells? id with|some c=>eZ false c o 1|none=>none)=_
 rw[dB (H.oh _ (List.mem_of_getElem? hi))]
 exact lF hj
theorem A7 (H:Cx B0 W S own ro){es:Nat}{z}(hz:z.length=es)(h:∀v S1,Cx B0 W S1 (.sl v es []::own) ro→wp M (k v) S1 Q):wp M (.op (.kU es 0 z []) k) S Q:=by
 refine ae (v:=.sl S.next 0 0 0) (S1:=S.new (.row [])) ?_ (h _ _ (H.iv (aY.new S _) (x:=.sl (.sl S.next 0 0 0) es []) ?_ ?_))
 ·show gg es 0 z [] S=_
  unfold gg
  have e:(Nat.beq (bI ([]:List AV)) (Nat.mul 0 es)&&Nat.beq (bI z) es)=true:=by
   rw[aZ,aZ,hz,Nat.beq_refl,show Nat.mul 0 es=0 from Nat.zero_mul es];rfl
  show(match Nat.beq (bI ([]:List AV)) (Nat.mul 0 es)&&Nat.beq (bI z) es with|true=>lay S (.row []) fun id=>.sl id 0 0 0|false=>none)=_
  rw[e];rfl
 ·exact .inr ⟨S.next,0,[],.inl ⟨0,by simp,by simp,rfl⟩,bN _ _,by simp,by simp⟩
 ·intro id bS
  simp only[Own.ids,eg,List.mem_singleton] at bS
  subst bS
  exact⟨Nat.le_refl _,by simp[AH.new]⟩
end
theorem _root_.Go.cY.Cx.Ix {B0 S W own ro}(H:Cx B0 W S own ro)(es:Nat):Cx B0 W S (.sl Ns es []::own) ro:=H.iv (aY.refl S) (.inl ⟨rfl,rfl⟩) (fun id bS=>by simp[Own.ids,eg] at bS)
section
variable{B0 S:AH}{W:List Nat}{own:List Own}{ro:List aQ}{Q:hX}{k:AV→AC}
set_option maxHeartbeats 4000000 in
theorem A8 {s:Su}{v:AV}{l:List Tk}(hv:aQ.sl v 4 (eK l)∈ro)(H:Cx B0 W S own ro):aO EM (zF 110) [.agg (s.cs v)] S fun r S'=>r=I (s.kA l)∧aY S S':=by
 refine bg (b:=Tryz.a110) rfl rfl ?_
 have Nn:mW S v 4 (eK l):=H.iy hv
 clear H
 have H:=Cx.Nj Nn
 rw[Tryz.u110]
 refine fU H rfl fun p S1 H=>?_
 have bad:∀(S1:AH),¬s.sb→aY S S1→(Tag.ret=Tag.ret∧oneOf [I 3]=I (s.kA l)∧aY S S1):=fun S1 hn hg=>⟨rfl,by unfold Su.kA;rw[if_neg hn];rfl,hg⟩
 repeat'(first|exact wp_ret (bad _ (by unfold Su.sb;omega) (Cx.cr (by assumption)))|(first|refine dS ?_|refine dG rfl ?_|refine dT ?_|refine cw ?_|refine cj rfl ?_|refine cy ?_|refine cD ?_|refine cE ?_|refine dh ?_|refine dC ?_|refine ae (o:=.mv _) rfl ?_|refine ae (o:=.pick _ _ _) rfl ?_|refine ae (o:=.extract _ _) rfl ?_)|refine dH (by assumption) (dW.rJ (l:=l) (Cx.iy (by assumption) Mm)) fun S6 H=>?_|refine gO (by assumption) (show aQ.sl v 4 (eK l)∈_ by(repeat(first|exact List.Mem.head _|apply List.Mem.tail))) ?_|refine f_ (by assumption) Mm rfl ?_|refine cg (by omega) (by omega) ?_|refine fE (fun _=>?_) (fun _=>?_)|refine iw (fun _=>?_) (fun _=>?_)|refine fT (fun fQ=>?_) (fun hz=>?_)|(rw[dW.en];refine kf (fun h0=>?_) (fun QC=>?_)))
 all_goals
  have hf:s.sb:=by unfold Su.sb;omega
  unfold Su.kA
  rw[if_pos hf]
  first
   |(rw[if_pos (by assumption)];exact wp_ret ⟨rfl,rfl,Cx.cr (by assumption)⟩)
   |(rw[if_neg (by omega),if_pos (by omega)];exact wp_ret ⟨rfl,rfl,Cx.cr (by assumption)⟩)
   |(rw[if_neg (by omega),if_neg (by omega)];exact wp_ret ⟨rfl,rfl,Cx.cr (by assumption)⟩)
theorem Iy (l:List Tk):∀x∈eK l,x.length=4:=by
 intro x hx
 obtain⟨y,_,rfl⟩:=List.mem_map.1 hx
 rfl
end
def sd (s:Su)(n:Int):Ex:=
 let N:=s.nodes
 let C:=s.ah
 let P:=s.nodes*(4+s.kx)
 let g:=6+2*N+C+s.kx+P
 let j:=g+n
 let m:=j+3*s.uh+1
 let r:=m+s.ah*(s.room+2)
 {t:={nd:=6+2*N+C+s.kx,hd:=6+2*N+C,ht:=s.kx,Iv:=0,xP:=1,qg:=N,ju:=1+N,pK:=1+2*N,DN:=s.zy,Sx:=2+2*N,pins:=3+2*N,ah:=C,tN:=3+2*N+C},
  qP:=g,wy:=n,ND:=j,wz:=j+s.uh,Dq:=j+2*s.uh,qQ:=j+2*s.uh+1,qh:=s.uh,qR:=m,aH:=C,qi:=s.room,wA:=r,qS:=r+C,qT:=C,own:=r+2*C,seq:=r+3*C}
def A9 (s:Su)(n:Int):Int:=(sd s n).seq+1
theorem A_ {s:Su}{l:List Tk}(h:s.kA l=0):s.sb∧ni l=0∧1≤l.length∧l.length≤32∧(0≤s.nodes*(4+s.kx)∧s.nodes*(4+s.kx)≤128*8)∧(0≤s.ah*(s.room+2)∧s.ah*(s.room+2)≤64*18):=by
 unfold Su.kA at h
 by_cases hf:s.sb
 ·rw[if_pos hf] at h
  by_cases ht:ni l≠0
  ·rw[if_pos ht] at h;exact absurd h ht
  ·rw[if_neg ht] at h
   have ht:ni l=0:=Decidable.not_not.1 ht
   have hl:l.length≤32:=by
    unfold dW.ni at ht
    split at ht
    ·cases ht
    ·omega
   have hp:1≤l.length:=by
    split at h
    ·cases h
    ·omega
   have Oe:=hf
   unfold Su.sb at Oe
   exact⟨hf,ht,hp,hl,A6 (by omega) (by omega) (by omega) (by omega),A6 (by omega) (by omega) (by omega) (by omega)⟩
 ·rw[if_neg hf] at h;cases h
theorem VX {c c'}{a b:Int}(h:c=c')(h2:a=b):AV.cP [.agg c,I a,I 0]=.cP [.agg c',I b,I 0]:=by rw[h,h2]
theorem Ex.Mo {S v}{es:Nat}{L}(hv:gq S v es L):AV.beq v v=true:=by
 rcases hv with⟨rfl,_⟩|⟨id,off,c,(⟨cap,_,_,rfl⟩|⟨cap,_,_,rfl⟩),_⟩
 ·rfl
 ·show(Nat.beq id id&&Nat.beq off off&&Nat.beq L.length L.length&&Nat.beq cap cap)=true
  simp only[Nat.beq_refl,Bool.and_self]
 ·show(Nat.beq id id&&Nat.beq off off&&Nat.beq L.length L.length&&Nat.beq cap cap&&Nat.beq es es)=true
  simp only[Nat.beq_refl,Bool.and_self]
theorem QD {a b:Int}{l m}(h:a=b)(h2:l=m):I a::l=I b::m:=by rw[h,h2]
section
variable{B0 S:AH}{W:List Nat}{own:List Own}{ro:List aQ}{Q:hX}{k:AV→AC}
theorem GI {u}{es:Nat}{L}(hs:gq S u es L):evalOp EM.P (.build [I 0,I 0,I 0,I 0,I 0,I 0,I 0,I 0,I 0,I 0,I 0,I 0,I 0,I 0,I 0,I 0,I 0,I 0,I 0,I 0,I 0,I 0,I 0,I 0,I 0,I 0,I 0,I 0,Ns] [(28,1,u)]) S=some (.agg [I 0,I 0,I 0,I 0,I 0,I 0,I 0,I 0,I 0,I 0,I 0,I 0,I 0,I 0,I 0,I 0,I 0,I 0,I 0,I 0,I 0,I 0,I 0,I 0,I 0,I 0,I 0,I 0,u],S):=by
 rcases hs with⟨rfl,_⟩|⟨id,off,c,(⟨_,_,_,rfl⟩|⟨_,_,_,rfl⟩),_⟩<;>rfl
def Cp (v:AV):List AV:=[I 0,I 0,I 0,I 0,I 0,I 0,I 0,I 0,I 0,I 0,I 0,I 0,I 0,I 0,I 0,I 0,I 0,I 0,I 0,I 0,I 0,I 0,I 0,I 0,I 0,I 0,I 0,I 0,v]
def Mp (s:Su)(l:List Tk)(u r:AV):Prop:=(s.kA l≠0∧u=Ns∧r=.cP [.agg (Cp Ns),I 0,I (s.kA l)])∨(s.kA l=0∧r=.cP [.agg ((sd s l.length).cs u),I (A9 s l.length),I 0])
set_option maxHeartbeats 4000000 in
theorem Ba {s:Su}{v:AV}{l:List Tk}(hv:mW S v 4 (eK l)):aO EM (zF 30) [.agg (s.cs v)] S fun r S'=>∃u,Mp s l u r∧Cx S [] S' [.sl u 4 (if s.kA l=0 then eK l else [])] []:=by
 refine bg (b:=Tryz.a30) rfl rfl ?_
 have H:=Cx.Nj hv
 rw[Tryz.u30];unfold Mp
 refine xg ?_
 refine fU H rfl fun p S1 H=>?_
 refine gr H fun q S2 H=>?_
 refine ku H Mm rfl ?_
 refine dH H (A8 (s:=s) (l:=l) Mm H) fun S3 H=>?_
 refine fT (fun fQ=>?_) (fun hz=>?_)
 ·(try(refine zz ?_;(repeat constructor);intro _))
  refine ae (o:=.build _ _) rfl ?_
  refine Co H 0 rfl rfl rfl rfl fun S4 H=>?_
  refine wp_ret ⟨.inr rfl,?_⟩
  refine gN (n:=29) H 0 rfl (Nat.le_of_ble_eq_true rfl) ?_
  refine wp_ret ⟨rfl,Ns,.inl ⟨fQ,rfl,rfl⟩,?_⟩
  rw[if_neg fQ]
  exact((H.iz 0).Ix 4).AA (by simp)
 obtain⟨hf,ht,hp,hl,vM,zM⟩:=A_ hz
 have hf0:=hf
 unfold Su.sb at hf
 rw[if_pos hz]
 (try(refine zz ?_;(repeat constructor);intro _))
 refine A7 H rfl fun u0 S4 H=>?_
 (try(refine zz ?_;(repeat constructor);intro _))
 refine f_ H Mm rfl ?_
 refine AB (x:=v) (N:=eK l) H 0 rfl Mm (Iy l) (by rw[dW.en];unfold cU;simp;omega) (by rw[dW.en];unfold dM;simp;omega) fun u S5 H=>?_
 refine ae (GI (mT (H.oh _ (List.Mem.head _)))) ?_
 refine gr H fun x S7 H=>?_
 refine Co H 0 rfl rfl rfl rfl fun S8 H=>?_
 have H:Cx S [] S8 [.obj x (.row (Cp u)),.sl u 4 (eK l),.obj q (.row (Cp Ns))] [.pt p 0 (s.cs v),.sl v 4 (eK l)]:=H
 repeat'(first|(first|refine dS ?_|refine dG rfl ?_|refine dT ?_|refine cw ?_|refine cj rfl ?_|refine cy ?_|refine cD ?_|refine cE ?_|refine dh ?_|refine dC ?_|refine ae (o:=.mv _) rfl ?_|refine ae (o:=.pick _ _ _) rfl ?_|refine ae (o:=.extract _ _) rfl ?_)|refine f_ (by assumption) Mm rfl ?_|refine tI (by assumption) 0 rfl rfl ?_|refine gO (by assumption) (show aQ.sl v 4 (eK l)∈_ by(repeat(first|exact List.Mem.head _|apply List.Mem.tail))) ?_|rw[dW.en]|refine ae (o:=.build _ _) rfl ?_|refine GF (by assumption) Mm rfl su ?_|refine GH (by assumption) 0 rfl rfl su ?_|refine GF (by assumption) Mm rfl (Ex.Mo (Cx.rh (by assumption) _ (show aQ.sl v 4 (eK l)∈_ by(repeat(first|exact List.Mem.head _|apply List.Mem.tail))))) ?_|refine Co (by assumption) 0 rfl rfl rfl rfl fun _ _=>?_|refine cg (by omega) (by omega) ?_|refine zx (by omega) (by omega) ?_)
 refine gN (n:=29) (by assumption) 0 rfl (Nat.le_of_ble_eq_true rfl) ?_
 (try(refine zz ?_;(repeat constructor);intro _))
 refine tI (by assumption) 0 rfl rfl ?_
 refine cg (by omega) (by omega) ?_
 refine Co (by assumption) 2 rfl rfl rfl rfl fun S9 H9=>?_
 refine GH H9 0 rfl rfl su ?_
 refine wp_ret ⟨.inr rfl,?_⟩
 refine gN (n:=29) H9 2 rfl (Nat.le_of_ble_eq_true rfl) ?_
 refine wp_ret ⟨rfl,u,.inr ⟨hz,VX ?_ ?_⟩,((H9.iz 0).iz 1).AA (by simp)⟩
 ·unfold Ex.cs
  repeat'(refine QD (by unfold sd;dsimp only<;>omega) ?_)
  rfl
 ·unfold A9 sd;dsimp only<;>omega
end
end
end Go.cY.X
