/- Contracts. Conditions: in each theorem. -/
import Derived.Test.YtdfgboafnklioaaGreatM0
set_option linter.all false
set_option maxRecDepth 100000
set_option maxHeartbeats 4000000
namespace Go.cO
open Go.Proofs
section
variable{nd hd ht c3 c4 n c6 c7 c8 c9 dP dp dM key ln lv pred known cur w cM er:Int}{told:AV}{q qt k:Nat}{R0:List Own}{L:List Int}{T:gr}
instance Qp {v:Int}:SC EM (zF 736) [.ptr q 0,U v] (.obj q (.row [I nd,I hd,I ht,I c3,I c4,I n,I c6,I c7,I c8,I c9,I dP,I dp,I dM,U key,I ln,I lv,I pred,U known,U cur,U w,told,U cM,B true,I er])::R0) (Me.ar v/\1<=n) (I (idx n v))
  (.obj q (.row [I nd,I hd,I ht,I c3,I c4,I n,I c6,I c7,I c8,I c9,I dP,I dp,I dM,U key,I ln,I lv,I pred,U known,U cur,U w,told,U cM,B true,I er])::R0):=.of rfl rfl λh ro R=>by
 show Zx EM false (Tryz.a736 _) _ _ _ _;have h1:=h.1;refine z2 ?_ ?_<;>intros
 .exact⟨rfl,rfl,_,⟨by unfold idx;rw[if_neg am];rfl,rfl⟩,HQ⟩
 .exact⟨rfl,rfl,_,⟨by unfold idx;rw[if_pos am];rfl,rfl⟩,HQ⟩
end
instance z33:cH 738 where
instance Vf {w:Int}:VC EM (zF 641) [U w,B false] (9223372036854775808<=w/\w<18446744073709551616) (U (w-9223372036854775808)) where
 ok:=λh S=>by have e:w%9223372036854775808=w-9223372036854775808:=am;refine aw (Nh.ok (show Me.ar w by unfold Me.ar;omega) S) λr S' ⟨h1,h2⟩=>⟨?_,h2⟩;rw[h1,e]
def Tw.vi (t:Tw)(key ln lv pred known cur w:Int)(qt k:Nat)(cM er:Int):List AV:=t.cs++[U key,I ln,I lv,I pred,U known,U cur,U w,.sl qt 0 k k,U cM,B true,I er]
structure xf (t:Tw)(k l:Nat)(lv pred known:Int)(T:gr)(L:List Int):Prop where
 hk:(k:Int)=t.ht
 hl:l<k
 hv:lv=l
 hp:-1<=pred/\pred<t.l.a.f.size
 hn:Me.ar known
 hT:T.ok t
 hL:L.length=k
inductive b9 (t:Tw)(key:Int)(q:Nat)(cM:Int):bS->List Own->Prop
 |a {l k qt:Nat}{lv pred known w:Int}{T L}(h:xf t k l lv pred known T L):b9 t key q cM (.a l pred known T) [.obj q (.row (t.vi key 1 lv pred known 0 w qt k cM 0)),.obj qt (.row (iA L T))]
 |b {l k qt:Nat}{lv pred known cur w:Int}{T L}(h:xf t k l lv pred known T L)(hc:Me.ar cur)(hi:¬t.ix cur<0):b9 t key q cM (.b l pred known cur T) [.obj q (.row (t.vi key 2 lv pred known cur w qt k cM 0)),.obj qt (.row (iA L T))]
 |c {l k qt:Nat}{lv pred known cur w:Int}{T L}(h:xf t k l lv pred known T L)(hc:Me.ar cur)(hi:¬t.ix cur<0)(hw:Me.ar w)(hm:9223372036854775808<=w):b9 t key q cM (.c l pred known cur w T) [.obj q (.row (t.vi key 3 lv pred known cur w qt k cM 0)),.obj qt (.row (iA L T))]
 |e {l k qt:Nat}{lv pred known cur w:Int}{T L}(h:xf t k l lv pred known T L)(hc:Me.ar cur)(hi:¬t.ix cur<0)(hw:Me.ar w):b9 t key q cM (.e l pred known cur w T) [.obj q (.row (t.vi key 4 lv pred known cur w qt k cM 0)),.obj qt (.row (iA L T))]
 |d {k qt:Nat}{lv pred known cur w:Int}{T L}(hk:(k:Int)=t.ht)(hT:T.ok t)(hL:L.length=k):b9 t key q cM (.d T) [.obj q (.row (t.vi key 9 lv pred known cur w qt k cM 0)),.obj qt (.row (iA L T))]
theorem Nk {p:Prop}[Decidable p](h:(!decide p)=true):¬p:=by simpa using h
theorem B8 {p:Prop}[Decidable p](h:(!decide p)=false):p:=by simpa using h
theorem gr.Ht {t:Tw}{T:gr}{s:Sp}(h:T.ok t)(hs:s.ok t)(l:Nat):gr.ok t (List.set T l s):=by
 refine⟨by rw[List.length_set];exact h.1,λv hv=>?_⟩;rcases List.mem_or_eq_of_mem_set hv with hv|rfl;.exact h.2 v hv
 .exact hs
theorem bS.gH {l:Nat}{pred known cur:Int}{T}:(bS.done l pred known cur T).over=decide (B7 l=9):=by cases l<;>rfl
section
variable{B0 S:AH}{W:List Nat}{own R lo:List Own}{ro:List aB}{m bl q qt k:Nat}{x:Me}{rest:List AV}{t:Tw}{key cM known pred cur w lv:Int}{L:List Int}{T:gr}{l:Nat}
theorem b9.done (h:xf t k l lv pred known T L)(hc:Me.ar cur):b9 t key q cM (bS.done l pred known cur T) [.obj q (.row (t.vi key (B7 l) (LJ l) pred known (LK l cur) w qt k cM 0)),.obj qt (.row (iA (L.set l (l:Int)) (List.set T l ⟨pred,known,cur⟩)))]:=by
 have ht:=gr.Ht h.hT (s:=⟨pred,known,cur⟩) ⟨h.hp,h.hn,hc⟩ l;cases l with
 |zero=>exact .d h.hk ht (by rw[List.length_set];exact h.hL)
 |succ l=>exact .a ⟨h.hk,by have:=h.hl;omega,rfl,h.hp,h.hn,ht,by rw[List.length_set];exact h.hL⟩
theorem b9.i6 (ht:1<=t.ht/\1<=t.l.a.f.size)(hk:(k:Int)=t.ht)(hT:T.ok t)(hL:L.length=k):b9 t key q cM (bS.i6 t T) [.obj q (.row (t.vi key 1 (t.ht-1) (-1) 0 0 w qt k cM 0)),.obj qt (.row (iA L T))]:=
 .a ⟨hk,am,am,am,by unfold Me.ar;omega,hT,hL⟩
theorem Vg {o1 own:List Own}(e:o1=own:=by conv=>lhs;simp only[Tw.vi,Tw.cs,Lb.cs,Ar.cs,Ep.cs,lA,lB,lC]):o1=own:=e
theorem qX {σ:bS}(hs:t.ok)(hx:x.gd)(ho:σ.over=false)(Dm:Me.ar key)(h:b9 t key q cM σ lo)(H:Cx B0 W S (lo++(ad m bl x rest++R)) ro):
  aG EM (zF 732) [.ptr q 0,.ptr m 0] S λu S'=>∃ab,eW (b9 t key q σ.cM) bS.over (σ.step t key x) (ad m bl · rest) R u ab/\Cx B0 W S' ab ro:=by
 have bt:=hs;unfold Tw.ok Lb.ok Ar.ok Sk.ok Ep.ok at bt;haveI:aU:=⟨⟩;cases h with
 |@a l k qt lv pred known w T L h=>
  have I:=h;obtain⟨hk,hl,rfl,hp,hn,hT,hL⟩:=h;have Aw:=hT.1;have hb:=Me.aj hx (t.nx pred l);refine y4 H Vg ?_ ?_ ?_ ?_<;>intros
  .next h=>exact aa (Prod.ext (if_pos h) rfl) (b9.i6 ⟨am,am⟩ hk hT hL) rfl HQ
  .next h1 h2 h=>exact aa (Prod.ext ((if_neg h1).trans (if_pos h2)) rfl) (b9.done I hb) (bS.gH.trans (decide_eq_true h)) HQ
  .next h1 h2 h=>exact aa (Prod.ext ((if_neg h1).trans (if_pos h2)) rfl) (b9.done I hb) (bS.gH.trans (decide_eq_false h)) HQ
  .next h1 h2=>exact aa (Prod.ext ((if_neg h1).trans (if_neg h2)) rfl) (.b I hb h2) rfl HQ
 |@b l k qt lv pred known cur w T L h hc hi=>
  have I:=h;obtain⟨hk,hl,rfl,hp,hn,hT,hL⟩:=h;have Aw:=hT.1;have uO:=fN (n:=t.l.a.f.size) (w:=cur) am;have hb:=Me.aj hx (t.nx (t.ix cur) l);have R7:0<=idx t.l.a.f.size cur:=by unfold Tw.ix Tw.size at hi;omega
  refine y2 H Vg ?_ ?_<;>intros
  .next h=>exact aa (Prod.ext (if_pos h) rfl) (.c I hc hi hb h) rfl HQ
  .next h=>exact aa (Prod.ext (if_neg h) rfl) (.e I hc hi hb) rfl HQ
 |@c l k qt lv pred known cur w T L h hc hi hw hm=>
  have I:=h;obtain⟨hk,hl,rfl,hp,hn,hT,hL⟩:=h;have Aw:=hT.1;have uO:=fN (n:=t.l.a.f.size) (w:=cur) am;have R7:0<=idx t.l.a.f.size cur:=by unfold Tw.ix Tw.size at hi;omega
  have hb:Me.ar (w-9223372036854775808):=by unfold Me.ar at*;omega
  refine y4 H Vg ?_ ?_ ?_ ?_<;>intros
  .next h=>exact aa (Prod.ext (if_neg (Nk h)) rfl) (b9.i6 ⟨am,am⟩ hk hT hL) rfl HQ
  .next h1 h2 h=>exact aa (Prod.ext ((if_pos (B8 h1)).trans (if_pos h2)) rfl) (b9.done I hb) (bS.gH.trans (decide_eq_true h)) HQ
  .next h1 h2 h=>exact aa (Prod.ext ((if_pos (B8 h1)).trans (if_pos h2)) rfl) (b9.done I hb) (bS.gH.trans (decide_eq_false h)) HQ
  .next h1 h2=>exact aa (Prod.ext ((if_pos (B8 h1)).trans (if_neg h2)) rfl) (.b I hb h2) rfl HQ
 |@e l k qt lv pred known cur w T L h hc hi hw=>
  have I:=h;obtain⟨hk,hl,rfl,hp,hn,hT,hL⟩:=h;have Aw:=hT.1;have uO:=fN (n:=t.l.a.f.size) (w:=cur) am;have R7:0<=idx t.l.a.f.size cur:=by unfold Tw.ix Tw.size at hi;omega
  have I2:xf t k l l (t.ix cur) cur T L:=⟨hk,hl,rfl,uO,hc,hT,hL⟩;refine Vx.fm H Vg ?_;(repeat' first|constructor|exact ZQ|intro _);all_goals apply zL
  .next h1 h=>exact aa (Prod.ext (if_neg (Int.not_lt.2 h1)) rfl) (b9.done I hc) (bS.gH.trans (decide_eq_true h)) HQ
  .next h1 h=>exact aa (Prod.ext (if_neg (Int.not_lt.2 h1)) rfl) (b9.done I hc) (bS.gH.trans (decide_eq_false h)) HQ
  .next h1 h2 h=>exact aa (Prod.ext ((if_pos (Int.not_le.1 h1)).trans (if_pos h2)) rfl) (b9.done I2 hw) (bS.gH.trans (decide_eq_true h)) HQ
  .next h1 h2 h=>exact aa (Prod.ext ((if_pos (Int.not_le.1 h1)).trans (if_pos h2)) rfl) (b9.done I2 hw) (bS.gH.trans (decide_eq_false h)) HQ
  .next h1 h2=>exact aa (Prod.ext ((if_pos (Int.not_le.1 h1)).trans (if_neg h2)) rfl) (.b I2 hw h2) rfl HQ
 |d=>cases ho
end
theorem gr.Hu {t}(ht:1<=t.ht)(hn:1<=t.l.a.f.size):gr.ok t (List.replicate t.ht.toNat Sp.z):=by refine⟨by rw[List.length_replicate];omega,λs hs=>?_⟩;rw[List.eq_of_mem_replicate hs];exact⟨⟨by show-1<=(0:Int);omega,by show(0:Int)<_;omega⟩,by show Me.ar 0;unfold Me.ar;omega,by show Me.ar 0;unfold Me.ar;omega⟩
theorem gr.Ax {t:Tw}{T:gr}(h:T.ok t){l:Nat}(hl:(l:Int)<t.ht):(T.cb l).ok t:=by
 have Bt:l<T.length:=by have:=h.1;omega
 unfold gr.cb;rw[List.getElem?_eq_getElem Bt];exact h.2 _ (List.getElem_mem Bt)
instance Vh {T:gr}{i:Int}:LD (T.map λs=>[I s.pred]) i (0<=i/\i<T.length) (I (T.cb i.toNat).pred) where
 ok:=λh=>⟨i.toNat,am,by rw[List.getElem?_map];unfold gr.cb;rw[List.getElem?_eq_getElem am];rfl⟩
instance R8 {T:gr}{i:Int}:LD (T.map λs=>[U s.known]) i (0<=i/\i<T.length) (U (T.cb i.toNat).known) where
 ok:=λh=>⟨i.toNat,am,by rw[List.getElem?_map];unfold gr.cb;rw[List.getElem?_eq_getElem am];rfl⟩
instance XT {T:gr}{i:Int}:LD (T.map λs=>[U s.cur]) i (0<=i/\i<T.length) (U (T.cb i.toNat).cur) where
 ok:=λh=>⟨i.toNat,am,by rw[List.getElem?_map];unfold gr.cb;rw[List.getElem?_eq_getElem am];rfl⟩
instance z34:cH 780 where
instance z35:cH 783 where
section
variable{nd hd ht c3 c4 n c6 c7 c8 c9 dP dp dM key ln lv pred known cur w cM er:Int}{told:AV}{q qt k:Nat}{R0:List Own}{L:List Int}{T:gr}
instance Vi:NC EM (zF 643) [.agg [I nd,I hd,I ht,I c3,I c4,I n,I c6,I c7,I c8,I c9,I dP,I dp,I dM],U key] ((0<=nd/\nd<4096)/\(0<=hd/\hd<4096)/\(1<=ht/\ht<=4)/\1<=n/\n<=128)
  (λp l=>b9 ⟨nd,hd,ht,⟨⟨⟨c3,c4,n⟩,c6,c7,c8⟩,⟨c9,dP,dp⟩,dM⟩⟩ key p 0 (.new ⟨nd,hd,ht,⟨⟨⟨c3,c4,n⟩,c6,c7,c8⟩,⟨c9,dP,dp⟩,dM⟩⟩) l):=.of rfl rfl λh ro R=>by
 have hT:=gr.Hu (t:=⟨nd,hd,ht,⟨⟨⟨c3,c4,n⟩,c6,c7,c8⟩,⟨c9,dP,dp⟩,dM⟩⟩) h.2.2.1.1 h.2.2.2.1;have h0:0<=B6 nd hd ht (-1) 0:=by unfold B6;rw[if_pos rfl];omega
 have:ht=1\/ht=2\/ht=3\/ht=4:=am;rcases this with rfl|rfl|rfl|rfl
 .show Zx EM false (Tryz.a643 _) _ _ _ _;refine z1 ?_;intros;exact⟨rfl,rfl,(_::_::R),⟨_,_,b9.i6 (L:=[0]) (k:=1) ⟨h.2.2.1.1,h.2.2.2.1⟩ rfl hT rfl,rfl,rfl⟩,HQ⟩
 .show Zx EM false (Tryz.a643 _) _ _ _ _;refine z1 ?_;intros;exact⟨rfl,rfl,(_::_::R),⟨_,_,b9.i6 (L:=[0,0]) (k:=2) ⟨h.2.2.1.1,h.2.2.2.1⟩ rfl hT rfl,rfl,rfl⟩,HQ⟩
 .show Zx EM false (Tryz.a643 _) _ _ _ _;refine z1 ?_;intros;exact⟨rfl,rfl,(_::_::R),⟨_,_,b9.i6 (L:=[0,0,0]) (k:=3) ⟨h.2.2.1.1,h.2.2.2.1⟩ rfl hT rfl,rfl,rfl⟩,HQ⟩
 .show Zx EM false (Tryz.a643 _) _ _ _ _;refine z1 ?_;intros;exact⟨rfl,rfl,(_::_::R),⟨_,_,b9.i6 (L:=[0,0,0,0]) (k:=4) ⟨h.2.2.1.1,h.2.2.2.1⟩ rfl hT rfl,rfl,rfl⟩,HQ⟩
instance Qq:NS EM (zF 781) [.ptr q 0] (.obj q (.row [I nd,I hd,I ht,I c3,I c4,I n,I c6,I c7,I c8,I c9,I dP,I dp,I dM,U key,I 9,I lv,I pred,U known,U cur,U w,.sl qt 0 k k,U cM,B true,I 0])::.obj qt (.row (iA L T))::R0) ((1<=k/\k<=4)/\T.length=k/\L.length=k) (T.map λs=>[U s.known]):=.of rfl rfl λ⟨hk,hT,hL⟩ ro R=>by
 have:k=1\/k=2\/k=3\/k=4:=am;rcases this with rfl|rfl|rfl|rfl
 .obtain⟨a,rfl⟩:=tg hT;obtain⟨a',rfl⟩:=tg hL
  (show Zx EM false (Tryz.a781 _) _ _ _ _;haveI:aU:=⟨⟩;refine z1 ?_;intros;all_goals first|exact⟨rfl,rfl,_,rfl,HQ⟩|exact⟨ac,ac⟩)
 .obtain⟨a,b,rfl⟩:=tj hT;obtain⟨a',b',rfl⟩:=tj hL
  (show Zx EM false (Tryz.a781 _) _ _ _ _;haveI:aU:=⟨⟩;refine z1 ?_;intros;all_goals first|exact⟨rfl,rfl,_,rfl,HQ⟩|exact⟨ac,ac⟩)
 .obtain⟨a,b,c,rfl⟩:=tn hT;obtain⟨a',b',c',rfl⟩:=tn hL
  (show Zx EM false (Tryz.a781 _) _ _ _ _;haveI:aU:=⟨⟩;refine z1 ?_;intros;all_goals first|exact⟨rfl,rfl,_,rfl,HQ⟩|exact⟨ac,ac⟩)
 .obtain⟨a,b,c,d,rfl⟩:=tp hT;obtain⟨a',b',c',d',rfl⟩:=tp hL
  (show Zx EM false (Tryz.a781 _) _ _ _ _;haveI:aU:=⟨⟩;refine z1 ?_;intros;all_goals first|exact⟨rfl,rfl,_,rfl,HQ⟩|exact⟨ac,ac⟩)
instance Qr:NS EM (zF 782) [.ptr q 0] (.obj q (.row [I nd,I hd,I ht,I c3,I c4,I n,I c6,I c7,I c8,I c9,I dP,I dp,I dM,U key,I 9,I lv,I pred,U known,U cur,U w,.sl qt 0 k k,U cM,B true,I 0])::.obj qt (.row (iA L T))::R0) ((1<=k/\k<=4)/\T.length=k/\L.length=k) (T.map λs=>[I s.pred]):=.of rfl rfl λ⟨hk,hT,hL⟩ ro R=>by
 have:k=1\/k=2\/k=3\/k=4:=am;rcases this with rfl|rfl|rfl|rfl
 .obtain⟨a,rfl⟩:=tg hT;obtain⟨a',rfl⟩:=tg hL
  (show Zx EM false (Tryz.a782 _) _ _ _ _;haveI:aU:=⟨⟩;refine z1 ?_;intros;all_goals first|exact⟨rfl,rfl,_,rfl,HQ⟩|exact⟨ac,ac⟩)
 .obtain⟨a,b,rfl⟩:=tj hT;obtain⟨a',b',rfl⟩:=tj hL
  (show Zx EM false (Tryz.a782 _) _ _ _ _;haveI:aU:=⟨⟩;refine z1 ?_;intros;all_goals first|exact⟨rfl,rfl,_,rfl,HQ⟩|exact⟨ac,ac⟩)
 .obtain⟨a,b,c,rfl⟩:=tn hT;obtain⟨a',b',c',rfl⟩:=tn hL
  (show Zx EM false (Tryz.a782 _) _ _ _ _;haveI:aU:=⟨⟩;refine z1 ?_;intros;all_goals first|exact⟨rfl,rfl,_,rfl,HQ⟩|exact⟨ac,ac⟩)
 .obtain⟨a,b,c,d,rfl⟩:=tp hT;obtain⟨a',b',c',d',rfl⟩:=tp hL
  (show Zx EM false (Tryz.a782 _) _ _ _ _;haveI:aU:=⟨⟩;refine z1 ?_;intros;all_goals first|exact⟨rfl,rfl,_,rfl,HQ⟩|exact⟨ac,ac⟩)
instance Qs:NS EM (zF 775) [.ptr q 0] (.obj q (.row [I nd,I hd,I ht,I c3,I c4,I n,I c6,I c7,I c8,I c9,I dP,I dp,I dM,U key,I 9,I lv,I pred,U known,U cur,U w,.sl qt 0 k k,U cM,B true,I 0])::.obj qt (.row (iA L T))::R0) ((1<=k/\k<=4)/\T.length=k/\L.length=k) (T.map λs=>[U s.cur]):=.of rfl rfl λ⟨hk,hT,hL⟩ ro R=>by
 have:k=1\/k=2\/k=3\/k=4:=am;rcases this with rfl|rfl|rfl|rfl
 .obtain⟨a,rfl⟩:=tg hT;obtain⟨a',rfl⟩:=tg hL
  (show Zx EM false (Tryz.a775 _) _ _ _ _;haveI:aU:=⟨⟩;refine z1 ?_;intros;all_goals first|exact⟨rfl,rfl,_,rfl,HQ⟩|exact⟨ac,ac⟩)
 .obtain⟨a,b,rfl⟩:=tj hT;obtain⟨a',b',rfl⟩:=tj hL
  (show Zx EM false (Tryz.a775 _) _ _ _ _;haveI:aU:=⟨⟩;refine z1 ?_;intros;all_goals first|exact⟨rfl,rfl,_,rfl,HQ⟩|exact⟨ac,ac⟩)
 .obtain⟨a,b,c,rfl⟩:=tn hT;obtain⟨a',b',c',rfl⟩:=tn hL
  (show Zx EM false (Tryz.a775 _) _ _ _ _;haveI:aU:=⟨⟩;refine z1 ?_;intros;all_goals first|exact⟨rfl,rfl,_,rfl,HQ⟩|exact⟨ac,ac⟩)
 .obtain⟨a,b,c,d,rfl⟩:=tp hT;obtain⟨a',b',c',d',rfl⟩:=tp hL
  (show Zx EM false (Tryz.a775 _) _ _ _ _;haveI:aU:=⟨⟩;refine z1 ?_;intros;all_goals first|exact⟨rfl,rfl,_,rfl,HQ⟩|exact⟨ac,ac⟩)
end
theorem b9.row {t}{key b:Int}{q:Nat}{σ l}(h:b9 t key q b σ l):∃(ln lv pred known cur w:Int) (qt k:Nat) (c:List AV),l=[.obj q (.row (t.vi key ln lv pred known cur w qt k b 0)),.obj qt (.row c)]:=by
 cases h<;>exact⟨_,_,_,_,_,_,_,_,_,rfl⟩
instance z36 {n:Nat}[Mn n [761,636,774,779,778,776,762,763,764,777,765,766,767,768,769,770,771,772,773]]:cH n where
def Tw.pP (t:Tw)(ko:Bool)(ref key i high cb lv w:Int)(place ret:AV)(cM er:Int):List AV:=t.cs++[B true,B ko,U ref,U key,I i,I high,I cb,I lv,U w,place,ret,U cM,I er]
inductive lz (t:Tw)(i g key high:Int)(q:Nat)(b:Int):cW->List Own->Prop
 |f {ko:Bool}{lv w bf:Int}{ret}{qf:Nat}{F lf}(h:b9 t key qf bf F lf)(ho:F.over=false):lz t i g key high q b (.f F) (.obj q (.row (t.pP ko (aD i g) key i high 1 lv w (.ptr qf 0) ret b 0))::lf)
 |s {ko:Bool}{w bf:Int}{ret}{qf l:Nat}{T lf}(hl:(l:Int)<high)(h:b9 t key qf bf (.d T) lf):lz t i g key high q b (.s l T) (.obj q (.row (t.pP ko (aD i g) key i high 2 l w (.ptr qf 0) ret b 0))::lf)
 |e {ko:Bool}{w bf:Int}{ret}{qf:Nat}{T lf}(h:b9 t key qf bf (.d T) lf):lz t i g key high q b (.e T) (.obj q (.row (t.pP ko (aD i g) key i high 3 0 w (.ptr qf 0) ret b 0))::lf)
 |l {ko:Bool}{w lv bf:Int}{ret}{qf l:Nat}{T lf}(hv:lv=l)(hl:(l:Int)<high)(h:b9 t key qf bf (.d T) lf):lz t i g key high q b (.l l T) (.obj q (.row (t.pP ko (aD i g) key i high 4 lv w (.ptr qf 0) ret b 0))::lf)
 |t {ko:Bool}{w bf:Int}{ret}{qf l:Nat}{T lf}(hl:(l:Int)<high)(hw:Me.ar w)(h:b9 t key qf bf (.d T) lf):lz t i g key high q b (.t l w T) (.obj q (.row (t.pP ko (aD i g) key i high 5 l w (.ptr qf 0) ret b 0))::lf)
 |k {ko:Bool}{w bf:Int}{ret}{qf l:Nat}{T lf}(hl:(l:Int)<high)(h:b9 t key qf bf (.d T) lf):lz t i g key high q b (.k l T) (.obj q (.row (t.pP ko (aD i g) key i high 6 l w (.ptr qf 0) ret b 0))::lf)
 |g {ko:Bool}{w bf:Int}{ret}{qf l:Nat}{F lf}(hl:(l:Int)<high)(h:b9 t key qf bf F lf)(ho:F.over=false):lz t i g key high q b (.g l F) (.obj q (.row (t.pP ko (aD i g) key i high 7 l w (.ptr qf 0) ret b 0))::lf)
 |o {ko:Bool}{w bf:Int}{ret}{qf l:Nat}{T lf}(hl:(l:Int)<high)(h:b9 t key qf bf (.d T) lf):lz t i g key high q b (.o l T) (.obj q (.row (t.pP ko (aD i g) key i high 8 l w (.ptr qf 0) ret b 0))::lf)
 |q {ko:Bool}{lv w:Int}{place ret}:lz t i g key high q b .q [.obj q (.row (t.pP ko (aD i g) key i high 9 lv w place ret b 0))]
 |c {ko:Bool}{lv w bf:Int}{ret}{qf:Nat}{F lf}(h:b9 t key qf bf F lf)(ho:F.over=false):lz t i g key high q b (.c F) (.obj q (.row (t.pP ko (aD i g) key i high 10 lv w (.ptr qf 0) ret b 0))::lf)
 |r {ko:Bool}{lv w:Int}{place ret}:lz t i g key high q b .r [.obj q (.row (t.pP ko (aD i g) key i high 11 lv w place ret b 0))]
 |w {ko:Bool}{lv w:Int}{place}{qr:Nat}{σ lr}(h:An t.l i qr σ lr)(ho:σ.over=false):lz t i g key high q b (.w σ) (.obj q (.row (t.pP ko (aD i g) key i high 12 lv w place (.ptr qr 0) b 0))::lr)
 |d {ko:Bool}{lv w:Int}{place ret}:lz t i g key high q b (.d 0) [.obj q (.row (t.pP ko (aD i g) key i high 0 lv w place ret b 0))]
section
variable{B0 S:AH}{W:List Nat}{own R lo:List Own}{ro:List aB}{m bl q:Nat}{x:Me}{rest:List AV}{t:Tw}{i g key high b:Int}
theorem yE {a:bS}(h:a.over=true):∃T,a=.d T:=by cases a<;>first|exact⟨_,rfl⟩|cases h
theorem Es {o1 own:List Own}(e:o1=own:=by conv=>lhs;simp only[Tw.pP,Tw.vi,Tw.cs,Lb.cs,Ar.cs,Ep.cs,lA,lB,lC]):o1=own:=e
theorem Dn {σ:cW}(hs:t.ok)(hr:t.rf i g)(hh:1<=high/\high<=t.ht)(hx:x.gd)(ho:σ.over=false)(Dm:Me.ar key)(h:lz t i g key high q b σ lo)(H:Cx B0 W S (lo++(ad m bl x rest++R)) ro):
  aG EM (zF 760) [.ptr q 0,.ptr m 0] S λu S'=>∃ab,eW (lz t i g key high q (σ.cM (aD i g))) cW.over (σ.step t (aD i g) key high x) (ad m bl · rest) R u ab/\Cx B0 W S' ab ro:=by
 have bt:=hs;unfold Tw.ok Lb.ok Ar.ok Sk.ok Ep.ok at bt;have py:=hr;unfold Tw.rf dw at py;have mX:=Tw.xe hr;have hw:=lj hr.1;haveI:aU:=⟨⟩;cases h with
 |@f ko lv w bf ret qf F lf h hF=>
  refine y1 H Es ?_;intros;refine Vx.fV (A:=[_,_,_]) (λB W S H=>qX hs hx hF Dm h H) λa' x' l' e hl=>?_;have e2:(cW.f F).step t (aD i g) key high x=(cW.Hh a',x'):=by show(cW.Hh _,_)=_;rw[e]
  by_cases ho:a'.over=true
  .obtain⟨T,rfl⟩:=yE ho;have oS:=hl.row;obtain⟨ln,Fs,pred,known,cur,w2,qt,k,c,rfl⟩:=oS;rw[ho];refine z1 ?_;exact aa e2 (.s (l:=0) am hl) rfl HQ
  .rw[Bool.not_eq_true] at ho;have oS:=hl.row;obtain⟨ln,Fs,pred,known,cur,w2,qt,k,c,rfl⟩:=oS;rw[ho];refine z1 ?_;have e3:(cW.f F).step t (aD i g) key high x=(.f a',x'):=e2.trans (Prod.ext (by cases a'<;>first|rfl|cases ho) rfl);exact aa e3 (.f hl ho) rfl HQ
 |@s ko w bf ret qf l T lf hl h=>
  have e2:(cW.s l T).step t (aD i g) key high x=(if high<=(l:Int)+1 then .e T else .s (l+1) T,x.st (t.nx i l) (T.cb l).cur):=by show(_,x.st (t.nx (t.ix _) _) _)=_;rw[mX]
  cases h with
  |@d k qt lv pred known cur w' T L hk hT hL=>
  have Aw:=hT.1;have h4:high=1\/high=2\/high=3\/high=4:=am;have h5:l=0\/l=1\/l=2\/l=3:=am;have hat:=(gr.Ax (l:=l) hT am).2.2;by_cases hc:high<=(l:Int)+1
  .have e3:=e2;rw[if_pos hc] at e3;clear e2;rcases h4 with rfl|rfl|rfl|rfl<;>rcases h5 with rfl|rfl|rfl|rfl<;>first|(exfalso;omega)|skip
   all_goals((refine y1 H Es ?_;intros))
   all_goals exact aa e3 (.e (.d hk hT hL)) rfl HQ
  .have e3:=e2;rw[if_neg hc] at e3;have Bt:((l+1:Nat):Int)<high:=am;clear e2;rcases h4 with rfl|rfl|rfl|rfl<;>rcases h5 with rfl|rfl|rfl|rfl<;>first|(exfalso;omega)|skip
   all_goals((refine y1 H Es ?_;intros))
   all_goals exact aa e3 (.s Bt (.d hk hT hL)) rfl HQ
 |@e ko w bf ret qf T lf h=>
  cases h with
  |@d k qt lv pred known cur w' T L hk hT hL=>
  have Aw:=hT.1;have ho:=gr.Ax (l:=0) hT am;unfold Sp.ok at ho;have XU:-1<=(T.cb (Int.toNat 0)).pred/\(T.cb (Int.toNat 0)).pred<t.l.a.f.size:=ho.1;refine y3 H Es ?_ ?_ ?_<;>intros
  .next h1 p l' hF=>exact aa (Prod.ext (if_neg (Nk h1)) rfl) (.f (show b9 t key p 0 (.new t) l' from hF) rfl) rfl HQ
  .next h1 h2=>exact aa (Prod.ext ((if_pos (B8 h1)).trans (if_pos h2)) rfl) .q rfl HQ
  .next h1 h2=>exact aa (Prod.ext ((if_pos (B8 h1)).trans (if_neg h2)) rfl) (.l (l:=1) rfl (Int.not_le.1 h2) (.d hk hT hL)) rfl HQ
 |@l ko w lv0 bf ret qf l T lf hv hl h=>
  subst hv;have hb:=Me.aj hx (t.nx i l);have e2:(cW.l l T).step t (aD i g) key high x=(if 9223372036854775808<=x.word (t.nx i l) then .q else if x.word (t.nx i l)=(T.cb l).cur then .k l T else .t l (x.word (t.nx i l)) T,x.ld (t.nx i l)):=by show(if _<=x.word (t.nx (t.ix _) _) then _ else _,x.ld (t.nx (t.ix _) _))=_;rw[mX]
  cases h with
  |@d k qt lv pred known cur w' T L hk hT hL=>
  have Aw:=hT.1;refine y3 H Es ?_ ?_ ?_<;>intros
  .next h1=>exact aa (e2.trans (Prod.ext (if_pos h1) rfl)) .q rfl HQ
  .next h1 v o1 o2 o3 h2=>exact aa (e2.trans (Prod.ext ((if_neg h1).trans (if_neg h2)) rfl)) (.t hl hb (.d hk hT hL)) rfl HQ
  .next h1 v o1 o2 o3 h2=>exact aa (e2.trans (Prod.ext ((if_neg h1).trans (if_pos (Decidable.not_not.1 h2))) rfl)) (.k hl (.d hk hT hL)) rfl HQ
 |@t ko w bf ret qf l T lf hl hw h=>
  have e2:(cW.t l w T).step t (aD i g) key high x=(if x.eq (t.nx i l) w then .k l T else .q,x.eL (t.nx i l) w (T.cb l).cur):=by show(if x.eq (t.nx (t.ix _) _) _ then _ else _,x.eL (t.nx (t.ix _) _) _ _)=_;rw[mX]
  cases h with
  |@d k qt lv pred known cur w' T L hk hT hL=>
  have Aw:=hT.1;refine y2 H Es ?_ ?_<;>intros
  .next h1=>exact aa (e2.trans (Prod.ext (if_pos h1) rfl)) (.k hl (.d hk hT hL)) rfl HQ
  .next h1=>exact aa (e2.trans (Prod.ext (if_neg h1) rfl)) .q rfl HQ
 |@k ko w bf ret qf l T lf hl h=>
  cases h with
  |@d k qt lv pred known cur w' T L hk hT hL=>
  have Aw:=hT.1;have ho:=gr.Ax (l:=l) hT am;unfold Sp.ok at ho;have XU:-1<=(T.cb (Int.toNat l)).pred/\(T.cb (Int.toNat l)).pred<t.l.a.f.size:=ho.1;refine y3 H Es ?_ ?_ ?_<;>intros
  .next h1 p l' hF=>exact aa (Prod.ext (if_neg (Nk h1)) rfl) (.g hl (show b9 t key p 0 (.new t) l' from hF) rfl) rfl HQ
  .next h1 h2=>exact aa (Prod.ext ((if_pos (B8 h1)).trans (if_pos h2)) rfl) .q rfl HQ
  .next h1 h2=>exact aa (Prod.ext ((if_pos (B8 h1)).trans (if_neg h2)) rfl) (.l (l:=l+1) rfl (Int.not_le.1 h2) (.d hk hT hL)) rfl HQ
 |@g ko w bf ret qf l F lf Be h hF=>
  refine y1 H Es ?_;intros;refine Vx.fV (A:=[_,_,_]) (λB W S H=>qX hs hx hF Dm h H) λa' x' l' e hl=>?_;have e2:(cW.g l F).step t (aD i g) key high x=(cW.Hi l a',x'):=by show(cW.Hi _ _,_)=_;rw[e]
  by_cases ho:a'.over=true
  .obtain⟨T,rfl⟩:=yE ho;have oS:=hl.row;obtain⟨ln,Fs,pred,known,cur,w2,qt,k,c,rfl⟩:=oS;rw[ho];refine z1 ?_;exact aa e2 (.o Be hl) rfl HQ
  .rw[Bool.not_eq_true] at ho;have oS:=hl.row;obtain⟨ln,Fs,pred,known,cur,w2,qt,k,c,rfl⟩:=oS;rw[ho];refine z1 ?_;have e3:(cW.g l F).step t (aD i g) key high x=(.g l a',x'):=e2.trans (Prod.ext (by cases a'<;>first|rfl|cases ho) rfl);exact aa e3 (.g Be hl ho) rfl HQ
 |@o ko w bf ret qf l T lf hl h=>
  have hb:=Me.aj hx (t.nx i 0);have e2:(cW.o l T).step t (aD i g) key high x=(if 9223372036854775808<=x.word (t.nx i 0) then .c (.new t) else .l l T,x.ld (t.nx i 0)):=by show(if _<=x.word (t.nx (t.ix _) _) then _ else _,x.ld (t.nx (t.ix _) _))=_;rw[mX]
  refine y2 H Es ?_ ?_<;>intros
  .next h1 p l' hF=>exact aa (e2.trans (Prod.ext (if_pos h1) rfl)) (.c (show b9 t key p 0 (.new t) l' from hF) rfl) rfl HQ
  .next h1=>exact aa (e2.trans (Prod.ext (if_neg h1) rfl)) (.l rfl hl h) rfl HQ
 |@q ko lv w place ret=>
  have hb:=Me.aj hx (t.nx i 0);have e2:(cW.q).step t (aD i g) key high x=(if 9223372036854775808<=x.word (t.nx i 0) then .c (.new t) else .r,x.ld (t.nx i 0)):=by show(if _<=x.word (t.nx (t.ix _) _) then _ else _,x.ld (t.nx (t.ix _) _))=_;rw[mX]
  refine y2 H Es ?_ ?_<;>intros
  .next h1 p l' hF=>exact aa (e2.trans (Prod.ext (if_pos h1) rfl)) (.c (show b9 t key p 0 (.new t) l' from hF) rfl) rfl HQ
  .next h1=>exact aa (e2.trans (Prod.ext (if_neg h1) rfl)) .r rfl HQ
 |@c ko lv w bf ret qf F lf h hF=>
  refine y1 H Es ?_;intros;refine Vx.fV (A:=[_,_,_]) (λB W S H=>qX hs hx hF Dm h H) λa' x' l' e hl=>?_;have e2:(cW.c F).step t (aD i g) key high x=(if a'.over then .r else .c a',x'):=by show(_,_)=_;rw[e]
  have oS:=hl.row;obtain⟨ln,Fs,pred,known,cur,w2,qt,k,c,rfl⟩:=oS;cases ho:a'.over
  .refine z1 ?_;exact aa (e2.trans (Prod.ext (if_neg (by rw[ho];simp)) rfl)) (.c hl ho) rfl HQ
  .refine z1 ?_;exact aa (e2.trans (Prod.ext (if_pos ho) rfl)) .r rfl HQ
 |@r ko lv w place ret=>
  have hn:iy.new t.l i=.a:=if_neg am;have e2:(cW.r).step t (aD i g) key high x=(if(x.add (t.pt i 3) 18446744073709551615).new=0 then .w .a else .d 0,x.add (t.pt i 3) 18446744073709551615):=by show(if(x.add (t.pt (t.ix _) _) _).new=0 then cW.w (iy.new _ (t.ix _)) else _,x.add (t.pt (t.ix _) _) _)=_;rw[mX,hn]
  refine y2 H Es ?_ ?_<;>intros
  .next h1=>exact aa (e2.trans (Prod.ext (if_neg h1) rfl)) .d rfl HQ
  .next h1 p1 p2 h2 h3=>exact aa (e2.trans (Prod.ext (if_pos (Decidable.not_not.1 h1)) rfl)) (.w (.a ⟨am,am⟩) rfl) rfl HQ
 |@w ko lv w place qr σ lr h hF=>
  refine y1 H Es ?_;intros;refine Vx.fV (A:=[_,_,_]) (λB W S H=>Di hs.2.2.2.2 hx h H) λa' x' l' e hl=>?_;have e2:(cW.w σ).step t (aD i g) key high x=(if a'.over then .d 0 else .w a',x'):=by show(if(σ.step t.l (t.ix _) x).1.over then _ else _,(σ.step t.l (t.ix _) x).2)=_;rw[mX,e]
  cases ho:a'.over
  .refine z1 ?_;exact aa (e2.trans (Prod.ext (if_neg (by rw[ho];simp)) rfl)) (.w hl ho) rfl HQ
  .refine z1 ?_;exact aa (e2.trans (Prod.ext (if_pos ho) rfl)) .d rfl HQ
 |d=>cases ho
end
section
variable{nd hd ht c3 c4 n c6 c7 c8 c9 dP dp dM i g key high:Int}
instance Nl:VC EM (zF 634) [.agg [I nd,I hd,I ht,I c3,I c4,I n,I c6,I c7,I c8,I c9,I dP,I dp,I dM],U (aD i g),I high] (((0<=nd/\nd<4096)/\(0<=hd/\hd<4096)/\(1<=ht/\ht<=4)/\1<=n/\n<=128)/\(dw i g/\i<n)/\1<=high/\high<=ht) (I 0):=.of rfl rfl λ⟨h,hi,hh⟩=>by
 have kj:=hi;unfold dw at kj;have h0:0<=p9 nd ht 0 0:=by unfold p9;omega
 show Zx EM false (Tryz.a634 _) _ _ _ _;refine z1 ?_;intros;exact hi.1
instance XV:NC EM (zF 624) [.agg [I nd,I hd,I ht,I c3,I c4,I n,I c6,I c7,I c8,I c9,I dP,I dp,I dM],U (aD i g),U key,I high] (((0<=nd/\nd<4096)/\(0<=hd/\hd<4096)/\(1<=ht/\ht<=4)/\1<=n/\n<=128)/\(dw i g/\i<n)/\1<=high/\high<=ht)
  (λp l=>lz ⟨nd,hd,ht,⟨⟨⟨c3,c4,n⟩,c6,c7,c8⟩,⟨c9,dP,dp⟩,dM⟩⟩ i g key high p 0 (.f (.new ⟨nd,hd,ht,⟨⟨⟨c3,c4,n⟩,c6,c7,c8⟩,⟨c9,dP,dp⟩,dM⟩⟩)) l):=.of rfl rfl λh ro R=>by
 obtain⟨h0,hi,hh⟩:=h;show Zx EM false (Tryz.a624 _) _ _ _ _;refine z3 ?_ ?_ ?_<;>intros
 .exact⟨h0,hi,hh⟩
 .exact hi.1
 .next a b p l h=>exact⟨rfl,rfl,(_::(l++R)),⟨_,_,lz.f h rfl,rfl,rfl⟩,HQ⟩
end
end Go.cO
