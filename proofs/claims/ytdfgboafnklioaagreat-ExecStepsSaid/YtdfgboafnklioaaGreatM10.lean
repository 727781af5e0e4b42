/- Contracts. Conditions: in each theorem. -/
import Derived.Test.YtdfgboafnklioaaGreatM0
set_option linter.all false
set_option maxRecDepth 100000
set_option maxHeartbeats 4000000
namespace Go.cG
open Go.Proofs
section
variable{nd hd ht c3 c4 n c6 c7 c8 c9 dS dt dW key ln lv pred known cur w cR er:Int}{told:AV}{q qt k:Nat}{R0:List Own}{L:List Int}{T:gL}
instance Qy {v:Int}:SC EM (zF 736) [.ptr q 0,U v] (.obj q (.row [I nd,I hd,I ht,I c3,I c4,I n,I c6,I c7,I c8,I c9,I dS,I dt,I dW,U key,I ln,I lv,I pred,U known,U cur,U w,told,U cR,B true,I er])::R0) (Me.aC v/\1<=n) (I (idx n v))
  (.obj q (.row [I nd,I hd,I ht,I c3,I c4,I n,I c6,I c7,I c8,I c9,I dS,I dt,I dW,U key,I ln,I lv,I pred,U known,U cur,U w,told,U cR,B true,I er])::R0):=.of rfl rfl λh ro R=>by
 show Zx EM false (Tryz.a736 _) _ _ _ _;have h1:=h.1;refine z2 ?_ ?_<;>intros
 .exact⟨rfl,rfl,_,⟨by unfold idx;rw[if_neg am];rfl,rfl⟩,HQ⟩
 .exact⟨rfl,rfl,_,⟨by unfold idx;rw[if_pos am];rfl,rfl⟩,HQ⟩
end
instance z33:cK 738 where
instance Vq {w:Int}:VC EM (zF 641) [U w,B false] (9223372036854775808<=w/\w<18446744073709551616) (U (w-9223372036854775808)) where
 ok:=λh S=>by have e:w%9223372036854775808=w-9223372036854775808:=am;refine az (NT.ok (show Me.aC w by unfold Me.aC;omega) S) λr S' ⟨h1,h2⟩=>⟨?_,h2⟩;rw[h1,e]
def Tw.vJ (t:Tw)(key ln lv pred known cur w:Int)(qt k:Nat)(cR er:Int):List AV:=t.cs++[U key,I ln,I lv,I pred,U known,U cur,U w,.sl qt 0 k k,U cR,B true,I er]
structure xM (t:Tw)(k l:Nat)(lv pred known:Int)(T:gL)(L:List Int):Prop where
 hk:(k:Int)=t.ht
 hl:l<k
 hv:lv=l
 hp:-1<=pred/\pred<t.l.a.f.size
 hn:Me.aC known
 hT:T.ok t
 hL:L.length=k
inductive b_ (t:Tw)(key:Int)(q:Nat)(cR:Int):bO->List Own->Prop
 |a {l k qt:Nat}{lv pred known w:Int}{T L}(h:xM t k l lv pred known T L):b_ t key q cR (.a l pred known T) [.obj q (.row (t.vJ key 1 lv pred known 0 w qt k cR 0)),.obj qt (.row (iD L T))]
 |b {l k qt:Nat}{lv pred known cur w:Int}{T L}(h:xM t k l lv pred known T L)(hc:Me.aC cur)(hi:¬t.ix cur<0):b_ t key q cR (.b l pred known cur T) [.obj q (.row (t.vJ key 2 lv pred known cur w qt k cR 0)),.obj qt (.row (iD L T))]
 |c {l k qt:Nat}{lv pred known cur w:Int}{T L}(h:xM t k l lv pred known T L)(hc:Me.aC cur)(hi:¬t.ix cur<0)(hw:Me.aC w)(hm:9223372036854775808<=w):b_ t key q cR (.c l pred known cur w T) [.obj q (.row (t.vJ key 3 lv pred known cur w qt k cR 0)),.obj qt (.row (iD L T))]
 |e {l k qt:Nat}{lv pred known cur w:Int}{T L}(h:xM t k l lv pred known T L)(hc:Me.aC cur)(hi:¬t.ix cur<0)(hw:Me.aC w):b_ t key q cR (.e l pred known cur w T) [.obj q (.row (t.vJ key 4 lv pred known cur w qt k cR 0)),.obj qt (.row (iD L T))]
 |d {k qt:Nat}{lv pred known cur w:Int}{T L}(hk:(k:Int)=t.ht)(hT:T.ok t)(hL:L.length=k):b_ t key q cR (.d T) [.obj q (.row (t.vJ key 9 lv pred known cur w qt k cR 0)),.obj qt (.row (iD L T))]
theorem NV {p:Prop}[Decidable p](h:(!decide p)=true):¬p:=by simpa using h
theorem Cn {p:Prop}[Decidable p](h:(!decide p)=false):p:=by simpa using h
theorem gL.HZ {t:Tw}{T:gL}{s:Sp}(h:T.ok t)(hs:s.ok t)(l:Nat):gL.ok t (List.set T l s):=by
 refine⟨by rw[List.length_set];exact h.1,λv hv=>?_⟩;rcases List.mem_or_eq_of_mem_set hv with hv|rfl;.exact h.2 v hv
 .exact hs
theorem bO.gN {l:Nat}{pred known cur:Int}{T}:(bO.done l pred known cur T).over=decide (Cm l=9):=by cases l<;>rfl
section
variable{B0 S:AH}{W:List Nat}{own R lo:List Own}{ro:List aI}{m bl q qt k:Nat}{x:Me}{rest:List AV}{t:Tw}{key cR known pred cur w lv:Int}{L:List Int}{T:gL}{l:Nat}
theorem b_.done (h:xM t k l lv pred known T L)(hc:Me.aC cur):b_ t key q cR (bO.done l pred known cur T) [.obj q (.row (t.vJ key (Cm l) (Mh l) pred known (Mi l cur) w qt k cR 0)),.obj qt (.row (iD (L.set l (l:Int)) (List.set T l ⟨pred,known,cur⟩)))]:=by
 have ht:=gL.HZ h.hT (s:=⟨pred,known,cur⟩) ⟨h.hp,h.hn,hc⟩ l;cases l with
 |zero=>exact .d h.hk ht (by rw[List.length_set];exact h.hL)
 |succ l=>exact .a ⟨h.hk,by have:=h.hl;omega,rfl,h.hp,h.hn,ht,by rw[List.length_set];exact h.hL⟩
theorem b_.je (ht:1<=t.ht/\1<=t.l.a.f.size)(hk:(k:Int)=t.ht)(hT:T.ok t)(hL:L.length=k):b_ t key q cR (bO.je t T) [.obj q (.row (t.vJ key 1 (t.ht-1) (-1) 0 0 w qt k cR 0)),.obj qt (.row (iD L T))]:=
 .a ⟨hk,am,am,am,by unfold Me.aC;omega,hT,hL⟩
theorem Vr {o1 own:List Own}(e:o1=own:=by conv=>lhs;simp only[Tw.vJ,Tw.cs,Lb.cs,Ar.cs,Ep.cs,lA,lB,lC]):o1=own:=e
theorem ry {σ:bO}(hs:t.ok)(hx:x.gd)(ho:σ.over=false)(DH:Me.aC key)(h:b_ t key q cR σ lo)(H:Cx B0 W S (lo++(ae m bl x rest++R)) ro):
  aN EM (zF 732) [.ptr q 0,.ptr m 0] S λu S'=>∃ab,fb (b_ t key q σ.cR) bO.over (σ.step t key x) (ae m bl · rest) R u ab/\Cx B0 W S' ab ro:=by
 have bt:=hs;unfold Tw.ok Lb.ok Ar.ok Sk.ok Ep.ok at bt;haveI:aY:=⟨⟩;cases h with
 |@a l k qt lv pred known w T L h=>
  have I:=h;obtain⟨hk,hl,rfl,hp,hn,hT,hL⟩:=h;have AQ:=hT.1;have hb:=Me.aj hx (t.nx pred l);refine y4 H Vr ?_ ?_ ?_ ?_<;>intros
  .next h=>exact aa (Prod.ext (if_pos h) rfl) (b_.je ⟨am,am⟩ hk hT hL) rfl HQ
  .next h1 h2 h=>exact aa (Prod.ext ((if_neg h1).trans (if_pos h2)) rfl) (b_.done I hb) (bO.gN.trans (decide_eq_true h)) HQ
  .next h1 h2 h=>exact aa (Prod.ext ((if_neg h1).trans (if_pos h2)) rfl) (b_.done I hb) (bO.gN.trans (decide_eq_false h)) HQ
  .next h1 h2=>exact aa (Prod.ext ((if_neg h1).trans (if_neg h2)) rfl) (.b I hb h2) rfl HQ
 |@b l k qt lv pred known cur w T L h hc hi=>
  have I:=h;obtain⟨hk,hl,rfl,hp,hn,hT,hL⟩:=h;have AQ:=hT.1;have wX:=gp (n:=t.l.a.f.size) (w:=cur) am;have hb:=Me.aj hx (t.nx (t.ix cur) l);have So:0<=idx t.l.a.f.size cur:=by unfold Tw.ix Tw.size at hi;omega
  refine y2 H Vr ?_ ?_<;>intros
  .next h=>exact aa (Prod.ext (if_pos h) rfl) (.c I hc hi hb h) rfl HQ
  .next h=>exact aa (Prod.ext (if_neg h) rfl) (.e I hc hi hb) rfl HQ
 |@c l k qt lv pred known cur w T L h hc hi hw hm=>
  have I:=h;obtain⟨hk,hl,rfl,hp,hn,hT,hL⟩:=h;have AQ:=hT.1;have wX:=gp (n:=t.l.a.f.size) (w:=cur) am;have So:0<=idx t.l.a.f.size cur:=by unfold Tw.ix Tw.size at hi;omega
  have hb:Me.aC (w-9223372036854775808):=by unfold Me.aC at*;omega
  refine y4 H Vr ?_ ?_ ?_ ?_<;>intros
  .next h=>exact aa (Prod.ext (if_neg (NV h)) rfl) (b_.je ⟨am,am⟩ hk hT hL) rfl HQ
  .next h1 h2 h=>exact aa (Prod.ext ((if_pos (Cn h1)).trans (if_pos h2)) rfl) (b_.done I hb) (bO.gN.trans (decide_eq_true h)) HQ
  .next h1 h2 h=>exact aa (Prod.ext ((if_pos (Cn h1)).trans (if_pos h2)) rfl) (b_.done I hb) (bO.gN.trans (decide_eq_false h)) HQ
  .next h1 h2=>exact aa (Prod.ext ((if_pos (Cn h1)).trans (if_neg h2)) rfl) (.b I hb h2) rfl HQ
 |@e l k qt lv pred known cur w T L h hc hi hw=>
  have I:=h;obtain⟨hk,hl,rfl,hp,hn,hT,hL⟩:=h;have AQ:=hT.1;have wX:=gp (n:=t.l.a.f.size) (w:=cur) am;have So:0<=idx t.l.a.f.size cur:=by unfold Tw.ix Tw.size at hi;omega
  have I2:xM t k l l (t.ix cur) cur T L:=⟨hk,hl,rfl,wX,hc,hT,hL⟩;refine Vx.fm H Vr ?_;(repeat' first|constructor|exact ZQ|intro _);all_goals apply zL
  .next h1 h=>exact aa (Prod.ext (if_neg (Int.not_lt.2 h1)) rfl) (b_.done I hc) (bO.gN.trans (decide_eq_true h)) HQ
  .next h1 h=>exact aa (Prod.ext (if_neg (Int.not_lt.2 h1)) rfl) (b_.done I hc) (bO.gN.trans (decide_eq_false h)) HQ
  .next h1 h2 h=>exact aa (Prod.ext ((if_pos (Int.not_le.1 h1)).trans (if_pos h2)) rfl) (b_.done I2 hw) (bO.gN.trans (decide_eq_true h)) HQ
  .next h1 h2 h=>exact aa (Prod.ext ((if_pos (Int.not_le.1 h1)).trans (if_pos h2)) rfl) (b_.done I2 hw) (bO.gN.trans (decide_eq_false h)) HQ
  .next h1 h2=>exact aa (Prod.ext ((if_pos (Int.not_le.1 h1)).trans (if_neg h2)) rfl) (.b I2 hw h2) rfl HQ
 |d=>cases ho
end
theorem gL.H0 {t}(ht:1<=t.ht)(hn:1<=t.l.a.f.size):gL.ok t (List.replicate t.ht.toNat Sp.z):=by refine⟨by rw[List.length_replicate];omega,λs hs=>?_⟩;rw[List.eq_of_mem_replicate hs];exact⟨⟨by show-1<=(0:Int);omega,by show(0:Int)<_;omega⟩,by show Me.aC 0;unfold Me.aC;omega,by show Me.aC 0;unfold Me.aC;omega⟩
theorem gL.AR {t:Tw}{T:gL}(h:T.ok t){l:Nat}(hl:(l:Int)<t.ht):(T.bh l).ok t:=by
 have BI:l<T.length:=by have:=h.1;omega
 unfold gL.bh;rw[List.getElem?_eq_getElem BI];exact h.2 _ (List.getElem_mem BI)
instance Vs {T:gL}{i:Int}:Mb (T.map λs=>[I s.pred]) i (0<=i/\i<T.length) (I (T.bh i.toNat).pred) where
 ok:=λh=>⟨i.toNat,am,by rw[List.getElem?_map];unfold gL.bh;rw[List.getElem?_eq_getElem am];rfl⟩
instance Sq {T:gL}{i:Int}:Mb (T.map λs=>[U s.known]) i (0<=i/\i<T.length) (U (T.bh i.toNat).known) where
 ok:=λh=>⟨i.toNat,am,by rw[List.getElem?_map];unfold gL.bh;rw[List.getElem?_eq_getElem am];rfl⟩
instance Yj {T:gL}{i:Int}:Mb (T.map λs=>[U s.cur]) i (0<=i/\i<T.length) (U (T.bh i.toNat).cur) where
 ok:=λh=>⟨i.toNat,am,by rw[List.getElem?_map];unfold gL.bh;rw[List.getElem?_eq_getElem am];rfl⟩
instance z34:cK 780 where
instance z35:cK 783 where
section
variable{nd hd ht c3 c4 n c6 c7 c8 c9 dS dt dW key ln lv pred known cur w cR er:Int}{told:AV}{q qt k:Nat}{R0:List Own}{L:List Int}{T:gL}
instance Vt:NC EM (zF 643) [.agg [I nd,I hd,I ht,I c3,I c4,I n,I c6,I c7,I c8,I c9,I dS,I dt,I dW],U key] ((0<=nd/\nd<4096)/\(0<=hd/\hd<4096)/\(1<=ht/\ht<=4)/\1<=n/\n<=128)
  (λp l=>b_ ⟨nd,hd,ht,⟨⟨⟨c3,c4,n⟩,c6,c7,c8⟩,⟨c9,dS,dt⟩,dW⟩⟩ key p 0 (.new ⟨nd,hd,ht,⟨⟨⟨c3,c4,n⟩,c6,c7,c8⟩,⟨c9,dS,dt⟩,dW⟩⟩) l):=.of rfl rfl λh ro R=>by
 have hT:=gL.H0 (t:=⟨nd,hd,ht,⟨⟨⟨c3,c4,n⟩,c6,c7,c8⟩,⟨c9,dS,dt⟩,dW⟩⟩) h.2.2.1.1 h.2.2.2.1;have h0:0<=Cl nd hd ht (-1) 0:=by unfold Cl;rw[if_pos rfl];omega
 have:ht=1\/ht=2\/ht=3\/ht=4:=am;rcases this with rfl|rfl|rfl|rfl
 .show Zx EM false (Tryz.a643 _) _ _ _ _;refine z1 ?_;intros;exact⟨rfl,rfl,(_::_::R),⟨_,_,b_.je (L:=[0]) (k:=1) ⟨h.2.2.1.1,h.2.2.2.1⟩ rfl hT rfl,rfl,rfl⟩,HQ⟩
 .show Zx EM false (Tryz.a643 _) _ _ _ _;refine z1 ?_;intros;exact⟨rfl,rfl,(_::_::R),⟨_,_,b_.je (L:=[0,0]) (k:=2) ⟨h.2.2.1.1,h.2.2.2.1⟩ rfl hT rfl,rfl,rfl⟩,HQ⟩
 .show Zx EM false (Tryz.a643 _) _ _ _ _;refine z1 ?_;intros;exact⟨rfl,rfl,(_::_::R),⟨_,_,b_.je (L:=[0,0,0]) (k:=3) ⟨h.2.2.1.1,h.2.2.2.1⟩ rfl hT rfl,rfl,rfl⟩,HQ⟩
 .show Zx EM false (Tryz.a643 _) _ _ _ _;refine z1 ?_;intros;exact⟨rfl,rfl,(_::_::R),⟨_,_,b_.je (L:=[0,0,0,0]) (k:=4) ⟨h.2.2.1.1,h.2.2.2.1⟩ rfl hT rfl,rfl,rfl⟩,HQ⟩
instance Qz:NS EM (zF 781) [.ptr q 0] (.obj q (.row [I nd,I hd,I ht,I c3,I c4,I n,I c6,I c7,I c8,I c9,I dS,I dt,I dW,U key,I 9,I lv,I pred,U known,U cur,U w,.sl qt 0 k k,U cR,B true,I 0])::.obj qt (.row (iD L T))::R0) ((1<=k/\k<=4)/\T.length=k/\L.length=k) (T.map λs=>[U s.known]):=.of rfl rfl λ⟨hk,hT,hL⟩ ro R=>by
 have:k=1\/k=2\/k=3\/k=4:=am;rcases this with rfl|rfl|rfl|rfl
 .obtain⟨a,rfl⟩:=tD hT;obtain⟨a',rfl⟩:=tD hL
  (show Zx EM false (Tryz.a781 _) _ _ _ _;haveI:aY:=⟨⟩;refine z1 ?_;intros;all_goals first|exact⟨rfl,rfl,_,rfl,HQ⟩|exact⟨ac,ac⟩)
 .obtain⟨a,b,rfl⟩:=tE hT;obtain⟨a',b',rfl⟩:=tE hL
  (show Zx EM false (Tryz.a781 _) _ _ _ _;haveI:aY:=⟨⟩;refine z1 ?_;intros;all_goals first|exact⟨rfl,rfl,_,rfl,HQ⟩|exact⟨ac,ac⟩)
 .obtain⟨a,b,c,rfl⟩:=tF hT;obtain⟨a',b',c',rfl⟩:=tF hL
  (show Zx EM false (Tryz.a781 _) _ _ _ _;haveI:aY:=⟨⟩;refine z1 ?_;intros;all_goals first|exact⟨rfl,rfl,_,rfl,HQ⟩|exact⟨ac,ac⟩)
 .obtain⟨a,b,c,d,rfl⟩:=tG hT;obtain⟨a',b',c',d',rfl⟩:=tG hL
  (show Zx EM false (Tryz.a781 _) _ _ _ _;haveI:aY:=⟨⟩;refine z1 ?_;intros;all_goals first|exact⟨rfl,rfl,_,rfl,HQ⟩|exact⟨ac,ac⟩)
instance QA:NS EM (zF 782) [.ptr q 0] (.obj q (.row [I nd,I hd,I ht,I c3,I c4,I n,I c6,I c7,I c8,I c9,I dS,I dt,I dW,U key,I 9,I lv,I pred,U known,U cur,U w,.sl qt 0 k k,U cR,B true,I 0])::.obj qt (.row (iD L T))::R0) ((1<=k/\k<=4)/\T.length=k/\L.length=k) (T.map λs=>[I s.pred]):=.of rfl rfl λ⟨hk,hT,hL⟩ ro R=>by
 have:k=1\/k=2\/k=3\/k=4:=am;rcases this with rfl|rfl|rfl|rfl
 .obtain⟨a,rfl⟩:=tD hT;obtain⟨a',rfl⟩:=tD hL
  (show Zx EM false (Tryz.a782 _) _ _ _ _;haveI:aY:=⟨⟩;refine z1 ?_;intros;all_goals first|exact⟨rfl,rfl,_,rfl,HQ⟩|exact⟨ac,ac⟩)
 .obtain⟨a,b,rfl⟩:=tE hT;obtain⟨a',b',rfl⟩:=tE hL
  (show Zx EM false (Tryz.a782 _) _ _ _ _;haveI:aY:=⟨⟩;refine z1 ?_;intros;all_goals first|exact⟨rfl,rfl,_,rfl,HQ⟩|exact⟨ac,ac⟩)
 .obtain⟨a,b,c,rfl⟩:=tF hT;obtain⟨a',b',c',rfl⟩:=tF hL
  (show Zx EM false (Tryz.a782 _) _ _ _ _;haveI:aY:=⟨⟩;refine z1 ?_;intros;all_goals first|exact⟨rfl,rfl,_,rfl,HQ⟩|exact⟨ac,ac⟩)
 .obtain⟨a,b,c,d,rfl⟩:=tG hT;obtain⟨a',b',c',d',rfl⟩:=tG hL
  (show Zx EM false (Tryz.a782 _) _ _ _ _;haveI:aY:=⟨⟩;refine z1 ?_;intros;all_goals first|exact⟨rfl,rfl,_,rfl,HQ⟩|exact⟨ac,ac⟩)
instance QB:NS EM (zF 775) [.ptr q 0] (.obj q (.row [I nd,I hd,I ht,I c3,I c4,I n,I c6,I c7,I c8,I c9,I dS,I dt,I dW,U key,I 9,I lv,I pred,U known,U cur,U w,.sl qt 0 k k,U cR,B true,I 0])::.obj qt (.row (iD L T))::R0) ((1<=k/\k<=4)/\T.length=k/\L.length=k) (T.map λs=>[U s.cur]):=.of rfl rfl λ⟨hk,hT,hL⟩ ro R=>by
 have:k=1\/k=2\/k=3\/k=4:=am;rcases this with rfl|rfl|rfl|rfl
 .obtain⟨a,rfl⟩:=tD hT;obtain⟨a',rfl⟩:=tD hL
  (show Zx EM false (Tryz.a775 _) _ _ _ _;haveI:aY:=⟨⟩;refine z1 ?_;intros;all_goals first|exact⟨rfl,rfl,_,rfl,HQ⟩|exact⟨ac,ac⟩)
 .obtain⟨a,b,rfl⟩:=tE hT;obtain⟨a',b',rfl⟩:=tE hL
  (show Zx EM false (Tryz.a775 _) _ _ _ _;haveI:aY:=⟨⟩;refine z1 ?_;intros;all_goals first|exact⟨rfl,rfl,_,rfl,HQ⟩|exact⟨ac,ac⟩)
 .obtain⟨a,b,c,rfl⟩:=tF hT;obtain⟨a',b',c',rfl⟩:=tF hL
  (show Zx EM false (Tryz.a775 _) _ _ _ _;haveI:aY:=⟨⟩;refine z1 ?_;intros;all_goals first|exact⟨rfl,rfl,_,rfl,HQ⟩|exact⟨ac,ac⟩)
 .obtain⟨a,b,c,d,rfl⟩:=tG hT;obtain⟨a',b',c',d',rfl⟩:=tG hL
  (show Zx EM false (Tryz.a775 _) _ _ _ _;haveI:aY:=⟨⟩;refine z1 ?_;intros;all_goals first|exact⟨rfl,rfl,_,rfl,HQ⟩|exact⟨ac,ac⟩)
end
theorem b_.row {t}{key b:Int}{q:Nat}{σ l}(h:b_ t key q b σ l):∃(ln lv pred known cur w:Int) (qt k:Nat) (c:List AV),l=[.obj q (.row (t.vJ key ln lv pred known cur w qt k b 0)),.obj qt (.row c)]:=by
 cases h<;>exact⟨_,_,_,_,_,_,_,_,_,rfl⟩
instance z36 {n:Nat}[Mn n [761,636,774,779,778,776,762,763,764,777,765,766,767,768,769,770,771,772,773]]:cK n where
def Tw.pV (t:Tw)(lH:Bool)(ref key i high bh lv w:Int)(place ret:AV)(cR er:Int):List AV:=t.cs++[B true,B lH,U ref,U key,I i,I high,I bh,I lv,U w,place,ret,U cR,I er]
inductive lI (t:Tw)(i g key high:Int)(q:Nat)(b:Int):c_->List Own->Prop
 |f {lH:Bool}{lv w bf:Int}{ret}{qf:Nat}{F lf}(h:b_ t key qf bf F lf)(ho:F.over=false):lI t i g key high q b (.f F) (.obj q (.row (t.pV lH (aK i g) key i high 1 lv w (.ptr qf 0) ret b 0))::lf)
 |s {lH:Bool}{w bf:Int}{ret}{qf l:Nat}{T lf}(hl:(l:Int)<high)(h:b_ t key qf bf (.d T) lf):lI t i g key high q b (.s l T) (.obj q (.row (t.pV lH (aK i g) key i high 2 l w (.ptr qf 0) ret b 0))::lf)
 |e {lH:Bool}{w bf:Int}{ret}{qf:Nat}{T lf}(h:b_ t key qf bf (.d T) lf):lI t i g key high q b (.e T) (.obj q (.row (t.pV lH (aK i g) key i high 3 0 w (.ptr qf 0) ret b 0))::lf)
 |l {lH:Bool}{w lv bf:Int}{ret}{qf l:Nat}{T lf}(hv:lv=l)(hl:(l:Int)<high)(h:b_ t key qf bf (.d T) lf):lI t i g key high q b (.l l T) (.obj q (.row (t.pV lH (aK i g) key i high 4 lv w (.ptr qf 0) ret b 0))::lf)
 |t {lH:Bool}{w bf:Int}{ret}{qf l:Nat}{T lf}(hl:(l:Int)<high)(hw:Me.aC w)(h:b_ t key qf bf (.d T) lf):lI t i g key high q b (.t l w T) (.obj q (.row (t.pV lH (aK i g) key i high 5 l w (.ptr qf 0) ret b 0))::lf)
 |k {lH:Bool}{w bf:Int}{ret}{qf l:Nat}{T lf}(hl:(l:Int)<high)(h:b_ t key qf bf (.d T) lf):lI t i g key high q b (.k l T) (.obj q (.row (t.pV lH (aK i g) key i high 6 l w (.ptr qf 0) ret b 0))::lf)
 |g {lH:Bool}{w bf:Int}{ret}{qf l:Nat}{F lf}(hl:(l:Int)<high)(h:b_ t key qf bf F lf)(ho:F.over=false):lI t i g key high q b (.g l F) (.obj q (.row (t.pV lH (aK i g) key i high 7 l w (.ptr qf 0) ret b 0))::lf)
 |o {lH:Bool}{w bf:Int}{ret}{qf l:Nat}{T lf}(hl:(l:Int)<high)(h:b_ t key qf bf (.d T) lf):lI t i g key high q b (.o l T) (.obj q (.row (t.pV lH (aK i g) key i high 8 l w (.ptr qf 0) ret b 0))::lf)
 |q {lH:Bool}{lv w:Int}{place ret}:lI t i g key high q b .q [.obj q (.row (t.pV lH (aK i g) key i high 9 lv w place ret b 0))]
 |c {lH:Bool}{lv w bf:Int}{ret}{qf:Nat}{F lf}(h:b_ t key qf bf F lf)(ho:F.over=false):lI t i g key high q b (.c F) (.obj q (.row (t.pV lH (aK i g) key i high 10 lv w (.ptr qf 0) ret b 0))::lf)
 |r {lH:Bool}{lv w:Int}{place ret}:lI t i g key high q b .r [.obj q (.row (t.pV lH (aK i g) key i high 11 lv w place ret b 0))]
 |w {lH:Bool}{lv w:Int}{place}{qr:Nat}{σ lr}(h:AE t.l i qr σ lr)(ho:σ.over=false):lI t i g key high q b (.w σ) (.obj q (.row (t.pV lH (aK i g) key i high 12 lv w place (.ptr qr 0) b 0))::lr)
 |d {lH:Bool}{lv w:Int}{place ret}:lI t i g key high q b (.d 0) [.obj q (.row (t.pV lH (aK i g) key i high 0 lv w place ret b 0))]
section
variable{B0 S:AH}{W:List Nat}{own R lo:List Own}{ro:List aI}{m bl q:Nat}{x:Me}{rest:List AV}{t:Tw}{i g key high b:Int}
theorem yW {a:bO}(h:a.over=true):∃T,a=.d T:=by cases a<;>first|exact⟨_,rfl⟩|cases h
theorem EZ {o1 own:List Own}(e:o1=own:=by conv=>lhs;simp only[Tw.pV,Tw.vJ,Tw.cs,Lb.cs,Ar.cs,Ep.cs,lA,lB,lC]):o1=own:=e
theorem DI {σ:c_}(hs:t.ok)(hr:t.rf i g)(hh:1<=high/\high<=t.ht)(hx:x.gd)(ho:σ.over=false)(DH:Me.aC key)(h:lI t i g key high q b σ lo)(H:Cx B0 W S (lo++(ae m bl x rest++R)) ro):
  aN EM (zF 760) [.ptr q 0,.ptr m 0] S λu S'=>∃ab,fb (lI t i g key high q (σ.cR (aK i g))) c_.over (σ.step t (aK i g) key high x) (ae m bl · rest) R u ab/\Cx B0 W S' ab ro:=by
 have bt:=hs;unfold Tw.ok Lb.ok Ar.ok Sk.ok Ep.ok at bt;have pD:=hr;unfold Tw.rf dz at pD;have m_:=Tw.AN hr;have hw:=mJ hr.1;haveI:aY:=⟨⟩;cases h with
 |@f lH lv w bf ret qf F lf h hF=>
  refine y1 H EZ ?_;intros;refine Vx.f_ (A:=[_,_,_]) (λB W S H=>ry hs hx hF DH h H) λa' x' l' e hl=>?_;have e2:(c_.f F).step t (aK i g) key high x=(c_.HO a',x'):=by show(c_.HO _,_)=_;rw[e]
  by_cases ho:a'.over=true
  .obtain⟨T,rfl⟩:=yW ho;have pG:=hl.row;obtain⟨ln,FJ,pred,known,cur,w2,qt,k,c,rfl⟩:=pG;rw[ho];refine z1 ?_;exact aa e2 (.s (l:=0) am hl) rfl HQ
  .rw[Bool.not_eq_true] at ho;have pG:=hl.row;obtain⟨ln,FJ,pred,known,cur,w2,qt,k,c,rfl⟩:=pG;rw[ho];refine z1 ?_;have e3:(c_.f F).step t (aK i g) key high x=(.f a',x'):=e2.trans (Prod.ext (by cases a'<;>first|rfl|cases ho) rfl);exact aa e3 (.f hl ho) rfl HQ
 |@s lH w bf ret qf l T lf hl h=>
  have e2:(c_.s l T).step t (aK i g) key high x=(if high<=(l:Int)+1 then .e T else .s (l+1) T,x.st (t.nx i l) (T.bh l).cur):=by show(_,x.st (t.nx (t.ix _) _) _)=_;rw[m_]
  cases h with
  |@d k qt lv pred known cur w' T L hk hT hL=>
  have AQ:=hT.1;have h4:high=1\/high=2\/high=3\/high=4:=am;have h5:l=0\/l=1\/l=2\/l=3:=am;have Xm:=(gL.AR (l:=l) hT am).2.2;by_cases hc:high<=(l:Int)+1
  .have e3:=e2;rw[if_pos hc] at e3;clear e2;rcases h4 with rfl|rfl|rfl|rfl<;>rcases h5 with rfl|rfl|rfl|rfl<;>first|(exfalso;omega)|skip
   all_goals((refine y1 H EZ ?_;intros))
   all_goals exact aa e3 (.e (.d hk hT hL)) rfl HQ
  .have e3:=e2;rw[if_neg hc] at e3;have BI:((l+1:Nat):Int)<high:=am;clear e2;rcases h4 with rfl|rfl|rfl|rfl<;>rcases h5 with rfl|rfl|rfl|rfl<;>first|(exfalso;omega)|skip
   all_goals((refine y1 H EZ ?_;intros))
   all_goals exact aa e3 (.s BI (.d hk hT hL)) rfl HQ
 |@e lH w bf ret qf T lf h=>
  cases h with
  |@d k qt lv pred known cur w' T L hk hT hL=>
  have AQ:=hT.1;have ho:=gL.AR (l:=0) hT am;unfold Sp.ok at ho;have Yk:-1<=(T.bh (Int.toNat 0)).pred/\(T.bh (Int.toNat 0)).pred<t.l.a.f.size:=ho.1;refine y3 H EZ ?_ ?_ ?_<;>intros
  .next h1 p l' hF=>exact aa (Prod.ext (if_neg (NV h1)) rfl) (.f (show b_ t key p 0 (.new t) l' from hF) rfl) rfl HQ
  .next h1 h2=>exact aa (Prod.ext ((if_pos (Cn h1)).trans (if_pos h2)) rfl) .q rfl HQ
  .next h1 h2=>exact aa (Prod.ext ((if_pos (Cn h1)).trans (if_neg h2)) rfl) (.l (l:=1) rfl (Int.not_le.1 h2) (.d hk hT hL)) rfl HQ
 |@l lH w lv0 bf ret qf l T lf hv hl h=>
  subst hv;have hb:=Me.aj hx (t.nx i l);have e2:(c_.l l T).step t (aK i g) key high x=(if 9223372036854775808<=x.word (t.nx i l) then .q else if x.word (t.nx i l)=(T.bh l).cur then .k l T else .t l (x.word (t.nx i l)) T,x.ld (t.nx i l)):=by show(if _<=x.word (t.nx (t.ix _) _) then _ else _,x.ld (t.nx (t.ix _) _))=_;rw[m_]
  cases h with
  |@d k qt lv pred known cur w' T L hk hT hL=>
  have AQ:=hT.1;refine y3 H EZ ?_ ?_ ?_<;>intros
  .next h1=>exact aa (e2.trans (Prod.ext (if_pos h1) rfl)) .q rfl HQ
  .next h1 v o1 o2 o3 h2=>exact aa (e2.trans (Prod.ext ((if_neg h1).trans (if_neg h2)) rfl)) (.t hl hb (.d hk hT hL)) rfl HQ
  .next h1 v o1 o2 o3 h2=>exact aa (e2.trans (Prod.ext ((if_neg h1).trans (if_pos (Decidable.not_not.1 h2))) rfl)) (.k hl (.d hk hT hL)) rfl HQ
 |@t lH w bf ret qf l T lf hl hw h=>
  have e2:(c_.t l w T).step t (aK i g) key high x=(if x.eq (t.nx i l) w then .k l T else .q,x.gY (t.nx i l) w (T.bh l).cur):=by show(if x.eq (t.nx (t.ix _) _) _ then _ else _,x.gY (t.nx (t.ix _) _) _ _)=_;rw[m_]
  cases h with
  |@d k qt lv pred known cur w' T L hk hT hL=>
  have AQ:=hT.1;refine y2 H EZ ?_ ?_<;>intros
  .next h1=>exact aa (e2.trans (Prod.ext (if_pos h1) rfl)) (.k hl (.d hk hT hL)) rfl HQ
  .next h1=>exact aa (e2.trans (Prod.ext (if_neg h1) rfl)) .q rfl HQ
 |@k lH w bf ret qf l T lf hl h=>
  cases h with
  |@d k qt lv pred known cur w' T L hk hT hL=>
  have AQ:=hT.1;have ho:=gL.AR (l:=l) hT am;unfold Sp.ok at ho;have Yk:-1<=(T.bh (Int.toNat l)).pred/\(T.bh (Int.toNat l)).pred<t.l.a.f.size:=ho.1;refine y3 H EZ ?_ ?_ ?_<;>intros
  .next h1 p l' hF=>exact aa (Prod.ext (if_neg (NV h1)) rfl) (.g hl (show b_ t key p 0 (.new t) l' from hF) rfl) rfl HQ
  .next h1 h2=>exact aa (Prod.ext ((if_pos (Cn h1)).trans (if_pos h2)) rfl) .q rfl HQ
  .next h1 h2=>exact aa (Prod.ext ((if_pos (Cn h1)).trans (if_neg h2)) rfl) (.l (l:=l+1) rfl (Int.not_le.1 h2) (.d hk hT hL)) rfl HQ
 |@g lH w bf ret qf l F lf zQ h hF=>
  refine y1 H EZ ?_;intros;refine Vx.f_ (A:=[_,_,_]) (λB W S H=>ry hs hx hF DH h H) λa' x' l' e hl=>?_;have e2:(c_.g l F).step t (aK i g) key high x=(c_.HP l a',x'):=by show(c_.HP _ _,_)=_;rw[e]
  by_cases ho:a'.over=true
  .obtain⟨T,rfl⟩:=yW ho;have pG:=hl.row;obtain⟨ln,FJ,pred,known,cur,w2,qt,k,c,rfl⟩:=pG;rw[ho];refine z1 ?_;exact aa e2 (.o zQ hl) rfl HQ
  .rw[Bool.not_eq_true] at ho;have pG:=hl.row;obtain⟨ln,FJ,pred,known,cur,w2,qt,k,c,rfl⟩:=pG;rw[ho];refine z1 ?_;have e3:(c_.g l F).step t (aK i g) key high x=(.g l a',x'):=e2.trans (Prod.ext (by cases a'<;>first|rfl|cases ho) rfl);exact aa e3 (.g zQ hl ho) rfl HQ
 |@o lH w bf ret qf l T lf hl h=>
  have hb:=Me.aj hx (t.nx i 0);have e2:(c_.o l T).step t (aK i g) key high x=(if 9223372036854775808<=x.word (t.nx i 0) then .c (.new t) else .l l T,x.ld (t.nx i 0)):=by show(if _<=x.word (t.nx (t.ix _) _) then _ else _,x.ld (t.nx (t.ix _) _))=_;rw[m_]
  refine y2 H EZ ?_ ?_<;>intros
  .next h1 p l' hF=>exact aa (e2.trans (Prod.ext (if_pos h1) rfl)) (.c (show b_ t key p 0 (.new t) l' from hF) rfl) rfl HQ
  .next h1=>exact aa (e2.trans (Prod.ext (if_neg h1) rfl)) (.l rfl hl h) rfl HQ
 |@q lH lv w place ret=>
  have hb:=Me.aj hx (t.nx i 0);have e2:(c_.q).step t (aK i g) key high x=(if 9223372036854775808<=x.word (t.nx i 0) then .c (.new t) else .r,x.ld (t.nx i 0)):=by show(if _<=x.word (t.nx (t.ix _) _) then _ else _,x.ld (t.nx (t.ix _) _))=_;rw[m_]
  refine y2 H EZ ?_ ?_<;>intros
  .next h1 p l' hF=>exact aa (e2.trans (Prod.ext (if_pos h1) rfl)) (.c (show b_ t key p 0 (.new t) l' from hF) rfl) rfl HQ
  .next h1=>exact aa (e2.trans (Prod.ext (if_neg h1) rfl)) .r rfl HQ
 |@c lH lv w bf ret qf F lf h hF=>
  refine y1 H EZ ?_;intros;refine Vx.f_ (A:=[_,_,_]) (λB W S H=>ry hs hx hF DH h H) λa' x' l' e hl=>?_;have e2:(c_.c F).step t (aK i g) key high x=(if a'.over then .r else .c a',x'):=by show(_,_)=_;rw[e]
  have pG:=hl.row;obtain⟨ln,FJ,pred,known,cur,w2,qt,k,c,rfl⟩:=pG;cases ho:a'.over
  .refine z1 ?_;exact aa (e2.trans (Prod.ext (if_neg (by rw[ho];simp)) rfl)) (.c hl ho) rfl HQ
  .refine z1 ?_;exact aa (e2.trans (Prod.ext (if_pos ho) rfl)) .r rfl HQ
 |@r lH lv w place ret=>
  have hn:iX.new t.l i=.a:=if_neg am;have e2:(c_.r).step t (aK i g) key high x=(if(x.add (t.pt i 3) 18446744073709551615).new=0 then .w .a else .d 0,x.add (t.pt i 3) 18446744073709551615):=by show(if(x.add (t.pt (t.ix _) _) _).new=0 then c_.w (iX.new _ (t.ix _)) else _,x.add (t.pt (t.ix _) _) _)=_;rw[m_,hn]
  refine y2 H EZ ?_ ?_<;>intros
  .next h1=>exact aa (e2.trans (Prod.ext (if_neg h1) rfl)) .d rfl HQ
  .next h1 p1 p2 h2 h3=>exact aa (e2.trans (Prod.ext (if_pos (Decidable.not_not.1 h1)) rfl)) (.w (.a ⟨am,am⟩) rfl) rfl HQ
 |@w lH lv w place qr σ lr h hF=>
  refine y1 H EZ ?_;intros;refine Vx.f_ (A:=[_,_,_]) (λB W S H=>DD hs.2.2.2.2 hx h H) λa' x' l' e hl=>?_;have e2:(c_.w σ).step t (aK i g) key high x=(if a'.over then .d 0 else .w a',x'):=by show(if(σ.step t.l (t.ix _) x).1.over then _ else _,(σ.step t.l (t.ix _) x).2)=_;rw[m_,e]
  cases ho:a'.over
  .refine z1 ?_;exact aa (e2.trans (Prod.ext (if_neg (by rw[ho];simp)) rfl)) (.w hl ho) rfl HQ
  .refine z1 ?_;exact aa (e2.trans (Prod.ext (if_pos ho) rfl)) .d rfl HQ
 |d=>cases ho
end
section
variable{nd hd ht c3 c4 n c6 c7 c8 c9 dS dt dW i g key high:Int}
instance NW:VC EM (zF 634) [.agg [I nd,I hd,I ht,I c3,I c4,I n,I c6,I c7,I c8,I c9,I dS,I dt,I dW],U (aK i g),I high] (((0<=nd/\nd<4096)/\(0<=hd/\hd<4096)/\(1<=ht/\ht<=4)/\1<=n/\n<=128)/\(dz i g/\i<n)/\1<=high/\high<=ht) (I 0):=.of rfl rfl λ⟨h,hi,hh⟩=>by
 have ko:=hi;unfold dz at ko;have h0:0<=qo nd ht 0 0:=by unfold qo;omega
 show Zx EM false (Tryz.a634 _) _ _ _ _;refine z1 ?_;intros;exact hi.1
instance Yl:NC EM (zF 624) [.agg [I nd,I hd,I ht,I c3,I c4,I n,I c6,I c7,I c8,I c9,I dS,I dt,I dW],U (aK i g),U key,I high] (((0<=nd/\nd<4096)/\(0<=hd/\hd<4096)/\(1<=ht/\ht<=4)/\1<=n/\n<=128)/\(dz i g/\i<n)/\1<=high/\high<=ht)
  (λp l=>lI ⟨nd,hd,ht,⟨⟨⟨c3,c4,n⟩,c6,c7,c8⟩,⟨c9,dS,dt⟩,dW⟩⟩ i g key high p 0 (.f (.new ⟨nd,hd,ht,⟨⟨⟨c3,c4,n⟩,c6,c7,c8⟩,⟨c9,dS,dt⟩,dW⟩⟩)) l):=.of rfl rfl λh ro R=>by
 obtain⟨h0,hi,hh⟩:=h;show Zx EM false (Tryz.a624 _) _ _ _ _;refine z3 ?_ ?_ ?_<;>intros
 .exact⟨h0,hi,hh⟩
 .exact hi.1
 .next a b p l h=>exact⟨rfl,rfl,(_::(l++R)),⟨_,_,lI.f h rfl,rfl,rfl⟩,HQ⟩
end
end Go.cG
