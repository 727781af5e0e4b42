/- Contracts of functions, over the abstract machine. Conditions: stated in each theorem. -/
import Derived.Test.YtdfgboafnklioaaGreatM0
set_option linter.all false
set_option maxRecDepth 100000
set_option maxHeartbeats 4000000
namespace Go.cY
open Go.Proofs
section
section
variable{nd hd ht c3 c4 n c6 c7 c8 c9 dz cT dx key ln lv pred known cur w cz er:Int}{told:AV}{q qt k:Nat}{R0:List Own}{L:List Int}{T:fL}
instance Nr {v:Int}:SC EM (zF 736) [.ptr q 0,U v] (.obj q (.row [I nd,I hd,I ht,I c3,I c4,I n,I c6,I c7,I c8,I c9,I dz,I cT,I dx,U key,I ln,I lv,I pred,U known,U cur,U w,told,U cz,B true,I er])::R0) (Me.ar v∧1≤n) (I (idx n v))
  (.obj q (.row [I nd,I hd,I ht,I c3,I c4,I n,I c6,I c7,I c8,I c9,I dz,I cT,I dx,U key,I ln,I lv,I pred,U known,U cur,U w,told,U cz,B true,I er])::R0):=.of rfl rfl fun h ro R=>by
 show Zx EM false (Tryz.a736 _) _ _ _ _
 have h1:=h.1
 (repeat' first|constructor|exact ZQ|intro _)
 all_goals apply zL
 ·exact⟨rfl,rfl,_,⟨by unfold idx;rw[if_neg (by omega)];rfl,rfl⟩,HQ⟩
 ·exact⟨rfl,rfl,_,⟨by unfold idx;rw[if_pos (by omega)];rfl,rfl⟩,HQ⟩
end
instance z24:cF 738 where
instance RX {w:Int}:VC EM (zF 641) [U w,B false] (9223372036854775808≤w∧w<18446744073709551616) (U (w-9223372036854775808)) where
 ok:=fun h S=>by
  have e:w%9223372036854775808=w-9223372036854775808:=by omega
  refine az (K1.ok (show Me.ar w by unfold Me.ar;omega) S) fun r S' ⟨h1,h2⟩=>⟨?_,h2⟩
  rw[h1,e]
def Tw.tR (t:Tw)(key ln lv pred known cur w:Int)(qt k:Nat)(cz er:Int):List AV:=t.cs++[U key,I ln,I lv,I pred,U known,U cur,U w,.sl qt 0 k k,U cz,B true,I er]
structure we (t:Tw)(k l:Nat)(lv pred known:Int)(T:fL)(L:List Int):Prop where
 hk:(k:Int)=t.ht
 hl:l<k
 hv:lv=l
 hp:-1≤pred∧pred<t.l.a.f.size
 hn:Me.ar known
 hT:T.ok t
 hL:L.length=k
inductive bT (t:Tw)(key:Int)(q:Nat)(cz:Int):bJ→List Own→Prop
 |a {l k qt:Nat}{lv pred known w:Int}{T L}(h:we t k l lv pred known T L):bT t key q cz (.a l pred known T) [.obj q (.row (t.tR key 1 lv pred known 0 w qt k cz 0)),.obj qt (.row (gQ L T))]
 |b {l k qt:Nat}{lv pred known cur w:Int}{T L}(h:we t k l lv pred known T L)(hc:Me.ar cur)(hi:¬t.ix cur<0):bT t key q cz (.b l pred known cur T) [.obj q (.row (t.tR key 2 lv pred known cur w qt k cz 0)),.obj qt (.row (gQ L T))]
 |c {l k qt:Nat}{lv pred known cur w:Int}{T L}(h:we t k l lv pred known T L)(hc:Me.ar cur)(hi:¬t.ix cur<0)(hw:Me.ar w)(hm:9223372036854775808≤w):bT t key q cz (.c l pred known cur w T) [.obj q (.row (t.tR key 3 lv pred known cur w qt k cz 0)),.obj qt (.row (gQ L T))]
 |e {l k qt:Nat}{lv pred known cur w:Int}{T L}(h:we t k l lv pred known T L)(hc:Me.ar cur)(hi:¬t.ix cur<0)(hw:Me.ar w):bT t key q cz (.e l pred known cur w T) [.obj q (.row (t.tR key 4 lv pred known cur w qt k cz 0)),.obj qt (.row (gQ L T))]
 |d {k qt:Nat}{lv pred known cur w:Int}{T L}(hk:(k:Int)=t.ht)(hT:T.ok t)(hL:L.length=k):bT t key q cz (.d T) [.obj q (.row (t.tR key 9 lv pred known cur w qt k cz 0)),.obj qt (.row (gQ L T))]
theorem K4 {p:Prop}[Decidable p](h:(!decide p)=true):¬p:=by simpa using h
theorem AM {p:Prop}[Decidable p](h:(!decide p)=false):p:=by simpa using h
theorem fL.FY {t:Tw}{T:fL}{s:Sp}(h:T.ok t)(hs:s.ok t)(l:Nat):fL.ok t (List.set T l s):=by
 refine⟨by rw[List.length_set];exact h.1,fun v hv=>?_⟩
 rcases List.mem_or_eq_of_mem_set hv with hv|rfl
 ·exact h.2 v hv
 ·exact hs
theorem bJ.fY {l:Nat}{pred known cur:Int}{T}:(bJ.done l pred known cur T).over=decide (AL l=9):=by cases l<;>rfl
section
variable{B0 S:AH}{W:List Nat}{own R lo:List Own}{ro:List aQ}{m bl q qt k:Nat}{x:Me}{rest:List AV}{t:Tw}{key cz known pred cur w lv:Int}{L:List Int}{T:fL}{l:Nat}
theorem bT.done (h:we t k l lv pred known T L)(hc:Me.ar cur):bT t key q cz (bJ.done l pred known cur T) [.obj q (.row (t.tR key (AL l) (Jz l) pred known (JA l cur) w qt k cz 0)),.obj qt (.row (gQ (L.set l (l:Int)) (List.set T l ⟨pred,known,cur⟩)))]:=by
 have ht:=fL.FY h.hT (s:=⟨pred,known,cur⟩) ⟨h.hp,h.hn,hc⟩ l
 cases l with
 |zero=>exact .d h.hk ht (by rw[List.length_set];exact h.hL)
 |succ l=>exact .a ⟨h.hk,by have:=h.hl;omega,rfl,h.hp,h.hn,ht,by rw[List.length_set];exact h.hL⟩
theorem bT.iq (ht:1≤t.ht∧1≤t.l.a.f.size)(hk:(k:Int)=t.ht)(hT:T.ok t)(hL:L.length=k):bT t key q cz (bJ.iq t T) [.obj q (.row (t.tR key 1 (t.ht-1) (-1) 0 0 w qt k cz 0)),.obj qt (.row (gQ L T))]:=
 .a ⟨hk,by omega,by omega,by omega,by unfold Me.ar;omega,hT,hL⟩
theorem RY {o1 own:List Own}(e:o1=own:=by conv=>lhs;simp only[Tw.tR,Tw.cs,Lb.cs,Ar.cs,Ep.cs,lA,lB,lC]):o1=own:=e
theorem pV {σ:bJ}(hs:t.ok)(hx:x.gd)(ho:σ.over=false)(B6:Me.ar key)(h:bT t key q cz σ lo)(H:Cx B0 W S (lo++(ad m bl x rest++R)) ro):
  aO EM (zF 732) [.ptr q 0,.ptr m 0] S fun u S'=>∃ab,eD (bT t key q σ.cz) bJ.over (σ.step t key x) (ad m bl · rest) R u ab∧Cx B0 W S' ab ro:=by
 have bn:=hs
 unfold Tw.ok Lb.ok Ar.ok Sk.ok Ep.ok at bn
 haveI:aS:=⟨⟩
 cases h with
 |@a l k qt lv pred known w T L h=>
  have I:=h
  obtain⟨hk,hl,rfl,hp,hn,hT,hL⟩:=h
  have y9:=hT.1
  have hb:=Me.ai hx (t.nx pred l)
  refine Vx.fm H RY (b:=Tryz.a732) ?_;(repeat' first|constructor|exact ZQ|intro _);all_goals apply zL
  ·next h=>exact aa (Prod.ext (if_pos h) rfl) (bT.iq ⟨by omega,by omega⟩ hk hT hL) rfl HQ
  ·next h1 h2 h=>exact aa (Prod.ext ((if_neg h1).trans (if_pos h2)) rfl) (bT.done I hb) (bJ.fY.trans (decide_eq_true h)) HQ
  ·next h1 h2 h=>exact aa (Prod.ext ((if_neg h1).trans (if_pos h2)) rfl) (bT.done I hb) (bJ.fY.trans (decide_eq_false h)) HQ
  ·next h1 h2=>exact aa (Prod.ext ((if_neg h1).trans (if_neg h2)) rfl) (.b I hb h2) rfl HQ
 |@b l k qt lv pred known cur w T L h hc hi=>
  have I:=h
  obtain⟨hk,hl,rfl,hp,hn,hT,hL⟩:=h
  have y9:=hT.1
  have uX:=fk (n:=t.l.a.f.size) (w:=cur) (by omega)
  have hb:=Me.ai hx (t.nx (t.ix cur) l)
  have Pn:0≤idx t.l.a.f.size cur:=by unfold Tw.ix Tw.size at hi;omega
  refine Vx.fm H RY (b:=Tryz.a732) ?_;(repeat' first|constructor|exact ZQ|intro _);all_goals apply zL
  ·next h=>exact aa (Prod.ext (if_pos h) rfl) (.c I hc hi hb h) rfl HQ
  ·next h=>exact aa (Prod.ext (if_neg h) rfl) (.e I hc hi hb) rfl HQ
 |@c l k qt lv pred known cur w T L h hc hi hw hm=>
  have I:=h
  obtain⟨hk,hl,rfl,hp,hn,hT,hL⟩:=h
  have y9:=hT.1
  have uX:=fk (n:=t.l.a.f.size) (w:=cur) (by omega)
  have Pn:0≤idx t.l.a.f.size cur:=by unfold Tw.ix Tw.size at hi;omega
  have hb:Me.ar (w-9223372036854775808):=by unfold Me.ar at*;omega
  refine Vx.fm H RY (b:=Tryz.a732) ?_;(repeat' first|constructor|exact ZQ|intro _);all_goals apply zL
  ·next h=>exact aa (Prod.ext (if_neg (K4 h)) rfl) (bT.iq ⟨by omega,by omega⟩ hk hT hL) rfl HQ
  ·next h1 h2 h=>exact aa (Prod.ext ((if_pos (AM h1)).trans (if_pos h2)) rfl) (bT.done I hb) (bJ.fY.trans (decide_eq_true h)) HQ
  ·next h1 h2 h=>exact aa (Prod.ext ((if_pos (AM h1)).trans (if_pos h2)) rfl) (bT.done I hb) (bJ.fY.trans (decide_eq_false h)) HQ
  ·next h1 h2=>exact aa (Prod.ext ((if_pos (AM h1)).trans (if_neg h2)) rfl) (.b I hb h2) rfl HQ
 |@e l k qt lv pred known cur w T L h hc hi hw=>
  have I:=h
  obtain⟨hk,hl,rfl,hp,hn,hT,hL⟩:=h
  have y9:=hT.1
  have uX:=fk (n:=t.l.a.f.size) (w:=cur) (by omega)
  have Pn:0≤idx t.l.a.f.size cur:=by unfold Tw.ix Tw.size at hi;omega
  have I2:we t k l l (t.ix cur) cur T L:=⟨hk,hl,rfl,uX,hc,hT,hL⟩
  refine Vx.fm H RY (b:=Tryz.a732) ?_;(repeat' first|constructor|exact ZQ|intro _);all_goals apply zL
  ·next h1 h=>exact aa (Prod.ext (if_neg (Int.not_lt.2 h1)) rfl) (bT.done I hc) (bJ.fY.trans (decide_eq_true h)) HQ
  ·next h1 h=>exact aa (Prod.ext (if_neg (Int.not_lt.2 h1)) rfl) (bT.done I hc) (bJ.fY.trans (decide_eq_false h)) HQ
  ·next h1 h2 h=>exact aa (Prod.ext ((if_pos (Int.not_le.1 h1)).trans (if_pos h2)) rfl) (bT.done I2 hw) (bJ.fY.trans (decide_eq_true h)) HQ
  ·next h1 h2 h=>exact aa (Prod.ext ((if_pos (Int.not_le.1 h1)).trans (if_pos h2)) rfl) (bT.done I2 hw) (bJ.fY.trans (decide_eq_false h)) HQ
  ·next h1 h2=>exact aa (Prod.ext ((if_pos (Int.not_le.1 h1)).trans (if_neg h2)) rfl) (.b I2 hw h2) rfl HQ
 |d=>cases ho
end
end
section
theorem fL.FZ {t}(ht:1≤t.ht)(hn:1≤t.l.a.f.size):fL.ok t (List.replicate t.ht.toNat Sp.z):=by
 refine⟨by rw[List.length_replicate];omega,fun s hs=>?_⟩
 rw[List.eq_of_mem_replicate hs]
 exact⟨⟨by show-1≤(0:Int);omega,by show(0:Int)<_;omega⟩,by show Me.ar 0;unfold Me.ar;omega,by show Me.ar 0;unfold Me.ar;omega⟩
theorem fL.y_ {t:Tw}{T:fL}(h:T.ok t){l:Nat}(hl:(l:Int)<t.ht):(T.cd l).ok t:=by
 have z_:l<T.length:=by have:=h.1;omega
 unfold fL.cd
 rw[List.getElem?_eq_getElem z_]
 exact h.2 _ (List.getElem_mem z_)
instance RZ {T:fL}{i:Int}:KR (T.map fun s=>[I s.pred]) i (0≤i∧i<T.length) (I (T.cd i.toNat).pred) where
 ok:=fun h=>⟨i.toNat,by omega,by rw[List.getElem?_map];unfold fL.cd;rw[List.getElem?_eq_getElem (by omega)];rfl⟩
instance Po {T:fL}{i:Int}:KR (T.map fun s=>[U s.known]) i (0≤i∧i<T.length) (U (T.cd i.toNat).known) where
 ok:=fun h=>⟨i.toNat,by omega,by rw[List.getElem?_map];unfold fL.cd;rw[List.getElem?_eq_getElem (by omega)];rfl⟩
instance UW {T:fL}{i:Int}:KR (T.map fun s=>[U s.cur]) i (0≤i∧i<T.length) (U (T.cd i.toNat).cur) where
 ok:=fun h=>⟨i.toNat,by omega,by rw[List.getElem?_map];unfold fL.cd;rw[List.getElem?_eq_getElem (by omega)];rfl⟩
instance z25:cF 780 where
instance z26:cF 783 where
section
variable{nd hd ht c3 c4 n c6 c7 c8 c9 dz cT dx key ln lv pred known cur w cz er:Int}{told:AV}{q qt k:Nat}{R0:List Own}{L:List Int}{T:fL}
instance R2:NC EM (zF 643) [.agg [I nd,I hd,I ht,I c3,I c4,I n,I c6,I c7,I c8,I c9,I dz,I cT,I dx],U key] ((0≤nd∧nd<4096)∧(0≤hd∧hd<4096)∧(1≤ht∧ht≤4)∧1≤n∧n≤128)
  (fun p l=>bT ⟨nd,hd,ht,⟨⟨⟨c3,c4,n⟩,c6,c7,c8⟩,⟨c9,dz,cT⟩,dx⟩⟩ key p 0 (.new ⟨nd,hd,ht,⟨⟨⟨c3,c4,n⟩,c6,c7,c8⟩,⟨c9,dz,cT⟩,dx⟩⟩) l):=.of rfl rfl fun h ro R=>by
 have hT:=fL.FZ (t:=⟨nd,hd,ht,⟨⟨⟨c3,c4,n⟩,c6,c7,c8⟩,⟨c9,dz,cT⟩,dx⟩⟩) h.2.2.1.1 h.2.2.2.1
 have h0:0≤AK nd hd ht (-1) 0:=by unfold AK;rw[if_pos rfl];omega
 have:ht=1∨ht=2∨ht=3∨ht=4:=by omega
 rcases this with rfl|rfl|rfl|rfl
 ·show Zx EM false (Tryz.a643 _) _ _ _ _
  (repeat' first|constructor|exact ZQ|intro _)
  all_goals apply zL
  exact⟨rfl,rfl,(_::_::R),⟨_,_,bT.iq (L:=[0]) (k:=1) ⟨h.2.2.1.1,h.2.2.2.1⟩ rfl hT rfl,rfl,rfl⟩,HQ⟩
 ·show Zx EM false (Tryz.a643 _) _ _ _ _
  (repeat' first|constructor|exact ZQ|intro _)
  all_goals apply zL
  exact⟨rfl,rfl,(_::_::R),⟨_,_,bT.iq (L:=[0,0]) (k:=2) ⟨h.2.2.1.1,h.2.2.2.1⟩ rfl hT rfl,rfl,rfl⟩,HQ⟩
 ·show Zx EM false (Tryz.a643 _) _ _ _ _
  (repeat' first|constructor|exact ZQ|intro _)
  all_goals apply zL
  exact⟨rfl,rfl,(_::_::R),⟨_,_,bT.iq (L:=[0,0,0]) (k:=3) ⟨h.2.2.1.1,h.2.2.2.1⟩ rfl hT rfl,rfl,rfl⟩,HQ⟩
 ·show Zx EM false (Tryz.a643 _) _ _ _ _
  (repeat' first|constructor|exact ZQ|intro _)
  all_goals apply zL
  exact⟨rfl,rfl,(_::_::R),⟨_,_,bT.iq (L:=[0,0,0,0]) (k:=4) ⟨h.2.2.1.1,h.2.2.2.1⟩ rfl hT rfl,rfl,rfl⟩,HQ⟩
instance Nt:NS EM (zF 781) [.ptr q 0] (.obj q (.row [I nd,I hd,I ht,I c3,I c4,I n,I c6,I c7,I c8,I c9,I dz,I cT,I dx,U key,I 9,I lv,I pred,U known,U cur,U w,.sl qt 0 k k,U cz,B true,I 0])::.obj qt (.row (gQ L T))::R0) ((1≤k∧k≤4)∧T.length=k∧L.length=k) (T.map fun s=>[U s.known]):=.of rfl rfl fun⟨hk,hT,hL⟩ ro R=>by
 have:k=1∨k=2∨k=3∨k=4:=by omega
 rcases this with rfl|rfl|rfl|rfl
 ·obtain⟨a,rfl⟩:=rZ hT
  obtain⟨a',rfl⟩:=rZ hL
  (show Zx EM false (Tryz.a781 _) _ _ _ _;haveI:aS:=⟨⟩;(repeat' first|constructor|exact ZQ|intro _);all_goals apply zL;all_goals first|exact⟨rfl,rfl,_,rfl,HQ⟩|exact⟨by simp,by simp⟩)
 ·obtain⟨a,b,rfl⟩:=r7 hT
  obtain⟨a',b',rfl⟩:=r7 hL
  (show Zx EM false (Tryz.a781 _) _ _ _ _;haveI:aS:=⟨⟩;(repeat' first|constructor|exact ZQ|intro _);all_goals apply zL;all_goals first|exact⟨rfl,rfl,_,rfl,HQ⟩|exact⟨by simp,by simp⟩)
 ·obtain⟨a,b,c,rfl⟩:=r8 hT
  obtain⟨a',b',c',rfl⟩:=r8 hL
  (show Zx EM false (Tryz.a781 _) _ _ _ _;haveI:aS:=⟨⟩;(repeat' first|constructor|exact ZQ|intro _);all_goals apply zL;all_goals first|exact⟨rfl,rfl,_,rfl,HQ⟩|exact⟨by simp,by simp⟩)
 ·obtain⟨a,b,c,d,rfl⟩:=r9 hT
  obtain⟨a',b',c',d',rfl⟩:=r9 hL
  (show Zx EM false (Tryz.a781 _) _ _ _ _;haveI:aS:=⟨⟩;(repeat' first|constructor|exact ZQ|intro _);all_goals apply zL;all_goals first|exact⟨rfl,rfl,_,rfl,HQ⟩|exact⟨by simp,by simp⟩)
instance Nu:NS EM (zF 782) [.ptr q 0] (.obj q (.row [I nd,I hd,I ht,I c3,I c4,I n,I c6,I c7,I c8,I c9,I dz,I cT,I dx,U key,I 9,I lv,I pred,U known,U cur,U w,.sl qt 0 k k,U cz,B true,I 0])::.obj qt (.row (gQ L T))::R0) ((1≤k∧k≤4)∧T.length=k∧L.length=k) (T.map fun s=>[I s.pred]):=.of rfl rfl fun⟨hk,hT,hL⟩ ro R=>by
 have:k=1∨k=2∨k=3∨k=4:=by omega
 rcases this with rfl|rfl|rfl|rfl
 ·obtain⟨a,rfl⟩:=rZ hT
  obtain⟨a',rfl⟩:=rZ hL
  (show Zx EM false (Tryz.a782 _) _ _ _ _;haveI:aS:=⟨⟩;(repeat' first|constructor|exact ZQ|intro _);all_goals apply zL;all_goals first|exact⟨rfl,rfl,_,rfl,HQ⟩|exact⟨by simp,by simp⟩)
 ·obtain⟨a,b,rfl⟩:=r7 hT
  obtain⟨a',b',rfl⟩:=r7 hL
  (show Zx EM false (Tryz.a782 _) _ _ _ _;haveI:aS:=⟨⟩;(repeat' first|constructor|exact ZQ|intro _);all_goals apply zL;all_goals first|exact⟨rfl,rfl,_,rfl,HQ⟩|exact⟨by simp,by simp⟩)
 ·obtain⟨a,b,c,rfl⟩:=r8 hT
  obtain⟨a',b',c',rfl⟩:=r8 hL
  (show Zx EM false (Tryz.a782 _) _ _ _ _;haveI:aS:=⟨⟩;(repeat' first|constructor|exact ZQ|intro _);all_goals apply zL;all_goals first|exact⟨rfl,rfl,_,rfl,HQ⟩|exact⟨by simp,by simp⟩)
 ·obtain⟨a,b,c,d,rfl⟩:=r9 hT
  obtain⟨a',b',c',d',rfl⟩:=r9 hL
  (show Zx EM false (Tryz.a782 _) _ _ _ _;haveI:aS:=⟨⟩;(repeat' first|constructor|exact ZQ|intro _);all_goals apply zL;all_goals first|exact⟨rfl,rfl,_,rfl,HQ⟩|exact⟨by simp,by simp⟩)
instance Nv:NS EM (zF 775) [.ptr q 0] (.obj q (.row [I nd,I hd,I ht,I c3,I c4,I n,I c6,I c7,I c8,I c9,I dz,I cT,I dx,U key,I 9,I lv,I pred,U known,U cur,U w,.sl qt 0 k k,U cz,B true,I 0])::.obj qt (.row (gQ L T))::R0) ((1≤k∧k≤4)∧T.length=k∧L.length=k) (T.map fun s=>[U s.cur]):=.of rfl rfl fun⟨hk,hT,hL⟩ ro R=>by
 have:k=1∨k=2∨k=3∨k=4:=by omega
 rcases this with rfl|rfl|rfl|rfl
 ·obtain⟨a,rfl⟩:=rZ hT
  obtain⟨a',rfl⟩:=rZ hL
  (show Zx EM false (Tryz.a775 _) _ _ _ _;haveI:aS:=⟨⟩;(repeat' first|constructor|exact ZQ|intro _);all_goals apply zL;all_goals first|exact⟨rfl,rfl,_,rfl,HQ⟩|exact⟨by simp,by simp⟩)
 ·obtain⟨a,b,rfl⟩:=r7 hT
  obtain⟨a',b',rfl⟩:=r7 hL
  (show Zx EM false (Tryz.a775 _) _ _ _ _;haveI:aS:=⟨⟩;(repeat' first|constructor|exact ZQ|intro _);all_goals apply zL;all_goals first|exact⟨rfl,rfl,_,rfl,HQ⟩|exact⟨by simp,by simp⟩)
 ·obtain⟨a,b,c,rfl⟩:=r8 hT
  obtain⟨a',b',c',rfl⟩:=r8 hL
  (show Zx EM false (Tryz.a775 _) _ _ _ _;haveI:aS:=⟨⟩;(repeat' first|constructor|exact ZQ|intro _);all_goals apply zL;all_goals first|exact⟨rfl,rfl,_,rfl,HQ⟩|exact⟨by simp,by simp⟩)
 ·obtain⟨a,b,c,d,rfl⟩:=r9 hT
  obtain⟨a',b',c',d',rfl⟩:=r9 hL
  (show Zx EM false (Tryz.a775 _) _ _ _ _;haveI:aS:=⟨⟩;(repeat' first|constructor|exact ZQ|intro _);all_goals apply zL;all_goals first|exact⟨rfl,rfl,_,rfl,HQ⟩|exact⟨by simp,by simp⟩)
end
theorem bT.row {t}{key b:Int}{q:Nat}{σ l}(h:bT t key q b σ l):∃(ln lv pred known cur w:Int) (qt k:Nat) (c:List AV),l=[.obj q (.row (t.tR key ln lv pred known cur w qt k b 0)),.obj qt (.row c)]:=by
 cases h<;>exact⟨_,_,_,_,_,_,_,_,_,rfl⟩
end
section
instance z27 {n:Nat}[Mn n [761,636,774,779,778,776,762,763,764,777,765,766,767,768,769,770,771,772,773]]:cF n where
def Tw.oO (t:Tw)(km:Bool)(ref key i high cd lv w:Int)(place ret:AV)(cz er:Int):List AV:=t.cs++[B true,B km,U ref,U key,I i,I high,I cd,I lv,U w,place,ret,U cz,I er]
inductive ko (t:Tw)(i g key high:Int)(q:Nat)(b:Int):cS→List Own→Prop
 |f {km:Bool}{lv w bf:Int}{ret}{qf:Nat}{F lf}(h:bT t key qf bf F lf)(ho:F.over=false):ko t i g key high q b (.f F) (.obj q (.row (t.oO km (aC i g) key i high 1 lv w (.ptr qf 0) ret b 0))::lf)
 |s {km:Bool}{w bf:Int}{ret}{qf l:Nat}{T lf}(hl:(l:Int)<high)(h:bT t key qf bf (.d T) lf):ko t i g key high q b (.s l T) (.obj q (.row (t.oO km (aC i g) key i high 2 l w (.ptr qf 0) ret b 0))::lf)
 |e {km:Bool}{w bf:Int}{ret}{qf:Nat}{T lf}(h:bT t key qf bf (.d T) lf):ko t i g key high q b (.e T) (.obj q (.row (t.oO km (aC i g) key i high 3 0 w (.ptr qf 0) ret b 0))::lf)
 |l {km:Bool}{w lv bf:Int}{ret}{qf l:Nat}{T lf}(hv:lv=l)(hl:(l:Int)<high)(h:bT t key qf bf (.d T) lf):ko t i g key high q b (.l l T) (.obj q (.row (t.oO km (aC i g) key i high 4 lv w (.ptr qf 0) ret b 0))::lf)
 |t {km:Bool}{w bf:Int}{ret}{qf l:Nat}{T lf}(hl:(l:Int)<high)(hw:Me.ar w)(h:bT t key qf bf (.d T) lf):ko t i g key high q b (.t l w T) (.obj q (.row (t.oO km (aC i g) key i high 5 l w (.ptr qf 0) ret b 0))::lf)
 |k {km:Bool}{w bf:Int}{ret}{qf l:Nat}{T lf}(hl:(l:Int)<high)(h:bT t key qf bf (.d T) lf):ko t i g key high q b (.k l T) (.obj q (.row (t.oO km (aC i g) key i high 6 l w (.ptr qf 0) ret b 0))::lf)
 |g {km:Bool}{w bf:Int}{ret}{qf l:Nat}{F lf}(hl:(l:Int)<high)(h:bT t key qf bf F lf)(ho:F.over=false):ko t i g key high q b (.g l F) (.obj q (.row (t.oO km (aC i g) key i high 7 l w (.ptr qf 0) ret b 0))::lf)
 |o {km:Bool}{w bf:Int}{ret}{qf l:Nat}{T lf}(hl:(l:Int)<high)(h:bT t key qf bf (.d T) lf):ko t i g key high q b (.o l T) (.obj q (.row (t.oO km (aC i g) key i high 8 l w (.ptr qf 0) ret b 0))::lf)
 |q {km:Bool}{lv w:Int}{place ret}:ko t i g key high q b .q [.obj q (.row (t.oO km (aC i g) key i high 9 lv w place ret b 0))]
 |c {km:Bool}{lv w bf:Int}{ret}{qf:Nat}{F lf}(h:bT t key qf bf F lf)(ho:F.over=false):ko t i g key high q b (.c F) (.obj q (.row (t.oO km (aC i g) key i high 10 lv w (.ptr qf 0) ret b 0))::lf)
 |r {km:Bool}{lv w:Int}{place ret}:ko t i g key high q b .r [.obj q (.row (t.oO km (aC i g) key i high 11 lv w place ret b 0))]
 |w {km:Bool}{lv w:Int}{place}{qr:Nat}{σ lr}(h:yW t.l i qr σ lr)(ho:σ.over=false):ko t i g key high q b (.w σ) (.obj q (.row (t.oO km (aC i g) key i high 12 lv w place (.ptr qr 0) b 0))::lr)
 |d {km:Bool}{lv w:Int}{place ret}:ko t i g key high q b (.d 0) [.obj q (.row (t.oO km (aC i g) key i high 0 lv w place ret b 0))]
section
variable{B0 S:AH}{W:List Nat}{own R lo:List Own}{ro:List aQ}{m bl q:Nat}{x:Me}{rest:List AV}{t:Tw}{i g key high b:Int}
theorem xB {a:bJ}(h:a.over=true):∃T,a=.d T:=by cases a<;>first|exact⟨_,rfl⟩|cases h
theorem C7 {o1 own:List Own}(e:o1=own:=by conv=>lhs;simp only[Tw.oO,Tw.tR,Tw.cs,Lb.cs,Ar.cs,Ep.cs,lA,lB,lC]):o1=own:=e
theorem B7 {σ:cS}(hs:t.ok)(hr:t.rf i g)(hh:1≤high∧high≤t.ht)(hx:x.gd)(ho:σ.over=false)(B6:Me.ar key)(h:ko t i g key high q b σ lo)(H:Cx B0 W S (lo++(ad m bl x rest++R)) ro):
  aO EM (zF 760) [.ptr q 0,.ptr m 0] S fun u S'=>∃ab,eD (ko t i g key high q (σ.cz (aC i g))) cS.over (σ.step t (aC i g) key high x) (ad m bl · rest) R u ab∧Cx B0 W S' ab ro:=by
 have bn:=hs
 unfold Tw.ok Lb.ok Ar.ok Sk.ok Ep.ok at bn
 have ox:=hr
 unfold Tw.rf cX at ox
 have kZ:=Tw.wc hr
 have hw:=ki hr.1
 haveI:aS:=⟨⟩
 cases h with
 |@f km lv w bf ret qf F lf h hF=>
  refine Vx.fm H C7 (b:=Tryz.a760) ?_;(repeat' first|constructor|exact ZQ|intro _);all_goals apply zL
  refine Vx.fz (A:=[_,_,_]) (fun B W S H=>pV hs hx hF B6 h H) fun a' x' l' e hl=>?_
  have e2:(cS.f F).step t (aC i g) key high x=(cS.FM a',x'):=by
   show(cS.FM _,_)=_
   rw[e]
  by_cases ho:a'.over=true
  ·obtain⟨T,rfl⟩:=xB ho
   have pq:=hl.row
   obtain⟨ln,DO,pred,known,cur,w2,qt,k,c,rfl⟩:=pq
   rw[ho]
   (repeat' first|constructor|exact ZQ|intro _)
   all_goals apply zL
   exact aa e2 (.s (l:=0) (by omega) hl) rfl HQ
  ·rw[Bool.not_eq_true] at ho
   have pq:=hl.row
   obtain⟨ln,DO,pred,known,cur,w2,qt,k,c,rfl⟩:=pq
   rw[ho]
   (repeat' first|constructor|exact ZQ|intro _)
   all_goals apply zL
   have e3:(cS.f F).step t (aC i g) key high x=(.f a',x'):=e2.trans (Prod.ext (by cases a'<;>first|rfl|cases ho) rfl)
   exact aa e3 (.f hl ho) rfl HQ
 |@s km w bf ret qf l T lf hl h=>
  have e2:(cS.s l T).step t (aC i g) key high x=(if high≤(l:Int)+1 then .e T else .s (l+1) T,x.st (t.nx i l) (T.cd l).cur):=by
   show(_,x.st (t.nx (t.ix _) _) _)=_;rw[kZ]
  cases h with
  |@d k qt lv pred known cur w' T L hk hT hL=>
  have y9:=hT.1
  have h4:high=1∨high=2∨high=3∨high=4:=by omega
  have h5:l=0∨l=1∨l=2∨l=3:=by omega
  have TT:=(fL.y_ (l:=l) hT (by omega)).2.2
  by_cases hc:high≤(l:Int)+1
  ·have e3:=e2
   rw[if_pos hc] at e3
   clear e2
   rcases h4 with rfl|rfl|rfl|rfl<;>rcases h5 with rfl|rfl|rfl|rfl<;>first|(exfalso;omega)|skip
   all_goals((refine Vx.fm H C7 (b:=Tryz.a760) ?_;(repeat' first|constructor|exact ZQ|intro _);all_goals apply zL))
   all_goals exact aa e3 (.e (.d hk hT hL)) rfl HQ
  ·have e3:=e2
   rw[if_neg hc] at e3
   have z_:((l+1:Nat):Int)<high:=by omega
   clear e2
   rcases h4 with rfl|rfl|rfl|rfl<;>rcases h5 with rfl|rfl|rfl|rfl<;>first|(exfalso;omega)|skip
   all_goals((refine Vx.fm H C7 (b:=Tryz.a760) ?_;(repeat' first|constructor|exact ZQ|intro _);all_goals apply zL))
   all_goals exact aa e3 (.s z_ (.d hk hT hL)) rfl HQ
 |@e km w bf ret qf T lf h=>
  cases h with
  |@d k qt lv pred known cur w' T L hk hT hL=>
  have y9:=hT.1
  have ho:=fL.y_ (l:=0) hT (by omega)
  unfold Sp.ok at ho
  have UX:-1≤(T.cd (Int.toNat 0)).pred∧(T.cd (Int.toNat 0)).pred<t.l.a.f.size:=ho.1
  refine Vx.fm H C7 (b:=Tryz.a760) ?_;(repeat' first|constructor|exact ZQ|intro _);all_goals apply zL
  ·next h1 p l' hF=>exact aa (Prod.ext (if_neg (K4 h1)) rfl) (.f (show bT t key p 0 (.new t) l' from hF) rfl) rfl HQ
  ·next h1 h2=>exact aa (Prod.ext ((if_pos (AM h1)).trans (if_pos h2)) rfl) .q rfl HQ
  ·next h1 h2=>exact aa (Prod.ext ((if_pos (AM h1)).trans (if_neg h2)) rfl) (.l (l:=1) rfl (Int.not_le.1 h2) (.d hk hT hL)) rfl HQ
 |@l km w ZI bf ret qf l T lf hv hl h=>
  subst hv
  have hb:=Me.ai hx (t.nx i l)
  have e2:(cS.l l T).step t (aC i g) key high x=(if 9223372036854775808≤x.word (t.nx i l) then .q else if x.word (t.nx i l)=(T.cd l).cur then .k l T else .t l (x.word (t.nx i l)) T,x.ld (t.nx i l)):=by
   show(if _≤x.word (t.nx (t.ix _) _) then _ else _,x.ld (t.nx (t.ix _) _))=_;rw[kZ]
  cases h with
  |@d k qt lv pred known cur w' T L hk hT hL=>
  have y9:=hT.1
  refine Vx.fm H C7 (b:=Tryz.a760) ?_;(repeat' first|constructor|exact ZQ|intro _);all_goals apply zL
  ·next h1=>exact aa (e2.trans (Prod.ext (if_pos h1) rfl)) .q rfl HQ
  ·next h1 v o1 o2 o3 h2=>exact aa (e2.trans (Prod.ext ((if_neg h1).trans (if_neg h2)) rfl)) (.t hl hb (.d hk hT hL)) rfl HQ
  ·next h1 v o1 o2 o3 h2=>exact aa (e2.trans (Prod.ext ((if_neg h1).trans (if_pos (Decidable.not_not.1 h2))) rfl)) (.k hl (.d hk hT hL)) rfl HQ
 |@t km w bf ret qf l T lf hl hw h=>
  have e2:(cS.t l w T).step t (aC i g) key high x=(if x.eq (t.nx i l) w then .k l T else .q,x.eh (t.nx i l) w (T.cd l).cur):=by
   show(if x.eq (t.nx (t.ix _) _) _ then _ else _,x.eh (t.nx (t.ix _) _) _ _)=_;rw[kZ]
  cases h with
  |@d k qt lv pred known cur w' T L hk hT hL=>
  have y9:=hT.1
  refine Vx.fm H C7 (b:=Tryz.a760) ?_;(repeat' first|constructor|exact ZQ|intro _);all_goals apply zL
  ·next h1=>exact aa (e2.trans (Prod.ext (if_pos h1) rfl)) (.k hl (.d hk hT hL)) rfl HQ
  ·next h1=>exact aa (e2.trans (Prod.ext (if_neg h1) rfl)) .q rfl HQ
 |@k km w bf ret qf l T lf hl h=>
  cases h with
  |@d k qt lv pred known cur w' T L hk hT hL=>
  have y9:=hT.1
  have ho:=fL.y_ (l:=l) hT (by omega)
  unfold Sp.ok at ho
  have UX:-1≤(T.cd (Int.toNat l)).pred∧(T.cd (Int.toNat l)).pred<t.l.a.f.size:=ho.1
  refine Vx.fm H C7 (b:=Tryz.a760) ?_;(repeat' first|constructor|exact ZQ|intro _);all_goals apply zL
  ·next h1 p l' hF=>exact aa (Prod.ext (if_neg (K4 h1)) rfl) (.g hl (show bT t key p 0 (.new t) l' from hF) rfl) rfl HQ
  ·next h1 h2=>exact aa (Prod.ext ((if_pos (AM h1)).trans (if_pos h2)) rfl) .q rfl HQ
  ·next h1 h2=>exact aa (Prod.ext ((if_pos (AM h1)).trans (if_neg h2)) rfl) (.l (l:=l+1) rfl (Int.not_le.1 h2) (.d hk hT hL)) rfl HQ
 |@g km w bf ret qf l F lf zK h hF=>
  refine Vx.fm H C7 (b:=Tryz.a760) ?_;(repeat' first|constructor|exact ZQ|intro _);all_goals apply zL
  refine Vx.fz (A:=[_,_,_]) (fun B W S H=>pV hs hx hF B6 h H) fun a' x' l' e hl=>?_
  have e2:(cS.g l F).step t (aC i g) key high x=(cS.FN l a',x'):=by
   show(cS.FN _ _,_)=_
   rw[e]
  by_cases ho:a'.over=true
  ·obtain⟨T,rfl⟩:=xB ho
   have pq:=hl.row
   obtain⟨ln,DO,pred,known,cur,w2,qt,k,c,rfl⟩:=pq
   rw[ho]
   (repeat' first|constructor|exact ZQ|intro _)
   all_goals apply zL
   exact aa e2 (.o zK hl) rfl HQ
  ·rw[Bool.not_eq_true] at ho
   have pq:=hl.row
   obtain⟨ln,DO,pred,known,cur,w2,qt,k,c,rfl⟩:=pq
   rw[ho]
   (repeat' first|constructor|exact ZQ|intro _)
   all_goals apply zL
   have e3:(cS.g l F).step t (aC i g) key high x=(.g l a',x'):=e2.trans (Prod.ext (by cases a'<;>first|rfl|cases ho) rfl)
   exact aa e3 (.g zK hl ho) rfl HQ
 |@o km w bf ret qf l T lf hl h=>
  have hb:=Me.ai hx (t.nx i 0)
  have e2:(cS.o l T).step t (aC i g) key high x=(if 9223372036854775808≤x.word (t.nx i 0) then .c (.new t) else .l l T,x.ld (t.nx i 0)):=by
   show(if _≤x.word (t.nx (t.ix _) _) then _ else _,x.ld (t.nx (t.ix _) _))=_;rw[kZ]
  refine Vx.fm H C7 (b:=Tryz.a760) ?_;(repeat' first|constructor|exact ZQ|intro _);all_goals apply zL
  ·next h1 p l' hF=>exact aa (e2.trans (Prod.ext (if_pos h1) rfl)) (.c (show bT t key p 0 (.new t) l' from hF) rfl) rfl HQ
  ·next h1=>exact aa (e2.trans (Prod.ext (if_neg h1) rfl)) (.l rfl hl h) rfl HQ
 |@q km lv w place ret=>
  have hb:=Me.ai hx (t.nx i 0)
  have e2:(cS.q).step t (aC i g) key high x=(if 9223372036854775808≤x.word (t.nx i 0) then .c (.new t) else .r,x.ld (t.nx i 0)):=by
   show(if _≤x.word (t.nx (t.ix _) _) then _ else _,x.ld (t.nx (t.ix _) _))=_;rw[kZ]
  refine Vx.fm H C7 (b:=Tryz.a760) ?_;(repeat' first|constructor|exact ZQ|intro _);all_goals apply zL
  ·next h1 p l' hF=>exact aa (e2.trans (Prod.ext (if_pos h1) rfl)) (.c (show bT t key p 0 (.new t) l' from hF) rfl) rfl HQ
  ·next h1=>exact aa (e2.trans (Prod.ext (if_neg h1) rfl)) .r rfl HQ
 |@c km lv w bf ret qf F lf h hF=>
  refine Vx.fm H C7 (b:=Tryz.a760) ?_;(repeat' first|constructor|exact ZQ|intro _);all_goals apply zL
  refine Vx.fz (A:=[_,_,_]) (fun B W S H=>pV hs hx hF B6 h H) fun a' x' l' e hl=>?_
  have e2:(cS.c F).step t (aC i g) key high x=(if a'.over then .r else .c a',x'):=by
   show(_,_)=_
   rw[e]
  have pq:=hl.row
  obtain⟨ln,DO,pred,known,cur,w2,qt,k,c,rfl⟩:=pq
  cases ho:a'.over
  ·(repeat' first|constructor|exact ZQ|intro _)
   all_goals apply zL
   exact aa (e2.trans (Prod.ext (if_neg (by rw[ho];simp)) rfl)) (.c hl ho) rfl HQ
  ·(repeat' first|constructor|exact ZQ|intro _)
   all_goals apply zL
   exact aa (e2.trans (Prod.ext (if_pos ho) rfl)) .r rfl HQ
 |@r km lv w place ret=>
  have hn:gP.new t.l i=.a:=if_neg (by omega)
  have e2:(cS.r).step t (aC i g) key high x=(if(x.add (t.pt i 3) 18446744073709551615).new=0 then .w .a else .d 0,x.add (t.pt i 3) 18446744073709551615):=by
   show(if(x.add (t.pt (t.ix _) _) _).new=0 then cS.w (gP.new _ (t.ix _)) else _,x.add (t.pt (t.ix _) _) _)=_;rw[kZ,hn]
  refine Vx.fm H C7 (b:=Tryz.a760) ?_;(repeat' first|constructor|exact ZQ|intro _);all_goals apply zL
  ·next h1=>exact aa (e2.trans (Prod.ext (if_neg h1) rfl)) .d rfl HQ
  ·next h1 p1 p2 h2 h3=>exact aa (e2.trans (Prod.ext (if_pos (Decidable.not_not.1 h1)) rfl)) (.w (.a ⟨by omega,by omega⟩) rfl) rfl HQ
 |@w km lv w place qr σ lr h hF=>
  refine Vx.fm H C7 (b:=Tryz.a760) ?_;(repeat' first|constructor|exact ZQ|intro _);all_goals apply zL
  refine Vx.fz (A:=[_,_,_]) (fun B W S H=>B2 hs.2.2.2.2 hx h H) fun a' x' l' e hl=>?_
  have e2:(cS.w σ).step t (aC i g) key high x=(if a'.over then .d 0 else .w a',x'):=by
   show(if(σ.step t.l (t.ix _) x).1.over then _ else _,(σ.step t.l (t.ix _) x).2)=_
   rw[kZ,e]
  cases ho:a'.over
  ·(repeat' first|constructor|exact ZQ|intro _)
   all_goals apply zL
   exact aa (e2.trans (Prod.ext (if_neg (by rw[ho];simp)) rfl)) (.w hl ho) rfl HQ
  ·(repeat' first|constructor|exact ZQ|intro _)
   all_goals apply zL
   exact aa (e2.trans (Prod.ext (if_pos ho) rfl)) .d rfl HQ
 |d=>cases ho
end
section
variable{nd hd ht c3 c4 n c6 c7 c8 c9 dz cT dx i g key high:Int}
instance K5:VC EM (zF 634) [.agg [I nd,I hd,I ht,I c3,I c4,I n,I c6,I c7,I c8,I c9,I dz,I cT,I dx],U (aC i g),I high] (((0≤nd∧nd<4096)∧(0≤hd∧hd<4096)∧(1≤ht∧ht≤4)∧1≤n∧n≤128)∧(cX i g∧i<n)∧1≤high∧high≤ht) (I 0):=.of rfl rfl fun⟨h,hi,hh⟩=>by
 have jq:=hi
 unfold cX at jq
 have h0:0≤oX nd ht 0 0:=by unfold oX;omega
 show Zx EM false (Tryz.a634 _) _ _ _ _
 (repeat' first|constructor|exact ZQ|intro _)
 all_goals apply zL
 exact hi.1
instance UY:NC EM (zF 624) [.agg [I nd,I hd,I ht,I c3,I c4,I n,I c6,I c7,I c8,I c9,I dz,I cT,I dx],U (aC i g),U key,I high] (((0≤nd∧nd<4096)∧(0≤hd∧hd<4096)∧(1≤ht∧ht≤4)∧1≤n∧n≤128)∧(cX i g∧i<n)∧1≤high∧high≤ht)
  (fun p l=>ko ⟨nd,hd,ht,⟨⟨⟨c3,c4,n⟩,c6,c7,c8⟩,⟨c9,dz,cT⟩,dx⟩⟩ i g key high p 0 (.f (.new ⟨nd,hd,ht,⟨⟨⟨c3,c4,n⟩,c6,c7,c8⟩,⟨c9,dz,cT⟩,dx⟩⟩)) l):=.of rfl rfl fun h ro R=>by
 obtain⟨h0,hi,hh⟩:=h
 show Zx EM false (Tryz.a624 _) _ _ _ _
 (repeat' first|constructor|exact ZQ|intro _)
 all_goals apply zL
 ·exact⟨h0,hi,hh⟩
 ·exact hi.1
 ·next a b p l h=>exact⟨rfl,rfl,(_::(l++R)),⟨_,_,ko.f h rfl,rfl,rfl⟩,HQ⟩
end
end
end Go.cY
