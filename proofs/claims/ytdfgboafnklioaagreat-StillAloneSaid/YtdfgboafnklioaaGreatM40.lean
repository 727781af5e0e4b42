/- Contracts of functions, over the abstract machine. Conditions: stated in each theorem. -/
import Derived.Test.YtdfgboafnklioaaGreatM0
set_option linter.all false
set_option maxRecDepth 100000
set_option maxHeartbeats 4000000
namespace Go.cY
open Go.Proofs
section
section
variable{B0 S:AH}{W:List Nat}{own R R0:List Own}{ro:List aQ}{Q:hX}{k:AV→AC}{v:AV}{w:Nat}{x:Me}
theorem nH {M}{id off:Nat}{e}(hp:(aQ.pt id off [e]).holds S)(h:wp M (k e) S Q):wp M (.op (.load 1 false (.ptr id off)) k) S Q:=by
 obtain⟨c,h1,h2⟩:=tG (j:=0) hp rfl
 exact ae (jI h1 h2) h
theorem JE {a:Int}(H:Cx B0 W S (aj w v x++R) ro):aO EM (zF 115) [.ptr w 0,I a] S fun r S'=>r=U (x.word a)∧S'=S:=by
 refine bg (b:=Tryz.a115) rfl rfl ?_
 rw[Tryz.u115]
 have out:¬x.has a→x.word a=0:=fun h=>if_neg h
 refine fE (fun h0=>?_) (fun h0=>?_)
 ·(try(refine zz ?_;(repeat constructor);intro _))
  exact wp_ret ⟨rfl,by rw[out (fun h=>by have:=h.1;omega)];rfl,rfl⟩
 (try(refine zz ?_;(repeat constructor);intro _))
 refine bF (j:=0) H 0 rfl rfl ?_
 (try(refine zz ?_;(repeat constructor);intro _))
 refine BU H 1 rfl ?_
 rw[dU]
 (try(refine zz ?_;(repeat constructor);intro _))
 refine jb (fun h1=>?_) (fun h1=>?_)
 ·(try(refine zz ?_;(repeat constructor);intro _))
  exact wp_ret ⟨rfl,by rw[out (fun h=>by have:=h.2;omega)];rfl,rfl⟩
 (try(refine zz ?_;(repeat constructor);intro _))
 obtain⟨n,rfl⟩:∃n:Nat,a=(n:Int):=⟨a.toNat,by omega⟩
 have hw:x.ws[n]?=some x.ws[n]:=List.getElem?_eq_getElem (by omega)
 generalize x.ws[n]=z at hw
 refine bF (j:=0) H 0 rfl rfl ?_
 refine nw H 1 rfl (jd hw) fun id off hp=>?_
 refine nH hp ?_
 exact wp_ret ⟨rfl,by rw[Me.sw hw];rfl,rfl⟩
theorem xN {kind a z:Int}{held:Bool}(hx:x.gd)(H:Cx B0 W S (aj w v x++R) ro):aO EM (zF 80) [.ptr w 0,I kind,I a,B held,U z] S fun r S'=>Cx B0 W S' (aj w v (x.acc kind a (if held then z else x.word a) held)++R) ro:=by
 refine bg (b:=Tryz.a80) rfl rfl ?_
 rw[Tryz.u80]
 have hx:=hx.1
 (try(refine zz ?_;(repeat constructor);intro _))
 refine bF (j:=6) H 0 rfl rfl ?_
 refine cg (by omega) (by omega) ?_
 (try(refine zz ?_;(repeat constructor);intro _))
 refine gx (j:=6) H 0 rfl (by simp[Me.HY,Me.last]) ⟨rfl,rfl⟩ fun S1 H=>?_
 refine ae (v:=.agg [I kind,I a,U 0,U 0,B false]) rfl ?_
 (try(refine zz ?_;(repeat constructor);intro _))
 refine fI (off:=1) (n:=5) H 0 rfl rfl rfl (Nat.le_of_ble_eq_true rfl) fun S2 H=>?_
 have H:Cx B0 W S2 (aj w v ⟨x.ws,kind,a,0,0,false,x.n+1⟩++R) ro:=H
 have out:¬x.has a→x.acc kind a (if held then z else x.word a) held=⟨x.ws,kind,a,0,0,false,x.n+1⟩:=fun h=>if_neg h
 refine fE (fun h0=>?_) (fun h0=>?_)
 ·(try(refine zz ?_;(repeat constructor);intro _))
  exact wp_ret ⟨rfl,by rw[out (fun h=>by have:=h.1;omega)];exact H⟩
 (try(refine zz ?_;(repeat constructor);intro _))
 refine bF (j:=0) H 0 rfl rfl ?_
 (try(refine zz ?_;(repeat constructor);intro _))
 refine BU H 1 rfl ?_
 rw[dU]
 (try(refine zz ?_;(repeat constructor);intro _))
 refine jb (fun h1=>?_) (fun h1=>?_)
 ·(try(refine zz ?_;(repeat constructor);intro _))
  exact wp_ret ⟨rfl,by rw[out (fun h=>by have:=h.2;exact absurd h1 (by show¬(x.ws.length:Int)≤a;omega))];exact H⟩
 (try(refine zz ?_;(repeat constructor);intro _))
 obtain⟨n,rfl⟩:∃n:Nat,a=(n:Int):=⟨a.toNat,by omega⟩
 have h1:n<x.ws.length:=by have:(n:Int)<x.ws.length:=h1;omega
 have hw:x.ws[n]?=some x.ws[n]:=List.getElem?_eq_getElem h1
 generalize x.ws[n]=iK at hw
 have hh:x.has n:=⟨by omega,by omega⟩
 have FP:x.acc kind n (if held then z else x.word n) held=⟨x.ws.set n (if held then z else iK),kind,n,iK,(if held then z else iK),held,x.n+1⟩:=by
  unfold Me.acc
  rw[if_pos hh,Me.sw hw,Int.toNat_natCast]
 rw[FP]
 refine bF (j:=0) H 0 rfl rfl ?_
 refine nw H 1 rfl (jd hw) fun id off hp=>?_
 refine nH hp ?_
 (try(refine zz ?_;(repeat constructor);intro _))
 refine gx (j:=3) H 0 rfl (Nat.le_of_ble_eq_true rfl) ⟨rfl,rfl⟩ fun S3 H=>?_
 have H:Cx B0 W S3 (.obj w (.row [v,I kind,I n,U iK,U 0,B false,I (x.n+1)])::.sl v 1 (bu x.ws)::R) ro:=H
 refine wp_bind ?_
 cases held with
 |true=>
  (try(refine zz ?_;(repeat constructor);intro _))
  refine bF (j:=0) H 0 rfl rfl ?_
  refine vW (y:=U z) (i:=n) H 1 rfl (by rw[dU];exact h1) rfl rfl fun S4 H=>?_
  refine wp_ret ?_
  show wp EM _ _ _
  have H:Cx B0 W S4 (.obj w (.row [v,I kind,I n,U iK,U 0,B false,I (x.n+1)])::.sl v 1 ((bu x.ws).set n [U z])::R) ro:=H
  rw[C3] at H
  (try(refine zz ?_;(repeat constructor);intro _))
  refine bF (j:=0) H 0 rfl rfl ?_
  have cV:(x.ws.set n z)[n]?=some z:=by rw[List.getElem?_set];simp[h1]
  refine nw H 1 rfl (jd cV) fun id off hp=>?_
  refine nH hp ?_
  (try(refine zz ?_;(repeat constructor);intro _))
  refine gx (j:=4) H 0 rfl (Nat.le_of_ble_eq_true rfl) ⟨rfl,rfl⟩ fun S5 H=>?_
  (try(refine zz ?_;(repeat constructor);intro _))
  refine gx (j:=5) H 0 rfl (Nat.le_of_ble_eq_true rfl) ⟨rfl,rfl⟩ fun S6 H=>?_
  exact wp_ret ⟨rfl,H⟩
 |false=>
  (try(refine zz ?_;(repeat constructor);intro _))
  refine wp_ret ?_
  show wp EM _ _ _
  have e:x.ws.set n iK=x.ws:=by
   apply List.ext_getElem?
   intro i
   rw[List.getElem?_set]
   by_cases e:n=i
   ·subst e;rw[if_pos rfl,if_pos h1,hw]
   ·rw[if_neg e]
  show wp EM _ _ fun t vs S'=>t=.ret∧Cx B0 W S' (aj w v ⟨x.ws.set n iK,kind,n,iK,iK,false,x.n+1⟩++R) ro
  rw[e]
  (try(refine zz ?_;(repeat constructor);intro _))
  refine bF (j:=0) H 0 rfl rfl ?_
  refine nw H 1 rfl (jd hw) fun id off hp=>?_
  refine nH hp ?_
  (try(refine zz ?_;(repeat constructor);intro _))
  refine gx (j:=4) H 0 rfl (Nat.le_of_ble_eq_true rfl) ⟨rfl,rfl⟩ fun S5 H=>?_
  (try(refine zz ?_;(repeat constructor);intro _))
  refine gx (j:=5) H 0 rfl (Nat.le_of_ble_eq_true rfl) ⟨rfl,rfl⟩ fun S6 H=>?_
  exact wp_ret ⟨rfl,H⟩
instance VA {a z:Int}:SC EM (zF 17) [.ptr w 0,I a,U z] (aj w v x++R0) x.gd uv (aj w v (x.st a z)++R0) where
 ok:=fun hx ro R B W S H=>by
  rw[lC] at H
  refine bg (b:=Tryz.a17) rfl rfl ?_
  rw[Tryz.u17]
  refine b5 (az (xN (held:=true) hx H) fun r S1 H=>?_)
  exact wp_ret ⟨rfl,rfl,by rw[lC];exact H⟩
theorem Me.Lu {a:Int}:(x.ld a).new=x.word a:=by
 unfold Me.ld Me.acc Me.word
 split<;>rfl
instance XD {a:Int}:SC EM (zF 188) [.ptr w 0,I a] (aj w v x++R0) x.gd (U (x.word a)) (aj w v (x.ld a)++R0) where
 ok:=fun hx ro R B W S H=>by
  rw[lC] at H
  refine bg (b:=Tryz.a188) rfl rfl ?_
  rw[Tryz.u188]
  refine b5 (az (xN (held:=false) hx H) fun r S1 H=>?_)
  have H:Cx B W S1 (aj w v (x.ld a)++(R0++R)) ro:=H
  (try(refine zz ?_;(repeat constructor);intro _))
  refine bF (j:=4) H 0 rfl rfl ?_
  exact wp_ret ⟨rfl,by rw[Me.Lu];rfl,by rw[lC];exact H⟩
instance Z0 {a z:Int}:SC EM (zF 198) [.ptr w 0,I a,U z] (aj w v x++R0) x.gd (U (x.add a z).new) (aj w v (x.add a z)++R0) where
 ok:=fun hx ro R B W S H=>by
  rw[lC] at H
  refine bg (b:=Tryz.a198) rfl rfl ?_
  rw[Tryz.u198]
  refine b5 (az (JE H) fun r S1 hh=>?_)
  obtain⟨rfl,rfl⟩:=hh
  refine tC (by rw[bo,IntKind.wrap_u64]) ?_
  refine b5 (az (xN (held:=true) hx H) fun r S1 H=>?_)
  have H:Cx B W S1 (aj w v (x.add a z)++(R0++R)) ro:=H
  (try(refine zz ?_;(repeat constructor);intro _))
  refine bF (j:=4) H 0 rfl rfl ?_
  exact wp_ret ⟨rfl,rfl,by rw[lC];exact H⟩
instance Z1 {a o z:Int}:SC EM (zF 314) [.ptr w 0,I a,U o,U z] (aj w v x++R0) x.gd (B (decide (x.eq a o))) (aj w v (x.eh a o z)++R0) where
 ok:=fun hx ro R B W S H=>by
  rw[lC] at H
  refine bg (b:=Tryz.a314) rfl rfl ?_
  rw[Tryz.u314]
  refine b5 (az (JE H) fun r S1 hh=>?_)
  obtain⟨rfl,rfl⟩:=hh
  have fin:∀{b:Bool} {S2:AH},decide (x.word a=o)=b→Cx B W S2 (aj w v (x.acc 3 a (if b then z else x.word a) b)++(R0++R)) ro→Cx B W S2 (aj w v (x.eh a o z)++(R0++R)) ro:=by
   intro b S2 hb H
   unfold Me.eh
   subst hb
   by_cases h:x.word a=o
   ·rw[decide_eq_true h] at*;rw[if_pos h];exact H
   ·rw[decide_eq_false h] at*;rw[if_neg h];exact H
  refine ae BR ?_
  refine b5 (az (xN (held:=decide (x.word a=o)) hx H) fun r S1 H=>?_)
  have H:=fin rfl H
  (try(refine zz ?_;(repeat constructor);intro _))
  refine bF (j:=5) H 0 rfl rfl ?_
  exact wp_ret ⟨rfl,by rw[←Me.yU (n:=z)];rfl,by rw[lC];exact H⟩
end
instance VB {a b c w:Int}:VC EM (zF 438) [.agg [I a,I b,I c],U w] (Me.ar w∧0≤c) (I (idx c w)):=.of rfl rfl fun⟨hw,hc⟩=>by
 show Zx EM false (Tryz.a438 _) _ _ _ _
 (repeat' first|constructor|exact ZQ|intro _)
 all_goals apply zL
 ·exact⟨rfl,by unfold idx;rw[if_neg (by omega)];rfl⟩
 ·exact⟨rfl,by unfold idx;rw[if_pos (by omega)];rfl⟩
theorem Ik {i w:Int}(hi:-1≤i∧i≤65534)(hw:Me.ar w):mj ((i+1)%18446744073709551616) ((w/2^16+1)%18446744073709551616*2^16%18446744073709551616)=yV i w:=by
 unfold Me.ar at hw
 have e1:(i+1)%18446744073709551616=i+1:=by omega
 have e2:(w/2^16+1)%18446744073709551616*2^16%18446744073709551616=(w/65536+1)%281474976710656*2^16:=by simp only[Int.reducePow];omega
 rw[e1,e2,kh (by omega) (by omega) (by simp only[Int.reducePow];omega)]
 unfold yV
 simp only[Int.reducePow];omega
instance Z2 {i w:Int}:VC EM (zF 439) [I i,U w] (Me.ar w∧-1≤i∧i≤65534) (U (yV i w)):=.of rfl rfl fun⟨hw,hi⟩=>by
 show Zx EM false (Tryz.a439 _) _ _ _ _
 have cV:=hw
 unfold Me.ar at cV
 (repeat' first|constructor|exact ZQ|intro _)
 all_goals apply zL
 exact⟨rfl,by rw[Ik hi hw];rfl⟩
end
section
instance z78 {n:Nat}[Mn n [319,316,529,440,312,453]]:cF n where
def Sk.cH (s:Sk)(n w:Int)(t:List AV):List AV:=I s.top::I s.fJ::I s.size::I n::U w::t
inductive p8 (s:Sk)(q:Nat):oL→List Own→Prop
 |a {w i j:Int}:p8 s q .a [.obj q (.row (s.cH 1 w [I i,I j]))]
 |b {w i j:Int}(hw:Me.ar w)(hi:0≤i∧i<s.size):p8 s q (.b w i) [.obj q (.row (s.cH 2 w [I i,I j]))]
 |c {w i j:Int}(hw:Me.ar w)(hi:0≤i∧i<s.size)(hj:-1≤j∧j<s.size):p8 s q (.c w i j) [.obj q (.row (s.cH 3 w [I i,I j]))]
 |d {w i j:Int}(hi:-1≤i∧i<s.size):p8 s q (.d i) [.obj q (.row (s.cH 9 w [I i,I j]))]
inductive iD (s:Sk)(v:Int)(q:Nat):jK→List Own→Prop
 |a {w:Int}(hv:0≤v∧v<s.size):iD s v q .a [.obj q (.row (s.cH 1 w [I v,I 0]))]
 |b {w:Int}(hv:0≤v∧v<s.size)(hw:Me.ar w):iD s v q (.b w) [.obj q (.row (s.cH 2 w [I v,I 0]))]
 |c {w:Int}(hv:0≤v∧v<s.size)(hw:Me.ar w):iD s v q (.c w) [.obj q (.row (s.cH 3 w [I v,I 0]))]
 |d {w i e:Int}:iD s v q (.d e) [.obj q (.row (s.cH 9 w [I i,I e]))]
inductive rE (s:Sk)(q:Nat):rX→List Own→Prop
 |a {w i:Int}:rE s q .a [.obj q (.row (s.cH 1 w [I i]))]
 |b {w i:Int}(hw:Me.ar w)(hi:0≤i∧i<s.size):rE s q (.b w i) [.obj q (.row (s.cH 2 w [I i]))]
 |d {w i:Int}(hi:-1≤i∧i<s.size):rE s q (.d i) [.obj q (.row (s.cH 9 w [I i]))]
section
variable{B0 S:AH}{W:List Nat}{own R l:List Own}{ro:List aQ}{m q:Nat}{vm:AV}{x:Me}{s:Sk}
theorem zp {σ}(hs:s.ok)(hx:x.gd)(h:p8 s q σ l)(H:Cx B0 W S (l++(aj m vm x++R)) ro):
  aO EM (zF 311) [.ptr q 0,.ptr m 0] S fun r S'=>∃ab,eD (p8 s q) oL.over (σ.step s x) (aj m vm) R r ab∧Cx B0 W S' ab ro:=by
 have bn:=hs
 unfold Sk.ok at bn
 have hi:=fk (n:=s.size) (w:=x.word s.top) (by omega)
 cases h with
 |a=>
  refine Vx.fm H bC (b:=Tryz.a311) ?_;(repeat' first|constructor|exact ZQ|intro _);all_goals apply zL
  ·next h=>
   have e:idx s.size (x.word s.top)=-1:=by omega
   exact aa (Prod.ext (if_pos h) rfl) (.d (by omega)) rfl (by rw[e];exact .rfl')
  ·next h=>exact aa (Prod.ext (if_neg h) rfl) (.b (Me.ai hx _) ⟨by omega,hi.2⟩) rfl .rfl'
 |b hw hi=>
  refine Vx.fm H bC (b:=Tryz.a311) ?_;(repeat' first|constructor|exact ZQ|intro _);all_goals apply zL
  exact aa rfl (.c hw hi (fk (by omega))) rfl .rfl'
 |c hw hi hj=>
  refine Vx.fm H bC (b:=Tryz.a311) ?_;(repeat' first|constructor|exact ZQ|intro _);all_goals apply zL
  ·next h=>exact aa (Prod.ext (if_pos h) rfl) (.d (by omega)) rfl .rfl'
  ·next h=>exact aa (Prod.ext (if_neg h) rfl) .a rfl .rfl'
 |d hi=>
  refine Vx.fm H bC (b:=Tryz.a311) ?_;(repeat' first|constructor|exact ZQ|intro _);all_goals apply zL
  exact aa rfl (.d hi) rfl .rfl'
theorem qM {v:Int}{σ}(hs:s.ok)(hx:x.gd)(h:iD s v q σ l)(H:Cx B0 W S (l++(aj m vm x++R)) ro):
  aO EM (zF 317) [.ptr q 0,.ptr m 0] S fun r S'=>∃ab,eD (iD s v q) jK.over (σ.step s v x) (aj m vm) R r ab∧Cx B0 W S' ab ro:=by
 have bn:=hs
 unfold Sk.ok at bn
 cases h with
 |a hv=>
  refine Vx.fm H bC (b:=Tryz.a317) ?_;(repeat' first|constructor|exact ZQ|intro _);all_goals apply zL
  exact aa rfl (.b hv (Me.ai hx _)) rfl .rfl'
 |@b w hv hw=>
  have hi:=fk (n:=s.size) (w:=w) (by omega)
  have e:(idx s.size w+1)%18446744073709551616=idx s.size w+1:=by omega
  refine Vx.fm H bC (b:=Tryz.a317) ?_;(repeat' first|constructor|exact ZQ|intro _);all_goals apply zL
  rw[e]
  exact aa rfl (.c hv hw) rfl .rfl'
 |c hv hw=>
  refine Vx.fm H bC (b:=Tryz.a317) ?_;(repeat' first|constructor|exact ZQ|intro _);all_goals apply zL
  ·next h=>exact aa (Prod.ext (if_pos h) rfl) .d rfl .rfl'
  ·next h=>exact aa (Prod.ext (if_neg h) rfl) (.a hv) rfl .rfl'
 |d=>
  refine Vx.fm H bC (b:=Tryz.a317) ?_;(repeat' first|constructor|exact ZQ|intro _);all_goals apply zL
  exact aa rfl .d rfl .rfl'
theorem Gs {σ}(hs:s.ok)(hx:x.gd)(h:rE s q σ l)(H:Cx B0 W S (l++(aj m vm x++R)) ro):
  aO EM (zF 452) [.ptr q 0,.ptr m 0] S fun r S'=>∃ab,eD (rE s q) rX.over (σ.step s x) (aj m vm) R r ab∧Cx B0 W S' ab ro:=by
 have bn:=hs
 unfold Sk.ok at bn
 have hi:=fk (n:=s.size) (w:=x.word s.top) (by omega)
 cases h with
 |a=>
  refine Vx.fm H bC (b:=Tryz.a452) ?_;(repeat' first|constructor|exact ZQ|intro _);all_goals apply zL
  ·next h=>
   have e:idx s.size (x.word s.top)=-1:=by omega
   exact aa (Prod.ext (if_pos h) rfl) (.d (by omega)) rfl (by rw[e];exact .rfl')
  ·next h=>exact aa (Prod.ext (if_neg h) rfl) (.b (Me.ai hx _) ⟨by omega,hi.2⟩) rfl .rfl'
 |b hw hi=>
  refine Vx.fm H bC (b:=Tryz.a452) ?_;(repeat' first|constructor|exact ZQ|intro _);all_goals apply zL
  ·next h=>exact aa (Prod.ext (if_pos h) rfl) (.d (by omega)) rfl .rfl'
  ·next h=>exact aa (Prod.ext (if_neg h) rfl) .a rfl .rfl'
 |d hi=>
  refine Vx.fm H bC (b:=Tryz.a452) ?_;(repeat' first|constructor|exact ZQ|intro _);all_goals apply zL
  exact aa rfl (.d hi) rfl .rfl'
end
instance z79 {n:Nat}[Mn n [446,455,447]]:cF n where
def Ar.cH (a:Ar)(qp:Nat)(n i w e:Int):List AV:=a.cs++[.ptr qp 0,I n,I i,U w,I e]
inductive gy (a:Ar)(q:Nat):cR→List Own→Prop
 |p {i:Int}{qp:Nat}{σ l}(h:p8 a.f qp σ l)(ho:σ.over=false):gy a q (.p σ) ([.obj q (.row (a.cH qp 0 i 0 0))]++l)
 |g {i:Int}{qp:Nat}(hi:0≤i∧i<a.f.size):gy a q (.g i) [.obj q (.row (a.cH qp 1 i 0 0))]
 |w {i:Int}{qp:Nat}:gy a q .w [.obj q (.row (a.cH qp 2 i 0 0))]
 |d {i r e:Int}{qp:Nat}(hr:e=0→∃i' g,(cX i' g∧i'<a.f.size)∧r=aC i' g):gy a q (.d r e) [.obj q (.row (a.cH qp 9 i r e))]
inductive lR (a:Ar)(v:Int)(q:Nat):je→List Own→Prop
 |l {g:Int}{qp:Nat}{l}(hv:0≤v∧v<a.f.size)(h:iD a.f v qp .a l):lR a v q .l ([.obj q (.row (a.cH qp 0 v g 0))]++l)
 |r {g:Int}{qp:Nat}{l}(hv:0≤v∧v<a.f.size)(hg:Me.ar g)(h:iD a.f v qp .a l):lR a v q (.r g) ([.obj q (.row (a.cH qp 1 v g 0))]++l)
 |u {g:Int}{qp:Nat}{σ l}(hv:0≤v∧v<a.f.size)(h:iD a.f v qp σ l)(ho:σ.over=false):lR a v q (.u σ) ([.obj q (.row (a.cH qp 2 v g 0))]++l)
 |w {g:Int}{qp:Nat}:lR a v q .w [.obj q (.row (a.cH qp 3 v g 0))]
 |d {i g e:Int}{qp:Nat}:lR a v q (.d e) [.obj q (.row (a.cH qp 9 i g e))]
theorem Il {i w:Int}(hi:0≤i∧i≤65534)(hw:Me.ar w):mj ((i+1)%18446744073709551616) (w%4294967296*2^16%18446744073709551616)=i+1+w%4294967296*65536:=by
 unfold Me.ar at hw
 have e1:(i+1)%18446744073709551616=i+1:=by omega
 have e2:w%4294967296*2^16%18446744073709551616=w%4294967296*2^16:=by simp only[Int.reducePow];omega
 rw[e1,e2,kh (by omega) (by omega) (by simp only[Int.reducePow];omega)]
 simp only[Int.reducePow];omega
section
variable{B0 S:AH}{W:List Nat}{own R l:List Own}{ro:List aQ}{m q:Nat}{vm:AV}{x:Me}{a:Ar}
theorem AZ {σ}(hs:a.ok)(hx:x.gd)(h:gy a q σ l)(H:Cx B0 W S (l++(aj m vm x++R)) ro):
  aO EM (zF 339) [.ptr q 0,.ptr m 0] S fun r S'=>∃ab,eD (gy a q) cR.over (σ.step a x) (aj m vm) R r ab∧Cx B0 W S' ab ro:=by
 have bn:=hs
 unfold Ar.ok Sk.ok at bn
 have h0:=hs.1
 cases h with
 |@p i qp σ l h ho=>
  refine Vx.fm H bC (b:=Tryz.a339) ?_;(repeat' first|constructor|exact ZQ|intro _);all_goals apply zL
  refine Vx.fz (A:=[_]) (fun B W S H=>zp h0 hx h H) fun a' x' l' e hl=>?_
  have e2:(cR.p σ).step a x=(cR.jL a',x'):=by
   show(cR.jL _,_)=_
   rw[e]
  cases ho:a'.over
  ·(repeat' first|constructor|exact ZQ|intro _)
   all_goals apply zL
   have e3:(cR.p σ).step a x=(.p a',x'):=e2.trans (Prod.ext (by cases hl<;>first|rfl|cases ho) rfl)
   exact aa e3 (.p hl ho) rfl .rfl'
  ·cases hl with
   |a=>cases ho
   |b=>cases ho
   |c=>cases ho
   |d hi=>
    (repeat' first|constructor|exact ZQ|intro _)
    all_goals apply zL
    ·exact aa (e2.trans (Prod.ext (if_pos (by assumption)) rfl)) .w rfl (.cons (.drop .rfl'))
    ·exact aa (e2.trans (Prod.ext (if_neg (by assumption)) rfl)) (.g (by omega)) rfl (.cons (.drop .rfl'))
 |@g i qp hi=>
  have hg:=Me.ai hx (a.ju+i)
  refine Vx.fm H bC (b:=Tryz.a339) ?_;(repeat' first|constructor|exact ZQ|intro _);all_goals apply zL
  rw[Il (by omega) hg]
  exact aa rfl (.d fun _=>⟨i,x.word (a.ju+i)%4294967296,⟨by unfold cX;omega,hi.2⟩,rfl⟩) rfl .rfl'
 |w=>
  have e:a.f.size%18446744073709551616=a.f.size:=by omega
  refine Vx.fm H bC (b:=Tryz.a339) ?_;(repeat' first|constructor|exact ZQ|intro _);all_goals apply zL
  ·next h=>exact aa (Prod.ext (congrArg (cR.d 0) (if_pos (by omega))) rfl) (.d fun h=>absurd h (by decide)) rfl .rfl'
  ·next h=>exact aa (Prod.ext (congrArg (cR.d 0) (if_neg (by omega))) rfl) (.d fun h=>absurd h (by decide)) rfl .rfl'
 |d hr=>
  refine Vx.fm H bC (b:=Tryz.a339) ?_;(repeat' first|constructor|exact ZQ|intro _);all_goals apply zL
  exact aa rfl (.d hr) rfl .rfl'
theorem Dh {v:Int}{σ}(hs:a.ok)(hx:x.gd)(h:lR a v q σ l)(H:Cx B0 W S (l++(aj m vm x++R)) ro):
  aO EM (zF 456) [.ptr q 0,.ptr m 0] S fun r S'=>∃ab,eD (lR a v q) je.over (σ.step a v x) (aj m vm) R r ab∧Cx B0 W S' ab ro:=by
 have bn:=hs
 unfold Ar.ok Sk.ok at bn
 have h0:=hs.1
 cases h with
 |@l g qp l hv h=>
  have hg:=Me.ai hx (a.ju+v)
  have e:a.DN%18446744073709551616=a.DN:=by omega
  refine Vx.fm H bC (b:=Tryz.a456) ?_;(repeat' first|constructor|exact ZQ|intro _);all_goals apply zL
  ·next e=>exact aa (Prod.ext (if_pos (by omega)) rfl) .w rfl HQ
  ·next e=>exact aa (Prod.ext (if_neg (by omega)) rfl) (.r hv hg h) rfl HQ
 |@r g qp l hv hg h=>
  refine Vx.fm H bC (b:=Tryz.a456) ?_;(repeat' first|constructor|exact ZQ|intro _);all_goals apply zL
  exact aa rfl (.u hv h rfl) rfl HQ
 |@u g qp σ l hv h ho=>
  refine Vx.fm H bC (b:=Tryz.a456) ?_;(repeat' first|constructor|exact ZQ|intro _);all_goals apply zL
  refine Vx.fz (A:=[_]) (fun B W S H=>qM h0 hx h H) fun a' x' l' e hl=>?_
  have e2:(je.u σ).step a v x=(if a'.over then .d 0 else .u a',x'):=by
   show(_,_)=_
   rw[e]
  cases ho:a'.over
  ·(repeat' first|constructor|exact ZQ|intro _)
   all_goals apply zL
   have e3:(je.u σ).step a v x=(.u a',x'):=e2.trans (Prod.ext (if_neg (by rw[ho];simp)) rfl)
   exact aa e3 (.u hv hl ho) rfl HQ
  ·(repeat' first|constructor|exact ZQ|intro _)
   all_goals apply zL
   exact aa (e2.trans (Prod.ext (if_pos ho) rfl)) .d rfl HQ
 |w=>
  refine Vx.fm H bC (b:=Tryz.a456) ?_;(repeat' first|constructor|exact ZQ|intro _);all_goals apply zL
  exact aa rfl .d rfl .rfl'
 |d=>
  refine Vx.fm H bC (b:=Tryz.a456) ?_;(repeat' first|constructor|exact ZQ|intro _);all_goals apply zL
  exact aa rfl .d rfl .rfl'
end
end
section
theorem ng {S}{w:Int}{f n:Nat}(hw:Me.ar w)(hf:f≤63)(hn:n≤62):aO EM (zF 334) [U w,I (Int.ofNat f),I (Int.ofNat n)] S fun r S'=>r=I (w/2^f%2^n)∧aY S S':=by
 refine bg (b:=Tryz.a334) rfl rfl ?_
 rw[Tryz.u334]
 unfold Me.ar at hw
 have h1:=BX (m:=n) (n:=62) hn
 have h2:=xt n
 have h3:=xt f
 have h4:w/2^f≤w:=Int.ediv_le_self _ hw.1
 have h5:0≤w/2^f:=Int.ediv_nonneg hw.1 (by omega)
 have h6:=Int.emod_lt_of_pos (w/2^f) (show(0:Int)<2^n by omega)
 have h7:=Int.emod_nonneg (w/2^f) (show(2:Int)^n≠0 by omega)
 refine ae (AF (dy (by show f≤64;omega))) ?_
 refine ae (AG (dy (by omega))) ?_
 refine tD (c:=2^n-1) (by rw[bo,IntKind.wrap_u64];omega) ?_
 refine ae (oJ h5 (by omega) (by omega) (by omega)) ?_
 rw[nB h5]
 refine ae (tM (wrap64 (by omega) (by omega))) ?_
 exact wp_ret ⟨rfl,rfl,.refl _⟩
instance VD {w:Int}:VC EM (zF 334) [U w,I 0,I 16] (Me.ar w) (I (w%65536)):=⟨fun h S=>by have:=ng (S:=S) (f:=0) (n:=16) h (by omega) (by omega);simpa using this⟩
instance VE {w:Int}:VC EM (zF 334) [U w,I 16,I 48] (Me.ar w) (I (w/65536)):=⟨fun h S=>by
 have:=ng (S:=S) (f:=16) (n:=48) h (by omega) (by omega)
 have e:w/2^16%2^48=w/65536:=by unfold Me.ar at h;omega
 rw[e] at this;exact this⟩
instance VF {w:Int}:VC EM (zF 334) [U w,I 16,I 32] (Me.ar w) (I (w/65536%4294967296)):=⟨fun h S=>by have:=ng (S:=S) (f:=16) (n:=32) h (by omega) (by omega);simpa using this⟩
instance VG {w:Int}:VC EM (zF 334) [U w,I 16,I 40] (Me.ar w) (I (w/65536%1099511627776)):=⟨fun h S=>by have:=ng (S:=S) (f:=16) (n:=40) h (by omega) (by omega);simpa using this⟩
instance VH {w:Int}:VC EM (zF 334) [U w,I 56,I 8] (Me.ar w) (I (w/72057594037927936)):=⟨fun h S=>by
 have:=ng (S:=S) (f:=56) (n:=8) h (by omega) (by omega)
 have e:w/2^56%2^8=w/72057594037927936:=by unfold Me.ar at h;omega
 rw[e] at this;exact this⟩
instance Sf {w:Int}:VC EM (zF 454) [U w] (Me.ar w) (.cP [.agg [I (w%65536-1),I (w/65536)],I 0]):=.of rfl rfl fun hw=>by
 show Zx EM false (Tryz.a454 _) _ _ _ _
 (repeat' first|constructor|exact ZQ|intro _)
 all_goals apply zL
instance z80:cF 322 where
instance Sg {w:Int}:VC EM (zF 580) [U w] (Me.ar w) (B (decide (9223372036854775808≤w))):=.of rfl rfl fun hw=>by
 show Zx EM false (Tryz.a580 _) _ _ _ _
 unfold Me.ar at hw
 (repeat' first|constructor|exact ZQ|intro _)
 all_goals apply zL
 all_goals first
  |(refine⟨rfl,?_⟩;rw[decide_eq_true (by simp only[Int.reducePow] at*;omega)];rfl)
  |(refine⟨rfl,?_⟩;rw[decide_eq_false (by simp only[Int.reducePow] at*;omega)];rfl)
  |skip
instance Sh {w:Int}:VC EM (zF 611) [U w,B false] (Me.ar w) (U (w%9223372036854775808)):=.of rfl rfl fun hw=>by
 show Zx EM false (Tryz.a611 _) _ _ _ _
 have e:=nB (a:=w) hw.1 63
 simp only[Int.reducePow,Int.reduceSub] at e
 unfold Me.ar at hw
 (repeat' first|constructor|exact ZQ|intro _)
 all_goals apply zL
 all_goals(rw[e];exact⟨rfl,rfl⟩)
theorem Gt {i g:Int}(hi:0≤i∧i≤65534)(hg:0≤g∧g<4294967296):mj ((i+1)%18446744073709551616) (g%18446744073709551616*2^16%18446744073709551616)=aC i g:=by
 have e1:(i+1)%18446744073709551616=i+1:=by omega
 have e2:g%18446744073709551616*2^16%18446744073709551616=g*2^16:=by simp only[Int.reducePow];omega
 rw[e1,e2,kh (by omega) (by omega) (by simp only[Int.reducePow];omega)]
 unfold aC
 simp only[Int.reducePow];omega
instance Si {i g:Int}:VC EM (zF 581) [.agg [I i,I g,B false]] (cX i g) (.cP [U (aC i g),I 0]):=.of rfl rfl fun⟨h1,h2⟩=>by
 show Zx EM false (Tryz.a581 _) _ _ _ _
 have e:=Gt h1 h2
 have hm:=xw ⟨h1,h2⟩
 (repeat' first|constructor|exact ZQ|intro _)
 all_goals apply zL
 all_goals(try rw[e])
 all_goals first
  |exact ki ⟨h1,h2⟩
  |(rw[Int.emod_eq_of_lt hm.1 hm.2];exact⟨rfl,rfl⟩)
  |skip
instance Sj {i g:Int}:VC EM (zF 534) [U (aC i g)] (cX i g) (.cP [.agg [I i,I g,B false],I 0]):=.of rfl rfl fun h=>by
 show Zx EM false (Tryz.a534 _) _ _ _ _
 have hw:=ki h
 have hm:=xw h
 (repeat' first|constructor|exact ZQ|intro _)
 all_goals apply zL
 rw[qH h,FV h,decide_eq_false (by omega)]
 refine Zx.ok (n:=false) ?_
 (repeat' first|constructor|exact ZQ|intro _)
 all_goals apply zL
instance z81 {n:Nat}[Mn n [457,533,518,342,430,436,528,531,532,451]]:cF n where
inductive p9 (e:Ep)(c:Int)(q:Nat):oM→List Own→Prop
 |a {p:Int}(hc:0≤c∧c<e.ah):p9 e c q .a [.obj q (.row (e.cs++[I c,I 1,I p,I 0]))]
 |b {p:Int}(hc:0≤c∧c<e.ah)(hp:0≤p∧p<4294967296):p9 e c q (.b p) [.obj q (.row (e.cs++[I c,I 2,I p,I 0]))]
 |c {p:Int}(hc:0≤c∧c<e.ah)(hp:0≤p∧p<4294967296):p9 e c q (.c p) [.obj q (.row (e.cs++[I c,I 3,I p,I 0]))]
 |d {p:Int}(hp:0≤p∧p<4294967296):p9 e c q (.d p 0) [.obj q (.row (e.cs++[I c,I 9,I p,I 0]))]
inductive jR (e:Ep)(c:Int)(q:Nat):c_→List Own→Prop
 |a (hc:0≤c∧c<e.ah):jR e c q .a [.obj q (.row (e.cs++[I c,I 1,I 0]))]
 |d {er:Int}:jR e c q (.d er) [.obj q (.row (e.cs++[I c,I 9,I er]))]
def Ep.cH (e:Ep)(c p ln w n er:Int):List AV:=e.cs++[I c,I p,I ln,U w,I n,I er]
inductive rF (e:Ep)(c p:Int)(q:Nat):iA→List Own→Prop
 |a (hc:0≤c∧c<e.ah):rF e c p q .a [.obj q (.row (e.cH c p 1 0 0 0))]
 |b {w n:Int}(hc:0≤c∧c<e.ah)(hw:Me.ar w)(hp:w%4294967296=p)(hn:0≤n∧n<e.ah):rF e c p q (.b w n) [.obj q (.row (e.cH c p 2 w n 0))]
 |c {w k:Int}(hc:0≤c∧c<e.ah)(hw:Me.ar w)(hp:w%4294967296=p):rF e c p q (.c w) [.obj q (.row (e.cH c p 3 w k 0))]
 |d {er w k:Int}:rF e c p q (.d er) [.obj q (.row (e.cH c p 9 w k er))]
section
variable{B0 S:AH}{W:List Nat}{own R l:List Own}{ro:List aQ}{m q:Nat}{vm:AV}{x:Me}{e:Ep}{c p:Int}
theorem ub {σ}(hs:e.ok)(hx:x.gd)(h:p9 e c q σ l)(H:Cx B0 W S (l++(aj m vm x++R)) ro):
  aO EM (zF 429) [.ptr q 0,.ptr m 0] S fun r S'=>∃ab,eD (p9 e c q) oM.over (σ.step e c x) (aj m vm) R r ab∧Cx B0 W S' ab ro:=by
 have bn:=hs
 unfold Ep.ok at bn
 have hb:=Me.ai hx e.cd
 cases h with
 |a hc=>
  refine Vx.fm H bC (b:=Tryz.a429) ?_;(repeat' first|constructor|exact ZQ|intro _);all_goals apply zL
  exact aa rfl (.b hc (by omega)) rfl .rfl'
 |@b p hc hp=>
  have e1:(p%18446744073709551616+1)%18446744073709551616=p+1:=by omega
  refine Vx.fm H bC (b:=Tryz.a429) ?_;(repeat' first|constructor|exact ZQ|intro _);all_goals apply zL
  rw[e1]
  exact aa rfl (.c hc hp) rfl .rfl'
 |@c p hc hp=>
  refine Vx.fm H bC (b:=Tryz.a429) ?_;(repeat' first|constructor|exact ZQ|intro _);all_goals apply zL
  ·next h=>exact aa (Prod.ext (if_neg h) rfl) (.b hc (by omega)) rfl .rfl'
  ·next h=>
   have h:x.word e.cd%4294967296=p:=by omega
   exact aa (Prod.ext (if_pos h) rfl) (.d hp) rfl .rfl'
 |d hp=>
  refine Vx.fm H bC (b:=Tryz.a429) ?_;(repeat' first|constructor|exact ZQ|intro _);all_goals apply zL
  exact aa rfl (.d hp) rfl .rfl'
theorem lS {σ}(hs:e.ok)(hx:x.gd)(h:jR e c q σ l)(H:Cx B0 W S (l++(aj m vm x++R)) ro):
  aO EM (zF 308) [.ptr q 0,.ptr m 0] S fun r S'=>∃ab,eD (jR e c q) c_.over (σ.step e c x) (aj m vm) R r ab∧Cx B0 W S' ab ro:=by
 have bn:=hs
 unfold Ep.ok at bn
 cases h with
 |a hc=>
  refine Vx.fm H bC (b:=Tryz.a308) ?_;(repeat' first|constructor|exact ZQ|intro _);all_goals apply zL
  exact aa rfl .d rfl .rfl'
 |d=>
  refine Vx.fm H bC (b:=Tryz.a308) ?_;(repeat' first|constructor|exact ZQ|intro _);all_goals apply zL
  exact aa rfl .d rfl .rfl'
theorem A0 {w n:Int}(h:e.ah≤(if n=c then n+1 else n)):iA.skip e c w n=.c w:=if_pos h
theorem xO {w n k:Int}(hk:(if n=c then n+1 else n)=k)(h:¬e.ah≤k):iA.skip e c w n=.b w k:=by subst hk;exact if_neg h
theorem Gu {σ}(hs:e.ok)(hx:x.gd)(h:rF e c p q σ l)(H:Cx B0 W S (l++(aj m vm x++R)) ro):
  aO EM (zF 450) [.ptr q 0,.ptr m 0] S fun r S'=>∃ab,eD (rF e c p q) iA.over (σ.step e c p x) (aj m vm) R r ab∧Cx B0 W S' ab ro:=by
 have bn:=hs
 unfold Ep.ok at bn
 have hb:=Me.ai hx e.cd
 cases h with
 |a hc=>
  refine Vx.fm H bC (b:=Tryz.a450) ?_;(repeat' first|constructor|exact ZQ|intro _);all_goals apply zL
  ·next h=>exact aa (Prod.ext (if_neg h) rfl) .d rfl .rfl'
  ·next h h1 h2=>exact aa (Prod.ext ((if_pos (by omega)).trans (A0 (by rw[if_pos h1];omega))) rfl) (.c hc hb (by omega)) rfl .rfl'
  ·next h h1 h2=>exact aa (Prod.ext ((if_pos (by omega)).trans (xO (if_pos h1) (by omega))) rfl) (.b hc hb (by omega) (by omega)) rfl .rfl'
  ·next h h1 h2=>exact aa (Prod.ext ((if_pos (by omega)).trans (xO (if_neg h1) (by omega))) rfl) (.b hc hb (by omega) (by omega)) rfl .rfl'
 |@b w n hc hw hp hn=>
  have zM:=Me.ai hx (e.pins+n)
  have e1:(p%18446744073709551616+1)%18446744073709551616=p+1:=by omega
  refine Vx.fm H bC (b:=Tryz.a450) ?_;(repeat' first|constructor|exact ZQ|intro _);all_goals apply zL
  all_goals first
   |exact aa (Prod.ext (if_neg (by omega)) rfl) .d rfl .rfl'
   |(next h1 h2=>exact aa (Prod.ext ((if_pos (by omega)).trans (A0 (by rw[if_pos h1];omega))) rfl) (.c hc hw hp) rfl .rfl')
   |(next h1 h2=>exact aa (Prod.ext ((if_pos (by omega)).trans (A0 (by rw[if_neg h1];omega))) rfl) (.c hc hw hp) rfl .rfl')
   |(next h1 h2=>exact aa (Prod.ext ((if_pos (by omega)).trans (xO (if_pos h1) (by omega))) rfl) (.b hc hw hp (by omega)) rfl .rfl')
   |(next h1 h2=>exact aa (Prod.ext ((if_pos (by omega)).trans (xO (if_neg h1) (by omega))) rfl) (.b hc hw hp (by omega)) rfl .rfl')
   |skip
 |@c w k hc hw hp=>
  have e1:(p%18446744073709551616+1)%18446744073709551616=p+1:=by omega
  refine Vx.fm H bC (b:=Tryz.a450) ?_;(repeat' first|constructor|exact ZQ|intro _);all_goals apply zL
  ·next h=>
   rw[e1] at*
   exact aa (Prod.ext (if_pos h) rfl) .d rfl .rfl'
  ·next h=>
   rw[e1] at*
   exact aa (Prod.ext (if_neg h) rfl) .d rfl .rfl'
 |d=>
  refine Vx.fm H bC (b:=Tryz.a450) ?_;(repeat' first|constructor|exact ZQ|intro _);all_goals apply zL
  exact aa rfl .d rfl .rfl'
end
end
section
instance z82 {n:Nat}[Mn n [524,449,530]]:cF n where
def Lb.Gv (l:Lb)(v:Int)(pp:AV)(n er:Int):List AV:=l.cs++[I v,pp,I n,I er]
inductive rG (l:Lb)(v:Int)(q:Nat):gP→List Own→Prop
 |a (hv:0≤v∧v<l.a.f.size):rG l v q .a [.obj q (.row (l.Gv v Np 0 0))]
 |b {k:Int}{qp:Nat}{σ lp}(hk:0≤k∧k<3)(h:iD (l.wait k) v qp σ lp)(ho:σ.over=false):rG l v q (.b k σ) ([.obj q (.row (l.Gv v (.ptr qp 0) 1 0))]++lp)
 |d {er i:Int}{pp}:rG l v q (.d er) [.obj q (.row (l.Gv i pp 9 er))]
def Lb.zq (l:Lb)(on all fr:AV)(ln i j n er:Int):List AV:=l.cs++[on,all,fr,I ln,I i,I j,I n,I er]
inductive l_ (l:Lb)(c p:Int)(q:Nat):eN→List Own→Prop
 |v {i:Int}{qa qb:Nat}{fr σ la lb}(hp:0≤p∧p<4294967296)(h:rF l.e c p qa σ la)(ho:σ.over=false)(h2:rE (l.wait ((p+2)%3)) qb .a lb):l_ l c p q (.v σ) ([.obj q (.row (l.zq (.ptr qa 0) (.ptr qb 0) fr 0 i 0 0 0))]++(lb++la))
 |t {i:Int}{qb:Nat}{pa fr σ lb}(hp:0≤p∧p<4294967296)(h:rE (l.wait ((p+2)%3)) qb σ lb)(ho:σ.over=false):l_ l c p q (.t σ) ([.obj q (.row (l.zq pa (.ptr qb 0) fr 1 i 0 0 0))]++lb)
 |l {i j n:Int}{pa pb fr}(hi:0≤i∧i<l.a.f.size)(hn:0≤n∧n<l.a.f.size):l_ l c p q (.l i n) [.obj q (.row (l.zq pa pb fr 2 i j n 0))]
 |f {i j n:Int}{pa pb}{qf:Nat}{σ lf}(hi:0≤i∧i<l.a.f.size)(hn:0≤n∧n<l.a.f.size)(hj:-1≤j∧j≤65534)(h:lR l.a i qf σ lf)(ho:σ.over=false):l_ l c p q (.f i j n σ) ([.obj q (.row (l.zq pa pb (.ptr qf 0) 3 i j n 0))]++lf)
 |d {i j n er:Int}{pa pb fr}:l_ l c p q (.d n er) [.obj q (.row (l.zq pa pb fr 9 i j n er))]
section
variable{B0 S:AH}{W:List Nat}{own R lo:List Own}{ro:List aQ}{m q:Nat}{vm:AV}{x:Me}{l:Lb}{c p v:Int}
theorem zr {σ}(hs:l.ok)(hx:x.gd)(h:rG l v q σ lo)(H:Cx B0 W S (lo++(aj m vm x++R)) ro):
  aO EM (zF 525) [.ptr q 0,.ptr m 0] S fun r S'=>∃ab,eD (rG l v q) gP.over (σ.step l v x) (aj m vm) R r ab∧Cx B0 W S' ab ro:=by
 have bn:=hs
 unfold Lb.ok Ar.ok Sk.ok Ep.ok at bn
 have hb:=Me.ai hx l.e.cd
 cases h with
 |a hv=>
  refine Vx.fm H bC (b:=Tryz.a525) ?_;(repeat' first|constructor|exact ZQ|intro _);all_goals apply zL
  exact aa rfl (.b ⟨by omega,by omega⟩ (.a hv) rfl) rfl HQ
 |@b k qp σ lp hk h ho=>
  refine Vx.fm H bC (b:=Tryz.a525) ?_;(repeat' first|constructor|exact ZQ|intro _);all_goals apply zL
  refine Vx.fz (A:=[_]) (fun B W S H=>qM (l.jO hs hk.1 hk.2) hx h H) fun a' x' l' e hl=>?_
  have e2:(gP.b k σ).step l v x=(if a'.over then .d 0 else .b k a',x'):=by
   show(_,_)=_
   rw[e]
  cases ho:a'.over
  ·(repeat' first|constructor|exact ZQ|intro _)
   all_goals apply zL
   have e3:(gP.b k σ).step l v x=(.b k a',x'):=e2.trans (Prod.ext (if_neg (by rw[ho];simp)) rfl)
   exact aa e3 (.b hk hl ho) rfl HQ
  ·(repeat' first|constructor|exact ZQ|intro _)
   all_goals apply zL
   exact aa (e2.trans (Prod.ext (if_pos ho) rfl)) .d rfl HQ
 |d=>
  refine Vx.fm H bC (b:=Tryz.a525) ?_;(repeat' first|constructor|exact ZQ|intro _);all_goals apply zL
  exact aa rfl .d rfl .rfl'
theorem Gw {σ}(hs:l.ok)(hx:x.gd)(h:l_ l c p q σ lo)(H:Cx B0 W S (lo++(aj m vm x++R)) ro):
  aO EM (zF 341) [.ptr q 0,.ptr m 0] S fun r S'=>∃ab,eD (l_ l c p q) eN.over (σ.step l c p x) (aj m vm) R r ab∧Cx B0 W S' ab ro:=by
 have bn:=hs
 unfold Lb.ok Ar.ok Sk.ok Ep.ok at bn
 cases h with
 |@v i qa qb fr σ la lb hp h ho h2=>
  refine Vx.fm H bC (b:=Tryz.a341) ?_;(repeat' first|constructor|exact ZQ|intro _);all_goals apply zL
  refine Vx.fz (A:=_::lb) (fun B W S H=>Gu hs.2.1 hx h H) fun a' x' l' e hl=>?_
  have e2:(eN.v σ).step l c p x=(eN.FJ a',x'):=by
   show(eN.FJ _,_)=_
   rw[e]
  cases ho:a'.over
  ·(repeat' first|constructor|exact ZQ|intro _)
   all_goals apply zL
   have e3:(eN.v σ).step l c p x=(.v a',x'):=e2.trans (Prod.ext (by cases hl<;>first|rfl|cases ho) rfl)
   exact aa e3 (.v hp hl ho h2) rfl HQ
  ·cases hl with
   |a=>cases ho
   |b=>cases ho
   |c=>cases ho
   |@d er w k=>
    (repeat' first|constructor|exact ZQ|intro _)
    all_goals apply zL
    ·next h=>exact aa (e2.trans (Prod.ext (if_neg h) rfl)) .d rfl HQ
    ·next h=>
     obtain rfl:er=0:=by omega
     exact aa e2 (.t hp h2 rfl) rfl HQ
 |@t i qb pa fr σ lb hp h ho=>
  refine Vx.fm H bC (b:=Tryz.a341) ?_;(repeat' first|constructor|exact ZQ|intro _);all_goals apply zL
  refine Vx.fz (A:=[_]) (fun B W S H=>Gs (l.jO hs (by omega) (by omega)) hx h H) fun a' x' l' e hl=>?_
  have e2:(eN.t σ).step l c p x=(eN.FL a',x'):=by
   show(eN.FL _,_)=_
   rw[e]
  cases ho:a'.over
  ·(repeat' first|constructor|exact ZQ|intro _)
   all_goals apply zL
   have e3:(eN.t σ).step l c p x=(.t a',x'):=e2.trans (Prod.ext (by cases hl<;>first|rfl|cases ho) rfl)
   exact aa e3 (.t hp hl ho) rfl HQ
  ·cases hl with
   |a=>cases ho
   |b=>cases ho
   |d hi=>
    (repeat' first|constructor|exact ZQ|intro _)
    all_goals apply zL
    ·exact aa (e2.trans (Prod.ext (if_pos (by assumption)) rfl)) .d rfl HQ
    ·exact aa (e2.trans (Prod.ext (if_neg (by assumption)) rfl)) (.l ⟨by omega,hi.2⟩ ⟨by omega,by omega⟩) rfl HQ
 |@l i j n pa pb fr hi hn=>
  have hb:=Me.ai hx (l.a.f.fJ+i)
  refine Vx.fm H bC (b:=Tryz.a341) ?_;(repeat' first|constructor|exact ZQ|intro _);all_goals apply zL
  exact aa rfl (.f hi hn (by omega) (.l hi (.a hi)) rfl) rfl HQ
 |@f i j n pa pb qf σ lf hi hn hj h ho=>
  refine Vx.fm H bC (b:=Tryz.a341) ?_;(repeat' first|constructor|exact ZQ|intro _);all_goals apply zL
  refine Vx.fz (A:=[_]) (fun B W S H=>Dh hs.1 hx h H) fun a' x' l' e hl=>?_
  have e2:(eN.f i j n σ).step l c p x=(if a'.over then(if j<0∨l.a.f.size≤j∨l.a.f.size≤n+1 then .d (n+1) 0 else .l j (n+1)) else .f i j n a',x'):=by
   show(_,_)=_
   rw[e]
  cases ho:a'.over
  ·(repeat' first|constructor|exact ZQ|intro _)
   all_goals apply zL
   have e3:(eN.f i j n σ).step l c p x=(.f i j n a',x'):=e2.trans (Prod.ext (if_neg (by rw[ho];simp)) rfl)
   exact aa e3 (.f hi hn hj hl ho) rfl HQ
  ·(repeat' first|constructor|exact ZQ|intro _)
   all_goals apply zL
   ·exact aa (e2.trans (Prod.ext ((if_pos ho).trans (if_pos (by omega))) rfl)) .d rfl HQ
   ·exact aa (e2.trans (Prod.ext ((if_pos ho).trans (if_pos (by omega))) rfl)) .d rfl HQ
   ·exact aa (e2.trans (Prod.ext ((if_pos ho).trans (if_pos (by omega))) rfl)) .d rfl HQ
   ·exact aa (e2.trans (Prod.ext ((if_pos ho).trans (if_neg (by omega))) rfl)) (.l ⟨by omega,by omega⟩ ⟨by omega,by omega⟩) rfl HQ
 |d=>
  refine Vx.fm H bC (b:=Tryz.a341) ?_;(repeat' first|constructor|exact ZQ|intro _);all_goals apply zL
  exact aa rfl .d rfl .rfl'
end
end
section
instance Sl {a b c d t:Int}:VC EM (zF 328) [.agg [I a,I b,I c,I d],U t] (Me.ar t∧(0≤c∧c<100000)∧1≤d∧d≤4096) (I (c+t%d)):=.of rfl rfl fun⟨h1,h2,h3,h4⟩=>by
 show Zx EM false (Tryz.a328 _) _ _ _ _
 have h5:=Int.emod_lt_of_pos t (show 0<d by omega)
 have h6:=Int.emod_nonneg t (show d≠0 by omega)
 have e1:d%18446744073709551616=d:=by omega
 (repeat' first|constructor|exact ZQ|intro _)
 all_goals apply zL
 all_goals(try rw[e1] at*)
 all_goals first|omega|exact⟨rfl,rfl⟩
instance XE {a b c d t:Int}:VC EM (zF 330) [.agg [I a,I b,I c,I d],U t] (Me.ar t∧1≤d∧d≤4096) (U (t/d%4294967296)):=.of rfl rfl fun⟨h1,h2,h3⟩=>by
 show Zx EM false (Tryz.a330 _) _ _ _ _
 have e1:d%18446744073709551616=d:=by omega
 have h5:0≤t/d:=Int.ediv_nonneg h1.1 (by omega)
 (repeat' first|constructor|exact ZQ|intro _)
 all_goals apply zL
 all_goals(try rw[e1] at*)
 all_goals first|omega|exact⟨rfl,rfl⟩
instance VI {w l:Int}:VC EM (zF 329) [U w,U l] (Me.ar w) (B (decide (kg w l))):=.of rfl rfl fun h=>by
 show Zx EM false (Tryz.a329 _) _ _ _ _
 unfold Me.ar at h
 (repeat' first|constructor|exact ZQ|intro _)
 all_goals apply zL
 all_goals(simp only[Int.reducePow] at*)
 all_goals first
  |(exact⟨trivial,by rw[decide_eq_true (show kg w l from⟨by omega,by omega⟩)];rfl⟩)
  |(exact⟨trivial,by rw[decide_eq_false (fun(q:kg w l)=>by have:=q.1;have:=q.2;omega)];rfl⟩)
  |skip
instance Sm {w l:Int}:VC EM (zF 527) [U w,U l] (Me.ar w) (B (decide (iM w l))):=.of rfl rfl fun h=>by
 show Zx EM false (Tryz.a527 _) _ _ _ _
 unfold Me.ar at h
 (repeat' first|constructor|exact ZQ|intro _)
 all_goals apply zL
 all_goals(simp only[Int.reducePow] at*)
 all_goals first
  |(exact⟨trivial,by rw[decide_eq_true (show iM w l from⟨by omega,by omega⟩)];rfl⟩)
  |(exact⟨trivial,by rw[decide_eq_false (fun(q:iM w l)=>by have:=q.1;have:=q.2;omega)];rfl⟩)
  |skip
instance z83 {n:Nat}[Mn n [252,331,325,444,327,181,208,349,348]]:cF n where
inductive fM (r:Rn)(v:Int)(q:Nat):dj→List Own→Prop
 |a {t w:Int}(hv:0≤v∧v<65536):fM r v q .a [.obj q (.row (r.cs++[I v,I 1,U t,U w,I 0]))]
 |b {t w:Int}(hv:0≤v∧v<65536)(ht:Me.ar t):fM r v q (.b t) [.obj q (.row (r.cs++[I v,I 2,U t,U w,I 0]))]
 |c {t w:Int}(hv:0≤v∧v<65536)(ht:Me.ar t)(hw:Me.ar w):fM r v q (.c t w) [.obj q (.row (r.cs++[I v,I 3,U t,U w,I 0]))]
 |l {t w:Int}(hv:0≤v∧v<65536)(ht:Me.ar t):fM r v q (.l t) [.obj q (.row (r.cs++[I v,I 4,U t,U w,I 0]))]
 |h {t w:Int}(hv:0≤v∧v<65536)(ht:Me.ar t):fM r v q (.h t) [.obj q (.row (r.cs++[I v,I 5,U t,U w,I 0]))]
 |d {t w e:Int}:fM r v q (.d e) [.obj q (.row (r.cs++[I v,I 9,U t,U w,I e]))]
inductive iN (r:Rn)(q:Nat):fj→List Own→Prop
 |a {h v:Int}:iN r q .a [.obj q (.row (r.cs++[I 1,U h,I 0,I 0]))]
 |b {h v:Int}(hh:Me.ar h):iN r q (.b h) [.obj q (.row (r.cs++[I 2,U h,I 0,I 0]))]
 |d {h v e:Int}(hh:Me.ar h)(hv:0≤v∧v<65536):iN r q (.d h v e) [.obj q (.row (r.cs++[I 9,U h,I v,I e]))]
inductive oR (r:Rn)(h:Int)(q:Nat):kN→List Own→Prop
 |a (hh:Me.ar h):oR r h q .a [.obj q (.row (r.cs++[I 1,U h,I 0]))]
 |b (hh:Me.ar h):oR r h q .b [.obj q (.row (r.cs++[I 2,U h,I 0]))]
 |d {e:Int}:oR r h q .d [.obj q (.row (r.cs++[I 9,U h,I e]))]
section
variable{B0 S:AH}{W:List Nat}{own R lo:List Own}{ro:List aQ}{m q:Nat}{vm:AV}{x:Me}{r:Rn}{v h:Int}
theorem A1 {σ}(hs:r.ok)(hx:x.gd)(h:fM r v q σ lo)(H:Cx B0 W S (lo++(aj m vm x++R)) ro):
  aO EM (zF 326) [.ptr q 0,.ptr m 0] S fun u S'=>∃ab,eD (fM r v q) dj.over (σ.step r v x) (aj m vm) R u ab∧Cx B0 W S' ab ro:=by
 have bn:=hs
 unfold Rn.ok at bn
 cases h with
 |a hv=>
  refine Vx.fm H bC (b:=Tryz.a326) ?_;(repeat' first|constructor|exact ZQ|intro _);all_goals apply zL
  exact aa rfl (.b hv (Me.ai hx _)) rfl .rfl'
 |@b t w hv ht=>
  have hb:=Me.ai hx (r.place t)
  have hl:=r.lN t
  have e1:((r.rY t+4294967296)%18446744073709551616-1)%18446744073709551616%4294967296=(r.rY t+4294967296-1)%4294967296:=by omega
  unfold Rn.rY at e1
  refine Vx.fm H bC (b:=Tryz.a326) ?_;(repeat' first|constructor|exact ZQ|intro _);all_goals apply zL
  all_goals(try rw[e1] at*)
  ·next h1=>exact aa (Prod.ext (if_pos h1) rfl) (.c hv ht hb) rfl .rfl'
  ·next h1 h2=>exact aa (Prod.ext ((if_neg h1).trans (if_pos h2)) rfl) .d rfl .rfl'
  ·next h1 h2=>exact aa (Prod.ext ((if_neg h1).trans (if_neg h2)) rfl) (.h hv ht) rfl .rfl'
 |@c t w hv ht hw=>
  have hl:=r.lN t
  have e2:r.rY t*2^32%18446744073709551616=r.rY t*4294967296:=by simp only[Int.reducePow];omega
  have e3:v%18446744073709551616=v:=by omega
  have e4:=W8 hl hv
  have e5:mj (r.rY t*4294967296) 65536=r.rY t*4294967296+65536:=by
   have:=qG (a:=r.rY t) (b:=65536) (i:=32) hl.1 (by omega) (by omega)
   simpa only[Int.reducePow] using this
  unfold Rn.rY at e2 e4 e5
  refine Vx.fm H bC (b:=Tryz.a326) ?_;(repeat' first|constructor|exact ZQ|intro _);all_goals apply zL
  all_goals(try rw[e2] at*)
  all_goals(try rw[e3] at*)
  all_goals(unfold Rn.rY at hl)
  all_goals first|omega|(rw[e5];omega)|(rw[e4];omega)|skip
  ·next h1=>
   rw[e4] at*
   exact aa (Prod.ext (if_pos h1) rfl) (.l hv ht) rfl .rfl'
  ·next h1=>
   rw[e4] at*
   exact aa (Prod.ext (if_neg h1) rfl) (.h hv ht) rfl .rfl'
 |@l t w hv ht=>
  refine Vx.fm H bC (b:=Tryz.a326) ?_;(repeat' first|constructor|exact ZQ|intro _);all_goals apply zL
  all_goals exact aa rfl .d rfl .rfl'
 |@h t w hv ht=>
  refine Vx.fm H bC (b:=Tryz.a326) ?_;(repeat' first|constructor|exact ZQ|intro _);all_goals apply zL
  all_goals exact aa rfl (.a hv) rfl .rfl'
 |d=>
  refine Vx.fm H bC (b:=Tryz.a326) ?_;(repeat' first|constructor|exact ZQ|intro _);all_goals apply zL
  exact aa rfl .d rfl .rfl'
theorem A3 {σ}(hs:r.ok)(hx:x.gd)(h:iN r q σ lo)(H:Cx B0 W S (lo++(aj m vm x++R)) ro):
  aO EM (zF 207) [.ptr q 0,.ptr m 0] S fun u S'=>∃ab,eD (iN r q) fj.over (σ.step r x) (aj m vm) R u ab∧Cx B0 W S' ab ro:=by
 have bn:=hs
 unfold Rn.ok at bn
 cases h with
 |a=>
  refine Vx.fm H bC (b:=Tryz.a207) ?_;(repeat' first|constructor|exact ZQ|intro _);all_goals apply zL
  exact aa rfl (.b (v:=0) (Me.ai hx _)) rfl .rfl'
 |@b h v hh=>
  have hb:=Me.ai hx (r.place h)
  refine Vx.fm H bC (b:=Tryz.a207) ?_;(repeat' first|constructor|exact ZQ|intro _);all_goals apply zL
  ·exact⟨hb.1,by omega⟩
  ·next h1=>exact aa (Prod.ext (if_pos h1) rfl) (iN.d (e:=0) hh (by omega)) rfl .rfl'
  ·next h1=>exact aa (Prod.ext (if_neg h1) rfl) (iN.d (e:=15) hh (by omega)) rfl .rfl'
 |d hh hv=>
  refine Vx.fm H bC (b:=Tryz.a207) ?_;(repeat' first|constructor|exact ZQ|intro _);all_goals apply zL
  exact aa rfl (.d hh hv) rfl .rfl'
theorem Di {σ}(hs:r.ok)(hx:x.gd)(h':oR r h q σ lo)(H:Cx B0 W S (lo++(aj m vm x++R)) ro):
  aO EM (zF 216) [.ptr q 0,.ptr m 0] S fun u S'=>∃ab,eD (oR r h q) kN.over (σ.step r h x) (aj m vm) R u ab∧Cx B0 W S' ab ro:=by
 have bn:=hs
 unfold Rn.ok at bn
 cases h' with
 |a hh=>
  have hl:=r.lN h
  have e2:(r.rY h+1)%18446744073709551616%4294967296*2^32%18446744073709551616=(r.rY h+1)%4294967296*4294967296:=by simp only[Int.reducePow];omega
  unfold Rn.rY at e2
  refine Vx.fm H bC (b:=Tryz.a216) ?_;(repeat' first|constructor|exact ZQ|intro _);all_goals apply zL
  rw[e2]
  exact aa rfl (.b hh) rfl .rfl'
 |b hh=>
  refine Vx.fm H bC (b:=Tryz.a216) ?_;(repeat' first|constructor|exact ZQ|intro _);all_goals apply zL
  exact aa rfl .d rfl .rfl'
 |d=>
  refine Vx.fm H bC (b:=Tryz.a216) ?_;(repeat' first|constructor|exact ZQ|intro _);all_goals apply zL
  exact aa rfl .d rfl .rfl'
end
end
end Go.cY
