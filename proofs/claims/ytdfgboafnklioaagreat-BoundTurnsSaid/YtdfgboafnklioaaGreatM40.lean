/- Contracts. Conditions: in each theorem. -/
import Derived.Test.YtdfgboafnklioaaGreatM0
set_option linter.all false
set_option maxRecDepth 100000
set_option maxHeartbeats 4000000
namespace Go.cO
open Go.Proofs
section
variable{B0 S:AH}{W:List Nat}{own R R0:List Own}{ro:List aB}{Q:ga}{k:AV->AC}{v:AV}{w:Nat}{x:Me}
theorem oC {M}{id off:Nat}{e}(hp:(aB.pt id off [e]).holds S)(h:wp M (k e) S Q):wp M (.op (.load 1 false (.ptr id off)) k) S Q:=by obtain⟨c,h1,h2⟩:=rO (j:=0) hp rfl;exact ae (ju h1 h2) h
theorem HU {a:Int}(H:Cx B0 W S (ai w v x++R) ro):aG EM (zF 115) [.ptr w 0,I a] S λr S'=>r=U (x.word a)/\S'=S:=by
 refine aV (b:=Tryz.a115) rfl rfl ?_;rw[Tryz.u115];have out:¬x.has a->x.word a=0:=λh=>if_neg h;refine fL (λh0=>?_) (λh0=>?_)
 ·(try(refine zz ?_;(repeat constructor);intro _))
  exact wp_ret ⟨rfl,by rw[out (λh=>by have:=h.1;omega)];rfl,rfl⟩
 (try(refine zz ?_;(repeat constructor);intro _))
 refine bO (j:=0) H 0 rfl rfl ?_
 (try(refine zz ?_;(repeat constructor);intro _))
 refine C9 H 1 rfl ?_;rw[eD]
 (try(refine zz ?_;(repeat constructor);intro _))
 refine jW (λh1=>?_) (λh1=>?_)
 ·(try(refine zz ?_;(repeat constructor);intro _))
  exact wp_ret ⟨rfl,by rw[out (λh=>by have:=h.2;omega)];rfl,rfl⟩
 (try(refine zz ?_;(repeat constructor);intro _))
 obtain⟨n,rfl⟩:∃n:Nat,a=(n:Int):=⟨a.toNat,am⟩;have hw:x.ws[n]?=some x.ws[n]:=List.getElem?_eq_getElem am;generalize x.ws[n]=z at hw;refine bO (j:=0) H 0 rfl rfl ?_;refine jI H 1 rfl (jX hw) λid off hp=>?_;refine oC hp ?_;exact wp_ret ⟨rfl,by rw[Me.tJ hw];rfl,rfl⟩
theorem yQ {kind a z:Int}{held:Bool}(hx:x.gd)(H:Cx B0 W S (ai w v x++R) ro):aG EM (zF 80) [.ptr w 0,I kind,I a,B held,U z] S λr S'=>Cx B0 W S' (ai w v (x.acc kind a (if held then z else x.word a) held)++R) ro:=by
 refine aV (b:=Tryz.a80) rfl rfl ?_;rw[Tryz.u80];have hx:=hx.1
 (try(refine zz ?_;(repeat constructor);intro _))
 refine bO (j:=6) H 0 rfl rfl ?_;refine ct am am ?_
 (try(refine zz ?_;(repeat constructor);intro _))
 refine gU (j:=6) H 0 rfl (by simp[Me.JU,Me.last]) ⟨rfl,rfl⟩ λS1 H=>?_;refine ae (v:=.agg [I kind,I a,U 0,U 0,B false]) rfl ?_
 (try(refine zz ?_;(repeat constructor);intro _))
 refine gl (off:=1) (n:=5) H 0 rfl rfl rfl (Nat.le_of_ble_eq_true rfl) λS2 H=>?_;have H:Cx B0 W S2 (ai w v ⟨x.ws,kind,a,0,0,false,x.n+1⟩++R) ro:=H;have out:¬x.has a->x.acc kind a (if held then z else x.word a) held=⟨x.ws,kind,a,0,0,false,x.n+1⟩:=λh=>if_neg h;refine fL (λh0=>?_) (λh0=>?_)
 ·(try(refine zz ?_;(repeat constructor);intro _))
  exact wp_ret ⟨rfl,by rw[out (λh=>by have:=h.1;omega)];exact H⟩
 (try(refine zz ?_;(repeat constructor);intro _))
 refine bO (j:=0) H 0 rfl rfl ?_
 (try(refine zz ?_;(repeat constructor);intro _))
 refine C9 H 1 rfl ?_;rw[eD]
 (try(refine zz ?_;(repeat constructor);intro _))
 refine jW (λh1=>?_) (λh1=>?_)
 ·(try(refine zz ?_;(repeat constructor);intro _))
  exact wp_ret ⟨rfl,by rw[out (λh=>by have:=h.2;exact absurd h1 (by show¬(x.ws.length:Int)<=a;omega))];exact H⟩
 (try(refine zz ?_;(repeat constructor);intro _))
 obtain⟨n,rfl⟩:∃n:Nat,a=(n:Int):=⟨a.toNat,am⟩;have h1:n<x.ws.length:=by have:(n:Int)<x.ws.length:=h1;omega
 have hw:x.ws[n]?=some x.ws[n]:=List.getElem?_eq_getElem h1;generalize x.ws[n]=iR at hw;have hh:x.has n:=⟨am,am⟩;have Hk:x.acc kind n (if held then z else x.word n) held=⟨x.ws.set n (if held then z else iR),kind,n,iR,(if held then z else iR),held,x.n+1⟩:=by unfold Me.acc;rw[if_pos hh,Me.tJ hw,Int.toNat_natCast]
 rw[Hk];refine bO (j:=0) H 0 rfl rfl ?_;refine jI H 1 rfl (jX hw) λid off hp=>?_;refine oC hp ?_
 (try(refine zz ?_;(repeat constructor);intro _))
 refine gU (j:=3) H 0 rfl (Nat.le_of_ble_eq_true rfl) ⟨rfl,rfl⟩ λS3 H=>?_;have H:Cx B0 W S3 (.obj w (.row [v,I kind,I n,U iR,U 0,B false,I (x.n+1)])::.sl v 1 (bq x.ws)::R) ro:=H;refine wp_bind ?_;cases held with
 |true=>
  (try(refine zz ?_;(repeat constructor);intro _))
  refine bO (j:=0) H 0 rfl rfl ?_;refine rQ (y:=U z) (i:=n) H 1 rfl (by rw[eD];exact h1) rfl rfl λS4 H=>?_;refine wp_ret ?_;show wp EM _ _ _;have H:Cx B0 W S4 (.obj w (.row [v,I kind,I n,U iR,U 0,B false,I (x.n+1)])::.sl v 1 ((bq x.ws).set n [U z])::R) ro:=H;rw[Em] at H
  (try(refine zz ?_;(repeat constructor);intro _))
  refine bO (j:=0) H 0 rfl rfl ?_;have dt:(x.ws.set n z)[n]?=some z:=by rw[List.getElem?_set];simp[h1]
  refine jI H 1 rfl (jX dt) λid off hp=>?_;refine oC hp ?_
  (try(refine zz ?_;(repeat constructor);intro _))
  refine gU (j:=4) H 0 rfl (Nat.le_of_ble_eq_true rfl) ⟨rfl,rfl⟩ λS5 H=>?_
  (try(refine zz ?_;(repeat constructor);intro _))
  refine gU (j:=5) H 0 rfl (Nat.le_of_ble_eq_true rfl) ⟨rfl,rfl⟩ λS6 H=>?_;exact wp_ret ⟨rfl,H⟩
 |false=>
  (try(refine zz ?_;(repeat constructor);intro _))
  refine wp_ret ?_;show wp EM _ _ _;have e:x.ws.set n iR=x.ws:=by
   apply List.ext_getElem?;intro i;rw[List.getElem?_set];by_cases e:n=i;.subst e;rw[if_pos rfl,if_pos h1,hw]
   .rw[if_neg e]
  show wp EM _ _ λt vs S'=>t=.ret/\Cx B0 W S' (ai w v ⟨x.ws.set n iR,kind,n,iR,iR,false,x.n+1⟩++R) ro;rw[e]
  (try(refine zz ?_;(repeat constructor);intro _))
  refine bO (j:=0) H 0 rfl rfl ?_;refine jI H 1 rfl (jX hw) λid off hp=>?_;refine oC hp ?_
  (try(refine zz ?_;(repeat constructor);intro _))
  refine gU (j:=4) H 0 rfl (Nat.le_of_ble_eq_true rfl) ⟨rfl,rfl⟩ λS5 H=>?_
  (try(refine zz ?_;(repeat constructor);intro _))
  refine gU (j:=5) H 0 rfl (Nat.le_of_ble_eq_true rfl) ⟨rfl,rfl⟩ λS6 H=>?_;exact wp_ret ⟨rfl,H⟩
instance Yw {a z:Int}:SC EM (zF 17) [.ptr w 0,I a,U z] (ai w v x++R0) x.gd uv (ai w v (x.st a z)++R0) where
 ok:=λhx ro R B W S H=>by rw[lC] at H;refine aV (b:=Tryz.a17) rfl rfl ?_;rw[Tryz.u17];refine bW (aw (yQ (held:=true) hx H) λr S1 H=>?_);exact wp_ret ⟨rfl,rfl,by rw[lC];exact H⟩
theorem Me.NL {a:Int}:(x.ld a).new=x.word a:=by
 unfold Me.ld Me.acc Me.word;split<;>rfl
instance abb {a:Int}:SC EM (zF 188) [.ptr w 0,I a] (ai w v x++R0) x.gd (U (x.word a)) (ai w v (x.ld a)++R0) where
 ok:=λhx ro R B W S H=>by
  rw[lC] at H;refine aV (b:=Tryz.a188) rfl rfl ?_;rw[Tryz.u188];refine bW (aw (yQ (held:=false) hx H) λr S1 H=>?_);have H:Cx B W S1 (ai w v (x.ld a)++(R0++R)) ro:=H
  (try(refine zz ?_;(repeat constructor);intro _))
  refine bO (j:=4) H 0 rfl rfl ?_;exact wp_ret ⟨rfl,by rw[Me.NL];rfl,by rw[lC];exact H⟩
instance abv {a z:Int}:SC EM (zF 198) [.ptr w 0,I a,U z] (ai w v x++R0) x.gd (U (x.add a z).new) (ai w v (x.add a z)++R0) where
 ok:=λhx ro R B W S H=>by
  rw[lC] at H;refine aV (b:=Tryz.a198) rfl rfl ?_;rw[Tryz.u198];refine bW (aw (HU H) λr S1 hh=>?_);obtain⟨rfl,rfl⟩:=hh;refine uT (by rw[bw,IntKind.wrap_u64]) ?_;refine bW (aw (yQ (held:=true) hx H) λr S1 H=>?_);have H:Cx B W S1 (ai w v (x.add a z)++(R0++R)) ro:=H
  (try(refine zz ?_;(repeat constructor);intro _))
  refine bO (j:=4) H 0 rfl rfl ?_;exact wp_ret ⟨rfl,rfl,by rw[lC];exact H⟩
instance abw {a o z:Int}:SC EM (zF 314) [.ptr w 0,I a,U o,U z] (ai w v x++R0) x.gd (B (decide (x.eq a o))) (ai w v (x.eL a o z)++R0) where
 ok:=λhx ro R B W S H=>by
  rw[lC] at H;refine aV (b:=Tryz.a314) rfl rfl ?_;rw[Tryz.u314];refine bW (aw (HU H) λr S1 hh=>?_);obtain⟨rfl,rfl⟩:=hh;have fin:∀{b:Bool} {S2:AH},decide (x.word a=o)=b->Cx B W S2 (ai w v (x.acc 3 a (if b then z else x.word a) b)++(R0++R)) ro->Cx B W S2 (ai w v (x.eL a o z)++(R0++R)) ro:=by
   intro b S2 hb H;unfold Me.eL;subst hb;by_cases h:x.word a=o;.rw[decide_eq_true h] at*;rw[if_pos h];exact H
   .rw[decide_eq_false h] at*;rw[if_neg h];exact H
  refine ae C6 ?_;refine bW (aw (yQ (held:=decide (x.word a=o)) hx H) λr S1 H=>?_);have H:=fin rfl H
  (try(refine zz ?_;(repeat constructor);intro _))
  refine bO (j:=5) H 0 rfl rfl ?_;exact wp_ret ⟨rfl,by rw[<-Me.Al (n:=z)];rfl,by rw[lC];exact H⟩
end
instance Yx {a b c w:Int}:VC EM (zF 438) [.agg [I a,I b,I c],U w] (Me.ar w/\0<=c) (I (idx c w)):=.of rfl rfl λ⟨hw,hc⟩=>by
 show Zx EM false (Tryz.a438 _) _ _ _ _;refine z2 ?_ ?_<;>intros
 .exact⟨rfl,by unfold idx;rw[if_neg am];rfl⟩
 .exact⟨rfl,by unfold idx;rw[if_pos am];rfl⟩
theorem Kb {i w:Int}(hi:-1<=i/\i<=65534)(hw:Me.ar w):nb ((i+1)%18446744073709551616) ((w/2^16+1)%18446744073709551616*2^16%18446744073709551616)=Am i w:=by
 unfold Me.ar at hw;have e1:(i+1)%18446744073709551616=i+1:=am;have e2:(w/2^16+1)%18446744073709551616*2^16%18446744073709551616=(w/65536+1)%281474976710656*2^16:=by simp only[Int.reducePow];omega
 rw[e1,e2,lh am am (by simp only[Int.reducePow];omega)];unfold Am;simp only[Int.reducePow];omega
instance abx {i w:Int}:VC EM (zF 439) [I i,U w] (Me.ar w/\-1<=i/\i<=65534) (U (Am i w)):=.of rfl rfl λ⟨hw,hi⟩=>by show Zx EM false (Tryz.a439 _) _ _ _ _;have dt:=hw;unfold Me.ar at dt;refine z1 ?_;exact⟨rfl,by rw[Kb hi hw];rfl⟩
instance z87 {n:Nat}[Mn n [319,316,529,440,312,453]]:cH n where
def Sk.cZ (s:Sk)(n w:Int)(t:List AV):List AV:=I s.top::I s.gp::I s.size::I n::U w::t
inductive rb (s:Sk)(q:Nat):pO->List Own->Prop
 |a {w i j:Int}:rb s q .a [.obj q (.row (s.cZ 1 w [I i,I j]))]
 |b {w i j:Int}(hw:Me.ar w)(hi:0<=i/\i<s.size):rb s q (.b w i) [.obj q (.row (s.cZ 2 w [I i,I j]))]
 |c {w i j:Int}(hw:Me.ar w)(hi:0<=i/\i<s.size)(hj:-1<=j/\j<s.size):rb s q (.c w i j) [.obj q (.row (s.cZ 3 w [I i,I j]))]
 |d {w i j:Int}(hi:-1<=i/\i<s.size):rb s q (.d i) [.obj q (.row (s.cZ 9 w [I i,I j]))]
inductive jf (s:Sk)(v:Int)(q:Nat):kI->List Own->Prop
 |a {w:Int}(hv:0<=v/\v<s.size):jf s v q .a [.obj q (.row (s.cZ 1 w [I v,I 0]))]
 |b {w:Int}(hv:0<=v/\v<s.size)(hw:Me.ar w):jf s v q (.b w) [.obj q (.row (s.cZ 2 w [I v,I 0]))]
 |c {w:Int}(hv:0<=v/\v<s.size)(hw:Me.ar w):jf s v q (.c w) [.obj q (.row (s.cZ 3 w [I v,I 0]))]
 |d {w i e:Int}:jf s v q (.d e) [.obj q (.row (s.cZ 9 w [I i,I e]))]
inductive sP (s:Sk)(q:Nat):te->List Own->Prop
 |a {w i:Int}:sP s q .a [.obj q (.row (s.cZ 1 w [I i]))]
 |b {w i:Int}(hw:Me.ar w)(hi:0<=i/\i<s.size):sP s q (.b w i) [.obj q (.row (s.cZ 2 w [I i]))]
 |d {w i:Int}(hi:-1<=i/\i<s.size):sP s q (.d i) [.obj q (.row (s.cZ 9 w [I i]))]
section
variable{B0 S:AH}{W:List Nat}{own R l:List Own}{ro:List aB}{m q:Nat}{vm:AV}{x:Me}{s:Sk}
theorem AQ {σ}(hs:s.ok)(hx:x.gd)(h:rb s q σ l)(H:Cx B0 W S (l++(ai m vm x++R)) ro):
  aG EM (zF 311) [.ptr q 0,.ptr m 0] S λr S'=>∃ab,eW (rb s q) pO.over (σ.step s x) (ai m vm) R r ab/\Cx B0 W S' ab ro:=by
 have bt:=hs;unfold Sk.ok at bt;have hi:=fN (n:=s.size) (w:=x.word s.top) am;cases h with
 |a=>
  refine y2 H bK ?_ ?_<;>intros
  .next h=>have e:idx s.size (x.word s.top)=-1:=am;exact aa (Prod.ext (if_pos h) rfl) (.d am) rfl (by rw[e];exact .rfl')
  .next h=>exact aa (Prod.ext (if_neg h) rfl) (.b (Me.aj hx _) ⟨am,hi.2⟩) rfl .rfl'
 |b hw hi=>
  refine y1 H bK ?_;exact aa rfl (.c hw hi (fN am)) rfl .rfl'
 |c hw hi hj=>
  refine y2 H bK ?_ ?_<;>intros
  .next h=>exact aa (Prod.ext (if_pos h) rfl) (.d am) rfl .rfl'
  .next h=>exact aa (Prod.ext (if_neg h) rfl) .a rfl .rfl'
 |d hi=>refine y1 H bK ?_;exact aa rfl (.d hi) rfl .rfl'
theorem rW {v:Int}{σ}(hs:s.ok)(hx:x.gd)(h:jf s v q σ l)(H:Cx B0 W S (l++(ai m vm x++R)) ro):
  aG EM (zF 317) [.ptr q 0,.ptr m 0] S λr S'=>∃ab,eW (jf s v q) kI.over (σ.step s v x) (ai m vm) R r ab/\Cx B0 W S' ab ro:=by
 have bt:=hs;unfold Sk.ok at bt;cases h with
 |a hv=>
  refine y1 H bK ?_;exact aa rfl (.b hv (Me.aj hx _)) rfl .rfl'
 |@b w hv hw=>
  have hi:=fN (n:=s.size) (w:=w) am;have e:(idx s.size w+1)%18446744073709551616=idx s.size w+1:=am;refine y1 H bK ?_;rw[e];exact aa rfl (.c hv hw) rfl .rfl'
 |c hv hw=>
  refine y2 H bK ?_ ?_<;>intros
  .next h=>exact aa (Prod.ext (if_pos h) rfl) .d rfl .rfl'
  .next h=>exact aa (Prod.ext (if_neg h) rfl) (.a hv) rfl .rfl'
 |d=>refine y1 H bK ?_;exact aa rfl .d rfl .rfl'
theorem HV {σ}(hs:s.ok)(hx:x.gd)(h:sP s q σ l)(H:Cx B0 W S (l++(ai m vm x++R)) ro):
  aG EM (zF 452) [.ptr q 0,.ptr m 0] S λr S'=>∃ab,eW (sP s q) te.over (σ.step s x) (ai m vm) R r ab/\Cx B0 W S' ab ro:=by
 have bt:=hs;unfold Sk.ok at bt;have hi:=fN (n:=s.size) (w:=x.word s.top) am;cases h with
 |a=>
  refine y2 H bK ?_ ?_<;>intros
  .next h=>have e:idx s.size (x.word s.top)=-1:=am;exact aa (Prod.ext (if_pos h) rfl) (.d am) rfl (by rw[e];exact .rfl')
  .next h=>exact aa (Prod.ext (if_neg h) rfl) (.b (Me.aj hx _) ⟨am,hi.2⟩) rfl .rfl'
 |b hw hi=>
  refine y2 H bK ?_ ?_<;>intros
  .next h=>exact aa (Prod.ext (if_pos h) rfl) (.d am) rfl .rfl'
  .next h=>exact aa (Prod.ext (if_neg h) rfl) .a rfl .rfl'
 |d hi=>refine y1 H bK ?_;exact aa rfl (.d hi) rfl .rfl'
end
instance z88 {n:Nat}[Mn n [446,455,447]]:cH n where
def Ar.cZ (a:Ar)(qp:Nat)(n i w e:Int):List AV:=a.cs++[.ptr qp 0,I n,I i,U w,I e]
inductive gV (a:Ar)(q:Nat):bN->List Own->Prop
 |p {i:Int}{qp:Nat}{σ l}(h:rb a.f qp σ l)(ho:σ.over=false):gV a q (.p σ) ([.obj q (.row (a.cZ qp 0 i 0 0))]++l)
 |g {i:Int}{qp:Nat}(hi:0<=i/\i<a.f.size):gV a q (.g i) [.obj q (.row (a.cZ qp 1 i 0 0))]
 |w {i:Int}{qp:Nat}:gV a q .w [.obj q (.row (a.cZ qp 2 i 0 0))]
 |d {i r e:Int}{qp:Nat}(hr:e=0->∃i' g,(dw i' g/\i'<a.f.size)/\r=aD i' g):gV a q (.d r e) [.obj q (.row (a.cZ qp 9 i r e))]
inductive mI (a:Ar)(v:Int)(q:Nat):jY->List Own->Prop
 |l {g:Int}{qp:Nat}{l}(hv:0<=v/\v<a.f.size)(h:jf a.f v qp .a l):mI a v q .l ([.obj q (.row (a.cZ qp 0 v g 0))]++l)
 |r {g:Int}{qp:Nat}{l}(hv:0<=v/\v<a.f.size)(hg:Me.ar g)(h:jf a.f v qp .a l):mI a v q (.r g) ([.obj q (.row (a.cZ qp 1 v g 0))]++l)
 |u {g:Int}{qp:Nat}{σ l}(hv:0<=v/\v<a.f.size)(h:jf a.f v qp σ l)(ho:σ.over=false):mI a v q (.u σ) ([.obj q (.row (a.cZ qp 2 v g 0))]++l)
 |w {g:Int}{qp:Nat}:mI a v q .w [.obj q (.row (a.cZ qp 3 v g 0))]
 |d {i g e:Int}{qp:Nat}:mI a v q (.d e) [.obj q (.row (a.cZ qp 9 i g e))]
theorem Kc {i w:Int}(hi:0<=i/\i<=65534)(hw:Me.ar w):nb ((i+1)%18446744073709551616) (w%4294967296*2^16%18446744073709551616)=i+1+w%4294967296*65536:=by
 unfold Me.ar at hw;have e1:(i+1)%18446744073709551616=i+1:=am;have e2:w%4294967296*2^16%18446744073709551616=w%4294967296*2^16:=by simp only[Int.reducePow];omega
 rw[e1,e2,lh am am (by simp only[Int.reducePow];omega)];simp only[Int.reducePow];omega
section
variable{B0 S:AH}{W:List Nat}{own R l:List Own}{ro:List aB}{m q:Nat}{vm:AV}{x:Me}{a:Ar}
theorem Cg {σ}(hs:a.ok)(hx:x.gd)(h:gV a q σ l)(H:Cx B0 W S (l++(ai m vm x++R)) ro):
  aG EM (zF 339) [.ptr q 0,.ptr m 0] S λr S'=>∃ab,eW (gV a q) bN.over (σ.step a x) (ai m vm) R r ab/\Cx B0 W S' ab ro:=by
 have bt:=hs;unfold Ar.ok Sk.ok at bt;have h0:=hs.1;cases h with
 |@p i qp σ l h ho=>
  refine y1 H bK ?_;refine Vx.fV (A:=[_]) (λB W S H=>AQ h0 hx h H) λa' x' l' e hl=>?_;have e2:(bN.p σ).step a x=(bN.kh a',x'):=by show(bN.kh _,_)=_;rw[e]
  cases ho:a'.over
  .refine z1 ?_;have e3:(bN.p σ).step a x=(.p a',x'):=e2.trans (Prod.ext (by cases hl<;>first|rfl|cases ho) rfl);exact aa e3 (.p hl ho) rfl .rfl'
  .cases hl with
   |a=>cases ho
   |b=>cases ho
   |c=>cases ho
   |d hi=>
    refine z2 ?_ ?_<;>intros
    .exact aa (e2.trans (Prod.ext (if_pos ci) rfl)) .w rfl (.cons (.drop .rfl'))
    .exact aa (e2.trans (Prod.ext (if_neg ci) rfl)) (.g am) rfl (.cons (.drop .rfl'))
 |@g i qp hi=>
  have hg:=Me.aj hx (a.km+i);refine y1 H bK ?_;rw[Kc am hg];exact aa rfl (.d λ_=>⟨i,x.word (a.km+i)%4294967296,⟨by unfold dw;omega,hi.2⟩,rfl⟩) rfl .rfl'
 |w=>
  have e:a.f.size%18446744073709551616=a.f.size:=am;refine y2 H bK ?_ ?_<;>intros
  .next h=>exact aa (Prod.ext (congrArg (bN.d 0) (if_pos am)) rfl) (.d λh=>absurd h dl) rfl .rfl'
  .next h=>exact aa (Prod.ext (congrArg (bN.d 0) (if_neg am)) rfl) (.d λh=>absurd h dl) rfl .rfl'
 |d hr=>refine y1 H bK ?_;exact aa rfl (.d hr) rfl .rfl'
theorem EE {v:Int}{σ}(hs:a.ok)(hx:x.gd)(h:mI a v q σ l)(H:Cx B0 W S (l++(ai m vm x++R)) ro):
  aG EM (zF 456) [.ptr q 0,.ptr m 0] S λr S'=>∃ab,eW (mI a v q) jY.over (σ.step a v x) (ai m vm) R r ab/\Cx B0 W S' ab ro:=by
 have bt:=hs;unfold Ar.ok Sk.ok at bt;have h0:=hs.1;cases h with
 |@l g qp l hv h=>
  have hg:=Me.aj hx (a.km+v);have e:a.Fq%18446744073709551616=a.Fq:=am;refine y2 H bK ?_ ?_<;>intros
  .next e=>exact aa (Prod.ext (if_pos am) rfl) .w rfl HQ
  .next e=>exact aa (Prod.ext (if_neg am) rfl) (.r hv hg h) rfl HQ
 |@r g qp l hv hg h=>
  refine y1 H bK ?_;exact aa rfl (.u hv h rfl) rfl HQ
 |@u g qp σ l hv h ho=>
  refine y1 H bK ?_;refine Vx.fV (A:=[_]) (λB W S H=>rW h0 hx h H) λa' x' l' e hl=>?_;have e2:(jY.u σ).step a v x=(if a'.over then .d 0 else .u a',x'):=by show(_,_)=_;rw[e]
  cases ho:a'.over
  .refine z1 ?_;have e3:(jY.u σ).step a v x=(.u a',x'):=e2.trans (Prod.ext (if_neg (by rw[ho];simp)) rfl);exact aa e3 (.u hv hl ho) rfl HQ
  .refine z1 ?_;exact aa (e2.trans (Prod.ext (if_pos ho) rfl)) .d rfl HQ
 |w=>
  refine y1 H bK ?_;exact aa rfl .d rfl .rfl'
 |d=>refine y1 H bK ?_;exact aa rfl .d rfl .rfl'
end
theorem nY {S}{w:Int}{f n:Nat}(hw:Me.ar w)(hf:f<=63)(hn:n<=62):aG EM (zF 334) [U w,I (Int.ofNat f),I (Int.ofNat n)] S λr S'=>r=I (w/2^f%2^n)/\aR S S':=by refine aV (b:=Tryz.a334) rfl rfl ?_;rw[Tryz.u334];unfold Me.ar at hw;have h1:=Df (m:=n) (n:=62) hn;have h2:=yy n;have h3:=yy f;have h4:w/2^f<=w:=Int.ediv_le_self _ hw.1;have h5:0<=w/2^f:=Int.ediv_nonneg hw.1 am;have h6:=Int.emod_lt_of_pos (w/2^f) (show(0:Int)<2^n by omega);have h7:=Int.emod_nonneg (w/2^f) (show(2:Int)^n≠0 by omega);refine ae (B2 (cJ (by show f<=64;omega))) ?_;refine ae (B3 (cJ am)) ?_;refine uU (c:=2^n-1) (by rw[bw,IntKind.wrap_u64];omega) ?_;refine ae (pM h5 am am am) ?_;rw[ot h5];refine ae (u_ (wrap64 am am)) ?_;exact wp_ret ⟨rfl,rfl,.refl _⟩
instance Yy {w:Int}:VC EM (zF 334) [U w,I 0,I 16] (Me.ar w) (I (w%65536)):=⟨λh S=>by have:=nY (S:=S) (f:=0) (n:=16) h am am;simpa using this⟩
instance Yz {w:Int}:VC EM (zF 334) [U w,I 16,I 48] (Me.ar w) (I (w/65536)):=⟨λh S=>by
 have:=nY (S:=S) (f:=16) (n:=48) h am am;have e:w/2^16%2^48=w/65536:=by unfold Me.ar at h;omega
 rw[e] at this;exact this⟩
instance YA {w:Int}:VC EM (zF 334) [U w,I 16,I 32] (Me.ar w) (I (w/65536%4294967296)):=⟨λh S=>by have:=nY (S:=S) (f:=16) (n:=32) h am am;simpa using this⟩
instance YB {w:Int}:VC EM (zF 334) [U w,I 16,I 40] (Me.ar w) (I (w/65536%1099511627776)):=⟨λh S=>by have:=nY (S:=S) (f:=16) (n:=40) h am am;simpa using this⟩
instance YC {w:Int}:VC EM (zF 334) [U w,I 56,I 8] (Me.ar w) (I (w/72057594037927936)):=⟨λh S=>by
 have:=nY (S:=S) (f:=56) (n:=8) h am am;have e:w/2^56%2^8=w/72057594037927936:=by unfold Me.ar at h;omega
 rw[e] at this;exact this⟩
instance Vw {w:Int}:VC EM (zF 454) [U w] (Me.ar w) (.dD [.agg [I (w%65536-1),I (w/65536)],I 0]):=.of rfl rfl λhw=>by show Zx EM false (Tryz.a454 _) _ _ _ _;exact zZ
instance z89:cH 322 where
instance Vy {w:Int}:VC EM (zF 580) [U w] (Me.ar w) (B (decide (9223372036854775808<=w))):=.of rfl rfl λhw=>by
 show Zx EM false (Tryz.a580 _) _ _ _ _;unfold Me.ar at hw;refine z2 ?_ ?_<;>intros
 all_goals first
  |(refine⟨rfl,?_⟩;rw[decide_eq_true (by simp only[Int.reducePow] at*;omega)];rfl)
  |(refine⟨rfl,?_⟩;rw[decide_eq_false (by simp only[Int.reducePow] at*;omega)];rfl)
  |skip
instance Vz {w:Int}:VC EM (zF 611) [U w,B false] (Me.ar w) (U (w%9223372036854775808)):=.of rfl rfl λhw=>by
 show Zx EM false (Tryz.a611 _) _ _ _ _;have e:=ot (a:=w) hw.1 63;simp only[Int.reducePow,Int.reduceSub] at e;unfold Me.ar at hw;refine z1 ?_;all_goals(rw[e];exact⟨rfl,rfl⟩)
theorem HW {i g:Int}(hi:0<=i/\i<=65534)(hg:0<=g/\g<4294967296):nb ((i+1)%18446744073709551616) (g%18446744073709551616*2^16%18446744073709551616)=aD i g:=by
 have e1:(i+1)%18446744073709551616=i+1:=am;have e2:g%18446744073709551616*2^16%18446744073709551616=g*2^16:=by simp only[Int.reducePow];omega
 rw[e1,e2,lh am am (by simp only[Int.reducePow];omega)];unfold aD;simp only[Int.reducePow];omega
instance VA {i g:Int}:VC EM (zF 581) [.agg [I i,I g,B false]] (dw i g) (.dD [U (aD i g),I 0]):=.of rfl rfl λ⟨h1,h2⟩=>by
 show Zx EM false (Tryz.a581 _) _ _ _ _;have e:=HW h1 h2;have hm:=yA ⟨h1,h2⟩;refine z1 ?_;intros;all_goals(try rw[e])
 all_goals first
  |exact lj ⟨h1,h2⟩
  |(rw[Int.emod_eq_of_lt hm.1 hm.2];exact⟨rfl,rfl⟩)
  |skip
instance VB {i g:Int}:VC EM (zF 534) [U (aD i g)] (dw i g) (.dD [.agg [I i,I g,B false],I 0]):=.of rfl rfl λh=>by show Zx EM false (Tryz.a534 _) _ _ _ _;have hw:=lj h;have hm:=yA h;refine z1 ?_;intros;rw[rT h,Ho h,decide_eq_false am];refine Zx.ok (n:=false) ?_;exact zZ
instance z90 {n:Nat}[Mn n [457,533,518,342,430,436,528,531,532,451]]:cH n where
inductive rj (e:Ep)(c:Int)(q:Nat):m_->List Own->Prop
 |a {p:Int}(hc:0<=c/\c<e.ah):rj e c q .a [.obj q (.row (e.cs++[I c,I 1,I p,I 0]))]
 |b {p:Int}(hc:0<=c/\c<e.ah)(hp:0<=p/\p<4294967296):rj e c q (.b p) [.obj q (.row (e.cs++[I c,I 2,I p,I 0]))]
 |c {p:Int}(hc:0<=c/\c<e.ah)(hp:0<=p/\p<4294967296):rj e c q (.c p) [.obj q (.row (e.cs++[I c,I 3,I p,I 0]))]
 |d {p:Int}(hp:0<=p/\p<4294967296):rj e c q (.d p 0) [.obj q (.row (e.cs++[I c,I 9,I p,I 0]))]
inductive kO (e:Ep)(c:Int)(q:Nat):cG->List Own->Prop
 |a (hc:0<=c/\c<e.ah):kO e c q .a [.obj q (.row (e.cs++[I c,I 1,I 0]))]
 |d {er:Int}:kO e c q (.d er) [.obj q (.row (e.cs++[I c,I 9,I er]))]
def Ep.cZ (e:Ep)(c p ln w n er:Int):List AV:=e.cs++[I c,I p,I ln,U w,I n,I er]
inductive sQ (e:Ep)(c p:Int)(q:Nat):jc->List Own->Prop
 |a (hc:0<=c/\c<e.ah):sQ e c p q .a [.obj q (.row (e.cZ c p 1 0 0 0))]
 |b {w n:Int}(hc:0<=c/\c<e.ah)(hw:Me.ar w)(hp:w%4294967296=p)(hn:0<=n/\n<e.ah):sQ e c p q (.b w n) [.obj q (.row (e.cZ c p 2 w n 0))]
 |c {w k:Int}(hc:0<=c/\c<e.ah)(hw:Me.ar w)(hp:w%4294967296=p):sQ e c p q (.c w) [.obj q (.row (e.cZ c p 3 w k 0))]
 |d {er w k:Int}:sQ e c p q (.d er) [.obj q (.row (e.cZ c p 9 w k er))]
section
variable{B0 S:AH}{W:List Nat}{own R l:List Own}{ro:List aB}{m q:Nat}{vm:AV}{x:Me}{e:Ep}{c p:Int}
theorem vD {σ}(hs:e.ok)(hx:x.gd)(h:rj e c q σ l)(H:Cx B0 W S (l++(ai m vm x++R)) ro):
  aG EM (zF 429) [.ptr q 0,.ptr m 0] S λr S'=>∃ab,eW (rj e c q) m_.over (σ.step e c x) (ai m vm) R r ab/\Cx B0 W S' ab ro:=by
 have bt:=hs;unfold Ep.ok at bt;have hb:=Me.aj hx e.cb;cases h with
 |a hc=>
  refine y1 H bK ?_;exact aa rfl (.b hc am) rfl .rfl'
 |@b p hc hp=>
  have e1:(p%18446744073709551616+1)%18446744073709551616=p+1:=am;refine y1 H bK ?_;rw[e1];exact aa rfl (.c hc hp) rfl .rfl'
 |@c p hc hp=>
  refine y2 H bK ?_ ?_<;>intros
  .next h=>exact aa (Prod.ext (if_neg h) rfl) (.b hc am) rfl .rfl'
  .next h=>
   have h:x.word e.cb%4294967296=p:=am;exact aa (Prod.ext (if_pos h) rfl) (.d hp) rfl .rfl'
 |d hp=>refine y1 H bK ?_;exact aa rfl (.d hp) rfl .rfl'
theorem mJ {σ}(hs:e.ok)(hx:x.gd)(h:kO e c q σ l)(H:Cx B0 W S (l++(ai m vm x++R)) ro):
  aG EM (zF 308) [.ptr q 0,.ptr m 0] S λr S'=>∃ab,eW (kO e c q) cG.over (σ.step e c x) (ai m vm) R r ab/\Cx B0 W S' ab ro:=by
 have bt:=hs;unfold Ep.ok at bt;cases h with
 |a hc=>
  refine y1 H bK ?_;exact aa rfl .d rfl .rfl'
 |d=>refine y1 H bK ?_;exact aa rfl .d rfl .rfl'
theorem Ch {w n:Int}(h:e.ah<=(if n=c then n+1 else n)):jc.skip e c w n=.c w:=if_pos h
theorem yR {w n k:Int}(hk:(if n=c then n+1 else n)=k)(h:¬e.ah<=k):jc.skip e c w n=.b w k:=by subst hk;exact if_neg h
theorem HX {σ}(hs:e.ok)(hx:x.gd)(h:sQ e c p q σ l)(H:Cx B0 W S (l++(ai m vm x++R)) ro):
  aG EM (zF 450) [.ptr q 0,.ptr m 0] S λr S'=>∃ab,eW (sQ e c p q) jc.over (σ.step e c p x) (ai m vm) R r ab/\Cx B0 W S' ab ro:=by
 have bt:=hs;unfold Ep.ok at bt;have hb:=Me.aj hx e.cb;cases h with
 |a hc=>
  refine y4 H bK ?_ ?_ ?_ ?_<;>intros
  .next h=>exact aa (Prod.ext (if_neg h) rfl) .d rfl .rfl'
  .next h h1 h2=>exact aa (Prod.ext ((if_pos am).trans (Ch (by rw[if_pos h1];omega))) rfl) (.c hc hb am) rfl .rfl'
  .next h h1 h2=>exact aa (Prod.ext ((if_pos am).trans (yR (if_pos h1) am)) rfl) (.b hc hb am am) rfl .rfl'
  .next h h1 h2=>exact aa (Prod.ext ((if_pos am).trans (yR (if_neg h1) am)) rfl) (.b hc hb am am) rfl .rfl'
 |@b w n hc hw hp hn=>
  have tC:=Me.aj hx (e.pins+n);have e1:(p%18446744073709551616+1)%18446744073709551616=p+1:=am;refine Vx.fm H bK ?_;(repeat' first|constructor|exact ZQ|intro _);all_goals apply zL
  all_goals first
   |exact aa (Prod.ext (if_neg am) rfl) .d rfl .rfl'
   |(next h1 h2=>exact aa (Prod.ext ((if_pos am).trans (Ch (by rw[if_pos h1];omega))) rfl) (.c hc hw hp) rfl .rfl')
   |(next h1 h2=>exact aa (Prod.ext ((if_pos am).trans (Ch (by rw[if_neg h1];omega))) rfl) (.c hc hw hp) rfl .rfl')
   |(next h1 h2=>exact aa (Prod.ext ((if_pos am).trans (yR (if_pos h1) am)) rfl) (.b hc hw hp am) rfl .rfl')
   |(next h1 h2=>exact aa (Prod.ext ((if_pos am).trans (yR (if_neg h1) am)) rfl) (.b hc hw hp am) rfl .rfl')
   |skip
 |@c w k hc hw hp=>
  have e1:(p%18446744073709551616+1)%18446744073709551616=p+1:=am;refine y2 H bK ?_ ?_<;>intros
  .next h=>
   rw[e1] at*
   exact aa (Prod.ext (if_pos h) rfl) .d rfl .rfl'
  .next h=>
   rw[e1] at*
   exact aa (Prod.ext (if_neg h) rfl) .d rfl .rfl'
 |d=>refine y1 H bK ?_;exact aa rfl .d rfl .rfl'
end
instance z91 {n:Nat}[Mn n [524,449,530]]:cH n where
def Lb.HY (l:Lb)(v:Int)(pp:AV)(n er:Int):List AV:=l.cs++[I v,pp,I n,I er]
inductive sR (l:Lb)(v:Int)(q:Nat):iy->List Own->Prop
 |a (hv:0<=v/\v<l.a.f.size):sR l v q .a [.obj q (.row (l.HY v Np 0 0))]
 |b {k:Int}{qp:Nat}{σ lp}(hk:0<=k/\k<3)(h:jf (l.wait k) v qp σ lp)(ho:σ.over=false):sR l v q (.b k σ) ([.obj q (.row (l.HY v (.ptr qp 0) 1 0))]++lp)
 |d {er i:Int}{pp}:sR l v q (.d er) [.obj q (.row (l.HY i pp 9 er))]
def Lb.AR (l:Lb)(on all fr:AV)(ln i j n er:Int):List AV:=l.cs++[on,all,fr,I ln,I i,I j,I n,I er]
inductive mU (l:Lb)(c p:Int)(q:Nat):eX->List Own->Prop
 |v {i:Int}{qa qb:Nat}{fr σ la lb}(hp:0<=p/\p<4294967296)(h:sQ l.e c p qa σ la)(ho:σ.over=false)(h2:sP (l.wait ((p+2)%3)) qb .a lb):mU l c p q (.v σ) ([.obj q (.row (l.AR (.ptr qa 0) (.ptr qb 0) fr 0 i 0 0 0))]++(lb++la))
 |t {i:Int}{qb:Nat}{pa fr σ lb}(hp:0<=p/\p<4294967296)(h:sP (l.wait ((p+2)%3)) qb σ lb)(ho:σ.over=false):mU l c p q (.t σ) ([.obj q (.row (l.AR pa (.ptr qb 0) fr 1 i 0 0 0))]++lb)
 |l {i j n:Int}{pa pb fr}(hi:0<=i/\i<l.a.f.size)(hn:0<=n/\n<l.a.f.size):mU l c p q (.l i n) [.obj q (.row (l.AR pa pb fr 2 i j n 0))]
 |f {i j n:Int}{pa pb}{qf:Nat}{σ lf}(hi:0<=i/\i<l.a.f.size)(hn:0<=n/\n<l.a.f.size)(hj:-1<=j/\j<=65534)(h:mI l.a i qf σ lf)(ho:σ.over=false):mU l c p q (.f i j n σ) ([.obj q (.row (l.AR pa pb (.ptr qf 0) 3 i j n 0))]++lf)
 |d {i j n er:Int}{pa pb fr}:mU l c p q (.d n er) [.obj q (.row (l.AR pa pb fr 9 i j n er))]
section
variable{B0 S:AH}{W:List Nat}{own R lo:List Own}{ro:List aB}{m q:Nat}{vm:AV}{x:Me}{l:Lb}{c p v:Int}
theorem AS {σ}(hs:l.ok)(hx:x.gd)(h:sR l v q σ lo)(H:Cx B0 W S (lo++(ai m vm x++R)) ro):
  aG EM (zF 525) [.ptr q 0,.ptr m 0] S λr S'=>∃ab,eW (sR l v q) iy.over (σ.step l v x) (ai m vm) R r ab/\Cx B0 W S' ab ro:=by
 have bt:=hs;unfold Lb.ok Ar.ok Sk.ok Ep.ok at bt;have hb:=Me.aj hx l.e.cb;cases h with
 |a hv=>
  refine y1 H bK ?_;intros;exact aa rfl (.b ⟨am,am⟩ (.a hv) rfl) rfl HQ
 |@b k qp σ lp hk h ho=>
  refine y1 H bK ?_;refine Vx.fV (A:=[_]) (λB W S H=>rW (l.kL hs hk.1 hk.2) hx h H) λa' x' l' e hl=>?_;have e2:(iy.b k σ).step l v x=(if a'.over then .d 0 else .b k a',x'):=by show(_,_)=_;rw[e]
  cases ho:a'.over
  .refine z1 ?_;have e3:(iy.b k σ).step l v x=(.b k a',x'):=e2.trans (Prod.ext (if_neg (by rw[ho];simp)) rfl);exact aa e3 (.b hk hl ho) rfl HQ
  .refine z1 ?_;exact aa (e2.trans (Prod.ext (if_pos ho) rfl)) .d rfl HQ
 |d=>refine y1 H bK ?_;exact aa rfl .d rfl .rfl'
theorem HZ {σ}(hs:l.ok)(hx:x.gd)(h:mU l c p q σ lo)(H:Cx B0 W S (lo++(ai m vm x++R)) ro):
  aG EM (zF 341) [.ptr q 0,.ptr m 0] S λr S'=>∃ab,eW (mU l c p q) eX.over (σ.step l c p x) (ai m vm) R r ab/\Cx B0 W S' ab ro:=by
 have bt:=hs;unfold Lb.ok Ar.ok Sk.ok Ep.ok at bt;cases h with
 |@v i qa qb fr σ la lb hp h ho h2=>
  refine y1 H bK ?_;refine Vx.fV (A:=_::lb) (λB W S H=>HX hs.2.1 hx h H) λa' x' l' e hl=>?_;have e2:(eX.v σ).step l c p x=(eX.Hf a',x'):=by show(eX.Hf _,_)=_;rw[e]
  cases ho:a'.over
  .refine z1 ?_;have e3:(eX.v σ).step l c p x=(.v a',x'):=e2.trans (Prod.ext (by cases hl<;>first|rfl|cases ho) rfl);exact aa e3 (.v hp hl ho h2) rfl HQ
  .cases hl with
   |a=>cases ho
   |b=>cases ho
   |c=>cases ho
   |@d er w k=>
    refine z2 ?_ ?_<;>intros
    .next h=>exact aa (e2.trans (Prod.ext (if_neg h) rfl)) .d rfl HQ
    .next h=>
     obtain rfl:er=0:=am;exact aa e2 (.t hp h2 rfl) rfl HQ
 |@t i qb pa fr σ lb hp h ho=>
  refine y1 H bK ?_;refine Vx.fV (A:=[_]) (λB W S H=>HV (l.kL hs am am) hx h H) λa' x' l' e hl=>?_;have e2:(eX.t σ).step l c p x=(eX.Hg a',x'):=by show(eX.Hg _,_)=_;rw[e]
  cases ho:a'.over
  .refine z1 ?_;have e3:(eX.t σ).step l c p x=(.t a',x'):=e2.trans (Prod.ext (by cases hl<;>first|rfl|cases ho) rfl);exact aa e3 (.t hp hl ho) rfl HQ
  .cases hl with
   |a=>cases ho
   |b=>cases ho
   |d hi=>
    refine z2 ?_ ?_<;>intros
    .exact aa (e2.trans (Prod.ext (if_pos ci) rfl)) .d rfl HQ
    .exact aa (e2.trans (Prod.ext (if_neg ci) rfl)) (.l ⟨am,hi.2⟩ ⟨am,am⟩) rfl HQ
 |@l i j n pa pb fr hi hn=>
  have hb:=Me.aj hx (l.a.f.gp+i);refine y1 H bK ?_;intros;exact aa rfl (.f hi hn am (.l hi (.a hi)) rfl) rfl HQ
 |@f i j n pa pb qf σ lf hi hn hj h ho=>
  refine y1 H bK ?_;refine Vx.fV (A:=[_]) (λB W S H=>EE hs.1 hx h H) λa' x' l' e hl=>?_;have e2:(eX.f i j n σ).step l c p x=(if a'.over then(if j<0\/l.a.f.size<=j\/l.a.f.size<=n+1 then .d (n+1) 0 else .l j (n+1)) else .f i j n a',x'):=by show(_,_)=_;rw[e]
  cases ho:a'.over
  .refine z1 ?_;have e3:(eX.f i j n σ).step l c p x=(.f i j n a',x'):=e2.trans (Prod.ext (if_neg (by rw[ho];simp)) rfl);exact aa e3 (.f hi hn hj hl ho) rfl HQ
  .refine z4 ?_ ?_ ?_ ?_<;>intros
   .exact aa (e2.trans (Prod.ext ((if_pos ho).trans (if_pos am)) rfl)) .d rfl HQ
   .exact aa (e2.trans (Prod.ext ((if_pos ho).trans (if_pos am)) rfl)) .d rfl HQ
   .exact aa (e2.trans (Prod.ext ((if_pos ho).trans (if_pos am)) rfl)) .d rfl HQ
   .exact aa (e2.trans (Prod.ext ((if_pos ho).trans (if_neg am)) rfl)) (.l ⟨am,am⟩ ⟨am,am⟩) rfl HQ
 |d=>refine y1 H bK ?_;exact aa rfl .d rfl .rfl'
end
instance VD {a b c d t:Int}:VC EM (zF 328) [.agg [I a,I b,I c,I d],U t] (Me.ar t/\(0<=c/\c<100000)/\1<=d/\d<=4096) (I (c+t%d)):=.of rfl rfl λ⟨h1,h2,h3,h4⟩=>by
 show Zx EM false (Tryz.a328 _) _ _ _ _;have h5:=Int.emod_lt_of_pos t (show 0<d by omega);have h6:=Int.emod_nonneg t (show d≠0 by omega);have e1:d%18446744073709551616=d:=am;refine z3 ?_ ?_ ?_<;>intros
 all_goals(try rw[e1] at*)
 all_goals first|omega|exact⟨rfl,rfl⟩
instance abc {a b c d t:Int}:VC EM (zF 330) [.agg [I a,I b,I c,I d],U t] (Me.ar t/\1<=d/\d<=4096) (U (t/d%4294967296)):=.of rfl rfl λ⟨h1,h2,h3⟩=>by
 show Zx EM false (Tryz.a330 _) _ _ _ _;have e1:d%18446744073709551616=d:=am;have h5:0<=t/d:=Int.ediv_nonneg h1.1 am;refine z2 ?_ ?_<;>intros
 all_goals(try rw[e1] at*)
 all_goals first|omega|exact⟨rfl,rfl⟩
instance YD {w l:Int}:VC EM (zF 329) [U w,U l] (Me.ar w) (B (decide (jd w l))):=.of rfl rfl λh=>by
 show Zx EM false (Tryz.a329 _) _ _ _ _;unfold Me.ar at h;refine z3 ?_ ?_ ?_<;>intros
 all_goals(simp only[Int.reducePow] at*)
 all_goals first
  |(exact⟨trivial,by rw[decide_eq_true (show jd w l from⟨am,am⟩)];rfl⟩)
  |(exact⟨trivial,by rw[decide_eq_false (λ(q:jd w l)=>by have:=q.1;have:=q.2;omega)];rfl⟩)
  |skip
instance VE {w l:Int}:VC EM (zF 527) [U w,U l] (Me.ar w) (B (decide (jz w l))):=.of rfl rfl λh=>by
 show Zx EM false (Tryz.a527 _) _ _ _ _;unfold Me.ar at h;refine z3 ?_ ?_ ?_<;>intros
 all_goals(simp only[Int.reducePow] at*)
 all_goals first
  |(exact⟨trivial,by rw[decide_eq_true (show jz w l from⟨am,am⟩)];rfl⟩)
  |(exact⟨trivial,by rw[decide_eq_false (λ(q:jz w l)=>by have:=q.1;have:=q.2;omega)];rfl⟩)
  |skip
instance z92 {n:Nat}[Mn n [252,331,325,444,327,181,208,349,348]]:cH n where
inductive gw (r:Rn)(v:Int)(q:Nat):b7->List Own->Prop
 |a {t w:Int}(hv:0<=v/\v<65536):gw r v q .a [.obj q (.row (r.cs++[I v,I 1,U t,U w,I 0]))]
 |b {t w:Int}(hv:0<=v/\v<65536)(ht:Me.ar t):gw r v q (.b t) [.obj q (.row (r.cs++[I v,I 2,U t,U w,I 0]))]
 |c {t w:Int}(hv:0<=v/\v<65536)(ht:Me.ar t)(hw:Me.ar w):gw r v q (.c t w) [.obj q (.row (r.cs++[I v,I 3,U t,U w,I 0]))]
 |l {t w:Int}(hv:0<=v/\v<65536)(ht:Me.ar t):gw r v q (.l t) [.obj q (.row (r.cs++[I v,I 4,U t,U w,I 0]))]
 |h {t w:Int}(hv:0<=v/\v<65536)(ht:Me.ar t):gw r v q (.h t) [.obj q (.row (r.cs++[I v,I 5,U t,U w,I 0]))]
 |d {t w e:Int}:gw r v q (.d e) [.obj q (.row (r.cs++[I v,I 9,U t,U w,I e]))]
inductive jA (r:Rn)(q:Nat):eM->List Own->Prop
 |a {h v:Int}:jA r q .a [.obj q (.row (r.cs++[I 1,U h,I 0,I 0]))]
 |b {h v:Int}(hh:Me.ar h):jA r q (.b h) [.obj q (.row (r.cs++[I 2,U h,I 0,I 0]))]
 |d {h v e:Int}(hh:Me.ar h)(hv:0<=v/\v<65536):jA r q (.d h v e) [.obj q (.row (r.cs++[I 9,U h,I v,I e]))]
inductive pT (r:Rn)(h:Int)(q:Nat):jZ->List Own->Prop
 |a (hh:Me.ar h):pT r h q .a [.obj q (.row (r.cs++[I 1,U h,I 0]))]
 |b (hh:Me.ar h):pT r h q .b [.obj q (.row (r.cs++[I 2,U h,I 0]))]
 |d {e:Int}:pT r h q .d [.obj q (.row (r.cs++[I 9,U h,I e]))]
section
variable{B0 S:AH}{W:List Nat}{own R lo:List Own}{ro:List aB}{m q:Nat}{vm:AV}{x:Me}{r:Rn}{v h:Int}
theorem Ci {σ}(hs:r.ok)(hx:x.gd)(h:gw r v q σ lo)(H:Cx B0 W S (lo++(ai m vm x++R)) ro):
  aG EM (zF 326) [.ptr q 0,.ptr m 0] S λu S'=>∃ab,eW (gw r v q) b7.over (σ.step r v x) (ai m vm) R u ab/\Cx B0 W S' ab ro:=by
 have bt:=hs;unfold Rn.ok at bt;cases h with
 |a hv=>
  refine y1 H bK ?_;exact aa rfl (.b hv (Me.aj hx _)) rfl .rfl'
 |@b t w hv ht=>
  have hb:=Me.aj hx (r.place t);have hl:=r.mF t;have e1:((r.tf t+4294967296)%18446744073709551616-1)%18446744073709551616%4294967296=(r.tf t+4294967296-1)%4294967296:=am;unfold Rn.tf at e1;refine y3 H bK ?_ ?_ ?_<;>intros
  all_goals(try rw[e1] at*)
  .next h1=>exact aa (Prod.ext (if_pos h1) rfl) (.c hv ht hb) rfl .rfl'
  .next h1 h2=>exact aa (Prod.ext ((if_neg h1).trans (if_pos h2)) rfl) .d rfl .rfl'
  .next h1 h2=>exact aa (Prod.ext ((if_neg h1).trans (if_neg h2)) rfl) (.h hv ht) rfl .rfl'
 |@c t w hv ht hw=>
  have hl:=r.mF t;have e2:r.tf t*2^32%18446744073709551616=r.tf t*4294967296:=by simp only[Int.reducePow];omega
  have e3:v%18446744073709551616=v:=am;have e4:=or3 hl hv;have e5:nb (r.tf t*4294967296) 65536=r.tf t*4294967296+65536:=by have:=rS (a:=r.tf t) (b:=65536) (i:=32) hl.1 am am;simpa only[Int.reducePow] using this
  unfold Rn.tf at e2 e4 e5;refine y3 H bK ?_ ?_ ?_<;>intros
  all_goals(try rw[e2] at*)
  all_goals(try rw[e3] at*)
  all_goals(unfold Rn.tf at hl)
  all_goals first|omega|(rw[e5];omega)|(rw[e4];omega)|skip
  .next h1=>
   rw[e4] at*
   exact aa (Prod.ext (if_pos h1) rfl) (.l hv ht) rfl .rfl'
  .next h1=>
   rw[e4] at*
   exact aa (Prod.ext (if_neg h1) rfl) (.h hv ht) rfl .rfl'
 |@l t w hv ht=>
  refine y1 H bK ?_;all_goals exact aa rfl .d rfl .rfl'
 |@h t w hv ht=>
  refine y1 H bK ?_;all_goals exact aa rfl (.a hv) rfl .rfl'
 |d=>refine y1 H bK ?_;exact aa rfl .d rfl .rfl'
theorem Cj {σ}(hs:r.ok)(hx:x.gd)(h:jA r q σ lo)(H:Cx B0 W S (lo++(ai m vm x++R)) ro):
  aG EM (zF 207) [.ptr q 0,.ptr m 0] S λu S'=>∃ab,eW (jA r q) eM.over (σ.step r x) (ai m vm) R u ab/\Cx B0 W S' ab ro:=by
 have bt:=hs;unfold Rn.ok at bt;cases h with
 |a=>
  refine y1 H bK ?_;exact aa rfl (.b (v:=0) (Me.aj hx _)) rfl .rfl'
 |@b h v hh=>
  have hb:=Me.aj hx (r.place h);refine y3 H bK ?_ ?_ ?_<;>intros
  .exact⟨hb.1,am⟩
  .next h1=>exact aa (Prod.ext (if_pos h1) rfl) (jA.d (e:=0) hh am) rfl .rfl'
  .next h1=>exact aa (Prod.ext (if_neg h1) rfl) (jA.d (e:=15) hh am) rfl .rfl'
 |d hh hv=>refine y1 H bK ?_;exact aa rfl (.d hh hv) rfl .rfl'
theorem EF {σ}(hs:r.ok)(hx:x.gd)(h':pT r h q σ lo)(H:Cx B0 W S (lo++(ai m vm x++R)) ro):
  aG EM (zF 216) [.ptr q 0,.ptr m 0] S λu S'=>∃ab,eW (pT r h q) jZ.over (σ.step r h x) (ai m vm) R u ab/\Cx B0 W S' ab ro:=by
 have bt:=hs;unfold Rn.ok at bt;cases h' with
 |a hh=>
  have hl:=r.mF h;have e2:(r.tf h+1)%18446744073709551616%4294967296*2^32%18446744073709551616=(r.tf h+1)%4294967296*4294967296:=by simp only[Int.reducePow];omega
  unfold Rn.tf at e2;refine y1 H bK ?_;rw[e2];exact aa rfl (.b hh) rfl .rfl'
 |b hh=>
  refine y1 H bK ?_;exact aa rfl .d rfl .rfl'
 |d=>refine y1 H bK ?_;exact aa rfl .d rfl .rfl'
end
end Go.cO
