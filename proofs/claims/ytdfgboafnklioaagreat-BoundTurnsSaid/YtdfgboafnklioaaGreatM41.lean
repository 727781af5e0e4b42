/- Contracts. Conditions: in each theorem. -/
import Derived.Test.YtdfgboafnklioaaGreatM40
import Derived.Test.YtdfgboafnklioaaGreatM10
set_option linter.all false
set_option maxRecDepth 100000
set_option maxHeartbeats 4000000
namespace Go.cO
open Go.Proofs
instance z93:cH 176 where
instance z94:cH 196 where
inductive pU (a e n:Int)(q:Nat):eE->List Own->Prop
 |a {w:Int}:pU a e n q .a [.obj q (.row [I a,U e,U n,I 1,U w,I 0])]
 |b {w:Int}(hw:Me.ar w):pU a e n q (.b w) [.obj q (.row [I a,U e,U n,I 2,U w,I 0])]
 |d {w er:Int}:pU a e n q (.d er) [.obj q (.row [I a,U e,U n,I 9,U w,I er])]
instance z95 {n:Nat}[Mn n [443,445,195,321,335,323,332,313,315,197,320,333,210]]:cH n where
instance YE {w:Int}:VC EM (zF 441) [U w] (Me.ar w) (.agg [I (w%256),I (w/256%256),I (w/4294967296)]):=.of rfl rfl λh=>by
 show Zx EM false (Tryz.a441 _) _ _ _ _;have h':=h;unfold Me.ar at h';exact zZ;all_goals first|exact⟨h'.1,am⟩|skip
instance YF {s c g:Int}:VC EM (zF 167) [I s,I c,I g] ((0<=s/\s<256)/\(0<=c/\c<256)/\0<=g/\g<4294967296) (U (jw s c g)):=.of rfl rfl λ⟨h1,h2,h3⟩=>by
 show Zx EM false (Tryz.a167 _) _ _ _ _;have e1:s%18446744073709551616=s:=am;have e2:c%18446744073709551616*2^8%18446744073709551616=c*256:=by simp only[Int.reducePow];omega
 have e3:g%18446744073709551616*2^32%18446744073709551616=g*4294967296:=by simp only[Int.reducePow];omega
 have e4:=lh (a:=c) (b:=s) (i:=8) h2.1 h1.1 (by simpa using h1.2);simp only[Int.reducePow] at e4;refine z2 ?_ ?_;all_goals(try rw[e1,e2] at*)
 all_goals(try rw[e3] at*)
 all_goals first|omega|skip
 rw[jor h1 h2 h3];exact⟨rfl,rfl⟩
def Jb.cZ (j:Jb)(ln i w:Int)(pp ps fr:AV)(to c:Int)(gv:Bool)(er:Int):List AV:=[I j.bE,I j.keys,I j.f.top,I j.f.gp,I j.f.size,I ln,I i,U w,pp,ps,fr,I to,I c,B gv,I er]
inductive mK (j:Jb)(q:Nat):cw->List Own->Prop
 |p {i w:Int}{qp:Nat}{σ l}(h:rb j.f qp σ l)(ho:σ.over=false):mK j q (.p σ) (.obj q (.row (j.cZ 0 i w (.ptr qp 0) Np Ns 2 0 false 0))::l)
 |l {i w:Int}{pp}(hi:0<=i/\i<j.f.size):mK j q (.l i) [.obj q (.row (j.cZ 1 i w pp Np Ns 2 0 false 0))]
 |s {i w:Int}{pp}(hi:0<=i/\i<j.f.size)(hw:Me.ar w):mK j q (.s i w) [.obj q (.row (j.cZ 2 i w pp Np Ns 2 0 false 0))]
 |d {i w:Int}{pp}(hi:0<=i/\i<j.f.size):mK j q (.d i 0) [.obj q (.row (j.cZ 9 i w pp Np Ns 2 0 false 0))]
 |n {i w:Int}{pp}:mK j q (.d 0 7) [.obj q (.row (j.cZ 9 i w pp Np Ns 2 0 false 7))]
inductive mL (j:Jb)(i:Int)(q:Nat):cX->List Own->Prop
 |l {w:Int}{pf:Nat}(hi:0<=i/\i<j.f.size):mL j i q .l [.obj q (.row (j.cZ 1 i w Np Np (.sl pf 0 2 2) 1 0 true 0)),.obj pf (.row [I 5,I 2])]
 |s {w:Int}{pf:Nat}(hi:0<=i/\i<j.f.size)(hw:Me.ar w):mL j i q (.s w) [.obj q (.row (j.cZ 2 i w Np Np (.sl pf 0 2 2) 1 0 true 0)),.obj pf (.row [I 5,I 2])]
 |p {w:Int}{qp pf:Nat}{σ l}(hi:0<=i/\i<j.f.size)(h:jf j.f i qp σ l)(ho:σ.over=false):mL j i q (.p σ) (.obj q (.row (j.cZ 3 i w Np (.ptr qp 0) (.sl pf 0 2 2) 1 0 true 0))::.obj pf (.row [I 5,I 2])::l)
 |d {w er:Int}{ps}{pf:Nat}:mL j i q (.d er) [.obj q (.row (j.cZ 9 i w Np ps (.sl pf 0 2 2) 1 0 true er)),.obj pf (.row [I 5,I 2])]
inductive jg (j:Jb)(i fr to c:Int)(q:Nat):aZ->List Own->Prop
 |l {w:Int}{pf:Nat}(hi:0<=i/\i<j.f.size):jg j i fr to c q .l [.obj q (.row (j.cZ 1 i w Np Np (.sl pf 0 1 1) to c false 0)),.obj pf (.row [I fr])]
 |s {w:Int}{pf:Nat}(hi:0<=i/\i<j.f.size)(hw:Me.ar w):jg j i fr to c q (.s w) [.obj q (.row (j.cZ 2 i w Np Np (.sl pf 0 1 1) to c false 0)),.obj pf (.row [I fr])]
 |d {w er:Int}{pf:Nat}:jg j i fr to c q (.d er) [.obj q (.row (j.cZ 9 i w Np Np (.sl pf 0 1 1) to c false er)),.obj pf (.row [I fr])]
inductive sS (j:Jb)(i k:Int)(q:Nat):bF->List Own->Prop
 |a (hi:0<=i/\i<j.f.size):sS j i k q .a [.obj q (.row [I (j.keys+i),B false,U k,I 1,I 0])]
 |d {v er:Int}:sS j i k q (.d v er) [.obj q (.row [I (j.keys+i),B false,U k,I 9,I er])]
inductive kP (j:Jb)(i:Int)(q:Nat):bF->List Own->Prop
 |a {w:Int}(hi:0<=i/\i<j.f.size):kP j i q .a [.obj q (.row [I (j.keys+i),B true,U w,I 1,I 0])]
 |d {w:Int}(hw:Me.ar w):kP j i q (.d w 0) [.obj q (.row [I (j.keys+i),B true,U w,I 9,I 0])]
section
variable{B0 S:AH}{W:List Nat}{own R lo:List Own}{ro:List aB}{m q:Nat}{vm:AV}{x:Me}{j:Jb}{a e n i k fr to c:Int}
theorem EG {σ}(hs:(0<=e/\e<=1099511627776)/\0<=n/\n<=1099511627776)(hx:x.gd)(h:pU a e n q σ lo)(H:Cx B0 W S (lo++(ai m vm x++R)) ro):
  aG EM (zF 194) [.ptr q 0,.ptr m 0] S λu S'=>∃ab,eW (pU a e n q) eE.over (σ.step a e n x) (ai m vm) R u ab/\Cx B0 W S' ab ro:=by
 cases h with
 |a=>
  have hb:=Me.aj hx a;unfold Me.ar at hb;refine y4 H bK ?_ ?_ ?_ ?_<;>intros
  all_goals first
   |(exact aa (Prod.ext (if_neg (λ(q:yu (x.word a) n e)=>by have:=q.1;have:=q.2;omega)) rfl) (.b hb) rfl HQ)
   |(exact aa (Prod.ext (if_pos (show yu (x.word a) n e from⟨am,am⟩)) rfl) .d rfl HQ)
   |skip
 |@b w hw=>
  have e1:(n+1)%18446744073709551616=n+1:=am;refine y2 H bK ?_ ?_<;>intros
  all_goals(try rw[e1] at*)
  .next h=>exact aa (Prod.ext (if_pos h) rfl) .d rfl HQ
  .next h=>exact aa (Prod.ext (if_neg h) rfl) .a rfl HQ
 |d=>refine y1 H bK ?_;exact aa rfl .d rfl HQ
theorem vE {σ}(hs:j.ok)(hx:x.gd)(h:sS j i k q σ lo)(H:Cx B0 W S (lo++(ai m vm x++R)) ro):
  aG EM (zF 202) [.ptr q 0,.ptr m 0] S λu S'=>∃ab,eW (sS j i k q) bF.over (σ.step j i k x) (ai m vm) R u ab/\Cx B0 W S' ab ro:=by
 have bt:=hs;unfold Jb.ok Sk.ok at bt;cases h with
 |a hi=>
  refine y1 H bK ?_;exact aa rfl .d rfl HQ
 |d=>refine y1 H bK ?_;exact aa rfl .d rfl HQ
theorem pV {σ}(hs:j.ok)(hx:x.gd)(h:kP j i q σ lo)(H:Cx B0 W S (lo++(ai m vm x++R)) ro):
  aG EM (zF 202) [.ptr q 0,.ptr m 0] S λu S'=>∃ab,eW (kP j i q) bF.over (σ.stepOf j i x) (ai m vm) R u ab/\Cx B0 W S' ab ro:=by
 have bt:=hs;unfold Jb.ok Sk.ok at bt;cases h with
 |a hi=>
  refine y1 H bK ?_;exact aa rfl (.d (Me.aj hx _)) rfl HQ
 |d hw=>refine y1 H bK ?_;exact aa rfl (.d hw) rfl HQ
theorem jL {σ}(hs:j.ok)(hf:0<=fr/\fr<6)(ht:0<=to/\to<6)(hc:0<=c/\c<64)(hx:x.gd)(h:jg j i fr to c q σ lo)(H:Cx B0 W S (lo++(ai m vm x++R)) ro):
  aG EM (zF 192) [.ptr q 0,.ptr m 0] S λu S'=>∃ab,eW (jg j i fr to c q) aZ.over (σ.step j i fr to c x) (ai m vm) R u ab/\Cx B0 W S' ab ro:=by
 have bt:=hs;unfold Jb.ok Sk.ok at bt;haveI:aU:=⟨⟩;cases h with
 |l hi=>
  have hb:=Me.aj hx (j.bE+i);refine y4 H bK ?_ ?_ ?_ ?_<;>intros
  all_goals first
   |(exact aa (Prod.ext (if_neg am) rfl) .d rfl HQ)
   |(exact aa (Prod.ext (if_pos am) rfl) (.s hi hb) rfl HQ)
   |skip
 |@s w pf hi hw=>
  have e2:(aZ.s w).step j i fr to c x=(if x.eq (j.bE+i) w then .d 0 else .l,x.eL (j.bE+i) w (jw to (if to=4 then c else 0) (w/4294967296))):=rfl;have dt:=hw;unfold Me.ar at dt;refine Vx.fm H bK ?_;(repeat' first|constructor|exact ZQ|intro _);all_goals apply zL
  all_goals rw[e2]
  all_goals first
   |(next h4 h=>rw[if_pos h4,if_pos h];exact aa rfl .d rfl HQ)
   |(next h4 h=>rw[if_pos h4,if_neg h];exact aa rfl (.l hi) rfl HQ)
   |(next h4 h=>rw[if_neg h4,if_pos h];exact aa rfl .d rfl HQ)
   |(next h4 h=>rw[if_neg h4,if_neg h];exact aa rfl (.l hi) rfl HQ)
   |(next h=>rw[if_neg (show¬to=4 by omega),if_pos h];exact aa rfl .d rfl HQ)
   |(next h=>rw[if_neg (show¬to=4 by omega),if_neg h];exact aa rfl (.l hi) rfl HQ)
   |skip
 |d=>refine y1 H bK ?_;exact aa rfl .d rfl HQ
theorem xr {σ}(hs:j.ok)(hx:x.gd)(h:mL j i q σ lo)(H:Cx B0 W S (lo++(ai m vm x++R)) ro):
  aG EM (zF 192) [.ptr q 0,.ptr m 0] S λu S'=>∃ab,eW (mL j i q) cX.over (σ.step j i x) (ai m vm) R u ab/\Cx B0 W S' ab ro:=by
 have bt:=hs;unfold Jb.ok Sk.ok at bt;haveI:aU:=⟨⟩;cases h with
 |l hi=>
  have hb:=Me.aj hx (j.bE+i);refine y3 H bK ?_ ?_ ?_<;>intros
  all_goals first
   |(exact aa (Prod.ext (if_neg am) rfl) .d rfl HQ)
   |(exact aa (Prod.ext (if_pos am) rfl) (.s hi hb) rfl HQ)
   |skip
 |@s w pf hi hw=>
  have dt:=hw;unfold Me.ar at dt;refine y2 H bK ?_ ?_<;>intros
  .have h:x.eq (j.bE+i) w:=ci;exact aa (Prod.ext (if_pos h) rfl) (.p hi (.a hi) rfl) rfl HQ
  .next h=>exact aa (Prod.ext (if_neg h) rfl) (.l hi) rfl HQ
 |@p w qp pf σ l hi h ho=>
  refine y1 H bK ?_;refine Vx.fV (A:=[_,_]) (λB W S H=>rW hs.1 hx h H) λa' x' l' e hl=>?_;have e2:(cX.p σ).step j i x=(if a'.over then .d 0 else .p a',x'):=by show(_,_)=_;rw[e]
  cases ho:a'.over
  .refine z1 ?_;have e3:(cX.p σ).step j i x=(.p a',x'):=e2.trans (Prod.ext (if_neg (by rw[ho];simp)) rfl);exact aa e3 (.p hi hl ho) rfl HQ
  .refine z1 ?_;exact aa (e2.trans (Prod.ext (if_pos ho) rfl)) .d rfl HQ
 |d=>refine y1 H bK ?_;exact aa rfl .d rfl HQ
theorem EH {σ}(hs:j.ok)(hx:x.gd)(h:mK j q σ lo)(H:Cx B0 W S (lo++(ai m vm x++R)) ro):
  aG EM (zF 192) [.ptr q 0,.ptr m 0] S λu S'=>∃ab,eW (mK j q) cw.over (σ.step j x) (ai m vm) R u ab/\Cx B0 W S' ab ro:=by
 have bt:=hs;unfold Jb.ok Sk.ok at bt;haveI:aU:=⟨⟩;cases h with
 |@p i w qp σ l h ho=>
  refine y1 H bK ?_;refine Vx.fV (A:=[_]) (λB W S H=>AQ hs.1 hx h H) λa' x' l' e hl=>?_;have e2:(cw.p σ).step j x=(cw.kh a',x'):=by show(cw.kh _,_)=_;rw[e]
  cases ho:a'.over
  .refine z1 ?_;have e3:(cw.p σ).step j x=(.p a',x'):=e2.trans (Prod.ext (by cases hl<;>first|rfl|cases ho) rfl);exact aa e3 (.p hl ho) rfl HQ
  .cases hl with
   |a=>cases ho
   |b=>cases ho
   |c=>cases ho
   |d hi=>
    refine z2 ?_ ?_<;>intros
    .exact aa (e2.trans (Prod.ext (if_pos ci) rfl)) .n rfl HQ
    .exact aa (e2.trans (Prod.ext (if_neg ci) rfl)) (.l am) rfl HQ
 |@l i w pp hi=>
  have hb:=Me.aj hx (j.bE+i);refine y1 H bK ?_;intros;exact aa rfl (.s hi hb) rfl HQ
 |@s i w pp hi hw=>
  have dt:=hw;unfold Me.ar at dt;refine y2 H bK ?_ ?_<;>intros
  .next h=>exact aa (Prod.ext (if_pos h) rfl) (.d hi) rfl HQ
  .next h=>exact aa (Prod.ext (if_neg h) rfl) (.l hi) rfl HQ
 |d hi=>
  refine y1 H bK ?_;exact aa rfl (.d hi) rfl HQ
 |n=>refine y1 H bK ?_;exact aa rfl .n rfl HQ
end
instance z96:cH 458 where
section
variable{nd hd ht c3 c4 n c6 c7 c8 c9 dP dp dM i k l g aq high w:Int}
instance Tp:VC EM (zF 63) [.agg [I nd,I hd,I ht,I c3,I c4,I n,I c6,I c7,I c8,I c9,I dP,I dp,I dM]] ((0<=nd/\nd<4096)/\(0<=hd/\hd<4096)/\(1<=ht/\ht<=4)/\1<=n/\n<=128) (B true):=.of rfl rfl λh=>by show Zx EM false (Tryz.a63 _) _ _ _ _;exact zZ
instance VF:VC EM (zF 576) [.agg [I nd,I hd,I ht,I c3,I c4,I n,I c6,I c7,I c8,I c9,I dP,I dp,I dM],I i,I l] (((0<=nd/\nd<4096)/\(0<=hd/\hd<4096)/\(1<=ht/\ht<=4)/\1<=n/\n<=128)/\(-1<=i/\i<n)/\0<=l/\l<ht) (I (B6 nd hd ht i l)):=.of rfl rfl λ⟨h,hi,hk⟩=>by
 by_cases h0:i=-1
 .subst h0;show Zx EM false (Tryz.a576 _) _ _ _ _;refine z1 ?_;intros;have e:hd+(4+l)-4=hd+l:=am;exact⟨rfl,by rw[e];unfold B6;rw[if_pos rfl];rfl⟩
 .have e:B6 nd hd ht i l=p9 nd ht i (4+l):=if_neg h0;rw[e];show Zx EM false (Tryz.a576 _) _ _ _ _;have h1:0<=i*(4+ht):=Int.mul_nonneg am am;have h2:i*(4+ht)<=128*8:=Int.mul_le_mul am am am am;exact zZ
instance YG:VC EM (zF 458) [.agg [I nd,I hd,I ht,I c3,I c4,I n,I c6,I c7,I c8,I c9,I dP,I dp,I dM],I i,I k] (((0<=nd/\nd<4096)/\(0<=hd/\hd<4096)/\(1<=ht/\ht<=4)/\1<=n/\n<=128)/\(0<=i/\i<n)/\0<=k/\k<4+ht) (I (p9 nd ht i k)):=.of rfl rfl λ⟨h,hi,hk⟩=>by show Zx EM false (Tryz.a458 _) _ _ _ _;have h1:0<=i*(4+ht):=Int.mul_nonneg hi.1 am;have h2:i*(4+ht)<=128*8:=Int.mul_le_mul am am am am;exact zZ
instance Tq:VC EM (zF 460) [.agg [I nd,I hd,I ht,I c3,I c4,I n,I c6,I c7,I c8,I c9,I dP,I dp,I dM],U w] (Me.ar w/\0<=n) (I (idx n w)):=.of rfl rfl λ⟨hw,hn⟩=>by show Zx EM false (Tryz.a460 _) _ _ _ _;exact zZ
instance NM:VC EM (zF 459) [.agg [I nd,I hd,I ht,I c3,I c4,I n,I c6,I c7,I c8,I c9,I dP,I dp,I dM],U (aD i g),I high] (((0<=nd/\nd<4096)/\(0<=hd/\hd<4096)/\(1<=ht/\ht<=4)/\1<=n/\n<=128)/\(dw i g/\i<n)/\1<=high/\high<=ht) (I 0):=.of rfl rfl λ⟨h,hi,hh⟩=>by
 have kj:=hi;unfold dw at kj;show Zx EM false (Tryz.a459 _) _ _ _ _;refine z1 ?_;intros;all_goals first|exact hi.1|skip
end
def Tw.Kd (t:Tw)(ref b key i aq high ln er:Int):List AV:=t.cs++[U ref,U b,U key,I i,I aq,I high,I ln,I er]
inductive nZ (t:Tw)(i g key aq high:Int)(q:Nat)(b:Int):mD->List Own->Prop
 |s {k:Nat}(hk:k<4):nZ t i g key aq high q b (.s k) [.obj q (.row (t.Kd (aD i g) b key i aq high k 0))]
 |d:nZ t i g key aq high q b (.d 0) [.obj q (.row (t.Kd (aD i g) b key i aq high 9 0))]
section
variable{B0 S:AH}{W:List Nat}{own R lo:List Own}{ro:List aB}{m q:Nat}{vm:AV}{x:Me}{t:Tw}{i g key aq high b:Int}
theorem H0 {σ}(hs:t.ok)(hr:t.rf i g)(hj:0<=aq/\aq<=65534/\0<=high/\high<=4)(hx:x.gd)(h:nZ t i g key aq high q b σ lo)(H:Cx B0 W S (lo++(ai m vm x++R)) ro):
  aG EM (zF 343) [.ptr q 0,.ptr m 0] S λu S'=>∃ab,eW (nZ t i g key aq high q (aD i g)) mD.over (σ.step t (aD i g) key aq high x) (ai m vm) R u ab/\Cx B0 W S' ab ro:=by
 have bt:=hs;unfold Tw.ok Lb.ok Ar.ok Sk.ok Ep.ok at bt;have py:=hr;unfold Tw.rf dw at py;have mX:=Tw.xe hr;have e1:aq%18446744073709551616=aq:=am;have e2:high%18446744073709551616=high:=am;cases h with
 |@s k hk=>
  match k,hk with
  |0,_=>
   have e:(mD.s 0).step t (aD i g) key aq high x=(.s 1,x.st (t.pt i 0) key):=by show(_,x.st (t.pt (t.ix _) 0) key)=_;rw[mX]
   refine y1 H bK ?_;all_goals first|(exfalso;omega)|exact aa e (.s am) rfl HQ
  |1,_=>
   have e:(mD.s 1).step t (aD i g) key aq high x=(.s 2,x.st (t.pt i 1) aq):=by show(_,x.st (t.pt (t.ix _) 1) aq)=_;rw[mX]
   refine y1 H bK ?_;all_goals first|(exfalso;omega)|(rw[e1];exact aa e (.s am) rfl HQ)
  |2,_=>
   have e:(mD.s 2).step t (aD i g) key aq high x=(.s 3,x.st (t.pt i 2) high):=by show(_,x.st (t.pt (t.ix _) 2) high)=_;rw[mX]
   refine y1 H bK ?_;all_goals first|(exfalso;omega)|(rw[e2];exact aa e (.s am) rfl HQ)
  |3,_=>
   have e:(mD.s 3).step t (aD i g) key aq high x=(.d 0,x.st (t.pt i 3) 2):=by show(_,x.st (t.pt (t.ix _) 3) 2)=_;rw[mX]
   refine y1 H bK ?_;all_goals first|(exfalso;omega)|exact aa e .d rfl HQ
 |d=>
  refine y1 H bK ?_;all_goals first|(exfalso;omega)|exact aa rfl .d rfl HQ
end
instance z97 {n:Nat}[Mn n [344,448,578,523]]:cH n where
def Tw.pW (t:Tw)(key ln lv pred ref cur w:Int)(qp qs qk k:Nat)(r er:Int):List AV:=t.cs++[U key,I ln,I lv,I pred,U ref,U cur,U w,.sl qp 0 k k,.sl qs 0 k k,.sl qk 0 k k,U r,I er]
def tP (T:gr):List AV:=T.map λs=>I s.pred
def tS (T:gr):List AV:=T.map λs=>U s.cur
def tK (T:gr):List AV:=T.map λs=>U s.known
def H3:Nat->Int|0=>9|_+1=>1
section
variable{nd hd ht c3 c4 n c6 c7 c8 c9 dP dp dM key ln lv pred known cur w r er:Int}{q qp qs qk k:Nat}{R0:List Own}{T:gr}
instance Qv {LO LP LQ}:SC EM (zF 535) [.ptr q 0] (.obj q (.row [I nd,I hd,I ht,I c3,I c4,I n,I c6,I c7,I c8,I c9,I dP,I dp,I dM,U key,I ln,I lv,I pred,U known,U cur,U w,LO,LP,LQ,U r,I er])::R0) (1<=ht/\ht<=4) uv
  (.obj q (.row [I nd,I hd,I ht,I c3,I c4,I n,I c6,I c7,I c8,I c9,I dP,I dp,I dM,U key,I 1,I (ht-1),I (-1),U 0,U cur,U w,LO,LP,LQ,U r,I er])::R0):=.of rfl rfl λh ro R=>by
 show Zx EM false (Tryz.a535 _) _ _ _ _;refine z1 ?_;exact⟨rfl,rfl,_,⟨rfl,rfl⟩,HQ⟩
instance Qw {l:Nat}:SC EM (zF 579) [.ptr q 0] (.obj q (.row [I nd,I hd,I ht,I c3,I c4,I n,I c6,I c7,I c8,I c9,I dP,I dp,I dM,U key,I ln,I l,I pred,U known,U cur,U w,.sl qp 0 k k,.sl qs 0 k k,.sl qk 0 k k,U r,I er])::.obj qp (.row (tP T))::.obj qs (.row (tS T))::.obj qk (.row (tK T))::R0)
  ((1<=k/\k<=4)/\l<k/\T.length=k) uv
  (.obj q (.row [I nd,I hd,I ht,I c3,I c4,I n,I c6,I c7,I c8,I c9,I dP,I dp,I dM,U key,I (H3 l),I ((l:Int)-1),I pred,U known,U cur,U w,.sl qp 0 k k,.sl qs 0 k k,.sl qk 0 k k,U r,I er])::.obj qp (.row (tP (T.set l ⟨pred,known,cur⟩)))::.obj qs (.row (tS (T.set l ⟨pred,known,cur⟩)))::.obj qk (.row (tK (T.set l ⟨pred,known,cur⟩)))::R0):=.of rfl rfl λ⟨hk,hl,hT⟩ ro R=>by
 have:k=1\/k=2\/k=3\/k=4:=am;rcases this with rfl|rfl|rfl|rfl
 .obtain⟨a,rfl⟩:=tg hT;match l,hl with
  |0,_=>(show Zx EM false (Tryz.a579 _) _ _ _ _;refine z1 ?_;all_goals first|(exfalso;omega)|exact⟨rfl,rfl,_,⟨rfl,rfl⟩,HQ⟩)
 .obtain⟨a,b,rfl⟩:=tj hT;match l,hl with
  |0,_=>(show Zx EM false (Tryz.a579 _) _ _ _ _;refine z1 ?_;all_goals first|(exfalso;omega)|exact⟨rfl,rfl,_,⟨rfl,rfl⟩,HQ⟩)
  |1,_=>(show Zx EM false (Tryz.a579 _) _ _ _ _;refine z1 ?_;all_goals first|(exfalso;omega)|exact⟨rfl,rfl,_,⟨rfl,rfl⟩,HQ⟩)
 .obtain⟨a,b,c,rfl⟩:=tn hT;match l,hl with
  |0,_=>(show Zx EM false (Tryz.a579 _) _ _ _ _;refine z1 ?_;all_goals first|(exfalso;omega)|exact⟨rfl,rfl,_,⟨rfl,rfl⟩,HQ⟩)
  |1,_=>(show Zx EM false (Tryz.a579 _) _ _ _ _;refine z1 ?_;all_goals first|(exfalso;omega)|exact⟨rfl,rfl,_,⟨rfl,rfl⟩,HQ⟩)
  |2,_=>(show Zx EM false (Tryz.a579 _) _ _ _ _;refine z1 ?_;all_goals first|(exfalso;omega)|exact⟨rfl,rfl,_,⟨rfl,rfl⟩,HQ⟩)
 .obtain⟨a,b,c,d,rfl⟩:=tp hT;match l,hl with
  |0,_=>(show Zx EM false (Tryz.a579 _) _ _ _ _;refine z1 ?_;all_goals first|(exfalso;omega)|exact⟨rfl,rfl,_,⟨rfl,rfl⟩,HQ⟩)
  |1,_=>(show Zx EM false (Tryz.a579 _) _ _ _ _;refine z1 ?_;all_goals first|(exfalso;omega)|exact⟨rfl,rfl,_,⟨rfl,rfl⟩,HQ⟩)
  |2,_=>(show Zx EM false (Tryz.a579 _) _ _ _ _;refine z1 ?_;all_goals first|(exfalso;omega)|exact⟨rfl,rfl,_,⟨rfl,rfl⟩,HQ⟩)
  |3,_=>(show Zx EM false (Tryz.a579 _) _ _ _ _;refine z1 ?_;all_goals first|(exfalso;omega)|exact⟨rfl,rfl,_,⟨rfl,rfl⟩,HQ⟩)
end
structure rX (t:Tw)(k l:Nat)(pred known:Int)(T:gr):Prop where
 hk:(k:Int)=t.ht
 hl:l<k
 hp:-1<=pred/\pred<t.l.a.f.size
 hn:Me.ar known
 hT:T.ok t
def Ck (qp qs qk:Nat)(T:gr):List Own:=[.obj qp (.row (tP T)),.obj qs (.row (tS T)),.obj qk (.row (tK T))]
inductive bn (t:Tw)(key:Int)(q:Nat)(b:Int):bS->List Own->Prop
 |a {l k qp qs qk:Nat}{pred known cur w:Int}{T}(h:rX t k l pred known T):bn t key q b (.a l pred known T) (.obj q (.row (t.pW key 1 l pred known cur w qp qs qk k b 0))::Ck qp qs qk T)
 |b {l k qp qs qk:Nat}{pred known cur w:Int}{T}(h:rX t k l pred known T)(hc:Me.ar cur)(hi:¬t.ix cur<0):bn t key q b (.b l pred known cur T) (.obj q (.row (t.pW key 2 l pred known cur w qp qs qk k b 0))::Ck qp qs qk T)
 |c {l k qp qs qk:Nat}{pred known cur w:Int}{T}(h:rX t k l pred known T)(hc:Me.ar cur)(hi:¬t.ix cur<0)(hw:Me.ar w)(hm:9223372036854775808<=w):bn t key q b (.c l pred known cur w T) (.obj q (.row (t.pW key 3 l pred known cur w qp qs qk k b 0))::Ck qp qs qk T)
 |e {l k qp qs qk:Nat}{pred known cur w:Int}{T}(h:rX t k l pred known T)(hc:Me.ar cur)(hi:¬t.ix cur<0)(hw:Me.ar w):bn t key q b (.e l pred known cur w T) (.obj q (.row (t.pW key 4 l pred known cur w qp qs qk k b 0))::Ck qp qs qk T)
 |d {k qp qs qk:Nat}{lv pred known cur w:Int}{T}(hk:(k:Int)=t.ht)(hT:T.ok t):bn t key q b (.d T) (.obj q (.row (t.pW key 9 lv pred known cur w qp qs qk k b 0))::Ck qp qs qk T)
theorem bS.fO {l:Nat}{pred known cur:Int}{T}:(bS.done l pred known cur T).over=decide (H3 l=9):=by cases l<;>rfl
instance z98:cH 577 where
section
variable{B0 S:AH}{W:List Nat}{own R lo:List Own}{ro:List aB}{m q k qp qs qk:Nat}{vm:AV}{x:Me}{t:Tw}{key b known pred cur w:Int}{T:gr}{l:Nat}
theorem bn.done (h:rX t k l pred known T)(hc:Me.ar cur):bn t key q b (bS.done l pred known cur T) (.obj q (.row (t.pW key (H3 l) ((l:Int)-1) pred known cur w qp qs qk k b 0))::Ck qp qs qk (List.set T l ⟨pred,known,cur⟩)):=by
 have ht:=gr.Ht h.hT (s:=⟨pred,known,cur⟩) ⟨h.hp,h.hn,hc⟩ l;cases l with
 |zero=>exact .d h.hk ht
 |succ l=>have e:((l+1:Nat):Int)-1=(l:Int):=am;rw[e];exact .a ⟨h.hk,by have:=h.hl;omega,h.hp,h.hn,ht⟩
theorem bn.i6 (ht:1<=t.ht/\1<=t.l.a.f.size)(hk:(k:Int)=t.ht)(hT:T.ok t):bn t key q b (bS.i6 t T) (.obj q (.row (t.pW key 1 (t.ht-1) (-1) 0 cur w qp qs qk k b 0))::Ck qp qs qk T):=by have e:t.ht-1=((t.ht-1).toNat:Int):=am;unfold bS.i6;rw[e];exact .a ⟨hk,am,am,by unfold Me.ar;omega,hT⟩
theorem Ke {o1 own:List Own}(e:o1=own:=by conv=>lhs;simp only[Tw.pW,Ck,Tw.cs,Lb.cs,Ar.cs,Ep.cs,lA,lB,lC]):o1=own:=e
theorem oD {σ:bS}(hs:t.ok)(hx:x.gd)(ho:σ.over=false)(Dm:Me.ar key)(h:bn t key q b σ lo)(H:Cx B0 W S (lo++(ai m vm x++R)) ro):
  aG EM (zF 522) [.ptr q 0,.ptr m 0] S λu S'=>∃ab,eW (bn t key q σ.cM) bS.over (σ.step t key x) (ai m vm) R u ab/\Cx B0 W S' ab ro:=by
 have bt:=hs;unfold Tw.ok Lb.ok Ar.ok Sk.ok Ep.ok at bt;cases h with
 |@a l k qp qs qk pred known cur w T h=>
  have I:=h;obtain⟨hk,hl,hp,hn,hT⟩:=h;have Aw:=hT.1;have hb:=Me.aj hx (t.nx pred l);refine y4 H Ke ?_ ?_ ?_ ?_<;>intros
  .next h=>exact aa (Prod.ext (if_pos h) rfl) (bn.i6 ⟨am,am⟩ hk hT) rfl HQ
  .next h1 h2 h=>exact aa (Prod.ext ((if_neg h1).trans (if_pos h2)) rfl) (bn.done I hb) (bS.fO.trans (decide_eq_true h)) HQ
  .next h1 h2 h=>exact aa (Prod.ext ((if_neg h1).trans (if_pos h2)) rfl) (bn.done I hb) (bS.fO.trans (decide_eq_false h)) HQ
  .next h1 h2=>exact aa (Prod.ext ((if_neg h1).trans (if_neg h2)) rfl) (.b I hb h2) rfl HQ
 |@b l k qp qs qk pred known cur w T h hc hi=>
  have I:=h;obtain⟨hk,hl,hp,hn,hT⟩:=h;have Aw:=hT.1;have uO:=fN (n:=t.l.a.f.size) (w:=cur) am;have hb:=Me.aj hx (t.nx (t.ix cur) l);have R7:0<=idx t.l.a.f.size cur:=by unfold Tw.ix Tw.size at hi;omega
  refine y2 H Ke ?_ ?_<;>intros
  .next h=>exact aa (Prod.ext (if_pos h) rfl) (.c I hc hi hb h) rfl HQ
  .next h=>exact aa (Prod.ext (if_neg h) rfl) (.e I hc hi hb) rfl HQ
 |@c l k qp qs qk pred known cur w T h hc hi hw hm=>
  have I:=h;obtain⟨hk,hl,hp,hn,hT⟩:=h;have Aw:=hT.1;have uO:=fN (n:=t.l.a.f.size) (w:=cur) am;have R7:0<=idx t.l.a.f.size cur:=by unfold Tw.ix Tw.size at hi;omega
  have hb:Me.ar (w-9223372036854775808):=by unfold Me.ar at*;omega
  have e1:(w-9223372036854775808)%18446744073709551616=w-9223372036854775808:=by unfold Me.ar at*;omega
  refine y4 H Ke ?_ ?_ ?_ ?_<;>intros
  all_goals(try rw[e1] at*)
  .next h1 h2 h=>exact aa (Prod.ext ((if_pos h1).trans (if_pos h2)) rfl) (bn.done I hb) (bS.fO.trans (decide_eq_true h)) HQ
  .next h1 h2 h=>exact aa (Prod.ext ((if_pos h1).trans (if_pos h2)) rfl) (bn.done I hb) (bS.fO.trans (decide_eq_false h)) HQ
  .next h1 h2=>exact aa (Prod.ext ((if_pos h1).trans (if_neg h2)) rfl) (.b I hb h2) rfl HQ
  .next h=>exact aa (Prod.ext (if_neg h) rfl) (bn.i6 ⟨am,am⟩ hk hT) rfl HQ
 |@e l k qp qs qk pred known cur w T h hc hi hw=>
  have I:=h;obtain⟨hk,hl,hp,hn,hT⟩:=h;have Aw:=hT.1;have uO:=fN (n:=t.l.a.f.size) (w:=cur) am;have R7:0<=idx t.l.a.f.size cur:=by unfold Tw.ix Tw.size at hi;omega
  have I2:rX t k l (t.ix cur) cur T:=⟨hk,hl,uO,hc,hT⟩;refine Vx.fm H Ke ?_;(repeat' first|constructor|exact ZQ|intro _);all_goals apply zL
  .next h1 h2 h=>exact aa (Prod.ext ((if_pos h1).trans (if_pos h2)) rfl) (bn.done I2 hw) (bS.fO.trans (decide_eq_true h)) HQ
  .next h1 h2 h=>exact aa (Prod.ext ((if_pos h1).trans (if_pos h2)) rfl) (bn.done I2 hw) (bS.fO.trans (decide_eq_false h)) HQ
  .next h1 h2=>exact aa (Prod.ext ((if_pos h1).trans (if_neg h2)) rfl) (.b I2 hw h2) rfl HQ
  .next h1 h=>exact aa (Prod.ext (if_neg h1) rfl) (bn.done I hc) (bS.fO.trans (decide_eq_true h)) HQ
  .next h1 h=>exact aa (Prod.ext (if_neg h1) rfl) (bn.done I hc) (bS.fO.trans (decide_eq_false h)) HQ
 |d=>cases ho
end
section
variable{nd hd ht c3 c4 n c6 c7 c8 c9 dP dp dM key ln lv pred known cur w r er:Int}{q qp qs qk k:Nat}{R0:List Own}{T:gr}
instance Tr:NC EM (zF 461) [.agg [I nd,I hd,I ht,I c3,I c4,I n,I c6,I c7,I c8,I c9,I dP,I dp,I dM],U key] ((0<=nd/\nd<4096)/\(0<=hd/\hd<4096)/\(1<=ht/\ht<=4)/\1<=n/\n<=128)
  (λp l=>bn ⟨nd,hd,ht,⟨⟨⟨c3,c4,n⟩,c6,c7,c8⟩,⟨c9,dP,dp⟩,dM⟩⟩ key p 0 (.new ⟨nd,hd,ht,⟨⟨⟨c3,c4,n⟩,c6,c7,c8⟩,⟨c9,dP,dp⟩,dM⟩⟩) l):=.of rfl rfl λh ro R=>by
 have hT:=gr.Hu (t:=⟨nd,hd,ht,⟨⟨⟨c3,c4,n⟩,c6,c7,c8⟩,⟨c9,dP,dp⟩,dM⟩⟩) h.2.2.1.1 h.2.2.2.1;have:ht=1\/ht=2\/ht=3\/ht=4:=am;rcases this with rfl|rfl|rfl|rfl
 .show Zx EM false (Tryz.a461 _) _ _ _ _;refine z1 ?_;intros;exact⟨rfl,rfl,(_::_::_::_::R),⟨_,_,bn.i6 (k:=1) ⟨h.2.2.1.1,h.2.2.2.1⟩ rfl hT,rfl,rfl⟩,HQ⟩
 .show Zx EM false (Tryz.a461 _) _ _ _ _;refine z1 ?_;intros;exact⟨rfl,rfl,(_::_::_::_::R),⟨_,_,bn.i6 (k:=2) ⟨h.2.2.1.1,h.2.2.2.1⟩ rfl hT,rfl,rfl⟩,HQ⟩
 .show Zx EM false (Tryz.a461 _) _ _ _ _;refine z1 ?_;intros;exact⟨rfl,rfl,(_::_::_::_::R),⟨_,_,bn.i6 (k:=3) ⟨h.2.2.1.1,h.2.2.2.1⟩ rfl hT,rfl,rfl⟩,HQ⟩
 .show Zx EM false (Tryz.a461 _) _ _ _ _;refine z1 ?_;intros;exact⟨rfl,rfl,(_::_::_::_::R),⟨_,_,bn.i6 (k:=4) ⟨h.2.2.1.1,h.2.2.2.1⟩ rfl hT,rfl,rfl⟩,HQ⟩
instance z99:cH 48 where
instance aby:cH 109 where
instance NN:NS EM (zF 582) [.ptr q 0] (.obj q (.row [I nd,I hd,I ht,I c3,I c4,I n,I c6,I c7,I c8,I c9,I dP,I dp,I dM,U key,I 9,I lv,I pred,U known,U cur,U w,.sl qp 0 k k,.sl qs 0 k k,.sl qk 0 k k,U r,I 0])::.obj qp (.row (tP T))::.obj qs (.row (tS T))::.obj qk (.row (tK T))::R0) ((1<=k/\k<=4)/\T.length=k) (T.map λs=>[U s.known]):=.of rfl rfl λ⟨hk,hT⟩ ro R=>by
 have:k=1\/k=2\/k=3\/k=4:=am;rcases this with rfl|rfl|rfl|rfl
 .obtain⟨a,rfl⟩:=tg hT
  (show Zx EM false (Tryz.a582 _) _ _ _ _;haveI:dH:=⟨⟩;refine z1 ?_;intros;all_goals first|exact⟨rfl,rfl,_,rfl,HQ⟩|(refine⟨?_,?_⟩<;>(simp;done)))
 .obtain⟨a,b,rfl⟩:=tj hT
  (show Zx EM false (Tryz.a582 _) _ _ _ _;haveI:dH:=⟨⟩;refine z1 ?_;intros;all_goals first|exact⟨rfl,rfl,_,rfl,HQ⟩|(refine⟨?_,?_⟩<;>(simp;done)))
 .obtain⟨a,b,c,rfl⟩:=tn hT
  (show Zx EM false (Tryz.a582 _) _ _ _ _;haveI:dH:=⟨⟩;refine z1 ?_;intros;all_goals first|exact⟨rfl,rfl,_,rfl,HQ⟩|(refine⟨?_,?_⟩<;>(simp;done)))
 .obtain⟨a,b,c,d,rfl⟩:=tp hT
  (show Zx EM false (Tryz.a582 _) _ _ _ _;haveI:dH:=⟨⟩;refine z1 ?_;intros;all_goals first|exact⟨rfl,rfl,_,rfl,HQ⟩|(refine⟨?_,?_⟩<;>(simp;done)))
instance NO:NS EM (zF 583) [.ptr q 0] (.obj q (.row [I nd,I hd,I ht,I c3,I c4,I n,I c6,I c7,I c8,I c9,I dP,I dp,I dM,U key,I 9,I lv,I pred,U known,U cur,U w,.sl qp 0 k k,.sl qs 0 k k,.sl qk 0 k k,U r,I 0])::.obj qp (.row (tP T))::.obj qs (.row (tS T))::.obj qk (.row (tK T))::R0) ((1<=k/\k<=4)/\T.length=k) (T.map λs=>[I s.pred]):=.of rfl rfl λ⟨hk,hT⟩ ro R=>by
 have:k=1\/k=2\/k=3\/k=4:=am;rcases this with rfl|rfl|rfl|rfl
 .obtain⟨a,rfl⟩:=tg hT
  (show Zx EM false (Tryz.a583 _) _ _ _ _;haveI:dH:=⟨⟩;refine z1 ?_;intros;all_goals first|exact⟨rfl,rfl,_,rfl,HQ⟩|(refine⟨?_,?_⟩<;>(simp;done)))
 .obtain⟨a,b,rfl⟩:=tj hT
  (show Zx EM false (Tryz.a583 _) _ _ _ _;haveI:dH:=⟨⟩;refine z1 ?_;intros;all_goals first|exact⟨rfl,rfl,_,rfl,HQ⟩|(refine⟨?_,?_⟩<;>(simp;done)))
 .obtain⟨a,b,c,rfl⟩:=tn hT
  (show Zx EM false (Tryz.a583 _) _ _ _ _;haveI:dH:=⟨⟩;refine z1 ?_;intros;all_goals first|exact⟨rfl,rfl,_,rfl,HQ⟩|(refine⟨?_,?_⟩<;>(simp;done)))
 .obtain⟨a,b,c,d,rfl⟩:=tp hT
  (show Zx EM false (Tryz.a583 _) _ _ _ _;haveI:dH:=⟨⟩;refine z1 ?_;intros;all_goals first|exact⟨rfl,rfl,_,rfl,HQ⟩|(refine⟨?_,?_⟩<;>(simp;done)))
instance NP:NS EM (zF 538) [.ptr q 0] (.obj q (.row [I nd,I hd,I ht,I c3,I c4,I n,I c6,I c7,I c8,I c9,I dP,I dp,I dM,U key,I 9,I lv,I pred,U known,U cur,U w,.sl qp 0 k k,.sl qs 0 k k,.sl qk 0 k k,U r,I 0])::.obj qp (.row (tP T))::.obj qs (.row (tS T))::.obj qk (.row (tK T))::R0) ((1<=k/\k<=4)/\T.length=k) (T.map λs=>[U s.cur]):=.of rfl rfl λ⟨hk,hT⟩ ro R=>by
 have:k=1\/k=2\/k=3\/k=4:=am;rcases this with rfl|rfl|rfl|rfl
 .obtain⟨a,rfl⟩:=tg hT
  (show Zx EM false (Tryz.a538 _) _ _ _ _;haveI:dH:=⟨⟩;refine z1 ?_;intros;all_goals first|exact⟨rfl,rfl,_,rfl,HQ⟩|(refine⟨?_,?_⟩<;>(simp;done)))
 .obtain⟨a,b,rfl⟩:=tj hT
  (show Zx EM false (Tryz.a538 _) _ _ _ _;haveI:dH:=⟨⟩;refine z1 ?_;intros;all_goals first|exact⟨rfl,rfl,_,rfl,HQ⟩|(refine⟨?_,?_⟩<;>(simp;done)))
 .obtain⟨a,b,c,rfl⟩:=tn hT
  (show Zx EM false (Tryz.a538 _) _ _ _ _;haveI:dH:=⟨⟩;refine z1 ?_;intros;all_goals first|exact⟨rfl,rfl,_,rfl,HQ⟩|(refine⟨?_,?_⟩<;>(simp;done)))
 .obtain⟨a,b,c,d,rfl⟩:=tp hT
  (show Zx EM false (Tryz.a538 _) _ _ _ _;haveI:dH:=⟨⟩;refine z1 ?_;intros;all_goals first|exact⟨rfl,rfl,_,rfl,HQ⟩|(refine⟨?_,?_⟩<;>(simp;done)))
end
theorem bn.row {t}{key b:Int}{q:Nat}{σ l}(h:bn t key q b σ l):∃(ln lv pred known cur w:Int) (qp qs qk k:Nat) (T:gr),l=.obj q (.row (t.pW key ln lv pred known cur w qp qs qk k b 0))::Ck qp qs qk T:=by
 cases h<;>exact⟨_,_,_,_,_,_,_,_,_,_,_,rfl⟩
end Go.cO
