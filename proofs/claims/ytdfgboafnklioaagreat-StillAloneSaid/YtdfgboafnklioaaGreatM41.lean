/- Contracts of functions, over the abstract machine. Conditions: stated in each theorem. -/
import Derived.Test.YtdfgboafnklioaaGreatM40
import Derived.Test.YtdfgboafnklioaaGreatM10
set_option linter.all false
set_option maxRecDepth 100000
set_option maxHeartbeats 4000000
namespace Go.cY
open Go.Proofs
section
instance z84:cF 176 where
instance z85:cF 196 where
inductive oS (a e n:Int)(q:Nat):iF→List Own→Prop
 |a {w:Int}:oS a e n q .a [.obj q (.row [I a,U e,U n,I 1,U w,I 0])]
 |b {w:Int}(hw:Me.ar w):oS a e n q (.b w) [.obj q (.row [I a,U e,U n,I 2,U w,I 0])]
 |d {w er:Int}:oS a e n q (.d er) [.obj q (.row [I a,U e,U n,I 9,U w,I er])]
instance z86 {n:Nat}[Mn n [443,445,195,321,335,323,332,313,315,197,320,333,210]]:cF n where
instance VJ {w:Int}:VC EM (zF 441) [U w] (Me.ar w) (.agg [I (w%256),I (w/256%256),I (w/4294967296)]):=.of rfl rfl fun h=>by
 show Zx EM false (Tryz.a441 _) _ _ _ _
 have h':=h
 unfold Me.ar at h'
 (repeat' first|constructor|exact ZQ|intro _)
 all_goals apply zL
 all_goals first|exact⟨h'.1,by omega⟩|skip
instance VK {s c g:Int}:VC EM (zF 167) [I s,I c,I g] ((0≤s∧s<256)∧(0≤c∧c<256)∧0≤g∧g<4294967296) (U (jw s c g)):=.of rfl rfl fun⟨h1,h2,h3⟩=>by
 show Zx EM false (Tryz.a167 _) _ _ _ _
 have e1:s%18446744073709551616=s:=by omega
 have e2:c%18446744073709551616*2^8%18446744073709551616=c*256:=by simp only[Int.reducePow];omega
 have e3:g%18446744073709551616*2^32%18446744073709551616=g*4294967296:=by simp only[Int.reducePow];omega
 have e4:=kh (a:=c) (b:=s) (i:=8) h2.1 h1.1 (by simpa using h1.2)
 simp only[Int.reducePow] at e4
 (repeat' first|constructor|exact ZQ|intro _)
 all_goals apply zL
 all_goals(try rw[e1,e2] at*)
 all_goals(try rw[e3] at*)
 all_goals first|omega|skip
 rw[Xb h1 h2 h3];exact⟨rfl,rfl⟩
def Jb.cH (j:Jb)(ln i w:Int)(pp ps fr:AV)(to c:Int)(gv:Bool)(er:Int):List AV:=[I j.bx,I j.keys,I j.f.top,I j.f.fJ,I j.f.size,I ln,I i,U w,pp,ps,fr,I to,I c,B gv,I er]
inductive lT (j:Jb)(q:Nat):dI→List Own→Prop
 |p {i w:Int}{qp:Nat}{σ l}(h:p8 j.f qp σ l)(ho:σ.over=false):lT j q (.p σ) (.obj q (.row (j.cH 0 i w (.ptr qp 0) Np Ns 2 0 false 0))::l)
 |l {i w:Int}{pp}(hi:0≤i∧i<j.f.size):lT j q (.l i) [.obj q (.row (j.cH 1 i w pp Np Ns 2 0 false 0))]
 |s {i w:Int}{pp}(hi:0≤i∧i<j.f.size)(hw:Me.ar w):lT j q (.s i w) [.obj q (.row (j.cH 2 i w pp Np Ns 2 0 false 0))]
 |d {i w:Int}{pp}(hi:0≤i∧i<j.f.size):lT j q (.d i 0) [.obj q (.row (j.cH 9 i w pp Np Ns 2 0 false 0))]
 |n {i w:Int}{pp}:lT j q (.d 0 7) [.obj q (.row (j.cH 9 i w pp Np Ns 2 0 false 7))]
inductive lU (j:Jb)(i:Int)(q:Nat):dm→List Own→Prop
 |l {w:Int}{pf:Nat}(hi:0≤i∧i<j.f.size):lU j i q .l [.obj q (.row (j.cH 1 i w Np Np (.sl pf 0 2 2) 1 0 true 0)),.obj pf (.row [I 5,I 2])]
 |s {w:Int}{pf:Nat}(hi:0≤i∧i<j.f.size)(hw:Me.ar w):lU j i q (.s w) [.obj q (.row (j.cH 2 i w Np Np (.sl pf 0 2 2) 1 0 true 0)),.obj pf (.row [I 5,I 2])]
 |p {w:Int}{qp pf:Nat}{σ l}(hi:0≤i∧i<j.f.size)(h:iD j.f i qp σ l)(ho:σ.over=false):lU j i q (.p σ) (.obj q (.row (j.cH 3 i w Np (.ptr qp 0) (.sl pf 0 2 2) 1 0 true 0))::.obj pf (.row [I 5,I 2])::l)
 |d {w er:Int}{ps}{pf:Nat}:lU j i q (.d er) [.obj q (.row (j.cH 9 i w Np ps (.sl pf 0 2 2) 1 0 true er)),.obj pf (.row [I 5,I 2])]
inductive iE (j:Jb)(i fr to c:Int)(q:Nat):bE→List Own→Prop
 |l {w:Int}{pf:Nat}(hi:0≤i∧i<j.f.size):iE j i fr to c q .l [.obj q (.row (j.cH 1 i w Np Np (.sl pf 0 1 1) to c false 0)),.obj pf (.row [I fr])]
 |s {w:Int}{pf:Nat}(hi:0≤i∧i<j.f.size)(hw:Me.ar w):iE j i fr to c q (.s w) [.obj q (.row (j.cH 2 i w Np Np (.sl pf 0 1 1) to c false 0)),.obj pf (.row [I fr])]
 |d {w er:Int}{pf:Nat}:iE j i fr to c q (.d er) [.obj q (.row (j.cH 9 i w Np Np (.sl pf 0 1 1) to c false er)),.obj pf (.row [I fr])]
inductive rH (j:Jb)(i k:Int)(q:Nat):bO→List Own→Prop
 |a (hi:0≤i∧i<j.f.size):rH j i k q .a [.obj q (.row [I (j.keys+i),B false,U k,I 1,I 0])]
 |d {v er:Int}:rH j i k q (.d v er) [.obj q (.row [I (j.keys+i),B false,U k,I 9,I er])]
inductive jS (j:Jb)(i:Int)(q:Nat):bO→List Own→Prop
 |a {w:Int}(hi:0≤i∧i<j.f.size):jS j i q .a [.obj q (.row [I (j.keys+i),B true,U w,I 1,I 0])]
 |d {w:Int}(hw:Me.ar w):jS j i q (.d w 0) [.obj q (.row [I (j.keys+i),B true,U w,I 9,I 0])]
section
variable{B0 S:AH}{W:List Nat}{own R lo:List Own}{ro:List aQ}{m q:Nat}{vm:AV}{x:Me}{j:Jb}{a e n i k fr to c:Int}
theorem Dj {σ}(hs:(0≤e∧e≤1099511627776)∧0≤n∧n≤1099511627776)(hx:x.gd)(h:oS a e n q σ lo)(H:Cx B0 W S (lo++(aj m vm x++R)) ro):
  aO EM (zF 194) [.ptr q 0,.ptr m 0] S fun u S'=>∃ab,eD (oS a e n q) iF.over (σ.step a e n x) (aj m vm) R u ab∧Cx B0 W S' ab ro:=by
 cases h with
 |a=>
  have hb:=Me.ai hx a
  unfold Me.ar at hb
  refine Vx.fm H bC (b:=Tryz.a194) ?_;(repeat' first|constructor|exact ZQ|intro _);all_goals apply zL
  all_goals first
   |(exact aa (Prod.ext (if_neg (fun(q:xo (x.word a) n e)=>by have:=q.1;have:=q.2;omega)) rfl) (.b hb) rfl HQ)
   |(exact aa (Prod.ext (if_pos (show xo (x.word a) n e from⟨by omega,by omega⟩)) rfl) .d rfl HQ)
   |skip
 |@b w hw=>
  have e1:(n+1)%18446744073709551616=n+1:=by omega
  refine Vx.fm H bC (b:=Tryz.a194) ?_;(repeat' first|constructor|exact ZQ|intro _);all_goals apply zL
  all_goals(try rw[e1] at*)
  ·next h=>exact aa (Prod.ext (if_pos h) rfl) .d rfl HQ
  ·next h=>exact aa (Prod.ext (if_neg h) rfl) .a rfl HQ
 |d=>
  refine Vx.fm H bC (b:=Tryz.a194) ?_;(repeat' first|constructor|exact ZQ|intro _);all_goals apply zL
  exact aa rfl .d rfl HQ
theorem uc {σ}(hs:j.ok)(hx:x.gd)(h:rH j i k q σ lo)(H:Cx B0 W S (lo++(aj m vm x++R)) ro):
  aO EM (zF 202) [.ptr q 0,.ptr m 0] S fun u S'=>∃ab,eD (rH j i k q) bO.over (σ.step j i k x) (aj m vm) R u ab∧Cx B0 W S' ab ro:=by
 have bn:=hs
 unfold Jb.ok Sk.ok at bn
 cases h with
 |a hi=>
  refine Vx.fm H bC (b:=Tryz.a202) ?_;(repeat' first|constructor|exact ZQ|intro _);all_goals apply zL
  exact aa rfl .d rfl HQ
 |d=>
  refine Vx.fm H bC (b:=Tryz.a202) ?_;(repeat' first|constructor|exact ZQ|intro _);all_goals apply zL
  exact aa rfl .d rfl HQ
theorem oT {σ}(hs:j.ok)(hx:x.gd)(h:jS j i q σ lo)(H:Cx B0 W S (lo++(aj m vm x++R)) ro):
  aO EM (zF 202) [.ptr q 0,.ptr m 0] S fun u S'=>∃ab,eD (jS j i q) bO.over (σ.stepOf j i x) (aj m vm) R u ab∧Cx B0 W S' ab ro:=by
 have bn:=hs
 unfold Jb.ok Sk.ok at bn
 cases h with
 |a hi=>
  refine Vx.fm H bC (b:=Tryz.a202) ?_;(repeat' first|constructor|exact ZQ|intro _);all_goals apply zL
  exact aa rfl (.d (Me.ai hx _)) rfl HQ
 |d hw=>
  refine Vx.fm H bC (b:=Tryz.a202) ?_;(repeat' first|constructor|exact ZQ|intro _);all_goals apply zL
  exact aa rfl (.d hw) rfl HQ
theorem iX {σ}(hs:j.ok)(hf:0≤fr∧fr<6)(ht:0≤to∧to<6)(hc:0≤c∧c<64)(hx:x.gd)(h:iE j i fr to c q σ lo)(H:Cx B0 W S (lo++(aj m vm x++R)) ro):
  aO EM (zF 192) [.ptr q 0,.ptr m 0] S fun u S'=>∃ab,eD (iE j i fr to c q) bE.over (σ.step j i fr to c x) (aj m vm) R u ab∧Cx B0 W S' ab ro:=by
 have bn:=hs
 unfold Jb.ok Sk.ok at bn
 haveI:aS:=⟨⟩
 cases h with
 |l hi=>
  have hb:=Me.ai hx (j.bx+i)
  refine Vx.fm H bC (b:=Tryz.a192) ?_;(repeat' first|constructor|exact ZQ|intro _);all_goals apply zL
  all_goals first
   |(exact aa (Prod.ext (if_neg (by omega)) rfl) .d rfl HQ)
   |(exact aa (Prod.ext (if_pos (by omega)) rfl) (.s hi hb) rfl HQ)
   |skip
 |@s w pf hi hw=>
  have e2:(bE.s w).step j i fr to c x=(if x.eq (j.bx+i) w then .d 0 else .l,x.eh (j.bx+i) w (jw to (if to=4 then c else 0) (w/4294967296))):=rfl
  have cV:=hw
  unfold Me.ar at cV
  refine Vx.fm H bC (b:=Tryz.a192) ?_;(repeat' first|constructor|exact ZQ|intro _);all_goals apply zL
  all_goals rw[e2]
  all_goals first
   |(next h4 h=>rw[if_pos h4,if_pos h];exact aa rfl .d rfl HQ)
   |(next h4 h=>rw[if_pos h4,if_neg h];exact aa rfl (.l hi) rfl HQ)
   |(next h4 h=>rw[if_neg h4,if_pos h];exact aa rfl .d rfl HQ)
   |(next h4 h=>rw[if_neg h4,if_neg h];exact aa rfl (.l hi) rfl HQ)
   |(next h=>rw[if_neg (show¬to=4 by omega),if_pos h];exact aa rfl .d rfl HQ)
   |(next h=>rw[if_neg (show¬to=4 by omega),if_neg h];exact aa rfl (.l hi) rfl HQ)
   |skip
 |d=>
  refine Vx.fm H bC (b:=Tryz.a192) ?_;(repeat' first|constructor|exact ZQ|intro _);all_goals apply zL
  exact aa rfl .d rfl HQ
theorem wx {σ}(hs:j.ok)(hx:x.gd)(h:lU j i q σ lo)(H:Cx B0 W S (lo++(aj m vm x++R)) ro):
  aO EM (zF 192) [.ptr q 0,.ptr m 0] S fun u S'=>∃ab,eD (lU j i q) dm.over (σ.step j i x) (aj m vm) R u ab∧Cx B0 W S' ab ro:=by
 have bn:=hs
 unfold Jb.ok Sk.ok at bn
 haveI:aS:=⟨⟩
 cases h with
 |l hi=>
  have hb:=Me.ai hx (j.bx+i)
  refine Vx.fm H bC (b:=Tryz.a192) ?_;(repeat' first|constructor|exact ZQ|intro _);all_goals apply zL
  all_goals first
   |(exact aa (Prod.ext (if_neg (by omega)) rfl) .d rfl HQ)
   |(exact aa (Prod.ext (if_pos (by omega)) rfl) (.s hi hb) rfl HQ)
   |skip
 |@s w pf hi hw=>
  have cV:=hw
  unfold Me.ar at cV
  refine Vx.fm H bC (b:=Tryz.a192) ?_;(repeat' first|constructor|exact ZQ|intro _);all_goals apply zL
  ·have h:x.eq (j.bx+i) w:=by assumption
   exact aa (Prod.ext (if_pos h) rfl) (.p hi (.a hi) rfl) rfl HQ
  ·next h=>exact aa (Prod.ext (if_neg h) rfl) (.l hi) rfl HQ
 |@p w qp pf σ l hi h ho=>
  refine Vx.fm H bC (b:=Tryz.a192) ?_;(repeat' first|constructor|exact ZQ|intro _);all_goals apply zL
  refine Vx.fz (A:=[_,_]) (fun B W S H=>qM hs.1 hx h H) fun a' x' l' e hl=>?_
  have e2:(dm.p σ).step j i x=(if a'.over then .d 0 else .p a',x'):=by
   show(_,_)=_
   rw[e]
  cases ho:a'.over
  ·(repeat' first|constructor|exact ZQ|intro _)
   all_goals apply zL
   have e3:(dm.p σ).step j i x=(.p a',x'):=e2.trans (Prod.ext (if_neg (by rw[ho];simp)) rfl)
   exact aa e3 (.p hi hl ho) rfl HQ
  ·(repeat' first|constructor|exact ZQ|intro _)
   all_goals apply zL
   exact aa (e2.trans (Prod.ext (if_pos ho) rfl)) .d rfl HQ
 |d=>
  refine Vx.fm H bC (b:=Tryz.a192) ?_;(repeat' first|constructor|exact ZQ|intro _);all_goals apply zL
  exact aa rfl .d rfl HQ
theorem Dk {σ}(hs:j.ok)(hx:x.gd)(h:lT j q σ lo)(H:Cx B0 W S (lo++(aj m vm x++R)) ro):
  aO EM (zF 192) [.ptr q 0,.ptr m 0] S fun u S'=>∃ab,eD (lT j q) dI.over (σ.step j x) (aj m vm) R u ab∧Cx B0 W S' ab ro:=by
 have bn:=hs
 unfold Jb.ok Sk.ok at bn
 haveI:aS:=⟨⟩
 cases h with
 |@p i w qp σ l h ho=>
  refine Vx.fm H bC (b:=Tryz.a192) ?_;(repeat' first|constructor|exact ZQ|intro _);all_goals apply zL
  refine Vx.fz (A:=[_]) (fun B W S H=>zp hs.1 hx h H) fun a' x' l' e hl=>?_
  have e2:(dI.p σ).step j x=(dI.jL a',x'):=by
   show(dI.jL _,_)=_
   rw[e]
  cases ho:a'.over
  ·(repeat' first|constructor|exact ZQ|intro _)
   all_goals apply zL
   have e3:(dI.p σ).step j x=(.p a',x'):=e2.trans (Prod.ext (by cases hl<;>first|rfl|cases ho) rfl)
   exact aa e3 (.p hl ho) rfl HQ
  ·cases hl with
   |a=>cases ho
   |b=>cases ho
   |c=>cases ho
   |d hi=>
    (repeat' first|constructor|exact ZQ|intro _)
    all_goals apply zL
    ·exact aa (e2.trans (Prod.ext (if_pos (by assumption)) rfl)) .n rfl HQ
    ·exact aa (e2.trans (Prod.ext (if_neg (by assumption)) rfl)) (.l (by omega)) rfl HQ
 |@l i w pp hi=>
  have hb:=Me.ai hx (j.bx+i)
  refine Vx.fm H bC (b:=Tryz.a192) ?_;(repeat' first|constructor|exact ZQ|intro _);all_goals apply zL
  exact aa rfl (.s hi hb) rfl HQ
 |@s i w pp hi hw=>
  have cV:=hw
  unfold Me.ar at cV
  refine Vx.fm H bC (b:=Tryz.a192) ?_;(repeat' first|constructor|exact ZQ|intro _);all_goals apply zL
  ·next h=>exact aa (Prod.ext (if_pos h) rfl) (.d hi) rfl HQ
  ·next h=>exact aa (Prod.ext (if_neg h) rfl) (.l hi) rfl HQ
 |d hi=>
  refine Vx.fm H bC (b:=Tryz.a192) ?_;(repeat' first|constructor|exact ZQ|intro _);all_goals apply zL
  exact aa rfl (.d hi) rfl HQ
 |n=>
  refine Vx.fm H bC (b:=Tryz.a192) ?_;(repeat' first|constructor|exact ZQ|intro _);all_goals apply zL
  exact aa rfl .n rfl HQ
end
end
section
instance z87:cF 458 where
section
variable{nd hd ht c3 c4 n c6 c7 c8 c9 dz cT dx i k l g aq high w:Int}
instance Qs:VC EM (zF 63) [.agg [I nd,I hd,I ht,I c3,I c4,I n,I c6,I c7,I c8,I c9,I dz,I cT,I dx]] ((0≤nd∧nd<4096)∧(0≤hd∧hd<4096)∧(1≤ht∧ht≤4)∧1≤n∧n≤128) (B true):=.of rfl rfl fun h=>by
 show Zx EM false (Tryz.a63 _) _ _ _ _
 (repeat' first|constructor|exact ZQ|intro _)
 all_goals apply zL
instance Sn:VC EM (zF 576) [.agg [I nd,I hd,I ht,I c3,I c4,I n,I c6,I c7,I c8,I c9,I dz,I cT,I dx],I i,I l] (((0≤nd∧nd<4096)∧(0≤hd∧hd<4096)∧(1≤ht∧ht≤4)∧1≤n∧n≤128)∧(-1≤i∧i<n)∧0≤l∧l<ht) (I (AK nd hd ht i l)):=.of rfl rfl fun⟨h,hi,hk⟩=>by
 by_cases h0:i=-1
 ·subst h0
  show Zx EM false (Tryz.a576 _) _ _ _ _
  (repeat' first|constructor|exact ZQ|intro _)
  all_goals apply zL
  have e:hd+(4+l)-4=hd+l:=by omega
  exact⟨rfl,by rw[e];unfold AK;rw[if_pos rfl];rfl⟩
 ·have e:AK nd hd ht i l=oX nd ht i (4+l):=if_neg h0
  rw[e]
  show Zx EM false (Tryz.a576 _) _ _ _ _
  have h1:0≤i*(4+ht):=Int.mul_nonneg (by omega) (by omega)
  have h2:i*(4+ht)≤128*8:=Int.mul_le_mul (by omega) (by omega) (by omega) (by omega)
  (repeat' first|constructor|exact ZQ|intro _)
  all_goals apply zL
instance VM:VC EM (zF 458) [.agg [I nd,I hd,I ht,I c3,I c4,I n,I c6,I c7,I c8,I c9,I dz,I cT,I dx],I i,I k] (((0≤nd∧nd<4096)∧(0≤hd∧hd<4096)∧(1≤ht∧ht≤4)∧1≤n∧n≤128)∧(0≤i∧i<n)∧0≤k∧k<4+ht) (I (oX nd ht i k)):=.of rfl rfl fun⟨h,hi,hk⟩=>by
 show Zx EM false (Tryz.a458 _) _ _ _ _
 have h1:0≤i*(4+ht):=Int.mul_nonneg hi.1 (by omega)
 have h2:i*(4+ht)≤128*8:=Int.mul_le_mul (by omega) (by omega) (by omega) (by omega)
 (repeat' first|constructor|exact ZQ|intro _)
 all_goals apply zL
instance Qt:VC EM (zF 460) [.agg [I nd,I hd,I ht,I c3,I c4,I n,I c6,I c7,I c8,I c9,I dz,I cT,I dx],U w] (Me.ar w∧0≤n) (I (idx n w)):=.of rfl rfl fun⟨hw,hn⟩=>by
 show Zx EM false (Tryz.a460 _) _ _ _ _
 (repeat' first|constructor|exact ZQ|intro _)
 all_goals apply zL
instance Lv:VC EM (zF 459) [.agg [I nd,I hd,I ht,I c3,I c4,I n,I c6,I c7,I c8,I c9,I dz,I cT,I dx],U (aC i g),I high] (((0≤nd∧nd<4096)∧(0≤hd∧hd<4096)∧(1≤ht∧ht≤4)∧1≤n∧n≤128)∧(cX i g∧i<n)∧1≤high∧high≤ht) (I 0):=.of rfl rfl fun⟨h,hi,hh⟩=>by
 have jq:=hi
 unfold cX at jq
 show Zx EM false (Tryz.a459 _) _ _ _ _
 (repeat' first|constructor|exact ZQ|intro _)
 all_goals apply zL
 all_goals first|exact hi.1|skip
end
def Tw.Im (t:Tw)(ref b key i aq high ln er:Int):List AV:=t.cs++[U ref,U b,U key,I i,I aq,I high,I ln,I er]
inductive nh (t:Tw)(i g key aq high:Int)(q:Nat)(b:Int):lK→List Own→Prop
 |s {k:Nat}(hk:k<4):nh t i g key aq high q b (.s k) [.obj q (.row (t.Im (aC i g) b key i aq high k 0))]
 |d:nh t i g key aq high q b (.d 0) [.obj q (.row (t.Im (aC i g) b key i aq high 9 0))]
section
variable{B0 S:AH}{W:List Nat}{own R lo:List Own}{ro:List aQ}{m q:Nat}{vm:AV}{x:Me}{t:Tw}{i g key aq high b:Int}
theorem Gx {σ}(hs:t.ok)(hr:t.rf i g)(hj:0≤aq∧aq≤65534∧0≤high∧high≤4)(hx:x.gd)(h:nh t i g key aq high q b σ lo)(H:Cx B0 W S (lo++(aj m vm x++R)) ro):
  aO EM (zF 343) [.ptr q 0,.ptr m 0] S fun u S'=>∃ab,eD (nh t i g key aq high q (aC i g)) lK.over (σ.step t (aC i g) key aq high x) (aj m vm) R u ab∧Cx B0 W S' ab ro:=by
 have bn:=hs
 unfold Tw.ok Lb.ok Ar.ok Sk.ok Ep.ok at bn
 have ox:=hr
 unfold Tw.rf cX at ox
 have kZ:=Tw.wc hr
 have e1:aq%18446744073709551616=aq:=by omega
 have e2:high%18446744073709551616=high:=by omega
 cases h with
 |@s k hk=>
  match k,hk with
  |0,_=>
   have e:(lK.s 0).step t (aC i g) key aq high x=(.s 1,x.st (t.pt i 0) key):=by
    show(_,x.st (t.pt (t.ix _) 0) key)=_;rw[kZ]
   refine Vx.fm H bC (b:=Tryz.a343) ?_;(repeat' first|constructor|exact ZQ|intro _);all_goals apply zL
   all_goals first|(exfalso;omega)|exact aa e (.s (by omega)) rfl HQ
  |1,_=>
   have e:(lK.s 1).step t (aC i g) key aq high x=(.s 2,x.st (t.pt i 1) aq):=by
    show(_,x.st (t.pt (t.ix _) 1) aq)=_;rw[kZ]
   refine Vx.fm H bC (b:=Tryz.a343) ?_;(repeat' first|constructor|exact ZQ|intro _);all_goals apply zL
   all_goals first|(exfalso;omega)|(rw[e1];exact aa e (.s (by omega)) rfl HQ)
  |2,_=>
   have e:(lK.s 2).step t (aC i g) key aq high x=(.s 3,x.st (t.pt i 2) high):=by
    show(_,x.st (t.pt (t.ix _) 2) high)=_;rw[kZ]
   refine Vx.fm H bC (b:=Tryz.a343) ?_;(repeat' first|constructor|exact ZQ|intro _);all_goals apply zL
   all_goals first|(exfalso;omega)|(rw[e2];exact aa e (.s (by omega)) rfl HQ)
  |3,_=>
   have e:(lK.s 3).step t (aC i g) key aq high x=(.d 0,x.st (t.pt i 3) 2):=by
    show(_,x.st (t.pt (t.ix _) 3) 2)=_;rw[kZ]
   refine Vx.fm H bC (b:=Tryz.a343) ?_;(repeat' first|constructor|exact ZQ|intro _);all_goals apply zL
   all_goals first|(exfalso;omega)|exact aa e .d rfl HQ
 |d=>
  refine Vx.fm H bC (b:=Tryz.a343) ?_;(repeat' first|constructor|exact ZQ|intro _);all_goals apply zL
  all_goals first|(exfalso;omega)|exact aa rfl .d rfl HQ
end
instance z88 {n:Nat}[Mn n [344,448,578,523]]:cF n where
def Tw.oU (t:Tw)(key ln lv pred ref cur w:Int)(qp qs qk k:Nat)(r er:Int):List AV:=t.cs++[U key,I ln,I lv,I pred,U ref,U cur,U w,.sl qp 0 k k,.sl qs 0 k k,.sl qk 0 k k,U r,I er]
def tP (T:fL):List AV:=T.map fun s=>I s.pred
def tS (T:fL):List AV:=T.map fun s=>U s.cur
def tK (T:fL):List AV:=T.map fun s=>U s.known
def Gy:Nat→Int|0=>9|_+1=>1
section
variable{nd hd ht c3 c4 n c6 c7 c8 c9 dz cT dx key ln lv pred known cur w r er:Int}{q qp qs qk k:Nat}{R0:List Own}{T:fL}
instance Ny {JF JG JH}:SC EM (zF 535) [.ptr q 0] (.obj q (.row [I nd,I hd,I ht,I c3,I c4,I n,I c6,I c7,I c8,I c9,I dz,I cT,I dx,U key,I ln,I lv,I pred,U known,U cur,U w,JF,JG,JH,U r,I er])::R0) (1≤ht∧ht≤4) uv
  (.obj q (.row [I nd,I hd,I ht,I c3,I c4,I n,I c6,I c7,I c8,I c9,I dz,I cT,I dx,U key,I 1,I (ht-1),I (-1),U 0,U cur,U w,JF,JG,JH,U r,I er])::R0):=.of rfl rfl fun h ro R=>by
 show Zx EM false (Tryz.a535 _) _ _ _ _
 (repeat' first|constructor|exact ZQ|intro _)
 all_goals apply zL
 exact⟨rfl,rfl,_,⟨rfl,rfl⟩,HQ⟩
instance Nz {l:Nat}:SC EM (zF 579) [.ptr q 0] (.obj q (.row [I nd,I hd,I ht,I c3,I c4,I n,I c6,I c7,I c8,I c9,I dz,I cT,I dx,U key,I ln,I l,I pred,U known,U cur,U w,.sl qp 0 k k,.sl qs 0 k k,.sl qk 0 k k,U r,I er])::.obj qp (.row (tP T))::.obj qs (.row (tS T))::.obj qk (.row (tK T))::R0)
  ((1≤k∧k≤4)∧l<k∧T.length=k) uv
  (.obj q (.row [I nd,I hd,I ht,I c3,I c4,I n,I c6,I c7,I c8,I c9,I dz,I cT,I dx,U key,I (Gy l),I ((l:Int)-1),I pred,U known,U cur,U w,.sl qp 0 k k,.sl qs 0 k k,.sl qk 0 k k,U r,I er])::.obj qp (.row (tP (T.set l ⟨pred,known,cur⟩)))::.obj qs (.row (tS (T.set l ⟨pred,known,cur⟩)))::.obj qk (.row (tK (T.set l ⟨pred,known,cur⟩)))::R0):=.of rfl rfl fun⟨hk,hl,hT⟩ ro R=>by
 have:k=1∨k=2∨k=3∨k=4:=by omega
 rcases this with rfl|rfl|rfl|rfl
 ·obtain⟨a,rfl⟩:=rZ hT
  match l,hl with
  |0,_=>(show Zx EM false (Tryz.a579 _) _ _ _ _;(repeat' first|constructor|exact ZQ|intro _);all_goals apply zL;all_goals first|(exfalso;omega)|exact⟨rfl,rfl,_,⟨rfl,rfl⟩,HQ⟩)
 ·obtain⟨a,b,rfl⟩:=r7 hT
  match l,hl with
  |0,_=>(show Zx EM false (Tryz.a579 _) _ _ _ _;(repeat' first|constructor|exact ZQ|intro _);all_goals apply zL;all_goals first|(exfalso;omega)|exact⟨rfl,rfl,_,⟨rfl,rfl⟩,HQ⟩)
  |1,_=>(show Zx EM false (Tryz.a579 _) _ _ _ _;(repeat' first|constructor|exact ZQ|intro _);all_goals apply zL;all_goals first|(exfalso;omega)|exact⟨rfl,rfl,_,⟨rfl,rfl⟩,HQ⟩)
 ·obtain⟨a,b,c,rfl⟩:=r8 hT
  match l,hl with
  |0,_=>(show Zx EM false (Tryz.a579 _) _ _ _ _;(repeat' first|constructor|exact ZQ|intro _);all_goals apply zL;all_goals first|(exfalso;omega)|exact⟨rfl,rfl,_,⟨rfl,rfl⟩,HQ⟩)
  |1,_=>(show Zx EM false (Tryz.a579 _) _ _ _ _;(repeat' first|constructor|exact ZQ|intro _);all_goals apply zL;all_goals first|(exfalso;omega)|exact⟨rfl,rfl,_,⟨rfl,rfl⟩,HQ⟩)
  |2,_=>(show Zx EM false (Tryz.a579 _) _ _ _ _;(repeat' first|constructor|exact ZQ|intro _);all_goals apply zL;all_goals first|(exfalso;omega)|exact⟨rfl,rfl,_,⟨rfl,rfl⟩,HQ⟩)
 ·obtain⟨a,b,c,d,rfl⟩:=r9 hT
  match l,hl with
  |0,_=>(show Zx EM false (Tryz.a579 _) _ _ _ _;(repeat' first|constructor|exact ZQ|intro _);all_goals apply zL;all_goals first|(exfalso;omega)|exact⟨rfl,rfl,_,⟨rfl,rfl⟩,HQ⟩)
  |1,_=>(show Zx EM false (Tryz.a579 _) _ _ _ _;(repeat' first|constructor|exact ZQ|intro _);all_goals apply zL;all_goals first|(exfalso;omega)|exact⟨rfl,rfl,_,⟨rfl,rfl⟩,HQ⟩)
  |2,_=>(show Zx EM false (Tryz.a579 _) _ _ _ _;(repeat' first|constructor|exact ZQ|intro _);all_goals apply zL;all_goals first|(exfalso;omega)|exact⟨rfl,rfl,_,⟨rfl,rfl⟩,HQ⟩)
  |3,_=>(show Zx EM false (Tryz.a579 _) _ _ _ _;(repeat' first|constructor|exact ZQ|intro _);all_goals apply zL;all_goals first|(exfalso;omega)|exact⟨rfl,rfl,_,⟨rfl,rfl⟩,HQ⟩)
end
end
section
structure qN (t:Tw)(k l:Nat)(pred known:Int)(T:fL):Prop where
 hk:(k:Int)=t.ht
 hl:l<k
 hp:-1≤pred∧pred<t.l.a.f.size
 hn:Me.ar known
 hT:T.ok t
def A4 (qp qs qk:Nat)(T:fL):List Own:=[.obj qp (.row (tP T)),.obj qs (.row (tS T)),.obj qk (.row (tK T))]
inductive bj (t:Tw)(key:Int)(q:Nat)(b:Int):bJ→List Own→Prop
 |a {l k qp qs qk:Nat}{pred known cur w:Int}{T}(h:qN t k l pred known T):bj t key q b (.a l pred known T) (.obj q (.row (t.oU key 1 l pred known cur w qp qs qk k b 0))::A4 qp qs qk T)
 |b {l k qp qs qk:Nat}{pred known cur w:Int}{T}(h:qN t k l pred known T)(hc:Me.ar cur)(hi:¬t.ix cur<0):bj t key q b (.b l pred known cur T) (.obj q (.row (t.oU key 2 l pred known cur w qp qs qk k b 0))::A4 qp qs qk T)
 |c {l k qp qs qk:Nat}{pred known cur w:Int}{T}(h:qN t k l pred known T)(hc:Me.ar cur)(hi:¬t.ix cur<0)(hw:Me.ar w)(hm:9223372036854775808≤w):bj t key q b (.c l pred known cur w T) (.obj q (.row (t.oU key 3 l pred known cur w qp qs qk k b 0))::A4 qp qs qk T)
 |e {l k qp qs qk:Nat}{pred known cur w:Int}{T}(h:qN t k l pred known T)(hc:Me.ar cur)(hi:¬t.ix cur<0)(hw:Me.ar w):bj t key q b (.e l pred known cur w T) (.obj q (.row (t.oU key 4 l pred known cur w qp qs qk k b 0))::A4 qp qs qk T)
 |d {k qp qs qk:Nat}{lv pred known cur w:Int}{T}(hk:(k:Int)=t.ht)(hT:T.ok t):bj t key q b (.d T) (.obj q (.row (t.oU key 9 lv pred known cur w qp qs qk k b 0))::A4 qp qs qk T)
theorem bJ.fl {l:Nat}{pred known cur:Int}{T}:(bJ.done l pred known cur T).over=decide (Gy l=9):=by cases l<;>rfl
instance z89:cF 577 where
section
variable{B0 S:AH}{W:List Nat}{own R lo:List Own}{ro:List aQ}{m q k qp qs qk:Nat}{vm:AV}{x:Me}{t:Tw}{key b known pred cur w:Int}{T:fL}{l:Nat}
theorem bj.done (h:qN t k l pred known T)(hc:Me.ar cur):bj t key q b (bJ.done l pred known cur T) (.obj q (.row (t.oU key (Gy l) ((l:Int)-1) pred known cur w qp qs qk k b 0))::A4 qp qs qk (List.set T l ⟨pred,known,cur⟩)):=by
 have ht:=fL.FY h.hT (s:=⟨pred,known,cur⟩) ⟨h.hp,h.hn,hc⟩ l
 cases l with
 |zero=>exact .d h.hk ht
 |succ l=>
  have e:((l+1:Nat):Int)-1=(l:Int):=by omega
  rw[e]
  exact .a ⟨h.hk,by have:=h.hl;omega,h.hp,h.hn,ht⟩
theorem bj.iq (ht:1≤t.ht∧1≤t.l.a.f.size)(hk:(k:Int)=t.ht)(hT:T.ok t):bj t key q b (bJ.iq t T) (.obj q (.row (t.oU key 1 (t.ht-1) (-1) 0 cur w qp qs qk k b 0))::A4 qp qs qk T):=by
 have e:t.ht-1=((t.ht-1).toNat:Int):=by omega
 unfold bJ.iq
 rw[e]
 exact .a ⟨hk,by omega,by omega,by unfold Me.ar;omega,hT⟩
theorem Io {o1 own:List Own}(e:o1=own:=by conv=>lhs;simp only[Tw.oU,A4,Tw.cs,Lb.cs,Ar.cs,Ep.cs,lA,lB,lC]):o1=own:=e
theorem nI {σ:bJ}(hs:t.ok)(hx:x.gd)(ho:σ.over=false)(B6:Me.ar key)(h:bj t key q b σ lo)(H:Cx B0 W S (lo++(aj m vm x++R)) ro):
  aO EM (zF 522) [.ptr q 0,.ptr m 0] S fun u S'=>∃ab,eD (bj t key q σ.cz) bJ.over (σ.step t key x) (aj m vm) R u ab∧Cx B0 W S' ab ro:=by
 have bn:=hs
 unfold Tw.ok Lb.ok Ar.ok Sk.ok Ep.ok at bn
 cases h with
 |@a l k qp qs qk pred known cur w T h=>
  have I:=h
  obtain⟨hk,hl,hp,hn,hT⟩:=h
  have y9:=hT.1
  have hb:=Me.ai hx (t.nx pred l)
  refine Vx.fm H Io (b:=Tryz.a522) ?_;(repeat' first|constructor|exact ZQ|intro _);all_goals apply zL
  ·next h=>exact aa (Prod.ext (if_pos h) rfl) (bj.iq ⟨by omega,by omega⟩ hk hT) rfl HQ
  ·next h1 h2 h=>exact aa (Prod.ext ((if_neg h1).trans (if_pos h2)) rfl) (bj.done I hb) (bJ.fl.trans (decide_eq_true h)) HQ
  ·next h1 h2 h=>exact aa (Prod.ext ((if_neg h1).trans (if_pos h2)) rfl) (bj.done I hb) (bJ.fl.trans (decide_eq_false h)) HQ
  ·next h1 h2=>exact aa (Prod.ext ((if_neg h1).trans (if_neg h2)) rfl) (.b I hb h2) rfl HQ
 |@b l k qp qs qk pred known cur w T h hc hi=>
  have I:=h
  obtain⟨hk,hl,hp,hn,hT⟩:=h
  have y9:=hT.1
  have uX:=fk (n:=t.l.a.f.size) (w:=cur) (by omega)
  have hb:=Me.ai hx (t.nx (t.ix cur) l)
  have Pn:0≤idx t.l.a.f.size cur:=by unfold Tw.ix Tw.size at hi;omega
  refine Vx.fm H Io (b:=Tryz.a522) ?_;(repeat' first|constructor|exact ZQ|intro _);all_goals apply zL
  ·next h=>exact aa (Prod.ext (if_pos h) rfl) (.c I hc hi hb h) rfl HQ
  ·next h=>exact aa (Prod.ext (if_neg h) rfl) (.e I hc hi hb) rfl HQ
 |@c l k qp qs qk pred known cur w T h hc hi hw hm=>
  have I:=h
  obtain⟨hk,hl,hp,hn,hT⟩:=h
  have y9:=hT.1
  have uX:=fk (n:=t.l.a.f.size) (w:=cur) (by omega)
  have Pn:0≤idx t.l.a.f.size cur:=by unfold Tw.ix Tw.size at hi;omega
  have hb:Me.ar (w-9223372036854775808):=by unfold Me.ar at*;omega
  have e1:(w-9223372036854775808)%18446744073709551616=w-9223372036854775808:=by unfold Me.ar at*;omega
  refine Vx.fm H Io (b:=Tryz.a522) ?_;(repeat' first|constructor|exact ZQ|intro _);all_goals apply zL
  all_goals(try rw[e1] at*)
  ·next h1 h2 h=>exact aa (Prod.ext ((if_pos h1).trans (if_pos h2)) rfl) (bj.done I hb) (bJ.fl.trans (decide_eq_true h)) HQ
  ·next h1 h2 h=>exact aa (Prod.ext ((if_pos h1).trans (if_pos h2)) rfl) (bj.done I hb) (bJ.fl.trans (decide_eq_false h)) HQ
  ·next h1 h2=>exact aa (Prod.ext ((if_pos h1).trans (if_neg h2)) rfl) (.b I hb h2) rfl HQ
  ·next h=>exact aa (Prod.ext (if_neg h) rfl) (bj.iq ⟨by omega,by omega⟩ hk hT) rfl HQ
 |@e l k qp qs qk pred known cur w T h hc hi hw=>
  have I:=h
  obtain⟨hk,hl,hp,hn,hT⟩:=h
  have y9:=hT.1
  have uX:=fk (n:=t.l.a.f.size) (w:=cur) (by omega)
  have Pn:0≤idx t.l.a.f.size cur:=by unfold Tw.ix Tw.size at hi;omega
  have I2:qN t k l (t.ix cur) cur T:=⟨hk,hl,uX,hc,hT⟩
  refine Vx.fm H Io (b:=Tryz.a522) ?_;(repeat' first|constructor|exact ZQ|intro _);all_goals apply zL
  ·next h1 h2 h=>exact aa (Prod.ext ((if_pos h1).trans (if_pos h2)) rfl) (bj.done I2 hw) (bJ.fl.trans (decide_eq_true h)) HQ
  ·next h1 h2 h=>exact aa (Prod.ext ((if_pos h1).trans (if_pos h2)) rfl) (bj.done I2 hw) (bJ.fl.trans (decide_eq_false h)) HQ
  ·next h1 h2=>exact aa (Prod.ext ((if_pos h1).trans (if_neg h2)) rfl) (.b I2 hw h2) rfl HQ
  ·next h1 h=>exact aa (Prod.ext (if_neg h1) rfl) (bj.done I hc) (bJ.fl.trans (decide_eq_true h)) HQ
  ·next h1 h=>exact aa (Prod.ext (if_neg h1) rfl) (bj.done I hc) (bJ.fl.trans (decide_eq_false h)) HQ
 |d=>cases ho
end
section
variable{nd hd ht c3 c4 n c6 c7 c8 c9 dz cT dx key ln lv pred known cur w r er:Int}{q qp qs qk k:Nat}{R0:List Own}{T:fL}
instance Qu:NC EM (zF 461) [.agg [I nd,I hd,I ht,I c3,I c4,I n,I c6,I c7,I c8,I c9,I dz,I cT,I dx],U key] ((0≤nd∧nd<4096)∧(0≤hd∧hd<4096)∧(1≤ht∧ht≤4)∧1≤n∧n≤128)
  (fun p l=>bj ⟨nd,hd,ht,⟨⟨⟨c3,c4,n⟩,c6,c7,c8⟩,⟨c9,dz,cT⟩,dx⟩⟩ key p 0 (.new ⟨nd,hd,ht,⟨⟨⟨c3,c4,n⟩,c6,c7,c8⟩,⟨c9,dz,cT⟩,dx⟩⟩) l):=.of rfl rfl fun h ro R=>by
 have hT:=fL.FZ (t:=⟨nd,hd,ht,⟨⟨⟨c3,c4,n⟩,c6,c7,c8⟩,⟨c9,dz,cT⟩,dx⟩⟩) h.2.2.1.1 h.2.2.2.1
 have:ht=1∨ht=2∨ht=3∨ht=4:=by omega
 rcases this with rfl|rfl|rfl|rfl
 ·show Zx EM false (Tryz.a461 _) _ _ _ _
  (repeat' first|constructor|exact ZQ|intro _)
  all_goals apply zL
  exact⟨rfl,rfl,(_::_::_::_::R),⟨_,_,bj.iq (k:=1) ⟨h.2.2.1.1,h.2.2.2.1⟩ rfl hT,rfl,rfl⟩,HQ⟩
 ·show Zx EM false (Tryz.a461 _) _ _ _ _
  (repeat' first|constructor|exact ZQ|intro _)
  all_goals apply zL
  exact⟨rfl,rfl,(_::_::_::_::R),⟨_,_,bj.iq (k:=2) ⟨h.2.2.1.1,h.2.2.2.1⟩ rfl hT,rfl,rfl⟩,HQ⟩
 ·show Zx EM false (Tryz.a461 _) _ _ _ _
  (repeat' first|constructor|exact ZQ|intro _)
  all_goals apply zL
  exact⟨rfl,rfl,(_::_::_::_::R),⟨_,_,bj.iq (k:=3) ⟨h.2.2.1.1,h.2.2.2.1⟩ rfl hT,rfl,rfl⟩,HQ⟩
 ·show Zx EM false (Tryz.a461 _) _ _ _ _
  (repeat' first|constructor|exact ZQ|intro _)
  all_goals apply zL
  exact⟨rfl,rfl,(_::_::_::_::R),⟨_,_,bj.iq (k:=4) ⟨h.2.2.1.1,h.2.2.2.1⟩ rfl hT,rfl,rfl⟩,HQ⟩
instance z90:cF 48 where
instance z91:cF 109 where
instance Lw:NS EM (zF 582) [.ptr q 0] (.obj q (.row [I nd,I hd,I ht,I c3,I c4,I n,I c6,I c7,I c8,I c9,I dz,I cT,I dx,U key,I 9,I lv,I pred,U known,U cur,U w,.sl qp 0 k k,.sl qs 0 k k,.sl qk 0 k k,U r,I 0])::.obj qp (.row (tP T))::.obj qs (.row (tS T))::.obj qk (.row (tK T))::R0) ((1≤k∧k≤4)∧T.length=k) (T.map fun s=>[U s.known]):=.of rfl rfl fun⟨hk,hT⟩ ro R=>by
 have:k=1∨k=2∨k=3∨k=4:=by omega
 rcases this with rfl|rfl|rfl|rfl
 ·obtain⟨a,rfl⟩:=rZ hT
  (show Zx EM false (Tryz.a582 _) _ _ _ _;haveI:di:=⟨⟩;(repeat' first|constructor|exact ZQ|intro _);all_goals apply zL;all_goals first|exact⟨rfl,rfl,_,rfl,HQ⟩|(refine⟨?_,?_⟩<;>(simp;done)))
 ·obtain⟨a,b,rfl⟩:=r7 hT
  (show Zx EM false (Tryz.a582 _) _ _ _ _;haveI:di:=⟨⟩;(repeat' first|constructor|exact ZQ|intro _);all_goals apply zL;all_goals first|exact⟨rfl,rfl,_,rfl,HQ⟩|(refine⟨?_,?_⟩<;>(simp;done)))
 ·obtain⟨a,b,c,rfl⟩:=r8 hT
  (show Zx EM false (Tryz.a582 _) _ _ _ _;haveI:di:=⟨⟩;(repeat' first|constructor|exact ZQ|intro _);all_goals apply zL;all_goals first|exact⟨rfl,rfl,_,rfl,HQ⟩|(refine⟨?_,?_⟩<;>(simp;done)))
 ·obtain⟨a,b,c,d,rfl⟩:=r9 hT
  (show Zx EM false (Tryz.a582 _) _ _ _ _;haveI:di:=⟨⟩;(repeat' first|constructor|exact ZQ|intro _);all_goals apply zL;all_goals first|exact⟨rfl,rfl,_,rfl,HQ⟩|(refine⟨?_,?_⟩<;>(simp;done)))
instance Lx:NS EM (zF 583) [.ptr q 0] (.obj q (.row [I nd,I hd,I ht,I c3,I c4,I n,I c6,I c7,I c8,I c9,I dz,I cT,I dx,U key,I 9,I lv,I pred,U known,U cur,U w,.sl qp 0 k k,.sl qs 0 k k,.sl qk 0 k k,U r,I 0])::.obj qp (.row (tP T))::.obj qs (.row (tS T))::.obj qk (.row (tK T))::R0) ((1≤k∧k≤4)∧T.length=k) (T.map fun s=>[I s.pred]):=.of rfl rfl fun⟨hk,hT⟩ ro R=>by
 have:k=1∨k=2∨k=3∨k=4:=by omega
 rcases this with rfl|rfl|rfl|rfl
 ·obtain⟨a,rfl⟩:=rZ hT
  (show Zx EM false (Tryz.a583 _) _ _ _ _;haveI:di:=⟨⟩;(repeat' first|constructor|exact ZQ|intro _);all_goals apply zL;all_goals first|exact⟨rfl,rfl,_,rfl,HQ⟩|(refine⟨?_,?_⟩<;>(simp;done)))
 ·obtain⟨a,b,rfl⟩:=r7 hT
  (show Zx EM false (Tryz.a583 _) _ _ _ _;haveI:di:=⟨⟩;(repeat' first|constructor|exact ZQ|intro _);all_goals apply zL;all_goals first|exact⟨rfl,rfl,_,rfl,HQ⟩|(refine⟨?_,?_⟩<;>(simp;done)))
 ·obtain⟨a,b,c,rfl⟩:=r8 hT
  (show Zx EM false (Tryz.a583 _) _ _ _ _;haveI:di:=⟨⟩;(repeat' first|constructor|exact ZQ|intro _);all_goals apply zL;all_goals first|exact⟨rfl,rfl,_,rfl,HQ⟩|(refine⟨?_,?_⟩<;>(simp;done)))
 ·obtain⟨a,b,c,d,rfl⟩:=r9 hT
  (show Zx EM false (Tryz.a583 _) _ _ _ _;haveI:di:=⟨⟩;(repeat' first|constructor|exact ZQ|intro _);all_goals apply zL;all_goals first|exact⟨rfl,rfl,_,rfl,HQ⟩|(refine⟨?_,?_⟩<;>(simp;done)))
instance Ly:NS EM (zF 538) [.ptr q 0] (.obj q (.row [I nd,I hd,I ht,I c3,I c4,I n,I c6,I c7,I c8,I c9,I dz,I cT,I dx,U key,I 9,I lv,I pred,U known,U cur,U w,.sl qp 0 k k,.sl qs 0 k k,.sl qk 0 k k,U r,I 0])::.obj qp (.row (tP T))::.obj qs (.row (tS T))::.obj qk (.row (tK T))::R0) ((1≤k∧k≤4)∧T.length=k) (T.map fun s=>[U s.cur]):=.of rfl rfl fun⟨hk,hT⟩ ro R=>by
 have:k=1∨k=2∨k=3∨k=4:=by omega
 rcases this with rfl|rfl|rfl|rfl
 ·obtain⟨a,rfl⟩:=rZ hT
  (show Zx EM false (Tryz.a538 _) _ _ _ _;haveI:di:=⟨⟩;(repeat' first|constructor|exact ZQ|intro _);all_goals apply zL;all_goals first|exact⟨rfl,rfl,_,rfl,HQ⟩|(refine⟨?_,?_⟩<;>(simp;done)))
 ·obtain⟨a,b,rfl⟩:=r7 hT
  (show Zx EM false (Tryz.a538 _) _ _ _ _;haveI:di:=⟨⟩;(repeat' first|constructor|exact ZQ|intro _);all_goals apply zL;all_goals first|exact⟨rfl,rfl,_,rfl,HQ⟩|(refine⟨?_,?_⟩<;>(simp;done)))
 ·obtain⟨a,b,c,rfl⟩:=r8 hT
  (show Zx EM false (Tryz.a538 _) _ _ _ _;haveI:di:=⟨⟩;(repeat' first|constructor|exact ZQ|intro _);all_goals apply zL;all_goals first|exact⟨rfl,rfl,_,rfl,HQ⟩|(refine⟨?_,?_⟩<;>(simp;done)))
 ·obtain⟨a,b,c,d,rfl⟩:=r9 hT
  (show Zx EM false (Tryz.a538 _) _ _ _ _;haveI:di:=⟨⟩;(repeat' first|constructor|exact ZQ|intro _);all_goals apply zL;all_goals first|exact⟨rfl,rfl,_,rfl,HQ⟩|(refine⟨?_,?_⟩<;>(simp;done)))
end
theorem bj.row {t}{key b:Int}{q:Nat}{σ l}(h:bj t key q b σ l):∃(ln lv pred known cur w:Int) (qp qs qk k:Nat) (T:fL),l=.obj q (.row (t.oU key ln lv pred known cur w qp qs qk k b 0))::A4 qp qs qk T:=by
 cases h<;>exact⟨_,_,_,_,_,_,_,_,_,_,_,rfl⟩
end
end Go.cY
