/- Contracts. Conditions: in each theorem. -/
import Derived.Test.YtdfgboafnklioaaGreatM83
import Derived.Test.YtdfgboafnklioaaGreatM84
set_option linter.all false
set_option maxRecDepth 100000
set_option maxHeartbeats 4000000
namespace Go.cI
open Go.Proofs
def wh (s:Option tB):Option Sd:=s.map λs=>⟨⟨s.o,s.σ,s.b⟩,s.q,s.hg,s.lo⟩
def sg (s:Option tB):Option Sd:=s.map λs=>⟨⟨s.o,s.σ,s.b⟩,s.q',s.hg,s.i4⟩
theorem UC (s:Option tB):pv (wh s)=pA s:=by cases s<;>rfl
theorem UD (s:Option tB):pv (sg s)=pB s:=by cases s<;>rfl
theorem UE (s:Option tB):co (wh s)=co (sg s):=by cases s<;>rfl
theorem PG (s:Option tB):Mf s=so (wh s)++so (sg s):=by cases s<;>rfl
theorem xS:∀{l},(oq l).Perm (gA (l.map wh)++gA (l.map sg))
 |[]=>.refl _
 |s::l=>by show(Mf s++oq l).Perm ((so (wh s)++gA (l.map wh))++(so (sg s)++gA (l.map sg)));rw[PG];refine(List.Perm.append_left _ xS).trans ?_;rw[lC,lC];refine List.Perm.append_left _ ?_;rw[<-lC,<-lC];exact List.Perm.append_right _ List.perm_append_comm
theorem iS.P {x v ro l}(h:iS x v ro l):mS x v ro (l.map wh):=λs hs=>by
 obtain⟨t,ht,e⟩:=List.mem_map.1 hs;cases t with
 |none=>cases e
 |some t=>cases e;have:=h t ht;exact⟨this.p,this.k,this.w,this.z,this.t⟩
theorem iS.D {x v ro l}(h:iS x v ro l):Bo x v ro (l.map sg):=λs hs=>by
 obtain⟨t,ht,e⟩:=List.mem_map.1 hs;cases t with
 |none=>cases e
 |some t=>cases e;have:=h t ht;exact⟨this.d,this.k,this.w,this.z,this.t⟩
theorem iS.more {x v ro LF l}(h:iS x v ro l)(hr:∀φ∈ro,φ∈LF):iS x v LF l:=λs hs=>by have:=h s hs;exact⟨this.p,this.d,this.k,this.w,this.z,λh1 h2=>let⟨L,c,g1,g2⟩:=this.t h1 h2;⟨L,c,hr _ g1,g2⟩⟩
theorem Ml {α β:Type}{f:α->β}{l:List α}{a b c d:β}(h:l.map f=[a,b,c,d]):∃a' b' c' d',l=[a',b',c',d']/\f a'=a/\f b'=b/\f c'=c/\f d'=d:=by obtain⟨a',b',c',d',rfl⟩:=four (l:=l) (by have:=congrArg List.length h;simpa using this);simp only[List.map_cons,List.map_nil,List.cons.injEq,and_true] at h;exact⟨a',b',c',d',rfl,h.1,h.2.1,h.2.2.1,h.2.2.2⟩
theorem rn {B0 S W R ro x v s a b}(hc:co a=co b)(ha:pv a=pA s)(hb:pv b=pB s)(hP:∀t,a=some t->dR x t.s.o t.q t.s.b t.s.σ t.lo/\II x v ro t.s)(hD:∀t,b=some t->bH x t.s.o v t.h t.q t.s.b t.s.σ t.lo/\II x v ro t.s)(H:Cx B0 W S (so a++(so b++R)) ro):
  aG EM (zF 22) [.agg [pA s,pB s]] S λu S'=>∃ab,(u=B true/\ab=so a++(so b++R))/\Cx B0 W S' ab ro:=by
 rw[<-ha,<-hb];cases a with
 |none=>
  cases b with
  |none=>exact Bn H
  |some b=>cases hc
 |some a=>
  cases b with
  |none=>cases hc
  |some b=>
   have hc:a.s=b.s:=by injection hc
   have h1:=hP a rfl;have h2:=hD b rfl;rw[<-hc] at h2;exact Bi h1.2.z h1.1 h2.1 H
section
variable{M:dS}{own R:List Own}{ro:List aF}{Φ:ma}{K:List Kf}{v w:AV}{L:List (List AV)}{c:List AV}
theorem PH {S}{t p o:Nat}{n:Bool}(e:zE M.P t=true):evalOp M.P (.eq t n (.ptr p o) (.ptr p o)) S=some (B (!n),S):=by
 have h:zn M.P t (.ptr p o) (.ptr p o)=some true:=by show Ft M.P t (.ptr p o) (.ptr p o)=_;show(match Nat.beq p p&&zE M.P t with|true=>some (Nat.beq o o)|false=>none)=_;rw[Nat.beq_refl,e,Nat.beq_refl];rfl
 show eO (CN M.P t n (.ptr p o) (.ptr p o)) S=_;unfold CN;rw[h];cases n<;>rfl
theorem Zx.wi {t:Nat}{n:Bool}{s k}(e1:bL (iB M.P t=1))(e2:bL (zE M.P t=true))(h:Zx M false (k (B (!n))) K own ro Φ):Zx M false (.op (.eq t n (pA s) (pA s)) k) K own ro Φ:=.z (.of λB W S H=>by
 cases s with
 |none=>exact vi (Hc e1.out) (by cases n<;>exact h.ok B W S H)
 |some s=>exact ah (PH e2.out) (h.ok B W S H))
theorem Zx.UF {t:Nat}{n q:Bool}{k}(e:bL (M.P.underlying t=some .bool))(h:Zx M false (k (B (!n))) K own ro Φ):Zx M false (.op (.eq t n (B q) (B q)) k) K own ro Φ:=.z (.of λB W S H=>by
 refine ah (LG e.out) ?_;cases n<;>cases q<;>exact h.ok B W S H)
end
section
variable{a b:Own}{mm rr ss dd ee R:List Own}
theorem ssA:Hs (mm++(rr++(ss++[a,b]))) (a::(mm++(rr++ss))):=by have h:Hs (mm++(rr++(ss++[a,b]))) (a::(mm++(rr++(ss++[])))):=HQ;rw[List.append_nil] at h;exact h
theorem ssB:Hs (mm++(rr++R)) (rr++(mm++R)):=HQ
theorem ssD:Hs (ee++(dd++(rr++(mm++(ss++R))))) (ss++(mm++(dd++(ee++(rr++R))))):=by have h:Hs (ee++(dd++(rr++(mm++(ss++(R++[])))))) (ss++(mm++(dd++(ee++(rr++(R++[])))))):=HQ;rw[List.append_nil] at h;exact h
theorem ssE:Hs (a::(ss++(mm++(dd++(ee++(rr++R)))))) (R++(rr++(ee++(a::(ss++(mm++dd)))))):=by have h:Hs (a::(ss++(mm++(dd++(ee++(rr++(R++[]))))))) (R++(rr++(ee++(a::(ss++(mm++(dd++[]))))))):=HQ;rw[List.append_nil,List.append_nil] at h;exact h
theorem ssG {x0 x1 x2 x3 y0 y1 y2 y3}:Hs (b::((y0++(y1++(y2++(y3++[]))))++(rr++(ee++(a::((x0++(x1++(x2++(x3++[]))))++(mm++dd))))))) (x0++(y0++(x1++(y1++(x2++(y2++(x3++(y3++(b::a::(mm++(rr++(dd++ee)))))))))))):=by have h:Hs (b::(y0++(y1++(y2++(y3++(rr++(ee++(a::(x0++(x1++(x2++(x3++(mm++(dd++[])))))))))))))) (x0++(y0++(x1++(y1++(x2++(y2++(x3++(y3++(b::a::(mm++(rr++(dd++(ee++[]))))))))))))):=HQ;simp only[List.append_nil,@lC Own] at h⊢;exact h
theorem V7 {x0 y0}:Hs (x0++(y0++R)) R:=by have h:Hs (x0++(y0++(R++[]))) (R++[]):=HQ;rw[List.append_nil] at h;exact h
theorem ssJ:Hs (b::a::(mm++(rr++(dd++ee)))) (dd++(ee++(mm++(rr++[])))):=by have h:Hs (b::a::(mm++(rr++(dd++(ee++[]))))) (dd++(ee++(mm++(rr++[])))):=HQ;rw[List.append_nil] at h;exact h
theorem ssK:Hs (dd++(ee++R)) (ee++R):=by have h:Hs (dd++(ee++(R++[]))) (ee++(R++[])):=HQ;rw[List.append_nil] at h;exact h
theorem ssL:Hs (ee++R) R:=by have h:Hs (ee++(R++[])) (R++[]):=HQ;rw[List.append_nil] at h;exact h
theorem ssM:Hs (a::b::R) R:=by have h:Hs (a::b::(R++[])) (R++[]):=HQ;rw[List.append_nil] at h;exact h
end
theorem PI:dV EM.P 2 99=some [some .i64,some .i64,some .i64,some .i64,none]:=by kernel_rfl
theorem UG:EM.P.eqGuardType EM.P.depth 99=false:=by kernel_rfl
theorem UH:ja EM.P 99=true:=by kernel_rfl
theorem PJ:dV EM.P 2 71=some [some .i64,some .i64,some .u64,some .u64,none]:=by kernel_rfl
theorem UI:EM.P.eqGuardType EM.P.depth 71=false:=by kernel_rfl
theorem UJ:ja EM.P 71=true:=by kernel_rfl
theorem Vx.ZN {own ro Φ K}{a b c d:Int}{e:Bool}{k}(h:Zx EM false (k (B true)) K own ro Φ):Vx EM (.op (.eq 99 false (.agg [I a,I b,I c,I d,B e]) (.agg [I a,I b,I c,I d,B e])) k) K own ro Φ:=
 λ_ W S H=>rM (vs:=[.int .i64 a,.int .i64 b,.int .i64 c,.int .i64 d,.bool e]) PI am UH UG rfl (h.ok _ W S H)
theorem Vx.ZO {own ro Φ K}{a b c d:Int}{e:Bool}{k}(h:Zx EM false (k (B true)) K own ro Φ):Vx EM (.op (.eq 71 false (.agg [I a,I b,U c,U d,B e]) (.agg [I a,I b,U c,U d,B e])) k) K own ro Φ:=
 λ_ W S H=>rM (vs:=[.int .i64 a,.int .i64 b,.int .u64 c,.int .u64 d,.bool e]) PJ am UJ UI rfl (h.ok _ W S H)
section
variable{B0 S:AH}{W:List Nat}{R:List Own}{ro:List aF}{L:List Int}{d s a:Nat}{v:AV}
theorem UK (ha:a<=L.length)(hl:L.length<=4096)(H:Cx B0 W S (lJ d s v L a++R) ro):aG EM (zF 41) [.ptr d 0] S λr S'=>∃ab,(r=I ((L.length:Int)-a)/\ab=lJ d s v L a++R)/\Cx B0 W S' ab ro:=by
 unfold lJ at*
 have el:=kT L;refine y2 H bF ?_ ?_
 .rw[el];simp only[Int.ofNat_eq_natCast];omega
 .rw[el];exact⟨rfl,rfl,_,⟨rfl,rfl⟩,HQ⟩
theorem UM (ha:a<=L.length)(hl:L.length<=4096)(H:Cx B0 W S (pJ d v L a++R) ro):aG EM (zF 42) [.ptr d 0] S λr S'=>∃ab,(r=I ((L.length:Int)-a)/\ab=pJ d v L a++R)/\Cx B0 W S' ab ro:=by
 unfold pJ at*
 have el:=kT L;refine y2 H bF ?_ ?_
 .rw[el];simp only[Int.ofNat_eq_natCast];omega
 .rw[el];exact⟨rfl,rfl,_,⟨rfl,rfl⟩,HQ⟩
end
section
open cX (Tk dm mR)
theorem wZ {S:AH}{v ui u ud:AV}{s:X.Su}{l:List Tk}{ws:List Int}{a:List JW}{dr:List Int}(hv:lq S v 4 (dm l))(hi:lq S ui 1 (aJ ws))(hw:∀w∈ws,Me.au w)(hu:lq S u 5 (rN a))(hd:lq S ud 1 (ints dr)):
  aG EM (zF 5) [.agg (s.cs v),ui,u,ud] S λr _=>r=B true:=by
 have H:=Cx.Rm hv hi;replace H:=H.oC (φ:=.sl u 5 (rN a)) hu.1 λj hj=>⟨hu.2 j hj,λx hx=>by cases hx⟩;replace H:=H.oC (φ:=.sl ud 1 (ints dr)) hd.1 λj hj=>⟨hd.2 j hj,λx hx=>by cases hx⟩;have md:aF.sl ud 1 (ints dr)∈[.sl ud 1 (ints dr),.sl u 5 (rN a),.sl v 4 (dm l),.sl ui 1 (aJ ws)]:=List.Mem.head _;have mu:aF.sl u 5 (rN a)∈[.sl ud 1 (ints dr),.sl u 5 (rN a),.sl v 4 (dm l),.sl ui 1 (aJ ws)]:=List.Mem.tail _ (List.Mem.head _);have mv:aF.sl v 4 (dm l)∈[.sl ud 1 (ints dr),.sl u 5 (rN a),.sl v 4 (dm l),.sl ui 1 (aJ ws)]:=List.Mem.tail _ (List.Mem.tail _ (List.Mem.head _));have mi:aF.sl ui 1 (aJ ws)∈[.sl ud 1 (ints dr),.sl u 5 (rN a),.sl v 4 (dm l),.sl ui 1 (aJ ws)]:=List.Mem.tail _ (List.Mem.tail _ (List.Mem.tail _ (List.Mem.head _)));generalize[aF.sl ud 1 (ints dr),.sl u 5 (rN a),.sl v 4 (dm l),.sl ui 1 (aJ ws)]=ro at H mv mu mi md;refine Po rfl rfl (b:=Tryz.a5) ?_ H;unfold X.Su.cs
 (repeat' first|refine Zx.an 30 ?_|constructor|exact ZQ|intro _)
 all_goals apply zL
 refine Vx.Zh (P:=λr φ=>∃e,X.ON s l e r/\φ=.sl e 4 (if s.lN l=0 then dm l else [])/\(odd e=false/\e.cells=[e]/\AV.beq e e=true)) (λB1 W1 S1 H=>ar (X.CE (s:=s) (l:=l) (H.eT mv)) λr S' ⟨e,h,K⟩=>⟨_,⟨e,h,rfl,bx ((H.Md K).eT (List.Mem.head _)).1⟩,H.Md K⟩) ?_;rintro r φ ⟨e,hr,rfl,oe,ce,be⟩;rcases hr with⟨hc,rfl,rfl⟩|⟨hc,rfl⟩
 .unfold X.DO;refine Zx.ok (n:=false) ?_;exact zZ
 rw[if_pos hc];obtain⟨BC,IQ,YW,E4⟩:=KW hc;rw[<-Xc.T_];have ZP:1<=s.ae/\s.ae<=64:=by have:=(X.CD hc).1;unfold X.Su.tw at this;omega
 generalize hx:Xc.of (X.tx s l.length)=x;rw[show X.tx s l.length=x.ex from by rw[<-hx];rfl] at IQ;rw[hx] at BC;generalize X.CC s l.length=N at YW E4;obtain⟨N,rfl⟩:∃M:Nat,N=M:=⟨N.toNat,am⟩;have me:aF.sl e 4 (dm l)∈(.sl e 4 (dm l)::ro):=List.Mem.head _;have mu:aF.sl u 5 (rN a)∈(.sl e 4 (dm l)::ro):=List.Mem.tail _ mu;have md:aF.sl ud 1 (ints dr)∈(.sl e 4 (dm l)::ro):=List.Mem.tail _ md;have mi:aF.sl ui 1 (aJ ws)∈(.sl e 4 (dm l)::ro):=List.Mem.tail _ mi;generalize(aF.sl e 4 (dm l)::ro)=Rm at me mu md mi;have hxx:=BC;simp only[Xc.cs,Tw.cs,Lb.cs,Ar.cs,Ep.cs,lA,lB];refine Zx.ok (n:=false) ?_
 (repeat' first|refine Zx.aX (v:=ui) ?_|refine Zx.aX (v:=u) ?_|refine Zx.aX (v:=ud) ?_|refine Zx.aK (v:=ui) ?_|refine Zx.aK (v:=u) ?_|refine Zx.aK (v:=ud) ?_|constructor|exact ZQ|intro _)
 all_goals apply zL
 refine Vx.E0 mi ?_;rw[bZ]
 (repeat' first|refine Zx.aX (v:=ui) ?_|refine Zx.aX (v:=u) ?_|refine Zx.aX (v:=ud) ?_|refine Zx.aK (v:=ui) ?_|refine Zx.aK (v:=u) ?_|refine Zx.aK (v:=ud) ?_|constructor|exact ZQ|intro _)
 all_goals apply zL
 refine Vx.E0 mu ?_;rw[Bl]
 (repeat' first|refine Zx.aX (v:=ui) ?_|refine Zx.aX (v:=u) ?_|refine Zx.aX (v:=ud) ?_|refine Zx.aK (v:=ui) ?_|refine Zx.aK (v:=u) ?_|refine Zx.aK (v:=ud) ?_|constructor|exact ZQ|intro _)
 all_goals apply zL
 refine Vx.E0 md ?_;rw[show(ints dr).length=dr.length from List.length_map ..]
 (repeat' first|refine Zx.aX (v:=ui) ?_|refine Zx.aX (v:=u) ?_|refine Zx.aX (v:=ud) ?_|refine Zx.aK (v:=ui) ?_|refine Zx.aK (v:=u) ?_|refine Zx.aK (v:=ud) ?_|constructor|exact ZQ|intro _)
 all_goals apply zL
 refine Vx.spec (λB1 W1 S1 H=>K1 (n:=N) BC me IQ am am mi hw am H) ?_;rintro _ _ ⟨m,bl,w,vw,rfl,rfl⟩
 (repeat' first|refine Zx.aX (v:=ui) ?_|refine Zx.aX (v:=u) ?_|refine Zx.aX (v:=ud) ?_|refine Zx.aK (v:=ui) ?_|refine Zx.aK (v:=u) ?_|refine Zx.aK (v:=ud) ?_|constructor|exact ZQ|intro _)
 all_goals apply zL
 refine Vx.Pp (n:=4) (es:=2) (L:=List.replicate 4 [Np,Np]) rfl rfl (by intro x hx;rw[(List.mem_replicate.1 hx).2];rfl) ?_;rename_i p1 p7 _ _ _ _ _ _ p8;generalize hvb:AV.sl p8 0 4 4=vb;obtain⟨VZ,Er⟩:(x.fill (Me.fresh N)).gd/\(x.fill (Me.fresh N)).n<=1000000:=by have:=Xc.a_ BC (Me.fresh N) (wa am am) (by unfold Me.fresh;dsimp only;omega);exact⟨this.1,by have h:=this.2.1;unfold Me.fresh at h⊢;dsimp only at h⊢;omega⟩
 have Bx:(x.fill (Me.fresh N)).ws.length=N:=by have:=Xc.a_ BC (Me.fresh N) (wa am am) (by unfold Me.fresh;dsimp only;omega);rw[this.2.2];unfold Me.fresh;dsimp only;rw[List.length_replicate]
 obtain⟨hig,ng,hil⟩:(Mg ws (x.fill (Me.fresh N))).gd/\(Mg ws (x.fill (Me.fresh N))).n<=2000000/\(Mg ws (x.fill (Me.fresh N))).ws.length=N:=by have:=Iz hw (Nat.le_refl _) (x.fill (Me.fresh N)) VZ am;exact⟨this.1,by have h:=this.2.1;unfold Mg;omega,this.2.2.trans Bx⟩
 generalize Mg ws (x.fill (Me.fresh N))=y0 at hig ng hil;refine Vx.inv (α:=Nat×Me×List (Option tB)) (P:=λz n=>n+z.1=a.length/\z.2.1.gd/\z.2.1.ws.length=N/\z.2.1.n<=2000000+z.1/\z.2.2.length=4/\iS x e Rm z.2.2) (λz=>[I (z.1:Int)])
  (λz=>.sl vb 2 (z.2.2.map DS)::(ad m bl z.2.1 (List.replicate (4096-N) (U 0))++(ai w vw z.2.1++(oq z.2.2++[.obj p7 (.row (x.cs++[e])),.obj p1 (.row (s.cs v))])))) ?_ (a0:=(0,y0,List.replicate 4 none)) (n0:=a.length) ⟨by dsimp only;omega,hig,hil,by dsimp only;omega,rfl,iS.nil⟩
 rintro⟨i,y,sl⟩ n ⟨ng,I_,IX,hyn,UN,zm⟩ ih;dsimp only at ng I_ IX hyn UN zm ih⊢;simp only[Xc.cs,Tw.cs,Lb.cs,Ar.cs,Ep.cs,X.Su.cs,lA,lB] at ih⊢;refine Vx.E0 mu ?_;rw[Bl]
 (repeat' first|refine Zx.aX (v:=u) ?_|refine Zx.aK (v:=u) ?_|constructor|exact ZQ|intro _)
 all_goals apply zL
 .next du=>
  have hli:i<a.length:=am;obtain⟨b,hb⟩:∃b,b=a[i]:=⟨_,rfl⟩;have lR:(rN a)[(i:Int).toNat]?=some b.cs:=by rw[Int.toNat_natCast,hb];unfold rN;rw[List.getElem?_map,List.getElem?_eq_getElem hli];rfl
  have hc4:=KY (a:=b.core) (n:=4) am;generalize WO:pick b.core 4=c at hc4;refine Zx.ok (n:=false) (Zx.Ub mu am lR (w:=I b.core) rfl ?_)
  (repeat' first|refine Zx.aX (v:=u) ?_|refine Zx.aK (v:=u) ?_|constructor|exact ZQ|intro _)
  all_goals apply zL
  rw[WO];refine Zx.ok (n:=false) (Zx.Ub mu am lR (w:=I b.what) rfl ?_)
  (repeat' first|refine Zx.aX (v:=u) ?_|refine Zx.aK (v:=u) ?_|constructor|exact ZQ|intro _)
  all_goals apply zL
  .refine Zx.ok (n:=false) (Zx.Zk mu am lR (w:=I b.what) rfl ?_)
   (repeat' first|refine Zx.aX (v:=u) ?_|refine Zx.aK (v:=u) ?_|constructor|exact ZQ|intro _)
   all_goals apply zL
   .refine Zx.ok (n:=false) (Zx.sra mu am lR rfl ?_);refine .z (.of (Vx.spec (λB1 W1 S1 H=>Iv (k:=b.core) (what:=b.what) (t:=b.t) (now:=b.now) (high:=b.high) BC me IQ H) ?_));rintro _ _ ⟨q,q',lo,i4,rfl,hP,hD,rfl⟩;obtain⟨g1,g2,g3⟩:=Pm (c:=c) (what:=b.what) (t:=b.t) (now:=b.now) (high:=b.high) BC IQ;have g4:=Pn (c:=c) (what:=b.what) (t:=b.t) (now:=b.now) (high:=b.high) IQ me;generalize tA x l c b.what b.t b.now b.high=o at hP hD g1 g2 g3 g4;generalize CJ x l c b.what b.t b.now b.high=σ at hP hD g1 g2 g3 g4;generalize KX c b.what b.t b.now b.high=hg at hD;obtain⟨os,K_⟩:∃os,sl[c.toNat]?=some os:=⟨_,List.getElem?_eq_getElem am⟩;rw[zd K_,@lC Own,@lC Own];refine Zx.aO (own:=.sl vb 2 (sl.map DS)::(ad m bl y (List.replicate (4096-N) (U 0))++(ai w vw y++(oq (sl.take c.toNat)++(lo++(i4++(oq (sl.drop (c.toNat+1))++[_,_]))))))) HQ ?_;refine Zx.sls am (by rw[List.length_map];omega) rfl rfl ?_;rw[show(sl.map DS).set c.toNat (AV.agg [.ptr q 0,.ptr q' 0]).cells=(sl.set c.toNat (some ⟨o,σ,0,hg,q,q',lo,i4⟩)).map DS from DT (s:=⟨o,σ,0,hg,q,q',lo,i4⟩)];have h2:=ih (i+1,y,sl.set c.toNat (some ⟨o,σ,0,hg,q,q',lo,i4⟩)) (n-1) am ⟨by dsimp only;omega,I_,IX,by dsimp only;omega,by dsimp only;rw[List.length_set];omega,zm.set ⟨hP,hD,g1,g2,g3,g4⟩⟩;dsimp only at h2;rw[Bm am] at h2;simp only[Mf,@lC Own] at h2
    (repeat' first|refine Zx.aX (v:=u) ?_|refine Zx.aK (v:=u) ?_|constructor|exact ZQ|intro _)
    all_goals apply zL
    refine Zx.ok (n:=false) (Zx.Ub mu am lR (w:=I b.what) rfl ?_)
    (repeat' first|refine Zx.aX (v:=u) ?_|refine Zx.aK (v:=u) ?_|constructor|exact ZQ|intro _)
    all_goals apply zL
   .refine Zx.ok (n:=false) (Zx.Ub mu am lR (w:=I b.what) rfl ?_)
    (repeat' first|refine Zx.aX (v:=u) ?_|refine Zx.aK (v:=u) ?_|constructor|exact ZQ|intro _)
    all_goals apply zL
    exact ih (i+1,y,sl) (n-1) am ⟨by dsimp only;omega,I_,IX,by dsimp only;omega,UN,zm⟩
  .refine Zx.ok (n:=false) (Zx.Ub mu am lR (w:=I b.what) rfl ?_)
   (repeat' first|refine Zx.aX (v:=u) ?_|refine Zx.aK (v:=u) ?_|constructor|exact ZQ|intro _)
   all_goals apply zL
   .obtain⟨os,K_⟩:∃os,sl[c.toNat]?=some os:=⟨_,List.getElem?_eq_getElem am⟩;cases os with
    |none=>
     refine Zx.ok (n:=false) (Zx.Uc (List.Mem.head _) am (wb K_) (w:=Np) rfl ?_)
     (repeat' first|refine Zx.aX (v:=u) ?_|refine Zx.aK (v:=u) ?_|constructor|exact ZQ|intro _)
     all_goals apply zL
     exact ih (i+1,y,sl) (n-1) am ⟨by dsimp only;omega,I_,IX,by dsimp only;omega,UN,zm⟩
    |some z=>
     have hz:=zm.at K_;have qe:f_.ok x z.o ⟨z.σ,y,z.b⟩ (2000000+i) N:=⟨hz.k,hz.w,I_,hyn,IX⟩;refine Zx.ok (n:=false) (Zx.Uc (List.Mem.head _) am (wb K_) (w:=.ptr z.q' 0) rfl ?_)
     (repeat' first|refine Zx.aX (v:=u) ?_|refine Zx.aK (v:=u) ?_|constructor|exact ZQ|intro _)
     all_goals apply zL
     refine Zx.ok (n:=false) (Zx.slf (List.Mem.head _) am (wb K_) (w:=.ptr z.q 0) rfl ?_);rw[zd K_,@lC Own,@lC Own];simp only[Mf,@lC Own];refine Zx.aO (own:=z.lo++(ad m bl y (List.replicate (4096-N) (U 0))++(.sl vb 2 (sl.map DS)::(ai w vw y++(oq (sl.take c.toNat)++(z.i4++(oq (sl.drop (c.toNat+1))++[_,_]))))))) HQ ?_;refine .z (.of (Vx.spec (λB1 W1 S1 H=>L_ (s:=⟨z.σ,y,z.b⟩) BC qe hz.p H) ?_));rintro _ _ ⟨l1,rfl,hP1,rfl⟩;have pI:=qe.TX BC am hz.p;refine z1 ?_;refine Zx.ok (n:=false) (Zx.slf (v:=vb) (L:=sl.map DS) ac am (wb K_) (w:=.ptr z.q' 0) rfl ?_);refine Zx.aO (own:=z.i4++(ai w vw y++(.sl vb 2 (sl.map DS)::(l1++(ad m bl (f_.xP x z.o ⟨z.σ,y,z.b⟩).y (List.replicate (4096-N) (U 0))++(oq (sl.take c.toNat)++(oq (sl.drop (c.toNat+1))++[_,_]))))))) HQ ?_;refine .z (.of (Vx.spec (λB1 W1 S1 H=>Ma (s:=⟨z.σ,y,z.b⟩) BC qe (λho=>hz.t (hz.k ho)) hz.d H) ?_));rintro _ _ ⟨l2,rfl,Qo,rfl⟩;generalize f_.xP x z.o ⟨z.σ,y,z.b⟩=r at hP1 Qo pI;have h2:=ih (i+1,r.y,sl.set c.toNat (some ⟨z.o,r.σ,r.b,z.hg,z.q,z.q',l1,l2⟩)) (n-1) am ⟨by dsimp only;omega,pI.y,pI.l,by have:=pI.n;dsimp only;omega,by dsimp only;rw[List.length_set];omega,zm.set ⟨hP1,Qo,pI.k,pI.w,hz.z,hz.t⟩⟩;dsimp only at h2;rw[<-DT (s:=⟨z.o,r.σ,r.b,z.hg,z.q,z.q',l1,l2⟩),Bm am] at h2;simp only[Mf,@lC Own] at h2;rw[Iy K_] at h2;refine z1 ?_;exact Vx.aO HQ h2
   .exact ih (i+1,y,sl) (n-1) am ⟨by dsimp only;omega,I_,IX,by dsimp only;omega,UN,zm⟩
 .clear ih;subst hvb;obtain⟨s0,s1,s2,s3,rfl⟩:=four UN;refine Vx.perm Ix ?_;refine Vx.Zi rfl λtl=>?_;simp only[List.map_cons,List.map_nil,List.flatten_cons,List.flatten_nil,DS,lA,lB];obtain⟨a0,b0⟩:=KZ s0;obtain⟨a1,b1⟩:=KZ s1;obtain⟨a2,b2⟩:=KZ s2;obtain⟨a3,b3⟩:=KZ s3;obtain⟨c0,d0⟩:=K0 s0;obtain⟨c1,d1⟩:=K0 s1;obtain⟨c2,d2⟩:=K0 s2;obtain⟨c3,d3⟩:=K0 s3;refine Zx.ok (n:=false) ?_;haveI:aV:=⟨⟩;refine z1 ?_;rename_i pO pD;refine Vx.Mj ?_;refine Vx.Pz (n:=4) (L:=zj [sg s0,sg s1,sg s2,sg s3]) (by simp only[zj,List.map_cons,List.map_nil,UD];rfl) rfl (by simp[zj]) ?_;refine Vx.Pz (n:=4) (L:=zj [wh s0,wh s1,wh s2,wh s3]) (by simp only[zj,List.map_cons,List.map_nil,UC];rfl) rfl (by simp[zj]) ?_;refine Vx.aO ssA ?_;refine Vx.Mj ?_;refine Vx.perm (List.Perm.append_left _ (List.Perm.append_left _ xS)) ?_;have hxc:x.r.ae=s.ae:=by rw[<-hx];rfl
  obtain⟨ZR,IU⟩:∃r,r=(.pt p7 0 (x.cs++[e])::.sl (.sl pO 0 4 4) 1 (zj [wh s0,wh s1,wh s2,wh s3])::.pt pO 0 [pA s0,pA s1,pA s2,pA s3]::.sl (.sl pD 0 4 4) 1 (zj [sg s0,sg s1,sg s2,sg s3])::.pt pD 0 [pB s0,pB s1,pB s2,pB s3]::.pt p8 0 (pA s0::pB s0::pA s1::pB s1::pA s2::pB s2::pA s3::pB s3::tl)::Rm:List aF):=⟨_,rfl⟩;have m3:∀φ∈Rm,φ∈ZR:=λφ h=>by rw[IU];simp only[List.mem_cons];exact .inr (.inr (.inr (.inr (.inr (.inr h)))))
  have mO:aF.sl (.sl pO 0 4 4) 1 (zj [wh s0,wh s1,wh s2,wh s3])∈ZR:=by rw[IU];simp
  have mD:aF.sl (.sl pD 0 4 4) 1 (zj [sg s0,sg s1,sg s2,sg s3])∈ZR:=by rw[IU];simp
  have hsP:=(zm.more m3).P;have hsD:=(zm.more m3).D;have hC:x.r.ae<=4:=am;simp only[Xc.cs,Tw.cs,Lb.cs,Ar.cs,Ep.cs,lA,lB] at IU;subst IU;have ym:AV.beq (.agg (x.cs++[e])) (.agg (x.cs++[e]))=true:=by simp only[Xc.cs,Tw.cs,Lb.cs,Ar.cs,Ep.cs,lA,lB];simp[AV.beq,lQ,aH,dX,be]
  simp only[Xc.cs,Tw.cs,Lb.cs,Ar.cs,Ep.cs,lA,lB] at ym;refine Vx.spec (λB1 W1 S1 H=>IM BC (m3 _ me) IQ I_ (by rw[List.length_replicate];omega) H) ?_;rintro _ _ ⟨rfl,rfl⟩;refine z1 ?_;refine Vx.aO ssB ?_;refine Vx.spec (λB1 W1 S1 H=>IP BC (m3 _ me) IQ I_ H) ?_;rintro _ _ ⟨rfl,rfl⟩;repeat' first|refine Zx.UF ?_ ?_|constructor|exact ZQ|intro _
  all_goals apply zL
  refine Vx.spec (λB1 W1 S1 H=>Zm (L:=dr) am (m3 _ md) H) ?_;rintro _ _ ⟨d,sd,dv,rfl,rfl⟩;refine z1 ?_;refine Vx.spec (λB1 W1 S1 H=>Zl (L:=dr) am (m3 _ md) H) ?_;rintro _ _ ⟨d',V8,rfl,rfl⟩;refine z1 ?_;refine Vx.aO (own:=gA [wh s0,wh s1,wh s2,wh s3]++(ad m bl y (List.replicate (4096-N) (U 0))++(lJ d sd dv dr 0++(pJ d' V8 dr 0++(ai w vw y++gA [sg s0,sg s1,sg s2,sg s3]))))) ?_ ?_
  .generalize ad m bl _ _=MM;generalize ai w vw _=RR;generalize lJ d sd dv _ _=DD;generalize pJ d' V8 _ _=EE;exact ssD
  refine Vx.spec (λB1 W1 S1 H=>K6 BC hC (m3 _ me) IQ (Nat.zero_le _) am mO ac hsP I_ am H) ?_;rintro _ _ ⟨lP,z,er,Mo,V9,rfl,rfl⟩;refine z1 ?_;intros;rename_i pR;refine Vx.aO (own:=gA [sg s0,sg s1,sg s2,sg s3]++(ai w vw y++(pJ d' V8 dr 0++(.obj pR (.row z.r.cs)::(gA lP++(ad m bl z.y (List.replicate (4096-N) (U 0))++lJ d sd dv dr z.a)))))) ?_ ?_
  .generalize ad m bl _ _=MM;generalize ai w vw _=RR;generalize lJ d sd dv _ _=DD;generalize pJ d' V8 _ _=EE;exact ssE
  refine Vx.spec (λB1 W1 S1 H=>K8 BC hC (m3 _ me) IQ (Nat.zero_le _) am mD ac hsD I_ am H) ?_;rintro _ _ ⟨lD,z',er',hSD,V_,rfl,rfl⟩;obtain⟨hco,rfl,rfl⟩:lD.map co=lP.map co/\z'=z/\er'=er:=by have h1:=hSD.e;have h2:=Mo.e;simp only[List.map_cons,List.map_nil,UE] at h2;simp only[List.map_cons,List.map_nil] at h1;rw[<-h2] at h1;injection h1 with g1 g2;injection g2 with g2 g3;exact⟨g1,g2,g3⟩
  have hpv:=Mo.p;have LC:=hSD.p;simp only[List.map_cons,List.map_nil,UC,UD] at hpv LC;obtain⟨a0,a1,a2,a3,rfl,va0,va1,va2,va3⟩:=Ml hpv;obtain⟨b0,b1,b2,b3,rfl,vb0,vb1,vb2,vb3⟩:=Ml LC;simp only[List.map_cons,List.map_nil,List.cons.injEq,and_true] at hco;obtain⟨c0,c1,c2,c3⟩:=hco;repeat' first|refine Zx.wi ?_ (.of (by kernel_rfl)) ?_|constructor|exact ZQ|intro _
  all_goals apply zL
  rename_i pS;rw[show gA [a0,a1,a2,a3]=so a0++(so a1++(so a2++(so a3++[]))) from rfl,show gA [b0,b1,b2,b3]=so b0++(so b1++(so b2++(so b3++[]))) from rfl];refine Vx.aO ssG ?_;refine Vx.spec (λB1 W1 S1 H=>rn c0.symm va0 vb0 (λt ht=>V9 t (by rw[<-ht];exact List.Mem.head _)) (λt ht=>V_ t (by rw[<-ht];exact List.Mem.head _)) H) ?_;rintro _ _ ⟨rfl,rfl⟩;refine Zx.aO V7 ?_;repeat' first|refine Zx.wi ?_ (.of (by kernel_rfl)) ?_|constructor|exact ZQ|intro _
  all_goals apply zL
  refine Vx.spec (λB1 W1 S1 H=>rn c1.symm va1 vb1 (λt ht=>V9 t (by rw[<-ht];exact List.Mem.tail _ (List.Mem.head _))) (λt ht=>V_ t (by rw[<-ht];exact List.Mem.tail _ (List.Mem.head _))) H) ?_;rintro _ _ ⟨rfl,rfl⟩;refine Zx.aO V7 ?_;repeat' first|refine Zx.wi ?_ (.of (by kernel_rfl)) ?_|constructor|exact ZQ|intro _
  all_goals apply zL
  refine Vx.spec (λB1 W1 S1 H=>rn c2.symm va2 vb2 (λt ht=>V9 t (by rw[<-ht];exact List.Mem.tail _ (List.Mem.tail _ (List.Mem.head _)))) (λt ht=>V_ t (by rw[<-ht];exact List.Mem.tail _ (List.Mem.tail _ (List.Mem.head _)))) H) ?_;rintro _ _ ⟨rfl,rfl⟩;refine Zx.aO V7 ?_;repeat' first|refine Zx.wi ?_ (.of (by kernel_rfl)) ?_|constructor|exact ZQ|intro _
  all_goals apply zL
  refine Vx.spec (λB1 W1 S1 H=>rn c3.symm va3 vb3 (λt ht=>V9 t (by rw[<-ht];exact List.Mem.tail _ (List.Mem.tail _ (List.Mem.tail _ (List.Mem.head _))))) (λt ht=>V_ t (by rw[<-ht];exact List.Mem.tail _ (List.Mem.tail _ (List.Mem.tail _ (List.Mem.head _))))) H) ?_;rintro _ _ ⟨rfl,rfl⟩;refine Zx.aO V7 ?_;repeat' first|refine Zx.wi ?_ (.of (by kernel_rfl)) ?_|constructor|exact ZQ|intro _
  all_goals apply zL
  refine Vx.ZN ?_;refine Zx.aO ssJ ?_
  (repeat' first|refine Zx.an 41 ?_|refine Zx.an 42 ?_|constructor|exact ZQ|intro _)
  all_goals apply zL
  refine Vx.spec (λB1 W1 S1 H=>UK Mo.a am H) ?_;rintro _ _ ⟨rfl,rfl⟩
  (repeat' first|refine Zx.an 41 ?_|refine Zx.an 42 ?_|constructor|exact ZQ|intro _)
  all_goals apply zL
  refine Vx.aO ssK ?_;refine Vx.spec (λB1 W1 S1 H=>UM Mo.a am H) ?_;rintro _ _ ⟨rfl,rfl⟩;refine Zx.aO ssL ?_;simp only[ad,ai,lA,lB,Me.rO,Me.Hg,Me.last];refine z1 ?_;intros;refine Vx.ZO ?_;refine Zx.aO (own:=ad m bl z'.y (List.replicate (4096-N) (U 0))++(ai w vw z'.y++[])) (by simp only[ad,ai,lA,lB,Me.rO,Me.Hg,Me.last];exact HQ) ?_;have Lm:=Mo.w;have hzr:z'.y.ws.length+(List.replicate (4096-N) (U 0)).length=4096:=by rw[List.length_replicate];omega
  refine z1 ?_;refine Vx.spec (Ψ:=λu ab=>ab=.sl u 1 (aJ z'.y.ws)::_) (λB1 W1 S1 H=>ar (v_ Mo.g hzr H) λr S' h=>⟨_,rfl,h⟩) ?_;rintro r1 _ rfl;refine z1 ?_;refine Vx.aO hsF ?_;refine Vx.spec (λB1 W1 S1 H=>E7 am H) ?_;rintro r2 _ rfl;refine z1 ?_;refine Vx.aO hsG ?_;refine Vx.spec (λB1 W1 S1 H=>Iu am H) ?_;rintro _ _ ⟨rfl,rfl⟩;refine Zx.aO ssM ?_;refine z1 ?_;refine Vx.spec (λB1 W1 S1 H=>IM BC (m3 _ me) IQ Mo.g hzr H) ?_;rintro _ _ ⟨rfl,rfl⟩;refine z1 ?_;refine Vx.aO ssB ?_;refine Vx.spec (λB1 W1 S1 H=>IP BC (m3 _ me) IQ Mo.g H) ?_;rintro _ _ ⟨rfl,rfl⟩;repeat' first|refine Zx.UF ?_ ?_|constructor|exact ZQ|intro _
  all_goals apply zL
  all_goals skip
end
end Go.cI
