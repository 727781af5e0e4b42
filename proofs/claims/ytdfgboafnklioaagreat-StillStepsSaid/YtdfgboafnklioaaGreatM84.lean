/- Contracts. Conditions: in each theorem. -/
import Derived.Test.YtdfgboafnklioaaGreatM80
set_option linter.all false
set_option maxRecDepth 100000
set_option maxHeartbeats 4000000
namespace Go.cI
open Go.Proofs
def km (y:Me)(a s:Int):Prop:=fj (y.word (a+2+y.word a%s)) (y.word a/s%4294967296)
instance ac2 (y:Me)(a s:Int):Decidable (km y a s):=inferInstanceAs (Decidable (fj _ _))
section
variable{M:dS}{own R:List Own}{ro:List aF}{Φ:ma}{K:List Kf}{v w:AV}{L:List (List AV)}{c:List AV}
theorem Vx.Pz {x}{p n:Nat}(hc:c=L.flatten)(hn:L.length=n)(CU:∀x∈L,x.length=1)(h:Vx M x K R (.sl (.sl p 0 n n) 1 L::.pt p 0 c::ro) Φ):Vx M x K (.obj p (.row c)::R) ro Φ:=λB W S H=>by
 have hg:=dj (H.oh _ (List.Mem.head _));have H1:=H.freeze (i:=0) rfl;have hf:c.length=n*1:=by rw[hc,bw CU,hn]
 refine h B W S (H1.oC (φ:=.sl (.sl p 0 n n) 1 L) (.inr ⟨p,0,c,.inl ⟨n,am,am,by rw[hn]⟩,hg,?_,CU⟩) λj hj=>?_);.rw[List.drop_zero,hn,<-hf,List.take_length,hc]
 .exact H1.ri _ (List.Mem.head _) j hj
theorem Vx.Mj {x}{p:Nat}(h:Vx M x K R (.pt p 0 c::ro) Φ):Vx M x K (.obj p (.row c)::R) ro Φ:=λB W S H=>h B W S (H.freeze (i:=0) rfl)
theorem Vx.PA {x}(h:Vx M x K (.sl Ns 1 []::R) ro Φ):Vx M x K R ro Φ:=λB W S H=>h B W S (H.yZ 1)
theorem Vx.Bq {x}{p n:Nat}{b}(h:∀b',b'=b->Vx M x K (.obj p (.loop .ready none n b')::R) ro Φ):Vx M x K (.obj p (.loop .ready none n b)::R) ro Φ:=h b rfl
theorem Vx.K9 {bytes q:Nat}{x k}(hb:(L.length+1)*bytes<=140737488355328)(hl:L.length+1<=9223372036854775807)(h:∀v',odd v'=false->v'.cells=[v']->AV.beq v' v'=true->Zx M false (k v') K (.sl v' 1 (L++[[x]])::R) ro Φ):Vx M (.op (.append 1 bytes v (.sl q 0 1 1)) k) K (.obj q (.row [x])::.sl v 1 L::R) ro Φ:=
 Vx.Pz (n:=1) (L:=[[x]]) rfl rfl ac (Vx.apR (List.Mem.head _) ac hb hl λv' g1 g2 g3=>.z (.of (Vx.tl (Vx.tl (h v' g1 g2 g3).ok))))
end
instance ac3:cA 352 where
instance ac4:cA 466 where
section
variable{B0 S:AH}{W:List Nat}{R:List Own}{ro:List aF}{m bl w pl:Nat}{rest:List AV}{y:Me}{v vm:AV}{a s:Int}
theorem IL (hl:y.ws.length<=4096)(H:Cx B0 W S (.obj pl (.row [v])::.sl v 1 (aJ y.ws)::R) ro):aG EM (.fn (.func 351) [] [.ptr pl 0]) [I a] S λu S'=>∃ab,(u=U (y.word a)/\ab=.obj pl (.row [v])::.sl v 1 (aJ y.ws)::R)/\Cx B0 W S' ab ro:=by
 have el:=bZ y.ws;refine y4 H rfl ?_ ?_ ?_ ?_<;>intros
 all_goals(simp only[Int.ofNat_eq_natCast,el] at*)
 .exact⟨rfl,rfl,_,⟨by rw[show y.word a=0 from if_neg (λh=>by have:=h.1;omega)];rfl,rfl⟩,HQ⟩
 .exact⟨rfl,rfl,_,⟨by rw[show y.word a=0 from if_neg (λh=>by have:=h.2;omega)];rfl,rfl⟩,HQ⟩
 .omega
 .exact⟨rfl,rfl,_,⟨by rw[show y.word a=_ from if_pos ⟨am,am⟩];rfl,rfl⟩,HQ⟩
theorem quA {a b mm}:Hs (b::a::(mm++R)) (mm++(a::R)):=HQ
theorem quB {a b c d e f g h mm}:Hs (a::b::(c::d::e::f::g::h::mm)) (c::d::e::f::g::h::a::b::mm):=HQ
theorem quD {a b c d e f g h i q mm}:Hs (q::a::b::c::d::e::f::g::h::i::mm) (q::c::(a::b::d::e::f::g::h::i::mm)):=HQ
theorem quE {a b c d e f g h mm}:Hs (a::b::c::d::e::f::g::h::(mm++R)) (a::(mm++R)):=by have h:Hs (a::b::c::d::e::f::g::h::(mm++(R++[]))) (a::(mm++(R++[]))):=HQ;rw[List.append_nil] at h;exact h
theorem quF {a b c d e f g h mm}:Hs (a::b::c::d::e::f::g::h::(mm++R)) (c::(mm++R)):=by have h:Hs (a::b::c::d::e::f::g::h::(mm++(R++[]))) (c::(mm++(R++[]))):=HQ;rw[List.append_nil] at h;exact h
theorem quC {a b c d e f g h i mm}:Hs (a::b::c::d::e::f::g::h::i::mm) (h::i::(a::b::c::d::e::f::g::mm)):=HQ
theorem ZF (hy:y.gd)(hr:y.ws.length+rest.length=4096)(ha:0<=a/\a<=90000)(hs:1<=s/\s<=4096)(H:Cx B0 W S (ad m bl y rest++R) ro):
  aG EM (zF 221) [.agg [I a,I (a+1),I (a+2),I s],.ptr m 0] S λu S'=>∃ab,(∃L,ab=.sl u 1 L::(ad m bl y rest++R)/\L.length<=4096/\(0<L.length↔km y a s))/\Cx B0 W S' ab ro:=by
 refine y1 H rfl ?_;intros;rename_i p1 p2 _ _;refine Vx.aO (own:=ad m bl y rest++(.obj p1 (.row [_,_,_,_])::R)) (by generalize ad m bl y rest=MM;exact quA) ?_;refine Vx.spec (Ψ:=λu ab=>(odd u=false/\u.cells=[u]/\AV.beq u u=true)/\ab=.sl u 1 (aJ y.ws)::_) (λB1 W1 S1 H=>ar (v_ hy hr H) λr S' h=>⟨_,⟨bx (ij (h.oh _ (List.Mem.head _))),rfl⟩,h⟩) ?_;rintro v _ ⟨⟨g1,g2,g3⟩,rfl⟩;refine z1 ?_;intros;rename_i pL pW pO pR pB p;refine Vx.aO (own:=.obj pL (.row [v])::.sl v 1 (aJ y.ws)::(.obj p (.loop .ready none 1 _)::.obj pO (.row [Ns])::.obj pB (.row [_])::.obj pR (.row [_,_,_,_])::.obj pW (.row [_])::.obj p1 (.row [_,_,_,_])::(ad m bl y rest++R))) (by generalize ad m bl y rest=MM;exact HQ) ?_;refine Vx.spec (λB1 W1 S1 H=>IL am H) ?_;rintro _ _ ⟨rfl,rfl⟩;refine z1 ?_;refine Vx.aO quB ?_;refine Vx.Bq λb hb=>?_;refine Vx.PA ?_;have Ut:=Me.aj hy a;refine Vx.inv (α:=Nat×Int×AV×List (List AV)) (P:=λz n=>n+z.1=s.toNat/\z.2.2.2.length=z.1/\Me.au z.2.1/\(z.1=0->z.2.1=y.word a)/\(0<z.1->km y a s)/\odd z.2.2.1=false/\z.2.2.1.cells=[z.2.2.1]/\AV.beq z.2.2.1 z.2.2.1=true) (λz=>[I (z.1:Int),U z.2.1])
  (λz=>.sl z.2.2.1 1 z.2.2.2::.obj p (.loop .ready none 1 b)::.obj pO (.row [z.2.2.1])::.obj pB (.row [.fn (.func 351) [] [.ptr pL 0]])::.obj pR (.row [I a,I (a+1),I (a+2),I s])::.obj pW (.row [.fn (.func 351) [] [.ptr pL 0]])::.obj p1 (.row [I a,I (a+1),I (a+2),I s])::.obj pL (.row [v])::.sl v 1 (aJ y.ws)::(ad m bl y rest++R)) ?_ (a0:=(0,y.word a,Ns,[])) (n0:=s.toNat) ⟨by dsimp only;omega,rfl,Ut,λ_=>rfl,λh=>absurd h ac,rfl,rfl,by simp[AV.beq]⟩
 rintro⟨k,h,vL,L⟩ n ⟨hn,hL,hh,bK,jI,o1,o2,o3⟩ ih;dsimp only at hn hL hh bK jI o1 o2 o3 ih⊢;subst hb;refine x2 ?_ ?_<;>intros
 .have hw:=Me.aj hy (a+2+h%s);have hf:0<k+1->fj (y.word (a+2+h%s)) (h/s%4294967296)->km y a s:=λ_ g=>by
   by_cases hz:0<k;.exact jI hz
   .rw[bK am] at g;exact g
  have hg:¬fj (y.word (a+2+h%s)) (h/s%4294967296)->(0<L.length↔km y a s):=λg=>by rw[hL];refine⟨jI,λwe=>Nat.pos_of_ne_zero λhz=>?_⟩;rw[bK hz] at g;exact g we
  refine Vx.aO quC ?_;refine Vx.spec (λB1 W1 S1 H=>IL am H) ?_;rintro _ _ ⟨rfl,rfl⟩;generalize y.word (a+2+h%s)=w at hw hf hg;refine z2 ?_ ?_<;>intros
  .next we=>refine⟨rfl,rfl,_,⟨L,rfl,am,hg λg=>by rw[decide_eq_true g] at we;cases we⟩,?_⟩;generalize ad m bl y rest=MM;exact quF
  .next we=>
   have we:fj w (h/s%4294967296):=Decidable.byContradiction λg=>by rw[decide_eq_false g] at we;cases we
   refine Vx.spec (λB1 W1 S1 H=>IL am H) ?_;rintro _ _ ⟨rfl,rfl⟩;have Be:=Me.aj hy (a+2+h%s);generalize y.word (a+2+h%s)=w2 at Be;repeat' first|refine Zx.t_ ?_|constructor|exact ZQ|intro _
   all_goals apply zL
   rename_i q;refine Vx.aO quD ?_;refine Vx.K9 am am λv' o1 o2 o3=>?_;have h2:=ih (k+1,(h+1)%18446744073709551616,v',L++[[I (w2%65536)]]) (n-1) am ⟨by dsimp only;omega,by simp[hL],by unfold Me.au;dsimp only;omega,λh=>absurd h ac,λg=>hf g we,o1,o2,o3⟩;dsimp only at h2;refine z1 ?_;refine Vx.aO ?_ h2;generalize ad m bl y rest=MM;exact HQ
 .refine⟨rfl,rfl,_,⟨L,rfl,am,by rw[hL];exact⟨jI,λ_=>am⟩⟩,?_⟩;generalize ad m bl y rest=MM;exact quE
end
def gZ (y:Me)(f r:Int):Nat->Bool
 |0=>true
 |n+1=>gZ y f r n&&decide (¬km y (f+n*(r+2)) r)
theorem sf {y}{f r:Int}{c:Nat}(h:km y (f+c*(r+2)) r):∀{n:Nat},c<n->gZ y f r n=false
 |0,hn=>absurd hn am
 |n+1,hn=>by
  show(gZ y f r n&&decide (¬km y (f+n*(r+2)) r))=false;by_cases e:c=n
  .subst e;rw[decide_eq_false (λg=>g h),Bool.and_false]
  .rw[sf h am,Bool.false_and]
theorem xR {y}{f r:Int}{c:Nat}(h:gZ y f r c=true)(h2:¬km y (f+c*(r+2)) r):gZ y f r (c+1)=true:=by show(gZ y f r c&&decide (¬km y (f+c*(r+2)) r))=true;rw[h,decide_eq_true h2];rfl
theorem Mk {c:Nat}{n r:Int}(hn:n<=64)(hr:1<=r/\r<=16)(h:(c:Int)<n):0<=(c:Int)*(r+2)/\(c:Int)*(r+2)<=1152:=by have h1:=Int.mul_nonneg (show 0<=(c:Int) by omega) (show 0<=r+2 by omega);have h2:=Int.mul_le_mul (show(c:Int)<=64 by omega) (show r+2<=18 by omega) am am;omega
section
variable{B0 S:AH}{W:List Nat}{R:List Own}{ro:List aF}{m bl w:Nat}{rest:List AV}{y:Me}{v vm:AV}{f n r:Int}
theorem quG {a b c d e f g mm}:Hs (a::b::c::d::e::f::g::(mm++R)) (a::b::e::f::(mm++R)):=by have h:Hs (a::b::c::d::e::f::g::(mm++(R++[]))) (a::b::e::f::(mm++(R++[]))):=HQ;rw[List.append_nil] at h;exact h
theorem quH {a b c d e mm}:Hs (a::b::c::d::e::(mm++R)) (mm++(b::c::d::e::R)):=by have h:Hs (a::b::c::d::e::(mm++(R++[]))) (mm++(b::c::d::e::(R++[]))):=HQ;rw[List.append_nil] at h;exact h
theorem quI {a b c d mm}:Hs (a::(mm++(b::c::d::R))) (mm++R):=by have h:Hs (a::(mm++(b::c::d::(R++[])))) (mm++(R++[])):=HQ;rw[List.append_nil] at h;exact h
theorem quJ {a b c d e mm}:Hs (a::(mm++(b::c::d::e::R))) (b::c::d::e::(mm++R)):=by have h:Hs (a::(mm++(b::c::d::e::(R++[])))) (b::c::d::e::(mm++(R++[]))):=HQ;rw[List.append_nil] at h;exact h
theorem quK {a b c mm}:Hs (a::b::c::(mm++R)) (mm++R):=by have h:Hs (a::b::c::(mm++(R++[]))) (mm++(R++[])):=HQ;rw[List.append_nil] at h;exact h
theorem PB (hy:y.gd)(qy:y.ws.length+rest.length=4096)(hf:0<=f/\f<4096)(hn:1<=n/\n<=64)(hr:1<=r/\r<=16)(H:Cx B0 W S (ad m bl y rest++R) ro):
  aG EM (zF 114) [.agg [I f,I n,I r],.ptr m 0] S λu S'=>∃ab,(u=B (gZ y f r n.toNat)/\ab=ad m bl y rest++R)/\Cx B0 W S' ab ro:=by
 refine y1 H rfl ?_;intros;rename_i q6 q5 q4 q3 q2 _ _ _ _ _ _ q1 q;obtain⟨N,rfl⟩:∃N:Nat,n=N:=⟨n.toNat,am⟩;rw[Int.toNat_natCast];refine Vx.Bq λb hb=>?_;refine Vx.aO quG ?_;refine Vx.inv (α:=Nat) (P:=λc n=>n+c=N/\gZ y f r c=true) (λc=>[I (c:Int)])
  (λ_=>.obj q (.loop .ready none 2 b)::.obj q1 (.row [I f,I (N:Int),I r])::.obj q4 (.row [B false])::.obj q5 (.row [.ptr m 0])::(ad m bl y rest++R)) ?_ (a0:=0) (n0:=N) ⟨am,rfl⟩
 rintro c n ⟨hc,hm⟩ ih;subst hb;by_cases du:(c:Int)<N
 .have hb:=Mk hn.2 hr du;refine x1 ?_;intros;rename_i qr;refine Vx.aO (own:=ad m bl y rest++(.obj q (.loop .busy none 2 _)::.obj q1 (.row [_,_,_])::.obj q4 (.row [_])::.obj q5 (.row [_])::R)) (by generalize ad m bl y rest=MM;exact quH) ?_;refine Vx.spec (λB1 W1 S1 H=>ZF hy qy am am H) ?_;rintro u _ ⟨L,rfl,hL,we⟩;generalize ad m bl y rest=MM at ih⊢;refine z2 ?_ ?_<;>intros
  .next h=>refine⟨rfl,rfl,_,⟨by rw[sf (we.1 (by simp only[Int.ofNat_eq_natCast] at h;omega)) (show c<N by omega)];rfl,rfl⟩,?_⟩;exact quI
  .next h=>refine Vx.aO ?_ (ih (c+1) (n-1) am ⟨am,xR hm λg=>h (by have:=we.2 g;simp only[Int.ofNat_eq_natCast];omega)⟩);exact quJ
 .obtain rfl:N=c:=am;refine x1 ?_;intros;refine⟨rfl,rfl,_,⟨by rw[hm];rfl,rfl⟩,?_⟩;generalize ad m bl y rest=MM;exact quK
end
instance rAt {w:Nat}{vm y}{a:Int}{R0}:SC EM (zF 115) [.ptr w 0,I a] (ai w vm y++R0) True (U (y.word a)) (ai w vm y++R0) where
 ok:=λ_ ro R B W S H=>by rw[lC] at H⊢;exact ar (HX H) λr S' ⟨h1,h2⟩=>⟨h1,by rw[h2];exact H⟩
instance ac5:cA 222 where
section
variable{B0 S:AH}{W:List Nat}{R:List Own}{ro:List aF}{w:Nat}{y:Me}{vm:AV}{a s f n r:Int}
theorem quL {a b c mm}:Hs (a::b::c::(mm++R)) (a::b::(c::(mm++R))):=Hs.rfl'
theorem quM {a b mm}:Hs (a::b::(mm++R)) (a::(mm++R)):=by have h:Hs (a::b::(mm++(R++[]))) (a::(mm++(R++[]))):=HQ;rw[List.append_nil] at h;exact h
theorem quN {a mm}:Hs (a::(mm++R)) (mm++R):=by have h:Hs (a::(mm++(R++[]))) (mm++(R++[])):=HQ;rw[List.append_nil] at h;exact h
theorem quP {a b c d e f g h i j mm}:Hs (a::b::c::d::e::f::g::h::i::j::(mm++R)) (mm++(j::R)):=by have h:Hs (a::b::c::d::e::f::g::h::i::j::(mm++(R++[]))) (mm++(j::(R++[]))):=HQ;rw[List.append_nil] at h;exact h
theorem quQ {a b mm}:Hs (a::(mm++(b::R))) (mm++R):=by have h:Hs (a::(mm++(b::(R++[])))) (mm++(R++[])):=HQ;rw[List.append_nil] at h;exact h
theorem quR {a b mm}:Hs (a::(mm++(b::R))) (b::(mm++R)):=by have h:Hs (a::(mm++(b::(R++[])))) (b::(mm++(R++[]))):=HQ;rw[List.append_nil] at h;exact h
theorem ZG (hy:y.gd)(ha:0<=a/\a<=90000)(hs:1<=s/\s<=4096)(H:Cx B0 W S (ai w vm y++R) ro):
  aG EM (zF 355) [.agg [I a,I (a+1),I (a+2),I s],.ptr w 0] S λu S'=>∃ab,(∃L,ab=.sl u 1 L::(ai w vm y++R)/\L.length<=4096/\(0<L.length↔km y a s))/\Cx B0 W S' ab ro:=by
 have Ut:=Me.aj hy a;refine y1 H rfl ?_;intros;rename_i p1 _ _;refine Vx.PA ?_;refine Vx.inv (α:=Nat×Int×AV×List (List AV)) (P:=λz n=>n+z.1=s.toNat/\z.2.2.2.length=z.1/\Me.au z.2.1/\(z.1=0->z.2.1=y.word a)/\(0<z.1->km y a s)) (λz=>[U z.2.1,z.2.2.1])
  (λz=>.sl z.2.2.1 1 z.2.2.2::.obj p1 (.row [I a,I (a+1),I (a+2),I s])::(ai w vm y++R)) ?_ (a0:=(0,y.word a,Ns,[])) (n0:=s.toNat) ⟨by dsimp only;omega,rfl,Ut,λ_=>rfl,λh=>absurd h ac⟩
 rintro⟨k,h,vL,L⟩ n ⟨hn,hL,hh,bK,jI⟩ ih;dsimp only at hn hL hh bK jI ih⊢;have hw:=Me.aj hy (a+2+h%s);have hf:fj (y.word (a+2+h%s)) (h/s%4294967296)->km y a s:=λg=>by
  by_cases hz:0<k;.exact jI hz
  .rw[bK am] at g;exact g
 have hg:¬fj (y.word (a+2+h%s)) (h/s%4294967296)->(0<L.length↔km y a s):=λg=>by rw[hL];refine⟨jI,λwe=>Nat.pos_of_ne_zero λhz=>?_⟩;rw[bK hz] at g;exact g we
 refine Zx.ok (n:=false) ?_;repeat' first|refine Zx.t_ ?_|constructor|exact ZQ|intro _
 all_goals apply zL
 .next hl we q=>simp only[Int.ofNat_eq_natCast] at hl;have Be:0<=y.word (a+2+h%s)%65536:=am;generalize y.word (a+2+h%s)%65536=w2 at Be;generalize ai w vm y=MM at ih⊢;refine Vx.aO quL ?_;refine Vx.K9 am am λv' o1 o2 o3=>?_;have h2:=ih (k+1,(h+1)%18446744073709551616,v',L++[[I w2]]) (n-1) am ⟨by dsimp only;omega,by simp[hL],by unfold Me.au;dsimp only;omega,λh=>absurd h ac,λg=>hf we⟩;exact zZ
 .next hl we=>simp only[Int.ofNat_eq_natCast] at hl;exact⟨rfl,rfl,_,⟨L,rfl,am,hg we⟩,quM⟩
 .next hl=>simp only[Int.ofNat_eq_natCast] at hl;exact⟨rfl,rfl,_,⟨L,rfl,am,by rw[hL];exact⟨jI,λ_=>am⟩⟩,quM⟩
theorem PC (hy:y.gd)(hf:0<=f/\f<4096)(hn:1<=n/\n<=64)(hr:1<=r/\r<=16)(H:Cx B0 W S (ai w vm y++R) ro):
  aG EM (zF 116) [.agg [I f,I n,I r],.ptr w 0] S λu S'=>∃ab,(u=B (gZ y f r n.toNat)/\ab=ai w vm y++R)/\Cx B0 W S' ab ro:=by
 refine y1 H rfl ?_;intros;rename_i p1;obtain⟨N,rfl⟩:∃N:Nat,n=N:=⟨n.toNat,am⟩;rw[Int.toNat_natCast];refine Vx.inv (α:=Nat) (P:=λc n=>n+c=N/\gZ y f r c=true) (λc=>[I (c:Int),B false])
  (λ_=>.obj p1 (.row [I f,I (N:Int),I r])::(ai w vm y++R)) ?_ (a0:=0) (n0:=N) ⟨am,rfl⟩
 rintro c n ⟨hc,hm⟩ ih;by_cases du:(c:Int)<N
 .have hb:=Mk hn.2 hr du;refine x1 ?_;intros;refine Vx.aO quP ?_;refine Vx.spec (λB1 W1 S1 H=>ZG hy am am H) ?_;rintro u _ ⟨L,rfl,hL,we⟩;generalize ai w vm y=MM at ih⊢;refine z2 ?_ ?_<;>intros
  .next h=>exact⟨rfl,rfl,_,⟨by rw[sf (we.1 (by simp only[Int.ofNat_eq_natCast] at h;omega)) (show c<N by omega)];rfl,rfl⟩,quQ⟩
  .next h=>exact Vx.aO quR (ih (c+1) (n-1) am ⟨am,xR hm λg=>h (by have:=we.2 g;simp only[Int.ofNat_eq_natCast];omega)⟩)
 .obtain rfl:N=c:=am;refine x1 ?_;intros;exact⟨rfl,rfl,_,⟨by rw[hm];rfl,rfl⟩,quN⟩
end
def wg (y:Me)(f:Int):Nat->Bool
 |0=>true
 |n+1=>wg y f n&&decide (y.word (f+n)=0)
theorem zl {y}{f:Int}{c:Nat}(h:y.word (f+c)≠0):∀{n:Nat},c<n->wg y f n=false
 |0,hn=>absurd hn am
 |n+1,hn=>by
  show(wg y f n&&decide (y.word (f+n)=0))=false;by_cases e:c=n
  .subst e;rw[decide_eq_false h,Bool.and_false]
  .rw[zl h am,Bool.false_and]
theorem DY {y}{f:Int}{c:Nat}(h:wg y f c=true)(h2:y.word (f+c)=0):wg y f (c+1)=true:=by show(wg y f c&&decide (y.word (f+c)=0))=true;rw[h,decide_eq_true h2];rfl
def fJ (y:Me)(f:Int):Nat->List Int
 |0=>[]
 |n+1=>fJ y f n++[y.word (f+n)]
def kN (y:Me)(f:Int):Nat->List (List AV)
 |0=>[]
 |n+1=>kN y f n++[[B (decide (y.word (f+n)≠0))]]
theorem gB {y}{f:Int}:∀n,(fJ y f n).length=n
 |0=>rfl
 |n+1=>by unfold fJ;rw[List.length_append,gB n];rfl
theorem lI {y}{f:Int}:∀n,(kN y f n).length=n
 |0=>rfl
 |n+1=>by unfold kN;rw[List.length_append,lI n];rfl
theorem DZ {y}{f:Int}{i:Nat}:∀{n:Nat},i<n->(fJ y f n)[i]?=some (y.word (f+i))
 |0,h=>absurd h am
 |n+1,h=>by
  unfold fJ;by_cases e:i<n;.rw[List.getElem?_append_left (by rw[gB];exact e),DZ e]
  .obtain rfl:i=n:=am;rw[List.getElem?_append_right (by rw[gB];exact Nat.le_refl _),gB,Nat.sub_self];rfl
theorem D0 {y}{f:Int}{i:Nat}:∀{n:Nat},i<n->(kN y f n)[i]?=some [B (decide (y.word (f+i)≠0))]
 |0,h=>absurd h am
 |n+1,h=>by
  unfold kN;by_cases e:i<n;.rw[List.getElem?_append_left (by rw[lI];exact e),D0 e]
  .obtain rfl:i=n:=am;rw[List.getElem?_append_right (by rw[lI];exact Nat.le_refl _),lI,Nat.sub_self];rfl
theorem Zx.PD {M own ro Φ K z}{bytes:Nat}{n k}(h:bL (Vx M (.op (.g_ 1 bytes z n n) k) K own ro Φ)):Zx M false (.op (.g_ 1 bytes z n n) k) K own ro Φ:=.z h
theorem Vx.ZH {M own ro Φ K z}{bytes n:Nat}{k}(hb:bytes*n<=140737488355328)(hn:n<=9223372036854775807)(h:∀t,Vx M (k t) K (.sl t 1 (List.replicate n [z])::own) ro Φ):Vx M (.op (.g_ 1 bytes [z] (I (n:Int)) (I (n:Int))) k) K own ro Φ:=λB W S H=>nK H hb hn λt S1 H1=>h t B W S1 H1
section
variable{B0 S:AH}{W:List Nat}{R:List Own}{ro:List aF}{m bl:Nat}{rest:List AV}{y:Me}{g1 g2 f:Int}{n:Nat}
theorem quS {a b mm}:Hs (a::(mm++(b::R))) (a::b::(mm++R)):=by have h:Hs (a::(mm++(b::(R++[])))) (a::b::(mm++(R++[]))):=HQ;rw[List.append_nil] at h;exact h
theorem quT {a b c mm}:Hs (a::b::c::(mm++R)) (a::(mm++R)):=by have h:Hs (a::b::c::(mm++(R++[]))) (a::(mm++(R++[]))):=HQ;rw[List.append_nil] at h;exact h
theorem D1 {y}{f w:Int}{c n:Nat}(h:c<n):(fJ y f c++List.replicate (n-c) 0).set c w=(fJ y f c++[w])++List.replicate (n-(c+1)) 0:=by rw[List.set_append_right _ _ (by rw[gB];exact Nat.le_refl _),gB,Nat.sub_self,show n-c=(n-(c+1))+1 by omega,List.replicate_succ,lC];rfl
theorem PE {a mm}:Hs (a::(mm++R)) (mm++(a::R)):=by have h:Hs (a::(mm++(R++[]))) (mm++(a::(R++[]))):=HQ;rw[List.append_nil] at h;exact h
theorem quU {a b c mm}:Hs (a::b::(mm++(c::R))) (a::(mm++R)):=by have h:Hs (a::b::(mm++(c::(R++[])))) (a::(mm++(R++[]))):=HQ;rw[List.append_nil] at h;exact h
theorem ZI (hy:y.gd)(hr:y.ws.length+rest.length=4096)(hf:0<=f/\f<4096)(hn:1<=n/\n<=64)(H:Cx B0 W S (ad m bl y rest++R) ro):
  aG EM (zF 220) [.agg [I g1,I g2,I (n:Int)],I f,.ptr m 0] S λu S'=>∃ab,(ab=.sl u 1 (aJ (fJ y f n))::(ad m bl y rest++R))/\Cx B0 W S' ab ro:=by
 refine y1 H rfl ?_;intros;rename_i p1 p2 _ _;refine Vx.aO (own:=ad m bl y rest++(.obj p1 (.row [_,_,_])::R)) (by generalize ad m bl y rest=MM;exact quA) ?_;refine Vx.spec (Ψ:=λu ab=>ab=.sl u 1 (aJ y.ws)::_) (λB1 W1 S1 H=>ar (v_ hy hr H) λr S' h=>⟨_,rfl,h⟩) ?_;rintro v _ rfl;have el:=bZ y.ws;refine Zx.aO (own:=.sl v 1 (aJ y.ws)::.obj p1 (.row [_,_,_])::(ad m bl y rest++R)) (by generalize ad m bl y rest=MM;exact quS) ?_;generalize ad m bl y rest=MM;repeat' first|refine Zx.PD ?_|constructor|exact ZQ|intro _
 all_goals apply zL
 refine Vx.ZH am am λt=>?_;refine x1 ?_;simp only[List.length_replicate,Int.ofNat_eq_natCast];rw[show List.replicate n [U 0]=aJ (fJ y f 0++List.replicate (n-0) 0) from by simp[fJ,aJ]];refine Vx.inv (α:=Nat) (P:=λc k=>k+c=n) (λc=>[I (c:Int)]) (λc=>.sl t 1 (aJ (fJ y f c++List.replicate (n-c) 0))::.sl v 1 (aJ y.ws)::.obj p1 (.row [I g1,I g2,I (n:Int)])::(MM++R)) ?_ (a0:=0) (n0:=n) rfl;rintro c k hc ih;by_cases du:c<n
 .have h2:=ih (c+1) (k-1) am am;rw[show fJ y f (c+1)=fJ y f c++[y.word (f+c)] from rfl,<-D1 du] at h2;refine x3 ?_ ?_ ?_<;>intros
  all_goals(simp only[Int.ofNat_eq_natCast,el] at*)
  .omega
  .refine Zx.ok (n:=false) (Zx.sls am (by rw[bZ,List.length_append,gB,List.length_replicate];omega) rfl rfl ?_);rw[show(y.ws[(f+(c:Int)).toNat]?.getD 0)=y.word (f+c) from(if_pos ⟨am,am⟩:y.word (f+c)=_).symm,show(aJ (fJ y f c++List.replicate (n-c) 0)).set (c:Int).toNat (U (y.word (f+c))).cells=aJ ((fJ y f c++List.replicate (n-c) 0).set c (y.word (f+c))) from xo ..];exact zZ
  .rw[show y.word (f+c)=0 from if_neg (λh=>by have:=h.2;omega),D1 du,lC,show [(0:Int)]++List.replicate (n-(c+1)) 0=List.replicate (n-c) 0 from by rw[show n-c=(n-(c+1))+1 by omega,List.replicate_succ];rfl] at h2;exact h2
 .obtain rfl:n=c:=am;refine x1 ?_;intros;rw[Nat.sub_self,List.replicate_zero,List.append_nil];exact⟨rfl,rfl,_,rfl,quT⟩
theorem PF (hy:y.gd)(hr:y.ws.length+rest.length=4096)(hf:0<=f/\f<4096)(hn:1<=n/\n<=64)(H:Cx B0 W S (ad m bl y rest++R) ro):
  aG EM (zF 113) [.agg [I g1,I f,I (n:Int)],.ptr m 0] S λu S'=>∃ab,(ab=.sl u 1 (kN y f n)::(ad m bl y rest++R))/\Cx B0 W S' ab ro:=by
 have el:=bZ (fJ y f n);rw[gB] at el;refine y1 H rfl ?_;intros;rename_i p1;refine Vx.aO (own:=ad m bl y rest++(.obj p1 (.row [_,_,_])::R)) (by generalize ad m bl y rest=MM;exact PE) ?_;refine Vx.spec (λB1 W1 S1 H=>ZI hy hr hf hn H) ?_;rintro v _ rfl;generalize ad m bl y rest=MM;refine z1 ?_;simp only[Int.ofNat_eq_natCast,el];refine Vx.PA ?_;refine Vx.inv (α:=Nat×AV) (P:=λc k=>k+c.1=n) (λc=>[I (c.1:Int),c.2]) (λc=>.sl c.2 1 (kN y f c.1)::.sl v 1 (aJ (fJ y f n))::(MM++(.obj p1 (.row [I g1,I f,I (n:Int)])::R))) ?_ (a0:=(0,Ns)) (n0:=n) rfl;rintro⟨c,vL⟩ k hc ih;dsimp only at hc ih⊢;have hrl:=lI (y:=y) (f:=f) c;by_cases du:c<n
 .have hgw:(fJ y f n)[(c:Int).toNat]?.getD 0=y.word (f+c):=by rw[Int.toNat_natCast,DZ du];rfl
  refine Zx.ok (n:=false) ?_;repeat' first|refine Zx.t_ ?_|constructor|exact ZQ|intro _
  all_goals apply zL
  all_goals(simp only[Int.ofNat_eq_natCast,el,gB] at*)
  .omega
  .next he q=>rw[hgw] at he;refine Vx.K9 am am λv' _ _ _=>?_;have h2:=ih (c+1,v') (k-1) am (by dsimp only;omega);dsimp only at h2;rw[show kN y f (c+1)=kN y f c++[[B (decide (y.word (f+c)≠0))]] from rfl,decide_eq_true he] at h2;exact zZ
  .next he q=>rw[hgw] at he;refine Vx.K9 am am λv' _ _ _=>?_;have h2:=ih (c+1,v') (k-1) am (by dsimp only;omega);dsimp only at h2;rw[show kN y f (c+1)=kN y f c++[[B (decide (y.word (f+c)≠0))]] from rfl,decide_eq_false he] at h2;exact zZ
 .obtain rfl:n=c:=am;refine x1 ?_;intros;exact⟨rfl,rfl,_,rfl,quU⟩
end
instance rowAt {y}{f:Int}{n c:Nat}:LL (kN y f n) (c:Int) (c<n) (B (decide (y.word (f+c)≠0))):=⟨λh=>⟨c,rfl,D0 h⟩⟩
def qb (x:Xc)(y:Me):Bool:=wg y x.r.flags x.r.ae.toNat&&gZ y x.fZ x.room x.r.ae.toNat
section
variable{B0 S:AH}{W:List Nat}{R:List Own}{ro:List aF}{m bl w:Nat}{rest:List AV}{x:Xc}{y:Me}{v vm:AV}{l:List cX.Tk}
theorem quV {a b mm}:Hs (a::(mm++(b::R))) (mm++(b::R)):=by have h:Hs (a::(mm++(b::(R++[])))) (mm++(b::(R++[]))):=HQ;rw[List.append_nil] at h;exact h
theorem UB {b mm}:Hs (mm++(b::R)) (mm++R):=by have h:Hs (mm++(b::(R++[]))) (mm++(R++[])):=HQ;rw[List.append_nil] at h;exact h
theorem IM (hx:x.ok)(hv:aF.sl v 4 (cX.dm l)∈ro)(hs:x.ex.ok l)(hy:y.gd)(hr:y.ws.length+rest.length=4096)(H:Cx B0 W S (ad m bl y rest++R) ro):
  aG EM (zF 35) [.agg (x.cs++[v]),.ptr m 0] S λu S'=>∃ab,(u=B (qb x y)/\ab=ad m bl y rest++R)/\Cx B0 W S' ab ro:=by
 obtain⟨ov,cv,bv⟩:=bx (H.eT hv).1;obtain⟨_,_,Fj,_,zu,_,e1,e2,_⟩:=hx;unfold Rs.ok at Fj;obtain⟨N,hN⟩:∃N:Nat,x.r.ae=N:=⟨x.r.ae.toNat,am⟩;have ZJ:x.aI=N:=am;have ZK:qb x y=(wg y x.r.flags N&&gZ y x.fZ x.room N):=by unfold qb;rw[hN,Int.toNat_natCast]
 rw[ZK];simp only[Xc.cs,Tw.cs,Lb.cs,Ar.cs,Ep.cs,lA,lB];refine y1 H rfl ?_;intros;refine Vx.spec (Ψ:=λu ab=>u=B true/\ab=_) (λB1 W1 S1 H=>ar (X.lG (e:=x.ex) hv H) λr S' h=>⟨_,⟨h.1.trans (congrArg B (decide_eq_true hs)),rfl⟩,H.grow h.2⟩) ?_;rintro _ _ ⟨rfl,rfl⟩;refine z1 ?_;rename_i p1;refine Vx.aO PE ?_;rw[hN,ZJ];refine Vx.spec (λB1 W1 S1 H=>PF hy hr am am H) ?_;rintro u _ rfl;have hrl:=lI (y:=y) (f:=x.r.flags) N;refine z1 ?_;simp only[hrl,Int.ofNat_eq_natCast];generalize hM:ad m bl y rest=MM;refine Vx.inv (α:=Nat) (P:=λc k=>k+c=N/\wg y x.r.flags c=true) (λc=>[I (c:Int),B false]) (λc=>.sl u 1 (kN y x.r.flags N)::(MM++(.obj p1 (.row [I x.t.nd,I x.t.hd,I x.t.ht,I x.t.l.a.f.top,I x.t.l.a.f.eI,I x.t.l.a.f.size,I x.t.l.a.iY,I x.t.l.a.iJ,I x.t.l.a.Dk,I x.t.l.e.cg,I x.t.l.e.pins,I x.t.l.e.ae,I x.t.l.rP,I x.b5,I x.many,I x.j.bs,I x.j.keys,I x.j.f.top,I x.j.f.eI,I x.j.f.size,I x.fZ,I (N:Int),I x.room,I x.r.runs,I x.r.flags,I (N:Int),I x.own,I x.seq,v])::R))) ?_ (a0:=0) (n0:=N) ⟨am,rfl⟩;rintro c k ⟨hc,hm⟩ ih;by_cases du:c<N
 .refine x2 ?_ ?_<;>intros
  .next he=>exact⟨rfl,rfl,_,⟨by rw[zl he du];rfl,rfl⟩,quQ⟩
  .next he=>exact ih (c+1) (k-1) am ⟨am,DY hm (Decidable.not_not.1 he)⟩
 .obtain rfl:N=c:=am;refine x1 ?_;intros;subst hM;refine Vx.aO quV ?_;refine Vx.spec (λB1 W1 S1 H=>PB hy hr zu.1 am zu.2.2 H) ?_;rintro _ _ ⟨rfl,rfl⟩;rw[Int.toNat_natCast];generalize ad m bl y rest=MM;refine z1 ?_;exact⟨rfl,rfl,_,⟨by rw[hm,Bool.true_and];rfl,rfl⟩,UB⟩
theorem IP (hx:x.ok)(hv:aF.sl v 4 (cX.dm l)∈ro)(hs:x.ex.ok l)(hy:y.gd)(H:Cx B0 W S (ai w vm y++R) ro):
  aG EM (zF 36) [.agg (x.cs++[v]),.ptr w 0] S λu S'=>∃ab,(u=B (qb x y)/\ab=ai w vm y++R)/\Cx B0 W S' ab ro:=by
 obtain⟨ov,cv,bv⟩:=bx (H.eT hv).1;obtain⟨_,_,Fj,_,zu,_,e1,e2,_⟩:=hx;unfold Rs.ok at Fj;obtain⟨N,hN⟩:∃N:Nat,x.r.ae=N:=⟨x.r.ae.toNat,am⟩;have ZJ:x.aI=N:=am;have ZK:qb x y=(wg y x.r.flags N&&gZ y x.fZ x.room N):=by unfold qb;rw[hN,Int.toNat_natCast]
 rw[ZK];simp only[Xc.cs,Tw.cs,Lb.cs,Ar.cs,Ep.cs,lA,lB];refine y1 H rfl ?_;intros;refine Vx.spec (Ψ:=λu ab=>u=B true/\ab=_) (λB1 W1 S1 H=>ar (X.eC (e:=x.ex) hv H) λr S' h=>⟨_,⟨h.1.trans (congrArg B (decide_eq_true hs)),rfl⟩,H.grow h.2⟩) ?_;rintro _ _ ⟨rfl,rfl⟩;refine z1 ?_;rename_i p1;rw[hN,ZJ];refine Vx.inv (α:=Nat) (P:=λc k=>k+c=N/\wg y x.r.flags c=true) (λc=>[I (c:Int),B false]) (λc=>(.obj p1 (.row [I x.t.nd,I x.t.hd,I x.t.ht,I x.t.l.a.f.top,I x.t.l.a.f.eI,I x.t.l.a.f.size,I x.t.l.a.iY,I x.t.l.a.iJ,I x.t.l.a.Dk,I x.t.l.e.cg,I x.t.l.e.pins,I x.t.l.e.ae,I x.t.l.rP,I x.b5,I x.many,I x.j.bs,I x.j.keys,I x.j.f.top,I x.j.f.eI,I x.j.f.size,I x.fZ,I (N:Int),I x.room,I x.r.runs,I x.r.flags,I (N:Int),I x.own,I x.seq,v])::(ai w vm y++R))) ?_ (a0:=0) (n0:=N) ⟨am,rfl⟩;rintro c k ⟨hc,hm⟩ ih;by_cases du:c<N
 .refine x2 ?_ ?_<;>intros
  .next he=>exact⟨rfl,rfl,_,⟨by rw[zl he du];rfl,rfl⟩,quN⟩
  .next he=>exact ih (c+1) (k-1) am ⟨am,DY hm (Decidable.not_not.1 he)⟩
 .obtain rfl:N=c:=am;refine x1 ?_;intros;refine Vx.aO PE ?_;refine Vx.spec (λB1 W1 S1 H=>PC hy zu.1 am zu.2.2 H) ?_;rintro _ _ ⟨rfl,rfl⟩;rw[Int.toNat_natCast];generalize ai w vm y=MM;refine z1 ?_;exact⟨rfl,rfl,_,⟨by rw[hm,Bool.true_and];rfl,rfl⟩,UB⟩
end
end Go.cI
