/- Contracts. Conditions: in each theorem. -/
import Derived.Test.YtdfgboafnklioaaGreatM80
set_option linter.all false
set_option maxRecDepth 100000
set_option maxHeartbeats 4000000
namespace Go.cO
open Go.Proofs
section
variable{B0 S:AH}{W:List Nat}{R:List Own}{ro:List aB}{m bl d sd a:Nat}{rest:List AV}{x:Xc}{v dv vo:AV}{l:List dZ.Tk}{L:List Int}{y:Me}{ls:List (Option Sd)}
theorem fS.app {a b}(h:fS x v ro a)(h2:fS x v ro b):fS x v ro (a++b):=λs hs=>(List.mem_append.1 hs).elim (h s) (h2 s)
theorem fS.one {s}(h:eP x s.s.o s.q s.s.b s.s.σ s.lo)(h2:si x v ro s.s):fS x v ro [some s]:=λt ht=>by cases List.mem_singleton.1 ht;exact⟨h,h2⟩
theorem fS.no:fS x v ro [none]:=λt ht=>by cases List.mem_singleton.1 ht
end
section
variable{M:cQ}{own:List Own}{ro:List aB}{Φ:gn}{K:List Kf}
end
section
variable{B0 S:AH}{W:List Nat}{R:List Own}{ro:List aB}{m d a:Nat}{x:Xc}{v vm dv vo:AV}{l:List dZ.Tk}{L:List Int}{y:Me}{N:Int}{ls:List (Option Sd)}
section
variable{kv c3 c2 c1:Own}{mm dr sa sb lo R:List Own}
end
end
def L6 (y:Me)(a s:Int):Prop:=jd (y.word (a+2+y.word a%s)) (y.word a/s%4294967296)
instance acw (y:Me)(a s:Int):Decidable (L6 y a s):=inferInstanceAs (Decidable (jd _ _))
section
variable{M:cQ}{own R:List Own}{ro:List aB}{Φ:gn}{K:List Kf}{v w:AV}{L:List (List AV)}{c:List AV}
theorem Vx.Y9 {x}{p n:Nat}(hc:c=L.flatten)(hn:L.length=n)(D3:∀x∈L,x.length=1)(h:Vx M x K R (.sl (.sl p 0 n n) 1 L::.pt p 0 c::ro) Φ):Vx M x K (.obj p (.row c)::R) ro Φ:=λB W S H=>by
 have hg:=dh (H.oh _ (List.Mem.head _));have H1:=H.freeze (i:=0) rfl;have hf:c.length=n*1:=by rw[hc,bm D3,hn]
 refine h B W S (H1.uP (φ:=.sl (.sl p 0 n n) 1 L) (.inr ⟨p,0,c,.inl ⟨n,am,am,by rw[hn]⟩,hg,?_,D3⟩) λj hj=>?_);.rw[List.drop_zero,hn,<-hf,List.take_length,hc]
 .exact H1.ri _ (List.Mem.head _) j hj
theorem Vx.Y_ {x}(h:Vx M x K (.sl Ns 1 []::R) ro Φ):Vx M x K R ro Φ:=λB W S H=>h B W S (H.tT 1)
end
instance acx:cH 352 where
instance acy:cH 466 where
section
variable{B0 S:AH}{W:List Nat}{R:List Own}{ro:List aB}{m bl w pl:Nat}{rest:List AV}{y:Me}{v vm:AV}{a s:Int}
end
def Iy (y:Me)(f r:Int):Nat->Bool
 |0=>true
 |n+1=>Iy y f r n&&decide (¬L6 y (f+n*(r+2)) r)
section
variable{B0 S:AH}{W:List Nat}{R:List Own}{ro:List aB}{m bl w:Nat}{rest:List AV}{y:Me}{v vm:AV}{f n r:Int}
end
instance rAt {w:Nat}{vm y}{a:Int}{R0}:SC EM (zF 115) [.ptr w 0,I a] (ai w vm y++R0) True (U (y.word a)) (ai w vm y++R0) where
 ok:=λ_ ro R B W S H=>by rw[lC] at H⊢;exact aw (HU H) λr S' ⟨h1,h2⟩=>⟨h1,by rw[h2];exact H⟩
instance acz:cH 222 where
section
variable{B0 S:AH}{W:List Nat}{R:List Own}{ro:List aB}{w:Nat}{y:Me}{vm:AV}{a s f n r:Int}
end
def Uu (y:Me)(f:Int):Nat->Bool
 |0=>true
 |n+1=>Uu y f n&&decide (y.word (f+n)=0)
def pS (y:Me)(f:Int):Nat->List Int
 |0=>[]
 |n+1=>pS y f n++[y.word (f+n)]
def qY (y:Me)(f:Int):Nat->List (List AV)
 |0=>[]
 |n+1=>qY y f n++[[B (decide (y.word (f+n)≠0))]]
theorem rz {y}{f:Int}:∀n,(qY y f n).length=n
 |0=>rfl
 |n+1=>by unfold qY;rw[List.length_append,rz n];rfl
theorem DM {y}{f:Int}{i:Nat}:∀{n:Nat},i<n->(qY y f n)[i]?=some [B (decide (y.word (f+i)≠0))]
 |0,h=>absurd h am
 |n+1,h=>by
  unfold qY;by_cases e:i<n;.rw[List.getElem?_append_left (by rw[rz];exact e),DM e]
  .obtain rfl:i=n:=am;rw[List.getElem?_append_right (by rw[rz];exact Nat.le_refl _),rz,Nat.sub_self];rfl
theorem Zx.y7 {M own ro Φ K z}{bytes:Nat}{n k}(h:bL (Vx M (.op (.gL 1 bytes z n n) k) K own ro Φ)):Zx M false (.op (.gL 1 bytes z n n) k) K own ro Φ:=.z h
theorem Vx.Uv {M own ro Φ K z}{bytes n:Nat}{k}(hb:bytes*n<=140737488355328)(hn:n<=9223372036854775807)(h:∀t,Vx M (k t) K (.sl t 1 (List.replicate n [z])::own) ro Φ):Vx M (.op (.gL 1 bytes [z] (I (n:Int)) (I (n:Int))) k) K own ro Φ:=λB W S H=>n8 H hb hn λt S1 H1=>h t B W S1 H1
section
variable{B0 S:AH}{W:List Nat}{R:List Own}{ro:List aB}{m bl:Nat}{rest:List AV}{y:Me}{g1 g2 f:Int}{n:Nat}
end
instance rowAt {y}{f:Int}{n c:Nat}:LD (qY y f n) (c:Int) (c<n) (B (decide (y.word (f+c)≠0))):=⟨λh=>⟨c,rfl,DM h⟩⟩
def qb (x:Xc)(y:Me):Bool:=Uu y x.r.flags x.r.ah.toNat&&Iy y x.iW x.room x.r.ah.toNat
section
variable{B0 S:AH}{W:List Nat}{R:List Own}{ro:List aB}{m bl w:Nat}{rest:List AV}{x:Xc}{y:Me}{v vm:AV}{l:List dZ.Tk}
end
def toP (s:Option Pg):Option Sd:=s.map λs=>⟨⟨s.o,s.σ,s.b⟩,s.q,s.hg,s.lo⟩
def toD (s:Option Pg):Option Sd:=s.map λs=>⟨⟨s.o,s.σ,s.b⟩,s.q',s.hg,s.ki⟩
theorem n9.P {x v ro l}(h:n9 x v ro l):fS x v ro (l.map toP):=λs hs=>by
 obtain⟨t,ht,e⟩:=List.mem_map.1 hs;cases t with
 |none=>cases e
 |some t=>cases e;have:=h t ht;exact⟨this.p,this.k,this.w,this.z,this.t⟩
theorem n9.D {x v ro l}(h:n9 x v ro l):mP x v ro (l.map toD):=λs hs=>by
 obtain⟨t,ht,e⟩:=List.mem_map.1 hs;cases t with
 |none=>cases e
 |some t=>cases e;have:=h t ht;exact⟨this.d,this.k,this.w,this.z,this.t⟩
theorem Iz {B0 S W R ro x v s a b}(hc:co a=co b)(ha:pv a=pA s)(hb:pv b=pB s)(hP:∀t,a=some t->eP x t.s.o t.q t.s.b t.s.σ t.lo/\si x v ro t.s)(hD:∀t,b=some t->bU x t.s.o v t.h t.q t.s.b t.s.σ t.lo/\si x v ro t.s)(H:Cx B0 W S (so a++(so b++R)) ro):
  aG EM (zF 22) [.agg [pA s,pB s]] S λu S'=>∃ab,(u=B true/\ab=so a++(so b++R))/\Cx B0 W S' ab ro:=by
 rw[<-ha,<-hb];cases a with
 |none=>
  cases b with
  |none=>exact A_ H
  |some b=>cases hc
 |some a=>
  cases b with
  |none=>cases hc
  |some b=>
   have hc:a.s=b.s:=by injection hc
   have h1:=hP a rfl;have h2:=hD b rfl;rw[<-hc] at h2;exact A6 h1.2.z h1.1 h2.1 H
section
variable{M:cQ}{own R:List Own}{ro:List aB}{Φ:gn}{K:List Kf}{v w:AV}{L:List (List AV)}{c:List AV}
end
section
variable{a b:Own}{mm rr ss dd ee R:List Own}
end
theorem Pj:fx EM.P 2 71=some [some .i64,some .i64,some .u64,some .u64,none]:=by kernel_rfl
theorem Uw:EM.P.eqGuardType EM.P.depth 71=false:=by kernel_rfl
theorem Ux:lV EM.P 71=true:=by kernel_rfl
section
variable{B0 S:AH}{W:List Nat}{R:List Own}{ro:List aB}{L:List Int}{d s a:Nat}{v:AV}
end
end Go.cO
