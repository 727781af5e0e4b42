/- Contracts. Conditions: in each theorem. -/
import Derived.Test.YtdfgboafnklioaaGreatM80
import Derived.Test.YtdfgboafnklioaaGreatM81
set_option linter.all false
set_option maxRecDepth 100000
set_option maxHeartbeats 4000000
namespace Go.cG
open Go.Proofs
def Mx (y:Me)(a s:Int):Prop:=jh (y.word (a+2+y.word a%s)) (y.word a/s%4294967296)
instance ac2 (y:Me)(a s:Int):Decidable (Mx y a s):=inferInstanceAs (Decidable (jh _ _))
section
variable{M:cP}{own R:List Own}{ro:List aI}{Φ:gz}{K:List Kf}{v w:AV}{L:List (List AV)}{c:List AV}
theorem Vx.Zv {x}{p n:Nat}(hc:c=L.flatten)(hn:L.length=n)(zt:∀x∈L,x.length=1)(h:Vx M x K R (.sl (.sl p 0 n n) 1 L::.pt p 0 c::ro) Φ):Vx M x K (.obj p (.row c)::R) ro Φ:=λB W S H=>by
 have hg:=ef (H.oh _ (List.Mem.head _));have H1:=H.freeze (i:=0) rfl;have hf:c.length=n*1:=by rw[hc,bB zt,hn]
 refine h B W S (H1.qX (φ:=.sl (.sl p 0 n n) 1 L) (.inr ⟨p,0,c,.inl ⟨n,am,am,by rw[hn]⟩,hg,?_,zt⟩) λj hj=>?_);.rw[List.drop_zero,hn,<-hf,List.take_length,hc]
 .exact H1.ri _ (List.Mem.head _) j hj
theorem Vx.Zw {x}(h:Vx M x K (.sl Ns 1 []::R) ro Φ):Vx M x K R ro Φ:=λB W S H=>h B W S (H.K1 1)
end
instance ac3:cK 352 where
instance ac4:cK 466 where
section
variable{B0 S:AH}{W:List Nat}{R:List Own}{ro:List aI}{m bl w pl:Nat}{rest:List AV}{y:Me}{v vm:AV}{a s:Int}
end
def I5 (y:Me)(f r:Int):Nat->Bool
 |0=>true
 |n+1=>I5 y f r n&&decide (¬Mx y (f+n*(r+2)) r)
section
variable{B0 S:AH}{W:List Nat}{R:List Own}{ro:List aI}{m bl w:Nat}{rest:List AV}{y:Me}{v vm:AV}{f n r:Int}
end
instance rAt {w:Nat}{vm y}{a:Int}{R0}:SC EM (zF 115) [.ptr w 0,I a] (ai w vm y++R0) True (U (y.word a)) (ai w vm y++R0) where
 ok:=λ_ ro R B W S H=>by rw[lC] at H⊢;exact az (Is H) λr S' ⟨h1,h2⟩=>⟨h1,by rw[h2];exact H⟩
instance ac5:cK 222 where
section
variable{B0 S:AH}{W:List Nat}{R:List Own}{ro:List aI}{w:Nat}{y:Me}{vm:AV}{a s f n r:Int}
end
def UC (y:Me)(f:Int):Nat->Bool
 |0=>true
 |n+1=>UC y f n&&decide (y.word (f+n)=0)
def pY (y:Me)(f:Int):Nat->List Int
 |0=>[]
 |n+1=>pY y f n++[y.word (f+n)]
def rz (y:Me)(f:Int):Nat->List (List AV)
 |0=>[]
 |n+1=>rz y f n++[[B (decide (y.word (f+n)≠0))]]
theorem rK {y}{f:Int}:∀n,(rz y f n).length=n
 |0=>rfl
 |n+1=>by unfold rz;rw[List.length_append,rK n];rfl
theorem D4 {y}{f:Int}{i:Nat}:∀{n:Nat},i<n->(rz y f n)[i]?=some [B (decide (y.word (f+i)≠0))]
 |0,h=>absurd h am
 |n+1,h=>by
  unfold rz;by_cases e:i<n;.rw[List.getElem?_append_left (by rw[rK];exact e),D4 e]
  .obtain rfl:i=n:=am;rw[List.getElem?_append_right (by rw[rK];exact Nat.le_refl _),rK,Nat.sub_self];rfl
theorem Zx.CM {M own ro Φ K z}{bytes:Nat}{n k}(h:bP (Vx M (.op (.gS 1 bytes z n n) k) K own ro Φ)):Zx M false (.op (.gS 1 bytes z n n) k) K own ro Φ:=.z h
theorem Vx.Zy {M own ro Φ K z}{bytes n:Nat}{k}(hb:bytes*n<=140737488355328)(hn:n<=9223372036854775807)(h:∀t,Vx M (k t) K (.sl t 1 (List.replicate n [z])::own) ro Φ):Vx M (.op (.gS 1 bytes [z] (I (n:Int)) (I (n:Int))) k) K own ro Φ:=λB W S H=>oB H hb hn λt S1 H1=>h t B W S1 H1
section
variable{B0 S:AH}{W:List Nat}{R:List Own}{ro:List aI}{m bl:Nat}{rest:List AV}{y:Me}{g1 g2 f:Int}{n:Nat}
end
instance rowAt {y}{f:Int}{n c:Nat}:Mb (rz y f n) (c:Int) (c<n) (B (decide (y.word (f+c)≠0))):=⟨λh=>⟨c,rfl,D4 h⟩⟩
def qb (x:Xc)(y:Me):Bool:=UC y x.r.flags x.r.ad.toNat&&I5 y x.iZ x.room x.r.ad.toNat
section
variable{B0 S:AH}{W:List Nat}{R:List Own}{ro:List aI}{m bl w:Nat}{rest:List AV}{x:Xc}{y:Me}{v vm:AV}{l:List dA.Tk}
end
def My (s:Option um):Option Sd:=s.map λs=>⟨⟨s.o,s.σ,s.b⟩,s.q,s.hg,s.lo⟩
def Mz (s:Option um):Option Sd:=s.map λs=>⟨⟨s.o,s.σ,s.b⟩,s.q',s.hg,s.jx⟩
theorem ZA (s:Option um):pv (My s)=pA s:=by cases s<;>rfl
theorem ZB (s:Option um):pv (Mz s)=pB s:=by cases s<;>rfl
theorem UD (s:Option um):co (My s)=co (Mz s):=by cases s<;>rfl
theorem PJ (s:Option um):PG s=so (My s)++so (Mz s):=by cases s<;>rfl
theorem kX.P {x v ro l}(h:kX x v ro l):zj x v ro (l.map My):=λs hs=>by
 obtain⟨t,ht,e⟩:=List.mem_map.1 hs;cases t with
 |none=>cases e
 |some t=>cases e;have:=h t ht;exact⟨this.p,this.k,this.w,this.z,this.t⟩
theorem kX.D {x v ro l}(h:kX x v ro l):Zu x v ro (l.map Mz):=λs hs=>by
 obtain⟨t,ht,e⟩:=List.mem_map.1 hs;cases t with
 |none=>cases e
 |some t=>cases e;have:=h t ht;exact⟨this.d,this.k,this.w,this.z,this.t⟩
theorem I6 {B0 S W R ro x v s a b}(hc:co a=co b)(ha:pv a=pA s)(hb:pv b=pB s)(hP:∀t,a=some t->ft x t.s.o t.q t.s.b t.s.σ t.lo/\I3 x v ro t.s)(hD:∀t,b=some t->cd x t.s.o v t.h t.q t.s.b t.s.σ t.lo/\I3 x v ro t.s)(H:Cx B0 W S (so a++(so b++R)) ro):
  aN EM (zF 22) [.agg [pA s,pB s]] S λu S'=>∃ab,(u=B true/\ab=so a++(so b++R))/\Cx B0 W S' ab ro:=by
 rw[<-ha,<-hb];cases a with
 |none=>
  cases b with
  |none=>exact Bm H
  |some b=>cases hc
 |some a=>
  cases b with
  |none=>cases hc
  |some b=>
   have hc:a.s=b.s:=by injection hc
   have h1:=hP a rfl;have h2:=hD b rfl;rw[<-hc] at h2;exact Bh h1.2.z h1.1 h2.1 H
section
variable{M:cP}{own R:List Own}{ro:List aI}{Φ:gz}{K:List Kf}{v w:AV}{L:List (List AV)}{c:List AV}
theorem Zx.UE {t:Nat}{n q:Bool}{k}(e:bP (M.P.underlying t=some .bool))(h:Zx M false (k (B (!n))) K own ro Φ):Zx M false (.op (.eq t n (B q) (B q)) k) K own ro Φ:=.z (.of λB W S H=>by
 refine ah (L6 e.out) ?_;cases n<;>cases q<;>exact h.ok B W S H)
end
section
variable{a b:Own}{mm rr ss dd ee R:List Own}
end
theorem PK:eL EM.P 2 71=some [some .i64,some .i64,some .u64,some .u64,none]:=by kernel_rfl
theorem UF:EM.P.eqGuardType EM.P.depth 71=false:=by kernel_rfl
theorem UG:l9 EM.P 71=true:=by kernel_rfl
section
variable{B0 S:AH}{W:List Nat}{R:List Own}{ro:List aI}{L:List Int}{d s a:Nat}{v:AV}
end
end Go.cG
