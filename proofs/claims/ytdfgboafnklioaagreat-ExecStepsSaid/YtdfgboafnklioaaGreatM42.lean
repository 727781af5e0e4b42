/- Contracts. Conditions: in each theorem. -/
import Derived.Test.YtdfgboafnklioaaGreatM41
import Derived.Test.YtdfgboafnklioaaGreatM10
set_option linter.all false
set_option maxRecDepth 100000
set_option maxHeartbeats 4000000
namespace Go.cG
open Go.Proofs
instance ab3 {n:Nat}[Mn n [541,536,537,540,539,462,463,464,347]]:cK n where
theorem On {w:Int}(hw:Me.aC w):w/2^63=1↔9223372036854775808<=w:=by unfold Me.aC at hw;simp only[Int.reducePow];omega
def Tw.oY (t:Tw)(ref key i high:Int)(fd ret:AV)(ln lv w b:Int)(is:Bool)(er:Int):List AV:=t.cs++[U ref,U key,I i,I high,fd,ret,I ln,I lv,U w,U b,B is,I er]
inductive gA (t:Tw)(i g key high:Int)(q:Nat)(b:Int):c_->List Own->Prop
 |f {is:Bool}{lv w bf:Int}{ret}{qf:Nat}{F lf}(h:bs t key qf bf F lf)(ho:F.over=false):gA t i g key high q b (.f F) (.obj q (.row (t.oY (aK i g) key i high (.ptr qf 0) ret 1 lv w b is 0))::lf)
 |s {is:Bool}{w bf:Int}{ret}{qf l:Nat}{T lf}(hl:(l:Int)<high)(h:bs t key qf bf (.d T) lf):gA t i g key high q b (.s l T) (.obj q (.row (t.oY (aK i g) key i high (.ptr qf 0) ret 2 l w b is 0))::lf)
 |e {is:Bool}{w bf:Int}{ret}{qf:Nat}{T lf}(h:bs t key qf bf (.d T) lf):gA t i g key high q b (.e T) (.obj q (.row (t.oY (aK i g) key i high (.ptr qf 0) ret 3 0 w b is 0))::lf)
 |l {is:Bool}{w lv bf:Int}{ret}{qf l:Nat}{T lf}(hv:lv=l)(hl:(l:Int)<high)(h:bs t key qf bf (.d T) lf):gA t i g key high q b (.l l T) (.obj q (.row (t.oY (aK i g) key i high (.ptr qf 0) ret 4 lv w b is 0))::lf)
 |t {is:Bool}{w bf:Int}{ret}{qf l:Nat}{T lf}(hl:(l:Int)<high)(hw:Me.aC w)(h:bs t key qf bf (.d T) lf):gA t i g key high q b (.t l w T) (.obj q (.row (t.oY (aK i g) key i high (.ptr qf 0) ret 5 l w b is 0))::lf)
 |k {is:Bool}{w bf:Int}{ret}{qf l:Nat}{T lf}(hl:(l:Int)<high)(h:bs t key qf bf (.d T) lf):gA t i g key high q b (.k l T) (.obj q (.row (t.oY (aK i g) key i high (.ptr qf 0) ret 6 l w b is 0))::lf)
 |g {is:Bool}{w bf:Int}{ret}{qf l:Nat}{F lf}(hl:(l:Int)<high)(h:bs t key qf bf F lf)(ho:F.over=false):gA t i g key high q b (.g l F) (.obj q (.row (t.oY (aK i g) key i high (.ptr qf 0) ret 61 l w b is 0))::lf)
 |o {is:Bool}{w bf:Int}{ret}{qf l:Nat}{T lf}(hl:(l:Int)<high)(h:bs t key qf bf (.d T) lf):gA t i g key high q b (.o l T) (.obj q (.row (t.oY (aK i g) key i high (.ptr qf 0) ret 62 l w b is 0))::lf)
 |q {is:Bool}{lv w:Int}{fd ret}:gA t i g key high q b .q [.obj q (.row (t.oY (aK i g) key i high fd ret 7 lv w b is 0))]
 |c {is:Bool}{lv w bf:Int}{ret}{qf:Nat}{F lf}(h:bs t key qf bf F lf)(ho:F.over=false):gA t i g key high q b (.c F) (.obj q (.row (t.oY (aK i g) key i high (.ptr qf 0) ret 8 lv w b is 0))::lf)
 |r {is:Bool}{lv w:Int}{fd ret}:gA t i g key high q b .r [.obj q (.row (t.oY (aK i g) key i high fd ret 9 lv w b is 0))]
 |w {is:Bool}{lv w:Int}{fd}{qr:Nat}{σ lr}(h:vW t.l i qr σ lr)(ho:σ.over=false):gA t i g key high q b (.w σ) (.obj q (.row (t.oY (aK i g) key i high fd (.ptr qr 0) 91 lv w b is 0))::lr)
 |d {is:Bool}{lv w:Int}{fd ret}:gA t i g key high q b (.d 0) [.obj q (.row (t.oY (aK i g) key i high fd ret 99 lv w b is 0))]
section
variable{B0 S:AH}{W:List Nat}{own R lo:List Own}{ro:List aI}{m q:Nat}{vm:AV}{x:Me}{t:Tw}{i g key high b:Int}
theorem tI {o1 own:List Own}(e:o1=own:=by conv=>lhs;simp only[Tw.oY,Tw.p_,CB,Tw.cs,Lb.cs,Ar.cs,Ep.cs,lA,lB,lC]):o1=own:=e
theorem IA {σ:c_}(hs:t.ok)(hr:t.rf i g)(hh:1<=high/\high<=t.ht)(hx:x.gd)(ho:σ.over=false)(DH:Me.aC key)(h:gA t i g key high q b σ lo)(H:Cx B0 W S (lo++(ai m vm x++R)) ro):
  aN EM (zF 346) [.ptr q 0,.ptr m 0] S λu S'=>∃ab,fb (gA t i g key high q (σ.cR (aK i g))) c_.over (σ.step t (aK i g) key high x) (ai m vm) R u ab/\Cx B0 W S' ab ro:=by
 have bt:=hs;unfold Tw.ok Lb.ok Ar.ok Sk.ok Ep.ok at bt;have pD:=hr;unfold Tw.rf dz at pD;have m_:=Tw.AN hr;have hw:=mJ hr.1;cases h with
 |@f is lv w bf ret qf F lf h hF=>
  refine y1 H tI ?_;refine Vx.f_ (A:=[_]) (λB W S H=>oS hs hx hF DH h H) λa' x' l' e hl=>?_;have e2:(c_.f F).step t (aK i g) key high x=(c_.HO a',x'):=by show(c_.HO _,_)=_;rw[e]
  have pG:=hl.row;obtain⟨ln,FJ,pred,known,cur,w2,qp,qs,qk,k,T2,rfl⟩:=pG;simp only[Tw.p_,CB,Tw.cs,Lb.cs,Ar.cs,Ep.cs,lA,lB];cases ho:a'.over
  .refine z1 ?_;have e3:(c_.f F).step t (aK i g) key high x=(.f a',x'):=e2.trans (Prod.ext (by cases a'<;>first|rfl|cases ho) rfl);exact aa e3 (.f hl ho) rfl HQ
  .obtain⟨T,rfl⟩:=yW ho;refine z1 ?_;exact aa e2 (.s (l:=0) am hl) rfl HQ
 |@s is w bf ret qf l T lf hl h=>
  have e2:(c_.s l T).step t (aK i g) key high x=(if high<=(l:Int)+1 then .e T else .s (l+1) T,x.st (t.nx i l) (T.bh l).cur):=by show(_,x.st (t.nx (t.ix _) _) _)=_;rw[m_]
  cases h with
  |@d k qp qs qk lv pred known cur w' T hk hT=>
  have AQ:=hT.1;have BI:((l+1:Nat):Int)=(l:Int)+1:=am;refine y2 H tI ?_ ?_<;>intros
  .next h1=>exact aa (e2.trans (Prod.ext (if_pos h1) rfl)) (.e (.d hk hT)) rfl HQ
  .next h1=>exact aa (e2.trans (Prod.ext (if_neg h1) rfl)) (.s am (.d hk hT)) rfl HQ
 |@e is w bf ret qf T lf h=>
  cases h with
  |@d k qp qs qk lv pred known cur w' T hk hT=>
  have AQ:=hT.1;have ho:=gL.AR (l:=0) hT am;unfold Sp.ok at ho;have Yk:-1<=(T.bh (Int.toNat 0)).pred/\(T.bh (Int.toNat 0)).pred<t.l.a.f.size:=ho.1;refine y3 H tI ?_ ?_ ?_<;>intros
  .next h1 h2=>exact aa (Prod.ext ((if_pos h1).trans (if_pos h2)) rfl) .q rfl HQ
  .next h1 h2=>exact aa (Prod.ext ((if_pos h1).trans (if_neg h2)) rfl) (.l (l:=1) rfl (Int.not_le.1 h2) (.d hk hT)) rfl HQ
  .next h1 p l' hF=>exact aa (Prod.ext (if_neg h1) rfl) (.f (show bs t key p 0 (.new t) l' from hF) rfl) rfl HQ
 |@l is w lv0 bf ret qf l T lf hv hl h=>
  subst hv;have hb:=Me.aj hx (t.nx i l);have e2:(c_.l l T).step t (aK i g) key high x=(if 9223372036854775808<=x.word (t.nx i l) then .q else if x.word (t.nx i l)=(T.bh l).cur then .k l T else .t l (x.word (t.nx i l)) T,x.ld (t.nx i l)):=by show(if _<=x.word (t.nx (t.ix _) _) then _ else _,x.ld (t.nx (t.ix _) _))=_;rw[m_]
  cases h with
  |@d k qp qs qk lv pred known cur w' T hk hT=>
  have AQ:=hT.1;refine y3 H tI ?_ ?_ ?_<;>intros
  .next h1=>exact aa (e2.trans (Prod.ext (if_pos ((On hb).1 h1)) rfl)) .q rfl HQ
  .next h1 v o1 o2 o3 h2=>exact aa (e2.trans (Prod.ext ((if_neg (λh=>h1 ((On hb).2 h))).trans (if_neg h2)) rfl)) (.t hl hb (.d hk hT)) rfl HQ
  .next h1 v o1 o2 o3 h2=>exact aa (e2.trans (Prod.ext ((if_neg (λh=>h1 ((On hb).2 h))).trans (if_pos (Decidable.not_not.1 h2))) rfl)) (.k hl (.d hk hT)) rfl HQ
 |@t is w bf ret qf l T lf hl hw h=>
  have e2:(c_.t l w T).step t (aK i g) key high x=(if x.eq (t.nx i l) w then .k l T else .q,x.gY (t.nx i l) w (T.bh l).cur):=by show(if x.eq (t.nx (t.ix _) _) _ then _ else _,x.gY (t.nx (t.ix _) _) _ _)=_;rw[m_]
  cases h with
  |@d k qp qs qk lv pred known cur w' T hk hT=>
  have AQ:=hT.1;refine y2 H tI ?_ ?_<;>intros
  .next h1=>exact aa (e2.trans (Prod.ext (if_pos h1) rfl)) (.k hl (.d hk hT)) rfl HQ
  .next h1=>exact aa (e2.trans (Prod.ext (if_neg h1) rfl)) .q rfl HQ
 |@k is w bf ret qf l T lf hl h=>
  cases h with
  |@d k qp qs qk lv pred known cur w' T hk hT=>
  have AQ:=hT.1;have ho:=gL.AR (l:=l) hT am;unfold Sp.ok at ho;have Yk:-1<=(T.bh (Int.toNat l)).pred/\(T.bh (Int.toNat l)).pred<t.l.a.f.size:=ho.1;refine y3 H tI ?_ ?_ ?_<;>intros
  .next h1 h2=>exact aa (Prod.ext ((if_pos h1).trans (if_pos h2)) rfl) .q rfl HQ
  .next h1 h2=>exact aa (Prod.ext ((if_pos h1).trans (if_neg h2)) rfl) (.l (l:=l+1) rfl (Int.not_le.1 h2) (.d hk hT)) rfl HQ
  .next h1 p l' hF=>exact aa (Prod.ext (if_neg h1) rfl) (.g hl (show bs t key p 0 (.new t) l' from hF) rfl) rfl HQ
 |@g is w bf ret qf l F lf zQ h hF=>
  refine y1 H tI ?_;refine Vx.f_ (A:=[_]) (λB W S H=>oS hs hx hF DH h H) λa' x' l' e hl=>?_;have e2:(c_.g l F).step t (aK i g) key high x=(c_.HP l a',x'):=by show(c_.HP _ _,_)=_;rw[e]
  have pG:=hl.row;obtain⟨ln,FJ,pred,known,cur,w2,qp,qs,qk,k,T2,rfl⟩:=pG;simp only[Tw.p_,CB,Tw.cs,Lb.cs,Ar.cs,Ep.cs,lA,lB];cases ho:a'.over
  .refine z1 ?_;have e3:(c_.g l F).step t (aK i g) key high x=(.g l a',x'):=e2.trans (Prod.ext (by cases a'<;>first|rfl|cases ho) rfl);exact aa e3 (.g zQ hl ho) rfl HQ
  .obtain⟨T,rfl⟩:=yW ho;refine z1 ?_;exact aa e2 (.o zQ hl) rfl HQ
 |@o is w bf ret qf l T lf hl h=>
  have hb:=Me.aj hx (t.nx i 0);have e2:(c_.o l T).step t (aK i g) key high x=(if 9223372036854775808<=x.word (t.nx i 0) then .c (.new t) else .l l T,x.ld (t.nx i 0)):=by show(if _<=x.word (t.nx (t.ix _) _) then _ else _,x.ld (t.nx (t.ix _) _))=_;rw[m_]
  refine y2 H tI ?_ ?_<;>intros
  .next h1 p l' hF=>exact aa (e2.trans (Prod.ext (if_pos ((On hb).1 h1)) rfl)) (.c (show bs t key p 0 (.new t) l' from hF) rfl) rfl HQ
  .next h1=>exact aa (e2.trans (Prod.ext (if_neg (λh=>h1 ((On hb).2 h))) rfl)) (.l rfl hl h) rfl HQ
 |@q is lv w fd ret=>
  have hb:=Me.aj hx (t.nx i 0);have e2:(c_.q).step t (aK i g) key high x=(if 9223372036854775808<=x.word (t.nx i 0) then .c (.new t) else .r,x.ld (t.nx i 0)):=by show(if _<=x.word (t.nx (t.ix _) _) then _ else _,x.ld (t.nx (t.ix _) _))=_;rw[m_]
  refine y2 H tI ?_ ?_<;>intros
  .next h1 p l' hF=>exact aa (e2.trans (Prod.ext (if_pos ((On hb).1 h1)) rfl)) (.c (show bs t key p 0 (.new t) l' from hF) rfl) rfl HQ
  .next h1=>exact aa (e2.trans (Prod.ext (if_neg (λh=>h1 ((On hb).2 h))) rfl)) .r rfl HQ
 |@c is lv w bf ret qf F lf h hF=>
  refine y1 H tI ?_;refine Vx.f_ (A:=[_]) (λB W S H=>oS hs hx hF DH h H) λa' x' l' e hl=>?_;have e2:(c_.c F).step t (aK i g) key high x=(if a'.over then .r else .c a',x'):=by show(_,_)=_;rw[e]
  have pG:=hl.row;obtain⟨ln,FJ,pred,known,cur,w2,qp,qs,qk,k,T2,rfl⟩:=pG;simp only[Tw.p_,CB,Tw.cs,Lb.cs,Ar.cs,Ep.cs,lA,lB];cases ho:a'.over
  .refine z1 ?_;exact aa (e2.trans (Prod.ext (if_neg (by rw[ho];simp)) rfl)) (.c hl ho) rfl HQ
  .refine z1 ?_;exact aa (e2.trans (Prod.ext (if_pos ho) rfl)) .r rfl HQ
 |@r is lv w fd ret=>
  have hn:iX.new t.l i=.a:=if_neg am;have e2:(c_.r).step t (aK i g) key high x=(if(x.add (t.pt i 3) 18446744073709551615).new=0 then .w .a else .d 0,x.add (t.pt i 3) 18446744073709551615):=by show(if(x.add (t.pt (t.ix _) _) _).new=0 then c_.w (iX.new _ (t.ix _)) else _,x.add (t.pt (t.ix _) _) _)=_;rw[m_,hn]
  refine y2 H tI ?_ ?_<;>intros
  .next h1 p1 p2 h2 h3=>exact aa (e2.trans (Prod.ext (if_pos h1) rfl)) (.w (.a ⟨am,am⟩) rfl) rfl HQ
  .next h1=>exact aa (e2.trans (Prod.ext (if_neg h1) rfl)) .d rfl HQ
 |@w is lv w fd qr σ lr h hF=>
  refine y1 H tI ?_;refine Vx.f_ (A:=[_]) (λB W S H=>Ba hs.2.2.2.2 hx h H) λa' x' l' e hl=>?_;have e2:(c_.w σ).step t (aK i g) key high x=(if a'.over then .d 0 else .w a',x'):=by show(if(σ.step t.l (t.ix _) x).1.over then _ else _,(σ.step t.l (t.ix _) x).2)=_;rw[m_,e]
  cases ho:a'.over
  .refine z1 ?_;exact aa (e2.trans (Prod.ext (if_neg (by rw[ho];simp)) rfl)) (.w hl ho) rfl HQ
  .refine z1 ?_;exact aa (e2.trans (Prod.ext (if_pos ho) rfl)) .d rfl HQ
 |d=>cases ho
end
section
variable{nd hd ht c3 c4 n c6 c7 c8 c9 dS dt dW i g key high:Int}
instance VT:NC EM (zF 345) [.agg [I nd,I hd,I ht,I c3,I c4,I n,I c6,I c7,I c8,I c9,I dS,I dt,I dW],U (aK i g),U key,I high] (((0<=nd/\nd<4096)/\(0<=hd/\hd<4096)/\(1<=ht/\ht<=4)/\1<=n/\n<=128)/\(dz i g/\i<n)/\1<=high/\high<=ht)
  (λp l=>gA ⟨nd,hd,ht,⟨⟨⟨c3,c4,n⟩,c6,c7,c8⟩,⟨c9,dS,dt⟩,dW⟩⟩ i g key high p 0 (.f (.new ⟨nd,hd,ht,⟨⟨⟨c3,c4,n⟩,c6,c7,c8⟩,⟨c9,dS,dt⟩,dW⟩⟩)) l):=.of rfl rfl λh ro R=>by
 obtain⟨h0,hi,hh⟩:=h;have hx:=sm hi.1;have m_:idx n (aK i g)=i:=by unfold idx;rw[hx,if_pos hi.2]
 have hw:=mJ hi.1;show Zx EM false (Tryz.a345 _) _ _ _ _;refine z2 ?_ ?_<;>intros
 all_goals first|exact⟨h0,hi,hh⟩|skip
 next p l h a=>rw[m_];exact⟨rfl,rfl,(_::(l++R)),⟨_,_,gA.f h rfl,rfl,rfl⟩,HQ⟩
end
end Go.cG
