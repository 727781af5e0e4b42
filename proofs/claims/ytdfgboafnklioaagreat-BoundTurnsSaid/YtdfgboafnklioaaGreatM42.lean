/- Contracts. Conditions: in each theorem. -/
import Derived.Test.YtdfgboafnklioaaGreatM41
import Derived.Test.YtdfgboafnklioaaGreatM10
set_option linter.all false
set_option maxRecDepth 100000
set_option maxHeartbeats 4000000
namespace Go.cO
open Go.Proofs
instance abz {n:Nat}[Mn n [541,536,537,540,539,462,463,464,347]]:cH n where
theorem NQ {w:Int}(hw:Me.ar w):w/2^63=1↔9223372036854775808<=w:=by unfold Me.ar at hw;simp only[Int.reducePow];omega
def Tw.oM (t:Tw)(ref key i high:Int)(fd ret:AV)(ln lv w b:Int)(is:Bool)(er:Int):List AV:=t.cs++[U ref,U key,I i,I high,fd,ret,I ln,I lv,U w,U b,B is,I er]
inductive fX (t:Tw)(i g key high:Int)(q:Nat)(b:Int):cW->List Own->Prop
 |f {is:Bool}{lv w bf:Int}{ret}{qf:Nat}{F lf}(h:bn t key qf bf F lf)(ho:F.over=false):fX t i g key high q b (.f F) (.obj q (.row (t.oM (aD i g) key i high (.ptr qf 0) ret 1 lv w b is 0))::lf)
 |s {is:Bool}{w bf:Int}{ret}{qf l:Nat}{T lf}(hl:(l:Int)<high)(h:bn t key qf bf (.d T) lf):fX t i g key high q b (.s l T) (.obj q (.row (t.oM (aD i g) key i high (.ptr qf 0) ret 2 l w b is 0))::lf)
 |e {is:Bool}{w bf:Int}{ret}{qf:Nat}{T lf}(h:bn t key qf bf (.d T) lf):fX t i g key high q b (.e T) (.obj q (.row (t.oM (aD i g) key i high (.ptr qf 0) ret 3 0 w b is 0))::lf)
 |l {is:Bool}{w lv bf:Int}{ret}{qf l:Nat}{T lf}(hv:lv=l)(hl:(l:Int)<high)(h:bn t key qf bf (.d T) lf):fX t i g key high q b (.l l T) (.obj q (.row (t.oM (aD i g) key i high (.ptr qf 0) ret 4 lv w b is 0))::lf)
 |t {is:Bool}{w bf:Int}{ret}{qf l:Nat}{T lf}(hl:(l:Int)<high)(hw:Me.ar w)(h:bn t key qf bf (.d T) lf):fX t i g key high q b (.t l w T) (.obj q (.row (t.oM (aD i g) key i high (.ptr qf 0) ret 5 l w b is 0))::lf)
 |k {is:Bool}{w bf:Int}{ret}{qf l:Nat}{T lf}(hl:(l:Int)<high)(h:bn t key qf bf (.d T) lf):fX t i g key high q b (.k l T) (.obj q (.row (t.oM (aD i g) key i high (.ptr qf 0) ret 6 l w b is 0))::lf)
 |g {is:Bool}{w bf:Int}{ret}{qf l:Nat}{F lf}(hl:(l:Int)<high)(h:bn t key qf bf F lf)(ho:F.over=false):fX t i g key high q b (.g l F) (.obj q (.row (t.oM (aD i g) key i high (.ptr qf 0) ret 61 l w b is 0))::lf)
 |o {is:Bool}{w bf:Int}{ret}{qf l:Nat}{T lf}(hl:(l:Int)<high)(h:bn t key qf bf (.d T) lf):fX t i g key high q b (.o l T) (.obj q (.row (t.oM (aD i g) key i high (.ptr qf 0) ret 62 l w b is 0))::lf)
 |q {is:Bool}{lv w:Int}{fd ret}:fX t i g key high q b .q [.obj q (.row (t.oM (aD i g) key i high fd ret 7 lv w b is 0))]
 |c {is:Bool}{lv w bf:Int}{ret}{qf:Nat}{F lf}(h:bn t key qf bf F lf)(ho:F.over=false):fX t i g key high q b (.c F) (.obj q (.row (t.oM (aD i g) key i high (.ptr qf 0) ret 8 lv w b is 0))::lf)
 |r {is:Bool}{lv w:Int}{fd ret}:fX t i g key high q b .r [.obj q (.row (t.oM (aD i g) key i high fd ret 9 lv w b is 0))]
 |w {is:Bool}{lv w:Int}{fd}{qr:Nat}{σ lr}(h:sR t.l i qr σ lr)(ho:σ.over=false):fX t i g key high q b (.w σ) (.obj q (.row (t.oM (aD i g) key i high fd (.ptr qr 0) 91 lv w b is 0))::lr)
 |d {is:Bool}{lv w:Int}{fd ret}:fX t i g key high q b (.d 0) [.obj q (.row (t.oM (aD i g) key i high fd ret 99 lv w b is 0))]
section
variable{B0 S:AH}{W:List Nat}{own R lo:List Own}{ro:List aB}{m q:Nat}{vm:AV}{x:Me}{t:Tw}{i g key high b:Int}
theorem tr {o1 own:List Own}(e:o1=own:=by conv=>lhs;simp only[Tw.oM,Tw.pW,Ck,Tw.cs,Lb.cs,Ar.cs,Ep.cs,lA,lB,lC]):o1=own:=e
theorem H4 {σ:cW}(hs:t.ok)(hr:t.rf i g)(hh:1<=high/\high<=t.ht)(hx:x.gd)(ho:σ.over=false)(Dm:Me.ar key)(h:fX t i g key high q b σ lo)(H:Cx B0 W S (lo++(ai m vm x++R)) ro):
  aG EM (zF 346) [.ptr q 0,.ptr m 0] S λu S'=>∃ab,eW (fX t i g key high q (σ.cM (aD i g))) cW.over (σ.step t (aD i g) key high x) (ai m vm) R u ab/\Cx B0 W S' ab ro:=by
 have bt:=hs;unfold Tw.ok Lb.ok Ar.ok Sk.ok Ep.ok at bt;have py:=hr;unfold Tw.rf dw at py;have mX:=Tw.xe hr;have hw:=lj hr.1;cases h with
 |@f is lv w bf ret qf F lf h hF=>
  refine y1 H tr ?_;refine Vx.fV (A:=[_]) (λB W S H=>oD hs hx hF Dm h H) λa' x' l' e hl=>?_;have e2:(cW.f F).step t (aD i g) key high x=(cW.Hh a',x'):=by show(cW.Hh _,_)=_;rw[e]
  have oS:=hl.row;obtain⟨ln,Fs,pred,known,cur,w2,qp,qs,qk,k,T2,rfl⟩:=oS;simp only[Tw.pW,Ck,Tw.cs,Lb.cs,Ar.cs,Ep.cs,lA,lB];cases ho:a'.over
  .refine z1 ?_;have e3:(cW.f F).step t (aD i g) key high x=(.f a',x'):=e2.trans (Prod.ext (by cases a'<;>first|rfl|cases ho) rfl);exact aa e3 (.f hl ho) rfl HQ
  .obtain⟨T,rfl⟩:=yE ho;refine z1 ?_;exact aa e2 (.s (l:=0) am hl) rfl HQ
 |@s is w bf ret qf l T lf hl h=>
  have e2:(cW.s l T).step t (aD i g) key high x=(if high<=(l:Int)+1 then .e T else .s (l+1) T,x.st (t.nx i l) (T.cb l).cur):=by show(_,x.st (t.nx (t.ix _) _) _)=_;rw[mX]
  cases h with
  |@d k qp qs qk lv pred known cur w' T hk hT=>
  have Aw:=hT.1;have Bt:((l+1:Nat):Int)=(l:Int)+1:=am;refine y2 H tr ?_ ?_<;>intros
  .next h1=>exact aa (e2.trans (Prod.ext (if_pos h1) rfl)) (.e (.d hk hT)) rfl HQ
  .next h1=>exact aa (e2.trans (Prod.ext (if_neg h1) rfl)) (.s am (.d hk hT)) rfl HQ
 |@e is w bf ret qf T lf h=>
  cases h with
  |@d k qp qs qk lv pred known cur w' T hk hT=>
  have Aw:=hT.1;have ho:=gr.Ax (l:=0) hT am;unfold Sp.ok at ho;have XU:-1<=(T.cb (Int.toNat 0)).pred/\(T.cb (Int.toNat 0)).pred<t.l.a.f.size:=ho.1;refine y3 H tr ?_ ?_ ?_<;>intros
  .next h1 h2=>exact aa (Prod.ext ((if_pos h1).trans (if_pos h2)) rfl) .q rfl HQ
  .next h1 h2=>exact aa (Prod.ext ((if_pos h1).trans (if_neg h2)) rfl) (.l (l:=1) rfl (Int.not_le.1 h2) (.d hk hT)) rfl HQ
  .next h1 p l' hF=>exact aa (Prod.ext (if_neg h1) rfl) (.f (show bn t key p 0 (.new t) l' from hF) rfl) rfl HQ
 |@l is w lv0 bf ret qf l T lf hv hl h=>
  subst hv;have hb:=Me.aj hx (t.nx i l);have e2:(cW.l l T).step t (aD i g) key high x=(if 9223372036854775808<=x.word (t.nx i l) then .q else if x.word (t.nx i l)=(T.cb l).cur then .k l T else .t l (x.word (t.nx i l)) T,x.ld (t.nx i l)):=by show(if _<=x.word (t.nx (t.ix _) _) then _ else _,x.ld (t.nx (t.ix _) _))=_;rw[mX]
  cases h with
  |@d k qp qs qk lv pred known cur w' T hk hT=>
  have Aw:=hT.1;refine y3 H tr ?_ ?_ ?_<;>intros
  .next h1=>exact aa (e2.trans (Prod.ext (if_pos ((NQ hb).1 h1)) rfl)) .q rfl HQ
  .next h1 v o1 o2 o3 h2=>exact aa (e2.trans (Prod.ext ((if_neg (λh=>h1 ((NQ hb).2 h))).trans (if_neg h2)) rfl)) (.t hl hb (.d hk hT)) rfl HQ
  .next h1 v o1 o2 o3 h2=>exact aa (e2.trans (Prod.ext ((if_neg (λh=>h1 ((NQ hb).2 h))).trans (if_pos (Decidable.not_not.1 h2))) rfl)) (.k hl (.d hk hT)) rfl HQ
 |@t is w bf ret qf l T lf hl hw h=>
  have e2:(cW.t l w T).step t (aD i g) key high x=(if x.eq (t.nx i l) w then .k l T else .q,x.eL (t.nx i l) w (T.cb l).cur):=by show(if x.eq (t.nx (t.ix _) _) _ then _ else _,x.eL (t.nx (t.ix _) _) _ _)=_;rw[mX]
  cases h with
  |@d k qp qs qk lv pred known cur w' T hk hT=>
  have Aw:=hT.1;refine y2 H tr ?_ ?_<;>intros
  .next h1=>exact aa (e2.trans (Prod.ext (if_pos h1) rfl)) (.k hl (.d hk hT)) rfl HQ
  .next h1=>exact aa (e2.trans (Prod.ext (if_neg h1) rfl)) .q rfl HQ
 |@k is w bf ret qf l T lf hl h=>
  cases h with
  |@d k qp qs qk lv pred known cur w' T hk hT=>
  have Aw:=hT.1;have ho:=gr.Ax (l:=l) hT am;unfold Sp.ok at ho;have XU:-1<=(T.cb (Int.toNat l)).pred/\(T.cb (Int.toNat l)).pred<t.l.a.f.size:=ho.1;refine y3 H tr ?_ ?_ ?_<;>intros
  .next h1 h2=>exact aa (Prod.ext ((if_pos h1).trans (if_pos h2)) rfl) .q rfl HQ
  .next h1 h2=>exact aa (Prod.ext ((if_pos h1).trans (if_neg h2)) rfl) (.l (l:=l+1) rfl (Int.not_le.1 h2) (.d hk hT)) rfl HQ
  .next h1 p l' hF=>exact aa (Prod.ext (if_neg h1) rfl) (.g hl (show bn t key p 0 (.new t) l' from hF) rfl) rfl HQ
 |@g is w bf ret qf l F lf Be h hF=>
  refine y1 H tr ?_;refine Vx.fV (A:=[_]) (λB W S H=>oD hs hx hF Dm h H) λa' x' l' e hl=>?_;have e2:(cW.g l F).step t (aD i g) key high x=(cW.Hi l a',x'):=by show(cW.Hi _ _,_)=_;rw[e]
  have oS:=hl.row;obtain⟨ln,Fs,pred,known,cur,w2,qp,qs,qk,k,T2,rfl⟩:=oS;simp only[Tw.pW,Ck,Tw.cs,Lb.cs,Ar.cs,Ep.cs,lA,lB];cases ho:a'.over
  .refine z1 ?_;have e3:(cW.g l F).step t (aD i g) key high x=(.g l a',x'):=e2.trans (Prod.ext (by cases a'<;>first|rfl|cases ho) rfl);exact aa e3 (.g Be hl ho) rfl HQ
  .obtain⟨T,rfl⟩:=yE ho;refine z1 ?_;exact aa e2 (.o Be hl) rfl HQ
 |@o is w bf ret qf l T lf hl h=>
  have hb:=Me.aj hx (t.nx i 0);have e2:(cW.o l T).step t (aD i g) key high x=(if 9223372036854775808<=x.word (t.nx i 0) then .c (.new t) else .l l T,x.ld (t.nx i 0)):=by show(if _<=x.word (t.nx (t.ix _) _) then _ else _,x.ld (t.nx (t.ix _) _))=_;rw[mX]
  refine y2 H tr ?_ ?_<;>intros
  .next h1 p l' hF=>exact aa (e2.trans (Prod.ext (if_pos ((NQ hb).1 h1)) rfl)) (.c (show bn t key p 0 (.new t) l' from hF) rfl) rfl HQ
  .next h1=>exact aa (e2.trans (Prod.ext (if_neg (λh=>h1 ((NQ hb).2 h))) rfl)) (.l rfl hl h) rfl HQ
 |@q is lv w fd ret=>
  have hb:=Me.aj hx (t.nx i 0);have e2:(cW.q).step t (aD i g) key high x=(if 9223372036854775808<=x.word (t.nx i 0) then .c (.new t) else .r,x.ld (t.nx i 0)):=by show(if _<=x.word (t.nx (t.ix _) _) then _ else _,x.ld (t.nx (t.ix _) _))=_;rw[mX]
  refine y2 H tr ?_ ?_<;>intros
  .next h1 p l' hF=>exact aa (e2.trans (Prod.ext (if_pos ((NQ hb).1 h1)) rfl)) (.c (show bn t key p 0 (.new t) l' from hF) rfl) rfl HQ
  .next h1=>exact aa (e2.trans (Prod.ext (if_neg (λh=>h1 ((NQ hb).2 h))) rfl)) .r rfl HQ
 |@c is lv w bf ret qf F lf h hF=>
  refine y1 H tr ?_;refine Vx.fV (A:=[_]) (λB W S H=>oD hs hx hF Dm h H) λa' x' l' e hl=>?_;have e2:(cW.c F).step t (aD i g) key high x=(if a'.over then .r else .c a',x'):=by show(_,_)=_;rw[e]
  have oS:=hl.row;obtain⟨ln,Fs,pred,known,cur,w2,qp,qs,qk,k,T2,rfl⟩:=oS;simp only[Tw.pW,Ck,Tw.cs,Lb.cs,Ar.cs,Ep.cs,lA,lB];cases ho:a'.over
  .refine z1 ?_;exact aa (e2.trans (Prod.ext (if_neg (by rw[ho];simp)) rfl)) (.c hl ho) rfl HQ
  .refine z1 ?_;exact aa (e2.trans (Prod.ext (if_pos ho) rfl)) .r rfl HQ
 |@r is lv w fd ret=>
  have hn:iy.new t.l i=.a:=if_neg am;have e2:(cW.r).step t (aD i g) key high x=(if(x.add (t.pt i 3) 18446744073709551615).new=0 then .w .a else .d 0,x.add (t.pt i 3) 18446744073709551615):=by show(if(x.add (t.pt (t.ix _) _) _).new=0 then cW.w (iy.new _ (t.ix _)) else _,x.add (t.pt (t.ix _) _) _)=_;rw[mX,hn]
  refine y2 H tr ?_ ?_<;>intros
  .next h1 p1 p2 h2 h3=>exact aa (e2.trans (Prod.ext (if_pos h1) rfl)) (.w (.a ⟨am,am⟩) rfl) rfl HQ
  .next h1=>exact aa (e2.trans (Prod.ext (if_neg h1) rfl)) .d rfl HQ
 |@w is lv w fd qr σ lr h hF=>
  refine y1 H tr ?_;refine Vx.fV (A:=[_]) (λB W S H=>AS hs.2.2.2.2 hx h H) λa' x' l' e hl=>?_;have e2:(cW.w σ).step t (aD i g) key high x=(if a'.over then .d 0 else .w a',x'):=by show(if(σ.step t.l (t.ix _) x).1.over then _ else _,(σ.step t.l (t.ix _) x).2)=_;rw[mX,e]
  cases ho:a'.over
  .refine z1 ?_;exact aa (e2.trans (Prod.ext (if_neg (by rw[ho];simp)) rfl)) (.w hl ho) rfl HQ
  .refine z1 ?_;exact aa (e2.trans (Prod.ext (if_pos ho) rfl)) .d rfl HQ
 |d=>cases ho
end
section
variable{nd hd ht c3 c4 n c6 c7 c8 c9 dP dp dM i g key high:Int}
instance VG:NC EM (zF 345) [.agg [I nd,I hd,I ht,I c3,I c4,I n,I c6,I c7,I c8,I c9,I dP,I dp,I dM],U (aD i g),U key,I high] (((0<=nd/\nd<4096)/\(0<=hd/\hd<4096)/\(1<=ht/\ht<=4)/\1<=n/\n<=128)/\(dw i g/\i<n)/\1<=high/\high<=ht)
  (λp l=>fX ⟨nd,hd,ht,⟨⟨⟨c3,c4,n⟩,c6,c7,c8⟩,⟨c9,dP,dp⟩,dM⟩⟩ i g key high p 0 (.f (.new ⟨nd,hd,ht,⟨⟨⟨c3,c4,n⟩,c6,c7,c8⟩,⟨c9,dP,dp⟩,dM⟩⟩)) l):=.of rfl rfl λh ro R=>by
 obtain⟨h0,hi,hh⟩:=h;have hx:=rT hi.1;have mX:idx n (aD i g)=i:=by unfold idx;rw[hx,if_pos hi.2]
 have hw:=lj hi.1;show Zx EM false (Tryz.a345 _) _ _ _ _;refine z2 ?_ ?_<;>intros
 all_goals first|exact⟨h0,hi,hh⟩|skip
 next p l h a=>rw[mX];exact⟨rfl,rfl,(_::(l++R)),⟨_,_,fX.f h rfl,rfl,rfl⟩,HQ⟩
end
end Go.cO
