/- The abstract machine: calls do what the model does; a statement out of a run. No condition. -/
import Derived.Test.YtdfgboafnklioaaGreatAb
import Derived.ProofKit
import Derived.Below
import Derived.Deep.Slices
set_option linter.all false
set_option maxRecDepth 100000
set_option maxHeartbeats 4000000
namespace Go.cG
noncomputable section
section
variable[km]
variable{P:Program}{ρ:Ren}{F:Fr}{a:Act}{o:Oper}{S:AH}{w:World}
structure pL (P:Program)(call:fD):Prop where
 ok:∀{g fa fc args S v S' ρ w d},call (.fn (.func g) fa fc) args S=some (v,S')->fB P g=true->R P ρ S w->gV ρ (.fn (.func g) fa fc) args d->
  ∃cap ys,d.target=.fn (.func g) cap/\(invoke d.target d.args).run P w=.ok (.enter g ys) w/\∀u,u≠.run->CallsDIn Fence.wide 0 P g ys u w λe u' w'=>u'=u/\bJ P ρ S w v S' e w'
theorem sR {jf:Ren}{S0:AH}{w0:World}:∀(ms:List Deferred) (w:World) (fr:Frame) (cs:List Frame),Marks w0.heap.size ρ S w ms->R P ρ S w->Ext jf S0 w0 ρ S w->fr.mode≠.run->fr.defers=ms->
  ∃w',R P ρ S w'/\Ext jf S0 w0 ρ S w'/\StepsIn (Machine.fenced P Fence.wide) P (lone fr cs w) (lone {fr with defers:=[]} cs w')
 |[],w,fr,cs,hm,hR,hE,Dq,hd=>⟨w,hR,hE,by rw[<-hd];exact .refl _⟩
 |m::ms,w,fr,cs,hm,hR,hE,Dq,hd=>by
  obtain⟨r,h1,h2,h3,h4⟩:=hm.2 m ac;have Rp:=List.pairwise_cons.1 hm.1;have GG:Marks w0.heap.size ρ S (w.putObj r (.deferred none)) ms:=by refine⟨Rp.2,λm' GG=>?_⟩;obtain⟨r',k1,k2,k3,k4⟩:=hm.2 m' (by simp[GG]);refine⟨r',k1,k2,?_,k4⟩;have gQ:r'≠r:=λe=>Rp.1 m' GG (by rw[h1,k1,e]);rw[World.putObj_heap_other gQ];exact k3
  have hs:=step_collected (P:=P) (cs:=cs) Dq hd (by rw[h1]) (run_takeDeferred h3);obtain⟨w',q1,q2,q3⟩:=sR ms _ {fr with defers:=[]++ms} cs GG (hR.shut h4 h3) (hE.shut h2) Dq rfl;refine⟨w',q1,q2,.head ?_ hs q3⟩;exact fenced_out (n:=0) trivial (room_wide _) Dq hd (λg hg=>trivial)
def B7 (P:Program)(ρ:Ren)(S:AH)(w:World)(fn:Func)(v:AV)(S':AH):Exit->Act->World->Prop:=λe a' w'=>
 (e=.normal\/e=.ret)/\∃aZ,R P aZ S' w'/\Ext ρ S w aZ S' w'/\Marks w.heap.size aZ S' w' a'.defers/\
   ∀yi,R P aZ S' yi->∃x,V aZ v x/\(results fn a'.tmps).run P yi=.ok x yi
theorem wW {f:FuncId}{fn:Func}{c:Code}{ys:Array Value}{v:AV}{S':AH}(hf:P.funcs[f]?=some fn)(hb:fn.body=some c)
  (h:c.wpIn (FF none) 0 P (B7 P ρ S w fn v S') {tmps:=ys++Array.replicate (fn.ntmps-ys.size) undef,defers:=[]} w):CallsIn Fence.wide 0 P f ys w (bJ P ρ S w v S'):=by
 refine callsIn_of_wp_marks (F:=FF none) hf hb trivial (wpIn_mono h λe a1 w1 q=>?_);obtain⟨he,aZ,h1,h2,h3,h4⟩:=q;have key:LeavesInM (FF none) 0 P fn a1.tmps (bJ P ρ S w v S') a1.defers .returning w1:=by
  have:=mA (P:=P) (fn:=fn) (tmps:=a1.tmps) (Rr:=bJ P ρ S w v S') (rest:=[]) a1.defers w1 h3 h1 h2 (λw' q1 q2 q3=>by
   obtain⟨x,g1,g2⟩:=h4 w' q1;exact⟨x,g2,x,aZ,rfl,g1,q1,q2⟩)
  rwa[List.append_nil] at this
 rcases he with rfl|rfl<;>exact key
theorem rZ {f:FuncId}{fn:Func}{c:Code}{ys:Array Value}{v:AV}{S':AH}{u:FrameMode}(hf:P.funcs[f]?=some fn)(hb:fn.body=some c)
  (h:c.wpIn (FF none) 0 P (B7 P ρ S w fn v S') {tmps:=ys++Array.replicate (fn.ntmps-ys.size) undef,defers:=[]} w):
  CallsDIn Fence.wide 0 P f ys u w λe u' w'=>u'=u/\bJ P ρ S w v S' e w':=by
 refine⟨trivial,λAm cs hu hr=>?_⟩;let b:Frame:={(default:Frame) with fn:=f,kind:=.deferred,roundOf:=none}
 have Nh:Frame.enter P f ys .deferred=
   b.atR {tmps:=ys++Array.replicate (fn.ntmps-ys.size) undef,defers:=[]} [.code c]:=by
  simp[Frame.enter,Frame.atR,hf,hb,b]
 have hc:({Am with mode:=u}:Frame)=Am:=by subst hu;rfl
 obtain⟨e,a',w',hq,lY⟩:=h b [] (Am::cs) rfl trivial hr;rw[<-Nh] at lY;obtain⟨he,aZ,h1,h2,h3,h4⟩:=hq;have key:∀fr:Frame,fr.mode=.returning->fr.defers=a'.defers->fr.tmps=a'.tmps->fr.fn=f->fr.kind=.deferred->StepsIn (Machine.fenced P Fence.wide) P (lone (Frame.enter P f ys .deferred) (Am::cs) w) (lone fr (Am::cs) w')->
   ∃e u' w' fr,(u'=u/\bJ P ρ S w v S' e w')/\
    ComesIn (Machine.fenced P Fence.wide) P (lone (Frame.enter P f ys .deferred) (Am::cs) w) (lone fr ({Am with mode:=u'}::cs) w') e/\fr.kind=.deferred/\fr.fn=f/\fr.going P w' e:=by
  intro fr g1 g2 g3 g4 g5 hs;obtain⟨w2,k1,k2,k3⟩:=sR a'.defers w' fr (Am::cs) h3 h1 h2 (by rw[g1];simp) g2;obtain⟨x,l1,l2⟩:=h4 w2 k1;refine⟨.returned x,u,w2,{fr with defers:=[]},⟨rfl,x,aZ,rfl,l1,k1,k2⟩,?_,g5,g4,g1,rfl,fn,by rw[<-hf];exact congrArg _ g4,by simp only[g3];exact l2⟩;rw[hc];exact StepsIn.trans hs k3
 rcases he with rfl|rfl;.exact key {b.atR a' [] with mode:=.returning} rfl rfl rfl rfl rfl (StepsIn.trans lY (.one (fenced_calm (n:=0) (fr:=b.atR a' []) trivial (room_wide _) rfl) (stepR_end rfl)))
 .obtain⟨todo,hs⟩:=lY.1 rfl;exact key {b.atR a' todo with mode:=.returning} rfl rfl rfl rfl rfl hs
end
section
variable[km]
variable{P:Program}{ρ:Ren}{F:Fr}{a:Act}{o:Oper}{S:AH}{w:World}
theorem VL.oneOf {vs:List AV}{xs:List Value}(h:VL ρ vs xs):V ρ (cG.oneOf vs) (if h:xs.toArray.size=1 then xs.toArray[0] else .tuple xs.toArray):=by
 cases h with
 |nil=>exact .ed .nil
 |cons h1 h2=>
  cases h2 with
  |nil=>simpa[cG.oneOf] using h1
  |cons h3 h4=>simpa[cG.oneOf] using V.ed (.cons h1 (.cons h3 h4))
theorem sS (P:Program){call:fD}{fuel:Nat}{S:AH}:∀(rs:List ResultVar) (i:Nat) (pre vs acc:List AV),rs.all uz=true->pre.length=i->vs.length=rs.length->
  run P call fuel (dj P rs i (pre++vs) acc) S=some (.ret,acc++vs,S)
 |[],i,pre,vs,acc,_,hi,hl=>by
  have:vs=[]:=List.length_eq_zero_iff.1 (by simpa using hl);subst this;simp[dj,J5]
 |.tmp t::rs,i,pre,vs,acc,h,hi,hl=>by
  cases vs with
  |nil=>simp at hl
  |cons v vs=>
   have h':rs.all uz=true:=by simp only[List.all_cons,Bool.and_eq_true] at h;exact h.2
   have:=@sS P call fuel S rs (i+1) (pre++[v]) vs (acc++[v]) h' (by simp[hi]) (by simpa using hl);simp only[dj];have e:nth (pre++v::vs) i=v:=B4 (by rw[<-hi];simp);rw[e];simpa using this
 |.cell _ _::rs,_,_,_,_,h,_,_=>by simp[uz] at h
section
variable{call:fD}{fuel:Nat}
theorem lz (fn:Func){F1:Fr}{kr:Ren}{S1:AH}{tmps:Array Value}{t:Tag}{vs:List AV}{S':AH}(hF:FR kr F1 tmps)
  (h:run P call fuel (dj P fn.results.toList 0 (F1.outs (fn.results.toList.map ResultVar.slot)) []) S1=some (t,vs,S')) {w1:World} (hR:R P kr S1 w1):
  t=.ret/\S'=S1/\∃x,V kr (oneOf vs) x/\(results fn tmps).run P w1=.ok x w1:=by
 obtain⟨news,xs,h1,h2,h3,h4,h5⟩:=yy hR fn.results.toList 0 [] t vs S' (λj r hj=>by
  rw[Nat.zero_add,Dh _ F1 j (ResultVar.slot r) (by simp[hj])];exact hF _) h
 refine⟨h1,h3,(if h:xs.toArray.size=1 then xs.toArray[0] else .tuple xs.toArray),?_,?_⟩;.rw[h2,List.nil_append];exact h4.oneOf
 .rw[B5,Sem.run_bind,GH h5];simp only[Result.andThen_ok,Sem.run_pure]
theorem uZ (cy:dg P call){fn:Func}{c:Code}{vars:List Nat}{vs:List AV}{S':AH}(hb:fn.body=some c)(hd:fM c=false){args:List AV}{xs:List Value}(hx:VL ρ args xs)
  (h:run P call fuel (fZ P fn vars args) S=some (.ret,vs,S')) (hR:R P ρ S w) (hlen:xs.length<=fn.ntmps\/True):
  c.wpIn (FF none) 0 P (B7 P ρ S w fn (oneOf vs) S') {tmps:=xs.toArray++Array.replicate (fn.ntmps-xs.toArray.size) undef,defers:=[]} w:=by
 unfold fZ at h;rw[hb] at h;simp only at h;cases bH:fits fn.ntmps c with
 |false=>rw[bH] at h;cases h
 |true=>
  rw[bH,hd] at h;simp only[Bool.not_true,Bool.false_eq_true,if_false] at h;have W6:FR ρ (Fr.fI .e (List.range (fn.params.size+fn.nfree)) 0 args) (xs.toArray++Array.replicate (fn.ntmps-xs.toArray.size) undef):=FR.args _ _ hx;have GM:fits (xs.toArray++Array.replicate (fn.ntmps-xs.toArray.size) undef).size c=true:=xy (by simp;omega) bH;have key:∃lZ,run P call fuel (den P vars false none c (Fr.fI .e (List.range (fn.params.size+fn.nfree)) 0 args) (fn.results.toList.map ResultVar.slot) λF=>.ret .ret (F.outs (fn.results.toList.map ResultVar.slot))) S=some lZ/\
    ∀Qs S0,(lZ=(.ret,Qs,S0))->(∃F1:Fr,Qs=F1.outs (fn.results.toList.map ResultVar.slot))->run P call fuel (dj P fn.results.toList 0 Qs []) S0=some (.ret,vs,S'):=by
   cases kq:fn.results.toList.all uz with
   |true=>
    rw[kq] at h;simp only[if_true] at h;refine⟨_,h,λQs S0 e ⟨F1,e1⟩=>?_⟩;cases e;have:=sS P (S:=S') (call:=call) (fuel:=fuel) fn.results.toList 0 [] vs [] kq rfl (by rw[e1];simp[Fr.outs]);simpa using this
   |false=>
    rw[kq] at h;simp only[Bool.false_eq_true,if_false] at h;rw[tW] at h;unfold rQ at h;cases hm:run P call fuel (den P vars false none c (Fr.fI .e (List.range (fn.params.size+fn.nfree)) 0 args) (fn.results.toList.map ResultVar.slot) λF=>.ret .ret (F.outs (fn.results.toList.map ResultVar.slot))) S with
    |none=>rw[hm] at h;cases h
    |some lZ=>refine⟨lZ,rfl,λQs S0 e _=>?_⟩;subst e;rw[hm] at h;exact h
  obtain⟨lZ,k1,k2⟩:=key;refine wpIn_mono (rY cy c false none _ _ _ S lZ ρ _ w none (λ_=>rfl) k1 hR W6 GM) λe a1 w1 q=>?_;obtain⟨kr,S1,F1,ms,h1,h2,h3,h4,h5,h6,h7⟩:=q;have B8:a1.defers=ms:=by rw[h5];simp
  have fin:lZ=(.ret,F1.outs (fn.results.toList.map ResultVar.slot),S1)->∃aZ,R P aZ S' w1/\Ext ρ S w aZ S' w1/\Marks w.heap.size aZ S' w1 a1.defers/\∀yi,R P aZ S' yi->∃x,V aZ (oneOf vs) x/\(results fn a1.tmps).run P yi=.ok x yi:=by intro e0;have hl:=k2 _ _ e0 ⟨F1,rfl⟩;obtain⟨_,rfl,_⟩:=lz fn h2 hl h1;refine⟨kr,h1,h3,by rw[B8];exact h6,λyi W7=>?_⟩;exact(lz fn h2 hl W7).2.2
  cases e with
  |normal=>exact⟨.inl rfl,fin (Option.some.inj h7).symm⟩
  |ret=>exact⟨.inr rfl,fin h7⟩
  |exit id=>
   exfalso;have e0:lZ=(.exit (3*id),F1.outs (fn.results.toList.map ResultVar.slot),S1):=h7;subst e0;cases kq:fn.results.toList.all uz with
   |true=>
    rw[kq] at h;simp only[if_true] at h;rw[k1] at h;cases h
   |false=>
    rw[kq] at h;simp only[Bool.false_eq_true,if_false] at h;rw[tW] at h;unfold rQ at h;rw[k1] at h;cases h
  |goto l=>exact(by cases h7.1)
  |panic ch=>exact h7.elim
  |outgrown=>exact h7.elim
end
end
section
variable[km]
variable{P:Program}{ρ:Ren}{F:Fr}{a:Act}{o:Oper}{S:AH}{w:World}
section
variable{call:fD}{fuel:Nat}{gt:Option Nat}
theorem gV.mono {aZ:Ren}(hl:ρ.le aZ){f:AV}{args:List AV}{d:Deferred}(h:gV ρ f args d):gV aZ f args d:=by
 rcases h with⟨fn,fa,fc,a',c',xs,e,h1,h2,h3,h4,h5⟩|⟨id,b,o,l,xs,e,h1,h2,h3,h4⟩|⟨m,xs,e,h1,h2,h3⟩;.exact .inl ⟨fn,fa,fc,a',c',xs,e,h1.mono hl,h2.mono hl,h3.mono hl,h4,h5⟩
 .exact .inr (.inl ⟨id,b,o,l,xs,e,hl _ _ h1,h2.mono hl,h3,h4⟩)
 .exact .inr (.inr ⟨m,xs,e,h1.mono hl,h2,h3⟩)
theorem bJ.Nj {kr:Ren}{S1:AH}{w1:World}{v:AV}{S':AH}(hE:Ext ρ S w kr S1 w1){e:Ending}{w':World}(h:bJ P kr S1 w1 v S' e w'):bJ P ρ S w v S' e w':=by obtain⟨x,aZ,e,h1,h2,h3⟩:=h;exact⟨x,aZ,e,h1,h2,hE.trans h3⟩
theorem nO (cy:dg P call){vars:List Nat}{round:Bool}{ro:Option Nat}:∀(c:Code) (F:Fr) (K:Fr->AC) (S:AH) (res:Tag×List AV×AH) (ρ:Ren) (a:Act) (w:World) (Q:Exit->Act->World->Prop),eh c=true->
  run P call fuel (den P vars round gt c F [] K) S=some res->R P ρ S w->FR ρ F a.tmps->fits a.tmps.size c=true->
  (∀aZ S' F' a' w',run P call fuel (K F') S'=some res->R P aZ S' w'->FR aZ F' a'.tmps->Ext ρ S w aZ S' w'->a'.tmps.size=a.tmps.size->a'.defers=a.defers->Q .normal a' w')->
  c.wpIn (FF ro) 0 P Q a w:=by
 intro c;induction c with
 |skip=>intro F K S res ρ a w Q hs h hR hF bH hQ;exact wpIn_skip (hQ ρ S F a w h hR hF (Ext.refl _ _ _) rfl rfl)
 |label l=>intro F K S res ρ a w Q hs h hR hF bH hQ;exact wpIn_label (hQ ρ S F a w h hR hF (Ext.refl _ _ _) rfl rfl)
 |region id ops draw=>
  intro F K S res ρ a w Q hs h hR hF bH hQ;have tw:=uU bH;have qS:∀aZ S' F' a' w',run P call fuel (K F') S'=some res->R P aZ S' w'->FR aZ F' a'.tmps->Ext ρ S w aZ S' w'->dh (gR (.region id ops draw) []) a a'->a'.defers=a.defers->Q .normal a' w':=
   λaZ S' F' a' w' k1 k2 k3 k4 k5 k6=>hQ aZ S' F' a' w' k1 k2 k3 k4 k5.size k6
  simp only[den] at h;cases hp:py P ops draw with
  |none=>rw[hp] at h;cases h
  |some p=>
   rw[hp] at h;simp only at h;cases draw with
   |true=>exact uT cy hp h hR hF tw qS
   |false=>
    unfold py at hp;simp only[Bool.false_eq_true,if_false] at hp;cases hp;exact wpIn_region (pI cy (λi o d h1 h2=>(tw i o d h1 h2).2) _ F [] a w ρ S h hR hF (λi o d h1 h2=>(tw i o d h1 h2).1) qS)
 |seq x y yx wV=>
  intro F K S res ρ a w Q hs h hR hF bH hQ;simp only[eh,Bool.and_eq_true] at hs;simp only[den] at h;simp only[fits,Bool.and_eq_true] at bH;refine wpIn_seq (yx F _ S res ρ a w _ hs.1 h hR hF bH.1 λkr S1 F1 a1 w1 k1 k2 k3 k4 k5 k6=>?_);exact wV F1 K S1 res kr a1 w1 Q hs.2 k1 k2 k3 (by rw[k5];exact bH.2) λzu S2 F2 a2 w2 l1 l2 l3 l4 l5 l6=>hQ zu S2 F2 a2 w2 l1 l2 l3 (k4.trans l4) (l5.trans k5) (l6.trans k6)
 |_=>intro F K S res ρ a w Q hs;simp[eh] at hs
theorem u_ {ops:Array Oper}{c:Call}(h:lQ ops=some c):∃o,ops[ops.size-1]?=some o/\o.guard=none/\o.dst=none/\o.op=.defer c/\List.range ops.size=List.range (ops.size-1)++[ops.size-1]:=by
 unfold lQ at h;cases hb:ops.back? with
 |none=>rw[hb] at h;cases h
 |some o=>
  rw[hb] at h;simp only at h;rw[Array.back?_eq_getElem?] at hb;have de:=(Array.getElem?_eq_some_iff.1 hb).1;cases hg:o.guard with
  |some _=>rw[hg] at h;cases h
  |none=>
   cases hd:o.dst with
   |some _=>rw[hg,hd] at h;cases h
   |none=>
    rw[hg,hd] at h;simp only at h;cases ho:o.op with
    |defer c'=>
     rw[ho] at h;cases h;refine⟨o,hb,hg,hd,ho,?_⟩;rw[<-List.range_succ];congr 1;omega
    |_=>rw[ho] at h;cases h
theorem eQ {ops:Array Oper}{Q:Exit->Act->World->Prop}{j:Nat}{c:Call}{o:Oper}(ho:ops[j]?=some o)(hg:o.guard=none)(wM:o.op=.defer c):∀(l:List Nat) (a:Act) (w:World),
  wpOpsIn (FF none) 0 P ops (λe a' w'=>e=.normal/\∃d,(resolve a'.eval c o.type).run P w'=.ok d w'/\Q .normal ({a' with defers:=d::a'.defers}.put o.dst undef) w') l a w->wpOpsIn (FF none) 0 P ops Q (l++[j]) a w
 |[],a,w,h=>by
  obtain⟨_,d,h1,h2⟩:=h;show wpOpsIn (FF none) 0 P ops Q [j] a w;simp only[wpOpsIn,ho,Region.wanted,hg,if_true];refine⟨λ_ _=>trivial,?_⟩;have hs:o.semAt (FF none).round a.eval=execOp a.eval o:=rfl;have hex:execOp a.eval o=(do pure (.defer (<-resolve a.eval c o.type))):=by simp[execOp,wM]
  rw[hs,hex,Sem.run_bind,h1,Result.andThen_ok,Sem.run_pure];exact h2
 |i::l,a,w,h=>by
  show wpOpsIn (FF none) 0 P ops Q (i::(l++[j])) a w;simp only[wpOpsIn] at h⊢;cases hi:ops[i]? with
  |none=>rw[hi] at h;exact eQ ho hg wM l a w h
  |some oi=>
   rw[hi] at h;simp only at h⊢;split
   .rename_i hw;rw[if_pos hw] at h;refine⟨h.1,?_⟩;have h2:=h.2;clear h;generalize(oi.semAt (FF none).round a.eval).run P w=r at h2⊢;cases r with
    |ok nx w'=>
     cases nx with
     |value v=>exact eQ ho hg wM l _ _ h2
     |skip=>exact eQ ho hg wM l _ _ h2
     |defer d=>exact eQ ho hg wM l _ _ h2
     |enter f args=>
      refine⟨h2.1,CallsIn.mono h2.2 λe yi q=>?_⟩;cases e with
      |returned v=>exact eQ ho hg wM l _ _ q
      |panicked ch=>exact absurd q.1 ac
      |outgrown=>obtain⟨_,_,q⟩:=q;exact absurd q.1 ac
     |row r args=>exact⟨h2.1,RowsIn.mono h2.2 λv yi q=>eQ ho hg wM l _ _ q⟩
     |round l' f tmps wS body=>
      refine⟨h2.1,RoundIn.mono h2.2 λe yi q=>?_⟩;cases e with
      |returned v=>exact eQ ho hg wM l _ _ q
      |panicked ch=>exact absurd q.1 ac
      |outgrown=>obtain⟨_,_,q⟩:=q;exact absurd q.1 ac
     |_=>exact h2.elim
    |halt x w'=>
     cases x with
     |panic v=>exact absurd h2.1 ac
     |_=>exact h2.elim
   .rename_i hw;rw[if_neg hw] at h;exact⟨h.1,eQ ho hg wM l _ _ h.2⟩
end
end
section
variable[km]
variable{P:Program}{ρ:Ren}{F:Fr}{a:Act}{o:Oper}{S:AH}{w:World}
section
variable{call:fD}{fuel:Nat}
def Dr (P:Program)(vars:List Nat)(rs:List ResultVar)(out:List Nat)(b:Code)(c:Call)(F1:Fr):AC:=
 match c.callee with
 |.value f=>match F1.ev f with
  |.fn (.func g) fa fc=>
   if fB P g then .fin (den P vars false none b F1 out λF=>.ret .ret (F.outs out)) λvs=>
    .call (.fn (.func g) fa fc) (c.args.toList.map F1.ev) λ_=>dj P rs 0 vs []
   else .fail
  |_=>.fail
 |_=>.fail
theorem EE {vars:List Nat}{rs:List ResultVar}{out:List Nat}{x b:Code}{F:Fr}{ops:Array Oper}{c:Call}(h:iI x=some (ops,c)):
  oV P vars rs out (.seq x b) F=aD P ops ((List.range (ops.size-1)).map .exec) F [] (Dr P vars rs out b c):=by
 simp only[oV,h];rfl
theorem EF {vars:List Nat}{rs:List ResultVar}{out:List Nat}{x b:Code}{F:Fr}(h:iI x=none):
  oV P vars rs out (.seq x b) F=if eh x then den P vars false none x F [] λF1=>oV P vars rs out b F1 else .fail:=by
 simp only[oV,h]
theorem eH {Fe:Fence}{n:Nat}{fn:Func}{tmps:Array Value}{R R':Ending->World->Prop}(hm:∀e w,R e w->R' e w):∀(ds:List Deferred) (u:FrameMode) (w:World),LeavesInM Fe n P fn tmps R ds u w->LeavesInM Fe n P fn tmps R' ds u w
 |[],.returning,w,h=>let⟨v,h1,h2⟩:=h;⟨v,h1,hm _ _ h2⟩
 |[],.panicking ch,w,h=>hm _ _ h
 |[],.run,w,h=>h
 |d::ds,u,w,h=>by
  refine⟨h.1,?_⟩;rcases h.2 with⟨r,w',h1,h2,h3⟩|⟨h1,fv,cap,f,args,h2,h3,h4,h5⟩;.exact .inl ⟨r,w',h1,h2,eH hm ds u w' h3⟩
  .refine .inr ⟨h1,fv,cap,f,args,h2,h3,h4,CallsDIn.mono h5 λe u' w' q=>?_⟩;cases e with
   |returned v=>exact eH hm ds _ w' q
   |panicked ch=>exact eH hm ds _ w' q
   |outgrown=>exact hm _ _ q
theorem va {Fe:Fence}{n:Nat}{fn:Func}{R R':Ending->World->Prop}(hm:∀e w,R e w->R' e w){e:Exit}{a:Act}{w:World}(h:bodyPostM Fe n P fn R e a w):bodyPostM Fe n P fn R' e a w:=by
 cases e with
 |normal=>exact eH hm _ _ _ h
 |ret=>exact eH hm _ _ _ h
 |panic ch=>exact eH hm _ _ _ h
 |outgrown=>exact hm _ _ h
 |exit i=>exact h
 |goto l=>exact h
theorem B9 (cy:dg P call)(B8:pL P call){vars:List Nat}{fn:Func}{vs:List AV}{S':AH}:∀(c:Code) (F:Fr) (S:AH) (ρ:Ren) (a:Act) (w:World),
  run P call fuel (oV P vars fn.results.toList (fn.results.toList.map ResultVar.slot) c F) S=some (.ret,vs,S')->R P ρ S w->FR ρ F a.tmps->fits a.tmps.size c=true->a.defers=[]->
  c.wpIn (FF none) 0 P (bodyPostM (FF none) 0 P fn (bJ P ρ S w (oneOf vs) S')) a w:=by
 intro c;induction c with
 |seq x b yx U_=>
  intro F S ρ a w h hR hF bH Vc;simp only[fits,Bool.and_eq_true] at bH;cases De:iI x with
  |none=>
   rw[EF De] at h;cases hs:eh x with
   |false=>rw[hs] at h;cases h
   |true=>
    rw[hs] at h;simp only[if_true] at h;refine wpIn_seq (nO cy x F _ S _ ρ a w _ hs h hR hF bH.1 λkr S1 F1 a1 w1 k1 k2 k3 k4 k5 k6=>?_);refine wpIn_mono (U_ F1 S1 kr a1 w1 k1 k2 k3 (by rw[k5];exact bH.2) (by rw[k6,Vc])) λe a2 w2 q=>?_;have hm:∀(e:Ending) w',bJ P kr S1 w1 (oneOf vs) S' e w'->bJ P ρ S w (oneOf vs) S' e w':=λe w' q=>q.Nj k4;exact va hm q
  |some q=>
   obtain⟨ops,c⟩:=q;rw[EE De] at h;cases x with
   |region id Nk dr=>
    cases dr with
    |true=>simp[iI] at De
    |false=>
     have W8:Nk=ops/\lQ ops=some c:=by
      simp only[iI] at De;cases hl:lQ Nk with
      |none=>rw[hl] at De;cases De
      |some c'=>rw[hl] at De;cases De;exact⟨rfl,hl⟩
     obtain⟨rfl,W8⟩:=W8;obtain⟨o,ho,hg,W9,wM,Nl⟩:=u_ W8;have tw:=uU bH.1;refine wpIn_seq (wpIn_region ?_);rw[Nl];refine eQ ho hg wM _ a w ?_;refine pI cy (W:=gR (.region id Nk false) []) (λi o d h1 h2=>(tw i o d h1 h2).2) _ F [] a w ρ S h hR hF (λi o d h1 h2=>(tw i o d h1 h2).1) λkr S1 F1 a1 w1 k1 k2 k3 k4 k5 k6=>?_;refine⟨rfl,?_⟩;unfold Dr at k1;cases cU:c.callee with
     |value f=>
      rw[cU] at k1;simp only at k1;have hfv:=aB k3 f;cases An:F1.ev f with
      |fn g fa fc=>
       rw[An] at k1;cases g with
       |func g=>
        simp only at k1;cases sE:fB P g with
        |false=>rw[sE] at k1;cases k1
        |true=>
         rw[sE] at k1;simp only[if_true] at k1;obtain⟨d,rU,nb⟩:=k_ (P:=P) (c:=c) (f:=.fn (.func g) fa fc) rfl cU (An▸hfv) (jC k3 c.args.toList) o.type;refine⟨d,rU w1,?_⟩;rw[tW] at k1;unfold rQ at k1;cases hm:run P call fuel (den P vars false none b F1 (fn.results.toList.map ResultVar.slot) λF=>.ret .ret (F.outs (fn.results.toList.map ResultVar.slot))) S1 with
         |none=>rw[hm] at k1;cases k1
         |some lZ=>
          rw[hm] at k1;have hFd:FR kr F1 (({a1 with defers:=d::a1.defers}:Act).put o.dst undef).tmps:=by rw[W9];exact k3
          have dH:(({a1 with defers:=d::a1.defers}:Act).put o.dst undef).tmps.size=a.tmps.size:=by rw[uJ];exact k5.size
          show Code.wpIn (FF none) 0 P b _ _ w1;refine wpIn_mono (rY cy b false none F1 _ _ S1 lZ kr _ w1 none (λ_=>rfl) hm k2 hFd (by rw[dH];exact bH.2)) λe a2 w2 q=>?_;obtain⟨zu,S2,F2,ms,h1,h2,h3,h4,h5,h6,h7⟩:=q;have hdf:a2.defers=ms++[d]:=by rw[h5,put_defers];simp[k6,Vc]
          have fin:lZ=(.ret,F2.outs (fn.results.toList.map ResultVar.slot),S2)->LeavesInM (FF none) 0 P fn a2.tmps (bJ P ρ S w (oneOf vs) S') a2.defers .returning w2:=by intro e0;subst e0;simp only at k1;rw[nK] at k1;obtain⟨v,S3,g1,g2⟩:=gF k1;rw[hdf];refine mA (jf:=kr) (S0:=S1) (w0:=w1) ms w2 h6 h1 h3 λw3 j1 j2 j3=>?_;obtain⟨cap,ys,l1,l2,l3⟩:=B8.ok g1 sE j1 (nb.mono h3.wK);refine⟨ac,.inr ⟨λh=>by simp[FF] at h,.func g,cap,g,ys,l1,l2,λ_ _=>trivial,?_⟩⟩;refine CallsDIn.mono (l3 .returning ac) λe u' w4 hq=>?_;obtain⟨rfl,x,FC,rfl,m1,m2,m3⟩:=hq;have hF3:FR FC F2 a2.tmps:=h2.mono m3.wK;obtain⟨_,hS,y,n1,n2⟩:=lz fn hF3 g2 m2;subst hS;show LeavesInM (FF none) 0 P fn a2.tmps _ [] (settle .returning) w4;exact⟨y,n2,y,FC,rfl,n1,m2,k4.trans (j2.trans m3)⟩
          cases e with
          |normal=>exact fin (Option.some.inj h7).symm
          |ret=>exact fin h7
          |exit i=>
           have e0:lZ=(.exit (3*i),F2.outs (fn.results.toList.map ResultVar.slot),S2):=h7;subst e0;cases k1
          |goto l=>exact(by cases h7.1)
          |panic ch=>exact h7.elim
          |outgrown=>exact h7.elim
       |_=>cases k1
      |_=>rw[An] at k1;cases k1
     |_=>rw[cU] at k1;cases k1
   |_=>simp[iI] at De
 |_=>intro F S ρ a w h;simp only[oV] at h;cases h
end
end
section
variable[km]
variable{P:Program}{ρ:Ren}{F:Fr}{a:Act}{o:Oper}{S:AH}{w:World}
def Ao (P:Program)(iT:Table):Prop:=∀f b,iT f=some b->∃fn vars,P.funcs[f]?=some fn/\(fn.name== "runtime.NumGoroutine")=false/\b=fZ P fn vars
theorem vd {call:fD}{fuel:Nat}{fn:Func}{vars:List Nat}{args:List AV}{r:Tag×List AV×AH}(h:run P call fuel (fZ P fn vars args) S=some r):∃c,fn.body=some c/\fits fn.ntmps c=true:=by
 unfold fZ at h;cases hb:fn.body with
 |none=>rw[hb] at h;cases h
 |some c=>
  rw[hb] at h;simp only at h;cases hf:fits fn.ntmps c with
  |true=>exact⟨c,rfl,hf⟩
  |false=>rw[hf] at h;cases h
theorem mB {g:FuncId}{fn:Func}{c:Code}{args:Array Value}(hf:P.funcs[g]?=some fn)(hn:(fn.name== "runtime.NumGoroutine")=false)(hb:fn.body=some c):
  (callFunc g args).run P w=.ok (.enter g args) w:=by
 have hX:¬fn.name= "runtime.NumGoroutine":=by simpa using hn
 simp[callFunc,Sem.run_bind,program,Sem.run,hf,Result.andThen,hX,hb]
theorem Ap {call:fD}{fuel:Nat}(cy:dg P call)(B8:pL P call){g:FuncId}{fn:Func}{vars:List Nat}{args vs:List AV}{xs:List Value}{S':AH}(hf:P.funcs[g]?=some fn)
  (hx:VL ρ args xs) (h:run P call fuel (fZ P fn vars args) S=some (.ret,vs,S')) (hR:R P ρ S w):CallsIn Fence.wide 0 P g xs.toArray w (bJ P ρ S w (oneOf vs) S'):=by
 obtain⟨c,hb,bH⟩:=vd h;cases hd:fM c with
 |false=>exact wW hf hb (uZ cy hb hd hx h hR (.inr trivial))
 |true=>have W6:FR ρ (Fr.fI .e (List.range (fn.params.size+fn.nfree)) 0 args) (xs.toArray++Array.replicate (fn.ntmps-xs.toArray.size) undef):=FR.args _ _ hx;have GM:fits (xs.toArray++Array.replicate (fn.ntmps-xs.toArray.size) undef).size c=true:=xy (by simp;omega) bH;unfold fZ at h;rw[hb] at h;simp only[bH,hd,Bool.not_true,Bool.false_eq_true,if_false,if_true] at h;exact callsIn_of_wp_marks (F:=FF none) hf hb trivial (B9 cy B8 c _ S ρ {tmps:=xs.toArray++Array.replicate (fn.ntmps-xs.toArray.size) undef,defers:=[]} w h hR W6 GM rfl)
theorem FR.fold {n:Nat}:∀(ps:List Nat) (xs:List Value) (F:Fr) (tmps:Array Value) (i:Nat) (vs:List AV),FR ρ F tmps->ps.length=xs.length->(∀p∈ps,p<tmps.size)->(∀j,V ρ (nth vs (i+j)) (xs.getD j undef))->
  FR ρ (F.fI ps i vs) ((ps.zip xs).foldl (λt (p:Nat×Value)=>t.setIfInBounds p.1 p.2) tmps)/\((ps.zip xs).foldl (λt (p:Nat×Value)=>t.setIfInBounds p.1 p.2) tmps).size=tmps.size
 |[],xs,F,tmps,i,vs,hF,hl,hp,hv=>⟨hF,rfl⟩
 |p::ps,[],F,tmps,i,vs,hF,hl,hp,hv=>by simp at hl
 |p::ps,x::xs,F,tmps,i,vs,hF,hl,hp,hv=>by
  simp only[List.zip_cons_cons,List.foldl_cons,Fr.fI];have h1:FR ρ (T.set F p (nth vs i)) (tmps.setIfInBounds p x):=by have:=FR.put (a:={tmps:=tmps,defers:=[]}) hF (d:=some p) (v:=nth vs i) (x:=x) (hv 0) (λe he=>by cases he;exact hp p ac);exact this
  obtain⟨q1,q2⟩:=FR.fold (n:=n) ps xs _ (tmps.setIfInBounds p x) (i+1) vs h1 (by simpa using hl) (λq hq=>by rw[Array.size_setIfInBounds];exact hp q (by simp[hq])) (λj=>by
   have:=hv (j+1);simpa[show i+(j+1)=i+1+j by omega] using this)
  exact⟨q1,by rw[q2,Array.size_setIfInBounds]⟩
theorem Aq {call:fD}{fuel:Nat}(cy:dg P call){l:Nat}{dI:Option Tag}{m:Nat}{body:List AV->AC}{args:List AV}{xs:List Value}{b o len:Nat}{t:Tag}{vs:List AV}{S':AH}{v:AV}{S2:AH}
  (hR:R P ρ S w) (hl:ρ l=some (b,o,len)) (hg:S.get l=some (.loop .ready dI m body)) (hx:VL ρ args xs) (hlen:args.length=m)
  (h:run P call fuel (body (.yd l::args)) S=some (t,vs,S')) {p2:Option Tag} {m2:Nat} {b2:List AV->AC} (yz:S'.get l=some (.loop .busy p2 m2 b2))
  (hv:(t=.normal/\v=.sc (.bool true)/\S2=S'.set l (.loop .ready none m2 b2))\/(t≠.normal/\v=.sc (.bool false)/\S2=S'.set l (.loop .done (some t) m2 b2))):
  ∃g tmps wS bd,(Instr.yield b xs.toArray).run P w=.ok (.round b g tmps wS bd) w/\RoundIn Fence.wide 0 P b g tmps wS bd w (bJ P ρ S w v S2):=by
 obtain⟨r,g1,g2,g3,g4,F0,vars,l1,l2,l3,l4,l5,l6⟩:=hR.jb hg hl;have Re:xs.length=r.params.size:=by rw[g4,<-hlen];exact hx.length.symm
 refine⟨r.fn,_,r.assign,r.body,run_yield g1 (by simpa using Re),?_⟩;have Ry:(r.params.zip xs.toArray).foldl (λtmps (x:Tmp×Value)=>tmps.setIfInBounds x.1 x.2) r.tmps=(r.params.toList.zip xs).foldl (λt (p:Nat×Value)=>t.setIfInBounds p.1 p.2) r.tmps:=by rw[<-Array.foldl_toList,Array.toList_zip]
 have Nn:(r.params.zip xs.toArray).foldl (λtmps (x:Tmp×Value)=>match x with|(t,a)=>tmps.setIfInBounds t a) r.tmps=(r.params.toList.zip xs).foldl (λt (p:Nat×Value)=>t.setIfInBounds p.1 p.2) r.tmps:=Ry;have GF:=FR.fold (n:=0) r.params.toList xs F0 r.tmps 1 (.yd l::args) l1 (by simpa using Re.symm) l5 (λj=>by
  rw[Nat.add_comm];exact hx.W4 j)
 rw[l6] at h;rw[Nn];generalize(r.params.toList.zip xs).foldl (λt (p:Nat×Value)=>t.setIfInBounds p.1 p.2) r.tmps=tm at GF⊢;obtain⟨GF,dH⟩:=GF;refine roundIn_of_wpIn (F:=Fence.wide) trivial ?_;show Code.wpIn (FF (some b)) 0 P r.assign _ _ w;refine nO (ro:=some b) cy r.assign _ _ S _ ρ {tmps:=tm,defers:=[]} w _ l2 h hR GF (by simp only[dH];exact l3) λkr S1 F1 a1 w1 k1 k2 k3 k4 k5 k6=>?_;have LS:=k4.wK _ _ hl;rw[xw] at k1;unfold qD at k1;have Qh:nth (AV.yd l::args) 0=.yd l:=rfl;rw[Qh] at k1;simp only at k1;cases Vd:S1.get l with
 |none=>rw[Vd] at k1;cases k1
 |some ob=>
  rw[Vd] at k1;cases ob with
  |loop st pd n1 bd1=>
   cases st with
   |ready=>
    simp only at k1;obtain⟨r1,m1,m2',m3,m4,m5⟩:=k2.jb Vd LS;refine⟨w1.putObj b (.loop {r1 with state:=.busy}),run_beginRound m1 m2',?_⟩;have de:=(Array.getElem?_eq_some_iff.1 m1).1;obtain⟨hR2,FD⟩:=k2.set (w':=w1.putObj b (.loop {r1 with state:=.busy})) Vd rfl LS ⟨rfl,rfl,rfl⟩ World.putObj_size (λk hk=>World.putObj_heap_other hk)
     (tr:=.loop .busy pd n1 bd1) ⟨{r1 with state:=.busy},World.putObj_heap_same de,rfl,m3,m4,m5⟩ rfl
    show Code.wpIn (FF (some b)) 0 P r.body _ a1 _;refine wpIn_mono (rY cy r.body true none F1 [] _ _ _ kr a1 _ (some b) (λe=>by cases e) k1 hR2 k3 (by simp only[k5,dH];exact l4)) λe a3 w3 q=>?_;obtain⟨FC,S3,F3,ms,W_,n2,n3,n4,n5,n6,n7⟩:=q;have Xa:Ext ρ S w FC S3 w3:=k4.trans (FD.trans n3);have Rz:=Xa.wK _ _ hl;have fin:(t,vs,S')=(t,vs,S3)->∀jump,(t=.normal/\jump=none\/t≠.normal/\∃j,jump=some j/\LM (some t) (some j))->∃v' w',(Instr.endRound b jump).run P w3=.ok v' w'/\bJ P ρ S w v S2 (.returned v') w':=by
     intro e0 jump hj;have e1:S'=S3:=by injection e0 with _ e0;injection e0
     rw[e1] at yz hv;obtain⟨r3,p1,p2',p3,p4,p5⟩:=W_.jb yz Rz;have GN:=(Array.getElem?_eq_some_iff.1 p1).1;refine⟨_,_,run_endRound jump p1,?_⟩;rcases hv with⟨ht,rfl,rfl⟩|⟨ht,rfl,rfl⟩
     .rcases hj with⟨_,rfl⟩|⟨gQ,_⟩
      .obtain⟨Qq,Nb⟩:=W_.set (w':=w3.putObj b (.loop {r3 with state:=.ready,pending:=none})) yz rfl Rz ⟨rfl,rfl,rfl⟩ World.putObj_size (λk hk=>World.putObj_heap_other hk)
        (tr:=.loop .ready none m2 b2) ⟨{r3 with state:=.ready,pending:=none},World.putObj_heap_same GN,rfl,trivial,p4,p5⟩ rfl
       exact⟨_,FC,rfl,.sc rfl,Qq,Xa.trans Nb⟩
      .exact absurd ht gQ
     .rcases hj with⟨he,_⟩|⟨_,j,rfl,hp⟩;.exact absurd he ht
      .obtain⟨Qq,Nb⟩:=W_.set (w':=w3.putObj b (.loop {r3 with state:=.done,pending:=some j})) yz rfl Rz ⟨rfl,rfl,rfl⟩ World.putObj_size (λk hk=>World.putObj_heap_other hk)
        (tr:=.loop .done (some t) m2 b2) ⟨{r3 with state:=.done,pending:=some j},World.putObj_heap_same GN,rfl,hp,p4,p5⟩ rfl
       exact⟨_,FC,rfl,.sc rfl,Qq,Xa.trans Nb⟩
    cases e with
    |normal=>
     have e0:(t,vs,S')=(Tag.normal,[],S3):=(Option.some.inj n7).symm;injection e0 with e1 e2;injection e2 with e2 e3;subst e1 e2 e3;exact fin rfl none (.inl ⟨rfl,rfl⟩)
    |exit i=>
     have e0:(t,vs,S')=(Tag.exit (3*i),[],S3):=n7;injection e0 with e1 e2;injection e2 with e2 e3;subst e1 e2 e3;exact fin rfl _ (.inr ⟨ac,_,rfl,rfl⟩)
    |ret=>
     have e0:(t,vs,S')=(Tag.ret,[],S3):=n7;injection e0 with e1 e2;injection e2 with e2 e3;subst e1 e2 e3;exact fin rfl _ (.inr ⟨ac,_,rfl,trivial⟩)
    |goto l=>exact(by cases n7.1)
    |panic ch=>exact n7.elim
    |outgrown=>exact n7.elim
   |_=>cases k1
  |_=>cases k1
end
section
variable[km]
variable{P:Program}{ρ:Ren}{F:Fr}{a:Act}{o:Oper}{S:AH}{w:World}
theorem B_ {t:TypeId}{v r:AV}{name:String}{f:FuncId}{x:Value}{n:Nat}(h:methodOf P t v name=some (f,r)):r=v/\(method (n+1) t x name).run P w=.ok (f,x) w:=by
 unfold methodOf at h;cases hi:P.info? t with
 |none=>rw[hi] at h;cases h
 |some i=>
  rw[hi] at h;simp only at h;cases hm:i.methods.find? (·.name==name) with
  |none=>rw[hm] at h;cases h
  |some m=>
   rw[hm] at h;simp only at h;cases hp:m.path.isEmpty with
   |false=>rw[hp] at h;cases h
   |true=>
    rw[hp] at h;simp only[if_true] at h;have sE:m.path.toList=[]:=by simpa using hp
    cases Xb:m.func with
    |none=>rw[Xb] at h;cases h
    |some q=>
     obtain⟨f',pr⟩:=q;rw[Xb] at h;cases hu:P.underlying t with
     |none=>rw[hu] at h;cases pr<;>cases h
     |some u=>
      rw[hu] at h;have key:r=v/\f'=f/\(receiverAt t (.val x) pr (some ((name.splitOn ".").getLastD name))).run P w=.ok x w:=by
       cases u<;>cases pr<;>simp at h<;>(obtain⟨rfl,rfl⟩:=h;refine⟨rfl,rfl,?_⟩;simp[receiverAt,Sem.run_bind,run_underlying hu,Result.andThen,Place.get])
      obtain⟨rfl,rfl,Xd⟩:=key;refine⟨rfl,?_⟩;have hti:(typeInfo t).run P w=.ok i w:=by simp[typeInfo,Sem.run_bind,program,Sem.run,hi,Result.andThen]
      simp only[method,Sem.run_bind,hti,Result.andThen_ok,hm,sE,follow,Sem.run_pure,Xb,hp,if_true,Xd]
theorem VL.RA:∀{a b:List AV} {xs ys:List Value},VL ρ a xs->VL ρ b ys->VL ρ (a++b) (xs++ys)
 |[],_,_,_,.nil,k=>k
 |_::_,_,_,_,.cons h1 h2,k=>.cons h1 (VL.RA h2 k)
theorem VL.app {a b:List AV}{xs ys:List Value}(h:VL ρ a xs)(k:VL ρ b ys):VL ρ (jH a b) (xs++ys):=by rw[gB];exact h.RA k
def GO (P:Program)(kn:FuncId->List AV->Option AV):Prop:=∀f args v,kn f args=some v->∀ρ S w xs,R P ρ S w->VL ρ args xs->
 (callFunc f xs.toArray).run P w=.ok (.enter f xs.toArray) w/\CallsIn Fence.wide 0 P f xs.toArray w (bJ P ρ S w v S)/\
 (fB P f=true->∀u,u≠.run->CallsDIn Fence.wide 0 P f xs.toArray u w λe u' w'=>u'=u/\bJ P ρ S w v S e w')
def L5 (P:Program)(x:FuncId->Option (List AV->AH->Option (AV×AH))):Prop:=∀f g,x f=some g->∃fn c,P.funcs[f]?=some fn/\(fn.name== "runtime.NumGoroutine")=false/\fn.body=some c/\Nat.ble fn.params.size 2=false/\
 ∀args v S S',g args S=some (v,S')->∀ρ w xs,R P ρ S w->VL ρ args xs->CallsIn Fence.wide 0 P f xs.toArray w (bJ P ρ S w v S')
structure GP (P:Program)(kn:qE):Prop where
 v:GO P kn.v
 x:L5 P kn.x
def Nq:qE:=⟨λ_ _=>none,λ_=>none⟩
theorem GQ:GO P λ_ _=>none:=λ_ _ _ h=>by cases h
theorem GR:L5 P λ_=>none:=λ_ _ h=>by cases h
theorem Ds:GP P Nq:=⟨GQ,GR⟩
theorem kM {iT:Table}{kn:qE}(hT:Ao P iT)(hk:GP P kn):∀n,dg P (cn P iT kn n)/\pL P (cn P iT kn n)
 |0=>⟨⟨λh=>by simp[cn] at h,λh=>by simp[cn] at h⟩,⟨λh=>by simp[cn] at h⟩⟩
 |n+1=>by
  obtain⟨cy,B8⟩:=kM hT hk n;have RB:∀{g fa fc args S v S' ρ w d},cn P iT kn (n+1) (.fn (.func g) fa fc) args S=some (v,S')->R P ρ S w->gV ρ (.fn (.func g) fa fc) args d->
    ∃cap ys,d.target=.fn (.func g) cap/\(invoke d.target d.args).run P w=.ok (.enter g ys) w/\CallsIn Fence.wide 0 P g ys w (bJ P ρ S w v S')/\
     (fB P g=true->∀u,u≠.run->CallsDIn Fence.wide 0 P g ys u w λe u' w'=>u'=u/\bJ P ρ S w v S' e w'):=by
   intro g fa fc args S v S' ρ w d h hR nb;rcases nb with⟨f',fa',fc',a',c',xs,e,k1,k2,k3,k4,k5⟩|⟨_,_,_,_,_,e,_⟩|⟨_,_,e,_⟩
   .cases e;have hV:=k1.app (k3.app k2);have hinv:(invoke d.target d.args).run P w=(callFunc g (a'++(xs++c')).toArray).run P w:=by rw[k4,k5];show(callFunc g _).run P w=_;simp
    refine⟨c'.toArray,(a'++(xs++c')).toArray,k4,?_⟩;rw[hinv];simp only[cn] at h;cases Xe:kn.v g (jH fa (jH args fc)) with
    |some v0=>
     rw[Xe] at h;cases h;exact hk.v _ _ _ Xe _ _ _ _ hR hV
    |none=>
     rw[Xe] at h;simp only at h;cases hb:iT g with
     |none=>
      rw[hb] at h;simp only at h;cases hx:kn.x g with
      |none=>rw[hx] at h;cases h
      |some q=>
       rw[hx] at h;simp only at h;obtain⟨fn,c,h1,h2,h3,h4,h5⟩:=hk.x g q hx;refine⟨mB h1 h2 h3,h5 _ _ _ _ h _ _ _ hR hV,λsE=>?_⟩;unfold fB at sE;rw[h1] at sE;simp only[h3,h4,Bool.and_false] at sE;cases sE
     |some b=>
      rw[hb] at h;simp only at h;obtain⟨fn,vars,h1,h2,rfl⟩:=hT g b hb;cases hr:run P (cn P iT kn n) n (fZ P fn vars (jH fa (jH args fc))) S with
      |none=>rw[hr] at h;cases h
      |some q=>
       obtain⟨t,vs,S1⟩:=q;rw[hr] at h;cases t with
       |ret=>
        cases h;obtain⟨c,C_,_⟩:=vd hr;refine⟨mB h1 h2 C_,Ap cy B8 h1 hV hr hR,λsE u hu=>?_⟩;have hd:fM c=false:=by unfold fB at sE;rw[h1] at sE;simp only[C_,Bool.and_eq_true] at sE;simpa using sE.1
        exact rZ h1 C_ (uZ cy C_ hd hV hr hR (.inr trivial))
       |_=>cases h
   .cases e
   .cases e
  refine⟨⟨λ{f args S r} h=>?_,λ{f args S v S' ρ w d} h hR nb=>?_⟩,⟨λ{g fa fc args S v S' ρ w d} h sE hR nb=>?_⟩⟩
  ·
   cases f with
   |fn f a b=>
    cases f with
    |func f=>rfl
    |method m=>
     cases a with
     |nil=>cases b with
      |nil=>rfl
      |cons _ _=>simp[cn] at h
     |cons _ _=>simp[cn] at h
    |_=>simp[cn] at h
   |yd l=>rfl
   |_=>simp[cn] at h
  .have hc:gW f=true:=by
    cases f with
    |fn f a b=>
     cases f with
     |func f=>rfl
     |method m=>
      cases a with
      |nil=>cases b with
       |nil=>rfl
       |cons _ _=>simp[cn] at h
      |cons _ _=>simp[cn] at h
     |_=>simp[cn] at h
    |yd l=>rfl
    |_=>simp[cn] at h
   cases f with
   |fn f fa fc=>
    cases f with
    |func g=>
     obtain⟨cap,ys,h1,h2,h3,_⟩:=RB h hR nb;exact .inl ⟨g,ys,h2,h3⟩
    |method name=>
     have hn:fa=[]/\fc=[]:=by
      cases fa<;>cases fc<;>simp[gW] at hc
      exact⟨rfl,rfl⟩
     obtain⟨rfl,rfl⟩:=hn;rcases nb with⟨f',fa',fc',a',c',xs,e,k1,k2,k3,k4,k5⟩|⟨_,_,_,_,_,e,_⟩|⟨m,xs,e,k1,k2,k3⟩;.cases e
     .cases e
     .cases e;simp only[cn] at h;cases args with
      |nil=>cases h
      |cons x rest=>
       cases x with
       |iface t v0=>
        simp only at h;cases hm:methodOf P t v0 name with
        |none=>rw[hm] at h;cases h
        |some q=>
         obtain⟨g,r⟩:=q;rw[hm] at h;simp only at h;cases k1 with
         |cons q1 q2=>
          rename_i x xs;cases q1 with
          |iface q1=>
           rename_i y;obtain⟨k,hk⟩:∃k,P.types.size+Made.depth=k+1:=⟨P.types.size+99,rfl⟩;obtain⟨rfl,bX⟩:=B_ (w:=w) (x:=y) (n:=k) hm;have RC:gV ρ (.fn (.func g) [] []) (r::rest) {target:=.fn (.func g) #[],args:=(y::xs).toArray}:=
            .inl ⟨g,[],[],[],[],y::xs,rfl,.nil,.nil,.cons q1 q2,rfl,ac⟩
           rcases cy.ok h hR RC with⟨g',ys,l1,l2⟩|⟨⟨_,e⟩,_⟩
           .refine .inl ⟨g',ys,?_,l2⟩;rw[k2,k3];rw[<-l1];have e1:(invoke (.fn (.func g) #[]) (y::xs).toArray).run P w=(callFunc g (y::xs).toArray).run P w:=by simp[invoke]
            rw[e1];simp[invoke,callMethod,Sem.run_bind,program,Sem.run,hk,bX,Result.andThen]
           .cases e
       |_=>cases h
    |_=>simp[gW] at hc
   |yd l=>
    rcases nb with⟨f',fa',fc',a',c',xs,e,k1,k2,k3,k4,k5⟩|⟨l',b,o,len,xs,e,k1,k2,k3,k4⟩|⟨_,_,e,_⟩;.cases e
    .cases e;simp only[cn] at h;cases hg:S.get l with
     |none=>rw[hg] at h;cases h
     |some ob=>
      rw[hg] at h;cases ob with
      |loop st dI m body=>
       cases st with
       |ready=>
        simp only at h;cases Nr:Nat.beq (ca args) m with
        |false=>rw[Nr] at h;cases h
        |true=>
         rw[Nr] at h;simp only at h;have hlen:args.length=m:=by rw[<-bK];exact Nat.eq_of_beq_eq_true Nr
         cases hr:run P (cn P iT kn n) n (body (.yd l::args)) S with
         |none=>rw[hr] at h;cases h
         |some q=>
          obtain⟨t,vs,S1⟩:=q;rw[hr] at h;simp only at h;cases yz:S1.get l with
          |none=>rw[yz] at h;cases h
          |some ob2=>
           rw[yz] at h;cases ob2 with
           |loop st2 p2 m2 b2=>
            cases st2 with
            |busy=>
             simp only at h;have hv:(t=.normal/\v=.sc (.bool true)/\S'=S1.set l (.loop .ready none m2 b2))\/(t≠.normal/\v=.sc (.bool false)/\S'=S1.set l (.loop .done (some t) m2 b2)):=by
              cases t with
              |normal=>cases h;exact .inl ⟨rfl,rfl,rfl⟩
              |_=>cases h;exact .inr ⟨ac,rfl,rfl⟩
             obtain⟨g,tmps,wS,bd,l1,l2⟩:=Aq cy hR k1 hg k2 hlen hr yz hv;refine .inr ⟨⟨l,rfl⟩,b,g,tmps,wS,bd,?_,l2⟩;rw[k3,k4];exact l1
            |_=>cases h
           |_=>cases h
       |_=>cases h
      |_=>cases h
    .cases e
   |_=>simp[gW] at hc
  .obtain⟨cap,ys,h1,h2,_,h4⟩:=RB h hR nb;exact⟨cap,ys,h1,h2,h4 sE⟩
end
section
variable[km]
open Go.RowKit Go.WideShapes Go.ChangeShapes
variable{P:Program}
theorem qV {ρ aZ:Ren}{S S':AH}{w w':World}(U9:∀id o,S.get id=some o->pC o=true)(hE:Ext ρ S w aZ S' w'):Below w.heap.size w w':=
 ⟨hE.os,hE.tape,hE.output,hE.size,λk hk=>hE.frame k hk λ⟨id,ob,o,l,h1,h2,_⟩=>by rw[U9 id ob h1] at h2;cases h2⟩
theorem sT {H:Type}{enc:TypeId×Value->H}{W:World}{b:Nat}{sp:Nat->Bool}{hd:Bool}:∀{ts:List TypeId} {vs:List Value} {ds:List (DataW H)} {ps:List MemPlace},DataW.TrodAll enc P W b sp hd ts vs ds ps->ds.length=ts.length
 |[],[],[],_,_=>rfl
 |[],_::_,_,_,h=>h.elim
 |[],[],_::_,_,h=>h.elim
 |_::_,[],_,_,h=>h.elim
 |_::_,_::_,[],_,h=>h.elim
 |t::ts,v::vs,d::ds,ps,h=>by obtain⟨p,q,h1,h2,rfl⟩:=h;simp[sT h2]
theorem o9 {H:Type}{enc:TypeId×Value->H}(hl:laidOutB P=true){W W':World}{sp:Nat->Bool}:∀{ts:List TypeId} {vs:List Value} {ds:List (DataW H)} {ps:List MemPlace},
  ts.all (λt=>P.readableRec t&&decide (t<P.types.size))=true->DataW.TrodAll enc P W 0 (λ_=>true) true ts vs ds ps->(∀p∈ps,W.sameAt W' p)->(∀p∈ps,sp p.block=true)->DataW.TrodAll enc P W' 0 sp true ts vs ds ps
 |[],[],[],_,_,h,_,_=>h
 |[],_::_,_,_,_,h,_,_=>h.elim
 |[],[],_::_,_,_,h,_,_=>h.elim
 |_::_,[],_,_,_,h,_,_=>h.elim
 |_::_,_::_,[],_,_,h,_,_=>h.elim
 |t::ts,v::vs,d::ds,ps,hr,h,hs,hp=>by
  simp only[List.all_cons,Bool.and_eq_true,decide_eq_true_eq] at hr;obtain⟨p,q,h1,h2,rfl⟩:=h
  exact⟨p,q,WideElems.Trod_stays hl hr.1.1 hr.1.2 h1 (λx hx=>hs x (by simp[hx])) (λx hx=>hp x (by simp[hx])),
   o9 hl hr.2 h2 (λx hx=>hs x (by simp[hx])) (λx hx=>hp x (by simp[hx])),rfl⟩
def yA (P:Program)(f:Func):Bool:=match f.resultTypes.toList with
 |[t]=>match P.underlying t with
  |some .bool=>true
  |_=>false
 |_=>false
theorem yB {f:Func}(h:yA P f=true):∃t,f.resultTypes=#[t]/\P.underlying t=some .bool:=by
 unfold yA at h;split at h
 .rename_i t ht;split at h;.exact⟨t,Array.toList_inj.1 ht,be⟩
  .cases h
 .cases h
theorem GS {H:Type}{enc:TypeId×Value->H}{f:Func}{s:ChangeSpec}{apart fresh handsOn again:Bool}{W W':World}{args:Array Value}{ds gs:List (DataW H)}{before:List MemPlace}
  (hl:laidOutB P=true) (RD:yA P f=true) (uQ:f.params.toList.all (λt=>P.readableRec t&&decide (t<P.types.size))=true) (GU:s.vars=[])
  (hfn:∀ds:List (DataW H),ds.length=f.params.size->s.fn H ds={results:=[.lit (.bool true)],args:=ds})
  (hW:DataW.Whole enc P f.params.toList s.vars apart W args.toList ds gs before) (hb:Below W.heap.size W W'):s.post enc P f apart fresh handsOn again W args (.bool true) W':=by
 have Xf:=hW;obtain⟨tb,hrt,htb⟩:=yB RD;obtain⟨p,q,hA,hV,rfl,hfz,BV⟩:=hW;rw[GU] at hV;obtain⟨rfl,rfl⟩:=trodVars_none hV;have hlen:ds.length=f.params.size:=by have:=sT hA;simpa using this
 have de:∀x∈p,x.block<W.heap.size:=λx hx=>Xf.lt x (by simp[hx]);have cI:∀sp:Nat->Bool,(∀x∈p++[],sp x.block=true)->DataW.TrodAll enc P W' 0 sp true f.params.toList args.toList ds p:=λsp hsp=>
  o9 hl uQ hA (λx hx=>hb.same (de x hx)) (λx hx=>hsp x (by simp[hx]))
 have Nt:s.fn H (ds++[])={results:=[.lit (.bool true)],args:=ds}:=by rw[List.append_nil];exact hfn ds hlen
 have rU:∀(b:Nat) (sp:Nat->Bool) (hd:Bool),DataW.TrodAll enc P W' b sp hd f.resultTypes.toList ((Value.bool true).resultList f.resultTypes.size) (s.fn H (ds++[])).results []:=λb sp hd=>by rw[Nt,hrt];exact trodAll_mk1 (shut_bool htb true)
 have hK:∀(j:Nat) (t:TypeId) (r:Value),f.resultTypes[j]?=some t->((Value.bool true).resultList f.resultTypes.size)[j]?=some r->Value.okWide P W' .any 0 t r:=by
  intro j t r h1 h2;rw[hrt] at h1 h2;cases j with
  |zero=>
   simp only[List.getElem?_toArray,List.getElem?_cons_zero,Option.some.injEq] at h1;simp only[Value.resultList] at h2;simp at h2;subst h1 h2;exact okWide_bool_mk htb true
  |succ j=>simp at h1
 have RE:∀x∈p++[],x.block<W.heap.size:=λx hx=>Xf.lt x (by simpa using hx);have hold:∀x∈p++[],(λb=>decide (b<W.heap.size)) x.block=true:=λx hx=>by simpa using RE x hx
 refine⟨ds,[],p++[],[],p,[],Xf,rU _ _ _,by rw[Nt];exact cI _ hold,by rw[GU,Nt];exact(rfl:DataW.TrodVars enc P W' _ [] [] []),World.keptBut_mono (λx hx=>⟨hx,Or.inr (by simpa using hx)⟩) (hb.frame (·∈p++[])),λ_=>?_⟩;refine⟨hK,_,[],([]++p)++[],⟨[]++p,[],trodAll_append (cI _ (λ_ _=>rfl)) (rU _ _ _),by rw[GU];exact(rfl:DataW.TrodVars enc P W' _ [] [] []),rfl,?_,?_⟩,?_⟩
 .intro b off hp;have na:MemPlace.cell b off∈p++[]:=by simpa using hp
  rw[hb.frozen (RE _ na)];exact hfz b off (by simpa using na)
 .intro ha;have:=BV ha;simpa using this
 .intro x hx _;simpa using hx
end
section
variable[km]
open Go.RowKit Go.WideShapes Go.ChangeShapes
variable{P:Program}
def T.Ve {α:Type}(p:Nat->α->Prop):T α->Nat->Nat->Prop
 |.e,_,_=>True
 |.n l v r,a,b=>T.Ve p l (a+b) (2*b)/\(match v with|some x=>p a x|none=>True)/\T.Ve p r (a+2*b) (2*b)
theorem T.Ve.get {α:Type}{p:Nat->α->Prop}:∀{t:T α} {a b:Nat},T.Ve p t a b->∀{k:Nat} {x:α},T.get t k=some x->p (a+b*k) x
 |.e,a,b,h,k,x,hx=>by simp[T.get] at hx
 |.n l v r,a,b,h,k,x,hx=>by
  obtain⟨h1,h2,h3⟩:=h;unfold T.get at hx;cases k with
  |zero=>
   simp only at hx;subst hx;simpa using h2
  |succ k=>
   simp only at hx;have hk:=Nat.div_add_mod k 2;split at hx
   .rename_i hm;have GG:k%2=0:=Nat.eq_of_beq_eq_true hm;have:=h1.get hx;have e:a+b+2*b*(k/2)=a+b*(k+1):=by have:k=2*(k/2):=am;generalize k/2=j at this⊢;subst this;rw[Nat.mul_add,Nat.mul_comm 2 b,Nat.mul_assoc];omega
    exact e▸this
   .rename_i hm;have GG:k%2=1:=by have:k%2≠0:=λe=>hm (by rw[show Nat.mod k 2=k%2 from rfl,e];rfl);omega
    have:=h3.get hx;have e:a+2*b+2*b*(k/2)=a+b*(k+1):=by
     have:k=2*(k/2)+1:=am;generalize k/2=j at this⊢;subst this;rw[show b*(2*j+1+1)=2*b*j+2*b by
      rw[Nat.mul_add,Nat.mul_add,Nat.mul_comm 2 b,Nat.mul_assoc];omega]
     omega
    exact e▸this
def RF (P:Program)(f:Nat)(b:List AV->AC):Prop:=∃fn vars,P.funcs[f]?=some fn/\(fn.name== "runtime.NumGoroutine")=false/\b=fZ P fn vars
def isTrue:Option (AV×AH)->Bool
 |some (.sc (.bool true),_)=>true
 |_=>false
theorem sU {r:Option (AV×AH)}(h:isTrue r=true):∃S',r=some (.sc (.bool true),S'):=by
 unfold isTrue at h;split at h;.exact⟨_,rfl⟩
 .cases h
theorem R.nothing (P:Program)(w:World):R P (λ_=>none) ⟨.e,0⟩ w where
 jb:=λh=>by simp[AH.get,gC] at h
 inj:=λh=>by simp[AH.get,gC] at h
 tq:=λh=>by cases h
 o0:=λh=>by cases h
 wf:=λh=>by simp[AH.get,gC] at h
theorem yC {iT:Table}{kn:qE}(hT:Ao P iT)(hk:GP P kn){n:Nat}{f:FuncId}{as:List AV}{S:AH}{ρ:Ren}{W:World}{args:Array Value}
  (bX:isTrue (cn P iT kn n (.fn (.func f) [] []) as S)=true) (hR:R P ρ S W) (hV:VL ρ as args.toList) (jD:∀id o,S.get id=some o->pC o=true)
  (qJ:∀w,(callFunc f args).run P w=.ok (.enter f args) w):
  Calls P f args W λe W'=>e=.returned (.bool true)/\Below W.heap.size W W':=by
 obtain⟨S',bX⟩:=sU bX;have nb:gV ρ (.fn (.func f) [] []) as {target:=.fn (.func f) #[],args:=args}:=.inl ⟨f,[],[],[],[],args.toList,rfl,.nil,.nil,hV,rfl,ac⟩;rcases(kM hT hk n).1.ok bX hR nb with⟨g,ys,h1,h2⟩|⟨⟨_,e⟩,_⟩
 .have hn:(invoke (.fn (.func f) #[]) args).run P W=(callFunc f args).run P W:=by simp[invoke]
  rw[hn,qJ] at h1;cases h1;refine(callsIn_wide.1 h2).mono λe W' q=>?_;obtain⟨x,aZ,rfl,q1,q2,q3⟩:=q;exact⟨by rw[q1.gn.1],qV jD q3⟩
 .cases e
theorem GV {f:FuncId}{fn:Func}(hf:P.funcs[f]?=some fn)(hn:(fn.name== "runtime.NumGoroutine")=false)(hb:fn.body.isSome=true)(args:Array Value)(w:World):(callFunc f args).run P w=.ok (.enter f args) w:=by
 cases h:fn.body with
 |none=>rw[h] at hb;cases hb
 |some c=>exact mB hf hn h
theorem R.grown {ρ:Ren}{S:AH}{w w':World}(h:R P ρ S w)(hb:Below w.heap.size w w'):R P ρ S w'/\Ext ρ S w ρ S w':=
 ⟨⟨λh1 h2=>(h.jb h1 h2).mono (Ren.le_refl _) (hb.block _ (h.o0 h2)),h.inj,h.tq,λh1=>Nat.lt_of_lt_of_le (h.o0 h1) hb.size,h.wf⟩,
  ⟨Ren.le_refl _,Nat.le_refl _,λid x h1 h2=>by(rw[h1] at h2;cases h2),λ_ _ _=>rfl,hb.os,hb.tape,hb.output,hb.size,λb h1 _=>hb.block b h1,λ_ _ h=>h⟩⟩
def Vf:List (FuncId×Value)->FuncId->List AV->Option AV
 |[],_,_=>none
 |(f,v)::r,g,as=>match Nat.beq g f with
  |true=>match as with
   |[]=>some (.sc v)
   |_=>none
  |false=>Vf r g as
theorem GW {iT:Table}{kn:qE}(hT:Ao P iT)(hk:GP P kn):∀{l:List (FuncId×Value)},(∀x∈l,(∃n S',cn P iT kn n (.fn (.func x.1) [] []) [] ⟨.e,0⟩=some (.sc x.2,S'))/\∀w,(callFunc x.1 #[]).run P w=.ok (.enter x.1 #[]) w)->GO P (Vf l)
 |[],_=>λ_ _ _ h=>by cases h
 |(f,v)::r,hl=>by
  intro g as u h ρ S w xs hR hV;unfold Vf at h;cases hb:Nat.beq g f with
  |false=>
   rw[hb] at h;exact GW hT hk (l:=r) (λx hx=>hl x (by simp[hx])) _ _ _ h _ _ _ _ hR hV
  |true=>
   have e:=Nat.eq_of_beq_eq_true hb;subst e;rw[hb] at h;cases as with
   |cons _ _=>cases h
   |nil=>
    cases h;cases hV;obtain⟨⟨n,S',bX⟩,qJ⟩:=hl (g,v) ac;have nb:gV (λ_=>none) (.fn (.func g) [] []) [] {target:=.fn (.func g) #[],args:=#[]}:=.inl ⟨g,[],[],[],[],[],rfl,.nil,.nil,.nil,rfl,rfl⟩;have hn:(invoke (.fn (.func g) #[]) #[]).run P w=(callFunc g #[]).run P w:=by simp[invoke]
    have post:∀e w',bJ P (λ_=>none) ⟨.e,0⟩ w (.sc v) S' e w'->bJ P ρ S w (.sc v) S e w':=by rintro e w' ⟨x,aZ,rfl,q1,q2,q3⟩;obtain⟨h1,h2⟩:=hR.grown (qV (λid o h=>by simp[AH.get,gC] at h) q3);obtain⟨rfl,hs⟩:=q1.gn;exact⟨_,ρ,rfl,.sc hs,h1,h2⟩
    refine⟨qJ w,?_,λsE u hu=>?_⟩
    .rcases(kM hT hk n).1.ok bX (R.nothing P w) nb with⟨g',ys,h1,h2⟩|⟨⟨_,e⟩,_⟩
     .rw[hn,qJ] at h1;cases h1;exact h2.mono (post)
     .cases e
    .obtain⟨cap,ys,h0,h1,h2⟩:=(kM hT hk n).2.ok bX sE (R.nothing P w) nb;rw[hn,qJ] at h1;cases h1;exact(h2 u hu).mono λe u' w' q=>⟨q.1,post e w' q.2⟩
end
structure cP where
 P:Program
 iT:Table
 kn:qE
abbrev gG:=Tag->List AV->AH->Prop
def wp (M:cP)(x:AC)(S:AH)(Q:gG):Prop:=∃t vs S',(∃n0,∀n,n0<=n->run M.P (cn M.P M.iT M.kn n) n x S=some (t,vs,S'))/\Q t vs S'
def aN (M:cP)(f:AV)(args:List AV)(S:AH)(Q:AV->AH->Prop):Prop:=∃v S',(∃n0,∀n,n0<=n->cn M.P M.iT M.kn n f args S=some (v,S'))/\Q v S'
def Qt (M:cP)(body:List AV->AC)(vs:List AV)(S:AH)(Q:gG):Prop:=
 ∃t wJ S',(∃n0,∀n k,n0<=n->n0<=k->iter (λvs=>run M.P (cn M.P M.iT M.kn n) n (body vs)) k vs S=some (t,wJ,S'))/\Q t wJ S'
section
variable{M:cP}{S S1:AH}{Q:gG}
theorem wp_mono {x:AC}{Q':gG}(h:wp M x S Q)(hm:∀t vs S',Q t vs S'->Q' t vs S'):wp M x S Q':=
 let⟨t,vs,S',h1,h2⟩:=h;⟨t,vs,S',h1,hm _ _ _ h2⟩
theorem az {f:AV}{args:List AV}{Q Q':AV->AH->Prop}(h:aN M f args S Q)(hm:∀v S',Q v S'->Q' v S'):aN M f args S Q':=
 let⟨v,S',h1,h2⟩:=h;⟨v,S',h1,hm _ _ h2⟩
theorem wp_ret {t:Tag}{vs:List AV}(h:Q t vs S):wp M (.ret t vs) S Q:=⟨t,vs,S,⟨0,λ_ _=>rfl⟩,h⟩
theorem ah {o:fK}{k:AV->AC}{v:AV}(he:evalOp M.P o S=some (v,S1))(h:wp M (k v) S1 Q):wp M (.op o k) S Q:=by obtain⟨t,vs,S',⟨n0,h1⟩,h2⟩:=h;exact⟨t,vs,S',⟨n0,λn hn=>by rw[iw,he];exact h1 n hn⟩,h2⟩
theorem ve {g:AV}{b:Bool}{o:fK}{k:AV->AC}(hg:Bu g b=some false)(h:wp M (k uv) S Q):wp M (.qh g b o k) S Q:=by obtain⟨t,vs,S',⟨n0,h1⟩,h2⟩:=h;exact⟨t,vs,S',⟨n0,λn hn=>by rw[tT];unfold rP;rw[hg];exact h1 n hn⟩,h2⟩
theorem yD {o:fK}{v v':AV}{k:AC}(he:cT M.P S o=some v')(hb:v'.beq v=true)(h:wp M k S Q):wp M (.rN o v k) S Q:=by obtain⟨t,vs,S',⟨n0,h1⟩,h2⟩:=h;exact⟨t,vs,S',⟨n0,λn hn=>by show px M.P o v _ S=_;unfold px;rw[he];simp only[hb];exact h1 n hn⟩,h2⟩
theorem nP {g:AV}{b:Bool}{o:fK}{v:AV}{k:AC}(hg:Bu g b=some false)(h:wp M k S Q):wp M (.BB g b o v k) S Q:=by obtain⟨t,vs,S',⟨n0,h1⟩,h2⟩:=h;exact⟨t,vs,S',⟨n0,λn hn=>by show qC M.P g b o v _ S=_;unfold qC;rw[hg];exact h1 n hn⟩,h2⟩
theorem GX {b:Bool}{x y:AC}(h:wp M (if b then x else y) S Q):wp M (.ite (.sc (.bool b)) x y) S Q:=by
 obtain⟨t,vs,S',⟨n0,h1⟩,h2⟩:=h;refine⟨t,vs,S',⟨n0,λn hn=>?_⟩,h2⟩;have:=h1 n hn;rw[run_ite];cases b<;>exact this
theorem cw {f:AV}{args:List AV}{k:AV->AC}(h:aN M f args S λv S'=>wp M (k v) S' Q):wp M (.call f args k) S Q:=by obtain⟨v,S1,⟨n0,h1⟩,t,vs,S',⟨n1,h2⟩,h3⟩:=h;exact⟨t,vs,S',⟨max n0 n1,λn hn=>by rw[nK,h1 n am];exact h2 n am⟩,h3⟩
theorem qW {g:AV}{b:Bool}{f:AV}{args:List AV}{k:AV->AC}(hg:Bu g b=some false)(h:wp M (k uv) S Q):wp M (.iQ g b f args k) S Q:=by obtain⟨t,vs,S',⟨n0,h1⟩,h2⟩:=h;exact⟨t,vs,S',⟨n0,λn hn=>by rw[rV];unfold ny;rw[hg];exact h1 n hn⟩,h2⟩
def yE (M:cP)(id:Option Nat)(k:List AV->AC)(outs:List AV->List AV)(Q:gG):gG:=λt vs S'=>
 match t with
 |.normal=>wp M (k vs) S' Q
 |.exit i=>match id with
  |some j=>match Nat.beq j i with
   |true=>wp M (k vs) S' Q
   |false=>Q (.exit i) (outs vs) S'
  |none=>Q (.exit i) (outs vs) S'
 |t=>Q t (outs vs) S'
theorem wp_bind {m:AC}{id:Option Nat}{k:List AV->AC}{outs:List AV->List AV}(h:wp M m S (yE M id k outs Q)):wp M (.bind m id k outs) S Q:=by
 obtain⟨t,vs,S1,⟨n0,h1⟩,h2⟩:=h;have go:wp M (k vs) S1 Q->(∀n,run M.P (cn M.P M.iT M.kn n) n m S=some (t,vs,S1)->run M.P (cn M.P M.iT M.kn n) n (.bind m id k outs) S=run M.P (cn M.P M.iT M.kn n) n (k vs) S1)->wp M (.bind m id k outs) S Q:=by rintro⟨t',wJ,S',⟨n1,h3⟩,h4⟩ he;exact⟨t',wJ,S',⟨max n0 n1,λn hn=>by rw[he n (h1 n am)];exact h3 n am⟩,h4⟩
 have out:∀t',Q t' (outs vs) S1->(∀n,run M.P (cn M.P M.iT M.kn n) n m S=some (t,vs,S1)->run M.P (cn M.P M.iT M.kn n) n (.bind m id k outs) S=some (t',outs vs,S1))->wp M (.bind m id k outs) S Q:=by intro t' hq he;exact⟨t',outs vs,S1,⟨n0,λn hn=>he n (h1 n hn)⟩,hq⟩
 cases t with
 |normal=>exact go h2 λn hn=>by rw[run_bind'];unfold fA;rw[hn]
 |exit i=>
  cases id with
  |none=>exact out _ h2 λn hn=>by rw[run_bind'];unfold fA;rw[hn]
  |some j=>
   simp only[yE] at h2;cases hb:Nat.beq j i with
   |true=>rw[hb] at h2;exact go h2 λn hn=>by rw[run_bind'];unfold fA;rw[hn];simp only[hb]
   |false=>rw[hb] at h2;exact out _ h2 λn hn=>by rw[run_bind'];unfold fA;rw[hn];simp only[hb]
 |goto l=>exact out _ h2 λn hn=>by rw[run_bind'];unfold fA;rw[hn]
 |ret=>exact out _ h2 λn hn=>by rw[run_bind'];unfold fA;rw[hn]
theorem Ca {m:AC}{k:List AV->AC}(h:wp M m S λt vs S'=>(t=.normal\/t=.ret)/\wp M (k vs) S' Q):wp M (.fin m k) S Q:=by
 obtain⟨t,vs,S1,⟨n0,h1⟩,ht,t',wJ,S',⟨n1,h2⟩,h3⟩:=h;refine⟨t',wJ,S',⟨max n0 n1,λn hn=>?_⟩,h3⟩;rw[tW];unfold rQ;rw[h1 n am];rcases ht with rfl|rfl<;>exact h2 n am
theorem wp_loop {init:List AV}{body:List AV->AC}{outs:List AV->List AV}(h:Qt M body init S λt vs S'=>Q t (outs vs) S'):wp M (.loop init body outs) S Q:=by obtain⟨t,vs,S1,⟨n0,h1⟩,h2⟩:=h;exact⟨t,outs vs,S1,⟨n0,λn hn=>by rw[Ai];unfold tQ;rw[h1 n n hn hn]⟩,h2⟩
theorem nQ {body:List AV->AC}{vs:List AV}(h:wp M (body vs) S λt Bw S1=>(t=.normal/\Qt M body Bw S1 Q)\/(t≠.normal/\Q t Bw S1)):Qt M body vs S Q:=by
 obtain⟨t,Bw,S1,⟨n0,h1⟩,h2⟩:=h;rcases h2 with⟨rfl,t',wJ,S',⟨n1,h3⟩,h4⟩|⟨ht,hq⟩
 .refine⟨t',wJ,S',⟨max n0 n1+1,λn k hn hk=>?_⟩,h4⟩;obtain⟨k,rfl⟩:∃j,k=j+1:=⟨k-1,am⟩;simp only[iter];rw[h1 n am];exact h3 n k am am
 .refine⟨t,Bw,S1,⟨n0+1,λn k hn hk=>?_⟩,hq⟩;obtain⟨k,rfl⟩:∃j,k=j+1:=⟨k-1,am⟩;simp only[iter];rw[h1 n am];cases t with
  |normal=>exact absurd rfl ht
  |_=>rfl
theorem Dt {body:List AV->AC}(I:Nat->List AV->AH->Prop)
  (hr:∀m vs S,I m vs S->wp M (body vs) S λt Bw S1=>(t=.normal/\∃m',m'<m/\I m' Bw S1)\/(t≠.normal/\Q t Bw S1)):
  ∀(m:Nat) {vs:List AV} {S:AH},I m vs S->Qt M body vs S Q:=by
 intro m;induction m using Nat.strongRecOn with
 |_ m ih=>
  intro vs S h;refine nQ (wp_mono (hr m vs S h) λt Bw S1 q=>?_);rcases q with⟨ht,m',de,hI⟩|q;.exact .inl ⟨ht,ih m' de hI⟩
  .exact .inr q
theorem GY {l:Nat}{k:AC}{dI:Option Tag}{n:Nat}{b:List AV->AC}(hg:S.get l=some (.loop .ready dI n b))(h:wp M k (S.set l (.loop .busy dI n b)) Q):wp M (.start (.yd l) k) S Q:=by obtain⟨t,vs,S',⟨n0,h1⟩,h2⟩:=h;exact⟨t,vs,S',⟨n0,λn hn=>by rw[xw];unfold qD;simp only[hg];exact h1 n hn⟩,h2⟩
theorem Nu {n:Nat}{f:AV}{body:List AV->AC}{k:AC}{outs:List AV}(hf:∀i,f≠.yd i)
  (h:aN M f [.yd S.next] (S.new (.loop .ready none n body)) λ_ S'=>∃st dI m b,S'.get S.next=some (.loop st dI m b)/\st≠.busy/\
    match dI with
    |none=>wp M k (S'.set S.next (.loop .exhausted dI m b)) Q
    |some t=>Q t outs (S'.set S.next (.loop .exhausted dI m b))):wp M (.Ef n f body k outs) S Q:=by
 obtain⟨v,S1,⟨n0,h1⟩,st,dI,m,b,hg,tR,h2⟩:=h;have key:∀n',n0<=n'->run M.P (cn M.P M.iT M.kn n') n' (.Ef n f body k outs) S=GD (run M.P (cn M.P M.iT M.kn n') n' k) outs (S1.set S.next (.loop .exhausted dI m b)) dI:=by
  intro n' hn;rw[Dj];have e:=h1 n' hn;cases f with
  |yd i=>exact absurd rfl (hf i)
  |_=>unfold x_;simp only[e,hg];cases st<;>cases dI<;>first|exact absurd rfl tR|rfl
 cases dI with
 |none=>
  obtain⟨t,vs,S',⟨n1,h3⟩,h4⟩:=h2;exact⟨t,vs,S',⟨max n0 n1,λn' hn=>by rw[key n' am];exact h3 n' am⟩,h4⟩
 |some t=>exact⟨t,outs,_,⟨n0,λn' hn=>key n' hn⟩,h2⟩
theorem br {f:FuncId}{fa fc args:List AV}{b:List AV->AC}{Q:AV->AH->Prop}(hk:M.kn f (fa++(args++fc))=none)(hb:M.iT f=some b)
  (h:wp M (b (fa++(args++fc))) S λt vs S'=>t=.ret/\Q (oneOf vs) S'):aN M (.fn (.func f) fa fc) args S Q:=by
 obtain⟨t,vs,S',⟨n0,h1⟩,rfl,h2⟩:=h;refine⟨oneOf vs,S',⟨n0+1,λn hn=>?_⟩,h2⟩;obtain⟨n,rfl⟩:∃j,n=j+1:=⟨n-1,am⟩;simp only[cn,gB,hk,hb,h1 n am]
theorem GZ {f:FuncId}{fa fc args:List AV}{v:AV}{Q:AV->AH->Prop}(hk:M.kn f (fa++(args++fc))=some v)(h:Q v S):aN M (.fn (.func f) fa fc) args S Q:=by refine⟨v,S,⟨1,λn hn=>?_⟩,h⟩;obtain⟨n,rfl⟩:∃j,n=j+1:=⟨n-1,am⟩;simp only[cn,gB,hk]
theorem jQ {name:String}{t:TypeId}{v r:AV}{f:FuncId}{rest:List AV}{Q:AV->AH->Prop}(hm:methodOf M.P t v name=some (f,r))(h:aN M (.fn (.func f) [] []) (r::rest) S Q):
  aN M (.fn (.method name) [] []) (.iface t v::rest) S Q:=by
 obtain⟨u,S',⟨n0,h1⟩,h2⟩:=h;refine⟨u,S',⟨n0+1,λn hn=>?_⟩,h2⟩;obtain⟨n,rfl⟩:∃j,n=j+1:=⟨n-1,am⟩;simp only[cn,hm];exact h1 n am
theorem Nv {l:Nat}{args:List AV}{dI:Option Tag}{m:Nat}{body:List AV->AC}{Q:AV->AH->Prop}(hg:S.get l=some (.loop .ready dI m body))(hl:args.length=m)
  (h:wp M (body (.yd l::args)) S λt _ S'=>∃p m' b',S'.get l=some (.loop .busy p m' b')/\
    match t with
    |.normal=>Q (.sc (.bool true)) (S'.set l (.loop .ready none m' b'))
    |t=>Q (.sc (.bool false)) (S'.set l (.loop .done (some t) m' b'))):aN M (.yd l) args S Q:=by
 obtain⟨t,vs,S',⟨n0,h1⟩,p,m',b',yz,h2⟩:=h;have hb:Nat.beq (ca args) m=true:=by rw[bK,hl];exact Nat.beq_refl m
 cases t with
 |normal=>
  refine⟨_,_,⟨n0+1,λn hn=>?_⟩,h2⟩;obtain⟨n,rfl⟩:∃j,n=j+1:=⟨n-1,am⟩;simp only[cn,hg,hb,h1 n am,yz]
 |_=>refine⟨_,_,⟨n0+1,λn hn=>?_⟩,h2⟩;obtain⟨n,rfl⟩:∃j,n=j+1:=⟨n-1,am⟩;simp only[cn,hg,hb,h1 n am,yz]
theorem G0 {f:FuncId}{as:List AV}(h:aN M (.fn (.func f) [] []) as S λv _=>v=.sc (.bool true)):∃n,isTrue (cn M.P M.iT M.kn n (.fn (.func f) [] []) as S)=true:=by obtain⟨v,S',⟨n0,h1⟩,rfl⟩:=h;exact⟨n0,by rw[h1 n0 (Nat.le_refl _)];rfl⟩
end
structure bn (B S:AH):Prop where
 next:B.next<=S.next
 jc:∀id,id<B.next->S.get id=B.get id
theorem bn.refl (S:AH):bn S S:=⟨Nat.le_refl _,λ_ _=>rfl⟩
theorem bn.trans {A B C:AH}(h:bn A B)(k:bn B C):bn A C:=⟨Nat.le_trans h.next k.next,λid hi=>by rw[k.jc id (Nat.lt_of_lt_of_le hi h.next),h.jc id hi]⟩
theorem bn.new (S:AH)(o:AO):bn S (S.new o):=⟨by simp[AH.new],λid hi=>by rw[AH.cg,if_neg am]⟩
def eR:AV->List Nat
 |.sl id _ _ _=>[id]
 |.op id _ _ _ _=>[id]
 |_=>[]
def pM (v:AV)(es n id off:Nat)(c:List AV):Prop:=
 (∃cap,n<=cap/\off+cap*es<=c.length/\v=.sl id off n cap)\/(∃cH,n<=cH/\off+cH*es<=c.length/\v=.op id off n cH es)
theorem pM.ids {v:AV}{es n id off:Nat}{c:List AV}(h:pM v es n id off c):eR v=[id]:=by
 rcases h with⟨_,_,_,rfl⟩|⟨_,_,_,rfl⟩<;>rfl
def Ju (S:AH)(v:AV)(es:Nat)(L:List (List AV)):Prop:=
 (v=.sc (.slice none 0 0)/\L=[])\/∃id off c,pM v es L.length id off c/\S.get id=some (.row c)/\(c.drop off).take (L.length*es)=L.flatten/\∀x∈L,x.length=es
inductive Own where
 |obj (id:Nat)(o:AO)
 |sl (v:AV)(es:Nat)(L:List (List AV))
def Own.ids:Own->List Nat
 |.obj id _=>[id]
 |.sl v _ _=>eR v
def Own.holds (S:AH):Own->Prop
 |.obj id o=>S.get id=some o
 |.sl v es L=>Ju S v es L
inductive aI where
 |pt (id off:Nat)(cs:List AV)
 |sl (v:AV)(es:Nat)(L:List (List AV))
 |ob (id:Nat)(o:AO)
def aI.ids:aI->List Nat
 |.pt id _ _=>[id]
 |.sl v _ _=>eR v
 |.ob id _=>[id]
def iV (S:AH)(v:AV)(es:Nat)(L:List (List AV)):Prop:=
 (v=.sc (.slice none 0 0)/\L=[])\/∃id off c,pM v es L.length id off c/\
   S.cells? id=some c/\(c.drop off).take (L.length*es)=L.flatten/\∀x∈L,x.length=es
def aI.holds (S:AH):aI->Prop
 |.pt id off cs=>∃c,S.cells? id=some c/\off+cs.length<=c.length/\(c.drop off).take cs.length=cs
 |.sl v es L=>iV S v es L
 |.ob id o=>S.get id=some o
structure Cx (B:AH)(M:List Nat)(S:AH)(own:List Own)(ro:List aI):Prop where
 next:B.next<=S.next
 jc:∀id,id<B.next->id∉M->S.get id=B.get id
 oh:∀x∈own,x.holds S
 oi:∀x∈own,∀id∈x.ids,id<S.next/\(id<B.next->id∈M)
 od:own.Pairwise λx y=>∀id∈x.ids,id∉y.ids
 rh:∀φ∈ro,φ.holds S
 ri:∀φ∈ro,∀id∈φ.ids,id<S.next/\∀x∈own,id∉x.ids
theorem vg {S S1:AH}{id:Nat}(h:S1.get id=S.get id):S1.cells? id=S.cells? id:=by unfold AH.cells?;rw[h]
theorem Own.gH {S S1:AH}{x:Own}(h:∀id∈x.ids,S1.get id=S.get id)(hx:x.holds S):x.holds S1:=by
 cases x with
 |obj id o=>exact(h id (by simp[Own.ids])).trans hx
 |sl v es L=>
  rcases hx with hx|⟨id,off,c,h0,h1,h2⟩;.exact .inl hx
  .exact .inr ⟨id,off,c,h0,(h id (by simp[Own.ids,h0.ids])).trans h1,h2⟩
theorem xA {S S1:AH}{v:AV}{es:Nat}{L:List (List AV)}(h:∀id∈eR v,S1.get id=S.get id)(hx:iV S v es L):iV S1 v es L:=by
 rcases hx with hx|⟨id,off,c,h1,h2,h3⟩;.exact .inl hx
 .refine .inr ⟨id,off,c,h1,?_,h3⟩;rw[vg (h id (by simp[h1.ids]))];exact h2
theorem aI.gH {S S1:AH}{x:aI}(h:∀id∈x.ids,S1.get id=S.get id)(hx:x.holds S):x.holds S1:=by
 cases x with
 |pt id off cs=>
  obtain⟨c,h1,h2⟩:=hx;exact⟨c,by rw[vg (h id (by simp[aI.ids]))];exact h1,h2⟩
 |sl v es L=>exact xA h hx
 |ob id o=>exact(h id (by simp[aI.ids])).trans hx
section
variable{B S S1:AH}{M:List Nat}{own:List Own}{ro:List aI}
theorem Cx.step (H:Cx B M S own ro){i:Nat}{x x':Own}(hi:own[i]?=some x)(nJ:S.next<=S1.next)(zX:∀id,id<S.next->id∉x.ids->S1.get id=S.get id)(hx:x'.holds S1)
  (ng:∀id∈x'.ids,id<S1.next/\(id∈x.ids\/S.next<=id)):Cx B M S1 (own.set i x') ro:=by
 have kp:x∈own:=List.mem_of_getElem? hi;have As:=H.od;have uD:∀(j:Nat) y,j≠i->own[j]?=some y->∀id∈y.ids,id∉x.ids:=by
  intro j y hj hy id bT hx;rw[List.pairwise_iff_getElem] at As;obtain⟨EG,wX⟩:=List.getElem?_eq_some_iff.1 hi;obtain⟨Jv,wC⟩:=List.getElem?_eq_some_iff.1 hy;rcases Nat.lt_or_gt_of_ne hj with de|Qu;.exact As j i Jv EG de id (by rw[wC];exact bT) (by rw[wX];exact hx)
  .exact As i j EG Jv Qu id (by rw[wX];exact hx) (by rw[wC];exact bT)
 have G1:∀y∈own.set i x',y=x'\/∃j,j≠i/\own[j]?=some y:=by
  intro y hy;obtain⟨j,hj⟩:=List.getElem?_of_mem hy;rw[List.getElem?_set] at hj;by_cases e:i=j
  .subst e;obtain⟨EG,_⟩:=List.getElem?_eq_some_iff.1 hi;simp[EG] at hj;exact .inl hj.symm
  .rw[if_neg e] at hj;exact .inr ⟨j,λh=>e h.symm,hj⟩
 refine⟨Nat.le_trans H.next nJ,?_,?_,?_,?_,?_,?_⟩
 .intro id bT hM;rw[zX id (Nat.lt_of_lt_of_le bT H.next) (λhx=>hM ((H.oi x kp id hx).2 bT)),H.jc id bT hM]
 .intro y hy;rcases G1 y hy with rfl|⟨j,hj,hy⟩;.exact hx
  .exact Own.gH (λid bT=>zX id (H.oi y (List.mem_of_getElem? hy) id bT).1 (uD j y hj hy id bT)) (H.oh y (List.mem_of_getElem? hy))
 .intro y hy id bT;rcases G1 y hy with rfl|⟨j,hj,hy⟩
  .obtain⟨h1,h2⟩:=ng id bT;refine⟨h1,λhB=>?_⟩;rcases h2 with h2|h2;.exact(H.oi x kp id h2).2 hB
   .exact absurd hB (by have:=H.next;omega)
  .have:=H.oi y (List.mem_of_getElem? hy) id bT;exact⟨Nat.lt_of_lt_of_le this.1 nJ,this.2⟩
 .rw[List.pairwise_iff_getElem];rw[List.pairwise_iff_getElem] at As;intro a b ha hb Nw id h1 h2;rw[List.length_set] at ha hb;rw[List.getElem_set] at h1 h2;split at h1
  .rename_i ea;subst ea;rw[if_neg am] at h2;rcases(ng id h1).2 with hx|hx;.exact uD b own[b] am (List.getElem?_eq_getElem hb) id h2 hx
   .have:=(H.oi _ (List.getElem_mem hb) id h2).1;omega
  .split at h2
   .rename_i eb;subst eb;rcases(ng id h2).2 with hx|hx;.exact uD a own[a] am (List.getElem?_eq_getElem ha) id h1 hx
    .have:=(H.oi _ (List.getElem_mem ha) id h1).1;omega
   .exact As a b ha hb Nw id h1 h2
 .intro φ jt;exact aI.gH (λid bT=>zX id (H.ri φ jt id bT).1 ((H.ri φ jt id bT).2 x kp)) (H.rh φ jt)
 .intro φ jt id bT;have:=H.ri φ jt id bT;refine⟨Nat.lt_of_lt_of_le this.1 nJ,λy hy h=>?_⟩;rcases G1 y hy with rfl|⟨j,hj,hy⟩
  .rcases(ng id h).2 with hx|hx;.exact this.2 x kp hx
   .omega
  .exact this.2 y (List.mem_of_getElem? hy) h
theorem Cx.grow (H:Cx B M S own ro)(hg:bn S S1):Cx B M S1 own ro where
 next:=Nat.le_trans H.next hg.next
 jc:=λid h1 h2=>by rw[hg.jc id (Nat.lt_of_lt_of_le h1 H.next),H.jc id h1 h2]
 oh:=λx hx=>Own.gH (λid bT=>hg.jc id (H.oi x hx id bT).1) (H.oh x hx)
 oi:=λx hx id bT=>⟨Nat.lt_of_lt_of_le (H.oi x hx id bT).1 hg.next,(H.oi x hx id bT).2⟩
 od:=H.od
 rh:=λφ jt=>aI.gH (λid bT=>hg.jc id (H.ri φ jt id bT).1) (H.rh φ jt)
 ri:=λφ jt id bT=>⟨Nat.lt_of_lt_of_le (H.ri φ jt id bT).1 hg.next,(H.ri φ jt id bT).2⟩
theorem Cx.jR (H:Cx B M S own ro)(hg:bn S S1){x:Own}(hx:x.holds S1)(ng:∀id∈x.ids,S.next<=id/\id<S1.next):Cx B M S1 (x::own) ro:=by
 have K:=H.grow hg;refine⟨K.next,K.jc,?_,?_,?_,K.rh,?_⟩
 .intro y hy;rcases List.mem_cons.1 hy with rfl|hy;.exact hx
  .exact K.oh y hy
 .intro y hy id bT;rcases List.mem_cons.1 hy with rfl|hy
  .have:=ng id bT;exact⟨this.2,λhB=>absurd hB (by have:=H.next;omega)⟩
  .exact K.oi y hy id bT
 .refine List.pairwise_cons.2 ⟨λy hy id h1 h2=>?_,K.od⟩;have:=(H.oi y hy id h2).1;have:=(ng id h1).1;omega
 .intro φ jt id bT;refine⟨(K.ri φ jt id bT).1,λy hy=>?_⟩;rcases List.mem_cons.1 hy with rfl|hy
  .intro h;have:=(H.ri φ jt id bT).1;have:=(ng id h).1;omega
  .exact(K.ri φ jt id bT).2 y hy
theorem Cx.qX (H:Cx B M S own ro){φ:aI}(hx:φ.holds S)(ng:∀id∈φ.ids,id<S.next/\∀x∈own,id∉x.ids):Cx B M S own (φ::ro) where
 next:=H.next
 jc:=H.jc
 oh:=H.oh
 oi:=H.oi
 od:=H.od
 rh:=λψ Nx=>by
  rcases List.mem_cons.1 Nx with rfl|Nx;.exact hx
  .exact H.rh ψ Nx
 ri:=λψ Nx=>by
  rcases List.mem_cons.1 Nx with rfl|Nx;.exact ng
  .exact H.ri ψ Nx
theorem Cx.At (H:Cx B M S own ro)(hg:bn S S1){φ:aI}(hx:φ.holds S1)(ng:∀id∈φ.ids,S.next<=id/\id<S1.next):Cx B M S1 own (φ::ro):=
 (H.grow hg).qX hx λid bT=>⟨(ng id bT).2,λx hx h=>by have:=(H.oi x hx id h).1;have:=(ng id bT).1;omega⟩
theorem Cx.Ny (H:Cx B M S own ro){RG:List aI}(h:∀φ∈RG,φ∈ro):Cx B M S own RG:=
 ⟨H.next,H.jc,H.oh,H.oi,H.od,λφ jt=>H.rh φ (h φ jt),λφ jt=>H.ri φ (h φ jt)⟩
theorem Cx.yF (H:Cx B M S own ro){ab:List Own}(h:ab.Sublist own):Cx B M S ab ro:=
 ⟨H.next,H.jc,λx hx=>H.oh x (h.subset hx),λx hx=>H.oi x (h.subset hx),H.od.sublist h,H.rh,λφ jt id bT=>⟨(H.ri φ jt id bT).1,λx hx=>(H.ri φ jt id bT).2 x (h.subset hx)⟩⟩
theorem Cx.tl {φ:aI}(H:Cx B M S own (φ::ro)):Cx B M S own ro:=H.Ny λψ h=>List.mem_cons_of_mem _ h
theorem Cx.du (H:Cx B [] S own ro):bn B S:=⟨H.next,λid h=>H.jc id h ac⟩
theorem Cx.enter {ro:List aI}(h:∀φ∈ro,φ.holds S/\∀id∈φ.ids,id<S.next):Cx S [] S [] ro where
 next:=Nat.le_refl _
 jc:=λ_ _ _=>rfl
 oh:=λ_ h=>by simp at h
 oi:=λ_ h=>by simp at h
 od:=List.Pairwise.nil
 rh:=λφ jt=>(h φ jt).1
 ri:=λφ jt id bT=>⟨(h φ jt).2 id bT,λ_ h=>by simp at h⟩
end
section
variable{P:Program}
theorem ba {α β:Type}{s:Sem α}{f:α->Sem β}:∀{a:α},bj P s=some a->bj P (s>>=f)=bj P (f a):=by
 induction s with
 |pure a=>intro b h;simp[bj] at h;subst h;rfl
 |program k ih=>intro b h;exact ih P h
 |mark m k ih=>intro b h;exact ih h
 |_=>intro b h;simp[bj] at h
theorem fU {α:Type}(a:α):bj P (pure a:Sem α)=some a:=rfl
theorem eY:bj P program=some P:=rfl
theorem cQ {t:TypeId}{d:TypeDesc}(h:P.underlying t=some d):bj P (underlying t)=some d:=by unfold underlying;rw[ba eY,h];rfl
theorem vi {t:TypeId}{n:Nat}(h:aU P t=some n):bj P (sizeOf t)=some n:=by
 unfold aU at h;cases hi:P.info? t with
 |none=>rw[hi] at h;cases h
 |some i=>
  rw[hi] at h;cases h;have ht:bj P (typeInfo t)=some i:=by unfold typeInfo;rw[ba eY,hi];rfl
  unfold sizeOf;rw[ba ht];rfl
def sV (rec:TypeId->Option (List (Option IntKind)))(P:Program):List Field->Nat->Option (List (Option IntKind))
 |[],_=>some []
 |f::fs,off=>if f.name= "_" then none else if f.offset≠off then none else match rec f.type with
  |none=>none
  |some ks=>if aU P f.type=some ks.length then(match sV rec P fs (off+ks.length) with|some l=>some (ks++l)|none=>none) else none
def eL (P:Program):Nat->TypeId->Option (List (Option IntKind))
 |0,_=>none
 |d+1,t=>match P.underlying t with
  |some .bool=>some [none]
  |some (.int k)=>some [some k]
  |some (.struct fs)=>if P.stoodInHeld t then none else sV (eL P d) P fs.toList 0
  |_=>none
def h_:Option IntKind->Value->Bool
 |none,.bool _=>true
 |some k,.int k' _=>decide (k=k')
 |_,_=>false
def aE:List (Option IntKind)->List Value->Bool
 |[],[]=>true
 |k::ks,v::vs=>h_ k v&&aE ks vs
 |_,_=>false
def Vg:Value->Value->Bool
 |.bool a,.bool b=>a==b
 |.int _ a,.int _ b=>a==b
 |_,_=>false
def nh:List Value->List Value->Bool
 |[],[]=>true
 |a::r,b::s=>Vg a b&&nh r s
 |_,_=>false
theorem eA:∀{ks:List (Option IntKind)} {vs:List Value},aE ks vs=true->vs.length=ks.length
 |[],[],_=>rfl
 |[],_::_,h=>by simp[aE] at h
 |_::_,[],h=>by simp[aE] at h
 |_::ks,_::vs,h=>by simp only[aE,Bool.and_eq_true] at h;simp[eA h.2]
theorem lD:∀{ks ls:List (Option IntKind)} {vs:List Value},aE (ks++ls) vs=true->aE ks (vs.take ks.length)=true/\aE ls (vs.drop ks.length)=true
 |[],ls,vs,h=>by simpa[aE] using h
 |k::ks,ls,[],h=>by simp[aE] at h
 |k::ks,ls,v::vs,h=>by simp only[List.cons_append,aE,Bool.and_eq_true] at h;obtain⟨h1,h2⟩:=lD h.2;simp[aE,h.1,h1,h2]
theorem sW:∀{n:Nat} {xs ys:List Value},xs.length=ys.length->nh xs ys=(nh (xs.take n) (ys.take n)&&nh (xs.drop n) (ys.drop n))
 |0,xs,ys,h=>by simp[nh]
 |n+1,[],[],h=>by simp[nh]
 |n+1,[],_::_,h=>by simp at h
 |n+1,_::_,[],h=>by simp at h
 |n+1,x::xs,y::ys,h=>by simp only[List.take_succ_cons,List.drop_succ_cons,nh];rw[sW (n:=n) (by simpa using h),Bool.and_assoc]
def iN (P:Program)(t:TypeId)(vs:List Value):Value:=match P.underlying t with
 |some (.struct _)=>.agg vs.toArray
 |_=>vs.headD undef
theorem xB {d:Nat}{t:TypeId}{ks:List (Option IntKind)}(hf:eL P d t=some ks)(hs:aU P t=some ks.length){xs:List Value}{off:Nat}(hl:off+ks.length<=xs.length):
  bj P (part t xs.toArray off)=some (iN P t ((xs.drop off).take ks.length)):=by
 cases d with
 |zero=>simp[eL] at hf
 |succ d=>
  unfold eL at hf;cases hu:P.underlying t with
  |none=>rw[hu] at hf;cases hf
  |some u=>
   rw[hu] at hf;have one:∀k,ks=[k]->(isAgg t=isAgg t)->bj P (isAgg t)=some false->bj P (part t xs.toArray off)=some (((xs.drop off).take ks.length).headD undef):=by
    intro k hk _ ha;subst hk;unfold part;rw[ba ha];have de:off<xs.length:=by simp at hl;omega
    have h1:xs.toArray[off]?=some xs[off]:=by simp[de]
    simp only[Bool.false_eq_true,if_false,h1,fU];simp only[List.length_cons,List.length_nil];rw[List.drop_eq_getElem_cons de];rfl
   have agg:∀b,(match u with|.struct _=>b=true|.array _ _=>b=true|_=>b=false)->bj P (isAgg t)=some b:=by
    intro b hb;unfold isAgg;rw[ba (cQ hu)];cases u<;>simp only at hb⊢<;>subst hb<;>rfl
   cases u with
   |bool=>cases hf;unfold iN;rw[hu];exact one _ rfl rfl (agg false rfl)
   |int k=>cases hf;unfold iN;rw[hu];exact one _ rfl rfl (agg false rfl)
   |struct fs=>
    unfold iN part;rw[hu,ba (agg true rfl)];simp only[if_true];rw[ba (vi hs)];simp only[fU,Option.some.injEq,Value.agg.injEq];apply Array.toList_inj.1;simp[List.take_drop]
   |_=>cases hf
theorem vj:∀(d:Nat) (t:TypeId) (ks:List (Option IntKind)),eL P d t=some ks->∀(D:Nat),d<=D->∀xs ys:List Value,aE ks xs=true->aE ks ys=true->
  bj P (Op.equalIn D t (iN P t xs) (iN P t ys))=some (nh xs ys)
 |0,t,ks,hf,_,_,_,_,_,_=>by simp[eL] at hf
 |d+1,t,ks,hf,0,hD,_,_,_,_=>am
 |d+1,t,ks,hf,D+1,hD,xs,ys,hx,hy=>by
  unfold eL at hf;cases hu:P.underlying t with
  |none=>rw[hu] at hf;cases hf
  |some u=>
   rw[hu] at hf;cases u with
   |bool=>
    cases hf;cases xs with
    |nil=>simp[aE] at hx
    |cons x xs=>
     cases ys with
     |nil=>simp[aE] at hy
     |cons y ys=>
      simp only[aE,Bool.and_eq_true] at hx hy;cases xs with
      |cons _ _=>simp[aE] at hx
      |nil=>
       cases ys with
       |cons _ _=>simp[aE] at hy
       |nil=>
        cases x<;>simp[h_] at hx
        cases y<;>simp[h_] at hy
        unfold iN Op.equalIn;rw[hu,ba (cQ hu)];simp[nh,Vg,fU]
   |int k=>
    cases hf;cases xs with
    |nil=>simp[aE] at hx
    |cons x xs=>
     cases ys with
     |nil=>simp[aE] at hy
     |cons y ys=>
      simp only[aE,Bool.and_eq_true] at hx hy;cases xs with
      |cons _ _=>simp[aE] at hx
      |nil=>
       cases ys with
       |cons _ _=>simp[aE] at hy
       |nil=>
        cases x<;>simp[h_] at hx
        cases y<;>simp[h_] at hy
        have hx:=hx.1;have hy:=hy.1;subst hx;subst hy;unfold iN Op.equalIn;rw[hu,ba (cQ hu)];simp[nh,Vg,fU]
   |struct fs=>
    simp only at hf;cases Qv:P.stoodInHeld t with
    |true=>rw[Qv] at hf;simp at hf
    |false=>
     rw[Qv] at hf;simp only[Bool.false_eq_true,if_false] at hf;unfold iN Op.equalIn;rw[hu,ba (cQ hu)];simp only;rw[ba eY];simp only[Qv,Bool.false_eq_true,if_false];rw[<-Array.forIn_toList];have key:∀(fs:List Field) (off:Nat) (ks:List (Option IntKind)),sV (eL P d) P fs off=some ks->aE ks (xs.drop off)=true->aE ks (ys.drop off)=true->(off<=xs.length/\off<=ys.length)->
       bj P (do
        let s <-forIn (m:=Sem) fs ((none,()):Option Bool×Unit) (λf s=>
         if f.name≠ "_" then do
          let a <-part f.type xs.toArray f.offset
          let b <-part f.type ys.toArray f.offset
          let c <-Op.equalIn D f.type a b
          if(!c)=true then pure (ForInStep.done (some false,())) else pure (ForInStep.yield (none,()))
         else pure (ForInStep.yield (none,())))
        match s.fst with
        |some a=>pure a
        |none=>pure true)=some (nh (xs.drop off) (ys.drop off)):=by
      intro fs;induction fs with
      |nil=>
       intro off ks hf hx hy hle;cases hf;have e1:xs.drop off=[]:=List.length_eq_zero_iff.1 (eA hx);have e2:ys.drop off=[]:=List.length_eq_zero_iff.1 (eA hy);rw[e1,e2];rfl
      |cons f fs ih=>
       intro off ks hf hx hy hle;unfold sV at hf;by_cases hn:f.name= "_";.rw[if_pos hn] at hf;cases hf
       .rw[if_neg hn] at hf;by_cases ho:f.offset≠off;.rw[if_pos ho] at hf;cases hf
        .rw[if_neg ho] at hf;have ho:f.offset=off:=am;cases hr:eL P d f.type with
         |none=>rw[hr] at hf;cases hf
         |some k1=>
          rw[hr] at hf;simp only at hf;by_cases hs:aU P f.type=some k1.length
          .rw[if_pos hs] at hf;cases vk:sV (eL P d) P fs (off+k1.length) with
           |none=>rw[vk] at hf;cases hf
           |some k2=>
            rw[vk] at hf;cases hf;obtain⟨x1,x2⟩:=lD hx;obtain⟨y1,y2⟩:=lD hy;have lx:=eA hx;have ly:=eA hy;simp only[List.length_drop,List.length_append] at lx ly;rw[List.drop_drop] at x2 y2;have ih:=ih (off+k1.length) k2 vk x2 y2 ⟨am,am⟩;have hp1:=xB (P:=P) hr hs (xs:=xs) (off:=f.offset) am;have hp2:=xB (P:=P) hr hs (xs:=ys) (off:=f.offset) am;rw[ho] at hp1 hp2;have he:=vj d f.type k1 hr D am _ _ x1 y1;rw[List.forIn_cons];simp only[hn,ne_eq,not_false_eq_true,if_true,bind_assoc,ho];rw[ba hp1,ba hp2,ba he];have G2:=sW (n:=k1.length) (xs:=xs.drop off) (ys:=ys.drop off) (by simp;omega);rw[List.drop_drop,List.drop_drop] at G2;rw[G2];cases hb:nh ((xs.drop off).take k1.length) ((ys.drop off).take k1.length) with
            |false=>simp[fU,pure_bind]
            |true=>simp only[Bool.not_true,Bool.false_eq_true,if_false,pure_bind,Bool.true_and];exact ih
          .rw[if_neg hs] at hf;cases hf
     have:=key fs.toList 0 ks hf (by simpa using hx) (by simpa using hy) ⟨am,am⟩;rw[List.drop_zero,List.drop_zero] at this;refine Eq.trans (congrArg (bj P) ?_) this;congr 1;funext s;obtain⟨a,b⟩:=s;cases a<;>rfl
   |_=>cases hf
end
abbrev I (n:Int):AV:=.sc (.int .i64 n)
abbrev U (n:Int):AV:=.sc (.int .u64 n)
abbrev B (b:Bool):AV:=.sc (.bool b)
abbrev Np:AV:=.sc (.pointer none)
abbrev Ns:AV:=.sc (.slice none 0 0)
abbrev Nm:AV:=.sc (.map none)
abbrev Nf:AV:=.sc .nilFunc
abbrev Ni:AV:=.sc .nilIface
abbrev Z (κ:IntKind)(n:Int):AV:=.sc (.int κ n)
theorem aV (κ:IntKind):ml κ κ=true:=by cases κ<;>rfl
theorem wrap64 {n:Int}(h1:-9223372036854775808<=n)(h2:n<=9223372036854775807):fL .i64 n=n:=by rw[bx,IntKind.wrap_i64];omega
section
variable{M:cP}{S:AH}{Q:gG}{k:AV->AC}{κ:IntKind}{a b:Int}
theorem RH:evalOp M.P (.bin .add (Z κ a) (Z κ b)) S=some (Z κ (fL κ (a+b)),S):=by show eU (either (dB _ (Z κ a) (Z κ b)) _) S=_;simp only[dB,asInt,mj,aV];rfl
theorem RI:evalOp M.P (.bin .sub (Z κ a) (Z κ b)) S=some (Z κ (fL κ (a-b)),S):=by show eU (MH (Z κ a) (Z κ b)) S=_;unfold MH;simp only[dB,asInt,mj,aV];rfl
theorem RJ:evalOp M.P (.bin .mul (Z κ a) (Z κ b)) S=some (Z κ (fL κ (a*b)),S):=by show eU (MI (Z κ a) (Z κ b)) S=_;unfold MI;simp only[dB,asInt,mj,aV];rfl
theorem RK (h:b≠0):evalOp M.P (.bin .quo (Z κ a) (Z κ b)) S=some (Z κ (fL κ (a.tdiv b)),S):=by
 show eU (MJ (Z κ a) (Z κ b)) S=_;unfold MJ;have:FN b 0=false:=by rw[gl];simpa using h
 simp only[dB,asInt,mj,aV,this];rfl
theorem RL (h:b≠0):evalOp M.P (.bin .rem (Z κ a) (Z κ b)) S=some (Z κ (a.tmod b),S):=by
 show eU (MK (Z κ a) (Z κ b)) S=_;unfold MK;have:FN b 0=false:=by rw[gl];simpa using h
 simp only[dB,asInt,mj,aV,this];rfl
theorem G3:evalOp M.P (.bin .lss (Z κ a) (Z κ b)) S=some (B (decide (a<b)),S):=by show eU (either (dB _ (Z κ a) (Z κ b)) _) S=_;simp only[dB,asInt,mj,aV,gj];rfl
theorem G4:evalOp M.P (.bin .leq (Z κ a) (Z κ b)) S=some (B (decide (a<=b)),S):=by
 show eU (either (dB _ (Z κ a) (Z κ b)) _) S=_;have:(!decide (b<a))=decide (a<=b):=by rw[Bool.eq_iff_iff];simp
 simp only[dB,asInt,mj,aV,gj,this];rfl
theorem G5:evalOp M.P (.bin .gtr (Z κ a) (Z κ b)) S=some (B (decide (b<a)),S):=by show eU (either (dB _ (Z κ a) (Z κ b)) _) S=_;simp only[dB,asInt,mj,aV,gj];rfl
theorem G6:evalOp M.P (.bin .geq (Z κ a) (Z κ b)) S=some (B (decide (b<=a)),S):=by
 show eU (either (dB _ (Z κ a) (Z κ b)) _) S=_;have:(!decide (a<b))=decide (b<=a):=by rw[Bool.eq_iff_iff];simp
 simp only[dB,asInt,mj,aV,gj,this];rfl
theorem Du:evalOp M.P (.bin .eql (Z κ a) (Z κ b)) S=some (B (decide (a=b)),S):=by
 show eU (either (dB _ (Z κ a) (Z κ b)) _) S=_;have:(a==b)=decide (a=b):=by rw[Bool.eq_iff_iff];simp
 simp only[dB,asInt,mj,aV,gl,this];rfl
theorem G7:evalOp M.P (.bin .neq (Z κ a) (Z κ b)) S=some (B (decide (a≠b)),S):=by
 show eU (either (dB _ (Z κ a) (Z κ b)) _) S=_;have:(!(a==b))=decide (a≠b):=by rw[Bool.eq_iff_iff];simp
 simp only[dB,asInt,mj,aV,gl,this];rfl
theorem r_ {c:Int}(hw:fL κ (a+b)=c)(h:wp M (k (Z κ c)) S Q):wp M (.op (.bin .add (Z κ a) (Z κ b)) k) S Q:=ah RH (hw▸h)
theorem vu {c:Int}(hw:fL κ (a-b)=c)(h:wp M (k (Z κ c)) S Q):wp M (.op (.bin .sub (Z κ a) (Z κ b)) k) S Q:=ah RI (hw▸h)
theorem G8 {c:Int}(hw:fL κ (a*b)=c)(h:wp M (k (Z κ c)) S Q):wp M (.op (.bin .mul (Z κ a) (Z κ b)) k) S Q:=ah RJ (hw▸h)
theorem Nz {c:Int}(hb:b≠0)(hw:fL κ (a.tdiv b)=c)(h:wp M (k (Z κ c)) S Q):wp M (.op (.bin .quo (Z κ a) (Z κ b)) k) S Q:=ah (RK hb) (hw▸h)
theorem G9 (hb:b≠0)(h:wp M (k (Z κ (a.tmod b))) S Q):wp M (.op (.bin .rem (Z κ a) (Z κ b)) k) S Q:=ah (RL hb) h
theorem dw (h1:-9223372036854775808<=a+b)(h2:a+b<=9223372036854775807)(h:wp M (k (I (a+b))) S Q):wp M (.op (.bin .add (I a) (I b)) k) S Q:=r_ (wrap64 h1 h2) h
theorem l8 (h1:-9223372036854775808<=a-b)(h2:a-b<=9223372036854775807)(h:wp M (k (I (a-b))) S Q):wp M (.op (.bin .sub (I a) (I b)) k) S Q:=vu (wrap64 h1 h2) h
theorem nR (h0:a<b)(h:wp M (k (B true)) S Q):wp M (.op (.bin .lss (Z κ a) (Z κ b)) k) S Q:=ah G3 (by rw[decide_eq_true h0];exact h)
theorem jS (h0:b<=a)(h:wp M (k (B false)) S Q):wp M (.op (.bin .lss (Z κ a) (Z κ b)) k) S Q:=ah G3 (by rw[decide_eq_false am];exact h)
theorem gI (h1:a<b->wp M (k (B true)) S Q)(h2:b<=a->wp M (k (B false)) S Q):wp M (.op (.bin .lss (Z κ a) (Z κ b)) k) S Q:=
 if h:a<b then nR h (h1 h) else jS am (h2 am)
theorem G_ (h0:a<=b)(h:wp M (k (B true)) S Q):wp M (.op (.bin .leq (Z κ a) (Z κ b)) k) S Q:=ah G4 (by rw[decide_eq_true h0];exact h)
theorem Ha (h0:b<a)(h:wp M (k (B false)) S Q):wp M (.op (.bin .leq (Z κ a) (Z κ b)) k) S Q:=ah G4 (by rw[decide_eq_false am];exact h)
theorem nS (h1:a<=b->wp M (k (B true)) S Q)(h2:b<a->wp M (k (B false)) S Q):wp M (.op (.bin .leq (Z κ a) (Z κ b)) k) S Q:=
 if h:a<=b then G_ h (h1 h) else Ha am (h2 am)
theorem Hb (h0:b<a)(h:wp M (k (B true)) S Q):wp M (.op (.bin .gtr (Z κ a) (Z κ b)) k) S Q:=ah G5 (by rw[decide_eq_true h0];exact h)
theorem vz (h0:a<=b)(h:wp M (k (B false)) S Q):wp M (.op (.bin .gtr (Z κ a) (Z κ b)) k) S Q:=ah G5 (by rw[decide_eq_false am];exact h)
theorem jT (h1:b<a->wp M (k (B true)) S Q)(h2:a<=b->wp M (k (B false)) S Q):wp M (.op (.bin .gtr (Z κ a) (Z κ b)) k) S Q:=
 if h:b<a then Hb h (h1 h) else vz am (h2 am)
theorem Hc (h0:b<=a)(h:wp M (k (B true)) S Q):wp M (.op (.bin .geq (Z κ a) (Z κ b)) k) S Q:=ah G6 (by rw[decide_eq_true h0];exact h)
theorem Hd (h0:a<b)(h:wp M (k (B false)) S Q):wp M (.op (.bin .geq (Z κ a) (Z κ b)) k) S Q:=ah G6 (by rw[decide_eq_false am];exact h)
theorem jU (h1:b<=a->wp M (k (B true)) S Q)(h2:a<b->wp M (k (B false)) S Q):wp M (.op (.bin .geq (Z κ a) (Z κ b)) k) S Q:=
 if h:b<=a then Hc h (h1 h) else Hd am (h2 am)
theorem He (h0:a=b)(h:wp M (k (B true)) S Q):wp M (.op (.bin .eql (Z κ a) (Z κ b)) k) S Q:=ah Du (by rw[decide_eq_true h0];exact h)
theorem Hf (h0:a≠b)(h:wp M (k (B false)) S Q):wp M (.op (.bin .eql (Z κ a) (Z κ b)) k) S Q:=ah Du (by rw[decide_eq_false h0];exact h)
theorem mC (h1:a=b->wp M (k (B true)) S Q)(h2:a≠b->wp M (k (B false)) S Q):wp M (.op (.bin .eql (Z κ a) (Z κ b)) k) S Q:=
 if h:a=b then He h (h1 h) else Hf h (h2 h)
theorem vA (h0:a≠b)(h:wp M (k (B true)) S Q):wp M (.op (.bin .neq (Z κ a) (Z κ b)) k) S Q:=ah G7 (by rw[decide_eq_true h0];exact h)
theorem Au (h0:a=b)(h:wp M (k (B false)) S Q):wp M (.op (.bin .neq (Z κ a) (Z κ b)) k) S Q:=ah G7 (by rw[decide_eq_false (by simpa using h0)];exact h)
theorem iz (h1:a≠b->wp M (k (B true)) S Q)(h2:a=b->wp M (k (B false)) S Q):wp M (.op (.bin .neq (Z κ a) (Z κ b)) k) S Q:=
 if h:a=b then Au h (h2 h) else vA h (h1 h)
theorem cN {g:Bool}{o:fK}(h:wp M (.op o k) S Q):wp M (.qh (B g) g o k) S Q:=by
 obtain⟨t,vs,S',⟨n0,h1⟩,h2⟩:=h;refine⟨t,vs,S',⟨n0,λn hn=>?_⟩,h2⟩;have:=h1 n hn;rw[iw] at this;rw[tT];unfold rP;cases g<;>exact this
theorem eZ {g g':Bool}{o:fK}(hg:g'=!g)(h:wp M (k uv) S Q):wp M (.qh (B g) g' o k) S Q:=ve (by subst hg;cases g<;>rfl) h
theorem fQ {g':Bool}{o:fK}(h:wp M (k uv) S Q):wp M (.qh uv g' o k) S Q:=ve rfl h
theorem dM {g:Bool}{f:AV}{args:List AV}(h:wp M (.call f args k) S Q):wp M (.iQ (B g) g f args k) S Q:=by
 obtain⟨t,vs,S',⟨n0,h1⟩,h2⟩:=h;refine⟨t,vs,S',⟨n0,λn hn=>?_⟩,h2⟩;have:=h1 n hn;rw[nK] at this;rw[rV];unfold ny;cases g<;>exact this
theorem dm {g g':Bool}{f:AV}{args:List AV}(hg:g'=!g)(h:wp M (k uv) S Q):wp M (.iQ (B g) g' f args k) S Q:=qW (by subst hg;cases g<;>rfl) h
theorem dN {g':Bool}{f:AV}{args:List AV}(h:wp M (k uv) S Q):wp M (.iQ uv g' f args k) S Q:=qW rfl h
theorem dO {x y:AC}(h:wp M x S Q):wp M (.ite (B true) x y) S Q:=GX h
theorem dP {x y:AC}(h:wp M y S Q):wp M (.ite (B false) x y) S Q:=GX h
theorem Hg {c:Bool}{x y:AC}(h1:c=true->wp M x S Q)(h2:c=false->wp M y S Q):wp M (.ite (B c) x y) S Q:=by
 cases c with
 |true=>exact dO (h1 rfl)
 |false=>exact dP (h2 rfl)
theorem wY {op:BinOp}{t:TypeId}{x y:Operand}{a b:Bool}:bj M.P (eqGuard op t x y (.bool a) (.bool b))=some ():=by
 cases op<;>rfl
theorem L6 {t:TypeId}{x y n:Bool}(ht:M.P.underlying t=some .bool):evalOp M.P (.eq t n (B x) (B y)) S=some (B (if n then !(x==y) else(x==y)),S):=by
 show eU (Fy M.P t n (B x) (B y)) S=_;have h2:zD M.P t (B x) (B y)=some (x==y):=by
  unfold zD JJ;have h1:qi (B x)=some (.bool x):=by simp[qi]
  have h2:qi (B y)=some (.bool y):=by simp[qi]
  have h3:bj M.P (Op.equal t (.bool x) (.bool y))=some (x==y):=by show bj M.P (Op.equalIn (9999+1) t (.bool x) (.bool y))=_;unfold Op.equalIn;rw[ba (cQ ht)];rfl
  have h4:iR (B x)=none:=rfl;have e1:kY (B x)=0:=rfl;have e2:kY (B y)=0:=rfl;simp only[e1,e2,h1,h2,h3,h4,wY,nv];rfl
 unfold Fy;rw[h2];cases n<;>rfl
theorem Dv {cs:List AV}{vs:List Value}(h:tp cs=some vs):qi (.agg cs)=some (.agg vs.toArray):=by simp[qi,h]
theorem L7 {t:TypeId}{ks:List (Option IntKind)}{d:Nat}{xs ys:List AV}{vx vy:List Value}{n:Bool}(hf:eL M.P d t=some ks)(hd:d<=10000){fs:Array Field}(hu:M.P.underlying t=some (.struct fs))
  (hg:M.P.eqGuardType M.P.depth t=false) (h1:tp xs=some vx) (h2:tp ys=some vy) (h3:aE ks vx=true) (h4:aE ks vy=true):
  evalOp M.P (.eq t n (.agg xs) (.agg ys)) S=some (B (if n then !(nh vx vy) else nh vx vy),S):=by
 show eU (Fy M.P t n (.agg xs) (.agg ys)) S=_;have h5:zD M.P t (.agg xs) (.agg ys)=some (nh vx vy):=by
  unfold zD JJ;have g1:=Dv h1;have g2:=Dv h2;have g3:bj M.P (Op.equal t (.agg vx.toArray) (.agg vy.toArray))=some (nh vx vy):=by have:=vj d t ks hf 10000 hd vx vy h3 h4;unfold iN at this;rw[hu] at this;exact this
  have g4:iR (.agg xs)=none:=rfl;have e1:kY (.agg xs)=0:=rfl;have e2:kY (.agg ys)=0:=rfl;have g5:bj M.P (eqGuard .eql t (.tmp 0) (.tmp 0) (.agg vx.toArray) (.agg vy.toArray))=some ():=by unfold eqGuard;simp only[Bool.not_true,Bool.false_eq_true,if_false];rw[ba eY,ba eY];simp[hg,fU]
  simp only[e1,e2,g1,g2,g3,g4,g5,nv];rfl
 unfold Fy;rw[h5];cases n<;>rfl
theorem se:∀{ks:List (Option IntKind)} {vs:List Value},aE ks vs=true->nh vs vs=true
 |[],[],_=>rfl
 |[],_::_,h=>by simp[aE] at h
 |_::_,[],h=>by simp[aE] at h
 |k::ks,v::vs,h=>by
  simp only[aE,Bool.and_eq_true] at h;simp only[nh,se h.2,Bool.and_true];cases v<;>cases k<;>simp[h_] at h<;>simp[Vg]
end
theorem ef {S:AH}{id:Nat}{c:List AV}(h:S.get id=some (.row c)):S.cells? id=some c:=by unfold AH.cells?;rw[h];rfl
theorem Dw {S:AH}{id:Nat}{c:List AV}(h:S.get id=some (.row c)):S.row? id=some c:=by unfold AH.row?;rw[h];rfl
theorem bU (S:AH)(o:AO):(S.new o).get S.next=some o:=by rw[AH.cg,if_pos rfl]
theorem dC {a b:Nat}(h:a<=b):Nat.ble a b=true:=Nat.ble_eq_true_of_le h
theorem mD {cs:List AV}{off:Nat}{v:AV}(h:cs[off]?=some v):gh false cs off 1=some v:=by show zE cs off=_;rw[oF];exact h
theorem pN {cs:List AV}{off n:Nat}(h:off+n<=cs.length):gh true cs off n=some (.agg ((cs.drop off).take n)):=by
 unfold gh;have:Nat.ble (Nat.add off n) (ca cs)=true:=by rw[bK];exact dC h
 simp only[this,dK,eo]
section
variable{M:cP}{B0 S:AH}{W:List Nat}{own:List Own}{ro:List aI}{Q:gG}{k:AV->AC}
theorem pO {id off j:Nat}{cs:List AV}{v:AV}(h:(aI.pt id off cs).holds S)(hj:cs[j]?=some v):∃c,S.cells? id=some c/\c[off+j]?=some v:=by
 obtain⟨c,h1,_,h2⟩:=h;refine⟨c,h1,?_⟩;rw[<-h2,List.getElem?_take,List.getElem?_drop] at hj;split at hj;.exact hj
 .cases hj
theorem Hh {id off j n:Nat}{cs:List AV}(h:(aI.pt id off cs).holds S)(hj:j+n<=cs.length):∃c,S.cells? id=some c/\off+j+n<=c.length/\(c.drop (off+j)).take n=(cs.drop j).take n:=by obtain⟨c,h1,hl,h2⟩:=h;refine⟨c,h1,am,?_⟩;rw[<-h2,List.drop_take,List.drop_drop,List.take_take,Nat.min_eq_left am]
theorem ju {id off:Nat}{c:List AV}{v:AV}(h1:S.cells? id=some c)(h2:c[off]?=some v):evalOp M.P (.load 1 false (.ptr id off)) S=some (v,S):=by
 show eU (mV S 1 false (.ptr id off)) S=_;have:mV S 1 false (.ptr id off)=some v:=by show(match S.cells? id with|some c=>gh false c off 1|none=>none)=_;rw[h1];exact mD h2
 rw[this];rfl
theorem t_ {id off n:Nat}{c:List AV}(h1:S.cells? id=some c)(h2:off+n<=c.length):evalOp M.P (.load n true (.ptr id off)) S=some (.agg ((c.drop off).take n),S):=by
 show eU (mV S n true (.ptr id off)) S=_;have:mV S n true (.ptr id off)=some (.agg ((c.drop off).take n)):=by show(match S.cells? id with|some c=>gh true c off n|none=>none)=_;rw[h1];exact pN h2
 rw[this];rfl
theorem nT (H:Cx B0 W S own ro){id off j:Nat}{cs:List AV}{v:AV}(hm:aI.pt id off cs∈ro)(hj:cs[j]?=some v)(h:wp M (k v) S Q):wp M (.op (.load 1 false (.ptr id (Nat.add off j))) k) S Q:=by obtain⟨c,h1,h2⟩:=pO (H.rh _ hm) hj;exact ah (ju h1 h2) h
theorem vB (H:Cx B0 W S own ro){id off:Nat}{cs:List AV}{v:AV}(hm:aI.pt id off cs∈ro)(hj:cs[0]?=some v)(h:wp M (k v) S Q):wp M (.op (.load 1 false (.ptr id off)) k) S Q:=
 nT (j:=0) H hm hj h
theorem qY (H:Cx B0 W S own ro){id off j n:Nat}{cs:List AV}(hm:aI.pt id off cs∈ro)(hj:j+n<=cs.length)(h:wp M (k (.agg ((cs.drop j).take n))) S Q):wp M (.op (.load n true (.ptr id (Nat.add off j))) k) S Q:=by obtain⟨c,h1,h2,h3⟩:=Hh (H.rh _ hm) hj;exact ah (t_ h1 h2) (h3▸h)
theorem vC (H:Cx B0 W S own ro){id off n:Nat}{cs:List AV}(hm:aI.pt id off cs∈ro)(hj:n<=cs.length)(h:wp M (k (.agg (cs.take n))) S Q):wp M (.op (.load n true (.ptr id off)) k) S Q:=
 qY (j:=0) H hm am h
theorem iA (H:Cx B0 W S own ro){x:AV}(ho:odd x=false)(h:∀id S1,Cx B0 W S1 own (.pt id 0 x.cells::ro)->wp M (k (.ptr id 0)) S1 Q):wp M (.op (.box x) k) S Q:=by
 refine ah (v:=.ptr S.next 0) (S1:=S.new (.row x.cells)) ?_ (h _ _ (H.At (bn.new S _) ?_ ?_))
 .show BD x S=_;unfold BD;rw[ho];rfl
 .exact⟨x.cells,ef (bU _ _),am,ac⟩
 .intro id bT;simp only[aI.ids,List.mem_singleton] at bT;subst bT;exact⟨Nat.le_refl _,ac⟩
theorem fV (H:Cx B0 W S own ro){x:AV}(ho:odd x=false)(h:∀id S1,Cx B0 W S1 (.obj id (.row x.cells)::own) ro->wp M (k (.ptr id 0)) S1 Q):wp M (.op (.box x) k) S Q:=by
 refine ah (v:=.ptr S.next 0) (S1:=S.new (.row x.cells)) ?_ (h _ _ (H.jR (bn.new S _) (bU _ _) ?_))
 .show BD x S=_;unfold BD;rw[ho];rfl
 .intro id bT;simp only[Own.ids,List.mem_singleton] at bT;subst bT;exact⟨Nat.le_refl _,ac⟩
theorem jV (H:Cx B0 W S own ro){c:List AV}(h:∀id S1,Cx B0 W S1 (.obj id (.row c)::own) ro->wp M (k (.ptr id 0)) S1 Q):wp M (.op (.alloc c) k) S Q:=by refine ah (v:=.ptr S.next 0) (S1:=S.new (.row c)) rfl (h _ _ (H.jR (bn.new S _) (bU _ _) ?_));intro id bT;simp only[Own.ids,List.mem_singleton] at bT;subst bT;exact⟨Nat.le_refl _,ac⟩
theorem Hi (H:Cx B0 W S own ro)(h:∀id S1,Cx B0 W S1 (.obj id (.map [])::own) ro->wp M (k (.map id)) S1 Q):wp M (.op .xh k) S Q:=by refine ah (v:=.map S.next) (S1:=S.new (.map [])) rfl (h _ _ (H.jR (bn.new S _) (bU _ _) ?_));intro id bT;simp only[Own.ids,List.mem_singleton] at bT;subst bT;exact⟨Nat.le_refl _,ac⟩
theorem Cx.freeze (H:Cx B0 W S own ro){i id:Nat}{c:List AV}(hi:own[i]?=some (.obj id (.row c))):Cx B0 W S (own.eraseIdx i) (.pt id 0 c::ro):=by
 have kp:=List.mem_of_getElem? hi;have qZ:∀x∈own.eraseIdx i,x∈own:=λx hx=>List.mem_of_mem_eraseIdx hx;have K:Cx B0 W S (own.eraseIdx i) ro:=⟨H.next,H.jc,λx hx=>H.oh x (qZ x hx),λx hx=>H.oi x (qZ x hx),H.od.sublist (List.eraseIdx_sublist _ _),H.rh,λφ jt id bT=>⟨(H.ri φ jt id bT).1,λx hx=>(H.ri φ jt id bT).2 x (qZ x hx)⟩⟩;refine K.qX ⟨c,ef (H.oh _ kp),am,ac⟩ λj hj=>?_;simp only[aI.ids,List.mem_singleton] at hj;subst hj;refine⟨(H.oi _ kp j (by simp[Own.ids])).1,λx hx hj=>?_⟩;obtain⟨m,hm⟩:=List.getElem?_of_mem hx;have hp:=H.od;rw[List.pairwise_iff_getElem] at hp;obtain⟨EG,wX⟩:=List.getElem?_eq_some_iff.1 hi;rw[List.getElem?_eraseIdx] at hm;split at hm
 .rename_i de;obtain⟨FH,tY⟩:=List.getElem?_eq_some_iff.1 hm;exact hp m i FH EG de j (by rw[tY];exact hj) (by rw[wX];simp[Own.ids])
 .rename_i Jr;obtain⟨FH,tY⟩:=List.getElem?_eq_some_iff.1 hm;exact hp i (m+1) EG FH am j (by rw[wX];simp[Own.ids]) (by rw[tY];exact hj)
theorem gX (H:Cx B0 W S own ro)(i:Nat){id off n:Nat}{c:List AV}{v:AV}(hi:own[i]?=some (.obj id (.row c)))(ho:odd v=false)(hn:v.cells.length=n)(hl:off+n<=c.length)
  (h:∀S1,Cx B0 W S1 (own.set i (.obj id (.row (bu c off v.cells)))) ro->wp M (k uv) S1 Q):wp M (.op (.store n (.ptr id off) v) k) S Q:=by
 have hg:S.get id=some (.row c):=H.oh _ (List.mem_of_getElem? hi);refine ah (v:=uv) (S1:=S.set id (.row (bu c off v.cells))) ?_ (h _ (H.step hi (Nat.le_refl _) ?_ ?_ ?_))
 .show pw n (.ptr id off) v S=_;unfold pw;have h1:iR (.ptr id off)=some (id,off):=rfl;have h2:(not (odd v)&&Nat.beq (ca v.cells) n&&Nat.ble (Nat.add off n) (ca c))=true:=by
   have q1:Nat.beq (ca v.cells) n=true:=by rw[bK,hn];exact Nat.beq_refl n
   have q2:Nat.ble (Nat.add off n) (ca c)=true:=by rw[bK];exact dC hl
   simp only[ho,q1,q2];rfl
  simp only[h1,Dw hg,h2]
 .intro j hj gQ;rw[AH.dc,if_neg (by simpa[Own.ids] using gQ)]
 .show(S.set id _).get id=_;rw[AH.dc,if_pos rfl]
 .intro j hj;simp only[Own.ids,List.mem_singleton] at hj;subst hj;exact⟨(H.oi _ (List.mem_of_getElem? hi) j (by simp[Own.ids])).1,.inl (by simp[Own.ids])⟩
theorem Hj (H:Cx B0 W S own ro)(i:Nat){id off:Nat}{c:List AV}{v:AV}(hi:own[i]?=some (.obj id (.row c)))(hj:c[off]?=some v)(h:wp M (k v) S Q):wp M (.op (.load 1 false (.ptr id off)) k) S Q:=
 ah (ju (ef (H.oh _ (List.mem_of_getElem? hi))) hj) h
theorem oI (H:Cx B0 W S own ro)(i:Nat){id off n:Nat}{c:List AV}(hi:own[i]?=some (.obj id (.row c)))(hj:off+n<=c.length)(h:wp M (k (.agg ((c.drop off).take n))) S Q):wp M (.op (.load n true (.ptr id off)) k) S Q:=
 ah (t_ (ef (H.oh _ (List.mem_of_getElem? hi))) hj) h
end
section
variable{M:cP}{B0 S:AH}{W:List Nat}{own:List Own}{ro:List aI}{Q:gG}{k:AV->AC}
theorem Av {v:AV}{es:Nat}{L:List (List AV)}(h:iV S v es L):evalOp M.P (.len false v) S=some (I L.length,S):=by
 rcases h with⟨rfl,rfl⟩|⟨id,off,c,h1,h2,h3,h4⟩;.rfl
 .rcases h1 with⟨cap,_,_,rfl⟩|⟨cH,_,_,rfl⟩<;>rfl
theorem jW {v:AV}{es:Nat}{L:List (List AV)}(h:(Own.sl v es L).holds S):iV S v es L:=by
 rcases h with h|⟨id,off,c,h0,h1,h2⟩;.exact .inl h
 .exact .inr ⟨id,off,c,h0,ef h1,h2⟩
theorem jX (H:Cx B0 W S own ro){v:AV}{es:Nat}{L:List (List AV)}(hm:aI.sl v es L∈ro)(h:wp M (k (I L.length)) S Q):wp M (.op (.len false v) k) S Q:=ah (Av (H.rh _ hm)) h
theorem Dx (H:Cx B0 W S own ro)(i:Nat){v:AV}{es:Nat}{L:List (List AV)}(hm:own[i]?=some (.sl v es L))(h:wp M (k (I L.length)) S Q):wp M (.op (.len false v) k) S Q:=
 ah (Av (jW (H.oh _ (List.mem_of_getElem? hm)))) h
theorem jY:∀{L:List (List AV)} {es:Nat} (h:∀x∈L,x.length=es) {i:Nat} {x:List AV},L[i]?=some x->(L.flatten.drop (i*es)).take es=x
 |[],es,h,i,x,hx=>by simp at hx
 |y::L,es,h,0,x,hx=>by
  simp at hx;subst hx;have:=h y ac;simp[<-this]
 |y::L,es,h,i+1,x,hx=>by have hy:=h y ac;simp only[List.flatten_cons];rw[show(i+1)*es=y.length+i*es by rw[hy,Nat.succ_mul];omega,List.drop_append];simp only[Nat.add_sub_cancel_left];have e:y.drop (y.length+i*es)=[]:=List.drop_eq_nil_of_le am;rw[e,List.nil_append];exact jY (λz hz=>h z (by simp[hz])) (by simpa using hx)
theorem bB:∀{L:List (List AV)} {es:Nat} (h:∀x∈L,x.length=es),L.flatten.length=L.length*es
 |[],es,h=>ac
 |y::L,es,h=>by simp only[List.flatten_cons,List.length_append,List.length_cons];rw[h y ac,bB (λz hz=>h z (by simp[hz])),Nat.succ_mul];omega
theorem oJ {v:AV}{es:Nat}{L:List (List AV)}(h:iV S v es L){i:Nat}{x:List AV}(hi:L[i]?=some x):
  ∃id off,evalOp M.P (.cC es v (I (i:Int))) S=some (.ptr id off,S)/\(aI.pt id off x).holds S/\id∈eR v:=by
 have de:i<L.length:=(List.getElem?_eq_some_iff.1 hi).1;rcases h with⟨rfl,rfl⟩|⟨id,off,c,h1,h2,h3,h4⟩;.simp at hi
 .have hx:=h4 x (List.mem_of_getElem? hi);have Aw:pq (I (i:Int)) L.length=some i:=by show below i L.length=some i;unfold below;rw[dC de]
  have hlen:off+L.length*es<=c.length\/es=0:=by
   have:=congrArg List.length h3;rw[bB h4,List.length_take,List.length_drop] at this;rcases Nat.eq_zero_or_pos es with e|e;.exact .inr e
   .left;have:0<L.length*es:=Nat.mul_pos am e;omega
  have na:off+i*es+x.length<=c.length:=by
   rcases hlen with hl|hl
   .have:(i+1)*es<=L.length*es:=Nat.mul_le_mul_right es de;rw[Nat.succ_mul] at this;omega
   .subst hl;rcases h1 with⟨cap,_,hh,_⟩|⟨cH,_,hh,_⟩<;>simp only[Nat.mul_zero,Nat.add_zero] at hh⊢<;>omega
  refine⟨id,off+i*es,?_,⟨c,h2,na,?_⟩,?_⟩
  .rcases h1 with⟨cap,_,_,rfl⟩|⟨cH,_,_,rfl⟩
   .show eU (gi es (.sl id off L.length cap) (I (i:Int))) S=_;unfold gi;simp only[Aw];rfl
   .show eU (gi es (.op id off L.length cH es) (I (i:Int))) S=_;unfold gi;simp only[Aw];rfl
  .have:=jY h4 hi;rw[<-h3,List.drop_take,List.drop_drop,List.take_take] at this;rw[hx];rw[Nat.min_eq_left] at this;.exact this
   .have:(i+1)*es<=L.length*es:=Nat.mul_le_mul_right es de;rw[Nat.succ_mul] at this;omega
  .rcases h1 with⟨cap,_,_,rfl⟩|⟨cH,_,_,rfl⟩<;>simp[eR]
theorem nU (H:Cx B0 W S own ro){v:AV}{es i:Nat}{L:List (List AV)}{x:List AV}(hm:aI.sl v es L∈ro)(hi:L[i]?=some x)
  (h:∀id off,Cx B0 W S own (.pt id off x::ro)->wp M (k (.ptr id off)) S Q):wp M (.op (.cC es v (I (i:Int))) k) S Q:=by
 obtain⟨id,off,h1,h2,h3⟩:=oJ (M:=M) (H.rh _ hm) hi;refine ah h1 (h id off (H.qX h2 λj hj=>?_));simp only[aI.ids,List.mem_singleton] at hj;subst hj;exact H.ri _ hm j h3
theorem fW (H:Cx B0 W S own ro)(n:Nat){v:AV}{es i:Nat}{L:List (List AV)}{x:List AV}(hm:own[n]?=some (.sl v es L))(hi:L[i]?=some x)
  (h:∀id off,(aI.pt id off x).holds S->wp M (k (.ptr id off)) S Q):wp M (.op (.cC es v (I (i:Int))) k) S Q:=by
 obtain⟨id,off,h1,h2,h3⟩:=oJ (M:=M) (jW (H.oh _ (List.mem_of_getElem? hm))) hi;exact ah h1 (h id off h2)
theorem nV {id off j:Nat}{cs:List AV}{v:AV}(hp:(aI.pt id off cs).holds S)(hj:cs[j]?=some v)(h:wp M (k v) S Q):wp M (.op (.load 1 false (.ptr id (Nat.add off j))) k) S Q:=by obtain⟨c,h1,h2⟩:=pO hp hj;exact ah (ju h1 h2) h
theorem EH {id off j n:Nat}{cs:List AV}(hp:(aI.pt id off cs).holds S)(hj:j+n<=cs.length)(h:wp M (k (.agg ((cs.drop j).take n))) S Q):wp M (.op (.load n true (.ptr id (Nat.add off j))) k) S Q:=by obtain⟨c,h1,h2,h3⟩:=Hh hp hj;exact ah (t_ h1 h2) (h3▸h)
theorem dx {id off f:Nat}(h:wp M (k (.ptr id (Nat.add off f))) S Q):wp M (.op (.kA f (.ptr id off)) k) S Q:=ah rfl h
theorem fo {id off:Nat}(h:wp M (k (.ptr id off)) S Q):wp M (.op (.pn (.ptr id off)) k) S Q:=ah rfl h
theorem q_ {v:AV}{es n id off i:Nat}{c:List AV}(h:pM v es n id off c)(hi:i<n):evalOp M.P (.cC es v (I (i:Int))) S=some (.ptr id (off+i*es),S):=by
 have Aw:pq (I (i:Int)) n=some i:=by show below i n=some i;unfold below;rw[dC hi]
 rcases h with⟨cap,_,_,rfl⟩|⟨cH,_,_,rfl⟩
 .show eU (gi es (.sl id off n cap) (I (i:Int))) S=_;unfold gi;simp only[Aw];rfl
 .show eU (gi es (.op id off n cH es) (I (i:Int))) S=_;unfold gi;simp only[Aw];rfl
theorem mY {c ys:List AV}{off:Nat}(h:off+ys.length<=c.length):(bu c off ys).length=c.length:=by rw[cr];simp;omega
theorem mE {c ys:List AV}{off:Nat}(h:off+ys.length<=c.length)(j:Nat):(bu c off ys)[j]?=if off<=j/\j<off+ys.length then ys[j-off]? else c[j]?:=by
 have h1:(c.take off).length=off:=by rw[List.length_take];omega
 rw[cr,List.getElem?_append,h1];by_cases h2:j<off;.rw[if_pos h2,if_neg am,List.getElem?_take,if_pos h2]
 .rw[if_neg h2,List.getElem?_append];by_cases h3:j-off<ys.length;.rw[if_pos h3,if_pos am]
  .rw[if_neg h3,if_neg am,List.getElem?_drop];congr 1;omega
theorem sX:∀{L:List (List AV)} {es:Nat} (h:∀x∈L,x.length=es) {i:Nat} {ys:List AV},i<L.length->ys.length=es->(L.set i ys).flatten=bu L.flatten (i*es) ys
 |[],es,h,i,ys,hi,hy=>by simp at hi
 |y::L,es,h,0,ys,hi,hy=>by
  have:=h y ac;rw[cr];simp only[List.set_cons_zero,List.flatten_cons,Nat.zero_mul,List.take_zero,Nat.zero_add,List.nil_append];congr 1;rw[List.drop_append,hy,<-this];simp
 |y::L,es,h,i+1,ys,hi,hy=>by
  have Ev:=h y ac;have ih:=sX (L:=L) (λz hz=>h z (by simp[hz])) (i:=i) (ys:=ys) (by simpa using hi) hy;rw[cr] at ih⊢;simp only[List.set_cons_succ,List.flatten_cons,ih];have e1:(i+1)*es=y.length+i*es:=by rw[Ev,Nat.succ_mul];omega
  rw[e1,List.take_append,List.drop_append,List.take_of_length_le (by omega:y.length<=y.length+i*es),List.drop_eq_nil_of_le (by omega:y.length<=y.length+i*es+ys.length)];simp only[List.append_assoc,List.nil_append];congr 3
  .congr 1;omega
  .congr 2;omega
theorem sf (H:Cx B0 W S own ro)(n:Nat){v:AV}{es i:Nat}{L:List (List AV)}{y:AV}(hm:own[n]?=some (.sl v es L))(hi:i<L.length)(ho:odd y=false)(hy:y.cells.length=es)
  {k:AV->AC} (h:∀S1,Cx B0 W S1 (own.set n (.sl v es (L.set i y.cells))) ro->wp M (k uv) S1 Q):wp M (.op (.cC es v (I (i:Int))) λp=>.op (.store es p y) k) S Q:=by
 have hw:Ju S v es L:=H.oh _ (List.mem_of_getElem? hm);rcases hw with⟨rfl,rfl⟩|⟨id,off,c,h0,h1,h2,h3⟩;.simp at hi
 .refine ah (q_ h0 hi) ?_;have zw:=bB h3;have hlen:off+L.length*es<=c.length:=by
   have wP:∃m,L.length<=m/\off+m*es<=c.length:=by
    rcases h0 with⟨m,q1,q2,_⟩|⟨m,q1,q2,_⟩<;>exact⟨m,q1,q2⟩
   obtain⟨m,q1,q2⟩:=wP;have:=Nat.mul_le_mul_right es q1;omega
  have na:i*es+es<=L.length*es:=by have:(i+1)*es<=L.length*es:=Nat.mul_le_mul_right es hi;rw[Nat.succ_mul] at this;omega
  refine ah (v:=uv) (S1:=S.set id (.row (bu c (off+i*es) y.cells))) ?_ (h _ (H.step hm (Nat.le_refl _) ?_ ?_ ?_))
  .show pw es (.ptr id (off+i*es)) y S=_;unfold pw;have g1:iR (.ptr id (off+i*es))=some (id,off+i*es):=rfl;have g2:(not (odd y)&&Nat.beq (ca y.cells) es&&Nat.ble (Nat.add (off+i*es) es) (ca c))=true:=by
    have q1:Nat.beq (ca y.cells) es=true:=by rw[bK,hy];exact Nat.beq_refl es
    have q2:Nat.ble (Nat.add (off+i*es) es) (ca c)=true:=by rw[bK];exact dC (by show off+i*es+es<=c.length;omega)
    simp only[ho,q1,q2];rfl
   simp only[g1,Dw h1,g2]
  .intro j hj gQ;rw[AH.dc,if_neg (by simpa[Own.ids,h0.ids] using gQ)]
  .refine .inr ⟨id,off,bu c (off+i*es) y.cells,?_,by rw[AH.dc,if_pos rfl],?_,?_⟩
   .rw[List.length_set];have hl:(bu c (off+i*es) y.cells).length=c.length:=mY am;rcases h0 with⟨m,q1,q2,q3⟩|⟨m,q1,q2,q3⟩;.exact .inl ⟨m,q1,by rw[hl];exact q2,q3⟩
    .exact .inr ⟨m,q1,by rw[hl];exact q2,q3⟩
   .rw[List.length_set,sX h3 hi hy,<-h2];apply List.ext_getElem?;intro j;rw[List.getElem?_take,List.getElem?_drop,mE am,mE (by rw[List.length_take,List.length_drop];omega)];rw[List.getElem?_take,List.getElem?_drop];by_cases hj:j<L.length*es
    .rw[if_pos hj,if_pos hj];by_cases hr:i*es<=j/\j<i*es+y.cells.length;.rw[if_pos hr,if_pos am];congr 1;omega
     .rw[if_neg hr,if_neg am]
    .rw[if_neg hj,if_neg hj,if_neg am]
   .intro x hx;rcases List.mem_or_eq_of_mem_set hx with hx|rfl;.exact h3 x hx
    .exact hy
  .intro j hj;exact⟨(H.oi _ (List.mem_of_getElem? hm) j hj).1,.inl hj⟩
theorem pP {v:AV}{es:Nat}{L:List (List AV)}(h:iV S v es L):elems S es v=some (L.length,L.flatten):=by
 rcases h with⟨rfl,rfl⟩|⟨id,off,c,h0,h1,h2,h3⟩;.rfl
 .have hlen:off+L.length*es<=c.length:=by
   have wP:∃m,L.length<=m/\off+m*es<=c.length:=by
    rcases h0 with⟨m,q1,q2,_⟩|⟨m,q1,q2,_⟩<;>exact⟨m,q1,q2⟩
   obtain⟨m,q1,q2⟩:=wP;have:=Nat.mul_le_mul_right es q1;omega
  have hb:Nat.ble (off+L.length*es) (ca c)=true:=by rw[bK];exact dC hlen
  rcases h0 with⟨m,q1,q2,rfl⟩|⟨m,q1,q2,rfl⟩
  .show(match S.cells? id with|some c=>if Nat.ble (off+L.length*es) (ca c) then some (L.length,kC (L.length*es) (kB off c)) else none|none=>none)=_;simp only[h1,hb,if_true,dK,eo,h2]
  .show(match S.cells? id with|some c=>if Nat.ble (off+L.length*es) (ca c) then some (L.length,kC (L.length*es) (kB off c)) else none|none=>none)=_;simp only[h1,hb,if_true,dK,eo,h2]
theorem wZ {c ys:List AV}{off a n:Nat}(h:off+a+ys.length<=c.length)(hn:n=a+ys.length):((bu c (off+a) ys).drop off).take n=(c.drop off).take a++ys:=by
 subst hn;have h1:(c.take (off+a)).drop off=(c.drop off).take a:=by rw[List.drop_take];congr 1;omega
 have h2:(c.take (off+a)).length=off+a:=by rw[List.length_take];omega
 rw[cr,List.drop_append,h1,h2];have h3:((c.drop off).take a).length=a:=by rw[List.length_take,List.length_drop];omega
 rw[show off-(off+a)=0 by omega,List.drop_zero,List.take_append,h3,List.take_of_length_le (by omega:((c.drop off).take a).length<=a+ys.length)];congr 1;rw[show a+ys.length-a=ys.length by omega,List.take_append,List.take_of_length_le (Nat.le_refl _),Nat.sub_self,List.take_zero,List.append_nil]
theorem nW {v x:AV}{es bytes:Nat}{L N:List (List AV)}(hv:Ju S v es L)(hx:elems S es x=some (N.length,N.flatten))(hN:∀y∈N,y.length=es)
  (hb:(L.length+N.length)*bytes<=dJ) (hl:L.length+N.length<=eO) (de:∀id∈eR v,id<S.next):
  ∃v1 S1,evalOp M.P (.append es bytes v x) S=some (v1,S1)/\Ju S1 v1 es (L++N)/\S.next<=S1.next/\(∀id,id<S.next->id∉eR v->S1.get id=S.get id)/\(∀id∈eR v1,id<S1.next/\(id∈eR v\/S.next<=id)):=by
 have zw:(L++N).flatten=L.flatten++N.flatten:=List.flatten_append;have Xg:=bB hN;have kq:∀(hL:∀y∈L,y.length=es),∀y∈L++N,y.length=es:=λhL y hy=>by
  rcases List.mem_append.1 hy with hy|hy;.exact hL y hy
  .exact hN y hy
 rcases hv with⟨rfl,rfl⟩|⟨id,off,c,h0,h1,h2,h3⟩
 ·
  have An:evalOp M.P (.append es bytes Ns x) S=if Nat.beq N.length 0 then some (Ns,S) else if Nat.ble (N.length*bytes) dJ&&Nat.ble N.length eO then some (.op S.next 0 N.length N.length es,S.new (.row N.flatten)) else none:=by show jo es bytes Ns x S=_;unfold jo;rw[hx];rfl
  by_cases hz:N.length=0
  .have:N=[]:=List.length_eq_zero_iff.1 hz;subst this;refine⟨Ns,S,by rw[An];rfl,.inl ⟨rfl,rfl⟩,Nat.le_refl _,λ_ _ _=>rfl,λid bT=>by simp[eR] at bT⟩
  .have e1:Nat.beq N.length 0=false:=by cases hq:Nat.beq N.length 0 with|true=>exact absurd (Nat.eq_of_beq_eq_true hq) hz|false=>rfl
   have e2:(Nat.ble (N.length*bytes) dJ&&Nat.ble N.length eO)=true:=by rw[dC (by simpa using hb),dC (by simpa using hl)];rfl
   rw[e1,e2] at An;refine⟨_,_,An,.inr ⟨S.next,0,N.flatten,.inr ⟨N.length,ac,by rw[Xg];omega,ac⟩,bU _ _,?_,by simpa using hN⟩,ac,λid bT _=>by rw[AH.cg,if_neg am],λid bT=>?_⟩
   .simp only[List.drop_zero,List.nil_append];rw[List.take_of_length_le (by rw[Xg];omega)]
   .simp only[eR,List.mem_singleton] at bT;subst bT;simp
 .have wP:∃m,L.length<=m/\off+m*es<=c.length:=by
   rcases h0 with⟨m,q1,q2,_⟩|⟨m,q1,q2,_⟩<;>exact⟨m,q1,q2⟩
  have hlen:off+L.length*es<=c.length:=by obtain⟨m,q1,q2⟩:=wP;have:=Nat.mul_le_mul_right es q1;omega
  have hLl:=bB h3;have bT:id<S.next:=de id (by rw[h0.ids];simp);have e2:(Nat.ble ((L.length+N.length)*bytes) dJ&&Nat.ble (L.length+N.length) eO)=true:=by rw[dC hb,dC hl];rfl
  have RM:jH (kC (L.length*es) (kB off c)) N.flatten=(L++N).flatten:=by rw[gB,dK,eo,h2,zw]
  have RN:∀S0:AH,S0.next=S.next->(∀j,j<S.next->j≠id->S0.get j=S.get j)->Ju (S0.new (.row (L++N).flatten)) (.op S0.next 0 (L.length+N.length) (L.length+N.length) es) es (L++N):=λS0 _ _=>by
   refine .inr ⟨S0.next,0,(L++N).flatten,.inr ⟨(L++N).length,ac,?_,ac⟩,bU _ _,?_,kq h3⟩;.rw[bB (kq h3)];omega
   .rw[List.drop_zero,List.take_of_length_le (by rw[bB (kq h3)];exact Nat.le_refl _)]
  have room:∀cap,L.length+N.length<=cap->off+cap*es<=c.length->((bu c (off+L.length*es) N.flatten).drop off).take ((L++N).length*es)=(L++N).flatten/\(bu c (off+L.length*es) N.flatten).length=c.length:=by intro cap q1 q2;have:=Nat.mul_le_mul_right es q1;rw[Nat.add_mul] at this;refine⟨?_,mY am⟩;rw[wZ am (by rw[List.length_append,Nat.add_mul,Xg]),h2,zw]
  rcases h0 with⟨cap,q1,q2,rfl⟩|⟨cH,q1,q2,rfl⟩
  .have g1:(Nat.ble (off+cap*es) (ca c)&&Nat.ble L.length cap)=true:=by rw[bK,dC q2,dC q1];rfl
   have An:evalOp M.P (.append es bytes (.sl id off L.length cap) x) S=if Nat.ble (L.length+N.length) cap then some (.sl id off (L.length+N.length) cap,S.set id (.row (bu c (off+L.length*es) N.flatten))) else
     if Nat.ble ((L.length+N.length)*bytes) dJ&&Nat.ble (L.length+N.length) eO then some (.op S.next 0 (L.length+N.length) (L.length+N.length) es,S.new (.row (jH (kC (L.length*es) (kB off c)) N.flatten))) else none:=by
    show jo es bytes (.sl id off L.length cap) x S=_;unfold jo;rw[hx];simp only[h1,g1,if_true]
   by_cases hr:L.length+N.length<=cap
   .rw[dC hr] at An;obtain⟨r1,r2⟩:=room cap hr q2;refine⟨_,_,An,.inr ⟨id,off,_,.inl ⟨cap,by simpa using hr,by rw[r2];exact q2,ac⟩,by rw[AH.dc,if_pos rfl],r1,kq h3⟩,Nat.le_refl _,λj hj gQ=>?_,λj hj=>?_⟩;.rw[AH.dc,if_neg (by simpa[eR] using gQ)]
    .simp only[eR,List.mem_singleton] at hj;subst hj;exact⟨bT,.inl (by simp[eR])⟩
   .have e1:Nat.ble (L.length+N.length) cap=false:=by cases hq:Nat.ble (L.length+N.length) cap with|true=>exact absurd (Nat.le_of_ble_eq_true hq) hr|false=>rfl
    rw[e1,e2,RM] at An;refine⟨_,_,An,RN S rfl (λ_ _ _=>rfl),ac,λj hj _=>by rw[AH.cg,if_neg am],λj hj=>?_⟩;simp only[eR,List.mem_singleton] at hj;subst hj;simp
  .have g1:(Nat.beq es es&&Nat.ble (off+cH*es) (ca c)&&Nat.ble L.length cH)=true:=by rw[bK,dC q2,dC q1,Nat.beq_refl];rfl
   have An:evalOp M.P (.append es bytes (.op id off L.length cH es) x) S=if Nat.ble (L.length+N.length) cH then some (.op id off (L.length+N.length) cH es,S.set id (.row (bu c (off+L.length*es) N.flatten))) else
     if Nat.ble ((L.length+N.length)*bytes) dJ&&Nat.ble (L.length+N.length) eO then some (.op S.next 0 (L.length+N.length) (L.length+N.length) es,(S.kill id).new (.row (jH (kC (L.length*es) (kB off c)) N.flatten))) else none:=by
    show jo es bytes (.op id off L.length cH es) x S=_;unfold jo;rw[hx];simp only[h1,g1,if_true]
   by_cases hr:L.length+N.length<=cH
   .rw[dC hr] at An;obtain⟨r1,r2⟩:=room cH hr q2;refine⟨_,_,An,.inr ⟨id,off,_,.inr ⟨cH,by simpa using hr,by rw[r2];exact q2,ac⟩,by rw[AH.dc,if_pos rfl],r1,kq h3⟩,Nat.le_refl _,λj hj gQ=>?_,λj hj=>?_⟩;.rw[AH.dc,if_neg (by simpa[eR] using gQ)]
    .simp only[eR,List.mem_singleton] at hj;subst hj;exact⟨bT,.inl (by simp[eR])⟩
   .have e1:Nat.ble (L.length+N.length) cH=false:=by cases hq:Nat.ble (L.length+N.length) cH with|true=>exact absurd (Nat.le_of_ble_eq_true hq) hr|false=>rfl
    rw[e1,e2,RM] at An;refine⟨_,_,An,RN (S.kill id) rfl (λj _ gQ=>by rw[AH.gU,if_neg gQ]),Nat.le_succ _,λj hj gQ=>?_,λj hj=>?_⟩;.rw[AH.cg,if_neg (by show j≠S.next;omega),AH.gU,if_neg (by simpa[eR] using gQ)]
    .simp only[eR,List.mem_singleton] at hj;subst hj;exact⟨Nat.lt_succ_self _,.inr (Nat.le_refl _)⟩
theorem EI (H:Cx B0 W S own ro)(n:Nat){v x:AV}{es bytes:Nat}{L N:List (List AV)}(hm:own[n]?=some (.sl v es L))(hx:elems S es x=some (N.length,N.flatten))(hN:∀y∈N,y.length=es)
  (hb:(L.length+N.length)*bytes<=dJ) (hl:L.length+N.length<=eO) (h:∀v1 S1,Cx B0 W S1 (own.set n (.sl v1 es (L++N))) ro->wp M (k v1) S1 Q):wp M (.op (.append es bytes v x) k) S Q:=by
 have kp:=List.mem_of_getElem? hm;obtain⟨v1,S1,h1,h2,h3,h4,h5⟩:=nW (M:=M) (H.oh _ kp) hx hN hb hl (λid bT=>(H.oi _ kp id bT).1);exact ah h1 (h v1 S1 (H.step hm h3 h4 h2 h5))
theorem Cb (H:Cx B0 W S own ro)(n:Nat){v x:AV}{es bytes:Nat}{L N:List (List AV)}(hm:own[n]?=some (.sl v es L))(hx:aI.sl x es N∈ro)(hN:∀y∈N,y.length=es)
  (hb:(L.length+N.length)*bytes<=dJ) (hl:L.length+N.length<=eO) (h:∀v1 S1,Cx B0 W S1 (own.set n (.sl v1 es (L++N))) ro->wp M (k v1) S1 Q):wp M (.op (.append es bytes v x) k) S Q:=
 EI H n hm (pP (H.rh _ hx)) hN hb hl h
theorem Hk (H:Cx B0 W S own ro){f:AV}{args:List AV}{R:AV->Prop}(hc:aN M f args S λv S'=>R v/\bn S S')(h:∀v S1,R v->Cx B0 W S1 own ro->wp M (k v) S1 Q):wp M (.call f args k) S Q:=
 cw (az hc λv S1 ⟨h1,h2⟩=>h v S1 h1 (H.grow h2))
theorem e_ (H:Cx B0 W S own ro){f:AV}{args:List AV}{u:AV}(hc:aN M f args S λv S'=>v=u/\bn S S')(h:∀S1,Cx B0 W S1 own ro->wp M (k u) S1 Q):wp M (.call f args k) S Q:=
 Hk H hc λv S1 e K=>e▸h S1 K
end
def oW (S:AH)(v:AV)(es:Nat)(L:List (List AV)):Prop:=iV S v es L/\∀id∈eR v,id<S.next
theorem oW.grow {S S1:AH}{v:AV}{es:Nat}{L:List (List AV)}(h:oW S v es L)(hg:bn S S1):oW S1 v es L:=
 ⟨xA (λid bT=>hg.jc id (h.2 id bT)) h.1,λid bT=>Nat.lt_of_lt_of_le (h.2 id bT) hg.next⟩
theorem Cx.Vh {S:AH}{v:AV}{es:Nat}{L:List (List AV)}(h:oW S v es L):Cx S [] S [] [.sl v es L]:=Cx.enter (by
 intro φ jt;simp only[List.mem_singleton] at jt;subst jt;exact⟨h.1,h.2⟩)
theorem Cx.ro2 {S:AH}{v v':AV}{es gJ:Nat}{L L':List (List AV)}(h:oW S v es L)(h':oW S v' gJ L'):Cx S [] S [] [.sl v es L,.sl v' gJ L']:=Cx.enter (by
 intro φ jt;simp only[List.mem_cons,List.not_mem_nil,or_false] at jt;rcases jt with rfl|rfl;.exact⟨h.1,h.2⟩
 .exact⟨h'.1,h'.2⟩)
theorem Cx.ku {B S:AH}{M:List Nat}{own:List Own}{ro:List aI}(H:Cx B M S own ro){v:AV}{es:Nat}{L:List (List AV)}(hm:aI.sl v es L∈ro):oW S v es L:=⟨H.rh _ hm,λid bT=>(H.ri _ hm id bT).1⟩
def ints (l:List Int):List (List AV):=l.map λn=>[I n]
theorem cO (l:List Int):(ints l).length=l.length:=List.length_map ..
section
variable{M:cP}{S:AH}{f:FuncId}
theorem yG {body:List AV->AC}{Q:gG}(n:Nat)(J:Nat->List AV->AH->Prop)(hs:∀i vs S,i<n->J i vs S->wp M (body vs) S λt Bw S1=>(t=.normal/\J (i+1) Bw S1)\/(t≠.normal/\Q t Bw S1))
  (he:∀vs S,J n vs S->wp M (body vs) S λt Bw S1=>t≠.normal/\Q t Bw S1) {vs:List AV} {S:AH} (h:J 0 vs S):Qt M body vs S Q:=by
 refine Dt (λm vs S=>∃i,i<=n/\m=n-i/\J i vs S) ?_ n ⟨0,am,am,h⟩;rintro m vs S ⟨i,hi,rfl,hJ⟩;by_cases de:i<n
 .refine wp_mono (hs i vs S de hJ) λt Bw S1 q=>?_;rcases q with⟨h1,h2⟩|q;.exact .inl ⟨h1,n-(i+1),am,i+1,am,rfl,h2⟩
  .exact .inr q
 .have:i=n:=am;subst this;exact wp_mono (he vs S hJ) λt Bw S1 q=>.inr q
def pick (x n:Int):Int:=if n<=0 then 0 else x%n
def L8:List AV->AC:=λv0=>.op (.bin .leq (nth v0 1) (I 0)) λv1=>.ite v1 (.ret .ret [(I 0)]) (.op (.bin .rem (nth v0 0) (nth v0 1)) λv2=>.op (.bin .lss v2 (I 0)) λv3=>.bind (.ite v3 (.op (.bin .add v2 (nth v0 1)) λv4=>.ret .normal [v4]) (.ret .normal [v2])) none (λv4=>.ret .ret [(nth v4 0)]) (λv4=>[(I 0)]))
theorem Kj {x n:Int}(hk:M.kn f [I x,I n]=none)(hb:M.iT f=some L8)(hn:n<=9223372036854775807):aN M (.fn (.func f) [] []) [I x,I n] S λr S'=>r=I (pick x n)/\S'=S:=by
 refine br hk hb ?_;unfold L8 pick;refine nS (λh=>?_) (λh=>?_)
 .rw[if_pos h];exact dO (wp_ret ⟨rfl,rfl,rfl⟩)
 .rw[if_neg am];have e:=Int.tmod_eq_emod (a:=x) (b:=n);have h1:=Int.emod_nonneg x (by omega:n≠0);have h2:=Int.emod_lt_of_pos x (by omega:0<n);refine dP (G9 am ?_);refine gI (λhl=>?_) (λhl=>?_)
  .refine wp_bind (dO (dw ?_ ?_ (wp_ret (wp_ret ⟨rfl,?_,rfl⟩))))
   .show _<=x.tmod n+n;split at e<;>omega
   .show x.tmod n+n<=_;split at e<;>omega
   .show I (x.tmod n+n)=_;congr 2;split at e;.omega
    .rw[e];omega
  .refine wp_bind (dP (wp_ret (wp_ret ⟨rfl,?_,rfl⟩)));show I (x.tmod n)=_;congr 2;split at e<;>omega
theorem Cc {v:AV}{es n id off i:Nat}{c:List AV}(h:pM v es n id off c)(hi:i<=n):∃v',evalOp M.P (.i_ es v none (some (I (i:Int))) none) S=some (v',S)/\pM v' es i id off c:=by
 rcases h with⟨cap,q1,q2,rfl⟩|⟨cH,q1,q2,rfl⟩
 .refine⟨.sl id off i cap,?_,.inl ⟨cap,am,q2,rfl⟩⟩;show eU (dV es (.sl id off n cap) none (some (I (i:Int))) none) S=_;have hb:k8 none (some (I (i:Int))) none n cap=some (0,i,cap):=by
   have h1:below i (Nat.succ cap)=some i:=by unfold below;rw[dC am]
   show(match(match gq (some (I (i:Int))) n cap with|some h=>_|none=>none) with|r=>r)=_;have h2:gq (some (I (i:Int))) n cap=some i:=h1;rw[h2];rfl
  unfold dV;simp only[hb];have e:(if Nat.beq cap 0=true then off else Nat.add off (Nat.mul 0 es))=off:=by
   split;.rfl
   .show off+0*es=off;omega
  rw[e];rfl
 .refine⟨.op id off i cH es,?_,.inr ⟨cH,am,q2,rfl⟩⟩;show eU (dV es (.op id off n cH es) none (some (I (i:Int))) none) S=_;have hb:k8 none (some (I (i:Int))) none n cH=some (0,i,cH):=by
   have h1:below i (Nat.succ cH)=some i:=by unfold below;rw[dC am]
   show(match(match gq (some (I (i:Int))) n cH with|some h=>_|none=>none) with|r=>r)=_;have h2:gq (some (I (i:Int))) n cH=some i:=h1;rw[h2];rfl
  unfold dV;simp only[hb,Nat.beq_refl];have e:Nat.add off (Nat.mul 0 es)=off:=by show off+0*es=off;omega
  rw[e];rfl
theorem EJ {B0:AH}{W:List Nat}{own:List Own}{ro:List aI}{Q:gG}{k:AV->AC}(H:Cx B0 W S own ro){v:AV}{es i:Nat}{L:List (List AV)}(hm:aI.sl v es L∈ro)(hi:i<=L.length)
  (h:∀v',Cx B0 W S own (.sl v' es (L.take i)::ro)->wp M (k v') S Q):wp M (.op (.i_ es v none (some (I (i:Int))) none) k) S Q:=by
 have hs:=H.rh _ hm;rcases hs with⟨rfl,rfl⟩|⟨id,off,c,h0,h1,h2,h3⟩
 .have:i=0:=by simpa using hi
  subst this;exact ah (v:=Ns) rfl (h Ns (H.qX (.inl ⟨rfl,ac⟩) λid bT=>by simp[aI.ids,eR] at bT))
 .obtain⟨v',e1,e2⟩:=Cc (M:=M) (S:=S) h0 hi;refine ah e1 (h v' (H.qX (.inr ⟨id,off,c,?_,h1,?_,λx hx=>h3 x (List.mem_of_mem_take hx)⟩) λj hj=>H.ri _ hm j ?_));.rw[List.length_take,Nat.min_eq_left hi];exact e2
  .rw[List.length_take,Nat.min_eq_left hi];have hle:=Nat.mul_le_mul_right es hi;have:(c.drop off).take (i*es)=((c.drop off).take (L.length*es)).take (i*es):=by rw[List.take_take,Nat.min_eq_left hle]
   rw[this,h2];have e:L.flatten=(L.take i).flatten++(L.drop i).flatten:=by rw[<-List.flatten_append,List.take_append_drop]
   have hl:(L.take i).flatten.length=i*es:=by rw[bB (λx hx=>h3 x (List.mem_of_mem_take hx)),List.length_take,Nat.min_eq_left hi]
   rw[e,List.take_append,hl,Nat.sub_self,List.take_zero,List.append_nil,List.take_of_length_le am]
  .simp only[aI.ids] at hj⊢;rw[e2.ids] at hj;rw[h0.ids];exact hj
theorem Kk {κ:IntKind}{a:Int}:AV.beq (Z κ a) (Z κ a)=true:=by show(ml κ κ&&FN a a)=true;rw[aV,gl];simp
theorem Kl {B0:AH}{W:List Nat}{own:List Own}{ro:List aI}{Q:gG}{k:AC}(H:Cx B0 W S own ro){id off j:Nat}{cs:List AV}{v:AV}(hm:aI.pt id off cs∈ro)(hj:cs[j]?=some v)(hb:AV.beq v v=true)(h:wp M k S Q):
  wp M (.rN (.load 1 false (.ptr id (Nat.add off j))) v k) S Q:=by
 obtain⟨c,h1,h2⟩:=pO (H.rh _ hm) hj;refine yD (v':=v) ?_ hb h;show(match S.cells? id with|some c=>gh false c (Nat.add off j) 1|none=>none)=_;rw[h1];exact mD h2
end
def ni:List (Int×AV)->Int->Option AV
 |[],_=>none
 |(k',v)::r,k=>if k'=k then some v else ni r k
def tA:List (Int×AV)->Int->AV->List (Int×AV)
 |[],k,v=>[(k,v)]
 |(k',v')::r,k,v=>if k'=k then(k,v)::r else(k',v')::tA r k v
def iB (m:List (Int×AV)):List (Value×AV):=m.map λp=>(.int .i64 p.1,p.2)
theorem EK (m:List (Int×AV))(k k':Int)(v:AV):ni (tA m k v) k'=if k=k' then some v else ni m k':=by
 induction m with
 |nil=>simp[tA,ni]
 |cons p r ih=>
  obtain⟨a,b⟩:=p;unfold tA;by_cases h:a=k
  .rw[if_pos h];by_cases h2:k=k';.simp[ni,h2]
   .simp[ni,h2,h]
  .rw[if_neg h];simp only[ni];rw[ih];by_cases h2:a=k'
   .subst h2;rw[if_pos rfl,if_pos rfl,if_neg (λe=>h e.symm)]
   .rw[if_neg h2,if_neg h2]
section
variable{M:cP}{B0 S:AH}{W:List Nat}{own:List Own}{ro:List aI}{Q:gG}{k:AV->AC}
def nX:List (Int×AV)->Int->Nat->Option (Nat×AV)
 |[],_,_=>none
 |(k',v)::r,k,i=>if k'=k then some (i,v) else nX r k (i+1)
theorem sg {P:Program}{kt:TypeId}(hk:P.underlying kt=some (.int .i64))(key:Int):∀(m:List (Int×AV)) (i:Nat),qz P kt (.int .i64 key) (iB m) i=some (nX m key i)
 |[],i=>rfl
 |(a,v)::r,i=>by
  have ih:=sg hk key r (i+1);have e:xj P kt (.int .i64 key) (.int .i64 a)=some (decide (a=key)):=by
   unfold xj;rw[hk];show(if ml .i64 .i64=true then some (FN key a) else none)=_;rw[aV,if_pos rfl,gl];by_cases h:key=a;.subst h;simp
   .rw[beq_eq_false_iff_ne.2 h,decide_eq_false (λe=>h e.symm)]
  show qz P kt (.int .i64 key) ((.int .i64 a,v)::iB r) i=_;unfold qz nX;rw[e];by_cases h:a=key;.simp[h]
  .simp only[h,decide_false,if_false];exact ih
theorem xC (key:Int):∀(m:List (Int×AV)) (i:Nat),(nX m key i).map (·.2)=ni m key
 |[],i=>rfl
 |(a,v)::r,i=>by
  unfold nX ni;by_cases h:a=key;.simp[h]
  .simp only[h,if_false];exact xC key r (i+1)
theorem xD (key:Int)(v:AV):∀(m:List (Int×AV)) (i:Nat),match nX m key i with
  |some (j,_)=>i<=j/\(iB m)[j-i]?.map (·.1)=some (.int .i64 key)/\(iB m).set (j-i) (.int .i64 key,v)=iB (tA m key v)
  |none=>iB (tA m key v)=iB m++[(.int .i64 key,v)]
 |[],i=>by simp[nX,tA,iB]
 |(a,u)::r,i=>by
  have ih:=xD key v r (i+1);unfold nX tA;by_cases h:a=key;.simp[h,iB]
  .simp only[h,if_false];cases hf:nX r key (i+1) with
   |none=>
    rw[hf] at ih;simp only at ih⊢;simp only[iB,List.map_cons,List.cons_append] at ih⊢;rw[ih]
   |some q=>
    obtain⟨j,w⟩:=q;rw[hf] at ih;simp only at ih⊢;obtain⟨h1,h2,h3⟩:=ih;have e:j-i=(j-(i+1))+1:=am;rw[e];refine⟨am,?_,?_⟩;.simpa[iB] using h2
    .simp only[iB,List.map_cons,List.set_cons_succ] at h3⊢;rw[h3]
theorem xE {P:Program}{kt:TypeId}(hk:P.underlying kt=some (.int .i64)){e:Bool}{key:Int}:xk P kt e (.int .i64 key)=true:=by
 unfold xk;have:bj P (Instr.checkKey e 10000 kt (.int .i64 key))=some ():=by show bj P (Instr.checkKey e (9999+1) kt (.int .i64 key))=_;unfold Instr.checkKey;rw[ba (cQ hk)];rfl
 rw[this];rfl
theorem Hl {kt:TypeId}(hk:M.P.underlying kt=some (.int .i64)){id:Nat}{m:List (Int×AV)}{ok:Bool}{zero:AV}{key:Int}(hg:S.get id=some (.map (iB m))):
  evalOp M.P (.lookup kt ok zero (.map id) (I key)) S=some (match ni m key with|some v=>(if ok then .ed [v,B true] else v)|none=>(if ok then .ed [zero,B false] else zero),S):=by
 show eU (kE M.P S kt ok zero (.map id) (I key)) S=_;have h1:qi (I key)=some (.int .i64 key):=by simp[qi]
 have h2:mapOf S (.map id)=some (iB m):=by unfold mapOf;simp only[hg]
 have h3:=xC key m 0;have:kE M.P S kt ok zero (.map id) (I key)=some (match ni m key with|some v=>(if ok then .ed [v,B true] else v)|none=>(if ok then .ed [zero,B false] else zero)):=by
  unfold kE;rw[h1,h2];simp only[xE hk,if_true,sg hk];cases hf:nX m key 0 with
  |none=>rw[hf] at h3;simp only[Option.map_none] at h3;rw[<-h3]
  |some q=>rw[hf] at h3;obtain⟨j,w⟩:=q;simp only[Option.map_some] at h3;rw[<-h3]
 rw[this];rfl
theorem Cd (H:Cx B0 W S own ro)(n:Nat){kt:TypeId}(hk:M.P.underlying kt=some (.int .i64)){id:Nat}{m:List (Int×AV)}{zero:AV}{key:Int}(hm:own[n]?=some (.obj id (.map (iB m))))
  (h:wp M (k (.ed [(ni m key).getD zero,B (ni m key).isSome])) S Q):wp M (.op (.lookup kt true zero (.map id) (I key)) k) S Q:=by
 refine ah (Hl hk (H.oh _ (List.mem_of_getElem? hm))) ?_;cases hg:ni m key with
 |none=>rw[hg] at h;exact h
 |some v=>rw[hg] at h;exact h
theorem EL (H:Cx B0 W S own ro)(n:Nat){kt:TypeId}(hk:M.P.underlying kt=some (.int .i64)){id:Nat}{m:List (Int×AV)}{key:Int}{v:AV}(hm:own[n]?=some (.obj id (.map (iB m))))
  (h:∀S1,Cx B0 W S1 (own.set n (.obj id (.map (iB (tA m key v))))) ro->wp M (k uv) S1 Q):wp M (.op (.uu kt (.map id) (I key) v) k) S Q:=by
 have hg:S.get id=some (.map (iB m)):=H.oh _ (List.mem_of_getElem? hm);refine ah (v:=uv) (S1:=S.set id (.map (iB (tA m key v)))) ?_ (h _ (H.step hm (Nat.le_refl _) ?_ ?_ ?_))
 .show qA M.P kt (.map id) (I key) v S=_;unfold qA;have h1:qi (I key)=some (.int .i64 key):=by simp[qi]
  rw[h1];simp only[hg,xE hk,if_true,sg hk];have hs:=xD key v m 0;cases hf:nX m key 0 with
  |none=>rw[hf] at hs;simp only at hs⊢;rw[hs]
  |some q=>
   rw[hf] at hs;obtain⟨j,w⟩:=q;simp only[Nat.sub_zero] at hs⊢;obtain⟨_,h2,h3⟩:=hs;cases hj:(iB m)[j]? with
   |none=>rw[hj] at h2;cases h2
   |some p=>
    obtain⟨k',w'⟩:=p;rw[hj] at h2;simp only[Option.map_some,Option.some.injEq] at h2;subst h2;have hsb:Instr.sameBits 10000 (.int .i64 key) (.int .i64 key)=true:=by simp[Instr.sameBits]
    simp only[hsb,if_true,h3]
 .intro j hj gQ;rw[AH.dc,if_neg (by simpa[Own.ids] using gQ)]
 .show(S.set id _).get id=_;rw[AH.dc,if_pos rfl]
 .intro j hj;simp only[Own.ids,List.mem_singleton] at hj;subst hj;exact⟨(H.oi _ (List.mem_of_getElem? hm) j (by simp[Own.ids])).1,.inl (by simp[Own.ids])⟩
end
section
variable{M:cP}{B0 S:AH}{W:List Nat}{own:List Own}{ro:List aI}{Q:gG}{k:AV->AC}
theorem Cx.Dy (H:Cx B0 W S own ro){n id:Nat}{o:AO}(hm:own[n]?=some (.obj id o))(o':AO):Cx B0 W (S.set id o') (own.set n (.obj id o')) ro:=by
 refine H.step hm (Nat.le_refl _) (λj hj gQ=>?_) ?_ (λj hj=>?_);.rw[AH.dc,if_neg (by simpa[Own.ids] using gQ)]
 .show(S.set id o').get id=_;rw[AH.dc,if_pos rfl]
 .simp only[Own.ids,List.mem_singleton] at hj;subst hj;exact⟨(H.oi _ (List.mem_of_getElem? hm) j (by simp[Own.ids])).1,.inl (by simp[Own.ids])⟩
theorem Cx.mF (H:Cx B0 W S own ro)(n:Nat):Cx B0 W S (own.eraseIdx n) ro:=H.yF (List.eraseIdx_sublist _ _)
theorem Cx.Hm (H:Cx B0 W S own ro){i id:Nat}{o:AO}(hi:own[i]?=some (.obj id o)):Cx B0 W S (own.eraseIdx i) (.ob id o::ro):=by
 have kp:=List.mem_of_getElem? hi;refine(H.mF i).qX (H.oh _ kp) λj hj=>?_;simp only[aI.ids,List.mem_singleton] at hj;subst hj;refine⟨(H.oi _ kp j (by simp[Own.ids])).1,λx hx hj=>?_⟩;obtain⟨m,hm⟩:=List.getElem?_of_mem hx;have hp:=H.od;rw[List.pairwise_iff_getElem] at hp;obtain⟨EG,wX⟩:=List.getElem?_eq_some_iff.1 hi;rw[List.getElem?_eraseIdx] at hm;split at hm
 .rename_i de;obtain⟨FH,tY⟩:=List.getElem?_eq_some_iff.1 hm;exact hp m i FH EG de j (by rw[tY];exact hj) (by rw[wX];simp[Own.ids])
 .obtain⟨FH,tY⟩:=List.getElem?_eq_some_iff.1 hm;exact hp i (m+1) EG FH am j (by rw[wX];simp[Own.ids]) (by rw[tY];exact hj)
theorem Cx.other {B0 S S1:AH}{W:List Nat}{own:List Own}{ro:List aI}(H:Cx B0 W S own ro){l:Nat}{n:Nat}{o:AO}(hm:own[n]?=some (.obj l o))(h1:S1.next=S.next)(h2:∀j,j≠l->S1.get j=S.get j):Cx B0 W S1 (own.eraseIdx n) ro:=by
 have kp:=List.mem_of_getElem? hm;have K:=H.Hm hm;have K':Cx B0 W S (own.eraseIdx n) ro:=K.tl;have hl:∀x∈own.eraseIdx n,l∉x.ids:=(K.ri _ (List.Mem.head _) l (by simp[aI.ids])).2;have jD:∀φ∈ro,l∉φ.ids:=λφ jt bT=>(H.ri φ jt l bT).2 _ kp (by simp[Own.ids])
 refine⟨by rw[h1];exact K'.next,λid h3 h4=>?_,λx hx=>Own.gH (λid bT=>h2 id λe=>hl x hx (e▸bT)) (K'.oh x hx),λx hx id bT=>by rw[h1];exact K'.oi x hx id bT,K'.od,
  λφ jt=>aI.gH (λid bT=>h2 id λe=>jD φ jt (e▸bT)) (K'.rh φ jt),λφ jt id bT=>by rw[h1];exact K'.ri φ jt id bT⟩
 by_cases e:id=l
 .subst e;exact absurd ((H.oi _ kp id (by simp[Own.ids])).2 h3) h4
 .rw[h2 id e];exact K'.jc id h3 h4
end
section
variable[km]
open Go.ChangeShapes Go.WideShapes
section
variable{H:Type}{enc:TypeId×Value->H}{P:Program}{W:World}{base:Nat}{sp:Nat->Bool}{hd:Bool}
def Ce:Value->Bool
 |.int k n=>(Lit.int k n).wf
 |_=>true
theorem mG {t:TypeId}{n:Nat}(h:aU P t=some n):P.cellsOf t=n:=by unfold aU at h;unfold Program.cellsOf;rw[h];rfl
theorem EN {ks:List (Option IntKind)}:∀{ls:List (Option IntKind)} {vs:List Value},aE ks (vs.take ks.length)=true->aE ls (vs.drop ks.length)=true->aE (ks++ls) vs=true:=by
 induction ks with
 |nil=>intro ls vs h1 h2;simpa using h2
 |cons k ks ih=>
  intro ls vs h1 h2;cases vs with
  |nil=>simp[aE] at h1
  |cons v vs=>simp only[List.length_cons,List.take_succ_cons,aE,Bool.and_eq_true,List.drop_succ_cons] at h1 h2;simp only[List.cons_append,aE,Bool.and_eq_true];exact⟨h1.1,ih h1.2 h2⟩
theorem xF:∀(d:Nat) (t:TypeId) (ks:List (Option IntKind)),eL P d t=some ks->aU P t=some ks.length->∀(fuel:Nat) (cs:List Value) (x:DataW H×List MemPlace),DataW.trod enc P W base sp hd fuel t cs=some x->aE ks cs=true/\∀v∈cs,Ce v=true
 |0,t,ks,hf,_,_,_,_,_=>by simp[eL] at hf
 |d+1,t,ks,hf,tR,fuel,cs,x,h=>by
  unfold eL at hf;cases hu:P.underlying t with
  |none=>rw[hu] at hf;cases hf
  |some u=>
   rw[hu] at hf;cases u with
   |bool=>
    cases hf;obtain⟨b,rfl,_⟩:=DataW.trod_bool hu h;exact⟨rfl,by simp[Ce]⟩
   |int k=>
    cases hf;obtain⟨n,rfl,_,hw⟩:=DataW.trod_int hu h;exact⟨by simp[aE,h_],by simpa[Ce] using hw⟩
   |struct fs=>
    simp only at hf;cases Qv:P.stoodInHeld t with
    |true=>rw[Qv] at hf;simp at hf
    |false=>
     rw[Qv] at hf;simp only[Bool.false_eq_true,if_false] at hf;obtain⟨xs,n,_,_,hlen,_,zw⟩:=DataW.trod_struct hu h;rw[mG tR] at hlen;have key:∀(l:List Field) (i off:Nat) (ks:List (Option IntKind)),(∀(j:Nat) f,l[j]?=some f->fs[i+j]?=some f)->sV (eL P d) P l off=some ks->off+ks.length=cs.length->aE ks (cs.drop off)=true/\∀v∈cs.drop off,Ce v=true:=by
      intro l;induction l with
      |nil=>
       intro i off ks _ hf hl;cases hf;have:cs.drop off=[]:=List.drop_eq_nil_of_le (by simp at hl;omega);rw[this];exact⟨rfl,ac⟩
      |cons f l ih=>
       intro i off ks Aw hf hl;unfold sV at hf;by_cases hn:f.name= "_";.rw[if_pos hn] at hf;cases hf
       .rw[if_neg hn] at hf;by_cases ho:f.offset≠off;.rw[if_pos ho] at hf;cases hf
        .rw[if_neg ho] at hf;have ho:f.offset=off:=am;cases hr:eL P d f.type with
         |none=>rw[hr] at hf;cases hf
         |some k1=>
          rw[hr] at hf;simp only at hf;by_cases hs:aU P f.type=some k1.length
          .rw[if_pos hs] at hf;cases vk:sV (eL P d) P l (off+k1.length) with
           |none=>rw[vk] at hf;cases hf
           |some k2=>
            rw[vk] at hf;cases hf;rw[List.length_append] at hl;have h0:=Aw 0 f rfl;have h1:=zw i f h0;rw[ho,mG hs] at h1;cases hx:xs[i]? with
            |none=>
             rw[hx] at h1;have:=(Array.getElem?_eq_some_iff.1 h0).1;have:=List.getElem?_eq_none_iff.1 hx;omega
            |some y=>
             rw[hx] at h1;obtain⟨q1,q2⟩:=xF d f.type k1 hr hs n _ y h1;obtain⟨r1,r2⟩:=ih (i+1) (off+k1.length) k2 (λj f hj=>by
              have:=Aw (j+1) f (by simpa using hj)
              rwa[show i+(j+1)=i+1+j by omega] at this) vk am
             rw[<-List.drop_drop] at r1 r2;refine⟨EN q1 r1,λv hv=>?_⟩;rw[<-List.take_append_drop k1.length (cs.drop off),List.mem_append] at hv;rcases hv with hv|hv;.exact q2 v hv
             .exact r2 v hv
          .rw[if_neg hs] at hf;cases hf
     have:=key fs.toList 0 0 ks (λj f hj=>by simpa using hj) hf am;simpa using this
   |_=>cases hf
theorem si {t e:TypeId}{d:Nat}{ks:List (Option IntKind)}{v:Value}{x:DataW H}{p:List MemPlace}(ht:P.underlying t=some (.slice e))(hf:eL P d e=some ks)(hs:aU P e=some ks.length)
  (hK:Value.okWide P W .any base t v) (h:DataW.Trod enc P W 0 (λ_=>true) true t v x p):
  v=.slice none 0 0\/∃(b off len cap:Nat) (C:Nat->List Value),v=.slice (some ⟨b,off,none⟩) len cap/\len<=cap/\cap<=maxLen/\b<W.heap.size/\
   ∀i,i<cap->aE ks (C i)=true/\(∀y∈C i,Ce y=true)/\∀(j:Nat) y,(C i)[j]?=some y->W.cell? ⟨b,off+i*ks.length+j,none⟩=some y:=by
 obtain⟨fuel,hr⟩:=h;have dY:=mG hs;rcases DataW.trod_slice ht hr with⟨h1,_⟩|⟨a,len,cap,elems,rest,n,_,h1,_,_,h2,h3,h4,h5,h6,_⟩
 .left;cases v<;>simp[Value.cells] at h1
  .obtain⟨rfl,rfl,rfl⟩:=h1;rfl
  .simp[Value.okWide,ht,Cell.okWide,Cell.ok] at hK
 .right;have hv:v=.slice (some a) len cap:=by
   cases v<;>simp[Value.cells] at h1
   .obtain⟨rfl,rfl,rfl⟩:=h1;rfl
   .simp[Value.okWide,ht,Cell.okWide,Cell.ok] at hK
  subst hv;have Xh:W.has P .any base a e cap:=by simp only[Value.okWide,ht,Cell.okWide,Cell.ok] at hK;exact hK.2.2
  obtain⟨_,L9,row,cells,Cf,_⟩:=Xh;obtain⟨b,off,s⟩:=a;simp only at L9;subst L9;have hb:b<W.heap.size:=by
   unfold World.shape? at Cf;split at Cf
   .rename_i hh;exact(Array.getElem?_eq_some_iff.1 hh).1
   .cases Cf
  obtain⟨h7,h8⟩:=h6 rfl;have kq:∀i,i<cap->∃y,(W.cells? 0 (Addr.add ⟨b,off,none⟩ (i*P.cellsOf e)) (P.cellsOf e)).bind (DataW.trod enc P W 0 (λ_=>true) true n e)=some y:=by
   intro i hi;by_cases hl:i<len
   .rw[h5 i hl];exact⟨elems[i]' am,List.getElem?_eq_getElem am⟩
   .have:=h8 (i-len) am;rw[show len+(i-len)=i by omega] at this;rw[this];exact⟨rest[i-len]' am,List.getElem?_eq_getElem am⟩
  have hex:∀i,∃C:List Value,i<cap->aE ks C=true/\(∀y∈C,Ce y=true)/\∀(j:Nat) y,C[j]?=some y->W.cell? ⟨b,off+i*ks.length+j,none⟩=some y:=by
   intro i;by_cases hi:i<cap
   .obtain⟨y,hy⟩:=kq i hi;rw[dY] at hy;obtain⟨cs,hc,htr⟩:=Option.bind_eq_some_iff.1 hy;obtain⟨_,abk,Xi⟩:=World.cells?_some hc;obtain⟨q1,q2⟩:=xF d e ks hf hs n cs y htr;refine⟨cs,λ_=>⟨q1,q2,λj z hz=>?_⟩⟩;have hj:j<ks.length:=by have:=(List.getElem?_eq_some_iff.1 hz).1;omega
    rw[<-hz,<-Xi j hj];have e1:Addr.add (Addr.add ⟨b,off,none⟩ (i*ks.length)) j=⟨b,off+i*ks.length+j,none⟩:=by
     unfold Addr.add;by_cases z1:i*ks.length=0
     .rw[if_pos z1];by_cases z2:j=0;.rw[if_pos z2,z1,z2];rfl
      .rw[if_neg z2,z1];rfl
     .rw[if_neg z1];by_cases z2:j=0;.rw[if_pos z2,z2];rfl
      .rw[if_neg z2]
    rw[e1]
   .exact⟨[],λh=>absurd h hi⟩
  refine⟨b,off,len,cap,λi=>(hex i).choose,rfl,h2,h3,hb,λi hi=>(hex i).choose_spec hi⟩
end
def ub (vs:List Value):List AV:=vs.map .sc
theorem Hn {ρ:Ren}{ks:List (Option IntKind)}:∀{vs:List Value},aE ks vs=true->∀v∈vs,V ρ (.sc v) v/\v.oneCell'=true:=by
 induction ks with
 |nil=>intro vs h;cases vs with|nil=>simp|cons _ _=>simp[aE] at h
 |cons k ks ih=>
  intro vs h v hv;cases vs with
  |nil=>simp at hv
  |cons a vs=>
   simp only[aE,Bool.and_eq_true] at h;rcases List.mem_cons.1 hv with rfl|hv;.cases v<;>cases k<;>simp[h_] at h<;>exact⟨.sc rfl,rfl⟩
   .exact ih h.2 v hv
theorem Ho {ρ:Ren}:∀{vs:List Value},(∀v∈vs,V ρ (.sc v) v)->VL ρ (ub vs) vs
 |[],_=>.nil
 |v::vs,h=>.cons (h v ac) (Ho λx hx=>h x (by simp[hx]))
theorem V.RO {ρ:Ren}{ks:List (Option IntKind)}{vs:List Value}(h:aE ks vs=true):V ρ (.agg (ub vs)) (.agg vs.toArray):=
 .agg (Ho λv hv=>(Hn h v hv).1) λv hv=>(Hn (ρ:=ρ) h v hv).2
structure Open (P:Program)(W:World)(S:AH)(ρ:Ren)(as:List AV)(xs:List Value):Prop where
 r:R P ρ S W
 v:VL ρ as xs
 ro:∀id o,S.get id=some o->pC o=true
theorem Open.nil (P:Program)(W:World):Open P W ⟨.e,0⟩ (λ_=>none) [] []:=⟨R.nothing P W,.nil,λid o h=>by simp[AH.get,gC] at h⟩
theorem Open.one {P:Program}{W:World}{S:AH}{ρ:Ren}{as:List AV}{xs:List Value}(h:Open P W S ρ as xs){a:AV}{x:Value}(hv:V ρ a x):Open P W S ρ (a::as) (x::xs):=⟨h.r,.cons hv h.v,h.ro⟩
theorem Open.lay {P:Program}{W:World}{S:AH}{ρ:Ren}{as:List AV}{xs:List Value}(h:Open P W S ρ as xs){b off l:Nat}{c:List AV}(hb:b<W.heap.size)
  (hc:∀(i:Nat) v,c[i]?=some v->∃x,W.cell? ⟨b,off+i,none⟩=some x/\V ρ v x/\x.oneCell'=true):Open P W (S.new (.ro c)) (ρ.put S.next (b,off,l)) as xs/\ρ.le (ρ.put S.next (b,off,l)):=by
 have hn:ρ S.next=none:=by
  cases e:ρ S.next with
  |none=>rfl
  |some x=>exact absurd (h.r.tq e) (Nat.lt_irrefl _)
 have hle:=Ren.k9 (x:=(b,off,l)) hn;refine⟨⟨⟨?_,?_,?_,?_,?_⟩,h.v.mono hle,?_⟩,hle⟩
 .intro id ob b' o l' h1 h2;rw[AH.cg] at h1;by_cases e:id=S.next
  .subst e;rw[if_pos rfl] at h1;cases h1;rw[Ren.bI] at h2;cases h2;intro i v hv;obtain⟨x,q1,q2,q3⟩:=hc i v hv;exact⟨x,q1,q2.mono hle,q3⟩
  .rw[if_neg e] at h1;rw[Ren.aO _ _ e] at h2;exact(h.r.jb h1 h2).mono hle rfl
 .intro i j oi oj b' o l' o' U2 h1 h2 h3 h4 h5;exfalso;have jD:∀id o,(S.new (.ro c)).get id=some o->pC o=true:=λid o hg=>by
   rw[AH.cg] at hg;split at hg;.cases hg;rfl
   .exact h.ro id o hg
  rw[jD i oi h1,jD j oj h2] at h5;simp at h5
 .intro id x h1;by_cases e:id=S.next;.subst e;simp
  .rw[Ren.aO _ _ e] at h1;have:=h.r.tq h1;simp;omega
 .intro id b' o l' h1;by_cases e:id=S.next
  .subst e;rw[Ren.bI] at h1;cases h1;exact hb
  .rw[Ren.aO _ _ e] at h1;exact h.r.o0 h1
 .intro id ob hg;rw[AH.cg] at hg;split at hg;.next e=>subst e;simp
  .have:=h.r.wf hg;simp;omega
 .intro id o hg;rw[AH.cg] at hg;split at hg;.cases hg;rfl
  .exact h.ro id o hg
theorem Open.NA {P:Program}{W:World}{S:AH}{ρ:Ren}{as:List AV}{xs:List Value}(h:Open P W S ρ as xs){ks:List (Option IntKind)}{v:Value}
  (hv:v=.slice none 0 0\/∃(b off len cap:Nat) (C:Nat->List Value),v=.slice (some ⟨b,off,none⟩) len cap/\len<=cap/\cap<=maxLen/\b<W.heap.size/\
    ∀i,i<cap->aE ks (C i)=true/\(∀y∈C i,Ce y=true)/\∀(j:Nat) y,(C i)[j]?=some y->W.cell? ⟨b,off+i*ks.length+j,none⟩=some y):
  ∃(a:AV) (S':AH) (aZ:Ren) (L:List (List Value)),Open P W S' aZ (a::as) (v::xs)/\bn S S'/\oW S' a ks.length (L.map ub)/\L.length<=maxLen/\(∀vs∈L,aE ks vs=true/\∀y∈vs,Ce y=true)/\((a=Ns/\S'=S)\/∃c len cap,a=.sl S.next 0 len cap/\S'=S.new (.ro c)):=by
 rcases hv with rfl|⟨b,off,len,cap,C,rfl,hle,hm,hb,hC⟩;.exact⟨Ns,S,ρ,[],h.one (.sc rfl),bn.refl S,⟨.inl ⟨rfl,rfl⟩,by simp[eR]⟩,ac,ac,.inl ⟨rfl,rfl⟩⟩
 .let c:List AV:=((List.range cap).map λi=>ub (C i)).flatten
  have hlen:∀x∈(List.range cap).map (λi=>ub (C i)),x.length=ks.length:=by intro x hx;obtain⟨i,hi,rfl⟩:=List.mem_map.1 hx;have:=eA (hC i (List.mem_range.1 hi)).1;simp[ub,this]
  have dY:c.length=cap*ks.length:=by show(List.flatten _).length=_;rw[bB hlen,List.length_map,List.length_range]
  have jd:∀i,i<cap->((c.drop (i*ks.length)).take ks.length)=ub (C i):=λi hi=>jY hlen (by simp[hi]);obtain⟨h1,h2⟩:=h.lay (l:=cap*ks.length) hb (c:=c) (off:=off) λq v hq=>by
   have hql:q<c.length:=(List.getElem?_eq_some_iff.1 hq).1;have hkp:0<ks.length:=by
    rcases Nat.eq_zero_or_pos ks.length with e|e;.rw[dY,e] at hql;omega
    .exact e
   have hdm:=Nat.div_add_mod q ks.length;have Xj:=Nat.mod_lt q hkp;have hi:q/ks.length<cap:=by rw[Nat.div_lt_iff_lt_mul hkp];omega
   have hg:=jd (q/ks.length) hi;have FA:(ub (C (q/ks.length)))[q%ks.length]?=some v:=by rw[<-hg,List.getElem?_take,if_pos Xj,List.getElem?_drop,<-hq];congr 1;rw[Nat.mul_comm];omega
   unfold ub at FA;rw[List.getElem?_map] at FA;obtain⟨x,hx,rfl⟩:=Option.map_eq_some_iff.1 FA;obtain⟨q1,q2,q3⟩:=hC _ hi;refine⟨x,?_,Hn q1 x (List.mem_of_getElem? hx)⟩;have:=q3 _ _ hx;rw[show off+q/ks.length*ks.length+q%ks.length=off+q by rw[Nat.mul_comm];omega] at this;exact this
  refine⟨.sl S.next 0 len cap,_,_,(List.range len).map C,h1.one (.sl (off:=0) (Ren.bI _ _ _)),bn.new S _,⟨.inr ⟨S.next,0,c,.inl ⟨cap,?_,?_,?_⟩,?_,?_,?_⟩,?_⟩,?_,?_,.inr ⟨c,len,cap,rfl,rfl⟩⟩;.simpa using hle
  .rw[dY];omega
  .simp
  .unfold AH.cells?;rw[bU];rfl
  .rw[List.drop_zero,List.length_map,List.length_map,List.length_range];have e1:(List.range cap).map (λi=>ub (C i))=((List.range len).map C).map ub++((List.range (cap-len)).map λj=>ub (C (len+j))):=by
    have:List.range cap=List.range len++(List.range (cap-len)).map (λj=>len+j):=by rw[<-List.range_add];congr 1;omega
    rw[this,List.map_append,List.map_map,List.map_map];rfl
   have qZ:∀x∈((List.range len).map C).map ub,x.length=ks.length:=λx hx=>hlen x (by rw[e1];exact List.mem_append.2 (.inl hx));show List.take (len*ks.length) (List.flatten _)=_;rw[e1,List.flatten_append,List.take_append];have pG:(((List.range len).map C).map ub).flatten.length=len*ks.length:=by rw[bB qZ];simp
   rw[pG,Nat.sub_self,List.take_zero,List.append_nil,List.take_of_length_le am]
  .intro x hx;obtain⟨vs,EO,rfl⟩:=List.mem_map.1 hx;obtain⟨i,hi,rfl⟩:=List.mem_map.1 EO;have:=eA (hC i (by have:=List.mem_range.1 hi;omega)).1;simp[ub,this]
  .intro id bT;simp only[eR,List.mem_singleton] at bT;subst bT;simp
  .simp;omega
  .intro vs EO;obtain⟨i,hi,rfl⟩:=List.mem_map.1 EO;have:=hC i (by have:=List.mem_range.1 hi;omega);exact⟨this.1,this.2.1⟩
theorem Open.slice {P:Program}{W:World}{S:AH}{ρ:Ren}{as:List AV}{xs:List Value}(h:Open P W S ρ as xs){ks:List (Option IntKind)}{v:Value}
  (hv:v=.slice none 0 0\/∃(b off len cap:Nat) (C:Nat->List Value),v=.slice (some ⟨b,off,none⟩) len cap/\len<=cap/\cap<=maxLen/\b<W.heap.size/\
    ∀i,i<cap->aE ks (C i)=true/\(∀y∈C i,Ce y=true)/\∀(j:Nat) y,(C i)[j]?=some y->W.cell? ⟨b,off+i*ks.length+j,none⟩=some y):
  ∃(a:AV) (S':AH) (aZ:Ren) (L:List (List Value)),Open P W S' aZ (a::as) (v::xs)/\bn S S'/\oW S' a ks.length (L.map ub)/\L.length<=maxLen/\(∀vs∈L,aE ks vs=true/\∀y∈vs,Ce y=true):=by
 obtain⟨a,S',aZ,L,h1,h2,h3,h4,h5,_⟩:=h.NA hv;exact⟨a,S',aZ,L,h1,h2,h3,h4,h5⟩
end
section
variable{M:cP}{S:AH}{f:FuncId}
def l9 (P:Program)(t:TypeId):Bool:=match P.underlying t with
 |some (.struct _)=>true
 |_=>false
theorem nY {P:Program}{t:TypeId}(h:l9 P t=true):∃fs,P.underlying t=some (.struct fs):=by
 unfold l9 at h;split at h;.exact⟨_,be⟩
 .cases h
theorem ra {ks:List (Option IntKind)}:∀{vs:List Value},aE ks vs=true->tp (ub vs)=some vs:=by
 induction ks with
 |nil=>intro vs h;cases vs with|nil=>rfl|cons _ _=>simp[aE] at h
 |cons k ks ih=>
  intro vs h;cases vs with
  |nil=>simp[aE] at h
  |cons v vs=>simp only[aE,Bool.and_eq_true] at h;have:=ih h.2;simp only[ub,List.map_cons,tp,qi] at this⊢;rw[show tp (List.map AV.sc vs)=some vs from this]
theorem EP {Q:gG}{k:AV->AC}{t:TypeId}{ks:List (Option IntKind)}{d:Nat}{vs:List Value}(hf:eL M.P d t=some ks)(hd:d<=10000)(hu:l9 M.P t=true)(hg:M.P.eqGuardType M.P.depth t=false)(hk:aE ks vs=true)
  (h:wp M (k (B true)) S Q):wp M (.op (.eq t false (.agg (ub vs)) (.agg (ub vs))) k) S Q:=by
 obtain⟨fs,hu⟩:=nY hu;refine ah (L7 hf hd hu hg (ra hk) (ra hk) hk hk) ?_;simpa[se hk] using h
end
def OLe {α:Type}(a b:Option α):Prop:=∀r,a=some r->b=some r
theorem OLe.rfl' {α:Type}{a:Option α}:OLe a a:=λ_ h=>h
section
variable{P:Program}{call aaa:AV->List AV->AH->Option (AV×AH)}{fuel aab:Nat}
end
section
variable[km]
end
section
variable[km]
open Go.ChangeShapes Go.WideShapes
def Dz (P:Program)(t:TypeId):Bool:=match P.underlying t with
 |some (.int .i64)=>true
 |_=>false
theorem Ax:∀{l:List Value},(∀v∈l,∃a,v=.int .i64 a/\IntKind.i64.has a)->∃ns:List Int,l=ns.map (Value.int .i64)/\∀a∈ns,IntKind.i64.has a
 |[],_=>⟨[],rfl,ac⟩
 |v::l,h=>by obtain⟨a,rfl,ha⟩:=h v ac;obtain⟨ns,rfl,Vi⟩:=Ax (l:=l) λw hw=>h w (List.mem_cons_of_mem _ hw);exact⟨a::ns,rfl,λb hb=>by rcases List.mem_cons.1 hb with rfl|hb;exact ha;exact Vi _ hb⟩
theorem ER {H:Type}{enc:TypeId×Value->H}{P:Program}{W:World}{base:Nat}{t u e:TypeId}{d m n:Nat}{ks:List (Option IntKind)}{v:Value}{x:DataW H}{p:List MemPlace}{fs:Array Field}{f:Field}{ts:List TypeId}
  (hu:P.underlying t=some (.struct fs)) (Xk:P.cellTypes P.depth t=some ts) (hn:ts.length=n+1) (hint:((ts.take n).all (Dz P))=true) (Hp:P.cellsOf t=n+1)
  (RP:ts[n]?=some u) (RQ:fs[m]?=some f) (Qd:f.offset=n) (hft:f.type=u) (Xl:P.cellsOf u=1) (RT:P.underlying u=some (.slice e)) (hf:eL P d e=some ks) (hs:aU P e=some ks.length)
  (hK:Value.okWide P W .any base t v) (h:DataW.Trod enc P W 0 (λ_=>true) true t v x p):
  ∃(ns:List Int) (w:Value),v=.agg ((ns.map (Value.int .i64))++[w]).toArray/\ns.length=n/\(∀a∈ns,IntKind.i64.has a)/\w.oneCell'=true/\
   (w=.slice none 0 0\/∃(b off len cap:Nat) (C:Nat->List Value),w=.slice (some ⟨b,off,none⟩) len cap/\len<=cap/\cap<=maxLen/\b<W.heap.size/\
     ∀i,i<cap->aE ks (C i)=true/\(∀y∈C i,Ce y=true)/\∀(j:Nat) y,(C i)[j]?=some y->W.cell? ⟨b,off+i*ks.length+j,none⟩=some y):=by
 simp only[Value.okWide,hu] at hK;obtain⟨cs,rfl,dH,ts',RU,_,Hr⟩:=hK;rw[Xk] at RU;cases RU;rw[Hp] at dH;obtain⟨fuel,hr⟩:=h;have hr:DataW.trod enc P W 0 (λ_=>true) true fuel t cs.toList=some (x,p):=hr;have dY:cs.toList.length=n+1:=by simpa using dH
 have Xm:∀i (hi:i<n+1),∃u',ts[i]?=some u'/\Cell.okWide P W .any base u' (cs.toList[i]' am):=by intro i hi;obtain⟨u',h1,h2⟩:=Hr i (cs.toList[i]' am) (by rw[<-Array.getElem?_toList,List.getElem?_eq_getElem am]);rw[hn,Nat.mod_eq_of_lt hi] at h1;exact⟨u',h1,h2⟩
 obtain⟨ns,Vi,eM⟩:=Ax (l:=cs.toList.take n) λv hv=>by
  obtain⟨i,hi,rfl⟩:=List.mem_iff_getElem.1 hv;rw[List.length_take] at hi;rw[List.getElem_take];obtain⟨u',h1,h2⟩:=Xm i am;have h3:Dz P u'=true:=by rw[List.all_eq_true] at hint;refine hint u' (List.mem_of_getElem? (i:=i) ?_);rw[List.getElem?_take,if_pos am,h1]
  unfold Dz at h3;split at h3
  .next h4=>
   generalize(cs.toList[i]' am)=x at h2⊢;simp only[Cell.okWide,Cell.ok,h4] at h2;cases x<;>simp at h2
   obtain⟨rfl,na⟩:=h2;exact⟨_,rfl,na⟩
  .cases h3
 obtain⟨u',h1,RV⟩:=Xm n am;rw[RP] at h1;cases h1;have L_:cs.toList.drop n=[cs.toList[n]' am]:=by rw[List.drop_eq_getElem_cons am,List.drop_of_length_le am]
 have kq:cs.toList=cs.toList.take n++[cs.toList[n]' am]:=by rw[<-L_,List.take_append_drop]
 have hlen:ns.length=n:=by have:=congrArg List.length Vi;rw[List.length_take,List.length_map] at this;omega
 obtain⟨xs,k,_,_,_,hxl,zw⟩:=DataW.trod_struct hu hr;have h5:=zw m f RQ;rw[Qd,hft,Xl,L_] at h5;have hm:m<fs.size:=(Array.getElem?_eq_some_iff.1 RQ).1;rw[List.getElem?_eq_getElem am] at h5;have h6:DataW.trod enc P W 0 (λ_=>true) true k u [cs.toList[n]' am]=some (xs[m]' am):=h5;refine⟨ns,cs.toList[n]' am,?_,hlen,eM,?_⟩;.rw[<-Vi,<-kq]
 .have hw:(cs.toList[n]' am=.slice none 0 0)\/∃a len cap,cs.toList[n]' am=.slice (some a) len cap:=by
   rcases DataW.trod_slice RT h6 with⟨h7,_⟩|⟨a,len,cap,_,_,_,_,h7,_⟩;.exact .inl (by simpa using h7)
   .exact .inr ⟨a,len,cap,by simpa using h7⟩
  generalize cs.toList[n]' am=w at h6 RV hw;have pF:w.cells.toList=[w]:=by
   rcases hw with rfl|⟨a,len,cap,rfl⟩<;>rfl
  have Xn:w.oneCell'=true:=by
   rcases hw with rfl|⟨a,len,cap,rfl⟩<;>rfl
  have Xo:Value.okWide P W .any base u w:=by simp only[Value.okWide,RT];exact RV
  exact⟨Xn,si RT hf hs Xo ⟨k,by rw[pF];exact h6⟩⟩
theorem Open.RO {P:Program}{W:World}{S:AH}{ρ:Ren}{a:AV}{w:Value}{as:List AV}{xs:List Value}(h:Open P W S ρ (a::as) (w::xs))(hw:w.oneCell'=true)(ns:List Int):
  Open P W S ρ (.agg (ns.map (λn=>AV.sc (.int .i64 n))++[a])::as) (.agg ((ns.map (Value.int .i64))++[w]).toArray::xs):=by
 obtain⟨h1,h2,h3⟩:=h;cases h2 with
 |cons ha hr=>
  refine⟨h1,.cons (.agg ?_ ?_) hr,h3⟩
  .induction ns with
   |nil=>exact .cons ha .nil
   |cons n ns ih=>exact .cons (.sc rfl) ih
  .intro v hv;rcases List.mem_append.1 hv with hv|hv;.obtain⟨n,_,rfl⟩:=List.mem_map.1 hv;rfl
   .rw[List.mem_singleton.1 hv];exact hw
end
section
variable[km]
open Go.ChangeShapes Go.WideShapes
def Ht (P:Program)(t u n m:Nat):Bool:=match P.underlying t,P.cellTypes P.depth t with
 |some (.struct fs),some ts=>decide (ts.length=n+1)&&(ts.take n).all (Dz P)&&decide (ts[n]?=some u)&&(match fs[m]? with|some f=>decide (f.offset=n)&&decide (f.type=u)|none=>false)
 |_,_=>false
theorem Cg {H:Type}{enc:TypeId×Value->H}{P:Program}{W:World}{base:Nat}{t u e:TypeId}{d m n:Nat}{ks:List (Option IntKind)}{v:Value}{x:DataW H}{p:List MemPlace}
  (hb:Ht P t u n m=true) (Hp:P.cellsOf t=n+1) (Xl:P.cellsOf u=1) (RT:P.underlying u=some (.slice e)) (hf:eL P d e=some ks) (hs:aU P e=some ks.length)
  (hK:Value.okWide P W .any base t v) (h:DataW.Trod enc P W 0 (λ_=>true) true t v x p):
  ∃(ns:List Int) (w:Value),v=.agg ((ns.map (Value.int .i64))++[w]).toArray/\ns.length=n/\(∀a∈ns,IntKind.i64.has a)/\w.oneCell'=true/\
   (w=.slice none 0 0\/∃(b off len cap:Nat) (C:Nat->List Value),w=.slice (some ⟨b,off,none⟩) len cap/\len<=cap/\cap<=maxLen/\b<W.heap.size/\
     ∀i,i<cap->aE ks (C i)=true/\(∀y∈C i,Ce y=true)/\∀(j:Nat) y,(C i)[j]?=some y->W.cell? ⟨b,off+i*ks.length+j,none⟩=some y):=by
 unfold Ht at hb;split at hb
 .next fs ts hu Xk=>
  simp only[Bool.and_eq_true,decide_eq_true_eq] at hb;obtain⟨⟨⟨h1,h2⟩,h3⟩,h4⟩:=hb;split at h4
  .next f RQ=>simp only[Bool.and_eq_true,decide_eq_true_eq] at h4;exact ER hu Xk h1 h2 Hp h3 RQ h4.1 h4.2 Xl RT hf hs hK h
  .cases h4
 .cases hb
theorem bR {n:Nat}{l:List Int}(h:l.length=n+1):∃a r,l=a::r/\r.length=n:=by
 cases l with
 |nil=>simp at h
 |cons a r=>exact⟨a,r,rfl,by simpa using h⟩
theorem NB {l:List Int}(h:l.length=0):l=[]:=List.eq_nil_of_length_eq_zero h
end
end
end Go.cG
