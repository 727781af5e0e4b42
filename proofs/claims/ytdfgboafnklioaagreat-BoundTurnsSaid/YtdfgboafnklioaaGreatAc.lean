/- The abstract machine: calls do what the model does; a statement out of a run. No condition. -/
import Derived.Test.YtdfgboafnklioaaGreatAb
import Derived.ProofKit
import Derived.Below
import Derived.Deep.Slices
set_option linter.all false
set_option maxRecDepth 100000
set_option maxHeartbeats 4000000
namespace Go.cO
noncomputable section
section
variable[kg]
variable{P:Program}{ρ:Ren}{F:Fr}{a:Act}{o:Oper}{S:AH}{w:World}
structure pH (P:Program)(call:fw):Prop where
 ok:∀{g fa fc args S v S' ρ w d},call (.fn (.func g) fa fc) args S=some (v,S')->fq P g=true->R P ρ S w->gR ρ (.fn (.func g) fa fc) args d->
  ∃cap ys,d.target=.fn (.func g) cap/\(invoke d.target d.args).run P w=.ok (.enter g ys) w/\∀u,u≠.run->CallsDIn Fence.wide 0 P g ys u w λe u' w'=>u'=u/\bI P ρ S w v S' e w'
theorem sE {i7:Ren}{S0:AH}{w0:World}:∀(ms:List Deferred) (w:World) (fr:Frame) (cs:List Frame),Marks w0.heap.size ρ S w ms->R P ρ S w->Ext i7 S0 w0 ρ S w->fr.mode≠.run->fr.defers=ms->
  ∃w',R P ρ S w'/\Ext i7 S0 w0 ρ S w'/\StepsIn (Machine.fenced P Fence.wide) P (lone fr cs w) (lone {fr with defers:=[]} cs w')
 |[],w,fr,cs,hm,hR,hE,C3,hd=>⟨w,hR,hE,by rw[<-hd];exact .refl _⟩
 |m::ms,w,fr,cs,hm,hR,hE,C3,hd=>by
  obtain⟨r,h1,h2,h3,h4⟩:=hm.2 m ac;have Re:=List.pairwise_cons.1 hm.1;have Gq:Marks w0.heap.size ρ S (w.putObj r (.deferred none)) ms:=by refine⟨Re.2,λm' Gq=>?_⟩;obtain⟨r',k1,k2,k3,k4⟩:=hm.2 m' (by simp[Gq]);refine⟨r',k1,k2,?_,k4⟩;have fI:r'≠r:=λe=>Re.1 m' Gq (by rw[h1,k1,e]);rw[World.putObj_heap_other fI];exact k3
  have hs:=step_collected (P:=P) (cs:=cs) C3 hd (by rw[h1]) (run_takeDeferred h3);obtain⟨w',q1,q2,q3⟩:=sE ms _ {fr with defers:=[]++ms} cs Gq (hR.shut h4 h3) (hE.shut h2) C3 rfl;refine⟨w',q1,q2,.head ?_ hs q3⟩;exact fenced_out (n:=0) trivial (room_wide _) C3 hd (λg hg=>trivial)
def BR (P:Program)(ρ:Ren)(S:AH)(w:World)(fn:Func)(v:AV)(S':AH):Exit->Act->World->Prop:=λe a' w'=>
 (e=.normal\/e=.ret)/\∃aT,R P aT S' w'/\Ext ρ S w aT S' w'/\Marks w.heap.size aT S' w' a'.defers/\
   ∀xS,R P aT S' xS->∃x,V aT v x/\(results fn a'.tmps).run P xS=.ok x xS
theorem wq {f:FuncId}{fn:Func}{c:Code}{ys:Array Value}{v:AV}{S':AH}(hf:P.funcs[f]?=some fn)(hb:fn.body=some c)
  (h:c.wpIn (FF none) 0 P (BR P ρ S w fn v S') {tmps:=ys++Array.replicate (fn.ntmps-ys.size) undef,defers:=[]} w):CallsIn Fence.wide 0 P f ys w (bI P ρ S w v S'):=by
 refine callsIn_of_wp_marks (F:=FF none) hf hb trivial (wpIn_mono h λe a1 w1 q=>?_);obtain⟨he,aT,h1,h2,h3,h4⟩:=q;have key:LeavesInM (FF none) 0 P fn a1.tmps (bI P ρ S w v S') a1.defers .returning w1:=by
  have:=mw (P:=P) (fn:=fn) (tmps:=a1.tmps) (Rr:=bI P ρ S w v S') (rest:=[]) a1.defers w1 h3 h1 h2 (λw' q1 q2 q3=>by
   obtain⟨x,g1,g2⟩:=h4 w' q1;exact⟨x,g2,x,aT,rfl,g1,q1,q2⟩)
  rwa[List.append_nil] at this
 rcases he with rfl|rfl<;>exact key
theorem rM {f:FuncId}{fn:Func}{c:Code}{ys:Array Value}{v:AV}{S':AH}{u:FrameMode}(hf:P.funcs[f]?=some fn)(hb:fn.body=some c)
  (h:c.wpIn (FF none) 0 P (BR P ρ S w fn v S') {tmps:=ys++Array.replicate (fn.ntmps-ys.size) undef,defers:=[]} w):
  CallsDIn Fence.wide 0 P f ys u w λe u' w'=>u'=u/\bI P ρ S w v S' e w':=by
 refine⟨trivial,λzY cs hu hr=>?_⟩;let b:Frame:={(default:Frame) with fn:=f,kind:=.deferred,roundOf:=none}
 have MP:Frame.enter P f ys .deferred=
   b.atR {tmps:=ys++Array.replicate (fn.ntmps-ys.size) undef,defers:=[]} [.code c]:=by
  simp[Frame.enter,Frame.atR,hf,hb,b]
 have hc:({zY with mode:=u}:Frame)=zY:=by subst hu;rfl
 obtain⟨e,a',w',hq,lR⟩:=h b [] (zY::cs) rfl trivial hr;rw[<-MP] at lR;obtain⟨he,aT,h1,h2,h3,h4⟩:=hq;have key:∀fr:Frame,fr.mode=.returning->fr.defers=a'.defers->fr.tmps=a'.tmps->fr.fn=f->fr.kind=.deferred->StepsIn (Machine.fenced P Fence.wide) P (lone (Frame.enter P f ys .deferred) (zY::cs) w) (lone fr (zY::cs) w')->
   ∃e u' w' fr,(u'=u/\bI P ρ S w v S' e w')/\
    ComesIn (Machine.fenced P Fence.wide) P (lone (Frame.enter P f ys .deferred) (zY::cs) w) (lone fr ({zY with mode:=u'}::cs) w') e/\fr.kind=.deferred/\fr.fn=f/\fr.going P w' e:=by
  intro fr g1 g2 g3 g4 g5 hs;obtain⟨w2,k1,k2,k3⟩:=sE a'.defers w' fr (zY::cs) h3 h1 h2 (by rw[g1];simp) g2;obtain⟨x,l1,l2⟩:=h4 w2 k1;refine⟨.returned x,u,w2,{fr with defers:=[]},⟨rfl,x,aT,rfl,l1,k1,k2⟩,?_,g5,g4,g1,rfl,fn,by rw[<-hf];exact congrArg _ g4,by simp only[g3];exact l2⟩;rw[hc];exact StepsIn.trans hs k3
 rcases he with rfl|rfl;.exact key {b.atR a' [] with mode:=.returning} rfl rfl rfl rfl rfl (StepsIn.trans lR (.one (fenced_calm (n:=0) (fr:=b.atR a' []) trivial (room_wide _) rfl) (stepR_end rfl)))
 .obtain⟨todo,hs⟩:=lR.1 rfl;exact key {b.atR a' todo with mode:=.returning} rfl rfl rfl rfl rfl hs
end
section
variable[kg]
variable{P:Program}{ρ:Ren}{F:Fr}{a:Act}{o:Oper}{S:AH}{w:World}
theorem VL.oneOf {vs:List AV}{xs:List Value}(h:VL ρ vs xs):V ρ (cO.oneOf vs) (if h:xs.toArray.size=1 then xs.toArray[0] else .tuple xs.toArray):=by
 cases h with
 |nil=>exact .dD .nil
 |cons h1 h2=>
  cases h2 with
  |nil=>simpa[cO.oneOf] using h1
  |cons h3 h4=>simpa[cO.oneOf] using V.dD (.cons h1 (.cons h3 h4))
theorem sF (P:Program){call:fw}{fuel:Nat}{S:AH}:∀(rs:List ResultVar) (i:Nat) (pre vs acc:List AV),rs.all ub=true->pre.length=i->vs.length=rs.length->
  run P call fuel (di P rs i (pre++vs) acc) S=some (.ret,acc++vs,S)
 |[],i,pre,vs,acc,_,hi,hl=>by
  have:vs=[]:=List.length_eq_zero_iff.1 (by simpa using hl);subst this;simp[di,Jw]
 |.tmp t::rs,i,pre,vs,acc,h,hi,hl=>by
  cases vs with
  |nil=>simp at hl
  |cons v vs=>
   have h':rs.all ub=true:=by simp only[List.all_cons,Bool.and_eq_true] at h;exact h.2
   have:=@sF P call fuel S rs (i+1) (pre++[v]) vs (acc++[v]) h' (by simp[hi]) (by simpa using hl);simp only[di];have e:nth (pre++v::vs) i=v:=BO (by rw[<-hi];simp);rw[e];simpa using this
 |.cell _ _::rs,_,_,_,_,h,_,_=>by simp[ub] at h
section
variable{call:fw}{fuel:Nat}
theorem k9 (fn:Func){F1:Fr}{jH:Ren}{S1:AH}{tmps:Array Value}{t:Tag}{vs:List AV}{S':AH}(hF:FR jH F1 tmps)
  (h:run P call fuel (di P fn.results.toList 0 (F1.outs (fn.results.toList.map ResultVar.slot)) []) S1=some (t,vs,S')) {w1:World} (hR:R P jH S1 w1):
  t=.ret/\S'=S1/\∃x,V jH (oneOf vs) x/\(results fn tmps).run P w1=.ok x w1:=by
 obtain⟨news,xs,h1,h2,h3,h4,h5⟩:=ya hR fn.results.toList 0 [] t vs S' (λj r hj=>by
  rw[Nat.zero_add,CW _ F1 j (ResultVar.slot r) (by simp[hj])];exact hF _) h
 refine⟨h1,h3,(if h:xs.toArray.size=1 then xs.toArray[0] else .tuple xs.toArray),?_,?_⟩;.rw[h2,List.nil_append];exact h4.oneOf
 .rw[BP,Sem.run_bind,Gr h5];simp only[Result.andThen_ok,Sem.run_pure]
theorem uG (cB:df P call){fn:Func}{c:Code}{vars:List Nat}{vs:List AV}{S':AH}(hb:fn.body=some c)(hd:fF c=false){args:List AV}{xs:List Value}(hx:VL ρ args xs)
  (h:run P call fuel (fU P fn vars args) S=some (.ret,vs,S')) (hR:R P ρ S w) (hlen:xs.length<=fn.ntmps\/True):
  c.wpIn (FF none) 0 P (BR P ρ S w fn (oneOf vs) S') {tmps:=xs.toArray++Array.replicate (fn.ntmps-xs.toArray.size) undef,defers:=[]} w:=by
 unfold fU at h;rw[hb] at h;simp only at h;cases bH:fits fn.ntmps c with
 |false=>rw[bH] at h;cases h
 |true=>
  rw[bH,hd] at h;simp only[Bool.not_true,Bool.false_eq_true,if_false] at h;have WM:FR ρ (Fr.fz .e (List.range (fn.params.size+fn.nfree)) 0 args) (xs.toArray++Array.replicate (fn.ntmps-xs.toArray.size) undef):=FR.args _ _ hx;have Gw:fits (xs.toArray++Array.replicate (fn.ntmps-xs.toArray.size) undef).size c=true:=wZ (by simp;omega) bH;have key:∃lS,run P call fuel (den P vars false none c (Fr.fz .e (List.range (fn.params.size+fn.nfree)) 0 args) (fn.results.toList.map ResultVar.slot) λF=>.ret .ret (F.outs (fn.results.toList.map ResultVar.slot))) S=some lS/\
    ∀P_ S0,(lS=(.ret,P_,S0))->(∃F1:Fr,P_=F1.outs (fn.results.toList.map ResultVar.slot))->run P call fuel (di P fn.results.toList 0 P_ []) S0=some (.ret,vs,S'):=by
   cases gT:fn.results.toList.all ub with
   |true=>
    rw[gT] at h;simp only[if_true] at h;refine⟨_,h,λP_ S0 e ⟨F1,e1⟩=>?_⟩;cases e;have:=sF P (S:=S') (call:=call) (fuel:=fuel) fn.results.toList 0 [] vs [] gT rfl (by rw[e1];simp[Fr.outs]);simpa using this
   |false=>
    rw[gT] at h;simp only[Bool.false_eq_true,if_false] at h;rw[tG] at h;unfold rD at h;cases hm:run P call fuel (den P vars false none c (Fr.fz .e (List.range (fn.params.size+fn.nfree)) 0 args) (fn.results.toList.map ResultVar.slot) λF=>.ret .ret (F.outs (fn.results.toList.map ResultVar.slot))) S with
    |none=>rw[hm] at h;cases h
    |some lS=>refine⟨lS,rfl,λP_ S0 e _=>?_⟩;subst e;rw[hm] at h;exact h
  obtain⟨lS,k1,k2⟩:=key;refine wpIn_mono (rL cB c false none _ _ _ S lS ρ _ w none (λ_=>rfl) k1 hR WM Gw) λe a1 w1 q=>?_;obtain⟨jH,S1,F1,ms,h1,h2,h3,h4,h5,h6,h7⟩:=q;have BS:a1.defers=ms:=by rw[h5];simp
  have fin:lS=(.ret,F1.outs (fn.results.toList.map ResultVar.slot),S1)->∃aT,R P aT S' w1/\Ext ρ S w aT S' w1/\Marks w.heap.size aT S' w1 a1.defers/\∀xS,R P aT S' xS->∃x,V aT (oneOf vs) x/\(results fn a1.tmps).run P xS=.ok x xS:=by intro e0;have hl:=k2 _ _ e0 ⟨F1,rfl⟩;obtain⟨_,rfl,_⟩:=k9 fn h2 hl h1;refine⟨jH,h1,h3,by rw[BS];exact h6,λxS WN=>?_⟩;exact(k9 fn h2 hl WN).2.2
  cases e with
  |normal=>exact⟨.inl rfl,fin (Option.some.inj h7).symm⟩
  |ret=>exact⟨.inr rfl,fin h7⟩
  |exit id=>
   exfalso;have e0:lS=(.exit (3*id),F1.outs (fn.results.toList.map ResultVar.slot),S1):=h7;subst e0;cases gT:fn.results.toList.all ub with
   |true=>
    rw[gT] at h;simp only[if_true] at h;rw[k1] at h;cases h
   |false=>
    rw[gT] at h;simp only[Bool.false_eq_true,if_false] at h;rw[tG] at h;unfold rD at h;rw[k1] at h;cases h
  |goto l=>exact(by cases h7.1)
  |panic ch=>exact h7.elim
  |outgrown=>exact h7.elim
end
end
section
variable[kg]
variable{P:Program}{ρ:Ren}{F:Fr}{a:Act}{o:Oper}{S:AH}{w:World}
section
variable{call:fw}{fuel:Nat}{gt:Option Nat}
theorem gR.mono {aT:Ren}(hl:ρ.le aT){f:AV}{args:List AV}{d:Deferred}(h:gR ρ f args d):gR aT f args d:=by
 rcases h with⟨fn,fa,fc,a',c',xs,e,h1,h2,h3,h4,h5⟩|⟨id,b,o,l,xs,e,h1,h2,h3,h4⟩|⟨m,xs,e,h1,h2,h3⟩;.exact .inl ⟨fn,fa,fc,a',c',xs,e,h1.mono hl,h2.mono hl,h3.mono hl,h4,h5⟩
 .exact .inr (.inl ⟨id,b,o,l,xs,e,hl _ _ h1,h2.mono hl,h3,h4⟩)
 .exact .inr (.inr ⟨m,xs,e,h1.mono hl,h2,h3⟩)
theorem bI.MQ {jH:Ren}{S1:AH}{w1:World}{v:AV}{S':AH}(hE:Ext ρ S w jH S1 w1){e:Ending}{w':World}(h:bI P jH S1 w1 v S' e w'):bI P ρ S w v S' e w':=by obtain⟨x,aT,e,h1,h2,h3⟩:=h;exact⟨x,aT,e,h1,h2,hE.trans h3⟩
theorem nJ (cB:df P call){vars:List Nat}{round:Bool}{ro:Option Nat}:∀(c:Code) (F:Fr) (K:Fr->AC) (S:AH) (res:Tag×List AV×AH) (ρ:Ren) (a:Act) (w:World) (Q:Exit->Act->World->Prop),dU c=true->
  run P call fuel (den P vars round gt c F [] K) S=some res->R P ρ S w->FR ρ F a.tmps->fits a.tmps.size c=true->
  (∀aT S' F' a' w',run P call fuel (K F') S'=some res->R P aT S' w'->FR aT F' a'.tmps->Ext ρ S w aT S' w'->a'.tmps.size=a.tmps.size->a'.defers=a.defers->Q .normal a' w')->
  c.wpIn (FF ro) 0 P Q a w:=by
 intro c;induction c with
 |skip=>intro F K S res ρ a w Q hs h hR hF bH hQ;exact wpIn_skip (hQ ρ S F a w h hR hF (Ext.refl _ _ _) rfl rfl)
 |label l=>intro F K S res ρ a w Q hs h hR hF bH hQ;exact wpIn_label (hQ ρ S F a w h hR hF (Ext.refl _ _ _) rfl rfl)
 |region id ops draw=>
  intro F K S res ρ a w Q hs h hR hF bH hQ;have s0:=uA bH;have qG:∀aT S' F' a' w',run P call fuel (K F') S'=some res->R P aT S' w'->FR aT F' a'.tmps->Ext ρ S w aT S' w'->dg (gJ (.region id ops draw) []) a a'->a'.defers=a.defers->Q .normal a' w':=
   λaT S' F' a' w' k1 k2 k3 k4 k5 k6=>hQ aT S' F' a' w' k1 k2 k3 k4 k5.size k6
  simp only[den] at h;cases hp:pn P ops draw with
  |none=>rw[hp] at h;cases h
  |some p=>
   rw[hp] at h;simp only at h;cases draw with
   |true=>exact uz cB hp h hR hF s0 qG
   |false=>
    unfold pn at hp;simp only[Bool.false_eq_true,if_false] at hp;cases hp;exact wpIn_region (pE cB (λi o d h1 h2=>(s0 i o d h1 h2).2) _ F [] a w ρ S h hR hF (λi o d h1 h2=>(s0 i o d h1 h2).1) qG)
 |seq x y x_ wo=>
  intro F K S res ρ a w Q hs h hR hF bH hQ;simp only[dU,Bool.and_eq_true] at hs;simp only[den] at h;simp only[fits,Bool.and_eq_true] at bH;refine wpIn_seq (x_ F _ S res ρ a w _ hs.1 h hR hF bH.1 λjH S1 F1 a1 w1 k1 k2 k3 k4 k5 k6=>?_);exact wo F1 K S1 res jH a1 w1 Q hs.2 k1 k2 k3 (by rw[k5];exact bH.2) λx9 S2 F2 a2 w2 l1 l2 l3 l4 l5 l6=>hQ x9 S2 F2 a2 w2 l1 l2 l3 (k4.trans l4) (l5.trans k5) (l6.trans k6)
 |_=>intro F K S res ρ a w Q hs;simp[dU] at hs
theorem uH {ops:Array Oper}{c:Call}(h:lJ ops=some c):∃o,ops[ops.size-1]?=some o/\o.guard=none/\o.dst=none/\o.op=.defer c/\List.range ops.size=List.range (ops.size-1)++[ops.size-1]:=by
 unfold lJ at h;cases hb:ops.back? with
 |none=>rw[hb] at h;cases h
 |some o=>
  rw[hb] at h;simp only at h;rw[Array.back?_eq_getElem?] at hb;have cA:=(Array.getElem?_eq_some_iff.1 hb).1;cases hg:o.guard with
  |some _=>rw[hg] at h;cases h
  |none=>
   cases hd:o.dst with
   |some _=>rw[hg,hd] at h;cases h
   |none=>
    rw[hg,hd] at h;simp only at h;cases ho:o.op with
    |defer c'=>
     rw[ho] at h;cases h;refine⟨o,hb,hg,hd,ho,?_⟩;rw[<-List.range_succ];congr 1;omega
    |_=>rw[ho] at h;cases h
theorem eK {ops:Array Oper}{Q:Exit->Act->World->Prop}{j:Nat}{c:Call}{o:Oper}(ho:ops[j]?=some o)(hg:o.guard=none)(wc:o.op=.defer c):∀(l:List Nat) (a:Act) (w:World),
  wpOpsIn (FF none) 0 P ops (λe a' w'=>e=.normal/\∃d,(resolve a'.eval c o.type).run P w'=.ok d w'/\Q .normal ({a' with defers:=d::a'.defers}.put o.dst undef) w') l a w->wpOpsIn (FF none) 0 P ops Q (l++[j]) a w
 |[],a,w,h=>by
  obtain⟨_,d,h1,h2⟩:=h;show wpOpsIn (FF none) 0 P ops Q [j] a w;simp only[wpOpsIn,ho,Region.wanted,hg,if_true];refine⟨λ_ _=>trivial,?_⟩;have hs:o.semAt (FF none).round a.eval=execOp a.eval o:=rfl;have hex:execOp a.eval o=(do pure (.defer (<-resolve a.eval c o.type))):=by simp[execOp,wc]
  rw[hs,hex,Sem.run_bind,h1,Result.andThen_ok,Sem.run_pure];exact h2
 |i::l,a,w,h=>by
  show wpOpsIn (FF none) 0 P ops Q (i::(l++[j])) a w;simp only[wpOpsIn] at h⊢;cases hi:ops[i]? with
  |none=>rw[hi] at h;exact eK ho hg wc l a w h
  |some oi=>
   rw[hi] at h;simp only at h⊢;split
   .rename_i hw;rw[if_pos hw] at h;refine⟨h.1,?_⟩;have h2:=h.2;clear h;generalize(oi.semAt (FF none).round a.eval).run P w=r at h2⊢;cases r with
    |ok nx w'=>
     cases nx with
     |value v=>exact eK ho hg wc l _ _ h2
     |skip=>exact eK ho hg wc l _ _ h2
     |defer d=>exact eK ho hg wc l _ _ h2
     |enter f args=>
      refine⟨h2.1,CallsIn.mono h2.2 λe xS q=>?_⟩;cases e with
      |returned v=>exact eK ho hg wc l _ _ q
      |panicked ch=>exact absurd q.1 ac
      |outgrown=>obtain⟨_,_,q⟩:=q;exact absurd q.1 ac
     |row r args=>exact⟨h2.1,RowsIn.mono h2.2 λv xS q=>eK ho hg wc l _ _ q⟩
     |round l' f tmps wk body=>
      refine⟨h2.1,RoundIn.mono h2.2 λe xS q=>?_⟩;cases e with
      |returned v=>exact eK ho hg wc l _ _ q
      |panicked ch=>exact absurd q.1 ac
      |outgrown=>obtain⟨_,_,q⟩:=q;exact absurd q.1 ac
     |_=>exact h2.elim
    |halt x w'=>
     cases x with
     |panic v=>exact absurd h2.1 ac
     |_=>exact h2.elim
   .rename_i hw;rw[if_neg hw] at h;exact⟨h.1,eK ho hg wc l _ _ h.2⟩
end
end
section
variable[kg]
variable{P:Program}{ρ:Ren}{F:Fr}{a:Act}{o:Oper}{S:AH}{w:World}
section
variable{call:fw}{fuel:Nat}
def C4 (P:Program)(vars:List Nat)(rs:List ResultVar)(out:List Nat)(b:Code)(c:Call)(F1:Fr):AC:=
 match c.callee with
 |.value f=>match F1.ev f with
  |.fn (.func g) fa fc=>
   if fq P g then .fin (den P vars false none b F1 out λF=>.ret .ret (F.outs out)) λvs=>
    .call (.fn (.func g) fa fc) (c.args.toList.map F1.ev) λ_=>di P rs 0 vs []
   else .fail
  |_=>.fail
 |_=>.fail
theorem Ed {vars:List Nat}{rs:List ResultVar}{out:List Nat}{x b:Code}{F:Fr}{ops:Array Oper}{c:Call}(h:iG x=some (ops,c)):
  oI P vars rs out (.seq x b) F=az P ops ((List.range (ops.size-1)).map .exec) F [] (C4 P vars rs out b c):=by
 simp only[oI,h];rfl
theorem Ee {vars:List Nat}{rs:List ResultVar}{out:List Nat}{x b:Code}{F:Fr}(h:iG x=none):
  oI P vars rs out (.seq x b) F=if dU x then den P vars false none x F [] λF1=>oI P vars rs out b F1 else .fail:=by
 simp only[oI,h]
theorem eB {Fe:Fence}{n:Nat}{fn:Func}{tmps:Array Value}{R R':Ending->World->Prop}(hm:∀e w,R e w->R' e w):∀(ds:List Deferred) (u:FrameMode) (w:World),LeavesInM Fe n P fn tmps R ds u w->LeavesInM Fe n P fn tmps R' ds u w
 |[],.returning,w,h=>let⟨v,h1,h2⟩:=h;⟨v,h1,hm _ _ h2⟩
 |[],.panicking ch,w,h=>hm _ _ h
 |[],.run,w,h=>h
 |d::ds,u,w,h=>by
  refine⟨h.1,?_⟩;rcases h.2 with⟨r,w',h1,h2,h3⟩|⟨h1,fv,cap,f,args,h2,h3,h4,h5⟩;.exact .inl ⟨r,w',h1,h2,eB hm ds u w' h3⟩
  .refine .inr ⟨h1,fv,cap,f,args,h2,h3,h4,CallsDIn.mono h5 λe u' w' q=>?_⟩;cases e with
   |returned v=>exact eB hm ds _ w' q
   |panicked ch=>exact eB hm ds _ w' q
   |outgrown=>exact hm _ _ q
theorem uI {Fe:Fence}{n:Nat}{fn:Func}{R R':Ending->World->Prop}(hm:∀e w,R e w->R' e w){e:Exit}{a:Act}{w:World}(h:bodyPostM Fe n P fn R e a w):bodyPostM Fe n P fn R' e a w:=by
 cases e with
 |normal=>exact eB hm _ _ _ h
 |ret=>exact eB hm _ _ _ h
 |panic ch=>exact eB hm _ _ _ h
 |outgrown=>exact hm _ _ h
 |exit i=>exact h
 |goto l=>exact h
theorem BT (cB:df P call)(BS:pH P call){vars:List Nat}{fn:Func}{vs:List AV}{S':AH}:∀(c:Code) (F:Fr) (S:AH) (ρ:Ren) (a:Act) (w:World),
  run P call fuel (oI P vars fn.results.toList (fn.results.toList.map ResultVar.slot) c F) S=some (.ret,vs,S')->R P ρ S w->FR ρ F a.tmps->fits a.tmps.size c=true->a.defers=[]->
  c.wpIn (FF none) 0 P (bodyPostM (FF none) 0 P fn (bI P ρ S w (oneOf vs) S')) a w:=by
 intro c;induction c with
 |seq x b x_ U4=>
  intro F S ρ a w h hR hF bH Qa;simp only[fits,Bool.and_eq_true] at bH;cases CT:iG x with
  |none=>
   rw[Ee CT] at h;cases hs:dU x with
   |false=>rw[hs] at h;cases h
   |true=>
    rw[hs] at h;simp only[if_true] at h;refine wpIn_seq (nJ cB x F _ S _ ρ a w _ hs h hR hF bH.1 λjH S1 F1 a1 w1 k1 k2 k3 k4 k5 k6=>?_);refine wpIn_mono (U4 F1 S1 jH a1 w1 k1 k2 k3 (by rw[k5];exact bH.2) (by rw[k6,Qa])) λe a2 w2 q=>?_;have hm:∀(e:Ending) w',bI P jH S1 w1 (oneOf vs) S' e w'->bI P ρ S w (oneOf vs) S' e w':=λe w' q=>q.MQ k4;exact uI hm q
  |some q=>
   obtain⟨ops,c⟩:=q;rw[Ed CT] at h;cases x with
   |region id MR dr=>
    cases dr with
    |true=>simp[iG] at CT
    |false=>
     have WO:MR=ops/\lJ ops=some c:=by
      simp only[iG] at CT;cases hl:lJ MR with
      |none=>rw[hl] at CT;cases CT
      |some c'=>rw[hl] at CT;cases CT;exact⟨rfl,hl⟩
     obtain⟨rfl,WO⟩:=WO;obtain⟨o,ho,hg,WQ,wc,MS⟩:=uH WO;have s0:=uA bH.1;refine wpIn_seq (wpIn_region ?_);rw[MS];refine eK ho hg wc _ a w ?_;refine pE cB (W:=gJ (.region id MR false) []) (λi o d h1 h2=>(s0 i o d h1 h2).2) _ F [] a w ρ S h hR hF (λi o d h1 h2=>(s0 i o d h1 h2).1) λjH S1 F1 a1 w1 k1 k2 k3 k4 k5 k6=>?_;refine⟨rfl,?_⟩;unfold C4 at k1;cases cz:c.callee with
     |value f=>
      rw[cz] at k1;simp only at k1;have hfv:=av k3 f;cases z6:F1.ev f with
      |fn g fa fc=>
       rw[z6] at k1;cases g with
       |func g=>
        simp only at k1;cases oP:fq P g with
        |false=>rw[oP] at k1;cases k1
        |true=>
         rw[oP] at k1;simp only[if_true] at k1;obtain⟨d,rH,mY⟩:=kV (P:=P) (c:=c) (f:=.fn (.func g) fa fc) rfl cz (z6▸hfv) (jF k3 c.args.toList) o.type;refine⟨d,rH w1,?_⟩;rw[tG] at k1;unfold rD at k1;cases hm:run P call fuel (den P vars false none b F1 (fn.results.toList.map ResultVar.slot) λF=>.ret .ret (F.outs (fn.results.toList.map ResultVar.slot))) S1 with
         |none=>rw[hm] at k1;cases k1
         |some lS=>
          rw[hm] at k1;have hFd:FR jH F1 (({a1 with defers:=d::a1.defers}:Act).put o.dst undef).tmps:=by rw[WQ];exact k3
          have dC:(({a1 with defers:=d::a1.defers}:Act).put o.dst undef).tmps.size=a.tmps.size:=by rw[uj];exact k5.size
          show Code.wpIn (FF none) 0 P b _ _ w1;refine wpIn_mono (rL cB b false none F1 _ _ S1 lS jH _ w1 none (λ_=>rfl) hm k2 hFd (by rw[dC];exact bH.2)) λe a2 w2 q=>?_;obtain⟨x9,S2,F2,ms,h1,h2,h3,h4,h5,h6,h7⟩:=q;have hdf:a2.defers=ms++[d]:=by rw[h5,put_defers];simp[k6,Qa]
          have fin:lS=(.ret,F2.outs (fn.results.toList.map ResultVar.slot),S2)->LeavesInM (FF none) 0 P fn a2.tmps (bI P ρ S w (oneOf vs) S') a2.defers .returning w2:=by intro e0;subst e0;simp only at k1;rw[nF] at k1;obtain⟨v,S3,g1,g2⟩:=gB k1;rw[hdf];refine mw (i7:=jH) (S0:=S1) (w0:=w1) ms w2 h6 h1 h3 λw3 j1 j2 j3=>?_;obtain⟨cap,ys,l1,l2,l3⟩:=BS.ok g1 oP j1 (mY.mono h3.wa);refine⟨ac,.inr ⟨λh=>by simp[FF] at h,.func g,cap,g,ys,l1,l2,λ_ _=>trivial,?_⟩⟩;refine CallsDIn.mono (l3 .returning ac) λe u' w4 hq=>?_;obtain⟨rfl,x,Gn,rfl,m1,m2,m3⟩:=hq;have hF3:FR Gn F2 a2.tmps:=h2.mono m3.wa;obtain⟨_,hS,y,n1,n2⟩:=k9 fn hF3 g2 m2;subst hS;show LeavesInM (FF none) 0 P fn a2.tmps _ [] (settle .returning) w4;exact⟨y,n2,y,Gn,rfl,n1,m2,k4.trans (j2.trans m3)⟩
          cases e with
          |normal=>exact fin (Option.some.inj h7).symm
          |ret=>exact fin h7
          |exit i=>
           have e0:lS=(.exit (3*i),F2.outs (fn.results.toList.map ResultVar.slot),S2):=h7;subst e0;cases k1
          |goto l=>exact(by cases h7.1)
          |panic ch=>exact h7.elim
          |outgrown=>exact h7.elim
       |_=>cases k1
      |_=>rw[z6] at k1;cases k1
     |_=>rw[cz] at k1;cases k1
   |_=>simp[iG] at CT
 |_=>intro F S ρ a w h;simp only[oI] at h;cases h
end
end
section
variable[kg]
variable{P:Program}{ρ:Ren}{F:Fr}{a:Act}{o:Oper}{S:AH}{w:World}
def z7 (P:Program)(iP:Table):Prop:=∀f b,iP f=some b->∃fn vars,P.funcs[f]?=some fn/\(fn.name== "runtime.NumGoroutine")=false/\b=fU P fn vars
theorem uJ {call:fw}{fuel:Nat}{fn:Func}{vars:List Nat}{args:List AV}{r:Tag×List AV×AH}(h:run P call fuel (fU P fn vars args) S=some r):∃c,fn.body=some c/\fits fn.ntmps c=true:=by
 unfold fU at h;cases hb:fn.body with
 |none=>rw[hb] at h;cases h
 |some c=>
  rw[hb] at h;simp only at h;cases hf:fits fn.ntmps c with
  |true=>exact⟨c,rfl,hf⟩
  |false=>rw[hf] at h;cases h
theorem my {g:FuncId}{fn:Func}{c:Code}{args:Array Value}(hf:P.funcs[g]?=some fn)(hn:(fn.name== "runtime.NumGoroutine")=false)(hb:fn.body=some c):
  (callFunc g args).run P w=.ok (.enter g args) w:=by
 have iH:¬fn.name= "runtime.NumGoroutine":=by simpa using hn
 simp[callFunc,Sem.run_bind,program,Sem.run,hf,Result.andThen,iH,hb]
theorem z8 {call:fw}{fuel:Nat}(cB:df P call)(BS:pH P call){g:FuncId}{fn:Func}{vars:List Nat}{args vs:List AV}{xs:List Value}{S':AH}(hf:P.funcs[g]?=some fn)
  (hx:VL ρ args xs) (h:run P call fuel (fU P fn vars args) S=some (.ret,vs,S')) (hR:R P ρ S w):CallsIn Fence.wide 0 P g xs.toArray w (bI P ρ S w (oneOf vs) S'):=by
 obtain⟨c,hb,bH⟩:=uJ h;cases hd:fF c with
 |false=>exact wq hf hb (uG cB hb hd hx h hR (.inr trivial))
 |true=>have WM:FR ρ (Fr.fz .e (List.range (fn.params.size+fn.nfree)) 0 args) (xs.toArray++Array.replicate (fn.ntmps-xs.toArray.size) undef):=FR.args _ _ hx;have Gw:fits (xs.toArray++Array.replicate (fn.ntmps-xs.toArray.size) undef).size c=true:=wZ (by simp;omega) bH;unfold fU at h;rw[hb] at h;simp only[bH,hd,Bool.not_true,Bool.false_eq_true,if_false,if_true] at h;exact callsIn_of_wp_marks (F:=FF none) hf hb trivial (BT cB BS c _ S ρ {tmps:=xs.toArray++Array.replicate (fn.ntmps-xs.toArray.size) undef,defers:=[]} w h hR WM Gw rfl)
theorem FR.fold {n:Nat}:∀(ps:List Nat) (xs:List Value) (F:Fr) (tmps:Array Value) (i:Nat) (vs:List AV),FR ρ F tmps->ps.length=xs.length->(∀p∈ps,p<tmps.size)->(∀j,V ρ (nth vs (i+j)) (xs.getD j undef))->
  FR ρ (F.fz ps i vs) ((ps.zip xs).foldl (λt (p:Nat×Value)=>t.setIfInBounds p.1 p.2) tmps)/\((ps.zip xs).foldl (λt (p:Nat×Value)=>t.setIfInBounds p.1 p.2) tmps).size=tmps.size
 |[],xs,F,tmps,i,vs,hF,hl,hp,hv=>⟨hF,rfl⟩
 |p::ps,[],F,tmps,i,vs,hF,hl,hp,hv=>by simp at hl
 |p::ps,x::xs,F,tmps,i,vs,hF,hl,hp,hv=>by
  simp only[List.zip_cons_cons,List.foldl_cons,Fr.fz];have h1:FR ρ (T.set F p (nth vs i)) (tmps.setIfInBounds p x):=by have:=FR.put (a:={tmps:=tmps,defers:=[]}) hF (d:=some p) (v:=nth vs i) (x:=x) (hv 0) (λe he=>by cases he;exact hp p ac);exact this
  obtain⟨q1,q2⟩:=FR.fold (n:=n) ps xs _ (tmps.setIfInBounds p x) (i+1) vs h1 (by simpa using hl) (λq hq=>by rw[Array.size_setIfInBounds];exact hp q (by simp[hq])) (λj=>by
   have:=hv (j+1);simpa[show i+(j+1)=i+1+j by omega] using this)
  exact⟨q1,by rw[q2,Array.size_setIfInBounds]⟩
theorem z_ {call:fw}{fuel:Nat}(cB:df P call){l:Nat}{dE:Option Tag}{m:Nat}{body:List AV->AC}{args:List AV}{xs:List Value}{b o len:Nat}{t:Tag}{vs:List AV}{S':AH}{v:AV}{S2:AH}
  (hR:R P ρ S w) (hl:ρ l=some (b,o,len)) (hg:S.get l=some (.loop .ready dE m body)) (hx:VL ρ args xs) (hlen:args.length=m)
  (h:run P call fuel (body (.yd l::args)) S=some (t,vs,S')) {p2:Option Tag} {m2:Nat} {b2:List AV->AC} (Ef:S'.get l=some (.loop .busy p2 m2 b2))
  (hv:(t=.normal/\v=.sc (.bool true)/\S2=S'.set l (.loop .ready none m2 b2))\/(t≠.normal/\v=.sc (.bool false)/\S2=S'.set l (.loop .done (some t) m2 b2))):
  ∃g tmps wk bd,(Instr.yield b xs.toArray).run P w=.ok (.round b g tmps wk bd) w/\RoundIn Fence.wide 0 P b g tmps wk bd w (bI P ρ S w v S2):=by
 obtain⟨r,g1,g2,g3,g4,F0,vars,l1,l2,l3,l4,l5,l6⟩:=hR.iQ hg hl;have Q_:xs.length=r.params.size:=by rw[g4,<-hlen];exact hx.length.symm
 refine⟨r.fn,_,r.assign,r.body,run_yield g1 (by simpa using Q_),?_⟩;have Rk:(r.params.zip xs.toArray).foldl (λtmps (x:Tmp×Value)=>tmps.setIfInBounds x.1 x.2) r.tmps=(r.params.toList.zip xs).foldl (λt (p:Nat×Value)=>t.setIfInBounds p.1 p.2) r.tmps:=by rw[<-Array.foldl_toList,Array.toList_zip]
 have MT:(r.params.zip xs.toArray).foldl (λtmps (x:Tmp×Value)=>match x with|(t,a)=>tmps.setIfInBounds t a) r.tmps=(r.params.toList.zip xs).foldl (λt (p:Nat×Value)=>t.setIfInBounds p.1 p.2) r.tmps:=Rk;have Gp:=FR.fold (n:=0) r.params.toList xs F0 r.tmps 1 (.yd l::args) l1 (by simpa using Q_.symm) l5 (λj=>by
  rw[Nat.add_comm];exact hx.WK j)
 rw[l6] at h;rw[MT];generalize(r.params.toList.zip xs).foldl (λt (p:Nat×Value)=>t.setIfInBounds p.1 p.2) r.tmps=tm at Gp⊢;obtain⟨Gp,dC⟩:=Gp;refine roundIn_of_wpIn (F:=Fence.wide) trivial ?_;show Code.wpIn (FF (some b)) 0 P r.assign _ _ w;refine nJ (ro:=some b) cB r.assign _ _ S _ ρ {tmps:=tm,defers:=[]} w _ l2 h hR Gp (by simp only[dC];exact l3) λjH S1 F1 a1 w1 k1 k2 k3 k4 k5 k6=>?_;have Ll:=k4.wa _ _ hl;rw[wY] at k1;unfold qo at k1;have U1:nth (AV.yd l::args) 0=.yd l:=rfl;rw[U1] at k1;simp only at k1;cases U7:S1.get l with
 |none=>rw[U7] at k1;cases k1
 |some ob=>
  rw[U7] at k1;cases ob with
  |loop st pd n1 bd1=>
   cases st with
   |ready=>
    simp only at k1;obtain⟨r1,m1,m2',m3,m4,m5⟩:=k2.iQ U7 Ll;refine⟨w1.putObj b (.loop {r1 with state:=.busy}),run_beginRound m1 m2',?_⟩;have cA:=(Array.getElem?_eq_some_iff.1 m1).1;obtain⟨hR2,Fi⟩:=k2.set (w':=w1.putObj b (.loop {r1 with state:=.busy})) U7 rfl Ll ⟨rfl,rfl,rfl⟩ World.putObj_size (λk hk=>World.putObj_heap_other hk)
     (sY:=.loop .busy pd n1 bd1) ⟨{r1 with state:=.busy},World.putObj_heap_same cA,rfl,m3,m4,m5⟩ rfl
    show Code.wpIn (FF (some b)) 0 P r.body _ a1 _;refine wpIn_mono (rL cB r.body true none F1 [] _ _ _ jH a1 _ (some b) (λe=>by cases e) k1 hR2 k3 (by simp only[k5,dC];exact l4)) λe a3 w3 q=>?_;obtain⟨Gn,S3,F3,ms,WR,n2,n3,n4,n5,n6,n7⟩:=q;have WS:Ext ρ S w Gn S3 w3:=k4.trans (Fi.trans n3);have WT:=WS.wa _ _ hl;have fin:(t,vs,S')=(t,vs,S3)->∀jump,(t=.normal/\jump=none\/t≠.normal/\∃j,jump=some j/\La (some t) (some j))->∃v' w',(Instr.endRound b jump).run P w3=.ok v' w'/\bI P ρ S w v S2 (.returned v') w':=by
     intro e0 jump hj;have e1:S'=S3:=by injection e0 with _ e0;injection e0
     rw[e1] at Ef hv;obtain⟨r3,p1,p2',p3,p4,p5⟩:=WR.iQ Ef WT;have Rm:=(Array.getElem?_eq_some_iff.1 p1).1;refine⟨_,_,run_endRound jump p1,?_⟩;rcases hv with⟨ht,rfl,rfl⟩|⟨ht,rfl,rfl⟩
     .rcases hj with⟨_,rfl⟩|⟨fI,_⟩
      .obtain⟨P8,MK⟩:=WR.set (w':=w3.putObj b (.loop {r3 with state:=.ready,pending:=none})) Ef rfl WT ⟨rfl,rfl,rfl⟩ World.putObj_size (λk hk=>World.putObj_heap_other hk)
        (sY:=.loop .ready none m2 b2) ⟨{r3 with state:=.ready,pending:=none},World.putObj_heap_same Rm,rfl,trivial,p4,p5⟩ rfl
       exact⟨_,Gn,rfl,.sc rfl,P8,WS.trans MK⟩
      .exact absurd ht fI
     .rcases hj with⟨he,_⟩|⟨_,j,rfl,hp⟩;.exact absurd he ht
      .obtain⟨P8,MK⟩:=WR.set (w':=w3.putObj b (.loop {r3 with state:=.done,pending:=some j})) Ef rfl WT ⟨rfl,rfl,rfl⟩ World.putObj_size (λk hk=>World.putObj_heap_other hk)
        (sY:=.loop .done (some t) m2 b2) ⟨{r3 with state:=.done,pending:=some j},World.putObj_heap_same Rm,rfl,hp,p4,p5⟩ rfl
       exact⟨_,Gn,rfl,.sc rfl,P8,WS.trans MK⟩
    cases e with
    |normal=>
     have e0:(t,vs,S')=(Tag.normal,[],S3):=(Option.some.inj n7).symm;injection e0 with e1 e2;injection e2 with e2 e3;subst e1 e2 e3;exact fin rfl none (.inl ⟨rfl,rfl⟩)
    |exit i=>
     have e0:(t,vs,S')=(Tag.exit (3*i),[],S3):=n7;injection e0 with e1 e2;injection e2 with e2 e3;subst e1 e2 e3;exact fin rfl _ (.inr ⟨ac,_,rfl,rfl⟩)
    |ret=>
     have e0:(t,vs,S')=(Tag.ret,[],S3):=n7;injection e0 with e1 e2;injection e2 with e2 e3;subst e1 e2 e3;exact fin rfl _ (.inr ⟨ac,_,rfl,trivial⟩)
    |goto l=>exact(by cases n7.1)
    |panic ch=>exact n7.elim
    |outgrown=>exact n7.elim
   |_=>cases k1
  |_=>cases k1
end
section
variable[kg]
variable{P:Program}{ρ:Ren}{F:Fr}{a:Act}{o:Oper}{S:AH}{w:World}
theorem BU {t:TypeId}{v r:AV}{name:String}{f:FuncId}{x:Value}{n:Nat}(h:methodOf P t v name=some (f,r)):r=v/\(method (n+1) t x name).run P w=.ok (f,x) w:=by
 unfold methodOf at h;cases hi:P.info? t with
 |none=>rw[hi] at h;cases h
 |some i=>
  rw[hi] at h;simp only at h;cases hm:i.methods.find? (·.name==name) with
  |none=>rw[hm] at h;cases h
  |some m=>
   rw[hm] at h;simp only at h;cases hp:m.path.isEmpty with
   |false=>rw[hp] at h;cases h
   |true=>
    rw[hp] at h;simp only[if_true] at h;have oP:m.path.toList=[]:=by simpa using hp
    cases WU:m.func with
    |none=>rw[WU] at h;cases h
    |some q=>
     obtain⟨f',pr⟩:=q;rw[WU] at h;cases hu:P.underlying t with
     |none=>rw[hu] at h;cases pr<;>cases h
     |some u=>
      rw[hu] at h;have key:r=v/\f'=f/\(receiverAt t (.val x) pr (some ((name.splitOn ".").getLastD name))).run P w=.ok x w:=by
       cases u<;>cases pr<;>simp at h<;>(obtain⟨rfl,rfl⟩:=h;refine⟨rfl,rfl,?_⟩;simp[receiverAt,Sem.run_bind,run_underlying hu,Result.andThen,Place.get])
      obtain⟨rfl,rfl,WV⟩:=key;refine⟨rfl,?_⟩;have hti:(typeInfo t).run P w=.ok i w:=by simp[typeInfo,Sem.run_bind,program,Sem.run,hi,Result.andThen]
      simp only[method,Sem.run_bind,hti,Result.andThen_ok,hm,oP,follow,Sem.run_pure,WU,hp,if_true,WV]
theorem VL.Rp:∀{a b:List AV} {xs ys:List Value},VL ρ a xs->VL ρ b ys->VL ρ (a++b) (xs++ys)
 |[],_,_,_,.nil,k=>k
 |_::_,_,_,_,.cons h1 h2,k=>.cons h1 (VL.Rp h2 k)
theorem VL.app {a b:List AV}{xs ys:List Value}(h:VL ρ a xs)(k:VL ρ b ys):VL ρ (jq a b) (xs++ys):=by rw[ft];exact h.Rp k
def Gx (P:Program)(kn:FuncId->List AV->Option AV):Prop:=∀f args v,kn f args=some v->∀ρ S w xs,R P ρ S w->VL ρ args xs->
 (callFunc f xs.toArray).run P w=.ok (.enter f xs.toArray) w/\CallsIn Fence.wide 0 P f xs.toArray w (bI P ρ S w v S)/\
 (fq P f=true->∀u,u≠.run->CallsDIn Fence.wide 0 P f xs.toArray u w λe u' w'=>u'=u/\bI P ρ S w v S e w')
def Ly (P:Program)(x:FuncId->Option (List AV->AH->Option (AV×AH))):Prop:=∀f g,x f=some g->∃fn c,P.funcs[f]?=some fn/\(fn.name== "runtime.NumGoroutine")=false/\fn.body=some c/\Nat.ble fn.params.size 2=false/\
 ∀args v S S',g args S=some (v,S')->∀ρ w xs,R P ρ S w->VL ρ args xs->CallsIn Fence.wide 0 P f xs.toArray w (bI P ρ S w v S')
structure Gy (P:Program)(kn:qu):Prop where
 v:Gx P kn.v
 x:Ly P kn.x
def MU:qu:=⟨λ_ _=>none,λ_=>none⟩
theorem Gz:Gx P λ_ _=>none:=λ_ _ _ h=>by cases h
theorem GA:Ly P λ_=>none:=λ_ _ h=>by cases h
theorem C5:Gy P MU:=⟨Gz,GA⟩
theorem kG {iP:Table}{kn:qu}(hT:z7 P iP)(hk:Gy P kn):∀n,df P (ck P iP kn n)/\pH P (ck P iP kn n)
 |0=>⟨⟨λh=>by simp[ck] at h,λh=>by simp[ck] at h⟩,⟨λh=>by simp[ck] at h⟩⟩
 |n+1=>by
  obtain⟨cB,BS⟩:=kG hT hk n;have Rq:∀{g fa fc args S v S' ρ w d},ck P iP kn (n+1) (.fn (.func g) fa fc) args S=some (v,S')->R P ρ S w->gR ρ (.fn (.func g) fa fc) args d->
    ∃cap ys,d.target=.fn (.func g) cap/\(invoke d.target d.args).run P w=.ok (.enter g ys) w/\CallsIn Fence.wide 0 P g ys w (bI P ρ S w v S')/\
     (fq P g=true->∀u,u≠.run->CallsDIn Fence.wide 0 P g ys u w λe u' w'=>u'=u/\bI P ρ S w v S' e w'):=by
   intro g fa fc args S v S' ρ w d h hR mY;rcases mY with⟨f',ZY,ZZ,a',c',xs,e,k1,k2,k3,k4,k5⟩|⟨_,_,_,_,_,e,_⟩|⟨_,_,e,_⟩
   .cases e;have hV:=k1.app (k3.app k2);have hinv:(invoke d.target d.args).run P w=(callFunc g (a'++(xs++c')).toArray).run P w:=by rw[k4,k5];show(callFunc g _).run P w=_;simp
    refine⟨c'.toArray,(a'++(xs++c')).toArray,k4,?_⟩;rw[hinv];simp only[ck] at h;cases Rt:kn.v g (jq fa (jq args fc)) with
    |some v0=>
     rw[Rt] at h;cases h;exact hk.v _ _ _ Rt _ _ _ _ hR hV
    |none=>
     rw[Rt] at h;simp only at h;cases hb:iP g with
     |none=>
      rw[hb] at h;simp only at h;cases hx:kn.x g with
      |none=>rw[hx] at h;cases h
      |some q=>
       rw[hx] at h;simp only at h;obtain⟨fn,c,h1,h2,h3,h4,h5⟩:=hk.x g q hx;refine⟨my h1 h2 h3,h5 _ _ _ _ h _ _ _ hR hV,λoP=>?_⟩;unfold fq at oP;rw[h1] at oP;simp only[h3,h4,Bool.and_false] at oP;cases oP
     |some b=>
      rw[hb] at h;simp only at h;obtain⟨fn,vars,h1,h2,rfl⟩:=hT g b hb;cases hr:run P (ck P iP kn n) n (fU P fn vars (jq fa (jq args fc))) S with
      |none=>rw[hr] at h;cases h
      |some q=>
       obtain⟨t,vs,S1⟩:=q;rw[hr] at h;cases t with
       |ret=>
        cases h;obtain⟨c,Jj,_⟩:=uJ hr;refine⟨my h1 h2 Jj,z8 cB BS h1 hV hr hR,λoP u hu=>?_⟩;have hd:fF c=false:=by unfold fq at oP;rw[h1] at oP;simp only[Jj,Bool.and_eq_true] at oP;simpa using oP.1
        exact rM h1 Jj (uG cB Jj hd hV hr hR (.inr trivial))
       |_=>cases h
   .cases e
   .cases e
  refine⟨⟨λ{f args S r} h=>?_,λ{f args S v S' ρ w d} h hR mY=>?_⟩,⟨λ{g fa fc args S v S' ρ w d} h oP hR mY=>?_⟩⟩
  ·
   cases f with
   |fn f a b=>
    cases f with
    |func f=>rfl
    |method m=>
     cases a with
     |nil=>cases b with
      |nil=>rfl
      |cons _ _=>simp[ck] at h
     |cons _ _=>simp[ck] at h
    |_=>simp[ck] at h
   |yd l=>rfl
   |_=>simp[ck] at h
  .have hc:gS f=true:=by
    cases f with
    |fn f a b=>
     cases f with
     |func f=>rfl
     |method m=>
      cases a with
      |nil=>cases b with
       |nil=>rfl
       |cons _ _=>simp[ck] at h
      |cons _ _=>simp[ck] at h
     |_=>simp[ck] at h
    |yd l=>rfl
    |_=>simp[ck] at h
   cases f with
   |fn f fa fc=>
    cases f with
    |func g=>
     obtain⟨cap,ys,h1,h2,h3,_⟩:=Rq h hR mY;exact .inl ⟨g,ys,h2,h3⟩
    |method name=>
     have hn:fa=[]/\fc=[]:=by
      cases fa<;>cases fc<;>simp[gS] at hc
      exact⟨rfl,rfl⟩
     obtain⟨rfl,rfl⟩:=hn;rcases mY with⟨f',ZY,ZZ,a',c',xs,e,k1,k2,k3,k4,k5⟩|⟨_,_,_,_,_,e,_⟩|⟨m,xs,e,k1,k2,k3⟩;.cases e
     .cases e
     .cases e;simp only[ck] at h;cases args with
      |nil=>cases h
      |cons x rest=>
       cases x with
       |iface t v0=>
        simp only at h;cases hm:methodOf P t v0 name with
        |none=>rw[hm] at h;cases h
        |some q=>
         obtain⟨g,r⟩:=q;rw[hm] at h;simp only at h;cases k1 with
         |cons q1 q2=>
          rename_i x xs;cases q1 with
          |iface q1=>
           rename_i y;obtain⟨k,hk⟩:∃k,P.types.size+Made.depth=k+1:=⟨P.types.size+99,rfl⟩;obtain⟨rfl,b6⟩:=BU (w:=w) (x:=y) (n:=k) hm;have Ru:gR ρ (.fn (.func g) [] []) (r::rest) {target:=.fn (.func g) #[],args:=(y::xs).toArray}:=
            .inl ⟨g,[],[],[],[],y::xs,rfl,.nil,.nil,.cons q1 q2,rfl,ac⟩
           rcases cB.ok h hR Ru with⟨g',ys,l1,l2⟩|⟨⟨_,e⟩,_⟩
           .refine .inl ⟨g',ys,?_,l2⟩;rw[k2,k3];rw[<-l1];have e1:(invoke (.fn (.func g) #[]) (y::xs).toArray).run P w=(callFunc g (y::xs).toArray).run P w:=by simp[invoke]
            rw[e1];simp[invoke,callMethod,Sem.run_bind,program,Sem.run,hk,b6,Result.andThen]
           .cases e
       |_=>cases h
    |_=>simp[gS] at hc
   |yd l=>
    rcases mY with⟨f',ZY,ZZ,a',c',xs,e,k1,k2,k3,k4,k5⟩|⟨l',b,o,len,xs,e,k1,k2,k3,k4⟩|⟨_,_,e,_⟩;.cases e
    .cases e;simp only[ck] at h;cases hg:S.get l with
     |none=>rw[hg] at h;cases h
     |some ob=>
      rw[hg] at h;cases ob with
      |loop st dE m body=>
       cases st with
       |ready=>
        simp only at h;cases Rv:Nat.beq (bD args) m with
        |false=>rw[Rv] at h;cases h
        |true=>
         rw[Rv] at h;simp only at h;have hlen:args.length=m:=by rw[<-aS];exact Nat.eq_of_beq_eq_true Rv
         cases hr:run P (ck P iP kn n) n (body (.yd l::args)) S with
         |none=>rw[hr] at h;cases h
         |some q=>
          obtain⟨t,vs,S1⟩:=q;rw[hr] at h;simp only at h;cases Ef:S1.get l with
          |none=>rw[Ef] at h;cases h
          |some ob2=>
           rw[Ef] at h;cases ob2 with
           |loop st2 p2 m2 b2=>
            cases st2 with
            |busy=>
             simp only at h;have hv:(t=.normal/\v=.sc (.bool true)/\S'=S1.set l (.loop .ready none m2 b2))\/(t≠.normal/\v=.sc (.bool false)/\S'=S1.set l (.loop .done (some t) m2 b2)):=by
              cases t with
              |normal=>cases h;exact .inl ⟨rfl,rfl,rfl⟩
              |_=>cases h;exact .inr ⟨ac,rfl,rfl⟩
             obtain⟨g,tmps,wk,bd,l1,l2⟩:=z_ cB hR k1 hg k2 hlen hr Ef hv;refine .inr ⟨⟨l,rfl⟩,b,g,tmps,wk,bd,?_,l2⟩;rw[k3,k4];exact l1
            |_=>cases h
           |_=>cases h
       |_=>cases h
      |_=>cases h
    .cases e
   |_=>simp[gS] at hc
  .obtain⟨cap,ys,h1,h2,_,h4⟩:=Rq h hR mY;exact⟨cap,ys,h1,h2,h4 oP⟩
end
section
variable[kg]
open Go.RowKit Go.WideShapes Go.ChangeShapes
variable{P:Program}
theorem qJ {ρ aT:Ren}{S S':AH}{w w':World}(U3:∀id o,S.get id=some o->px o=true)(hE:Ext ρ S w aT S' w'):Below w.heap.size w w':=
 ⟨hE.os,hE.tape,hE.output,hE.size,λk hk=>hE.frame k hk λ⟨id,ob,o,l,h1,h2,_⟩=>by rw[U3 id ob h1] at h2;cases h2⟩
theorem sG {H:Type}{enc:TypeId×Value->H}{W:World}{b:Nat}{sp:Nat->Bool}{hd:Bool}:∀{ts:List TypeId} {vs:List Value} {ds:List (DataW H)} {ps:List MemPlace},DataW.TrodAll enc P W b sp hd ts vs ds ps->ds.length=ts.length
 |[],[],[],_,_=>rfl
 |[],_::_,_,_,h=>h.elim
 |[],[],_::_,_,h=>h.elim
 |_::_,[],_,_,h=>h.elim
 |_::_,_::_,[],_,h=>h.elim
 |t::ts,v::vs,d::ds,ps,h=>by obtain⟨p,q,h1,h2,rfl⟩:=h;simp[sG h2]
theorem oV {H:Type}{enc:TypeId×Value->H}(hl:laidOutB P=true){W W':World}{sp:Nat->Bool}:∀{ts:List TypeId} {vs:List Value} {ds:List (DataW H)} {ps:List MemPlace},
  ts.all (λt=>P.readableRec t&&decide (t<P.types.size))=true->DataW.TrodAll enc P W 0 (λ_=>true) true ts vs ds ps->(∀p∈ps,W.sameAt W' p)->(∀p∈ps,sp p.block=true)->DataW.TrodAll enc P W' 0 sp true ts vs ds ps
 |[],[],[],_,_,h,_,_=>h
 |[],_::_,_,_,_,h,_,_=>h.elim
 |[],[],_::_,_,_,h,_,_=>h.elim
 |_::_,[],_,_,_,h,_,_=>h.elim
 |_::_,_::_,[],_,_,h,_,_=>h.elim
 |t::ts,v::vs,d::ds,ps,hr,h,hs,hp=>by
  simp only[List.all_cons,Bool.and_eq_true,decide_eq_true_eq] at hr;obtain⟨p,q,h1,h2,rfl⟩:=h
  exact⟨p,q,WideElems.Trod_stays hl hr.1.1 hr.1.2 h1 (λx hx=>hs x (by simp[hx])) (λx hx=>hp x (by simp[hx])),
   oV hl hr.2 h2 (λx hx=>hs x (by simp[hx])) (λx hx=>hp x (by simp[hx])),rfl⟩
def yb (P:Program)(f:Func):Bool:=match f.resultTypes.toList with
 |[t]=>match P.underlying t with
  |some .bool=>true
  |_=>false
 |_=>false
theorem yc {f:Func}(h:yb P f=true):∃t,f.resultTypes=#[t]/\P.underlying t=some .bool:=by
 unfold yb at h;split at h
 .rename_i t ht;split at h;.exact⟨t,Array.toList_inj.1 ht,ci⟩
  .cases h
 .cases h
theorem GB {H:Type}{enc:TypeId×Value->H}{f:Func}{s:ChangeSpec}{apart fresh handsOn again:Bool}{W W':World}{args:Array Value}{ds gs:List (DataW H)}{before:List MemPlace}
  (hl:laidOutB P=true) (Rx:yb P f=true) (uu:f.params.toList.all (λt=>P.readableRec t&&decide (t<P.types.size))=true) (GC:s.vars=[])
  (WW:∀ds:List (DataW H),ds.length=f.params.size->s.fn H ds={results:=[.lit (.bool true)],args:=ds})
  (hW:DataW.Whole enc P f.params.toList s.vars apart W args.toList ds gs before) (hb:Below W.heap.size W W'):s.post enc P f apart fresh handsOn again W args (.bool true) W':=by
 have WX:=hW;obtain⟨tb,Z0,Z1⟩:=yc Rx;obtain⟨p,q,hA,hV,rfl,Z2,P2⟩:=hW;rw[GC] at hV;obtain⟨rfl,rfl⟩:=trodVars_none hV;have hlen:ds.length=f.params.size:=by have:=sG hA;simpa using this
 have cA:∀x∈p,x.block<W.heap.size:=λx hx=>WX.lt x (by simp[hx]);have bZ:∀sp:Nat->Bool,(∀x∈p++[],sp x.block=true)->DataW.TrodAll enc P W' 0 sp true f.params.toList args.toList ds p:=λsp WY=>
  oV hl uu hA (λx hx=>hb.same (cA x hx)) (λx hx=>WY x (by simp[hx]))
 have MV:s.fn H (ds++[])={results:=[.lit (.bool true)],args:=ds}:=by rw[List.append_nil];exact WW ds hlen
 have rH:∀(b:Nat) (sp:Nat->Bool) (hd:Bool),DataW.TrodAll enc P W' b sp hd f.resultTypes.toList ((Value.bool true).resultList f.resultTypes.size) (s.fn H (ds++[])).results []:=λb sp hd=>by rw[MV,Z0];exact trodAll_mk1 (shut_bool Z1 true)
 have gY:∀(j:Nat) (t:TypeId) (r:Value),f.resultTypes[j]?=some t->((Value.bool true).resultList f.resultTypes.size)[j]?=some r->Value.okWide P W' .any 0 t r:=by
  intro j t r h1 h2;rw[Z0] at h1 h2;cases j with
  |zero=>
   simp only[List.getElem?_toArray,List.getElem?_cons_zero,Option.some.injEq] at h1;simp only[Value.resultList] at h2;simp at h2;subst h1 h2;exact okWide_bool_mk Z1 true
  |succ j=>simp at h1
 have Ry:∀x∈p++[],x.block<W.heap.size:=λx hx=>WX.lt x (by simpa using hx);have hold:∀x∈p++[],(λb=>decide (b<W.heap.size)) x.block=true:=λx hx=>by simpa using Ry x hx
 refine⟨ds,[],p++[],[],p,[],WX,rH _ _ _,by rw[MV];exact bZ _ hold,by rw[GC,MV];exact(rfl:DataW.TrodVars enc P W' _ [] [] []),World.keptBut_mono (λx hx=>⟨hx,Or.inr (by simpa using hx)⟩) (hb.frame (·∈p++[])),λ_=>?_⟩;refine⟨gY,_,[],([]++p)++[],⟨[]++p,[],trodAll_append (bZ _ (λ_ _=>rfl)) (rH _ _ _),by rw[GC];exact(rfl:DataW.TrodVars enc P W' _ [] [] []),rfl,?_,?_⟩,?_⟩
 .intro b off hp;have oK:MemPlace.cell b off∈p++[]:=by simpa using hp
  rw[hb.frozen (Ry _ oK)];exact Z2 b off (by simpa using oK)
 .intro ha;have:=P2 ha;simpa using this
 .intro x hx _;simpa using hx
end
section
variable[kg]
open Go.RowKit Go.WideShapes Go.ChangeShapes
variable{P:Program}
def T.U8 {α:Type}(p:Nat->α->Prop):T α->Nat->Nat->Prop
 |.e,_,_=>True
 |.n l v r,a,b=>T.U8 p l (a+b) (2*b)/\(match v with|some x=>p a x|none=>True)/\T.U8 p r (a+2*b) (2*b)
theorem T.U8.get {α:Type}{p:Nat->α->Prop}:∀{t:T α} {a b:Nat},T.U8 p t a b->∀{k:Nat} {x:α},T.get t k=some x->p (a+b*k) x
 |.e,a,b,h,k,x,hx=>by simp[T.get] at hx
 |.n l v r,a,b,h,k,x,hx=>by
  obtain⟨h1,h2,h3⟩:=h;unfold T.get at hx;cases k with
  |zero=>
   simp only at hx;subst hx;simpa using h2
  |succ k=>
   simp only at hx;have hk:=Nat.div_add_mod k 2;split at hx
   .rename_i hm;have Gq:k%2=0:=Nat.eq_of_beq_eq_true hm;have:=h1.get hx;have e:a+b+2*b*(k/2)=a+b*(k+1):=by have:k=2*(k/2):=am;generalize k/2=j at this⊢;subst this;rw[Nat.mul_add,Nat.mul_comm 2 b,Nat.mul_assoc];omega
    exact e▸this
   .rename_i hm;have Gq:k%2=1:=by have:k%2≠0:=λe=>hm (by rw[show Nat.mod k 2=k%2 from rfl,e];rfl);omega
    have:=h3.get hx;have e:a+2*b+2*b*(k/2)=a+b*(k+1):=by
     have:k=2*(k/2)+1:=am;generalize k/2=j at this⊢;subst this;rw[show b*(2*j+1+1)=2*b*j+2*b by
      rw[Nat.mul_add,Nat.mul_add,Nat.mul_comm 2 b,Nat.mul_assoc];omega]
     omega
    exact e▸this
def Rz (P:Program)(f:Nat)(b:List AV->AC):Prop:=∃fn vars,P.funcs[f]?=some fn/\(fn.name== "runtime.NumGoroutine")=false/\b=fU P fn vars
def isTrue:Option (AV×AH)->Bool
 |some (.sc (.bool true),_)=>true
 |_=>false
theorem sH {r:Option (AV×AH)}(h:isTrue r=true):∃S',r=some (.sc (.bool true),S'):=by
 unfold isTrue at h;split at h;.exact⟨_,rfl⟩
 .cases h
theorem R.nothing (P:Program)(w:World):R P (λ_=>none) ⟨.e,0⟩ w where
 iQ:=λh=>by simp[AH.get,gy] at h
 inj:=λh=>by simp[AH.get,gy] at h
 sX:=λh=>by cases h
 oN:=λh=>by cases h
 wf:=λh=>by simp[AH.get,gy] at h
theorem ye {iP:Table}{kn:qu}(hT:z7 P iP)(hk:Gy P kn){n:Nat}{f:FuncId}{as:List AV}{S:AH}{ρ:Ren}{W:World}{args:Array Value}
  (b6:isTrue (ck P iP kn n (.fn (.func f) [] []) as S)=true) (hR:R P ρ S W) (hV:VL ρ as args.toList) (i_:∀id o,S.get id=some o->px o=true)
  (qz:∀w,(callFunc f args).run P w=.ok (.enter f args) w):
  Calls P f args W λe W'=>e=.returned (.bool true)/\Below W.heap.size W W':=by
 obtain⟨S',b6⟩:=sH b6;have mY:gR ρ (.fn (.func f) [] []) as {target:=.fn (.func f) #[],args:=args}:=.inl ⟨f,[],[],[],[],args.toList,rfl,.nil,.nil,hV,rfl,ac⟩;rcases(kG hT hk n).1.ok b6 hR mY with⟨g,ys,h1,h2⟩|⟨⟨_,e⟩,_⟩
 .have hn:(invoke (.fn (.func f) #[]) args).run P W=(callFunc f args).run P W:=by simp[invoke]
  rw[hn,qz] at h1;cases h1;refine(callsIn_wide.1 h2).mono λe W' q=>?_;obtain⟨x,aT,rfl,q1,q2,q3⟩:=q;exact⟨by rw[q1.fh.1],qJ i_ q3⟩
 .cases e
theorem GD {f:FuncId}{fn:Func}(hf:P.funcs[f]?=some fn)(hn:(fn.name== "runtime.NumGoroutine")=false)(hb:fn.body.isSome=true)(args:Array Value)(w:World):(callFunc f args).run P w=.ok (.enter f args) w:=by
 cases h:fn.body with
 |none=>rw[h] at hb;cases hb
 |some c=>exact my hf hn h
theorem R.grown {ρ:Ren}{S:AH}{w w':World}(h:R P ρ S w)(hb:Below w.heap.size w w'):R P ρ S w'/\Ext ρ S w ρ S w':=
 ⟨⟨λh1 h2=>(h.iQ h1 h2).mono (Ren.le_refl _) (hb.block _ (h.oN h2)),h.inj,h.sX,λh1=>Nat.lt_of_lt_of_le (h.oN h1) hb.size,h.wf⟩,
  ⟨Ren.le_refl _,Nat.le_refl _,λid x h1 h2=>by(rw[h1] at h2;cases h2),λ_ _ _=>rfl,hb.os,hb.tape,hb.output,hb.size,λb h1 _=>hb.block b h1,λ_ _ h=>h⟩⟩
def U9:List (FuncId×Value)->FuncId->List AV->Option AV
 |[],_,_=>none
 |(f,v)::r,g,as=>match Nat.beq g f with
  |true=>match as with
   |[]=>some (.sc v)
   |_=>none
  |false=>U9 r g as
theorem GF {iP:Table}{kn:qu}(hT:z7 P iP)(hk:Gy P kn):∀{l:List (FuncId×Value)},(∀x∈l,(∃n S',ck P iP kn n (.fn (.func x.1) [] []) [] ⟨.e,0⟩=some (.sc x.2,S'))/\∀w,(callFunc x.1 #[]).run P w=.ok (.enter x.1 #[]) w)->Gx P (U9 l)
 |[],_=>λ_ _ _ h=>by cases h
 |(f,v)::r,hl=>by
  intro g as u h ρ S w xs hR hV;unfold U9 at h;cases hb:Nat.beq g f with
  |false=>
   rw[hb] at h;exact GF hT hk (l:=r) (λx hx=>hl x (by simp[hx])) _ _ _ h _ _ _ _ hR hV
  |true=>
   have e:=Nat.eq_of_beq_eq_true hb;subst e;rw[hb] at h;cases as with
   |cons _ _=>cases h
   |nil=>
    cases h;cases hV;obtain⟨⟨n,S',b6⟩,qz⟩:=hl (g,v) ac;have mY:gR (λ_=>none) (.fn (.func g) [] []) [] {target:=.fn (.func g) #[],args:=#[]}:=.inl ⟨g,[],[],[],[],[],rfl,.nil,.nil,.nil,rfl,rfl⟩;have hn:(invoke (.fn (.func g) #[]) #[]).run P w=(callFunc g #[]).run P w:=by simp[invoke]
    have post:∀e w',bI P (λ_=>none) ⟨.e,0⟩ w (.sc v) S' e w'->bI P ρ S w (.sc v) S e w':=by rintro e w' ⟨x,aT,rfl,q1,q2,q3⟩;obtain⟨h1,h2⟩:=hR.grown (qJ (λid o h=>by simp[AH.get,gy] at h) q3);obtain⟨rfl,hs⟩:=q1.fh;exact⟨_,ρ,rfl,.sc hs,h1,h2⟩
    refine⟨qz w,?_,λoP u hu=>?_⟩
    .rcases(kG hT hk n).1.ok b6 (R.nothing P w) mY with⟨g',ys,h1,h2⟩|⟨⟨_,e⟩,_⟩
     .rw[hn,qz] at h1;cases h1;exact h2.mono (post)
     .cases e
    .obtain⟨cap,ys,h0,h1,h2⟩:=(kG hT hk n).2.ok b6 oP (R.nothing P w) mY;rw[hn,qz] at h1;cases h1;exact(h2 u hu).mono λe u' w' q=>⟨q.1,post e w' q.2⟩
end
structure cQ where
 P:Program
 iP:Table
 kn:qu
abbrev ga:=Tag->List AV->AH->Prop
def wp (M:cQ)(x:AC)(S:AH)(Q:ga):Prop:=∃t vs S',(∃n0,∀n,n0<=n->run M.P (ck M.P M.iP M.kn n) n x S=some (t,vs,S'))/\Q t vs S'
def aG (M:cQ)(f:AV)(args:List AV)(S:AH)(Q:AV->AH->Prop):Prop:=∃v S',(∃n0,∀n,n0<=n->ck M.P M.iP M.kn n f args S=some (v,S'))/\Q v S'
def Qb (M:cQ)(body:List AV->AC)(vs:List AV)(S:AH)(Q:ga):Prop:=
 ∃t v_ S',(∃n0,∀n k,n0<=n->n0<=k->iter (λvs=>run M.P (ck M.P M.iP M.kn n) n (body vs)) k vs S=some (t,v_,S'))/\Q t v_ S'
section
variable{M:cQ}{S S1:AH}{Q:ga}
theorem wp_mono {x:AC}{Q':ga}(h:wp M x S Q)(hm:∀t vs S',Q t vs S'->Q' t vs S'):wp M x S Q':=
 let⟨t,vs,S',h1,h2⟩:=h;⟨t,vs,S',h1,hm _ _ _ h2⟩
theorem aw {f:AV}{args:List AV}{Q Q':AV->AH->Prop}(h:aG M f args S Q)(hm:∀v S',Q v S'->Q' v S'):aG M f args S Q':=
 let⟨v,S',h1,h2⟩:=h;⟨v,S',h1,hm _ _ h2⟩
theorem wp_ret {t:Tag}{vs:List AV}(h:Q t vs S):wp M (.ret t vs) S Q:=⟨t,vs,S,⟨0,λ_ _=>rfl⟩,h⟩
theorem ae {o:fD}{k:AV->AC}{v:AV}(he:evalOp M.P o S=some (v,S1))(h:wp M (k v) S1 Q):wp M (.op o k) S Q:=by obtain⟨t,vs,S',⟨n0,h1⟩,h2⟩:=h;exact⟨t,vs,S',⟨n0,λn hn=>by rw[ij,he];exact h1 n hn⟩,h2⟩
theorem uK {g:AV}{b:Bool}{o:fD}{k:AV->AC}(hg:Bd g b=some false)(h:wp M (k uv) S Q):wp M (.hZ g b o k) S Q:=by obtain⟨t,vs,S',⟨n0,h1⟩,h2⟩:=h;exact⟨t,vs,S',⟨n0,λn hn=>by rw[tD];unfold rC;rw[hg];exact h1 n hn⟩,h2⟩
theorem yf {o:fD}{v v':AV}{k:AC}(he:cR M.P S o=some v')(hb:v'.beq v=true)(h:wp M k S Q):wp M (.lH o v k) S Q:=by obtain⟨t,vs,S',⟨n0,h1⟩,h2⟩:=h;exact⟨t,vs,S',⟨n0,λn hn=>by show pj M.P o v _ S=_;unfold pj;rw[he];simp only[hb];exact h1 n hn⟩,h2⟩
theorem nK {g:AV}{b:Bool}{o:fD}{v:AV}{k:AC}(hg:Bd g b=some false)(h:wp M k S Q):wp M (.Bm g b o v k) S Q:=by obtain⟨t,vs,S',⟨n0,h1⟩,h2⟩:=h;exact⟨t,vs,S',⟨n0,λn hn=>by show qn M.P g b o v _ S=_;unfold qn;rw[hg];exact h1 n hn⟩,h2⟩
theorem GG {b:Bool}{x y:AC}(h:wp M (if b then x else y) S Q):wp M (.ite (.sc (.bool b)) x y) S Q:=by
 obtain⟨t,vs,S',⟨n0,h1⟩,h2⟩:=h;refine⟨t,vs,S',⟨n0,λn hn=>?_⟩,h2⟩;have:=h1 n hn;rw[run_ite];cases b<;>exact this
theorem bW {f:AV}{args:List AV}{k:AV->AC}(h:aG M f args S λv S'=>wp M (k v) S' Q):wp M (.call f args k) S Q:=by obtain⟨v,S1,⟨n0,h1⟩,t,vs,S',⟨n1,h2⟩,h3⟩:=h;exact⟨t,vs,S',⟨max n0 n1,λn hn=>by rw[nF,h1 n am];exact h2 n am⟩,h3⟩
theorem qK {g:AV}{b:Bool}{f:AV}{args:List AV}{k:AV->AC}(hg:Bd g b=some false)(h:wp M (k uv) S Q):wp M (.dO g b f args k) S Q:=by obtain⟨t,vs,S',⟨n0,h1⟩,h2⟩:=h;exact⟨t,vs,S',⟨n0,λn hn=>by rw[rI];unfold nq;rw[hg];exact h1 n hn⟩,h2⟩
def yg (M:cQ)(id:Option Nat)(k:List AV->AC)(outs:List AV->List AV)(Q:ga):ga:=λt vs S'=>
 match t with
 |.normal=>wp M (k vs) S' Q
 |.exit i=>match id with
  |some j=>match Nat.beq j i with
   |true=>wp M (k vs) S' Q
   |false=>Q (.exit i) (outs vs) S'
  |none=>Q (.exit i) (outs vs) S'
 |t=>Q t (outs vs) S'
theorem wp_bind {m:AC}{id:Option Nat}{k:List AV->AC}{outs:List AV->List AV}(h:wp M m S (yg M id k outs Q)):wp M (.bind m id k outs) S Q:=by
 obtain⟨t,vs,S1,⟨n0,h1⟩,h2⟩:=h;have go:wp M (k vs) S1 Q->(∀n,run M.P (ck M.P M.iP M.kn n) n m S=some (t,vs,S1)->run M.P (ck M.P M.iP M.kn n) n (.bind m id k outs) S=run M.P (ck M.P M.iP M.kn n) n (k vs) S1)->wp M (.bind m id k outs) S Q:=by rintro⟨t',v_,S',⟨n1,h3⟩,h4⟩ he;exact⟨t',v_,S',⟨max n0 n1,λn hn=>by rw[he n (h1 n am)];exact h3 n am⟩,h4⟩
 have out:∀t',Q t' (outs vs) S1->(∀n,run M.P (ck M.P M.iP M.kn n) n m S=some (t,vs,S1)->run M.P (ck M.P M.iP M.kn n) n (.bind m id k outs) S=some (t',outs vs,S1))->wp M (.bind m id k outs) S Q:=by intro t' hq he;exact⟨t',outs vs,S1,⟨n0,λn hn=>he n (h1 n hn)⟩,hq⟩
 cases t with
 |normal=>exact go h2 λn hn=>by rw[run_bind'];unfold fp;rw[hn]
 |exit i=>
  cases id with
  |none=>exact out _ h2 λn hn=>by rw[run_bind'];unfold fp;rw[hn]
  |some j=>
   simp only[yg] at h2;cases hb:Nat.beq j i with
   |true=>rw[hb] at h2;exact go h2 λn hn=>by rw[run_bind'];unfold fp;rw[hn];simp only[hb]
   |false=>rw[hb] at h2;exact out _ h2 λn hn=>by rw[run_bind'];unfold fp;rw[hn];simp only[hb]
 |goto l=>exact out _ h2 λn hn=>by rw[run_bind'];unfold fp;rw[hn]
 |ret=>exact out _ h2 λn hn=>by rw[run_bind'];unfold fp;rw[hn]
theorem uL {m:AC}{k:List AV->AC}(h:wp M m S λt vs S'=>(t=.normal\/t=.ret)/\wp M (k vs) S' Q):wp M (.fin m k) S Q:=by
 obtain⟨t,vs,S1,⟨n0,h1⟩,ht,t',v_,S',⟨n1,h2⟩,h3⟩:=h;refine⟨t',v_,S',⟨max n0 n1,λn hn=>?_⟩,h3⟩;rw[tG];unfold rD;rw[h1 n am];rcases ht with rfl|rfl<;>exact h2 n am
theorem wp_loop {init:List AV}{body:List AV->AC}{outs:List AV->List AV}(h:Qb M body init S λt vs S'=>Q t (outs vs) S'):wp M (.loop init body outs) S Q:=by obtain⟨t,vs,S1,⟨n0,h1⟩,h2⟩:=h;exact⟨t,outs vs,S1,⟨n0,λn hn=>by rw[zU];unfold tB;rw[h1 n n hn hn]⟩,h2⟩
theorem nL {body:List AV->AC}{vs:List AV}(h:wp M (body vs) S λt Bh S1=>(t=.normal/\Qb M body Bh S1 Q)\/(t≠.normal/\Q t Bh S1)):Qb M body vs S Q:=by
 obtain⟨t,Bh,S1,⟨n0,h1⟩,h2⟩:=h;rcases h2 with⟨rfl,t',v_,S',⟨n1,h3⟩,h4⟩|⟨ht,hq⟩
 .refine⟨t',v_,S',⟨max n0 n1+1,λn k hn hk=>?_⟩,h4⟩;obtain⟨k,rfl⟩:∃j,k=j+1:=⟨k-1,am⟩;simp only[iter];rw[h1 n am];exact h3 n k am am
 .refine⟨t,Bh,S1,⟨n0+1,λn k hn hk=>?_⟩,hq⟩;obtain⟨k,rfl⟩:∃j,k=j+1:=⟨k-1,am⟩;simp only[iter];rw[h1 n am];cases t with
  |normal=>exact absurd rfl ht
  |_=>rfl
theorem yh {body:List AV->AC}(I:Nat->List AV->AH->Prop)
  (hr:∀m vs S,I m vs S->wp M (body vs) S λt Bh S1=>(t=.normal/\∃m',m'<m/\I m' Bh S1)\/(t≠.normal/\Q t Bh S1)):
  ∀(m:Nat) {vs:List AV} {S:AH},I m vs S->Qb M body vs S Q:=by
 intro m;induction m using Nat.strongRecOn with
 |_ m ih=>
  intro vs S h;refine nL (wp_mono (hr m vs S h) λt Bh S1 q=>?_);rcases q with⟨ht,m',cA,hI⟩|q;.exact .inl ⟨ht,ih m' cA hI⟩
  .exact .inr q
theorem GH {l:Nat}{k:AC}{dE:Option Tag}{n:Nat}{b:List AV->AC}(hg:S.get l=some (.loop .ready dE n b))(h:wp M k (S.set l (.loop .busy dE n b)) Q):wp M (.start (.yd l) k) S Q:=by obtain⟨t,vs,S',⟨n0,h1⟩,h2⟩:=h;exact⟨t,vs,S',⟨n0,λn hn=>by rw[wY];unfold qo;simp only[hg];exact h1 n hn⟩,h2⟩
theorem MW {n:Nat}{f:AV}{body:List AV->AC}{k:AC}{outs:List AV}(hf:∀i,f≠.yd i)
  (h:aG M f [.yd S.next] (S.new (.loop .ready none n body)) λ_ S'=>∃st dE m b,S'.get S.next=some (.loop st dE m b)/\st≠.busy/\
    match dE with
    |none=>wp M k (S'.set S.next (.loop .exhausted dE m b)) Q
    |some t=>Q t outs (S'.set S.next (.loop .exhausted dE m b))):wp M (.DP n f body k outs) S Q:=by
 obtain⟨v,S1,⟨n0,h1⟩,st,dE,m,b,hg,oJ,h2⟩:=h;have key:∀n',n0<=n'->run M.P (ck M.P M.iP M.kn n') n' (.DP n f body k outs) S=Gm (run M.P (ck M.P M.iP M.kn n') n' k) outs (S1.set S.next (.loop .exhausted dE m b)) dE:=by
  intro n' hn;rw[CY];have e:=h1 n' hn;cases f with
  |yd i=>exact absurd rfl (hf i)
  |_=>unfold xK;simp only[e,hg];cases st<;>cases dE<;>first|exact absurd rfl oJ|rfl
 cases dE with
 |none=>
  obtain⟨t,vs,S',⟨n1,h3⟩,h4⟩:=h2;exact⟨t,vs,S',⟨max n0 n1,λn' hn=>by rw[key n' am];exact h3 n' am⟩,h4⟩
 |some t=>exact⟨t,outs,_,⟨n0,λn' hn=>key n' hn⟩,h2⟩
theorem aV {f:FuncId}{fa fc args:List AV}{b:List AV->AC}{Q:AV->AH->Prop}(hk:M.kn f (fa++(args++fc))=none)(hb:M.iP f=some b)
  (h:wp M (b (fa++(args++fc))) S λt vs S'=>t=.ret/\Q (oneOf vs) S'):aG M (.fn (.func f) fa fc) args S Q:=by
 obtain⟨t,vs,S',⟨n0,h1⟩,rfl,h2⟩:=h;refine⟨oneOf vs,S',⟨n0+1,λn hn=>?_⟩,h2⟩;obtain⟨n,rfl⟩:∃j,n=j+1:=⟨n-1,am⟩;simp only[ck,ft,hk,hb,h1 n am]
theorem MX {f:FuncId}{fa fc args:List AV}{v:AV}{Q:AV->AH->Prop}(hk:M.kn f (fa++(args++fc))=some v)(h:Q v S):aG M (.fn (.func f) fa fc) args S Q:=by refine⟨v,S,⟨1,λn hn=>?_⟩,h⟩;obtain⟨n,rfl⟩:∃j,n=j+1:=⟨n-1,am⟩;simp only[ck,ft,hk]
theorem jT {name:String}{t:TypeId}{v r:AV}{f:FuncId}{rest:List AV}{Q:AV->AH->Prop}(hm:methodOf M.P t v name=some (f,r))(h:aG M (.fn (.func f) [] []) (r::rest) S Q):
  aG M (.fn (.method name) [] []) (.iface t v::rest) S Q:=by
 obtain⟨u,S',⟨n0,h1⟩,h2⟩:=h;refine⟨u,S',⟨n0+1,λn hn=>?_⟩,h2⟩;obtain⟨n,rfl⟩:∃j,n=j+1:=⟨n-1,am⟩;simp only[ck,hm];exact h1 n am
theorem GI {l:Nat}{args:List AV}{dE:Option Tag}{m:Nat}{body:List AV->AC}{Q:AV->AH->Prop}(hg:S.get l=some (.loop .ready dE m body))(hl:args.length=m)
  (h:wp M (body (.yd l::args)) S λt _ S'=>∃p m' b',S'.get l=some (.loop .busy p m' b')/\
    match t with
    |.normal=>Q (.sc (.bool true)) (S'.set l (.loop .ready none m' b'))
    |t=>Q (.sc (.bool false)) (S'.set l (.loop .done (some t) m' b'))):aG M (.yd l) args S Q:=by
 obtain⟨t,vs,S',⟨n0,h1⟩,p,m',b',Ef,h2⟩:=h;have hb:Nat.beq (bD args) m=true:=by rw[aS,hl];exact Nat.beq_refl m
 cases t with
 |normal=>
  refine⟨_,_,⟨n0+1,λn hn=>?_⟩,h2⟩;obtain⟨n,rfl⟩:∃j,n=j+1:=⟨n-1,am⟩;simp only[ck,hg,hb,h1 n am,Ef]
 |_=>refine⟨_,_,⟨n0+1,λn hn=>?_⟩,h2⟩;obtain⟨n,rfl⟩:∃j,n=j+1:=⟨n-1,am⟩;simp only[ck,hg,hb,h1 n am,Ef]
theorem GJ {f:FuncId}{as:List AV}(h:aG M (.fn (.func f) [] []) as S λv _=>v=.sc (.bool true)):∃n,isTrue (ck M.P M.iP M.kn n (.fn (.func f) [] []) as S)=true:=by obtain⟨v,S',⟨n0,h1⟩,rfl⟩:=h;exact⟨n0,by rw[h1 n0 (Nat.le_refl _)];rfl⟩
end
structure aR (B S:AH):Prop where
 next:B.next<=S.next
 iR:∀id,id<B.next->S.get id=B.get id
theorem aR.refl (S:AH):aR S S:=⟨Nat.le_refl _,λ_ _=>rfl⟩
theorem aR.trans {A B C:AH}(h:aR A B)(k:aR B C):aR A C:=⟨Nat.le_trans h.next k.next,λid hi=>by rw[k.iR id (Nat.lt_of_lt_of_le hi h.next),h.iR id hi]⟩
theorem aR.new (S:AH)(o:AO):aR S (S.new o):=⟨by simp[AH.new],λid hi=>by rw[AH.cg,if_neg am]⟩
def dQ:AV->List Nat
 |.sl id _ _ _=>[id]
 |.op id _ _ _ _=>[id]
 |_=>[]
def uM (v:AV)(es n id off:Nat)(c:List AV):Prop:=
 (∃cap,n<=cap/\off+cap*es<=c.length/\v=.sl id off n cap)\/(∃dq,n<=dq/\off+dq*es<=c.length/\v=.op id off n dq es)
theorem uM.ids {v:AV}{es n id off:Nat}{c:List AV}(h:uM v es n id off c):dQ v=[id]:=by
 rcases h with⟨_,_,_,rfl⟩|⟨_,_,_,rfl⟩<;>rfl
def GK (S:AH)(v:AV)(es:Nat)(L:List (List AV)):Prop:=
 (v=.sc (.slice none 0 0)/\L=[])\/∃id off c,uM v es L.length id off c/\S.get id=some (.row c)/\(c.drop off).take (L.length*es)=L.flatten/\∀x∈L,x.length=es
inductive Own where
 |obj (id:Nat)(o:AO)
 |sl (v:AV)(es:Nat)(L:List (List AV))
def Own.ids:Own->List Nat
 |.obj id _=>[id]
 |.sl v _ _=>dQ v
def Own.holds (S:AH):Own->Prop
 |.obj id o=>S.get id=some o
 |.sl v es L=>GK S v es L
inductive aB where
 |pt (id off:Nat)(cs:List AV)
 |sl (v:AV)(es:Nat)(L:List (List AV))
 |ob (id:Nat)(o:AO)
def aB.ids:aB->List Nat
 |.pt id _ _=>[id]
 |.sl v _ _=>dQ v
 |.ob id _=>[id]
def g_ (S:AH)(v:AV)(es:Nat)(L:List (List AV)):Prop:=
 ((∃a,v=.sc (.slice a 0 0))/\L=[])\/∃id off c,uM v es L.length id off c/\
   S.cells? id=some c/\(c.drop off).take (L.length*es)=L.flatten/\∀x∈L,x.length=es
def aB.holds (S:AH):aB->Prop
 |.pt id off cs=>∃c,S.cells? id=some c/\off+cs.length<=c.length/\(c.drop off).take cs.length=cs
 |.sl v es L=>g_ S v es L
 |.ob id o=>S.get id=some o
structure Cx (B:AH)(M:List Nat)(S:AH)(own:List Own)(ro:List aB):Prop where
 next:B.next<=S.next
 iR:∀id,id<B.next->id∉M->S.get id=B.get id
 oh:∀x∈own,x.holds S
 oi:∀x∈own,∀id∈x.ids,id<S.next/\(id<B.next->id∈M)
 od:own.Pairwise λx y=>∀id∈x.ids,id∉y.ids
 rh:∀φ∈ro,φ.holds S
 ri:∀φ∈ro,∀id∈φ.ids,id<S.next/\∀x∈own,id∉x.ids
theorem uN {S S1:AH}{id:Nat}(h:S1.get id=S.get id):S1.cells? id=S.cells? id:=by unfold AH.cells?;rw[h]
theorem Own.gC {S S1:AH}{x:Own}(h:∀id∈x.ids,S1.get id=S.get id)(hx:x.holds S):x.holds S1:=by
 cases x with
 |obj id o=>exact(h id (by simp[Own.ids])).trans hx
 |sl v es L=>
  rcases hx with hx|⟨id,off,c,h0,h1,h2⟩;.exact .inl hx
  .exact .inr ⟨id,off,c,h0,(h id (by simp[Own.ids,h0.ids])).trans h1,h2⟩
theorem w5 {S S1:AH}{v:AV}{es:Nat}{L:List (List AV)}(h:∀id∈dQ v,S1.get id=S.get id)(hx:g_ S v es L):g_ S1 v es L:=by
 rcases hx with hx|⟨id,off,c,h1,h2,h3⟩;.exact .inl hx
 .refine .inr ⟨id,off,c,h1,?_,h3⟩;rw[uN (h id (by simp[h1.ids]))];exact h2
theorem aB.gC {S S1:AH}{x:aB}(h:∀id∈x.ids,S1.get id=S.get id)(hx:x.holds S):x.holds S1:=by
 cases x with
 |pt id off cs=>
  obtain⟨c,h1,h2⟩:=hx;exact⟨c,by rw[uN (h id (by simp[aB.ids]))];exact h1,h2⟩
 |sl v es L=>exact w5 h hx
 |ob id o=>exact(h id (by simp[aB.ids])).trans hx
section
variable{B S S1:AH}{M:List Nat}{own:List Own}{ro:List aB}
theorem Cx.step (H:Cx B M S own ro){i:Nat}{x x':Own}(hi:own[i]?=some x)(nE:S.next<=S1.next)(zD:∀id,id<S.next->id∉x.ids->S1.get id=S.get id)(hx:x'.holds S1)
  (mZ:∀id∈x'.ids,id<S1.next/\(id∈x.ids\/S.next<=id)):Cx B M S1 (own.set i x') ro:=by
 have kl:x∈own:=List.mem_of_getElem? hi;have Aa:=H.od;have uf:∀(j:Nat) y,j≠i->own[j]?=some y->∀id∈y.ids,id∉x.ids:=by
  intro j y hj hy id bQ hx;rw[List.pairwise_iff_getElem] at Aa;obtain⟨Eg,uO⟩:=List.getElem?_eq_some_iff.1 hi;obtain⟨Fl,JL⟩:=List.getElem?_eq_some_iff.1 hy;rcases Nat.lt_or_gt_of_ne hj with cA|I4;.exact Aa j i Fl Eg cA id (by rw[JL];exact bQ) (by rw[uO];exact hx)
  .exact Aa i j Eg Fl I4 id (by rw[uO];exact hx) (by rw[JL];exact bQ)
 have GL:∀y∈own.set i x',y=x'\/∃j,j≠i/\own[j]?=some y:=by
  intro y hy;obtain⟨j,hj⟩:=List.getElem?_of_mem hy;rw[List.getElem?_set] at hj;by_cases e:i=j
  .subst e;obtain⟨Eg,_⟩:=List.getElem?_eq_some_iff.1 hi;simp[Eg] at hj;exact .inl hj.symm
  .rw[if_neg e] at hj;exact .inr ⟨j,λh=>e h.symm,hj⟩
 refine⟨Nat.le_trans H.next nE,?_,?_,?_,?_,?_,?_⟩
 .intro id bQ hM;rw[zD id (Nat.lt_of_lt_of_le bQ H.next) (λhx=>hM ((H.oi x kl id hx).2 bQ)),H.iR id bQ hM]
 .intro y hy;rcases GL y hy with rfl|⟨j,hj,hy⟩;.exact hx
  .exact Own.gC (λid bQ=>zD id (H.oi y (List.mem_of_getElem? hy) id bQ).1 (uf j y hj hy id bQ)) (H.oh y (List.mem_of_getElem? hy))
 .intro y hy id bQ;rcases GL y hy with rfl|⟨j,hj,hy⟩
  .obtain⟨h1,h2⟩:=mZ id bQ;refine⟨h1,λhB=>?_⟩;rcases h2 with h2|h2;.exact(H.oi x kl id h2).2 hB
   .exact absurd hB (by have:=H.next;omega)
  .have:=H.oi y (List.mem_of_getElem? hy) id bQ;exact⟨Nat.lt_of_lt_of_le this.1 nE,this.2⟩
 .rw[List.pairwise_iff_getElem];rw[List.pairwise_iff_getElem] at Aa;intro a b ha hb Qc id h1 h2;rw[List.length_set] at ha hb;rw[List.getElem_set] at h1 h2;split at h1
  .rename_i ea;subst ea;rw[if_neg am] at h2;rcases(mZ id h1).2 with hx|hx;.exact uf b own[b] am (List.getElem?_eq_getElem hb) id h2 hx
   .have:=(H.oi _ (List.getElem_mem hb) id h2).1;omega
  .split at h2
   .rename_i eb;subst eb;rcases(mZ id h2).2 with hx|hx;.exact uf a own[a] am (List.getElem?_eq_getElem ha) id h1 hx
    .have:=(H.oi _ (List.getElem_mem ha) id h1).1;omega
   .exact Aa a b ha hb Qc id h1 h2
 .intro φ jt;exact aB.gC (λid bQ=>zD id (H.ri φ jt id bQ).1 ((H.ri φ jt id bQ).2 x kl)) (H.rh φ jt)
 .intro φ jt id bQ;have:=H.ri φ jt id bQ;refine⟨Nat.lt_of_lt_of_le this.1 nE,λy hy h=>?_⟩;rcases GL y hy with rfl|⟨j,hj,hy⟩
  .rcases(mZ id h).2 with hx|hx;.exact this.2 x kl hx
   .omega
  .exact this.2 y (List.mem_of_getElem? hy) h
theorem Cx.grow (H:Cx B M S own ro)(hg:aR S S1):Cx B M S1 own ro where
 next:=Nat.le_trans H.next hg.next
 iR:=λid h1 h2=>by rw[hg.iR id (Nat.lt_of_lt_of_le h1 H.next),H.iR id h1 h2]
 oh:=λx hx=>Own.gC (λid bQ=>hg.iR id (H.oi x hx id bQ).1) (H.oh x hx)
 oi:=λx hx id bQ=>⟨Nat.lt_of_lt_of_le (H.oi x hx id bQ).1 hg.next,(H.oi x hx id bQ).2⟩
 od:=H.od
 rh:=λφ jt=>aB.gC (λid bQ=>hg.iR id (H.ri φ jt id bQ).1) (H.rh φ jt)
 ri:=λφ jt id bQ=>⟨Nat.lt_of_lt_of_le (H.ri φ jt id bQ).1 hg.next,(H.ri φ jt id bQ).2⟩
theorem Cx.gD (H:Cx B M S own ro)(hg:aR S S1){x:Own}(hx:x.holds S1)(mZ:∀id∈x.ids,S.next<=id/\id<S1.next):Cx B M S1 (x::own) ro:=by
 have K:=H.grow hg;refine⟨K.next,K.iR,?_,?_,?_,K.rh,?_⟩
 .intro y hy;rcases List.mem_cons.1 hy with rfl|hy;.exact hx
  .exact K.oh y hy
 .intro y hy id bQ;rcases List.mem_cons.1 hy with rfl|hy
  .have:=mZ id bQ;exact⟨this.2,λhB=>absurd hB (by have:=H.next;omega)⟩
  .exact K.oi y hy id bQ
 .refine List.pairwise_cons.2 ⟨λy hy id h1 h2=>?_,K.od⟩;have:=(H.oi y hy id h2).1;have:=(mZ id h1).1;omega
 .intro φ jt id bQ;refine⟨(K.ri φ jt id bQ).1,λy hy=>?_⟩;rcases List.mem_cons.1 hy with rfl|hy
  .intro h;have:=(H.ri φ jt id bQ).1;have:=(mZ id h).1;omega
  .exact(K.ri φ jt id bQ).2 y hy
theorem Cx.uP (H:Cx B M S own ro){φ:aB}(hx:φ.holds S)(mZ:∀id∈φ.ids,id<S.next/\∀x∈own,id∉x.ids):Cx B M S own (φ::ro) where
 next:=H.next
 iR:=H.iR
 oh:=H.oh
 oi:=H.oi
 od:=H.od
 rh:=λψ MY=>by
  rcases List.mem_cons.1 MY with rfl|MY;.exact hx
  .exact H.rh ψ MY
 ri:=λψ MY=>by
  rcases List.mem_cons.1 MY with rfl|MY;.exact mZ
  .exact H.ri ψ MY
theorem Cx.Ab (H:Cx B M S own ro)(hg:aR S S1){φ:aB}(hx:φ.holds S1)(mZ:∀id∈φ.ids,S.next<=id/\id<S1.next):Cx B M S1 own (φ::ro):=
 (H.grow hg).uP hx λid bQ=>⟨(mZ id bQ).2,λx hx h=>by have:=(H.oi x hx id h).1;have:=(mZ id bQ).1;omega⟩
theorem Cx.BV (H:Cx B M S own ro){GM:List aB}(h:∀φ∈GM,φ∈ro):Cx B M S own GM:=
 ⟨H.next,H.iR,H.oh,H.oi,H.od,λφ jt=>H.rh φ (h φ jt),λφ jt=>H.ri φ (h φ jt)⟩
theorem Cx.yi (H:Cx B M S own ro){ab:List Own}(h:ab.Sublist own):Cx B M S ab ro:=
 ⟨H.next,H.iR,λx hx=>H.oh x (h.subset hx),λx hx=>H.oi x (h.subset hx),H.od.sublist h,H.rh,λφ jt id bQ=>⟨(H.ri φ jt id bQ).1,λx hx=>(H.ri φ jt id bQ).2 x (h.subset hx)⟩⟩
theorem Cx.tl {φ:aB}(H:Cx B M S own (φ::ro)):Cx B M S own ro:=H.BV λψ h=>List.mem_cons_of_mem _ h
theorem Cx.cr (H:Cx B [] S own ro):aR B S:=⟨H.next,λid h=>H.iR id h ac⟩
theorem Cx.enter {ro:List aB}(h:∀φ∈ro,φ.holds S/\∀id∈φ.ids,id<S.next):Cx S [] S [] ro where
 next:=Nat.le_refl _
 iR:=λ_ _ _=>rfl
 oh:=λ_ h=>by simp at h
 oi:=λ_ h=>by simp at h
 od:=List.Pairwise.nil
 rh:=λφ jt=>(h φ jt).1
 ri:=λφ jt id bQ=>⟨(h φ jt).2 id bQ,λ_ h=>by simp at h⟩
end
section
variable{P:Program}
theorem bj {α β:Type}{s:Sem α}{f:α->Sem β}:∀{a:α},br P s=some a->br P (s>>=f)=br P (f a):=by
 induction s with
 |pure a=>intro b h;simp[br] at h;subst h;rfl
 |program k ih=>intro b h;exact ih P h
 |mark m k ih=>intro b h;exact ih h
 |_=>intro b h;simp[br] at h
theorem fQ {α:Type}(a:α):br P (pure a:Sem α)=some a:=rfl
theorem eV:br P program=some P:=rfl
theorem dG {t:TypeId}{d:TypeDesc}(h:P.underlying t=some d):br P (underlying t)=some d:=by unfold underlying;rw[bj eV,h];rfl
theorem uQ {t:TypeId}{n:Nat}(h:aQ P t=some n):br P (sizeOf t)=some n:=by
 unfold aQ at h;cases hi:P.info? t with
 |none=>rw[hi] at h;cases h
 |some i=>
  rw[hi] at h;cases h;have ht:br P (typeInfo t)=some i:=by unfold typeInfo;rw[bj eV,hi];rfl
  unfold sizeOf;rw[bj ht];rfl
def sI (rec:TypeId->Option (List (Option IntKind)))(P:Program):List Field->Nat->Option (List (Option IntKind))
 |[],_=>some []
 |f::fs,off=>if f.name= "_" then none else if f.offset≠off then none else match rec f.type with
  |none=>none
  |some ks=>if aQ P f.type=some ks.length then(match sI rec P fs (off+ks.length) with|some l=>some (ks++l)|none=>none) else none
def fx (P:Program):Nat->TypeId->Option (List (Option IntKind))
 |0,_=>none
 |d+1,t=>match P.underlying t with
  |some .bool=>some [none]
  |some (.int k)=>some [some k]
  |some (.struct fs)=>if P.stoodInHeld t then none else sI (fx P d) P fs.toList 0
  |_=>none
def qM:Option IntKind->Value->Bool
 |none,.bool _=>true
 |some k,.int k' _=>decide (k=k')
 |_,_=>false
def aE:List (Option IntKind)->List Value->Bool
 |[],[]=>true
 |k::ks,v::vs=>qM k v&&aE ks vs
 |_,_=>false
def U_:Value->Value->Bool
 |.bool a,.bool b=>a==b
 |.int _ a,.int _ b=>a==b
 |_,_=>false
def m8:List Value->List Value->Bool
 |[],[]=>true
 |a::r,b::s=>U_ a b&&m8 r s
 |_,_=>false
theorem eg:∀{ks:List (Option IntKind)} {vs:List Value},aE ks vs=true->vs.length=ks.length
 |[],[],_=>rfl
 |[],_::_,h=>by simp[aE] at h
 |_::_,[],h=>by simp[aE] at h
 |_::ks,_::vs,h=>by simp only[aE,Bool.and_eq_true] at h;simp[eg h.2]
theorem k_:∀{ks ls:List (Option IntKind)} {vs:List Value},aE (ks++ls) vs=true->aE ks (vs.take ks.length)=true/\aE ls (vs.drop ks.length)=true
 |[],ls,vs,h=>by simpa[aE] using h
 |k::ks,ls,[],h=>by simp[aE] at h
 |k::ks,ls,v::vs,h=>by simp only[List.cons_append,aE,Bool.and_eq_true] at h;obtain⟨h1,h2⟩:=k_ h.2;simp[aE,h.1,h1,h2]
theorem sJ:∀{n:Nat} {xs ys:List Value},xs.length=ys.length->m8 xs ys=(m8 (xs.take n) (ys.take n)&&m8 (xs.drop n) (ys.drop n))
 |0,xs,ys,h=>by simp[m8]
 |n+1,[],[],h=>by simp[m8]
 |n+1,[],_::_,h=>by simp at h
 |n+1,_::_,[],h=>by simp at h
 |n+1,x::xs,y::ys,h=>by simp only[List.take_succ_cons,List.drop_succ_cons,m8];rw[sJ (n:=n) (by simpa using h),Bool.and_assoc]
def iM (P:Program)(t:TypeId)(vs:List Value):Value:=match P.underlying t with
 |some (.struct _)=>.agg vs.toArray
 |_=>vs.headD undef
theorem w6 {d:Nat}{t:TypeId}{ks:List (Option IntKind)}(hf:fx P d t=some ks)(hs:aQ P t=some ks.length){xs:List Value}{off:Nat}(hl:off+ks.length<=xs.length):
  br P (part t xs.toArray off)=some (iM P t ((xs.drop off).take ks.length)):=by
 cases d with
 |zero=>simp[fx] at hf
 |succ d=>
  unfold fx at hf;cases hu:P.underlying t with
  |none=>rw[hu] at hf;cases hf
  |some u=>
   rw[hu] at hf;have one:∀k,ks=[k]->(isAgg t=isAgg t)->br P (isAgg t)=some false->br P (part t xs.toArray off)=some (((xs.drop off).take ks.length).headD undef):=by
    intro k hk _ ha;subst hk;unfold part;rw[bj ha];have cA:off<xs.length:=by simp at hl;omega
    have h1:xs.toArray[off]?=some xs[off]:=by simp[cA]
    simp only[Bool.false_eq_true,if_false,h1,fQ];simp only[List.length_cons,List.length_nil];rw[List.drop_eq_getElem_cons cA];rfl
   have agg:∀b,(match u with|.struct _=>b=true|.array _ _=>b=true|_=>b=false)->br P (isAgg t)=some b:=by
    intro b hb;unfold isAgg;rw[bj (dG hu)];cases u<;>simp only at hb⊢<;>subst hb<;>rfl
   cases u with
   |bool=>cases hf;unfold iM;rw[hu];exact one _ rfl rfl (agg false rfl)
   |int k=>cases hf;unfold iM;rw[hu];exact one _ rfl rfl (agg false rfl)
   |struct fs=>
    unfold iM part;rw[hu,bj (agg true rfl)];simp only[if_true];rw[bj (uQ hs)];simp only[fQ,Option.some.injEq,Value.agg.injEq];apply Array.toList_inj.1;simp[List.take_drop]
   |_=>cases hf
theorem uR:∀(d:Nat) (t:TypeId) (ks:List (Option IntKind)),fx P d t=some ks->∀(D:Nat),d<=D->∀xs ys:List Value,aE ks xs=true->aE ks ys=true->
  br P (Op.equalIn D t (iM P t xs) (iM P t ys))=some (m8 xs ys)
 |0,t,ks,hf,_,_,_,_,_,_=>by simp[fx] at hf
 |d+1,t,ks,hf,0,hD,_,_,_,_=>am
 |d+1,t,ks,hf,D+1,hD,xs,ys,hx,hy=>by
  unfold fx at hf;cases hu:P.underlying t with
  |none=>rw[hu] at hf;cases hf
  |some u=>
   rw[hu] at hf;cases u with
   |bool=>
    cases hf;cases xs with
    |nil=>simp[aE] at hx
    |cons x xs=>
     cases ys with
     |nil=>simp[aE] at hy
     |cons y ys=>
      simp only[aE,Bool.and_eq_true] at hx hy;cases xs with
      |cons _ _=>simp[aE] at hx
      |nil=>
       cases ys with
       |cons _ _=>simp[aE] at hy
       |nil=>
        cases x<;>simp[qM] at hx
        cases y<;>simp[qM] at hy
        unfold iM Op.equalIn;rw[hu,bj (dG hu)];simp[m8,U_,fQ]
   |int k=>
    cases hf;cases xs with
    |nil=>simp[aE] at hx
    |cons x xs=>
     cases ys with
     |nil=>simp[aE] at hy
     |cons y ys=>
      simp only[aE,Bool.and_eq_true] at hx hy;cases xs with
      |cons _ _=>simp[aE] at hx
      |nil=>
       cases ys with
       |cons _ _=>simp[aE] at hy
       |nil=>
        cases x<;>simp[qM] at hx
        cases y<;>simp[qM] at hy
        have hx:=hx.1;have hy:=hy.1;subst hx;subst hy;unfold iM Op.equalIn;rw[hu,bj (dG hu)];simp[m8,U_,fQ]
   |struct fs=>
    simp only at hf;cases Qd:P.stoodInHeld t with
    |true=>rw[Qd] at hf;simp at hf
    |false=>
     rw[Qd] at hf;simp only[Bool.false_eq_true,if_false] at hf;unfold iM Op.equalIn;rw[hu,bj (dG hu)];simp only;rw[bj eV];simp only[Qd,Bool.false_eq_true,if_false];rw[<-Array.forIn_toList];have key:∀(fs:List Field) (off:Nat) (ks:List (Option IntKind)),sI (fx P d) P fs off=some ks->aE ks (xs.drop off)=true->aE ks (ys.drop off)=true->(off<=xs.length/\off<=ys.length)->
       br P (do
        let s <-forIn (m:=Sem) fs ((none,()):Option Bool×Unit) (λf s=>
         if f.name≠ "_" then do
          let a <-part f.type xs.toArray f.offset
          let b <-part f.type ys.toArray f.offset
          let c <-Op.equalIn D f.type a b
          if(!c)=true then pure (ForInStep.done (some false,())) else pure (ForInStep.yield (none,()))
         else pure (ForInStep.yield (none,())))
        match s.fst with
        |some a=>pure a
        |none=>pure true)=some (m8 (xs.drop off) (ys.drop off)):=by
      intro fs;induction fs with
      |nil=>
       intro off ks hf hx hy hle;cases hf;have e1:xs.drop off=[]:=List.length_eq_zero_iff.1 (eg hx);have e2:ys.drop off=[]:=List.length_eq_zero_iff.1 (eg hy);rw[e1,e2];rfl
      |cons f fs ih=>
       intro off ks hf hx hy hle;unfold sI at hf;by_cases hn:f.name= "_";.rw[if_pos hn] at hf;cases hf
       .rw[if_neg hn] at hf;by_cases ho:f.offset≠off;.rw[if_pos ho] at hf;cases hf
        .rw[if_neg ho] at hf;have ho:f.offset=off:=am;cases hr:fx P d f.type with
         |none=>rw[hr] at hf;cases hf
         |some k1=>
          rw[hr] at hf;simp only at hf;by_cases hs:aQ P f.type=some k1.length
          .rw[if_pos hs] at hf;cases uS:sI (fx P d) P fs (off+k1.length) with
           |none=>rw[uS] at hf;cases hf
           |some k2=>
            rw[uS] at hf;cases hf;obtain⟨x1,x2⟩:=k_ hx;obtain⟨y1,y2⟩:=k_ hy;have lx:=eg hx;have ly:=eg hy;simp only[List.length_drop,List.length_append] at lx ly;rw[List.drop_drop] at x2 y2;have ih:=ih (off+k1.length) k2 uS x2 y2 ⟨am,am⟩;have Qg:=w6 (P:=P) hr hs (xs:=xs) (off:=f.offset) am;have Va:=w6 (P:=P) hr hs (xs:=ys) (off:=f.offset) am;rw[ho] at Qg Va;have he:=uR d f.type k1 hr D am _ _ x1 y1;rw[List.forIn_cons];simp only[hn,ne_eq,not_false_eq_true,if_true,bind_assoc,ho];rw[bj Qg,bj Va,bj he];have GN:=sJ (n:=k1.length) (xs:=xs.drop off) (ys:=ys.drop off) (by simp;omega);rw[List.drop_drop,List.drop_drop] at GN;rw[GN];cases hb:m8 ((xs.drop off).take k1.length) ((ys.drop off).take k1.length) with
            |false=>simp[fQ,pure_bind]
            |true=>simp only[Bool.not_true,Bool.false_eq_true,if_false,pure_bind,Bool.true_and];exact ih
          .rw[if_neg hs] at hf;cases hf
     have:=key fs.toList 0 ks hf (by simpa using hx) (by simpa using hy) ⟨am,am⟩;rw[List.drop_zero,List.drop_zero] at this;refine Eq.trans (congrArg (br P) ?_) this;congr 1;funext s;obtain⟨a,b⟩:=s;cases a<;>rfl
   |_=>cases hf
end
abbrev I (n:Int):AV:=.sc (.int .i64 n)
abbrev U (n:Int):AV:=.sc (.int .u64 n)
abbrev B (b:Bool):AV:=.sc (.bool b)
abbrev Np:AV:=.sc (.pointer none)
abbrev Ns:AV:=.sc (.slice none 0 0)
abbrev Nm:AV:=.sc (.map none)
abbrev Nf:AV:=.sc .nilFunc
abbrev Ni:AV:=.sc .nilIface
abbrev Z (κ:IntKind)(n:Int):AV:=.sc (.int κ n)
theorem aY (κ:IntKind):nh κ κ=true:=by cases κ<;>rfl
theorem wrap64 {n:Int}(h1:-9223372036854775808<=n)(h2:n<=9223372036854775807):fT .i64 n=n:=by rw[bw,IntKind.wrap_i64];omega
section
variable{M:cQ}{S:AH}{Q:ga}{k:AV->AC}{κ:IntKind}{a b:Int}
theorem RA:evalOp M.P (.bin .add (Z κ a) (Z κ b)) S=some (Z κ (fT κ (a+b)),S):=by show eN (either (dx _ (Z κ a) (Z κ b)) _) S=_;simp only[dx,asInt,lI,aY];rfl
theorem RB:evalOp M.P (.bin .sub (Z κ a) (Z κ b)) S=some (Z κ (fT κ (a-b)),S):=by show eN (Mc (Z κ a) (Z κ b)) S=_;unfold Mc;simp only[dx,asInt,lI,aY];rfl
theorem RC:evalOp M.P (.bin .mul (Z κ a) (Z κ b)) S=some (Z κ (fT κ (a*b)),S):=by show eN (Md (Z κ a) (Z κ b)) S=_;unfold Md;simp only[dx,asInt,lI,aY];rfl
theorem RD (h:b≠0):evalOp M.P (.bin .quo (Z κ a) (Z κ b)) S=some (Z κ (fT κ (a.tdiv b)),S):=by
 show eN (Mf (Z κ a) (Z κ b)) S=_;unfold Mf;have:IY b 0=false:=by rw[gP];simpa using h
 simp only[dx,asInt,lI,aY,this];rfl
theorem RE (h:b≠0):evalOp M.P (.bin .rem (Z κ a) (Z κ b)) S=some (Z κ (a.tmod b),S):=by
 show eN (Mg (Z κ a) (Z κ b)) S=_;unfold Mg;have:IY b 0=false:=by rw[gP];simpa using h
 simp only[dx,asInt,lI,aY,this];rfl
theorem GO:evalOp M.P (.bin .lss (Z κ a) (Z κ b)) S=some (B (decide (a<b)),S):=by show eN (either (dx _ (Z κ a) (Z κ b)) _) S=_;simp only[dx,asInt,lI,aY,f_];rfl
theorem GP:evalOp M.P (.bin .leq (Z κ a) (Z κ b)) S=some (B (decide (a<=b)),S):=by
 show eN (either (dx _ (Z κ a) (Z κ b)) _) S=_;have:(!decide (b<a))=decide (a<=b):=by rw[Bool.eq_iff_iff];simp
 simp only[dx,asInt,lI,aY,f_,this];rfl
theorem GQ:evalOp M.P (.bin .gtr (Z κ a) (Z κ b)) S=some (B (decide (b<a)),S):=by show eN (either (dx _ (Z κ a) (Z κ b)) _) S=_;simp only[dx,asInt,lI,aY,f_];rfl
theorem GR:evalOp M.P (.bin .geq (Z κ a) (Z κ b)) S=some (B (decide (b<=a)),S):=by
 show eN (either (dx _ (Z κ a) (Z κ b)) _) S=_;have:(!decide (a<b))=decide (b<=a):=by rw[Bool.eq_iff_iff];simp
 simp only[dx,asInt,lI,aY,f_,this];rfl
theorem C6:evalOp M.P (.bin .eql (Z κ a) (Z κ b)) S=some (B (decide (a=b)),S):=by
 show eN (either (dx _ (Z κ a) (Z κ b)) _) S=_;have:(a==b)=decide (a=b):=by rw[Bool.eq_iff_iff];simp
 simp only[dx,asInt,lI,aY,gP,this];rfl
theorem GS:evalOp M.P (.bin .neq (Z κ a) (Z κ b)) S=some (B (decide (a≠b)),S):=by
 show eN (either (dx _ (Z κ a) (Z κ b)) _) S=_;have:(!(a==b))=decide (a≠b):=by rw[Bool.eq_iff_iff];simp
 simp only[dx,asInt,lI,aY,gP,this];rfl
theorem uT {c:Int}(hw:fT κ (a+b)=c)(h:wp M (k (Z κ c)) S Q):wp M (.op (.bin .add (Z κ a) (Z κ b)) k) S Q:=ae RA (hw▸h)
theorem uU {c:Int}(hw:fT κ (a-b)=c)(h:wp M (k (Z κ c)) S Q):wp M (.op (.bin .sub (Z κ a) (Z κ b)) k) S Q:=ae RB (hw▸h)
theorem GU {c:Int}(hw:fT κ (a*b)=c)(h:wp M (k (Z κ c)) S Q):wp M (.op (.bin .mul (Z κ a) (Z κ b)) k) S Q:=ae RC (hw▸h)
theorem GV {c:Int}(hb:b≠0)(hw:fT κ (a.tdiv b)=c)(h:wp M (k (Z κ c)) S Q):wp M (.op (.bin .quo (Z κ a) (Z κ b)) k) S Q:=ae (RD hb) (hw▸h)
theorem yj (hb:b≠0)(h:wp M (k (Z κ (a.tmod b))) S Q):wp M (.op (.bin .rem (Z κ a) (Z κ b)) k) S Q:=ae (RE hb) h
theorem ct (h1:-9223372036854775808<=a+b)(h2:a+b<=9223372036854775807)(h:wp M (k (I (a+b))) S Q):wp M (.op (.bin .add (I a) (I b)) k) S Q:=uT (wrap64 h1 h2) h
theorem jU (h1:-9223372036854775808<=a-b)(h2:a-b<=9223372036854775807)(h:wp M (k (I (a-b))) S Q):wp M (.op (.bin .sub (I a) (I b)) k) S Q:=uU (wrap64 h1 h2) h
theorem nM (h0:a<b)(h:wp M (k (B true)) S Q):wp M (.op (.bin .lss (Z κ a) (Z κ b)) k) S Q:=ae GO (by rw[decide_eq_true h0];exact h)
theorem jV (h0:b<=a)(h:wp M (k (B false)) S Q):wp M (.op (.bin .lss (Z κ a) (Z κ b)) k) S Q:=ae GO (by rw[decide_eq_false am];exact h)
theorem fL (h1:a<b->wp M (k (B true)) S Q)(h2:b<=a->wp M (k (B false)) S Q):wp M (.op (.bin .lss (Z κ a) (Z κ b)) k) S Q:=
 if h:a<b then nM h (h1 h) else jV am (h2 am)
theorem GW (h0:a<=b)(h:wp M (k (B true)) S Q):wp M (.op (.bin .leq (Z κ a) (Z κ b)) k) S Q:=ae GP (by rw[decide_eq_true h0];exact h)
theorem GX (h0:b<a)(h:wp M (k (B false)) S Q):wp M (.op (.bin .leq (Z κ a) (Z κ b)) k) S Q:=ae GP (by rw[decide_eq_false am];exact h)
theorem nN (h1:a<=b->wp M (k (B true)) S Q)(h2:b<a->wp M (k (B false)) S Q):wp M (.op (.bin .leq (Z κ a) (Z κ b)) k) S Q:=
 if h:a<=b then GW h (h1 h) else GX am (h2 am)
theorem GY (h0:b<a)(h:wp M (k (B true)) S Q):wp M (.op (.bin .gtr (Z κ a) (Z κ b)) k) S Q:=ae GQ (by rw[decide_eq_true h0];exact h)
theorem uV (h0:a<=b)(h:wp M (k (B false)) S Q):wp M (.op (.bin .gtr (Z κ a) (Z κ b)) k) S Q:=ae GQ (by rw[decide_eq_false am];exact h)
theorem ja (h1:b<a->wp M (k (B true)) S Q)(h2:a<=b->wp M (k (B false)) S Q):wp M (.op (.bin .gtr (Z κ a) (Z κ b)) k) S Q:=
 if h:b<a then GY h (h1 h) else uV am (h2 am)
theorem GZ (h0:b<=a)(h:wp M (k (B true)) S Q):wp M (.op (.bin .geq (Z κ a) (Z κ b)) k) S Q:=ae GR (by rw[decide_eq_true h0];exact h)
theorem G0 (h0:a<b)(h:wp M (k (B false)) S Q):wp M (.op (.bin .geq (Z κ a) (Z κ b)) k) S Q:=ae GR (by rw[decide_eq_false am];exact h)
theorem jW (h1:b<=a->wp M (k (B true)) S Q)(h2:a<b->wp M (k (B false)) S Q):wp M (.op (.bin .geq (Z κ a) (Z κ b)) k) S Q:=
 if h:b<=a then GZ h (h1 h) else G0 am (h2 am)
theorem G1 (h0:a=b)(h:wp M (k (B true)) S Q):wp M (.op (.bin .eql (Z κ a) (Z κ b)) k) S Q:=ae C6 (by rw[decide_eq_true h0];exact h)
theorem G2 (h0:a≠b)(h:wp M (k (B false)) S Q):wp M (.op (.bin .eql (Z κ a) (Z κ b)) k) S Q:=ae C6 (by rw[decide_eq_false h0];exact h)
theorem lg (h1:a=b->wp M (k (B true)) S Q)(h2:a≠b->wp M (k (B false)) S Q):wp M (.op (.bin .eql (Z κ a) (Z κ b)) k) S Q:=
 if h:a=b then G1 h (h1 h) else G2 h (h2 h)
theorem uW (h0:a≠b)(h:wp M (k (B true)) S Q):wp M (.op (.bin .neq (Z κ a) (Z κ b)) k) S Q:=ae GS (by rw[decide_eq_true h0];exact h)
theorem Ad (h0:a=b)(h:wp M (k (B false)) S Q):wp M (.op (.bin .neq (Z κ a) (Z κ b)) k) S Q:=ae GS (by rw[decide_eq_false (by simpa using h0)];exact h)
theorem gE (h1:a≠b->wp M (k (B true)) S Q)(h2:a=b->wp M (k (B false)) S Q):wp M (.op (.bin .neq (Z κ a) (Z κ b)) k) S Q:=
 if h:a=b then Ad h (h2 h) else uW h (h1 h)
theorem cI {g:Bool}{o:fD}(h:wp M (.op o k) S Q):wp M (.hZ (B g) g o k) S Q:=by
 obtain⟨t,vs,S',⟨n0,h1⟩,h2⟩:=h;refine⟨t,vs,S',⟨n0,λn hn=>?_⟩,h2⟩;have:=h1 n hn;rw[ij] at this;rw[tD];unfold rC;cases g<;>exact this
theorem dW {g g':Bool}{o:fD}(hg:g'=!g)(h:wp M (k uv) S Q):wp M (.hZ (B g) g' o k) S Q:=uK (by subst hg;cases g<;>rfl) h
theorem eC {g':Bool}{o:fD}(h:wp M (k uv) S Q):wp M (.hZ uv g' o k) S Q:=uK rfl h
theorem cK {g:Bool}{f:AV}{args:List AV}(h:wp M (.call f args k) S Q):wp M (.dO (B g) g f args k) S Q:=by
 obtain⟨t,vs,S',⟨n0,h1⟩,h2⟩:=h;refine⟨t,vs,S',⟨n0,λn hn=>?_⟩,h2⟩;have:=h1 n hn;rw[nF] at this;rw[rI];unfold nq;cases g<;>exact this
theorem cD {g g':Bool}{f:AV}{args:List AV}(hg:g'=!g)(h:wp M (k uv) S Q):wp M (.dO (B g) g' f args k) S Q:=qK (by subst hg;cases g<;>rfl) h
theorem cL {g':Bool}{f:AV}{args:List AV}(h:wp M (k uv) S Q):wp M (.dO uv g' f args k) S Q:=qK rfl h
theorem cT {x y:AC}(h:wp M x S Q):wp M (.ite (B true) x y) S Q:=GG h
theorem cU {x y:AC}(h:wp M y S Q):wp M (.ite (B false) x y) S Q:=GG h
theorem G3 {c:Bool}{x y:AC}(h1:c=true->wp M x S Q)(h2:c=false->wp M y S Q):wp M (.ite (B c) x y) S Q:=by
 cases c with
 |true=>exact cT (h1 rfl)
 |false=>exact cU (h2 rfl)
theorem wt {op:BinOp}{t:TypeId}{x y:Operand}{a b:Bool}:br M.P (eqGuard op t x y (.bool a) (.bool b))=some ():=by
 cases op<;>rfl
theorem RF {t:TypeId}{x y n:Bool}(ht:M.P.underlying t=some .bool):evalOp M.P (.eq t n (B x) (B y)) S=some (B (if n then !(x==y) else(x==y)),S):=by
 show eN (Ff M.P t n (B x) (B y)) S=_;have h2:zh M.P t (B x) (B y)=some (x==y):=by
  unfold zh I_;have h1:sk (B x)=some (.bool x):=by simp[sk]
  have h2:sk (B y)=some (.bool y):=by simp[sk]
  have h3:br M.P (Op.equal t (.bool x) (.bool y))=some (x==y):=by show br M.P (Op.equalIn (9999+1) t (.bool x) (.bool y))=_;unfold Op.equalIn;rw[bj (dG ht)];rfl
  have h4:iN (B x)=none:=rfl;have e1:kS (B x)=0:=rfl;have e2:kS (B y)=0:=rfl;simp only[e1,e2,h1,h2,h3,h4,wt,ni];rfl
 unfold Ff;rw[h2];cases n<;>rfl
theorem C7 {cs:List AV}{vs:List Value}(h:sV cs=some vs):sk (.agg cs)=some (.agg vs.toArray):=by simp[sk,h]
theorem LA {t:TypeId}{ks:List (Option IntKind)}{d:Nat}{xs ys:List AV}{vx vy:List Value}{n:Bool}(hf:fx M.P d t=some ks)(hd:d<=10000){fs:Array Field}(hu:M.P.underlying t=some (.struct fs))
  (hg:M.P.eqGuardType M.P.depth t=false) (h1:sV xs=some vx) (h2:sV ys=some vy) (h3:aE ks vx=true) (h4:aE ks vy=true):
  evalOp M.P (.eq t n (.agg xs) (.agg ys)) S=some (B (if n then !(m8 vx vy) else m8 vx vy),S):=by
 show eN (Ff M.P t n (.agg xs) (.agg ys)) S=_;have h5:zh M.P t (.agg xs) (.agg ys)=some (m8 vx vy):=by
  unfold zh I_;have g1:=C7 h1;have g2:=C7 h2;have g3:br M.P (Op.equal t (.agg vx.toArray) (.agg vy.toArray))=some (m8 vx vy):=by have:=uR d t ks hf 10000 hd vx vy h3 h4;unfold iM at this;rw[hu] at this;exact this
  have g4:iN (.agg xs)=none:=rfl;have e1:kS (.agg xs)=0:=rfl;have e2:kS (.agg ys)=0:=rfl;have g5:br M.P (eqGuard .eql t (.tmp 0) (.tmp 0) (.agg vx.toArray) (.agg vy.toArray))=some ():=by unfold eqGuard;simp only[Bool.not_true,Bool.false_eq_true,if_false];rw[bj eV,bj eV];simp[hg,fQ]
  simp only[e1,e2,g1,g2,g3,g4,g5,ni];rfl
 unfold Ff;rw[h5];cases n<;>rfl
theorem rN:∀{ks:List (Option IntKind)} {vs:List Value},aE ks vs=true->m8 vs vs=true
 |[],[],_=>rfl
 |[],_::_,h=>by simp[aE] at h
 |_::_,[],h=>by simp[aE] at h
 |k::ks,v::vs,h=>by
  simp only[aE,Bool.and_eq_true] at h;simp only[m8,rN h.2,Bool.and_true];cases v<;>cases k<;>simp[qM] at h<;>simp[U_]
end
theorem dh {S:AH}{id:Nat}{c:List AV}(h:S.get id=some (.row c)):S.cells? id=some c:=by unfold AH.cells?;rw[h];rfl
theorem C8 {S:AH}{id:Nat}{c:List AV}(h:S.get id=some (.row c)):S.row? id=some c:=by unfold AH.row?;rw[h];rfl
theorem bk (S:AH)(o:AO):(S.new o).get S.next=some o:=by rw[AH.cg,if_pos rfl]
theorem cJ {a b:Nat}(h:a<=b):Nat.ble a b=true:=Nat.ble_eq_true_of_le h
theorem mz {cs:List AV}{off:Nat}{v:AV}(h:cs[off]?=some v):fE false cs off 1=some v:=by show zi cs off=_;rw[og];exact h
theorem mA {cs:List AV}{off n:Nat}(h:off+n<=cs.length):fE true cs off n=some (.agg ((cs.drop off).take n)):=by
 unfold fE;have:Nat.ble (Nat.add off n) (bD cs)=true:=by rw[aS];exact cJ h
 simp only[this,dF,dV]
section
variable{M:cQ}{B0 S:AH}{W:List Nat}{own:List Own}{ro:List aB}{Q:ga}{k:AV->AC}
theorem rO {id off j:Nat}{cs:List AV}{v:AV}(h:(aB.pt id off cs).holds S)(hj:cs[j]?=some v):∃c,S.cells? id=some c/\c[off+j]?=some v:=by
 obtain⟨c,h1,_,h2⟩:=h;refine⟨c,h1,?_⟩;rw[<-h2,List.getElem?_take,List.getElem?_drop] at hj;split at hj;.exact hj
 .cases hj
theorem MZ {id off j n:Nat}{cs:List AV}(h:(aB.pt id off cs).holds S)(hj:j+n<=cs.length):∃c,S.cells? id=some c/\off+j+n<=c.length/\(c.drop (off+j)).take n=(cs.drop j).take n:=by obtain⟨c,h1,hl,h2⟩:=h;refine⟨c,h1,am,?_⟩;rw[<-h2,List.drop_take,List.drop_drop,List.take_take,Nat.min_eq_left am]
theorem ju {id off:Nat}{c:List AV}{v:AV}(h1:S.cells? id=some c)(h2:c[off]?=some v):evalOp M.P (.load 1 false (.ptr id off)) S=some (v,S):=by
 show eN (mQ S 1 false (.ptr id off)) S=_;have:mQ S 1 false (.ptr id off)=some v:=by show(match S.cells? id with|some c=>fE false c off 1|none=>none)=_;rw[h1];exact mz h2
 rw[this];rfl
theorem yk {id off n:Nat}{c:List AV}(h1:S.cells? id=some c)(h2:off+n<=c.length):evalOp M.P (.load n true (.ptr id off)) S=some (.agg ((c.drop off).take n),S):=by
 show eN (mQ S n true (.ptr id off)) S=_;have:mQ S n true (.ptr id off)=some (.agg ((c.drop off).take n)):=by show(match S.cells? id with|some c=>fE true c off n|none=>none)=_;rw[h1];exact mA h2
 rw[this];rfl
theorem lU (H:Cx B0 W S own ro){id off j:Nat}{cs:List AV}{v:AV}(hm:aB.pt id off cs∈ro)(hj:cs[j]?=some v)(h:wp M (k v) S Q):wp M (.op (.load 1 false (.ptr id (Nat.add off j))) k) S Q:=by obtain⟨c,h1,h2⟩:=rO (H.rh _ hm) hj;exact ae (ju h1 h2) h
theorem Ae (H:Cx B0 W S own ro){id off:Nat}{cs:List AV}{v:AV}(hm:aB.pt id off cs∈ro)(hj:cs[0]?=some v)(h:wp M (k v) S Q):wp M (.op (.load 1 false (.ptr id off)) k) S Q:=
 lU (j:=0) H hm hj h
theorem uX (H:Cx B0 W S own ro){id off j n:Nat}{cs:List AV}(hm:aB.pt id off cs∈ro)(hj:j+n<=cs.length)(h:wp M (k (.agg ((cs.drop j).take n))) S Q):wp M (.op (.load n true (.ptr id (Nat.add off j))) k) S Q:=by obtain⟨c,h1,h2,h3⟩:=MZ (H.rh _ hm) hj;exact ae (yk h1 h2) (h3▸h)
theorem uY (H:Cx B0 W S own ro){id off n:Nat}{cs:List AV}(hm:aB.pt id off cs∈ro)(hj:n<=cs.length)(h:wp M (k (.agg (cs.take n))) S Q):wp M (.op (.load n true (.ptr id off)) k) S Q:=
 uX (j:=0) H hm am h
theorem gf (H:Cx B0 W S own ro){x:AV}(ho:odd x=false)(h:∀id S1,Cx B0 W S1 own (.pt id 0 x.cells::ro)->wp M (k (.ptr id 0)) S1 Q):wp M (.op (.box x) k) S Q:=by
 refine ae (v:=.ptr S.next 0) (S1:=S.new (.row x.cells)) ?_ (h _ _ (H.Ab (aR.new S _) ?_ ?_))
 .show Bo x S=_;unfold Bo;rw[ho];rfl
 .exact⟨x.cells,dh (bk _ _),am,ac⟩
 .intro id bQ;simp only[aB.ids,List.mem_singleton] at bQ;subst bQ;exact⟨Nat.le_refl _,ac⟩
theorem fR (H:Cx B0 W S own ro){x:AV}(ho:odd x=false)(h:∀id S1,Cx B0 W S1 (.obj id (.row x.cells)::own) ro->wp M (k (.ptr id 0)) S1 Q):wp M (.op (.box x) k) S Q:=by
 refine ae (v:=.ptr S.next 0) (S1:=S.new (.row x.cells)) ?_ (h _ _ (H.gD (aR.new S _) (bk _ _) ?_))
 .show Bo x S=_;unfold Bo;rw[ho];rfl
 .intro id bQ;simp only[Own.ids,List.mem_singleton] at bQ;subst bQ;exact⟨Nat.le_refl _,ac⟩
theorem fM (H:Cx B0 W S own ro){c:List AV}(h:∀id S1,Cx B0 W S1 (.obj id (.row c)::own) ro->wp M (k (.ptr id 0)) S1 Q):wp M (.op (.alloc c) k) S Q:=by refine ae (v:=.ptr S.next 0) (S1:=S.new (.row c)) rfl (h _ _ (H.gD (aR.new S _) (bk _ _) ?_));intro id bQ;simp only[Own.ids,List.mem_singleton] at bQ;subst bQ;exact⟨Nat.le_refl _,ac⟩
theorem Cx.freeze (H:Cx B0 W S own ro){i id:Nat}{c:List AV}(hi:own[i]?=some (.obj id (.row c))):Cx B0 W S (own.eraseIdx i) (.pt id 0 c::ro):=by
 have kl:=List.mem_of_getElem? hi;have Af:∀x∈own.eraseIdx i,x∈own:=λx hx=>List.mem_of_mem_eraseIdx hx;have K:Cx B0 W S (own.eraseIdx i) ro:=⟨H.next,H.iR,λx hx=>H.oh x (Af x hx),λx hx=>H.oi x (Af x hx),H.od.sublist (List.eraseIdx_sublist _ _),H.rh,λφ jt id bQ=>⟨(H.ri φ jt id bQ).1,λx hx=>(H.ri φ jt id bQ).2 x (Af x hx)⟩⟩;refine K.uP ⟨c,dh (H.oh _ kl),am,ac⟩ λj hj=>?_;simp only[aB.ids,List.mem_singleton] at hj;subst hj;refine⟨(H.oi _ kl j (by simp[Own.ids])).1,λx hx hj=>?_⟩;obtain⟨m,hm⟩:=List.getElem?_of_mem hx;have hp:=H.od;rw[List.pairwise_iff_getElem] at hp;obtain⟨Eg,uO⟩:=List.getElem?_eq_some_iff.1 hi;rw[List.getElem?_eraseIdx] at hm;split at hm
 .rename_i cA;obtain⟨Fm,vV⟩:=List.getElem?_eq_some_iff.1 hm;exact hp m i Fm Eg cA j (by rw[vV];exact hj) (by rw[uO];simp[Own.ids])
 .rename_i zw;obtain⟨Fm,vV⟩:=List.getElem?_eq_some_iff.1 hm;exact hp i (m+1) Eg Fm am j (by rw[uO];simp[Own.ids]) (by rw[vV];exact hj)
theorem gl (H:Cx B0 W S own ro)(i:Nat){id off n:Nat}{c:List AV}{v:AV}(hi:own[i]?=some (.obj id (.row c)))(ho:odd v=false)(hn:v.cells.length=n)(hl:off+n<=c.length)
  (h:∀S1,Cx B0 W S1 (own.set i (.obj id (.row (aH c off v.cells)))) ro->wp M (k uv) S1 Q):wp M (.op (.store n (.ptr id off) v) k) S Q:=by
 have hg:S.get id=some (.row c):=H.oh _ (List.mem_of_getElem? hi);refine ae (v:=uv) (S1:=S.set id (.row (aH c off v.cells))) ?_ (h _ (H.step hi (Nat.le_refl _) ?_ ?_ ?_))
 .show ph n (.ptr id off) v S=_;unfold ph;have h1:iN (.ptr id off)=some (id,off):=rfl;have h2:(not (odd v)&&Nat.beq (bD v.cells) n&&Nat.ble (Nat.add off n) (bD c))=true:=by
   have q1:Nat.beq (bD v.cells) n=true:=by rw[aS,hn];exact Nat.beq_refl n
   have q2:Nat.ble (Nat.add off n) (bD c)=true:=by rw[aS];exact cJ hl
   simp only[ho,q1,q2];rfl
  simp only[h1,C8 hg,h2]
 .intro j hj fI;rw[AH.db,if_neg (by simpa[Own.ids] using fI)]
 .show(S.set id _).get id=_;rw[AH.db,if_pos rfl]
 .intro j hj;simp only[Own.ids,List.mem_singleton] at hj;subst hj;exact⟨(H.oi _ (List.mem_of_getElem? hi) j (by simp[Own.ids])).1,.inl (by simp[Own.ids])⟩
theorem qN (H:Cx B0 W S own ro)(i:Nat){id off:Nat}{c:List AV}{v:AV}(hi:own[i]?=some (.obj id (.row c)))(hj:c[off]?=some v)(h:wp M (k v) S Q):wp M (.op (.load 1 false (.ptr id off)) k) S Q:=
 ae (ju (dh (H.oh _ (List.mem_of_getElem? hi))) hj) h
theorem gF (H:Cx B0 W S own ro)(i:Nat){id off n:Nat}{c:List AV}(hi:own[i]?=some (.obj id (.row c)))(hj:off+n<=c.length)(h:wp M (k (.agg ((c.drop off).take n))) S Q):wp M (.op (.load n true (.ptr id off)) k) S Q:=
 ae (yk (dh (H.oh _ (List.mem_of_getElem? hi))) hj) h
end
section
variable{M:cQ}{B0 S:AH}{W:List Nat}{own:List Own}{ro:List aB}{Q:ga}{k:AV->AC}
theorem Ag {v:AV}{es:Nat}{L:List (List AV)}(h:g_ S v es L):evalOp M.P (.len false v) S=some (I L.length,S):=by
 rcases h with⟨⟨_,rfl⟩,rfl⟩|⟨id,off,c,h1,h2,h3,h4⟩;.rfl
 .rcases h1 with⟨cap,_,_,rfl⟩|⟨dq,_,_,rfl⟩<;>rfl
theorem iT {v:AV}{es:Nat}{L:List (List AV)}(h:(Own.sl v es L).holds S):g_ S v es L:=by
 rcases h with h|⟨id,off,c,h0,h1,h2⟩;.exact .inl ⟨⟨none,h.1⟩,h.2⟩
 .exact .inr ⟨id,off,c,h0,dh h1,h2⟩
theorem iu (H:Cx B0 W S own ro){v:AV}{es:Nat}{L:List (List AV)}(hm:aB.sl v es L∈ro)(h:wp M (k (I L.length)) S Q):wp M (.op (.len false v) k) S Q:=ae (Ag (H.rh _ hm)) h
theorem C9 (H:Cx B0 W S own ro)(i:Nat){v:AV}{es:Nat}{L:List (List AV)}(hm:own[i]?=some (.sl v es L))(h:wp M (k (I L.length)) S Q):wp M (.op (.len false v) k) S Q:=
 ae (Ag (iT (H.oh _ (List.mem_of_getElem? hm)))) h
theorem iv:∀{L:List (List AV)} {es:Nat} (h:∀x∈L,x.length=es) {i:Nat} {x:List AV},L[i]?=some x->(L.flatten.drop (i*es)).take es=x
 |[],es,h,i,x,hx=>by simp at hx
 |y::L,es,h,0,x,hx=>by
  simp at hx;subst hx;have:=h y ac;simp[<-this]
 |y::L,es,h,i+1,x,hx=>by have hy:=h y ac;simp only[List.flatten_cons];rw[show(i+1)*es=y.length+i*es by rw[hy,Nat.succ_mul];omega,List.drop_append];simp only[Nat.add_sub_cancel_left];have e:y.drop (y.length+i*es)=[]:=List.drop_eq_nil_of_le am;rw[e,List.nil_append];exact iv (λz hz=>h z (by simp[hz])) (by simpa using hx)
theorem bm:∀{L:List (List AV)} {es:Nat} (h:∀x∈L,x.length=es),L.flatten.length=L.length*es
 |[],es,h=>ac
 |y::L,es,h=>by simp only[List.flatten_cons,List.length_append,List.length_cons];rw[h y ac,bm (λz hz=>h z (by simp[hz])),Nat.succ_mul];omega
theorem rP {v:AV}{es:Nat}{L:List (List AV)}(h:g_ S v es L){i:Nat}{x:List AV}(hi:L[i]?=some x):
  ∃id off,evalOp M.P (.da es v (I (i:Int))) S=some (.ptr id off,S)/\(aB.pt id off x).holds S/\id∈dQ v:=by
 have cA:i<L.length:=(List.getElem?_eq_some_iff.1 hi).1;rcases h with⟨⟨_,rfl⟩,rfl⟩|⟨id,off,c,h1,h2,h3,h4⟩;.simp at hi
 .have hx:=h4 x (List.mem_of_getElem? hi);have Ah:nj (I (i:Int)) L.length=some i:=by show below i L.length=some i;unfold below;rw[cJ cA]
  have hlen:off+L.length*es<=c.length\/es=0:=by
   have:=congrArg List.length h3;rw[bm h4,List.length_take,List.length_drop] at this;rcases Nat.eq_zero_or_pos es with e|e;.exact .inr e
   .left;have:0<L.length*es:=Nat.mul_pos am e;omega
  have oK:off+i*es+x.length<=c.length:=by
   rcases hlen with hl|hl
   .have:(i+1)*es<=L.length*es:=Nat.mul_le_mul_right es cA;rw[Nat.succ_mul] at this;omega
   .subst hl;rcases h1 with⟨cap,_,hh,_⟩|⟨dq,_,hh,_⟩<;>simp only[Nat.mul_zero,Nat.add_zero] at hh⊢<;>omega
  refine⟨id,off+i*es,?_,⟨c,h2,oK,?_⟩,?_⟩
  .rcases h1 with⟨cap,_,_,rfl⟩|⟨dq,_,_,rfl⟩
   .show eN (fZ es (.sl id off L.length cap) (I (i:Int))) S=_;unfold fZ;simp only[Ah];rfl
   .show eN (fZ es (.op id off L.length dq es) (I (i:Int))) S=_;unfold fZ;simp only[Ah];rfl
  .have:=iv h4 hi;rw[<-h3,List.drop_take,List.drop_drop,List.take_take] at this;rw[hx];rw[Nat.min_eq_left] at this;.exact this
   .have:(i+1)*es<=L.length*es:=Nat.mul_le_mul_right es cA;rw[Nat.succ_mul] at this;omega
  .rcases h1 with⟨cap,_,_,rfl⟩|⟨dq,_,_,rfl⟩<;>simp[dQ]
theorem nO (H:Cx B0 W S own ro){v:AV}{es i:Nat}{L:List (List AV)}{x:List AV}(hm:aB.sl v es L∈ro)(hi:L[i]?=some x)
  (h:∀id off,Cx B0 W S own (.pt id off x::ro)->wp M (k (.ptr id off)) S Q):wp M (.op (.da es v (I (i:Int))) k) S Q:=by
 obtain⟨id,off,h1,h2,h3⟩:=rP (M:=M) (H.rh _ hm) hi;refine ae h1 (h id off (H.uP h2 λj hj=>?_));simp only[aB.ids,List.mem_singleton] at hj;subst hj;exact H.ri _ hm j h3
theorem jI (H:Cx B0 W S own ro)(n:Nat){v:AV}{es i:Nat}{L:List (List AV)}{x:List AV}(hm:own[n]?=some (.sl v es L))(hi:L[i]?=some x)
  (h:∀id off,(aB.pt id off x).holds S->wp M (k (.ptr id off)) S Q):wp M (.op (.da es v (I (i:Int))) k) S Q:=by
 obtain⟨id,off,h1,h2,h3⟩:=rP (M:=M) (iT (H.oh _ (List.mem_of_getElem? hm))) hi;exact ae h1 (h id off h2)
theorem Ai {id off j:Nat}{cs:List AV}{v:AV}(hp:(aB.pt id off cs).holds S)(hj:cs[j]?=some v)(h:wp M (k v) S Q):wp M (.op (.load 1 false (.ptr id (Nat.add off j))) k) S Q:=by obtain⟨c,h1,h2⟩:=rO hp hj;exact ae (ju h1 h2) h
theorem cV {id off f:Nat}(h:wp M (k (.ptr id (Nat.add off f))) S Q):wp M (.op (.lG f (.ptr id off)) k) S Q:=ae rfl h
theorem dS {id off:Nat}(h:wp M (k (.ptr id off)) S Q):wp M (.op (.pc (.ptr id off)) k) S Q:=ae rfl h
theorem yl {v:AV}{es n id off i:Nat}{c:List AV}(h:uM v es n id off c)(hi:i<n):evalOp M.P (.da es v (I (i:Int))) S=some (.ptr id (off+i*es),S):=by
 have Ah:nj (I (i:Int)) n=some i:=by show below i n=some i;unfold below;rw[cJ hi]
 rcases h with⟨cap,_,_,rfl⟩|⟨dq,_,_,rfl⟩
 .show eN (fZ es (.sl id off n cap) (I (i:Int))) S=_;unfold fZ;simp only[Ah];rfl
 .show eN (fZ es (.op id off n dq es) (I (i:Int))) S=_;unfold fZ;simp only[Ah];rfl
theorem jb {c ys:List AV}{off:Nat}(h:off+ys.length<=c.length):(aH c off ys).length=c.length:=by rw[bM];simp;omega
theorem jv {c ys:List AV}{off:Nat}(h:off+ys.length<=c.length)(j:Nat):(aH c off ys)[j]?=if off<=j/\j<off+ys.length then ys[j-off]? else c[j]?:=by
 have h1:(c.take off).length=off:=by rw[List.length_take];omega
 rw[bM,List.getElem?_append,h1];by_cases h2:j<off;.rw[if_pos h2,if_neg am,List.getElem?_take,if_pos h2]
 .rw[if_neg h2,List.getElem?_append];by_cases h3:j-off<ys.length;.rw[if_pos h3,if_pos am]
  .rw[if_neg h3,if_neg am,List.getElem?_drop];congr 1;omega
theorem sK:∀{L:List (List AV)} {es:Nat} (h:∀x∈L,x.length=es) {i:Nat} {ys:List AV},i<L.length->ys.length=es->(L.set i ys).flatten=aH L.flatten (i*es) ys
 |[],es,h,i,ys,hi,hy=>by simp at hi
 |y::L,es,h,0,ys,hi,hy=>by
  have:=h y ac;rw[bM];simp only[List.set_cons_zero,List.flatten_cons,Nat.zero_mul,List.take_zero,Nat.zero_add,List.nil_append];congr 1;rw[List.drop_append,hy,<-this];simp
 |y::L,es,h,i+1,ys,hi,hy=>by
  have Bf:=h y ac;have ih:=sK (L:=L) (λz hz=>h z (by simp[hz])) (i:=i) (ys:=ys) (by simpa using hi) hy;rw[bM] at ih⊢;simp only[List.set_cons_succ,List.flatten_cons,ih];have e1:(i+1)*es=y.length+i*es:=by rw[Bf,Nat.succ_mul];omega
  rw[e1,List.take_append,List.drop_append,List.take_of_length_le (by omega:y.length<=y.length+i*es),List.drop_eq_nil_of_le (by omega:y.length<=y.length+i*es+ys.length)];simp only[List.append_assoc,List.nil_append];congr 3
  .congr 1;omega
  .congr 2;omega
theorem rQ (H:Cx B0 W S own ro)(n:Nat){v:AV}{es i:Nat}{L:List (List AV)}{y:AV}(hm:own[n]?=some (.sl v es L))(hi:i<L.length)(ho:odd y=false)(hy:y.cells.length=es)
  {k:AV->AC} (h:∀S1,Cx B0 W S1 (own.set n (.sl v es (L.set i y.cells))) ro->wp M (k uv) S1 Q):wp M (.op (.da es v (I (i:Int))) λp=>.op (.store es p y) k) S Q:=by
 have hw:GK S v es L:=H.oh _ (List.mem_of_getElem? hm);rcases hw with⟨rfl,rfl⟩|⟨id,off,c,h0,h1,h2,h3⟩;.simp at hi
 .refine ae (yl h0 hi) ?_;have wu:=bm h3;have hlen:off+L.length*es<=c.length:=by
   have wi:∃m,L.length<=m/\off+m*es<=c.length:=by
    rcases h0 with⟨m,q1,q2,_⟩|⟨m,q1,q2,_⟩<;>exact⟨m,q1,q2⟩
   obtain⟨m,q1,q2⟩:=wi;have:=Nat.mul_le_mul_right es q1;omega
  have oK:i*es+es<=L.length*es:=by have:(i+1)*es<=L.length*es:=Nat.mul_le_mul_right es hi;rw[Nat.succ_mul] at this;omega
  refine ae (v:=uv) (S1:=S.set id (.row (aH c (off+i*es) y.cells))) ?_ (h _ (H.step hm (Nat.le_refl _) ?_ ?_ ?_))
  .show ph es (.ptr id (off+i*es)) y S=_;unfold ph;have g1:iN (.ptr id (off+i*es))=some (id,off+i*es):=rfl;have g2:(not (odd y)&&Nat.beq (bD y.cells) es&&Nat.ble (Nat.add (off+i*es) es) (bD c))=true:=by
    have q1:Nat.beq (bD y.cells) es=true:=by rw[aS,hy];exact Nat.beq_refl es
    have q2:Nat.ble (Nat.add (off+i*es) es) (bD c)=true:=by rw[aS];exact cJ (by show off+i*es+es<=c.length;omega)
    simp only[ho,q1,q2];rfl
   simp only[g1,C8 h1,g2]
  .intro j hj fI;rw[AH.db,if_neg (by simpa[Own.ids,h0.ids] using fI)]
  .refine .inr ⟨id,off,aH c (off+i*es) y.cells,?_,by rw[AH.db,if_pos rfl],?_,?_⟩
   .rw[List.length_set];have hl:(aH c (off+i*es) y.cells).length=c.length:=jb am;rcases h0 with⟨m,q1,q2,q3⟩|⟨m,q1,q2,q3⟩;.exact .inl ⟨m,q1,by rw[hl];exact q2,q3⟩
    .exact .inr ⟨m,q1,by rw[hl];exact q2,q3⟩
   .rw[List.length_set,sK h3 hi hy,<-h2];apply List.ext_getElem?;intro j;rw[List.getElem?_take,List.getElem?_drop,jv am,jv (by rw[List.length_take,List.length_drop];omega)];rw[List.getElem?_take,List.getElem?_drop];by_cases hj:j<L.length*es
    .rw[if_pos hj,if_pos hj];by_cases hr:i*es<=j/\j<i*es+y.cells.length;.rw[if_pos hr,if_pos am];congr 1;omega
     .rw[if_neg hr,if_neg am]
    .rw[if_neg hj,if_neg hj,if_neg am]
   .intro x hx;rcases List.mem_or_eq_of_mem_set hx with hx|rfl;.exact h3 x hx
    .exact hy
  .intro j hj;exact⟨(H.oi _ (List.mem_of_getElem? hm) j hj).1,.inl hj⟩
theorem mB {v:AV}{es:Nat}{L:List (List AV)}(h:g_ S v es L):elems S es v=some (L.length,L.flatten):=by
 rcases h with⟨⟨_,rfl⟩,rfl⟩|⟨id,off,c,h0,h1,h2,h3⟩;.rfl
 .have hlen:off+L.length*es<=c.length:=by
   have wi:∃m,L.length<=m/\off+m*es<=c.length:=by
    rcases h0 with⟨m,q1,q2,_⟩|⟨m,q1,q2,_⟩<;>exact⟨m,q1,q2⟩
   obtain⟨m,q1,q2⟩:=wi;have:=Nat.mul_le_mul_right es q1;omega
  have hb:Nat.ble (off+L.length*es) (bD c)=true:=by rw[aS];exact cJ hlen
  rcases h0 with⟨m,q1,q2,rfl⟩|⟨m,q1,q2,rfl⟩
  .show(match S.cells? id with|some c=>if Nat.ble (off+L.length*es) (bD c) then some (L.length,ku (L.length*es) (kr off c)) else none|none=>none)=_;simp only[h1,hb,if_true,dF,dV,h2]
  .show(match S.cells? id with|some c=>if Nat.ble (off+L.length*es) (bD c) then some (L.length,ku (L.length*es) (kr off c)) else none|none=>none)=_;simp only[h1,hb,if_true,dF,dV,h2]
theorem wv {c ys:List AV}{off a n:Nat}(h:off+a+ys.length<=c.length)(hn:n=a+ys.length):((aH c (off+a) ys).drop off).take n=(c.drop off).take a++ys:=by
 subst hn;have h1:(c.take (off+a)).drop off=(c.drop off).take a:=by rw[List.drop_take];congr 1;omega
 have h2:(c.take (off+a)).length=off+a:=by rw[List.length_take];omega
 rw[bM,List.drop_append,h1,h2];have h3:((c.drop off).take a).length=a:=by rw[List.length_take,List.length_drop];omega
 rw[show off-(off+a)=0 by omega,List.drop_zero,List.take_append,h3,List.take_of_length_le (by omega:((c.drop off).take a).length<=a+ys.length)];congr 1;rw[show a+ys.length-a=ys.length by omega,List.take_append,List.take_of_length_le (Nat.le_refl _),Nat.sub_self,List.take_zero,List.append_nil]
theorem nP {v x:AV}{es bytes:Nat}{L N:List (List AV)}(hv:GK S v es L)(hx:elems S es x=some (N.length,N.flatten))(hN:∀y∈N,y.length=es)
  (hb:(L.length+N.length)*bytes<=ca) (hl:L.length+N.length<=cP) (cA:∀id∈dQ v,id<S.next):
  ∃v1 S1,evalOp M.P (.append es bytes v x) S=some (v1,S1)/\GK S1 v1 es (L++N)/\S.next<=S1.next/\(∀id,id<S.next->id∉dQ v->S1.get id=S.get id)/\(∀id∈dQ v1,id<S1.next/\(id∈dQ v\/S.next<=id)):=by
 have wu:(L++N).flatten=L.flatten++N.flatten:=List.flatten_append;have WZ:=bm hN;have gT:∀(hL:∀y∈L,y.length=es),∀y∈L++N,y.length=es:=λhL y hy=>by
  rcases List.mem_append.1 hy with hy|hy;.exact hL y hy
  .exact hN y hy
 rcases hv with⟨rfl,rfl⟩|⟨id,off,c,h0,h1,h2,h3⟩
 ·
  have z6:evalOp M.P (.append es bytes Ns x) S=if Nat.beq N.length 0 then some (Ns,S) else if Nat.ble (N.length*bytes) ca&&Nat.ble N.length cP then some (.op S.next 0 N.length N.length es,S.new (.row N.flatten)) else none:=by show jr es bytes Ns x S=_;unfold jr;rw[hx];rfl
  by_cases hz:N.length=0
  .have:N=[]:=List.length_eq_zero_iff.1 hz;subst this;refine⟨Ns,S,by rw[z6];rfl,.inl ⟨rfl,rfl⟩,Nat.le_refl _,λ_ _ _=>rfl,λid bQ=>by simp[dQ] at bQ⟩
  .have e1:Nat.beq N.length 0=false:=by cases hq:Nat.beq N.length 0 with|true=>exact absurd (Nat.eq_of_beq_eq_true hq) hz|false=>rfl
   have e2:(Nat.ble (N.length*bytes) ca&&Nat.ble N.length cP)=true:=by rw[cJ (by simpa using hb),cJ (by simpa using hl)];rfl
   rw[e1,e2] at z6;refine⟨_,_,z6,.inr ⟨S.next,0,N.flatten,.inr ⟨N.length,ac,by rw[WZ];omega,ac⟩,bk _ _,?_,by simpa using hN⟩,ac,λid bQ _=>by rw[AH.cg,if_neg am],λid bQ=>?_⟩
   .simp only[List.drop_zero,List.nil_append];rw[List.take_of_length_le (by rw[WZ];omega)]
   .simp only[dQ,List.mem_singleton] at bQ;subst bQ;simp
 .have wi:∃m,L.length<=m/\off+m*es<=c.length:=by
   rcases h0 with⟨m,q1,q2,_⟩|⟨m,q1,q2,_⟩<;>exact⟨m,q1,q2⟩
  have hlen:off+L.length*es<=c.length:=by obtain⟨m,q1,q2⟩:=wi;have:=Nat.mul_le_mul_right es q1;omega
  have hLl:=bm h3;have bQ:id<S.next:=cA id (by rw[h0.ids];simp);have e2:(Nat.ble ((L.length+N.length)*bytes) ca&&Nat.ble (L.length+N.length) cP)=true:=by rw[cJ hb,cJ hl];rfl
  have RG:jq (ku (L.length*es) (kr off c)) N.flatten=(L++N).flatten:=by rw[ft,dF,dV,h2,wu]
  have RH:∀S0:AH,S0.next=S.next->(∀j,j<S.next->j≠id->S0.get j=S.get j)->GK (S0.new (.row (L++N).flatten)) (.op S0.next 0 (L.length+N.length) (L.length+N.length) es) es (L++N):=λS0 _ _=>by
   refine .inr ⟨S0.next,0,(L++N).flatten,.inr ⟨(L++N).length,ac,?_,ac⟩,bk _ _,?_,gT h3⟩;.rw[bm (gT h3)];omega
   .rw[List.drop_zero,List.take_of_length_le (by rw[bm (gT h3)];exact Nat.le_refl _)]
  have room:∀cap,L.length+N.length<=cap->off+cap*es<=c.length->((aH c (off+L.length*es) N.flatten).drop off).take ((L++N).length*es)=(L++N).flatten/\(aH c (off+L.length*es) N.flatten).length=c.length:=by intro cap q1 q2;have:=Nat.mul_le_mul_right es q1;rw[Nat.add_mul] at this;refine⟨?_,jb am⟩;rw[wv am (by rw[List.length_append,Nat.add_mul,WZ]),h2,wu]
  rcases h0 with⟨cap,q1,q2,rfl⟩|⟨dq,q1,q2,rfl⟩
  .have g1:(Nat.ble (off+cap*es) (bD c)&&Nat.ble L.length cap)=true:=by rw[aS,cJ q2,cJ q1];rfl
   have z6:evalOp M.P (.append es bytes (.sl id off L.length cap) x) S=if Nat.ble (L.length+N.length) cap then some (.sl id off (L.length+N.length) cap,S.set id (.row (aH c (off+L.length*es) N.flatten))) else
     if Nat.ble ((L.length+N.length)*bytes) ca&&Nat.ble (L.length+N.length) cP then some (.op S.next 0 (L.length+N.length) (L.length+N.length) es,S.new (.row (jq (ku (L.length*es) (kr off c)) N.flatten))) else none:=by
    show jr es bytes (.sl id off L.length cap) x S=_;unfold jr;rw[hx];simp only[h1,g1,if_true]
   by_cases hr:L.length+N.length<=cap
   .rw[cJ hr] at z6;obtain⟨r1,r2⟩:=room cap hr q2;refine⟨_,_,z6,.inr ⟨id,off,_,.inl ⟨cap,by simpa using hr,by rw[r2];exact q2,ac⟩,by rw[AH.db,if_pos rfl],r1,gT h3⟩,Nat.le_refl _,λj hj fI=>?_,λj hj=>?_⟩;.rw[AH.db,if_neg (by simpa[dQ] using fI)]
    .simp only[dQ,List.mem_singleton] at hj;subst hj;exact⟨bQ,.inl (by simp[dQ])⟩
   .have e1:Nat.ble (L.length+N.length) cap=false:=by cases hq:Nat.ble (L.length+N.length) cap with|true=>exact absurd (Nat.le_of_ble_eq_true hq) hr|false=>rfl
    rw[e1,e2,RG] at z6;refine⟨_,_,z6,RH S rfl (λ_ _ _=>rfl),ac,λj hj _=>by rw[AH.cg,if_neg am],λj hj=>?_⟩;simp only[dQ,List.mem_singleton] at hj;subst hj;simp
  .have g1:(Nat.beq es es&&Nat.ble (off+dq*es) (bD c)&&Nat.ble L.length dq)=true:=by rw[aS,cJ q2,cJ q1,Nat.beq_refl];rfl
   have z6:evalOp M.P (.append es bytes (.op id off L.length dq es) x) S=if Nat.ble (L.length+N.length) dq then some (.op id off (L.length+N.length) dq es,S.set id (.row (aH c (off+L.length*es) N.flatten))) else
     if Nat.ble ((L.length+N.length)*bytes) ca&&Nat.ble (L.length+N.length) cP then some (.op S.next 0 (L.length+N.length) (L.length+N.length) es,(S.kill id).new (.row (jq (ku (L.length*es) (kr off c)) N.flatten))) else none:=by
    show jr es bytes (.op id off L.length dq es) x S=_;unfold jr;rw[hx];simp only[h1,g1,if_true]
   by_cases hr:L.length+N.length<=dq
   .rw[cJ hr] at z6;obtain⟨r1,r2⟩:=room dq hr q2;refine⟨_,_,z6,.inr ⟨id,off,_,.inr ⟨dq,by simpa using hr,by rw[r2];exact q2,ac⟩,by rw[AH.db,if_pos rfl],r1,gT h3⟩,Nat.le_refl _,λj hj fI=>?_,λj hj=>?_⟩;.rw[AH.db,if_neg (by simpa[dQ] using fI)]
    .simp only[dQ,List.mem_singleton] at hj;subst hj;exact⟨bQ,.inl (by simp[dQ])⟩
   .have e1:Nat.ble (L.length+N.length) dq=false:=by cases hq:Nat.ble (L.length+N.length) dq with|true=>exact absurd (Nat.le_of_ble_eq_true hq) hr|false=>rfl
    rw[e1,e2,RG] at z6;refine⟨_,_,z6,RH (S.kill id) rfl (λj _ fI=>by rw[AH.gO,if_neg fI]),Nat.le_succ _,λj hj fI=>?_,λj hj=>?_⟩;.rw[AH.cg,if_neg (by show j≠S.next;omega),AH.gO,if_neg (by simpa[dQ] using fI)]
    .simp only[dQ,List.mem_singleton] at hj;subst hj;exact⟨Nat.lt_succ_self _,.inr (Nat.le_refl _)⟩
theorem w7 (H:Cx B0 W S own ro)(n:Nat){v x:AV}{es bytes:Nat}{L N:List (List AV)}(hm:own[n]?=some (.sl v es L))(hx:elems S es x=some (N.length,N.flatten))(hN:∀y∈N,y.length=es)
  (hb:(L.length+N.length)*bytes<=ca) (hl:L.length+N.length<=cP) (h:∀v1 S1,Cx B0 W S1 (own.set n (.sl v1 es (L++N))) ro->wp M (k v1) S1 Q):wp M (.op (.append es bytes v x) k) S Q:=by
 have kl:=List.mem_of_getElem? hm;obtain⟨v1,S1,h1,h2,h3,h4,h5⟩:=nP (M:=M) (H.oh _ kl) hx hN hb hl (λid bQ=>(H.oi _ kl id bQ).1);exact ae h1 (h v1 S1 (H.step hm h3 h4 h2 h5))
theorem pI (H:Cx B0 W S own ro)(n:Nat){v x:AV}{es bytes:Nat}{L N:List (List AV)}(hm:own[n]?=some (.sl v es L))(hx:aB.sl x es N∈ro)(hN:∀y∈N,y.length=es)
  (hb:(L.length+N.length)*bytes<=ca) (hl:L.length+N.length<=cP) (h:∀v1 S1,Cx B0 W S1 (own.set n (.sl v1 es (L++N))) ro->wp M (k v1) S1 Q):wp M (.op (.append es bytes v x) k) S Q:=
 w7 H n hm (mB (H.rh _ hx)) hN hb hl h
theorem Aj (H:Cx B0 W S own ro){f:AV}{args:List AV}{R:AV->Prop}(hc:aG M f args S λv S'=>R v/\aR S S')(h:∀v S1,R v->Cx B0 W S1 own ro->wp M (k v) S1 Q):wp M (.call f args k) S Q:=
 bW (aw hc λv S1 ⟨h1,h2⟩=>h v S1 h1 (H.grow h2))
theorem dX (H:Cx B0 W S own ro){f:AV}{args:List AV}{u:AV}(hc:aG M f args S λv S'=>v=u/\aR S S')(h:∀S1,Cx B0 W S1 own ro->wp M (k u) S1 Q):wp M (.call f args k) S Q:=
 Aj H hc λv S1 e K=>e▸h S1 K
end
def iU (S:AH)(v:AV)(es:Nat)(L:List (List AV)):Prop:=g_ S v es L/\∀id∈dQ v,id<S.next
theorem iU.grow {S S1:AH}{v:AV}{es:Nat}{L:List (List AV)}(h:iU S v es L)(hg:aR S S1):iU S1 v es L:=
 ⟨w5 (λid bQ=>hg.iR id (h.2 id bQ)) h.1,λid bQ=>Nat.lt_of_lt_of_le (h.2 id bQ) hg.next⟩
theorem Cx.C_ {S:AH}{v:AV}{es:Nat}{L:List (List AV)}(h:iU S v es L):Cx S [] S [] [.sl v es L]:=Cx.enter (by
 intro φ jt;simp only[List.mem_singleton] at jt;subst jt;exact⟨h.1,h.2⟩)
theorem Cx.JM {S:AH}{v v':AV}{es gq:Nat}{L L':List (List AV)}(h:iU S v es L)(h':iU S v' gq L'):Cx S [] S [] [.sl v es L,.sl v' gq L']:=Cx.enter (by
 intro φ jt;simp only[List.mem_cons,List.not_mem_nil,or_false] at jt;rcases jt with rfl|rfl;.exact⟨h.1,h.2⟩
 .exact⟨h'.1,h'.2⟩)
theorem Cx.hH {B S:AH}{M:List Nat}{own:List Own}{ro:List aB}(H:Cx B M S own ro){v:AV}{es:Nat}{L:List (List AV)}(hm:aB.sl v es L∈ro):iU S v es L:=⟨H.rh _ hm,λid bQ=>(H.ri _ hm id bQ).1⟩
def ints (l:List Int):List (List AV):=l.map λn=>[I n]
theorem bJ (l:List Int):(ints l).length=l.length:=List.length_map ..
section
variable{M:cQ}{S:AH}{f:FuncId}
theorem ym {body:List AV->AC}{Q:ga}(n:Nat)(J:Nat->List AV->AH->Prop)(hs:∀i vs S,i<n->J i vs S->wp M (body vs) S λt Bh S1=>(t=.normal/\J (i+1) Bh S1)\/(t≠.normal/\Q t Bh S1))
  (he:∀vs S,J n vs S->wp M (body vs) S λt Bh S1=>t≠.normal/\Q t Bh S1) {vs:List AV} {S:AH} (h:J 0 vs S):Qb M body vs S Q:=by
 refine yh (λm vs S=>∃i,i<=n/\m=n-i/\J i vs S) ?_ n ⟨0,am,am,h⟩;rintro m vs S ⟨i,hi,rfl,hJ⟩;by_cases cA:i<n
 .refine wp_mono (hs i vs S cA hJ) λt Bh S1 q=>?_;rcases q with⟨h1,h2⟩|q;.exact .inl ⟨h1,n-(i+1),am,i+1,am,rfl,h2⟩
  .exact .inr q
 .have:i=n:=am;subst this;exact wp_mono (he vs S hJ) λt Bh S1 q=>.inr q
def pick (x n:Int):Int:=if n<=0 then 0 else x%n
def Da:List AV->AC:=λv0=>.op (.bin .leq (nth v0 1) (I 0)) λv1=>.ite v1 (.ret .ret [(I 0)]) (.op (.bin .rem (nth v0 0) (nth v0 1)) λv2=>.op (.bin .lss v2 (I 0)) λv3=>.bind (.ite v3 (.op (.bin .add v2 (nth v0 1)) λv4=>.ret .normal [v4]) (.ret .normal [v2])) none (λv4=>.ret .ret [(nth v4 0)]) (λv4=>[(I 0)]))
theorem JN {x n:Int}(hk:M.kn f [I x,I n]=none)(hb:M.iP f=some Da)(hn:n<=9223372036854775807):aG M (.fn (.func f) [] []) [I x,I n] S λr S'=>r=I (pick x n)/\S'=S:=by
 refine aV hk hb ?_;unfold Da pick;refine nN (λh=>?_) (λh=>?_)
 .rw[if_pos h];exact cT (wp_ret ⟨rfl,rfl,rfl⟩)
 .rw[if_neg am];have e:=Int.tmod_eq_emod (a:=x) (b:=n);have h1:=Int.emod_nonneg x (by omega:n≠0);have h2:=Int.emod_lt_of_pos x (by omega:0<n);refine cU (yj am ?_);refine fL (λhl=>?_) (λhl=>?_)
  .refine wp_bind (cT (ct ?_ ?_ (wp_ret (wp_ret ⟨rfl,?_,rfl⟩))))
   .show _<=x.tmod n+n;split at e<;>omega
   .show x.tmod n+n<=_;split at e<;>omega
   .show I (x.tmod n+n)=_;congr 2;split at e;.omega
    .rw[e];omega
  .refine wp_bind (cU (wp_ret (wp_ret ⟨rfl,?_,rfl⟩)));show I (x.tmod n)=_;congr 2;split at e<;>omega
def LB (es bytes:Nat)(z:List AV):List AV->AC:=λv0=>.op (.gK es 0 z []) λv1=>.op (.append es bytes v1 (nth v0 0)) λv2=>.ret .ret [v2]
theorem JO {es bytes:Nat}{z:List AV}{v:AV}{L:List (List AV)}(hk:M.kn f [v]=none)(hb:M.iP f=some (LB es bytes z))(hz:z.length=es)(h:iU S v es L)(hL:∀x∈L,x.length=es)
  (h1:L.length*bytes<=ca) (h2:L.length<=cP):aG M (.fn (.func f) [] []) [v] S λr S'=>Cx S [] S' [.sl r es L] []:=by
 refine aV hk hb ?_;unfold LB;have H:=Cx.C_ h;refine ae (v:=.sl S.next 0 0 0) (S1:=S.new (.row [])) ?_ ?_
 .show eI es 0 z [] S=_;unfold eI;have e:Nat.beq (bD z) es=true:=by rw[aS,hz];exact Nat.beq_refl es
  simp only[bh,fo,e];have e2:Nat.beq (bD ([]:List AV)) (Nat.mul 0 es)=true:=by have:Nat.mul 0 es=0:=Nat.zero_mul es;rw[this];rfl
  rw[e2];rfl
 .have H1:Cx S [] (S.new (.row [])) [.sl (.sl S.next 0 0 0) es []] [.sl v es L]:=H.gD (aR.new S _) (.inr ⟨S.next,0,[],.inl ⟨0,ac,ac,rfl⟩,bk _ _,ac,ac⟩) (by
   intro id bQ;simp only[Own.ids,dQ,List.mem_singleton] at bQ;subst bQ;simp)
  refine pI H1 0 rfl (List.Mem.head _) hL (by simpa using h1) (by simpa using h2) λv1 S1 K=>wp_ret ⟨rfl,?_⟩;exact K.tl
theorem JP {B0:AH}{W:List Nat}{own:List Own}{ro:List aB}{Q:ga}{k:AV->AC}(H:Cx B0 W S own ro)(n:Nat){v x:AV}{es bytes:Nat}{z:List AV}{L:List (List AV)}(hm:own[n]?=some (.sl v es L))(ho:odd x=false)(hx:x.cells.length=es)(hz:z.length=es)
  (hb:(L.length+1)*bytes<=ca) (hl:L.length+1<=cP) (h:∀v1 S1,Cx B0 W S1 (own.set n (.sl v1 es (L++[x.cells]))) ro->wp M (k v1) S1 Q):
  wp M (.op (.gK es 1 z [(0,es,x)]) λt=>.op (.append es bytes v t) k) S Q:=by
 refine ae (v:=.sl S.next 0 1 1) (S1:=S.new (.row x.cells)) ?_ ?_
 .show eI es 1 z [(0,es,x)] S=_;unfold eI;have e0:bh z 1=z:=by simp[bh,ft]
  have e1:(not (odd x)&&Nat.beq (bD x.cells) es&&Nat.ble (Nat.add 0 es) (bD z))=true:=by rw[aS,aS,hx,hz,Nat.beq_refl,ho];have:Nat.ble (Nat.add 0 es) es=true:=cJ (by show 0+es<=es;omega);rw[this];rfl
  have e2:aH z 0 x.cells=x.cells:=by rw[bM];simp;omega
  have e3:(Nat.beq (bD x.cells) (Nat.mul 1 es)&&Nat.beq (bD z) es)=true:=by rw[aS,aS,hx,hz,Nat.beq_refl];have:Nat.mul 1 es=es:=Nat.one_mul es;rw[this,Nat.beq_refl];rfl
  rw[e0];simp only[fo,e1,e2,e3];rfl
 .have K:=H.grow (aR.new S (.row x.cells));have Wk:elems (S.new (.row x.cells)) es (.sl S.next 0 1 1)=some ([x.cells].length,[x.cells].flatten):=by
   refine mB (L:=[x.cells]) (.inr ⟨S.next,0,x.cells,.inl ⟨1,Nat.le_refl _,by rw[hx];omega,rfl⟩,dh (bk _ _),?_,?_⟩);.simp[<-hx]
   .intro y hy;simp at hy;subst hy;exact hx
  exact w7 K n hm Wk (λy hy=>by simp at hy;subst hy;exact hx) hb hl h
theorem yn {κ:IntKind}{a:Int}:AV.beq (Z κ a) (Z κ a)=true:=by show(nh κ κ&&IY a a)=true;rw[aY,gP];simp
theorem JQ {B0:AH}{W:List Nat}{own:List Own}{ro:List aB}{Q:ga}{k:AC}(H:Cx B0 W S own ro){id off j:Nat}{cs:List AV}{v:AV}(hm:aB.pt id off cs∈ro)(hj:cs[j]?=some v)(hb:AV.beq v v=true)(h:wp M k S Q):
  wp M (.lH (.load 1 false (.ptr id (Nat.add off j))) v k) S Q:=by
 obtain⟨c,h1,h2⟩:=rO (H.rh _ hm) hj;refine yf (v':=v) ?_ hb h;show(match S.cells? id with|some c=>fE false c (Nat.add off j) 1|none=>none)=_;rw[h1];exact mz h2
theorem G4 {B0:AH}{W:List Nat}{own:List Own}{ro:List aB}{Q:ga}{k:AV->AC}(H:Cx B0 W S own ro){g:AV}{args:List AV}{es:Nat}{L:List (List AV)}
  (hc:aG M g args S λr S'=>Cx S [] S' [.sl r es L] []) (h:∀v S1,Cx B0 W S1 (.sl v es L::own) ro->wp M (k v) S1 Q):wp M (.call g args k) S Q:=
 bW (aw hc λv S1 K=>h v S1 (H.gD K.cr (K.oh _ (List.Mem.head _)) λid bQ=>by
  have:=K.oi _ (List.Mem.head _) id bQ;refine⟨?_,this.1⟩;have h2:=this.2;by_cases cA:id<S.next;.have:=h2 cA;simp at this
  .omega))
end
section
variable{M:cQ}{B0 S:AH}{W:List Nat}{own:List Own}{ro:List aB}{Q:ga}{k:AV->AC}
end
section
variable{M:cQ}{B0 S:AH}{W:List Nat}{own:List Own}{ro:List aB}{Q:ga}{k:AV->AC}
theorem Cx.Db (H:Cx B0 W S own ro){n id:Nat}{o:AO}(hm:own[n]?=some (.obj id o))(o':AO):Cx B0 W (S.set id o') (own.set n (.obj id o')) ro:=by
 refine H.step hm (Nat.le_refl _) (λj hj fI=>?_) ?_ (λj hj=>?_);.rw[AH.db,if_neg (by simpa[Own.ids] using fI)]
 .show(S.set id o').get id=_;rw[AH.db,if_pos rfl]
 .simp only[Own.ids,List.mem_singleton] at hj;subst hj;exact⟨(H.oi _ (List.mem_of_getElem? hm) j (by simp[Own.ids])).1,.inl (by simp[Own.ids])⟩
theorem Cx.iw (H:Cx B0 W S own ro)(n:Nat):Cx B0 W S (own.eraseIdx n) ro:=H.yi (List.eraseIdx_sublist _ _)
theorem Cx.G5 (H:Cx B0 W S own ro){i id:Nat}{o:AO}(hi:own[i]?=some (.obj id o)):Cx B0 W S (own.eraseIdx i) (.ob id o::ro):=by
 have kl:=List.mem_of_getElem? hi;refine(H.iw i).uP (H.oh _ kl) λj hj=>?_;simp only[aB.ids,List.mem_singleton] at hj;subst hj;refine⟨(H.oi _ kl j (by simp[Own.ids])).1,λx hx hj=>?_⟩;obtain⟨m,hm⟩:=List.getElem?_of_mem hx;have hp:=H.od;rw[List.pairwise_iff_getElem] at hp;obtain⟨Eg,uO⟩:=List.getElem?_eq_some_iff.1 hi;rw[List.getElem?_eraseIdx] at hm;split at hm
 .rename_i cA;obtain⟨Fm,vV⟩:=List.getElem?_eq_some_iff.1 hm;exact hp m i Fm Eg cA j (by rw[vV];exact hj) (by rw[uO];simp[Own.ids])
 .obtain⟨Fm,vV⟩:=List.getElem?_eq_some_iff.1 hm;exact hp i (m+1) Eg Fm am j (by rw[uO];simp[Own.ids]) (by rw[vV];exact hj)
theorem Cx.other {B0 S S1:AH}{W:List Nat}{own:List Own}{ro:List aB}(H:Cx B0 W S own ro){l:Nat}{n:Nat}{o:AO}(hm:own[n]?=some (.obj l o))(h1:S1.next=S.next)(h2:∀j,j≠l->S1.get j=S.get j):Cx B0 W S1 (own.eraseIdx n) ro:=by
 have kl:=List.mem_of_getElem? hm;have K:=H.G5 hm;have K':Cx B0 W S (own.eraseIdx n) ro:=K.tl;have hl:∀x∈own.eraseIdx n,l∉x.ids:=(K.ri _ (List.Mem.head _) l (by simp[aB.ids])).2;have i_:∀φ∈ro,l∉φ.ids:=λφ jt bQ=>(H.ri φ jt l bQ).2 _ kl (by simp[Own.ids])
 refine⟨by rw[h1];exact K'.next,λid h3 h4=>?_,λx hx=>Own.gC (λid bQ=>h2 id λe=>hl x hx (e▸bQ)) (K'.oh x hx),λx hx id bQ=>by rw[h1];exact K'.oi x hx id bQ,K'.od,
  λφ jt=>aB.gC (λid bQ=>h2 id λe=>i_ φ jt (e▸bQ)) (K'.rh φ jt),λφ jt id bQ=>by rw[h1];exact K'.ri φ jt id bQ⟩
 by_cases e:id=l
 .subst e;exact absurd ((H.oi _ kl id (by simp[Own.ids])).2 h3) h4
 .rw[h2 id e];exact K'.iR id h3 h4
end
section
variable[kg]
open Go.ChangeShapes Go.WideShapes
section
variable{H:Type}{enc:TypeId×Value->H}{P:Program}{W:World}{base:Nat}{sp:Nat->Bool}{hd:Bool}
def Fo:Value->Bool
 |.int k n=>(Lit.int k n).wf
 |_=>true
theorem jx {t:TypeId}{n:Nat}(h:aQ P t=some n):P.cellsOf t=n:=by unfold aQ at h;unfold Program.cellsOf;rw[h];rfl
theorem Eh {ks:List (Option IntKind)}:∀{ls:List (Option IntKind)} {vs:List Value},aE ks (vs.take ks.length)=true->aE ls (vs.drop ks.length)=true->aE (ks++ls) vs=true:=by
 induction ks with
 |nil=>intro ls vs h1 h2;simpa using h2
 |cons k ks ih=>
  intro ls vs h1 h2;cases vs with
  |nil=>simp[aE] at h1
  |cons v vs=>simp only[List.length_cons,List.take_succ_cons,aE,Bool.and_eq_true,List.drop_succ_cons] at h1 h2;simp only[List.cons_append,aE,Bool.and_eq_true];exact⟨h1.1,ih h1.2 h2⟩
theorem rR:∀(d:Nat) (t:TypeId) (ks:List (Option IntKind)),fx P d t=some ks->aQ P t=some ks.length->∀(fuel:Nat) (cs:List Value) (x:DataW H×List MemPlace),DataW.trod enc P W base sp hd fuel t cs=some x->aE ks cs=true/\∀v∈cs,Fo v=true
 |0,t,ks,hf,_,_,_,_,_=>by simp[fx] at hf
 |d+1,t,ks,hf,oJ,fuel,cs,x,h=>by
  unfold fx at hf;cases hu:P.underlying t with
  |none=>rw[hu] at hf;cases hf
  |some u=>
   rw[hu] at hf;cases u with
   |bool=>
    cases hf;obtain⟨b,rfl,_⟩:=DataW.trod_bool hu h;exact⟨rfl,by simp[Fo]⟩
   |int k=>
    cases hf;obtain⟨n,rfl,_,hw⟩:=DataW.trod_int hu h;exact⟨by simp[aE,qM],by simpa[Fo] using hw⟩
   |struct fs=>
    simp only at hf;cases Qd:P.stoodInHeld t with
    |true=>rw[Qd] at hf;simp at hf
    |false=>
     rw[Qd] at hf;simp only[Bool.false_eq_true,if_false] at hf;obtain⟨xs,n,_,_,hlen,_,wu⟩:=DataW.trod_struct hu h;rw[jx oJ] at hlen;have key:∀(l:List Field) (i off:Nat) (ks:List (Option IntKind)),(∀(j:Nat) f,l[j]?=some f->fs[i+j]?=some f)->sI (fx P d) P l off=some ks->off+ks.length=cs.length->aE ks (cs.drop off)=true/\∀v∈cs.drop off,Fo v=true:=by
      intro l;induction l with
      |nil=>
       intro i off ks _ hf hl;cases hf;have:cs.drop off=[]:=List.drop_eq_nil_of_le (by simp at hl;omega);rw[this];exact⟨rfl,ac⟩
      |cons f l ih=>
       intro i off ks Ah hf hl;unfold sI at hf;by_cases hn:f.name= "_";.rw[if_pos hn] at hf;cases hf
       .rw[if_neg hn] at hf;by_cases ho:f.offset≠off;.rw[if_pos ho] at hf;cases hf
        .rw[if_neg ho] at hf;have ho:f.offset=off:=am;cases hr:fx P d f.type with
         |none=>rw[hr] at hf;cases hf
         |some k1=>
          rw[hr] at hf;simp only at hf;by_cases hs:aQ P f.type=some k1.length
          .rw[if_pos hs] at hf;cases uS:sI (fx P d) P l (off+k1.length) with
           |none=>rw[uS] at hf;cases hf
           |some k2=>
            rw[uS] at hf;cases hf;rw[List.length_append] at hl;have h0:=Ah 0 f rfl;have h1:=wu i f h0;rw[ho,jx hs] at h1;cases hx:xs[i]? with
            |none=>
             rw[hx] at h1;have:=(Array.getElem?_eq_some_iff.1 h0).1;have:=List.getElem?_eq_none_iff.1 hx;omega
            |some y=>
             rw[hx] at h1;obtain⟨q1,q2⟩:=rR d f.type k1 hr hs n _ y h1;obtain⟨r1,r2⟩:=ih (i+1) (off+k1.length) k2 (λj f hj=>by
              have:=Ah (j+1) f (by simpa using hj)
              rwa[show i+(j+1)=i+1+j by omega] at this) uS am
             rw[<-List.drop_drop] at r1 r2;refine⟨Eh q1 r1,λv hv=>?_⟩;rw[<-List.take_append_drop k1.length (cs.drop off),List.mem_append] at hv;rcases hv with hv|hv;.exact q2 v hv
             .exact r2 v hv
          .rw[if_neg hs] at hf;cases hf
     have:=key fs.toList 0 0 ks (λj f hj=>by simpa using hj) hf am;simpa using this
   |_=>cases hf
theorem Ei {t e:TypeId}{d:Nat}{ks:List (Option IntKind)}{v:Value}{x:DataW H}{p:List MemPlace}(ht:P.underlying t=some (.slice e))(hf:fx P d e=some ks)(hs:aQ P e=some ks.length)
  (gY:Value.okWide P W .any base t v) (h:DataW.Trod enc P W 0 (λ_=>true) true t v x p):
  v=.slice none 0 0\/∃(b off len cap:Nat) (C:Nat->List Value),v=.slice (some ⟨b,off,none⟩) len cap/\len<=cap/\cap<=maxLen/\b<W.heap.size/\
   ∀i,i<cap->aE ks (C i)=true/\(∀y∈C i,Fo y=true)/\∀(j:Nat) y,(C i)[j]?=some y->W.cell? ⟨b,off+i*ks.length+j,none⟩=some y:=by
 obtain⟨fuel,hr⟩:=h;have dc:=jx hs;rcases DataW.trod_slice ht hr with⟨h1,_⟩|⟨a,len,cap,elems,rest,n,_,h1,_,_,h2,h3,h4,h5,h6,_⟩
 .left;cases v<;>simp[Value.cells] at h1
  .obtain⟨rfl,rfl,rfl⟩:=h1;rfl
  .simp[Value.okWide,ht,Cell.okWide,Cell.ok] at gY
 .right;have hv:v=.slice (some a) len cap:=by
   cases v<;>simp[Value.cells] at h1
   .obtain⟨rfl,rfl,rfl⟩:=h1;rfl
   .simp[Value.okWide,ht,Cell.okWide,Cell.ok] at gY
  subst hv;have M0:W.has P .any base a e cap:=by simp only[Value.okWide,ht,Cell.okWide,Cell.ok] at gY;exact gY.2.2
  obtain⟨_,sL,row,cells,pJ,_⟩:=M0;obtain⟨b,off,s⟩:=a;simp only at sL;subst sL;have hb:b<W.heap.size:=by
   unfold World.shape? at pJ;split at pJ
   .rename_i hh;exact(Array.getElem?_eq_some_iff.1 hh).1
   .cases pJ
  obtain⟨h7,h8⟩:=h6 rfl;have gT:∀i,i<cap->∃y,(W.cells? 0 (Addr.add ⟨b,off,none⟩ (i*P.cellsOf e)) (P.cellsOf e)).bind (DataW.trod enc P W 0 (λ_=>true) true n e)=some y:=by
   intro i hi;by_cases hl:i<len
   .rw[h5 i hl];exact⟨elems[i]' am,List.getElem?_eq_getElem am⟩
   .have:=h8 (i-len) am;rw[show len+(i-len)=i by omega] at this;rw[this];exact⟨rest[i-len]' am,List.getElem?_eq_getElem am⟩
  have hex:∀i,∃C:List Value,i<cap->aE ks C=true/\(∀y∈C,Fo y=true)/\∀(j:Nat) y,C[j]?=some y->W.cell? ⟨b,off+i*ks.length+j,none⟩=some y:=by
   intro i;by_cases hi:i<cap
   .obtain⟨y,hy⟩:=gT i hi;rw[dc] at hy;obtain⟨cs,hc,Qh⟩:=Option.bind_eq_some_iff.1 hy;obtain⟨_,M1,BW⟩:=World.cells?_some hc;obtain⟨q1,q2⟩:=rR d e ks hf hs n cs y Qh;refine⟨cs,λ_=>⟨q1,q2,λj z hz=>?_⟩⟩;have hj:j<ks.length:=by have:=(List.getElem?_eq_some_iff.1 hz).1;omega
    rw[<-hz,<-BW j hj];have e1:Addr.add (Addr.add ⟨b,off,none⟩ (i*ks.length)) j=⟨b,off+i*ks.length+j,none⟩:=by
     unfold Addr.add;by_cases z1:i*ks.length=0
     .rw[if_pos z1];by_cases z2:j=0;.rw[if_pos z2,z1,z2];rfl
      .rw[if_neg z2,z1];rfl
     .rw[if_neg z1];by_cases z2:j=0;.rw[if_pos z2,z2];rfl
      .rw[if_neg z2]
    rw[e1]
   .exact⟨[],λh=>absurd h hi⟩
  refine⟨b,off,len,cap,λi=>(hex i).choose,rfl,h2,h3,hb,λi hi=>(hex i).choose_spec hi⟩
end
def yo (vs:List Value):List AV:=vs.map .sc
theorem RI {ρ:Ren}{ks:List (Option IntKind)}:∀{vs:List Value},aE ks vs=true->∀v∈vs,V ρ (.sc v) v/\v.oneCell'=true:=by
 induction ks with
 |nil=>intro vs h;cases vs with|nil=>simp|cons _ _=>simp[aE] at h
 |cons k ks ih=>
  intro vs h v hv;cases vs with
  |nil=>simp at hv
  |cons a vs=>
   simp only[aE,Bool.and_eq_true] at h;rcases List.mem_cons.1 hv with rfl|hv;.cases v<;>cases k<;>simp[qM] at h<;>exact⟨.sc rfl,rfl⟩
   .exact ih h.2 v hv
structure Open (P:Program)(W:World)(S:AH)(ρ:Ren)(as:List AV)(xs:List Value):Prop where
 r:R P ρ S W
 v:VL ρ as xs
 ro:∀id o,S.get id=some o->px o=true
theorem Open.nil (P:Program)(W:World):Open P W ⟨.e,0⟩ (λ_=>none) [] []:=⟨R.nothing P W,.nil,λid o h=>by simp[AH.get,gy] at h⟩
theorem Open.one {P:Program}{W:World}{S:AH}{ρ:Ren}{as:List AV}{xs:List Value}(h:Open P W S ρ as xs){a:AV}{x:Value}(hv:V ρ a x):Open P W S ρ (a::as) (x::xs):=⟨h.r,.cons hv h.v,h.ro⟩
theorem Open.lay {P:Program}{W:World}{S:AH}{ρ:Ren}{as:List AV}{xs:List Value}(h:Open P W S ρ as xs){b off l:Nat}{c:List AV}(hb:b<W.heap.size)
  (hc:∀(i:Nat) v,c[i]?=some v->∃x,W.cell? ⟨b,off+i,none⟩=some x/\V ρ v x/\x.oneCell'=true):Open P W (S.new (.ro c)) (ρ.put S.next (b,off,l)) as xs/\ρ.le (ρ.put S.next (b,off,l)):=by
 have hn:ρ S.next=none:=by
  cases e:ρ S.next with
  |none=>rfl
  |some x=>exact absurd (h.r.sX e) (Nat.lt_irrefl _)
 have hle:=Ren.kU (x:=(b,off,l)) hn;refine⟨⟨⟨?_,?_,?_,?_,?_⟩,h.v.mono hle,?_⟩,hle⟩
 .intro id ob b' o l' h1 h2;rw[AH.cg] at h1;by_cases e:id=S.next
  .subst e;rw[if_pos rfl] at h1;cases h1;rw[Ren.bG] at h2;cases h2;intro i v hv;obtain⟨x,q1,q2,q3⟩:=hc i v hv;exact⟨x,q1,q2.mono hle,q3⟩
  .rw[if_neg e] at h1;rw[Ren.aK _ _ e] at h2;exact(h.r.iQ h1 h2).mono hle rfl
 .intro i j oi oj b' o l' o' UU h1 h2 h3 h4 h5;exfalso;have i_:∀id o,(S.new (.ro c)).get id=some o->px o=true:=λid o hg=>by
   rw[AH.cg] at hg;split at hg;.cases hg;rfl
   .exact h.ro id o hg
  rw[i_ i oi h1,i_ j oj h2] at h5;simp at h5
 .intro id x h1;by_cases e:id=S.next;.subst e;simp
  .rw[Ren.aK _ _ e] at h1;have:=h.r.sX h1;simp;omega
 .intro id b' o l' h1;by_cases e:id=S.next
  .subst e;rw[Ren.bG] at h1;cases h1;exact hb
  .rw[Ren.aK _ _ e] at h1;exact h.r.oN h1
 .intro id ob hg;rw[AH.cg] at hg;split at hg;.next e=>subst e;simp
  .have:=h.r.wf hg;simp;omega
 .intro id o hg;rw[AH.cg] at hg;split at hg;.cases hg;rfl
  .exact h.ro id o hg
theorem Open.M3 {P:Program}{W:World}{S:AH}{ρ:Ren}{as:List AV}{xs:List Value}(h:Open P W S ρ as xs){ks:List (Option IntKind)}{v:Value}
  (hv:v=.slice none 0 0\/∃(b off len cap:Nat) (C:Nat->List Value),v=.slice (some ⟨b,off,none⟩) len cap/\len<=cap/\cap<=maxLen/\b<W.heap.size/\
    ∀i,i<cap->aE ks (C i)=true/\(∀y∈C i,Fo y=true)/\∀(j:Nat) y,(C i)[j]?=some y->W.cell? ⟨b,off+i*ks.length+j,none⟩=some y):
  ∃(a:AV) (S':AH) (aT:Ren) (L:List (List Value)),Open P W S' aT (a::as) (v::xs)/\aR S S'/\iU S' a ks.length (L.map yo)/\L.length<=maxLen/\(∀vs∈L,aE ks vs=true/\∀y∈vs,Fo y=true)/\((a=Ns/\S'=S)\/∃c len cap,a=.sl S.next 0 len cap/\S'=S.new (.ro c)):=by
 rcases hv with rfl|⟨b,off,len,cap,C,rfl,hle,hm,hb,hC⟩;.exact⟨Ns,S,ρ,[],h.one (.sc rfl),aR.refl S,⟨.inl ⟨⟨_,rfl⟩,rfl⟩,by simp[dQ]⟩,ac,ac,.inl ⟨rfl,rfl⟩⟩
 .let c:List AV:=((List.range cap).map λi=>yo (C i)).flatten
  have hlen:∀x∈(List.range cap).map (λi=>yo (C i)),x.length=ks.length:=by intro x hx;obtain⟨i,hi,rfl⟩:=List.mem_map.1 hx;have:=eg (hC i (List.mem_range.1 hi)).1;simp[yo,this]
  have dc:c.length=cap*ks.length:=by show(List.flatten _).length=_;rw[bm hlen,List.length_map,List.length_range]
  have gZ:∀i,i<cap->((c.drop (i*ks.length)).take ks.length)=yo (C i):=λi hi=>iv hlen (by simp[hi]);obtain⟨h1,h2⟩:=h.lay (l:=cap*ks.length) hb (c:=c) (off:=off) λq v hq=>by
   have Z3:q<c.length:=(List.getElem?_eq_some_iff.1 hq).1;have Z4:0<ks.length:=by
    rcases Nat.eq_zero_or_pos ks.length with e|e;.rw[dc,e] at Z3;omega
    .exact e
   have hdm:=Nat.div_add_mod q ks.length;have BX:=Nat.mod_lt q Z4;have hi:q/ks.length<cap:=by rw[Nat.div_lt_iff_lt_mul Z4];omega
   have hg:=gZ (q/ks.length) hi;have zb:(yo (C (q/ks.length)))[q%ks.length]?=some v:=by rw[<-hg,List.getElem?_take,if_pos BX,List.getElem?_drop,<-hq];congr 1;rw[Nat.mul_comm];omega
   unfold yo at zb;rw[List.getElem?_map] at zb;obtain⟨x,hx,rfl⟩:=Option.map_eq_some_iff.1 zb;obtain⟨q1,q2,q3⟩:=hC _ hi;refine⟨x,?_,RI q1 x (List.mem_of_getElem? hx)⟩;have:=q3 _ _ hx;rw[show off+q/ks.length*ks.length+q%ks.length=off+q by rw[Nat.mul_comm];omega] at this;exact this
  refine⟨.sl S.next 0 len cap,_,_,(List.range len).map C,h1.one (.sl (off:=0) (Ren.bG _ _ _)),aR.new S _,⟨.inr ⟨S.next,0,c,.inl ⟨cap,?_,?_,?_⟩,?_,?_,?_⟩,?_⟩,?_,?_,.inr ⟨c,len,cap,rfl,rfl⟩⟩;.simpa using hle
  .rw[dc];omega
  .simp
  .unfold AH.cells?;rw[bk];rfl
  .rw[List.drop_zero,List.length_map,List.length_map,List.length_range];have e1:(List.range cap).map (λi=>yo (C i))=((List.range len).map C).map yo++((List.range (cap-len)).map λj=>yo (C (len+j))):=by
    have:List.range cap=List.range len++(List.range (cap-len)).map (λj=>len+j):=by rw[<-List.range_add];congr 1;omega
    rw[this,List.map_append,List.map_map,List.map_map];rfl
   have Af:∀x∈((List.range len).map C).map yo,x.length=ks.length:=λx hx=>hlen x (by rw[e1];exact List.mem_append.2 (.inl hx));show List.take (len*ks.length) (List.flatten _)=_;rw[e1,List.flatten_append,List.take_append];have oS:(((List.range len).map C).map yo).flatten.length=len*ks.length:=by rw[bm Af];simp
   rw[oS,Nat.sub_self,List.take_zero,List.append_nil,List.take_of_length_le am]
  .intro x hx;obtain⟨vs,JR,rfl⟩:=List.mem_map.1 hx;obtain⟨i,hi,rfl⟩:=List.mem_map.1 JR;have:=eg (hC i (by have:=List.mem_range.1 hi;omega)).1;simp[yo,this]
  .intro id bQ;simp only[dQ,List.mem_singleton] at bQ;subst bQ;simp
  .simp;omega
  .intro vs JR;obtain⟨i,hi,rfl⟩:=List.mem_map.1 JR;have:=hC i (by have:=List.mem_range.1 hi;omega);exact⟨this.1,this.2.1⟩
theorem Open.slice {P:Program}{W:World}{S:AH}{ρ:Ren}{as:List AV}{xs:List Value}(h:Open P W S ρ as xs){ks:List (Option IntKind)}{v:Value}
  (hv:v=.slice none 0 0\/∃(b off len cap:Nat) (C:Nat->List Value),v=.slice (some ⟨b,off,none⟩) len cap/\len<=cap/\cap<=maxLen/\b<W.heap.size/\
    ∀i,i<cap->aE ks (C i)=true/\(∀y∈C i,Fo y=true)/\∀(j:Nat) y,(C i)[j]?=some y->W.cell? ⟨b,off+i*ks.length+j,none⟩=some y):
  ∃(a:AV) (S':AH) (aT:Ren) (L:List (List Value)),Open P W S' aT (a::as) (v::xs)/\aR S S'/\iU S' a ks.length (L.map yo)/\L.length<=maxLen/\(∀vs∈L,aE ks vs=true/\∀y∈vs,Fo y=true):=by
 obtain⟨a,S',aT,L,h1,h2,h3,h4,h5,_⟩:=h.M3 hv;exact⟨a,S',aT,L,h1,h2,h3,h4,h5⟩
end
section
variable{M:cQ}{S:AH}{f:FuncId}
def lV (P:Program)(t:TypeId):Bool:=match P.underlying t with
 |some (.struct _)=>true
 |_=>false
theorem nQ {P:Program}{t:TypeId}(h:lV P t=true):∃fs,P.underlying t=some (.struct fs):=by
 unfold lV at h;split at h;.exact⟨_,ci⟩
 .cases h
theorem qO {ks:List (Option IntKind)}:∀{vs:List Value},aE ks vs=true->sV (yo vs)=some vs:=by
 induction ks with
 |nil=>intro vs h;cases vs with|nil=>rfl|cons _ _=>simp[aE] at h
 |cons k ks ih=>
  intro vs h;cases vs with
  |nil=>simp[aE] at h
  |cons v vs=>simp only[aE,Bool.and_eq_true] at h;have:=ih h.2;simp only[yo,List.map_cons,sV,sk] at this⊢;rw[show sV (List.map AV.sc vs)=some vs from this]
theorem Ej {Q:ga}{k:AV->AC}{t:TypeId}{ks:List (Option IntKind)}{d:Nat}{vs:List Value}(hf:fx M.P d t=some ks)(hd:d<=10000)(hu:lV M.P t=true)(hg:M.P.eqGuardType M.P.depth t=false)(hk:aE ks vs=true)
  (h:wp M (k (B true)) S Q):wp M (.op (.eq t false (.agg (yo vs)) (.agg (yo vs))) k) S Q:=by
 obtain⟨fs,hu⟩:=nQ hu;refine ae (LA hf hd hu hg (qO hk) (qO hk) hk hk) ?_;simpa[rN hk] using h
end
def Z5 {α:Type}(a b:Option α):Prop:=∀r,a=some r->b=some r
theorem Z5.rfl' {α:Type}{a:Option α}:Z5 a a:=λ_ h=>h
section
variable{P:Program}{call Z6:AV->List AV->AH->Option (AV×AH)}{fuel Z7:Nat}
end
section
variable[kg]
end
section
variable[kg]
open Go.ChangeShapes Go.WideShapes
end
section
variable[kg]
open Go.ChangeShapes Go.WideShapes
end
end
end Go.cO
