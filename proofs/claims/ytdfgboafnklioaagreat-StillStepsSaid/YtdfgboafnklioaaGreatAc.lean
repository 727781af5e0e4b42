/- The abstract machine: calls do what the model does; a statement out of a run. No condition. -/
import Derived.Test.YtdfgboafnklioaaGreatAb
import Derived.ProofKit
import Derived.Below
import Derived.Deep.Slices
set_option linter.all false
set_option maxRecDepth 100000
set_option maxHeartbeats 4000000
namespace Go.cI
noncomputable section
section
variable[jJ]
variable{P:Program}{ρ:Ren}{F:Fr}{a:Act}{o:Oper}{S:AH}{w:World}
structure oY (P:Program)(call:gh):Prop where
 ok:∀{g fa fc args S v S' ρ w d},call (.fn (.func g) fa fc) args S=some (v,S')->eY P g=true->R P ρ S w->gi ρ (.fn (.func g) fa fc) args d->
  ∃cap ys,d.target=.fn (.func g) cap/\(invoke d.target d.args).run P w=.ok (.enter g ys) w/\∀u,u≠.run->CallsDIn Fence.wide 0 P g ys u w λe u' w'=>u'=u/\bJ P ρ S w v S' e w'
theorem sB {iF:Ren}{S0:AH}{w0:World}:∀(ms:List Deferred) (w:World) (fr:Frame) (cs:List Frame),Marks w0.heap.size ρ S w ms->R P ρ S w->Ext iF S0 w0 ρ S w->fr.mode≠.run->fr.defers=ms->
  ∃w',R P ρ S w'/\Ext iF S0 w0 ρ S w'/\StepsIn (Machine.fenced P Fence.wide) P (lone fr cs w) (lone {fr with defers:=[]} cs w')
 |[],w,fr,cs,hm,hR,hE,C_,hd=>⟨w,hR,hE,by rw[<-hd];exact .refl _⟩
 |m::ms,w,fr,cs,hm,hR,hE,C_,hd=>by
  obtain⟨r,h1,h2,h3,h4⟩:=hm.2 m ac;have LC:=List.pairwise_cons.1 hm.1;have Gc:Marks w0.heap.size ρ S (w.putObj r (.deferred none)) ms:=by refine⟨LC.2,λm' Gc=>?_⟩;obtain⟨r',k1,k2,k3,k4⟩:=hm.2 m' (by simp[Gc]);refine⟨r',k1,k2,?_,k4⟩;have fF:r'≠r:=λe=>LC.1 m' Gc (by rw[h1,k1,e]);rw[World.putObj_heap_other fF];exact k3
  have hs:=step_collected (P:=P) (cs:=cs) C_ hd (by rw[h1]) (run_takeDeferred h3);obtain⟨w',q1,q2,q3⟩:=sB ms _ {fr with defers:=[]++ms} cs Gc (hR.shut h4 h3) (hE.shut h2) C_ rfl;refine⟨w',q1,q2,.head ?_ hs q3⟩;exact fenced_out (n:=0) trivial (room_wide _) C_ hd (λg hg=>trivial)
def B5 (P:Program)(ρ:Ren)(S:AH)(w:World)(fn:Func)(v:AV)(S':AH):Exit->Act->World->Prop:=λe a' w'=>
 (e=.normal\/e=.ret)/\∃ba,R P ba S' w'/\Ext ρ S w ba S' w'/\Marks w.heap.size ba S' w' a'.defers/\
   ∀x8,R P ba S' x8->∃x,V ba v x/\(results fn a'.tmps).run P x8=.ok x x8
theorem wJ {f:FuncId}{fn:Func}{c:Code}{ys:Array Value}{v:AV}{S':AH}(hf:P.funcs[f]?=some fn)(hb:fn.body=some c)
  (h:c.wpIn (FF none) 0 P (B5 P ρ S w fn v S') {tmps:=ys++Array.replicate (fn.ntmps-ys.size) undef,defers:=[]} w):CallsIn Fence.wide 0 P f ys w (bJ P ρ S w v S'):=by
 refine callsIn_of_wp_marks (F:=FF none) hf hb trivial (wpIn_mono h λe a1 w1 q=>?_);obtain⟨he,ba,h1,h2,h3,h4⟩:=q;have key:LeavesInM (FF none) 0 P fn a1.tmps (bJ P ρ S w v S') a1.defers .returning w1:=by
  have:=lY (P:=P) (fn:=fn) (tmps:=a1.tmps) (Rr:=bJ P ρ S w v S') (rest:=[]) a1.defers w1 h3 h1 h2 (λw' q1 q2 q3=>by
   obtain⟨x,g1,g2⟩:=h4 w' q1;exact⟨x,g2,x,ba,rfl,g1,q1,q2⟩)
  rwa[List.append_nil] at this
 rcases he with rfl|rfl<;>exact key
theorem rI {f:FuncId}{fn:Func}{c:Code}{ys:Array Value}{v:AV}{S':AH}{u:FrameMode}(hf:P.funcs[f]?=some fn)(hb:fn.body=some c)
  (h:c.wpIn (FF none) 0 P (B5 P ρ S w fn v S') {tmps:=ys++Array.replicate (fn.ntmps-ys.size) undef,defers:=[]} w):
  CallsDIn Fence.wide 0 P f ys u w λe u' w'=>u'=u/\bJ P ρ S w v S' e w':=by
 refine⟨trivial,λAm cs hu hr=>?_⟩;let b:Frame:={(default:Frame) with fn:=f,kind:=.deferred,roundOf:=none}
 have MW:Frame.enter P f ys .deferred=
   b.atR {tmps:=ys++Array.replicate (fn.ntmps-ys.size) undef,defers:=[]} [.code c]:=by
  simp[Frame.enter,Frame.atR,hf,hb,b]
 have hc:({Am with mode:=u}:Frame)=Am:=by subst hu;rfl
 obtain⟨e,a',w',hq,k_⟩:=h b [] (Am::cs) rfl trivial hr;rw[<-MW] at k_;obtain⟨he,ba,h1,h2,h3,h4⟩:=hq;have key:∀fr:Frame,fr.mode=.returning->fr.defers=a'.defers->fr.tmps=a'.tmps->fr.fn=f->fr.kind=.deferred->StepsIn (Machine.fenced P Fence.wide) P (lone (Frame.enter P f ys .deferred) (Am::cs) w) (lone fr (Am::cs) w')->
   ∃e u' w' fr,(u'=u/\bJ P ρ S w v S' e w')/\
    ComesIn (Machine.fenced P Fence.wide) P (lone (Frame.enter P f ys .deferred) (Am::cs) w) (lone fr ({Am with mode:=u'}::cs) w') e/\fr.kind=.deferred/\fr.fn=f/\fr.going P w' e:=by
  intro fr g1 g2 g3 g4 g5 hs;obtain⟨w2,k1,k2,k3⟩:=sB a'.defers w' fr (Am::cs) h3 h1 h2 (by rw[g1];simp) g2;obtain⟨x,l1,l2⟩:=h4 w2 k1;refine⟨.returned x,u,w2,{fr with defers:=[]},⟨rfl,x,ba,rfl,l1,k1,k2⟩,?_,g5,g4,g1,rfl,fn,by rw[<-hf];exact congrArg _ g4,by simp only[g3];exact l2⟩;rw[hc];exact StepsIn.trans hs k3
 rcases he with rfl|rfl;.exact key {b.atR a' [] with mode:=.returning} rfl rfl rfl rfl rfl (StepsIn.trans k_ (.one (fenced_calm (n:=0) (fr:=b.atR a' []) trivial (room_wide _) rfl) (stepR_end rfl)))
 .obtain⟨todo,hs⟩:=k_.1 rfl;exact key {b.atR a' todo with mode:=.returning} rfl rfl rfl rfl rfl hs
end
section
variable[jJ]
variable{P:Program}{ρ:Ren}{F:Fr}{a:Act}{o:Oper}{S:AH}{w:World}
theorem VL.oneOf {vs xs}(h:VL ρ vs xs):V ρ (cI.oneOf vs) (if h:xs.toArray.size=1 then xs.toArray[0] else .tuple xs.toArray):=by
 cases h with
 |nil=>exact .dh .nil
 |cons h1 h2=>
  cases h2 with
  |nil=>simpa[cI.oneOf] using h1
  |cons h3 h4=>simpa[cI.oneOf] using V.dh (.cons h1 (.cons h3 h4))
theorem sC (P:Program){call}{fuel:Nat}{S}:∀(rs:List ResultVar) (i:Nat) (pre vs acc:List AV),rs.all uf=true->pre.length=i->vs.length=rs.length->
  run P call fuel (cY P rs i (pre++vs) acc) S=some (.ret,acc++vs,S)
 |[],i,pre,vs,acc,_,hi,hl=>by
  have:vs=[]:=List.length_eq_zero_iff.1 (by simpa using hl);subst this;simp[cY,Jy]
 |.tmp t::rs,i,pre,vs,acc,h,hi,hl=>by
  cases vs with
  |nil=>simp at hl
  |cons v vs=>
   have h':rs.all uf=true:=by simp only[List.all_cons,Bool.and_eq_true] at h;exact h.2
   have:=@sC P call fuel S rs (i+1) (pre++[v]) vs (acc++[v]) h' (by simp[hi]) (by simpa using hl);simp only[cY];have e:nth (pre++v::vs) i=v:=B2 (by rw[<-hi];simp);rw[e];simpa using this
 |.cell _ _::rs,_,_,_,_,h,_,_=>by simp[uf] at h
section
variable{call:gh}{fuel:Nat}
theorem kE (fn:Func){F1 jH S1 tmps t vs S'}(hF:FR jH F1 tmps)
  (h:run P call fuel (cY P fn.results.toList 0 (F1.outs (fn.results.toList.map ResultVar.slot)) []) S1=some (t,vs,S')) {w1} (hR:R P jH S1 w1):
  t=.ret/\S'=S1/\∃x,V jH (oneOf vs) x/\(results fn tmps).run P w1=.ok x w1:=by
 obtain⟨news,xs,h1,h2,h3,h4,h5⟩:=yl hR fn.results.toList 0 [] t vs S' (λj r hj=>by
  rw[Nat.zero_add,C3 _ F1 j (ResultVar.slot r) (by simp[hj])];exact hF _) h
 refine⟨h1,h3,(if h:xs.toArray.size=1 then xs.toArray[0] else .tuple xs.toArray),?_,?_⟩;.rw[h2,List.nil_append];exact h4.oneOf
 .rw[B3,Sem.run_bind,Ge h5];simp only[Result.andThen_ok,Sem.run_pure]
theorem uO (cj:cV P call){fn:Func}{c:Code}{vars:List Nat}{vs:List AV}{S':AH}(hb:fn.body=some c)(hd:ff c=false){args:List AV}{xs:List Value}(hx:VL ρ args xs)
  (h:run P call fuel (fx P fn vars args) S=some (.ret,vs,S')) (hR:R P ρ S w) (hlen:xs.length<=fn.ntmps\/True):
  c.wpIn (FF none) 0 P (B5 P ρ S w fn (oneOf vs) S') {tmps:=xs.toArray++Array.replicate (fn.ntmps-xs.toArray.size) undef,defers:=[]} w:=by
 unfold fx at h;rw[hb] at h;simp only at h;cases bG:fits fn.ntmps c with
 |false=>rw[bG] at h;cases h
 |true=>
  rw[bG,hd] at h;simp only[Bool.not_true,Bool.false_eq_true,if_false] at h;have WS:FR ρ (Fr.fb .e (List.range (fn.params.size+fn.nfree)) 0 args) (xs.toArray++Array.replicate (fn.ntmps-xs.toArray.size) undef):=FR.args _ _ hx;have Gj:fits (xs.toArray++Array.replicate (fn.ntmps-xs.toArray.size) undef).size c=true:=xh (by simp;omega) bG;have key:∃lg,run P call fuel (den P vars false none c (Fr.fb .e (List.range (fn.params.size+fn.nfree)) 0 args) (fn.results.toList.map ResultVar.slot) λF=>.ret .ret (F.outs (fn.results.toList.map ResultVar.slot))) S=some lg/\
    ∀P3 S0,(lg=(.ret,P3,S0))->(∃F1:Fr,P3=F1.outs (fn.results.toList.map ResultVar.slot))->run P call fuel (cY P fn.results.toList 0 P3 []) S0=some (.ret,vs,S'):=by
   cases jM:fn.results.toList.all uf with
   |true=>
    rw[jM] at h;simp only[if_true] at h;refine⟨_,h,λP3 S0 e ⟨F1,e1⟩=>?_⟩;cases e;have:=sC P (S:=S') (call:=call) (fuel:=fuel) fn.results.toList 0 [] vs [] jM rfl (by rw[e1];simp[Fr.outs]);simpa using this
   |false=>
    rw[jM] at h;simp only[Bool.false_eq_true,if_false] at h;rw[tL] at h;unfold rz at h;cases hm:run P call fuel (den P vars false none c (Fr.fb .e (List.range (fn.params.size+fn.nfree)) 0 args) (fn.results.toList.map ResultVar.slot) λF=>.ret .ret (F.outs (fn.results.toList.map ResultVar.slot))) S with
    |none=>rw[hm] at h;cases h
    |some lg=>refine⟨lg,rfl,λP3 S0 e _=>?_⟩;subst e;rw[hm] at h;exact h
  obtain⟨lg,k1,k2⟩:=key;refine wpIn_mono (rH cj c false none _ _ _ S lg ρ _ w none (λ_=>rfl) k1 hR WS Gj) λe a1 w1 q=>?_;obtain⟨jH,S1,F1,ms,h1,h2,h3,h4,h5,h6,h7⟩:=q;have B6:a1.defers=ms:=by rw[h5];simp
  have fin:lg=(.ret,F1.outs (fn.results.toList.map ResultVar.slot),S1)->∃ba,R P ba S' w1/\Ext ρ S w ba S' w1/\Marks w.heap.size ba S' w1 a1.defers/\∀x8,R P ba S' x8->∃x,V ba (oneOf vs) x/\(results fn a1.tmps).run P x8=.ok x x8:=by intro e0;have hl:=k2 _ _ e0 ⟨F1,rfl⟩;obtain⟨_,rfl,_⟩:=kE fn h2 hl h1;refine⟨jH,h1,h3,by rw[B6];exact h6,λx8 WT=>?_⟩;exact(kE fn h2 hl WT).2.2
  cases e with
  |normal=>exact⟨.inl rfl,fin (Option.some.inj h7).symm⟩
  |ret=>exact⟨.inr rfl,fin h7⟩
  |exit id=>
   exfalso;have e0:lg=(.exit (3*id),F1.outs (fn.results.toList.map ResultVar.slot),S1):=h7;subst e0;cases jM:fn.results.toList.all uf with
   |true=>
    rw[jM] at h;simp only[if_true] at h;rw[k1] at h;cases h
   |false=>
    rw[jM] at h;simp only[Bool.false_eq_true,if_false] at h;rw[tL] at h;unfold rz at h;rw[k1] at h;cases h
  |goto l=>exact(by cases h7.1)
  |panic ch=>exact h7.elim
  |outgrown=>exact h7.elim
end
end
section
variable[jJ]
variable{P:Program}{ρ:Ren}{F:Fr}{a:Act}{o:Oper}{S:AH}{w:World}
section
variable{call:gh}{fuel:Nat}{gt:Option Nat}
theorem gi.mono {ba}(hl:ρ.le ba){f args d}(h:gi ρ f args d):gi ba f args d:=by
 rcases h with⟨fn,fa,fc,a',c',xs,e,h1,h2,h3,h4,h5⟩|⟨id,b,o,l,xs,e,h1,h2,h3,h4⟩|⟨m,xs,e,h1,h2,h3⟩;.exact .inl ⟨fn,fa,fc,a',c',xs,e,h1.mono hl,h2.mono hl,h3.mono hl,h4,h5⟩
 .exact .inr (.inl ⟨id,b,o,l,xs,e,hl _ _ h1,h2.mono hl,h3,h4⟩)
 .exact .inr (.inr ⟨m,xs,e,h1.mono hl,h2,h3⟩)
theorem bJ.MX {jH S1 w1 v S'}(hE:Ext ρ S w jH S1 w1){e w'}(h:bJ P jH S1 w1 v S' e w'):bJ P ρ S w v S' e w':=by obtain⟨x,ba,e,h1,h2,h3⟩:=h;exact⟨x,ba,e,h1,h2,hE.trans h3⟩
theorem nr (cj:cV P call){vars}{round:Bool}{ro}:∀(c:Code) (F:Fr) (K:Fr->AC) (S:AH) (res:Tag×List AV×AH) (ρ:Ren) (a:Act) (w:World) (Q:Exit->Act->World->Prop),dM c=true->
  run P call fuel (den P vars round gt c F [] K) S=some res->R P ρ S w->FR ρ F a.tmps->fits a.tmps.size c=true->
  (∀ba S' F' a' w',run P call fuel (K F') S'=some res->R P ba S' w'->FR ba F' a'.tmps->Ext ρ S w ba S' w'->a'.tmps.size=a.tmps.size->a'.defers=a.defers->Q .normal a' w')->
  c.wpIn (FF ro) 0 P Q a w:=by
 intro c;induction c with
 |skip=>intro F K S res ρ a w Q hs h hR hF bG hQ;exact wpIn_skip (hQ ρ S F a w h hR hF (Ext.refl _ _ _) rfl rfl)
 |label l=>intro F K S res ρ a w Q hs h hR hF bG hQ;exact wpIn_label (hQ ρ S F a w h hR hF (Ext.refl _ _ _) rfl rfl)
 |region id ops draw=>
  intro F K S res ρ a w Q hs h hR hF bG hQ;have td:=uI bG;have qo:∀ba S' F' a' w',run P call fuel (K F') S'=some res->R P ba S' w'->FR ba F' a'.tmps->Ext ρ S w ba S' w'->cW (ga (.region id ops draw) []) a a'->a'.defers=a.defers->Q .normal a' w':=
   λba S' F' a' w' k1 k2 k3 k4 k5 k6=>hQ ba S' F' a' w' k1 k2 k3 k4 k5.size k6
  simp only[den] at h;cases hp:oO P ops draw with
  |none=>rw[hp] at h;cases h
  |some p=>
   rw[hp] at h;simp only at h;cases draw with
   |true=>exact uH cj hp h hR hF td qo
   |false=>
    unfold oO at hp;simp only[Bool.false_eq_true,if_false] at hp;cases hp;exact wpIn_region (oV cj (λi o d h1 h2=>(td i o d h1 h2).2) _ F [] a w ρ S h hR hF (λi o d h1 h2=>(td i o d h1 h2).1) qo)
 |seq x y yk wI=>
  intro F K S res ρ a w Q hs h hR hF bG hQ;simp only[dM,Bool.and_eq_true] at hs;simp only[den] at h;simp only[fits,Bool.and_eq_true] at bG;refine wpIn_seq (yk F _ S res ρ a w _ hs.1 h hR hF bG.1 λjH S1 F1 a1 w1 k1 k2 k3 k4 k5 k6=>?_);exact wI F1 K S1 res jH a1 w1 Q hs.2 k1 k2 k3 (by rw[k5];exact bG.2) λzt S2 F2 a2 w2 l1 l2 l3 l4 l5 l6=>hQ zt S2 F2 a2 w2 l1 l2 l3 (k4.trans l4) (l5.trans k5) (l6.trans k6)
 |_=>intro F K S res ρ a w Q hs;simp[dM] at hs
theorem uP {ops c}(h:kV ops=some c):∃o,ops[ops.size-1]?=some o/\o.guard=none/\o.dst=none/\o.op=.defer c/\List.range ops.size=List.range (ops.size-1)++[ops.size-1]:=by
 unfold kV at h;cases hb:ops.back? with
 |none=>rw[hb] at h;cases h
 |some o=>
  rw[hb] at h;simp only at h;rw[Array.back?_eq_getElem?] at hb;have du:=(Array.getElem?_eq_some_iff.1 hb).1;cases hg:o.guard with
  |some _=>rw[hg] at h;cases h
  |none=>
   cases hd:o.dst with
   |some _=>rw[hg,hd] at h;cases h
   |none=>
    rw[hg,hd] at h;simp only at h;cases ho:o.op with
    |defer c'=>
     rw[ho] at h;cases h;refine⟨o,hb,hg,hd,ho,?_⟩;rw[<-List.range_succ];congr 1;omega
    |_=>rw[ho] at h;cases h
theorem eu {ops:Array Oper}{Q:Exit->Act->World->Prop}{j:Nat}{c:Call}{o:Oper}(ho:ops[j]?=some o)(hg:o.guard=none)(wA:o.op=.defer c):∀(l:List Nat) (a:Act) (w:World),
  wpOpsIn (FF none) 0 P ops (λe a' w'=>e=.normal/\∃d,(resolve a'.eval c o.type).run P w'=.ok d w'/\Q .normal ({a' with defers:=d::a'.defers}.put o.dst undef) w') l a w->wpOpsIn (FF none) 0 P ops Q (l++[j]) a w
 |[],a,w,h=>by
  obtain⟨_,d,h1,h2⟩:=h;show wpOpsIn (FF none) 0 P ops Q [j] a w;simp only[wpOpsIn,ho,Region.wanted,hg,if_true];refine⟨λ_ _=>trivial,?_⟩;have hs:o.semAt (FF none).round a.eval=execOp a.eval o:=rfl;have hex:execOp a.eval o=(do pure (.defer (<-resolve a.eval c o.type))):=by simp[execOp,wA]
  rw[hs,hex,Sem.run_bind,h1,Result.andThen_ok,Sem.run_pure];exact h2
 |i::l,a,w,h=>by
  show wpOpsIn (FF none) 0 P ops Q (i::(l++[j])) a w;simp only[wpOpsIn] at h⊢;cases hi:ops[i]? with
  |none=>rw[hi] at h;exact eu ho hg wA l a w h
  |some oi=>
   rw[hi] at h;simp only at h⊢;split
   .rename_i hw;rw[if_pos hw] at h;refine⟨h.1,?_⟩;have h2:=h.2;clear h;generalize(oi.semAt (FF none).round a.eval).run P w=r at h2⊢;cases r with
    |ok nx w'=>
     cases nx with
     |value v=>exact eu ho hg wA l _ _ h2
     |skip=>exact eu ho hg wA l _ _ h2
     |defer d=>exact eu ho hg wA l _ _ h2
     |enter f args=>
      refine⟨h2.1,CallsIn.mono h2.2 λe x8 q=>?_⟩;cases e with
      |returned v=>exact eu ho hg wA l _ _ q
      |panicked ch=>exact absurd q.1 ac
      |outgrown=>obtain⟨_,_,q⟩:=q;exact absurd q.1 ac
     |row r args=>exact⟨h2.1,RowsIn.mono h2.2 λv x8 q=>eu ho hg wA l _ _ q⟩
     |round l' f tmps wE body=>
      refine⟨h2.1,RoundIn.mono h2.2 λe x8 q=>?_⟩;cases e with
      |returned v=>exact eu ho hg wA l _ _ q
      |panicked ch=>exact absurd q.1 ac
      |outgrown=>obtain⟨_,_,q⟩:=q;exact absurd q.1 ac
     |_=>exact h2.elim
    |halt x w'=>
     cases x with
     |panic v=>exact absurd h2.1 ac
     |_=>exact h2.elim
   .rename_i hw;rw[if_neg hw] at h;exact⟨h.1,eu ho hg wA l _ _ h.2⟩
end
end
section
variable[jJ]
variable{P:Program}{ρ:Ren}{F:Fr}{a:Act}{o:Oper}{S:AH}{w:World}
section
variable{call:gh}{fuel:Nat}
def Da (P:Program)(vars:List Nat)(rs:List ResultVar)(out:List Nat)(b:Code)(c:Call)(F1:Fr):AC:=
 match c.callee with
 |.value f=>match F1.ev f with
  |.fn (.func g) fa fc=>
   if eY P g then .fin (den P vars false none b F1 out λF=>.ret .ret (F.outs out)) λvs=>
    .call (.fn (.func g) fa fc) (c.args.toList.map F1.ev) λ_=>cY P rs 0 vs []
   else .fail
  |_=>.fail
 |_=>.fail
theorem En {vars rs out x b F ops c}(h:hG x=some (ops,c)):
  oc P vars rs out (.seq x b) F=aB P ops ((List.range (ops.size-1)).map .exec) F [] (Da P vars rs out b c):=by
 simp only[oc,h];rfl
theorem Eo {vars rs out x b F}(h:hG x=none):
  oc P vars rs out (.seq x b) F=if dM x then den P vars false none x F [] λF1=>oc P vars rs out b F1 else .fail:=by
 simp only[oc,h]
theorem ec {Fe}{n:Nat}{fn tmps R R'}(hm:∀e w,R e w->R' e w):∀(ds:List Deferred) (u:FrameMode) (w:World),LeavesInM Fe n P fn tmps R ds u w->LeavesInM Fe n P fn tmps R' ds u w
 |[],.returning,w,h=>let⟨v,h1,h2⟩:=h;⟨v,h1,hm _ _ h2⟩
 |[],.panicking ch,w,h=>hm _ _ h
 |[],.run,w,h=>h
 |d::ds,u,w,h=>by
  refine⟨h.1,?_⟩;rcases h.2 with⟨r,w',h1,h2,h3⟩|⟨h1,fv,cap,f,args,h2,h3,h4,h5⟩;.exact .inl ⟨r,w',h1,h2,ec hm ds u w' h3⟩
  .refine .inr ⟨h1,fv,cap,f,args,h2,h3,h4,CallsDIn.mono h5 λe u' w' q=>?_⟩;cases e with
   |returned v=>exact ec hm ds _ w' q
   |panicked ch=>exact ec hm ds _ w' q
   |outgrown=>exact hm _ _ q
theorem uQ {Fe}{n:Nat}{fn R R'}(hm:∀e w,R e w->R' e w){e a w}(h:bodyPostM Fe n P fn R e a w):bodyPostM Fe n P fn R' e a w:=by
 cases e with
 |normal=>exact ec hm _ _ _ h
 |ret=>exact ec hm _ _ _ h
 |panic ch=>exact ec hm _ _ _ h
 |outgrown=>exact hm _ _ h
 |exit i=>exact h
 |goto l=>exact h
theorem B7 (cj:cV P call)(B6:oY P call){vars fn vs S'}:∀(c:Code) (F:Fr) (S:AH) (ρ:Ren) (a:Act) (w:World),
  run P call fuel (oc P vars fn.results.toList (fn.results.toList.map ResultVar.slot) c F) S=some (.ret,vs,S')->R P ρ S w->FR ρ F a.tmps->fits a.tmps.size c=true->a.defers=[]->
  c.wpIn (FF none) 0 P (bodyPostM (FF none) 0 P fn (bJ P ρ S w (oneOf vs) S')) a w:=by
 intro c;induction c with
 |seq x b yk U3=>
  intro F S ρ a w h hR hF bG U6;simp only[fits,Bool.and_eq_true] at bG;cases C0:hG x with
  |none=>
   rw[Eo C0] at h;cases hs:dM x with
   |false=>rw[hs] at h;cases h
   |true=>
    rw[hs] at h;simp only[if_true] at h;refine wpIn_seq (nr cj x F _ S _ ρ a w _ hs h hR hF bG.1 λjH S1 F1 a1 w1 k1 k2 k3 k4 k5 k6=>?_);refine wpIn_mono (U3 F1 S1 jH a1 w1 k1 k2 k3 (by rw[k5];exact bG.2) (by rw[k6,U6])) λe a2 w2 q=>?_;have hm:∀(e:Ending) w',bJ P jH S1 w1 (oneOf vs) S' e w'->bJ P ρ S w (oneOf vs) S' e w':=λe w' q=>q.MX k4;exact uQ hm q
  |some q=>
   obtain⟨ops,c⟩:=q;rw[En C0] at h;cases x with
   |region id MY dr=>
    cases dr with
    |true=>simp[hG] at C0
    |false=>
     have WU:MY=ops/\kV ops=some c:=by
      simp only[hG] at C0;cases hl:kV MY with
      |none=>rw[hl] at C0;cases C0
      |some c'=>rw[hl] at C0;cases C0;exact⟨rfl,hl⟩
     obtain⟨rfl,WU⟩:=WU;obtain⟨o,ho,hg,WV,wA,MZ⟩:=uP WU;have td:=uI bG.1;refine wpIn_seq (wpIn_region ?_);rw[MZ];refine eu ho hg wA _ a w ?_;refine oV cj (W:=ga (.region id MY false) []) (λi o d h1 h2=>(td i o d h1 h2).2) _ F [] a w ρ S h hR hF (λi o d h1 h2=>(td i o d h1 h2).1) λjH S1 F1 a1 w1 k1 k2 k3 k4 k5 k6=>?_;refine⟨rfl,?_⟩;unfold Da at k1;cases cL:c.callee with
     |value f=>
      rw[cL] at k1;simp only at k1;have hfv:=aC k3 f;cases An:F1.ev f with
      |fn g fa fc=>
       rw[An] at k1;cases g with
       |func g=>
        simp only at k1;cases sk:eY P g with
        |false=>rw[sk] at k1;cases k1
        |true=>
         rw[sk] at k1;simp only[if_true] at k1;obtain⟨d,rD,mL⟩:=kx (P:=P) (c:=c) (f:=.fn (.func g) fa fc) rfl cL (An▸hfv) (i7 k3 c.args.toList) o.type;refine⟨d,rD w1,?_⟩;rw[tL] at k1;unfold rz at k1;cases hm:run P call fuel (den P vars false none b F1 (fn.results.toList.map ResultVar.slot) λF=>.ret .ret (F.outs (fn.results.toList.map ResultVar.slot))) S1 with
         |none=>rw[hm] at k1;cases k1
         |some lg=>
          rw[hm] at k1;have hFd:FR jH F1 (({a1 with defers:=d::a1.defers}:Act).put o.dst undef).tmps:=by rw[WV];exact k3
          have dk:(({a1 with defers:=d::a1.defers}:Act).put o.dst undef).tmps.size=a.tmps.size:=by rw[uu];exact k5.size
          show Code.wpIn (FF none) 0 P b _ _ w1;refine wpIn_mono (rH cj b false none F1 _ _ S1 lg jH _ w1 none (λ_=>rfl) hm k2 hFd (by rw[dk];exact bG.2)) λe a2 w2 q=>?_;obtain⟨zt,S2,F2,ms,h1,h2,h3,h4,h5,h6,h7⟩:=q;have hdf:a2.defers=ms++[d]:=by rw[h5,put_defers];simp[k6,U6]
          have fin:lg=(.ret,F2.outs (fn.results.toList.map ResultVar.slot),S2)->LeavesInM (FF none) 0 P fn a2.tmps (bJ P ρ S w (oneOf vs) S') a2.defers .returning w2:=by intro e0;subst e0;simp only at k1;rw[ni] at k1;obtain⟨v,S3,g1,g2⟩:=fR k1;rw[hdf];refine lY (iF:=jH) (S0:=S1) (w0:=w1) ms w2 h6 h1 h3 λw3 j1 j2 j3=>?_;obtain⟨cap,ys,l1,l2,l3⟩:=B6.ok g1 sk j1 (mL.mono h3.wy);refine⟨ac,.inr ⟨λh=>by simp[FF] at h,.func g,cap,g,ys,l1,l2,λ_ _=>trivial,?_⟩⟩;refine CallsDIn.mono (l3 .returning ac) λe u' w4 hq=>?_;obtain⟨rfl,x,Fg,rfl,m1,m2,m3⟩:=hq;have hF3:FR Fg F2 a2.tmps:=h2.mono m3.wy;obtain⟨_,hS,y,n1,n2⟩:=kE fn hF3 g2 m2;subst hS;show LeavesInM (FF none) 0 P fn a2.tmps _ [] (settle .returning) w4;exact⟨y,n2,y,Fg,rfl,n1,m2,k4.trans (j2.trans m3)⟩
          cases e with
          |normal=>exact fin (Option.some.inj h7).symm
          |ret=>exact fin h7
          |exit i=>
           have e0:lg=(.exit (3*i),F2.outs (fn.results.toList.map ResultVar.slot),S2):=h7;subst e0;cases k1
          |goto l=>exact(by cases h7.1)
          |panic ch=>exact h7.elim
          |outgrown=>exact h7.elim
       |_=>cases k1
      |_=>rw[An] at k1;cases k1
     |_=>rw[cL] at k1;cases k1
   |_=>simp[hG] at C0
 |_=>intro F S ρ a w h;simp only[oc] at h;cases h
end
end
section
variable[jJ]
variable{P:Program}{ρ:Ren}{F:Fr}{a:Act}{o:Oper}{S:AH}{w:World}
def Ao (P:Program)(iA:Table):Prop:=∀f b,iA f=some b->∃fn vars,P.funcs[f]?=some fn/\(fn.name== "runtime.NumGoroutine")=false/\b=fx P fn vars
theorem uR {call}{fuel:Nat}{fn vars args r}(h:run P call fuel (fx P fn vars args) S=some r):∃c,fn.body=some c/\fits fn.ntmps c=true:=by
 unfold fx at h;cases hb:fn.body with
 |none=>rw[hb] at h;cases h
 |some c=>
  rw[hb] at h;simp only at h;cases hf:fits fn.ntmps c with
  |true=>exact⟨c,rfl,hf⟩
  |false=>rw[hf] at h;cases h
theorem l7 {g fn c args}(hf:P.funcs[g]?=some fn)(hn:(fn.name== "runtime.NumGoroutine")=false)(hb:fn.body=some c):
  (callFunc g args).run P w=.ok (.enter g args) w:=by
 have gD:¬fn.name= "runtime.NumGoroutine":=by simpa using hn
 simp[callFunc,Sem.run_bind,program,Sem.run,hf,Result.andThen,gD,hb]
theorem Ap {call}{fuel:Nat}(cj:cV P call)(B6:oY P call){g fn vars args vs xs S'}(hf:P.funcs[g]?=some fn)
  (hx:VL ρ args xs) (h:run P call fuel (fx P fn vars args) S=some (.ret,vs,S')) (hR:R P ρ S w):CallsIn Fence.wide 0 P g xs.toArray w (bJ P ρ S w (oneOf vs) S'):=by
 obtain⟨c,hb,bG⟩:=uR h;cases hd:ff c with
 |false=>exact wJ hf hb (uO cj hb hd hx h hR (.inr trivial))
 |true=>have WS:FR ρ (Fr.fb .e (List.range (fn.params.size+fn.nfree)) 0 args) (xs.toArray++Array.replicate (fn.ntmps-xs.toArray.size) undef):=FR.args _ _ hx;have Gj:fits (xs.toArray++Array.replicate (fn.ntmps-xs.toArray.size) undef).size c=true:=xh (by simp;omega) bG;unfold fx at h;rw[hb] at h;simp only[bG,hd,Bool.not_true,Bool.false_eq_true,if_false,if_true] at h;exact callsIn_of_wp_marks (F:=FF none) hf hb trivial (B7 cj B6 c _ S ρ {tmps:=xs.toArray++Array.replicate (fn.ntmps-xs.toArray.size) undef,defers:=[]} w h hR WS Gj rfl)
theorem FR.fold {n:Nat}:∀(ps:List Nat) (xs:List Value) (F:Fr) (tmps:Array Value) (i:Nat) (vs:List AV),FR ρ F tmps->ps.length=xs.length->(∀p∈ps,p<tmps.size)->(∀j,V ρ (nth vs (i+j)) (xs.getD j undef))->
  FR ρ (F.fb ps i vs) ((ps.zip xs).foldl (λt (p:Nat×Value)=>t.setIfInBounds p.1 p.2) tmps)/\((ps.zip xs).foldl (λt (p:Nat×Value)=>t.setIfInBounds p.1 p.2) tmps).size=tmps.size
 |[],xs,F,tmps,i,vs,hF,hl,hp,hv=>⟨hF,rfl⟩
 |p::ps,[],F,tmps,i,vs,hF,hl,hp,hv=>by simp at hl
 |p::ps,x::xs,F,tmps,i,vs,hF,hl,hp,hv=>by
  simp only[List.zip_cons_cons,List.foldl_cons,Fr.fb];have h1:FR ρ (T.set F p (nth vs i)) (tmps.setIfInBounds p x):=by have:=FR.put (a:={tmps:=tmps,defers:=[]}) hF (d:=some p) (v:=nth vs i) (x:=x) (hv 0) (λe he=>by cases he;exact hp p ac);exact this
  obtain⟨q1,q2⟩:=FR.fold (n:=n) ps xs _ (tmps.setIfInBounds p x) (i+1) vs h1 (by simpa using hl) (λq hq=>by rw[Array.size_setIfInBounds];exact hp q (by simp[hq])) (λj=>by
   have:=hv (j+1);simpa[show i+(j+1)=i+1+j by omega] using this)
  exact⟨q1,by rw[q2,Array.size_setIfInBounds]⟩
theorem Aq {call}{fuel:Nat}(cj:cV P call){l:Nat}{dq}{m:Nat}{body args xs}{b o len:Nat}{t vs S' v S2}
  (hR:R P ρ S w) (hl:ρ l=some (b,o,len)) (hg:S.get l=some (.loop .ready dq m body)) (hx:VL ρ args xs) (hlen:args.length=m)
  (h:run P call fuel (body (.yd l::args)) S=some (t,vs,S')) {p2} {m2:Nat} {b2} (B8:S'.get l=some (.loop .busy p2 m2 b2))
  (hv:(t=.normal/\v=.sc (.bool true)/\S2=S'.set l (.loop .ready none m2 b2))\/(t≠.normal/\v=.sc (.bool false)/\S2=S'.set l (.loop .done (some t) m2 b2))):
  ∃g tmps wE bd,(Instr.yield b xs.toArray).run P w=.ok (.round b g tmps wE bd) w/\RoundIn Fence.wide 0 P b g tmps wE bd w (bJ P ρ S w v S2):=by
 obtain⟨r,g1,g2,g3,g4,F0,vars,l1,l2,l3,l4,l5,l6⟩:=hR.ji hg hl;have QU:xs.length=r.params.size:=by rw[g4,<-hlen];exact hx.length.symm
 refine⟨r.fn,_,r.assign,r.body,run_yield g1 (by simpa using QU),?_⟩;have Q5:(r.params.zip xs.toArray).foldl (λtmps (x:Tmp×Value)=>tmps.setIfInBounds x.1 x.2) r.tmps=(r.params.toList.zip xs).foldl (λt (p:Nat×Value)=>t.setIfInBounds p.1 p.2) r.tmps:=by rw[<-Array.foldl_toList,Array.toList_zip]
 have M0:(r.params.zip xs.toArray).foldl (λtmps (x:Tmp×Value)=>match x with|(t,a)=>tmps.setIfInBounds t a) r.tmps=(r.params.toList.zip xs).foldl (λt (p:Nat×Value)=>t.setIfInBounds p.1 p.2) r.tmps:=Q5;have Gb:=FR.fold (n:=0) r.params.toList xs F0 r.tmps 1 (.yd l::args) l1 (by simpa using QU.symm) l5 (λj=>by
  rw[Nat.add_comm];exact hx.WQ j)
 rw[l6] at h;rw[M0];generalize(r.params.toList.zip xs).foldl (λt (p:Nat×Value)=>t.setIfInBounds p.1 p.2) r.tmps=tm at Gb⊢;obtain⟨Gb,dk⟩:=Gb;refine roundIn_of_wpIn (F:=Fence.wide) trivial ?_;show Code.wpIn (FF (some b)) 0 P r.assign _ _ w;refine nr (ro:=some b) cj r.assign _ _ S _ ρ {tmps:=tm,defers:=[]} w _ l2 h hR Gb (by simp only[dk];exact l3) λjH S1 F1 a1 w1 k1 k2 k3 k4 k5 k6=>?_;have IZ:=k4.wy _ _ hl;rw[xf] at k1;unfold pV at k1;have QO:nth (AV.yd l::args) 0=.yd l:=rfl;rw[QO] at k1;simp only at k1;cases U7:S1.get l with
 |none=>rw[U7] at k1;cases k1
 |some ob=>
  rw[U7] at k1;cases ob with
  |loop st pd n1 bd1=>
   cases st with
   |ready=>
    simp only at k1;obtain⟨r1,m1,m2',m3,m4,m5⟩:=k2.ji U7 IZ;refine⟨w1.putObj b (.loop {r1 with state:=.busy}),run_beginRound m1 m2',?_⟩;have du:=(Array.getElem?_eq_some_iff.1 m1).1;obtain⟨hR2,Fh⟩:=k2.set (w':=w1.putObj b (.loop {r1 with state:=.busy})) U7 rfl IZ ⟨rfl,rfl,rfl⟩ World.putObj_size (λk hk=>World.putObj_heap_other hk)
     (s_:=.loop .busy pd n1 bd1) ⟨{r1 with state:=.busy},World.putObj_heap_same du,rfl,m3,m4,m5⟩ rfl
    show Code.wpIn (FF (some b)) 0 P r.body _ a1 _;refine wpIn_mono (rH cj r.body true none F1 [] _ _ _ jH a1 _ (some b) (λe=>by cases e) k1 hR2 k3 (by simp only[k5,dk];exact l4)) λe a3 w3 q=>?_;obtain⟨Fg,S3,F3,ms,WW,n2,n3,n4,n5,n6,n7⟩:=q;have WX:Ext ρ S w Fg S3 w3:=k4.trans (Fh.trans n3);have Q6:=WX.wy _ _ hl;have fin:(t,vs,S')=(t,vs,S3)->∀jump,(t=.normal/\jump=none\/t≠.normal/\∃j,jump=some j/\Li (some t) (some j))->∃v' w',(Instr.endRound b jump).run P w3=.ok v' w'/\bJ P ρ S w v S2 (.returned v') w':=by
     intro e0 jump hj;have e1:S'=S3:=by injection e0 with _ e0;injection e0
     rw[e1] at B8 hv;obtain⟨r3,p1,p2',p3,p4,p5⟩:=WW.ji B8 Q6;have JN:=(Array.getElem?_eq_some_iff.1 p1).1;refine⟨_,_,run_endRound jump p1,?_⟩;rcases hv with⟨ht,rfl,rfl⟩|⟨ht,rfl,rfl⟩
     .rcases hj with⟨_,rfl⟩|⟨fF,_⟩
      .obtain⟨P2,MS⟩:=WW.set (w':=w3.putObj b (.loop {r3 with state:=.ready,pending:=none})) B8 rfl Q6 ⟨rfl,rfl,rfl⟩ World.putObj_size (λk hk=>World.putObj_heap_other hk)
        (s_:=.loop .ready none m2 b2) ⟨{r3 with state:=.ready,pending:=none},World.putObj_heap_same JN,rfl,trivial,p4,p5⟩ rfl
       exact⟨_,Fg,rfl,.sc rfl,P2,WX.trans MS⟩
      .exact absurd ht fF
     .rcases hj with⟨he,_⟩|⟨_,j,rfl,hp⟩;.exact absurd he ht
      .obtain⟨P2,MS⟩:=WW.set (w':=w3.putObj b (.loop {r3 with state:=.done,pending:=some j})) B8 rfl Q6 ⟨rfl,rfl,rfl⟩ World.putObj_size (λk hk=>World.putObj_heap_other hk)
        (s_:=.loop .done (some t) m2 b2) ⟨{r3 with state:=.done,pending:=some j},World.putObj_heap_same JN,rfl,hp,p4,p5⟩ rfl
       exact⟨_,Fg,rfl,.sc rfl,P2,WX.trans MS⟩
    cases e with
    |normal=>
     have e0:(t,vs,S')=(Tag.normal,[],S3):=(Option.some.inj n7).symm;injection e0 with e1 e2;injection e2 with e2 e3;subst e1 e2 e3;exact fin rfl none (.inl ⟨rfl,rfl⟩)
    |exit i=>
     have e0:(t,vs,S')=(Tag.exit (3*i),[],S3):=n7;injection e0 with e1 e2;injection e2 with e2 e3;subst e1 e2 e3;exact fin rfl _ (.inr ⟨ac,_,rfl,rfl⟩)
    |ret=>
     have e0:(t,vs,S')=(Tag.ret,[],S3):=n7;injection e0 with e1 e2;injection e2 with e2 e3;subst e1 e2 e3;exact fin rfl _ (.inr ⟨ac,_,rfl,trivial⟩)
    |goto l=>exact(by cases n7.1)
    |panic ch=>exact n7.elim
    |outgrown=>exact n7.elim
   |_=>cases k1
  |_=>cases k1
end
section
variable[jJ]
variable{P:Program}{ρ:Ren}{F:Fr}{a:Act}{o:Oper}{S:AH}{w:World}
theorem B9 {t v r}{name:String}{f x}{n:Nat}(h:methodOf P t v name=some (f,r)):r=v/\(method (n+1) t x name).run P w=.ok (f,x) w:=by
 unfold methodOf at h;cases hi:P.info? t with
 |none=>rw[hi] at h;cases h
 |some i=>
  rw[hi] at h;simp only at h;cases hm:i.methods.find? (·.name==name) with
  |none=>rw[hm] at h;cases h
  |some m=>
   rw[hm] at h;simp only at h;cases hp:m.path.isEmpty with
   |false=>rw[hp] at h;cases h
   |true=>
    rw[hp] at h;simp only[if_true] at h;have sk:m.path.toList=[]:=by simpa using hp
    cases WY:m.func with
    |none=>rw[WY] at h;cases h
    |some q=>
     obtain⟨f',pr⟩:=q;rw[WY] at h;cases hu:P.underlying t with
     |none=>rw[hu] at h;cases pr<;>cases h
     |some u=>
      rw[hu] at h;have key:r=v/\f'=f/\(receiverAt t (.val x) pr (some ((name.splitOn ".").getLastD name))).run P w=.ok x w:=by
       cases u<;>cases pr<;>simp at h<;>(obtain⟨rfl,rfl⟩:=h;refine⟨rfl,rfl,?_⟩;simp[receiverAt,Sem.run_bind,run_underlying hu,Result.andThen,Place.get])
      obtain⟨rfl,rfl,WZ⟩:=key;refine⟨rfl,?_⟩;have hti:(typeInfo t).run P w=.ok i w:=by simp[typeInfo,Sem.run_bind,program,Sem.run,hi,Result.andThen]
      simp only[method,Sem.run_bind,hti,Result.andThen_ok,hm,sk,follow,Sem.run_pure,WY,hp,if_true,WZ]
theorem VL.Q7:∀{a b} {xs ys},VL ρ a xs->VL ρ b ys->VL ρ (a++b) (xs++ys)
 |[],_,_,_,.nil,k=>k
 |_::_,_,_,_,.cons h1 h2,k=>.cons h1 (VL.Q7 h2 k)
theorem VL.app {a b xs ys}(h:VL ρ a xs)(k:VL ρ b ys):VL ρ (jf a b) (xs++ys):=by rw[fK];exact h.Q7 k
def Gk (P:Program)(kn:FuncId->List AV->Option AV):Prop:=∀f args v,kn f args=some v->∀ρ S w xs,R P ρ S w->VL ρ args xs->
 (callFunc f xs.toArray).run P w=.ok (.enter f xs.toArray) w/\CallsIn Fence.wide 0 P f xs.toArray w (bJ P ρ S w v S)/\
 (eY P f=true->∀u,u≠.run->CallsDIn Fence.wide 0 P f xs.toArray u w λe u' w'=>u'=u/\bJ P ρ S w v S e w')
def LD (P:Program)(x:FuncId->Option (List AV->AH->Option (AV×AH))):Prop:=∀f g,x f=some g->∃fn c,P.funcs[f]?=some fn/\(fn.name== "runtime.NumGoroutine")=false/\fn.body=some c/\Nat.ble fn.params.size 2=false/\
 ∀args v S S',g args S=some (v,S')->∀ρ w xs,R P ρ S w->VL ρ args xs->CallsIn Fence.wide 0 P f xs.toArray w (bJ P ρ S w v S')
structure Gl (P:Program)(kn:w6):Prop where
 v:Gk P kn.v
 x:LD P kn.x
def M1:w6:=⟨λ_ _=>none,λ_=>none⟩
theorem Gm:Gk P λ_ _=>none:=λ_ _ _ h=>by cases h
theorem Gn:LD P λ_=>none:=λ_ _ h=>by cases h
theorem Db:Gl P M1:=⟨Gm,Gn⟩
theorem jZ {iA kn}(hT:Ao P iA)(hk:Gl P kn):∀n,cV P (b_ P iA kn n)/\oY P (b_ P iA kn n)
 |0=>⟨⟨λh=>by simp[b_] at h,λh=>by simp[b_] at h⟩,⟨λh=>by simp[b_] at h⟩⟩
 |n+1=>by
  obtain⟨cj,B6⟩:=jZ hT hk n;have Q8:∀{g fa fc args S v S' ρ w d},b_ P iA kn (n+1) (.fn (.func g) fa fc) args S=some (v,S')->R P ρ S w->gi ρ (.fn (.func g) fa fc) args d->
    ∃cap ys,d.target=.fn (.func g) cap/\(invoke d.target d.args).run P w=.ok (.enter g ys) w/\CallsIn Fence.wide 0 P g ys w (bJ P ρ S w v S')/\
     (eY P g=true->∀u,u≠.run->CallsDIn Fence.wide 0 P g ys u w λe u' w'=>u'=u/\bJ P ρ S w v S' e w'):=by
   intro g fa fc args S v S' ρ w d h hR mL;rcases mL with⟨f',fa',fc',a',c',xs,e,k1,k2,k3,k4,k5⟩|⟨_,_,_,_,_,e,_⟩|⟨_,_,e,_⟩
   .cases e;have hV:=k1.app (k3.app k2);have hinv:(invoke d.target d.args).run P w=(callFunc g (a'++(xs++c')).toArray).run P w:=by rw[k4,k5];show(callFunc g _).run P w=_;simp
    refine⟨c'.toArray,(a'++(xs++c')).toArray,k4,?_⟩;rw[hinv];simp only[b_] at h;cases W0:kn.v g (jf fa (jf args fc)) with
    |some v0=>
     rw[W0] at h;cases h;exact hk.v _ _ _ W0 _ _ _ _ hR hV
    |none=>
     rw[W0] at h;simp only at h;cases hb:iA g with
     |none=>
      rw[hb] at h;simp only at h;cases hx:kn.x g with
      |none=>rw[hx] at h;cases h
      |some q=>
       rw[hx] at h;simp only at h;obtain⟨fn,c,h1,h2,h3,h4,h5⟩:=hk.x g q hx;refine⟨l7 h1 h2 h3,h5 _ _ _ _ h _ _ _ hR hV,λsk=>?_⟩;unfold eY at sk;rw[h1] at sk;simp only[h3,h4,Bool.and_false] at sk;cases sk
     |some b=>
      rw[hb] at h;simp only at h;obtain⟨fn,vars,h1,h2,rfl⟩:=hT g b hb;cases hr:run P (b_ P iA kn n) n (fx P fn vars (jf fa (jf args fc))) S with
      |none=>rw[hr] at h;cases h
      |some q=>
       obtain⟨t,vs,S1⟩:=q;rw[hr] at h;cases t with
       |ret=>
        cases h;obtain⟨c,Jl,_⟩:=uR hr;refine⟨l7 h1 h2 Jl,Ap cj B6 h1 hV hr hR,λsk u hu=>?_⟩;have hd:ff c=false:=by unfold eY at sk;rw[h1] at sk;simp only[Jl,Bool.and_eq_true] at sk;simpa using sk.1
        exact rI h1 Jl (uO cj Jl hd hV hr hR (.inr trivial))
       |_=>cases h
   .cases e
   .cases e
  refine⟨⟨λ{f args S r} h=>?_,λ{f args S v S' ρ w d} h hR mL=>?_⟩,⟨λ{g fa fc args S v S' ρ w d} h sk hR mL=>?_⟩⟩
  ·
   cases f with
   |fn f a b=>
    cases f with
    |func f=>rfl
    |method m=>
     cases a with
     |nil=>cases b with
      |nil=>rfl
      |cons _ _=>simp[b_] at h
     |cons _ _=>simp[b_] at h
    |_=>simp[b_] at h
   |yd l=>rfl
   |_=>simp[b_] at h
  .have hc:gj f=true:=by
    cases f with
    |fn f a b=>
     cases f with
     |func f=>rfl
     |method m=>
      cases a with
      |nil=>cases b with
       |nil=>rfl
       |cons _ _=>simp[b_] at h
      |cons _ _=>simp[b_] at h
     |_=>simp[b_] at h
    |yd l=>rfl
    |_=>simp[b_] at h
   cases f with
   |fn f fa fc=>
    cases f with
    |func g=>
     obtain⟨cap,ys,h1,h2,h3,_⟩:=Q8 h hR mL;exact .inl ⟨g,ys,h2,h3⟩
    |method name=>
     have hn:fa=[]/\fc=[]:=by
      cases fa<;>cases fc<;>simp[gj] at hc
      exact⟨rfl,rfl⟩
     obtain⟨rfl,rfl⟩:=hn;rcases mL with⟨f',fa',fc',a',c',xs,e,k1,k2,k3,k4,k5⟩|⟨_,_,_,_,_,e,_⟩|⟨m,xs,e,k1,k2,k3⟩;.cases e
     .cases e
     .cases e;simp only[b_] at h;cases args with
      |nil=>cases h
      |cons x rest=>
       cases x with
       |iface t v0=>
        simp only at h;cases hm:methodOf P t v0 name with
        |none=>rw[hm] at h;cases h
        |some q=>
         obtain⟨g,r⟩:=q;rw[hm] at h;simp only at h;cases k1 with
         |cons q1 q2=>
          rename_i x xs;cases q1 with
          |iface q1=>
           rename_i y;obtain⟨k,hk⟩:∃k,P.types.size+Made.depth=k+1:=⟨P.types.size+99,rfl⟩;obtain⟨rfl,cf⟩:=B9 (w:=w) (x:=y) (n:=k) hm;have Q9:gi ρ (.fn (.func g) [] []) (r::rest) {target:=.fn (.func g) #[],args:=(y::xs).toArray}:=
            .inl ⟨g,[],[],[],[],y::xs,rfl,.nil,.nil,.cons q1 q2,rfl,ac⟩
           rcases cj.ok h hR Q9 with⟨g',ys,l1,l2⟩|⟨⟨_,e⟩,_⟩
           .refine .inl ⟨g',ys,?_,l2⟩;rw[k2,k3];rw[<-l1];have e1:(invoke (.fn (.func g) #[]) (y::xs).toArray).run P w=(callFunc g (y::xs).toArray).run P w:=by simp[invoke]
            rw[e1];simp[invoke,callMethod,Sem.run_bind,program,Sem.run,hk,cf,Result.andThen]
           .cases e
       |_=>cases h
    |_=>simp[gj] at hc
   |yd l=>
    rcases mL with⟨f',fa',fc',a',c',xs,e,k1,k2,k3,k4,k5⟩|⟨l',b,o,len,xs,e,k1,k2,k3,k4⟩|⟨_,_,e,_⟩;.cases e
    .cases e;simp only[b_] at h;cases hg:S.get l with
     |none=>rw[hg] at h;cases h
     |some ob=>
      rw[hg] at h;cases ob with
      |loop st dq m body=>
       cases st with
       |ready=>
        simp only at h;cases ym:Nat.beq (bS args) m with
        |false=>rw[ym] at h;cases h
        |true=>
         rw[ym] at h;simp only at h;have hlen:args.length=m:=by rw[<-bB];exact Nat.eq_of_beq_eq_true ym
         cases hr:run P (b_ P iA kn n) n (body (.yd l::args)) S with
         |none=>rw[hr] at h;cases h
         |some q=>
          obtain⟨t,vs,S1⟩:=q;rw[hr] at h;simp only at h;cases B8:S1.get l with
          |none=>rw[B8] at h;cases h
          |some ob2=>
           rw[B8] at h;cases ob2 with
           |loop st2 p2 m2 b2=>
            cases st2 with
            |busy=>
             simp only at h;have hv:(t=.normal/\v=.sc (.bool true)/\S'=S1.set l (.loop .ready none m2 b2))\/(t≠.normal/\v=.sc (.bool false)/\S'=S1.set l (.loop .done (some t) m2 b2)):=by
              cases t with
              |normal=>cases h;exact .inl ⟨rfl,rfl,rfl⟩
              |_=>cases h;exact .inr ⟨ac,rfl,rfl⟩
             obtain⟨g,tmps,wE,bd,l1,l2⟩:=Aq cj hR k1 hg k2 hlen hr B8 hv;refine .inr ⟨⟨l,rfl⟩,b,g,tmps,wE,bd,?_,l2⟩;rw[k3,k4];exact l1
            |_=>cases h
           |_=>cases h
       |_=>cases h
      |_=>cases h
    .cases e
   |_=>simp[gj] at hc
  .obtain⟨cap,ys,h1,h2,_,h4⟩:=Q8 h hR mL;exact⟨cap,ys,h1,h2,h4 sk⟩
end
section
variable[jJ]
open Go.RowKit Go.WideShapes Go.ChangeShapes
variable{P:Program}
theorem qw {ρ ba S S' w w'}(U2:∀id o,S.get id=some o->oQ o=true)(hE:Ext ρ S w ba S' w'):Below w.heap.size w w':=
 ⟨hE.os,hE.tape,hE.output,hE.size,λk hk=>hE.frame k hk λ⟨id,ob,o,l,h1,h2,_⟩=>by rw[U2 id ob h1] at h2;cases h2⟩
theorem sD {H:Type}{enc:TypeId×Value->H}{W:World}{b:Nat}{sp:Nat->Bool}{hd:Bool}:∀{ts:List TypeId} {vs:List Value} {ds:List (DataW H)} {ps:List MemPlace},DataW.TrodAll enc P W b sp hd ts vs ds ps->ds.length=ts.length
 |[],[],[],_,_=>rfl
 |[],_::_,_,_,h=>h.elim
 |[],[],_::_,_,h=>h.elim
 |_::_,[],_,_,h=>h.elim
 |_::_,_::_,[],_,h=>h.elim
 |t::ts,v::vs,d::ds,ps,h=>by obtain⟨p,q,h1,h2,rfl⟩:=h;simp[sD h2]
theorem oB {H:Type}{enc:TypeId×Value->H}(hl:laidOutB P=true){W W':World}{sp:Nat->Bool}:∀{ts:List TypeId} {vs:List Value} {ds:List (DataW H)} {ps:List MemPlace},
  ts.all (λt=>P.readableRec t&&decide (t<P.types.size))=true->DataW.TrodAll enc P W 0 (λ_=>true) true ts vs ds ps->(∀p∈ps,W.sameAt W' p)->(∀p∈ps,sp p.block=true)->DataW.TrodAll enc P W' 0 sp true ts vs ds ps
 |[],[],[],_,_,h,_,_=>h
 |[],_::_,_,_,_,h,_,_=>h.elim
 |[],[],_::_,_,_,h,_,_=>h.elim
 |_::_,[],_,_,_,h,_,_=>h.elim
 |_::_,_::_,[],_,_,h,_,_=>h.elim
 |t::ts,v::vs,d::ds,ps,hr,h,hs,hp=>by
  simp only[List.all_cons,Bool.and_eq_true,decide_eq_true_eq] at hr;obtain⟨p,q,h1,h2,rfl⟩:=h
  exact⟨p,q,WideElems.Trod_stays hl hr.1.1 hr.1.2 h1 (λx hx=>hs x (by simp[hx])) (λx hx=>hp x (by simp[hx])),
   oB hl hr.2 h2 (λx hx=>hs x (by simp[hx])) (λx hx=>hp x (by simp[hx])),rfl⟩
def yn (P:Program)(f:Func):Bool:=match f.resultTypes.toList with
 |[t]=>match P.underlying t with
  |some .bool=>true
  |_=>false
 |_=>false
theorem yo {f}(h:yn P f=true):∃t,f.resultTypes=#[t]/\P.underlying t=some .bool:=by
 unfold yn at h;split at h
 .rename_i t ht;split at h;.exact⟨t,Array.toList_inj.1 ht,ci⟩
  .cases h
 .cases h
theorem Gp {H:Type}{enc:TypeId×Value->H}{f:Func}{s:ChangeSpec}{apart fresh handsOn again:Bool}{W W':World}{args:Array Value}{ds gs:List (DataW H)}{before:List MemPlace}
  (hl:laidOutB P=true) (Q_:yn P f=true) (uD:f.params.toList.all (λt=>P.readableRec t&&decide (t<P.types.size))=true) (Gq:s.vars=[])
  (Er:∀ds:List (DataW H),ds.length=f.params.size->s.fn H ds={results:=[.lit (.bool true)],args:=ds})
  (hW:DataW.Whole enc P f.params.toList s.vars apart W args.toList ds gs before) (hb:Below W.heap.size W W'):s.post enc P f apart fresh handsOn again W args (.bool true) W':=by
 have W2:=hW;obtain⟨tb,hrt,htb⟩:=yo Q_;obtain⟨p,q,hA,hV,rfl,hfz,PU⟩:=hW;rw[Gq] at hV;obtain⟨rfl,rfl⟩:=trodVars_none hV;have hlen:ds.length=f.params.size:=by have:=sD hA;simpa using this
 have du:∀x∈p,x.block<W.heap.size:=λx hx=>W2.lt x (by simp[hx]);have cy:∀sp:Nat->Bool,(∀x∈p++[],sp x.block=true)->DataW.TrodAll enc P W' 0 sp true f.params.toList args.toList ds p:=λsp hsp=>
  oB hl uD hA (λx hx=>hb.same (du x hx)) (λx hx=>hsp x (by simp[hx]))
 have M3:s.fn H (ds++[])={results:=[.lit (.bool true)],args:=ds}:=by rw[List.append_nil];exact Er ds hlen
 have rD:∀(b:Nat) (sp:Nat->Bool) (hd:Bool),DataW.TrodAll enc P W' b sp hd f.resultTypes.toList ((Value.bool true).resultList f.resultTypes.size) (s.fn H (ds++[])).results []:=λb sp hd=>by rw[M3,hrt];exact trodAll_mk1 (shut_bool htb true)
 have ig:∀(j:Nat) (t:TypeId) (r:Value),f.resultTypes[j]?=some t->((Value.bool true).resultList f.resultTypes.size)[j]?=some r->Value.okWide P W' .any 0 t r:=by
  intro j t r h1 h2;rw[hrt] at h1 h2;cases j with
  |zero=>
   simp only[List.getElem?_toArray,List.getElem?_cons_zero,Option.some.injEq] at h1;simp only[Value.resultList] at h2;simp at h2;subst h1 h2;exact okWide_bool_mk htb true
  |succ j=>simp at h1
 have Ra:∀x∈p++[],x.block<W.heap.size:=λx hx=>W2.lt x (by simpa using hx);have hold:∀x∈p++[],(λb=>decide (b<W.heap.size)) x.block=true:=λx hx=>by simpa using Ra x hx
 refine⟨ds,[],p++[],[],p,[],W2,rD _ _ _,by rw[M3];exact cy _ hold,by rw[Gq,M3];exact(rfl:DataW.TrodVars enc P W' _ [] [] []),World.keptBut_mono (λx hx=>⟨hx,Or.inr (by simpa using hx)⟩) (hb.frame (·∈p++[])),λ_=>?_⟩;refine⟨ig,_,[],([]++p)++[],⟨[]++p,[],trodAll_append (cy _ (λ_ _=>rfl)) (rD _ _ _),by rw[Gq];exact(rfl:DataW.TrodVars enc P W' _ [] [] []),rfl,?_,?_⟩,?_⟩
 .intro b off hp;have ng:MemPlace.cell b off∈p++[]:=by simpa using hp
  rw[hb.frozen (Ra _ ng)];exact hfz b off (by simpa using ng)
 .intro ha;have:=PU ha;simpa using this
 .intro x hx _;simpa using hx
end
section
variable[jJ]
open Go.RowKit Go.WideShapes Go.ChangeShapes
variable{P:Program}
def T.U8 {α:Type}(p:Nat->α->Prop):T α->Nat->Nat->Prop
 |.e,_,_=>True
 |.n l v r,a,b=>T.U8 p l (a+b) (2*b)/\(match v with|some x=>p a x|none=>True)/\T.U8 p r (a+2*b) (2*b)
theorem T.U8.get {α:Type}{p:Nat->α->Prop}:∀{t:T α} {a b:Nat},T.U8 p t a b->∀{k:Nat} {x:α},T.get t k=some x->p (a+b*k) x
 |.e,a,b,h,k,x,hx=>by simp[T.get] at hx
 |.n l v r,a,b,h,k,x,hx=>by
  obtain⟨h1,h2,h3⟩:=h;unfold T.get at hx;cases k with
  |zero=>
   simp only at hx;subst hx;simpa using h2
  |succ k=>
   simp only at hx;have hk:=Nat.div_add_mod k 2;split at hx
   .rename_i hm;have Gc:k%2=0:=Nat.eq_of_beq_eq_true hm;have:=h1.get hx;have e:a+b+2*b*(k/2)=a+b*(k+1):=by have:k=2*(k/2):=am;generalize k/2=j at this⊢;subst this;rw[Nat.mul_add,Nat.mul_comm 2 b,Nat.mul_assoc];omega
    exact e▸this
   .rename_i hm;have Gc:k%2=1:=by have:k%2≠0:=λe=>hm (by rw[show Nat.mod k 2=k%2 from rfl,e];rfl);omega
    have:=h3.get hx;have e:a+2*b+2*b*(k/2)=a+b*(k+1):=by
     have:k=2*(k/2)+1:=am;generalize k/2=j at this⊢;subst this;rw[show b*(2*j+1+1)=2*b*j+2*b by
      rw[Nat.mul_add,Nat.mul_add,Nat.mul_comm 2 b,Nat.mul_assoc];omega]
     omega
    exact e▸this
def Rb (P:Program)(f:Nat)(b:List AV->AC):Prop:=∃fn vars,P.funcs[f]?=some fn/\(fn.name== "runtime.NumGoroutine")=false/\b=fx P fn vars
def isTrue:Option (AV×AH)->Bool
 |some (.sc (.bool true),_)=>true
 |_=>false
theorem sE {r}(h:isTrue r=true):∃S',r=some (.sc (.bool true),S'):=by
 unfold isTrue at h;split at h;.exact⟨_,rfl⟩
 .cases h
theorem R.nothing (P:Program)(w:World):R P (λ_=>none) ⟨.e,0⟩ w where
 ji:=λh=>by simp[AH.get,fN] at h
 inj:=λh=>by simp[AH.get,fN] at h
 sZ:=λh=>by cases h
 ou:=λh=>by cases h
 wf:=λh=>by simp[AH.get,fN] at h
theorem yp {iA kn}(hT:Ao P iA)(hk:Gl P kn){n:Nat}{f as S ρ W args}
  (cf:isTrue (b_ P iA kn n (.fn (.func f) [] []) as S)=true) (hR:R P ρ S W) (hV:VL ρ as args.toList) (i_:∀id o,S.get id=some o->oQ o=true)
  (Gr:∀w,(callFunc f args).run P w=.ok (.enter f args) w):
  Calls P f args W λe W'=>e=.returned (.bool true)/\Below W.heap.size W W':=by
 obtain⟨S',cf⟩:=sE cf;have mL:gi ρ (.fn (.func f) [] []) as {target:=.fn (.func f) #[],args:=args}:=.inl ⟨f,[],[],[],[],args.toList,rfl,.nil,.nil,hV,rfl,ac⟩;rcases(jZ hT hk n).1.ok cf hR mL with⟨g,ys,h1,h2⟩|⟨⟨_,e⟩,_⟩
 .have hn:(invoke (.fn (.func f) #[]) args).run P W=(callFunc f args).run P W:=by simp[invoke]
  rw[hn,Gr] at h1;cases h1;refine(callsIn_wide.1 h2).mono λe W' q=>?_;obtain⟨x,ba,rfl,q1,q2,q3⟩:=q;exact⟨by rw[q1.fQ.1],qw i_ q3⟩
 .cases e
theorem Gs {f fn}(hf:P.funcs[f]?=some fn)(hn:(fn.name== "runtime.NumGoroutine")=false)(hb:fn.body.isSome=true)(args:Array Value)(w:World):(callFunc f args).run P w=.ok (.enter f args) w:=by
 cases h:fn.body with
 |none=>rw[h] at hb;cases hb
 |some c=>exact l7 hf hn h
theorem R.grown {ρ S w w'}(h:R P ρ S w)(hb:Below w.heap.size w w'):R P ρ S w'/\Ext ρ S w ρ S w':=
 ⟨⟨λh1 h2=>(h.ji h1 h2).mono (Ren.le_refl _) (hb.block _ (h.ou h2)),h.inj,h.sZ,λh1=>Nat.lt_of_lt_of_le (h.ou h1) hb.size,h.wf⟩,
  ⟨Ren.le_refl _,Nat.le_refl _,λid x h1 h2=>by(rw[h1] at h2;cases h2),λ_ _ _=>rfl,hb.os,hb.tape,hb.output,hb.size,λb h1 _=>hb.block b h1,λ_ _ h=>h⟩⟩
def U9:List (FuncId×Value)->FuncId->List AV->Option AV
 |[],_,_=>none
 |(f,v)::r,g,as=>match Nat.beq g f with
  |true=>match as with
   |[]=>some (.sc v)
   |_=>none
  |false=>U9 r g as
theorem Gt {iA kn}(hT:Ao P iA)(hk:Gl P kn):∀{l},(∀x∈l,(∃n S',b_ P iA kn n (.fn (.func x.1) [] []) [] ⟨.e,0⟩=some (.sc x.2,S'))/\∀w,(callFunc x.1 #[]).run P w=.ok (.enter x.1 #[]) w)->Gk P (U9 l)
 |[],_=>λ_ _ _ h=>by cases h
 |(f,v)::r,hl=>by
  intro g as u h ρ S w xs hR hV;unfold U9 at h;cases hb:Nat.beq g f with
  |false=>
   rw[hb] at h;exact Gt hT hk (l:=r) (λx hx=>hl x (by simp[hx])) _ _ _ h _ _ _ _ hR hV
  |true=>
   have e:=Nat.eq_of_beq_eq_true hb;subst e;rw[hb] at h;cases as with
   |cons _ _=>cases h
   |nil=>
    cases h;cases hV;obtain⟨⟨n,S',cf⟩,Gr⟩:=hl (g,v) ac;have mL:gi (λ_=>none) (.fn (.func g) [] []) [] {target:=.fn (.func g) #[],args:=#[]}:=.inl ⟨g,[],[],[],[],[],rfl,.nil,.nil,.nil,rfl,rfl⟩;have hn:(invoke (.fn (.func g) #[]) #[]).run P w=(callFunc g #[]).run P w:=by simp[invoke]
    have post:∀e w',bJ P (λ_=>none) ⟨.e,0⟩ w (.sc v) S' e w'->bJ P ρ S w (.sc v) S e w':=by rintro e w' ⟨x,ba,rfl,q1,q2,q3⟩;obtain⟨h1,h2⟩:=hR.grown (qw (λid o h=>by simp[AH.get,fN] at h) q3);obtain⟨rfl,hs⟩:=q1.fQ;exact⟨_,ρ,rfl,.sc hs,h1,h2⟩
    refine⟨Gr w,?_,λsk u hu=>?_⟩
    .rcases(jZ hT hk n).1.ok cf (R.nothing P w) mL with⟨g',ys,h1,h2⟩|⟨⟨_,e⟩,_⟩
     .rw[hn,Gr] at h1;cases h1;exact h2.mono (post)
     .cases e
    .obtain⟨cap,ys,h0,h1,h2⟩:=(jZ hT hk n).2.ok cf sk (R.nothing P w) mL;rw[hn,Gr] at h1;cases h1;exact(h2 u hu).mono λe u' w' q=>⟨q.1,post e w' q.2⟩
end
structure dS where
 P:Program
 iA:Table
 kn:w6
abbrev iG:=Tag->List AV->AH->Prop
def wp (M:dS)(x:AC)(S:AH)(Q:iG):Prop:=∃t vs S',(∃n0,∀n,n0<=n->run M.P (b_ M.P M.iA M.kn n) n x S=some (t,vs,S'))/\Q t vs S'
def aG (M:dS)(f:AV)(args:List AV)(S:AH)(Q:AV->AH->Prop):Prop:=∃v S',(∃n0,∀n,n0<=n->b_ M.P M.iA M.kn n f args S=some (v,S'))/\Q v S'
def P4 (M:dS)(body:List AV->AC)(vs:List AV)(S:AH)(Q:iG):Prop:=
 ∃t wx S',(∃n0,∀n k,n0<=n->n0<=k->iter (λvs=>run M.P (b_ M.P M.iA M.kn n) n (body vs)) k vs S=some (t,wx,S'))/\Q t wx S'
section
variable{M:dS}{S S1:AH}{Q:iG}
theorem wp_mono {x Q'}(h:wp M x S Q)(hm:∀t vs S',Q t vs S'->Q' t vs S'):wp M x S Q':=
 let⟨t,vs,S',h1,h2⟩:=h;⟨t,vs,S',h1,hm _ _ _ h2⟩
theorem ar {f args Q Q'}(h:aG M f args S Q)(hm:∀v S',Q v S'->Q' v S'):aG M f args S Q':=
 let⟨v,S',h1,h2⟩:=h;⟨v,S',h1,hm _ _ h2⟩
theorem wp_ret {t vs}(h:Q t vs S):wp M (.ret t vs) S Q:=⟨t,vs,S,⟨0,λ_ _=>rfl⟩,h⟩
theorem ah {o k v}(he:evalOp M.P o S=some (v,S1))(h:wp M (k v) S1 Q):wp M (.op o k) S Q:=by obtain⟨t,vs,S',⟨n0,h1⟩,h2⟩:=h;exact⟨t,vs,S',⟨n0,λn hn=>by rw[gK,he];exact h1 n hn⟩,h2⟩
theorem uS {g}{b:Bool}{o k}(hg:Bs g b=some false)(h:wp M (k uv) S Q):wp M (.rp g b o k) S Q:=by obtain⟨t,vs,S',⟨n0,h1⟩,h2⟩:=h;exact⟨t,vs,S',⟨n0,λn hn=>by rw[tH];unfold ry;rw[hg];exact h1 n hn⟩,h2⟩
theorem yq {o v v' k}(he:cJ M.P S o=some v')(hb:v'.beq v=true)(h:wp M k S Q):wp M (.lN o v k) S Q:=by obtain⟨t,vs,S',⟨n0,h1⟩,h2⟩:=h;exact⟨t,vs,S',⟨n0,λn hn=>by show oN M.P o v _ S=_;unfold oN;rw[he];simp only[hb];exact h1 n hn⟩,h2⟩
theorem nt {g}{b:Bool}{o v k}(hg:Bs g b=some false)(h:wp M k S Q):wp M (.BD g b o v k) S Q:=by obtain⟨t,vs,S',⟨n0,h1⟩,h2⟩:=h;exact⟨t,vs,S',⟨n0,λn hn=>by show pU M.P g b o v _ S=_;unfold pU;rw[hg];exact h1 n hn⟩,h2⟩
theorem Gu {b:Bool}{x y}(h:wp M (if b then x else y) S Q):wp M (.ite (.sc (.bool b)) x y) S Q:=by
 obtain⟨t,vs,S',⟨n0,h1⟩,h2⟩:=h;refine⟨t,vs,S',⟨n0,λn hn=>?_⟩,h2⟩;have:=h1 n hn;rw[run_ite];cases b<;>exact this
theorem bW {f args k}(h:aG M f args S λv S'=>wp M (k v) S' Q):wp M (.call f args k) S Q:=by obtain⟨v,S1,⟨n0,h1⟩,t,vs,S',⟨n1,h2⟩,h3⟩:=h;exact⟨t,vs,S',⟨max n0 n1,λn hn=>by rw[ni,h1 n am];exact h2 n am⟩,h3⟩
theorem qx {g}{b:Bool}{f args k}(hg:Bs g b=some false)(h:wp M (k uv) S Q):wp M (.hZ g b f args k) S Q:=by obtain⟨t,vs,S',⟨n0,h1⟩,h2⟩:=h;exact⟨t,vs,S',⟨n0,λn hn=>by rw[rE];unfold mX;rw[hg];exact h1 n hn⟩,h2⟩
def yr (M:dS)(id:Option Nat)(k:List AV->AC)(outs:List AV->List AV)(Q:iG):iG:=λt vs S'=>
 match t with
 |.normal=>wp M (k vs) S' Q
 |.exit i=>match id with
  |some j=>match Nat.beq j i with
   |true=>wp M (k vs) S' Q
   |false=>Q (.exit i) (outs vs) S'
  |none=>Q (.exit i) (outs vs) S'
 |t=>Q t (outs vs) S'
theorem wp_bind {m id k outs}(h:wp M m S (yr M id k outs Q)):wp M (.bind m id k outs) S Q:=by
 obtain⟨t,vs,S1,⟨n0,h1⟩,h2⟩:=h;have go:wp M (k vs) S1 Q->(∀n,run M.P (b_ M.P M.iA M.kn n) n m S=some (t,vs,S1)->run M.P (b_ M.P M.iA M.kn n) n (.bind m id k outs) S=run M.P (b_ M.P M.iA M.kn n) n (k vs) S1)->wp M (.bind m id k outs) S Q:=by rintro⟨t',wx,S',⟨n1,h3⟩,h4⟩ he;exact⟨t',wx,S',⟨max n0 n1,λn hn=>by rw[he n (h1 n am)];exact h3 n am⟩,h4⟩
 have out:∀t',Q t' (outs vs) S1->(∀n,run M.P (b_ M.P M.iA M.kn n) n m S=some (t,vs,S1)->run M.P (b_ M.P M.iA M.kn n) n (.bind m id k outs) S=some (t',outs vs,S1))->wp M (.bind m id k outs) S Q:=by intro t' hq he;exact⟨t',outs vs,S1,⟨n0,λn hn=>he n (h1 n hn)⟩,hq⟩
 cases t with
 |normal=>exact go h2 λn hn=>by rw[run_bind'];unfold eX;rw[hn]
 |exit i=>
  cases id with
  |none=>exact out _ h2 λn hn=>by rw[run_bind'];unfold eX;rw[hn]
  |some j=>
   simp only[yr] at h2;cases hb:Nat.beq j i with
   |true=>rw[hb] at h2;exact go h2 λn hn=>by rw[run_bind'];unfold eX;rw[hn];simp only[hb]
   |false=>rw[hb] at h2;exact out _ h2 λn hn=>by rw[run_bind'];unfold eX;rw[hn];simp only[hb]
 |goto l=>exact out _ h2 λn hn=>by rw[run_bind'];unfold eX;rw[hn]
 |ret=>exact out _ h2 λn hn=>by rw[run_bind'];unfold eX;rw[hn]
theorem yt {m k}(h:wp M m S λt vs S'=>(t=.normal\/t=.ret)/\wp M (k vs) S' Q):wp M (.fin m k) S Q:=by
 obtain⟨t,vs,S1,⟨n0,h1⟩,ht,t',wx,S',⟨n1,h2⟩,h3⟩:=h;refine⟨t',wx,S',⟨max n0 n1,λn hn=>?_⟩,h3⟩;rw[tL];unfold rz;rw[h1 n am];rcases ht with rfl|rfl<;>exact h2 n am
theorem wp_loop {init body outs}(h:P4 M body init S λt vs S'=>Q t (outs vs) S'):wp M (.loop init body outs) S Q:=by obtain⟨t,vs,S1,⟨n0,h1⟩,h2⟩:=h;exact⟨t,outs vs,S1,⟨n0,λn hn=>by rw[Ai];unfold tG;rw[h1 n n hn hn]⟩,h2⟩
theorem nu {body vs}(h:wp M (body vs) S λt Bw S1=>(t=.normal/\P4 M body Bw S1 Q)\/(t≠.normal/\Q t Bw S1)):P4 M body vs S Q:=by
 obtain⟨t,Bw,S1,⟨n0,h1⟩,h2⟩:=h;rcases h2 with⟨rfl,t',wx,S',⟨n1,h3⟩,h4⟩|⟨ht,hq⟩
 .refine⟨t',wx,S',⟨max n0 n1+1,λn k hn hk=>?_⟩,h4⟩;obtain⟨k,rfl⟩:∃j,k=j+1:=⟨k-1,am⟩;simp only[iter];rw[h1 n am];exact h3 n k am am
 .refine⟨t,Bw,S1,⟨n0+1,λn k hn hk=>?_⟩,hq⟩;obtain⟨k,rfl⟩:∃j,k=j+1:=⟨k-1,am⟩;simp only[iter];rw[h1 n am];cases t with
  |normal=>exact absurd rfl ht
  |_=>rfl
theorem Dc {body}(I:Nat->List AV->AH->Prop)
  (hr:∀m vs S,I m vs S->wp M (body vs) S λt Bw S1=>(t=.normal/\∃m',m'<m/\I m' Bw S1)\/(t≠.normal/\Q t Bw S1)):
  ∀(m:Nat) {vs} {S},I m vs S->P4 M body vs S Q:=by
 intro m;induction m using Nat.strongRecOn with
 |_ m ih=>
  intro vs S h;refine nu (wp_mono (hr m vs S h) λt Bw S1 q=>?_);rcases q with⟨ht,m',du,hI⟩|q;.exact .inl ⟨ht,ih m' du hI⟩
  .exact .inr q
theorem Gv {l:Nat}{k dq}{n:Nat}{b}(hg:S.get l=some (.loop .ready dq n b))(h:wp M k (S.set l (.loop .busy dq n b)) Q):wp M (.start (.yd l) k) S Q:=by obtain⟨t,vs,S',⟨n0,h1⟩,h2⟩:=h;exact⟨t,vs,S',⟨n0,λn hn=>by rw[xf];unfold pV;simp only[hg];exact h1 n hn⟩,h2⟩
theorem M4 {n:Nat}{f body k outs}(hf:∀i,f≠.yd i)
  (h:aG M f [.yd S.next] (S.new (.loop .ready none n body)) λ_ S'=>∃st dq m b,S'.get S.next=some (.loop st dq m b)/\st≠.busy/\
    match dq with
    |none=>wp M k (S'.set S.next (.loop .exhausted dq m b)) Q
    |some t=>Q t outs (S'.set S.next (.loop .exhausted dq m b))):wp M (.D3 n f body k outs) S Q:=by
 obtain⟨v,S1,⟨n0,h1⟩,st,dq,m,b,hg,oS,h2⟩:=h;have key:∀n',n0<=n'->run M.P (b_ M.P M.iA M.kn n') n' (.D3 n f body k outs) S=Ga (run M.P (b_ M.P M.iA M.kn n') n' k) outs (S1.set S.next (.loop .exhausted dq m b)) dq:=by
  intro n' hn;rw[C5];have e:=h1 n' hn;cases f with
  |yd i=>exact absurd rfl (hf i)
  |_=>unfold xV;simp only[e,hg];cases st<;>cases dq<;>first|exact absurd rfl oS|rfl
 cases dq with
 |none=>
  obtain⟨t,vs,S',⟨n1,h3⟩,h4⟩:=h2;exact⟨t,vs,S',⟨max n0 n1,λn' hn=>by rw[key n' am];exact h3 n' am⟩,h4⟩
 |some t=>exact⟨t,outs,_,⟨n0,λn' hn=>key n' hn⟩,h2⟩
theorem bk {f fa fc args b Q}(hk:M.kn f (fa++(args++fc))=none)(hb:M.iA f=some b)
  (h:wp M (b (fa++(args++fc))) S λt vs S'=>t=.ret/\Q (oneOf vs) S'):aG M (.fn (.func f) fa fc) args S Q:=by
 obtain⟨t,vs,S',⟨n0,h1⟩,rfl,h2⟩:=h;refine⟨oneOf vs,S',⟨n0+1,λn hn=>?_⟩,h2⟩;obtain⟨n,rfl⟩:∃j,n=j+1:=⟨n-1,am⟩;simp only[b_,fK,hk,hb,h1 n am]
theorem M5 {f fa fc args v Q}(hk:M.kn f (fa++(args++fc))=some v)(h:Q v S):aG M (.fn (.func f) fa fc) args S Q:=by refine⟨v,S,⟨1,λn hn=>?_⟩,h⟩;obtain⟨n,rfl⟩:∃j,n=j+1:=⟨n-1,am⟩;simp only[b_,fK,hk]
theorem jr {name:String}{t v r f rest Q}(hm:methodOf M.P t v name=some (f,r))(h:aG M (.fn (.func f) [] []) (r::rest) S Q):
  aG M (.fn (.method name) [] []) (.iface t v::rest) S Q:=by
 obtain⟨u,S',⟨n0,h1⟩,h2⟩:=h;refine⟨u,S',⟨n0+1,λn hn=>?_⟩,h2⟩;obtain⟨n,rfl⟩:∃j,n=j+1:=⟨n-1,am⟩;simp only[b_,hm];exact h1 n am
theorem Gw {l:Nat}{args dq}{m:Nat}{body Q}(hg:S.get l=some (.loop .ready dq m body))(hl:args.length=m)
  (h:wp M (body (.yd l::args)) S λt _ S'=>∃p m' b',S'.get l=some (.loop .busy p m' b')/\
    match t with
    |.normal=>Q (.sc (.bool true)) (S'.set l (.loop .ready none m' b'))
    |t=>Q (.sc (.bool false)) (S'.set l (.loop .done (some t) m' b'))):aG M (.yd l) args S Q:=by
 obtain⟨t,vs,S',⟨n0,h1⟩,p,m',b',B8,h2⟩:=h;have hb:Nat.beq (bS args) m=true:=by rw[bB,hl];exact Nat.beq_refl m
 cases t with
 |normal=>
  refine⟨_,_,⟨n0+1,λn hn=>?_⟩,h2⟩;obtain⟨n,rfl⟩:∃j,n=j+1:=⟨n-1,am⟩;simp only[b_,hg,hb,h1 n am,B8]
 |_=>refine⟨_,_,⟨n0+1,λn hn=>?_⟩,h2⟩;obtain⟨n,rfl⟩:∃j,n=j+1:=⟨n-1,am⟩;simp only[b_,hg,hb,h1 n am,B8]
theorem Gx {f as}(h:aG M (.fn (.func f) [] []) as S λv _=>v=.sc (.bool true)):∃n,isTrue (b_ M.P M.iA M.kn n (.fn (.func f) [] []) as S)=true:=by obtain⟨v,S',⟨n0,h1⟩,rfl⟩:=h;exact⟨n0,by rw[h1 n0 (Nat.le_refl _)];rfl⟩
end
structure bj (B S:AH):Prop where
 next:B.next<=S.next
 iD:∀id,id<B.next->S.get id=B.get id
theorem bj.refl (S:AH):bj S S:=⟨Nat.le_refl _,λ_ _=>rfl⟩
theorem bj.trans {A B C}(h:bj A B)(k:bj B C):bj A C:=⟨Nat.le_trans h.next k.next,λid hi=>by rw[k.iD id (Nat.lt_of_lt_of_le hi h.next),h.iD id hi]⟩
theorem bj.new (S:AH)(o:AO):bj S (S.new o):=⟨by simp[AH.new],λid hi=>by rw[AH.b8,if_neg am]⟩
def ef:AV->List Nat
 |.sl id _ _ _=>[id]
 |.op id _ _ _ _=>[id]
 |_=>[]
def oZ (v:AV)(es n id off:Nat)(c:List AV):Prop:=
 (∃cap,n<=cap/\off+cap*es<=c.length/\v=.sl id off n cap)\/(∃cw,n<=cw/\off+cw*es<=c.length/\v=.op id off n cw es)
theorem oZ.ids {v}{es n id off:Nat}{c}(h:oZ v es n id off c):ef v=[id]:=by
 rcases h with⟨_,_,_,rfl⟩|⟨_,_,_,rfl⟩<;>rfl
def I3 (S:AH)(v:AV)(es:Nat)(L:List (List AV)):Prop:=
 (v=.sc (.slice none 0 0)/\L=[])\/∃id off c,oZ v es L.length id off c/\S.get id=some (.row c)/\(c.drop off).take (L.length*es)=L.flatten/\∀x∈L,x.length=es
inductive Own where
 |obj (id:Nat)(o:AO)
 |sl (v:AV)(es:Nat)(L:List (List AV))
def Own.ids:Own->List Nat
 |.obj id _=>[id]
 |.sl v _ _=>ef v
def Own.holds (S:AH):Own->Prop
 |.obj id o=>S.get id=some o
 |.sl v es L=>I3 S v es L
inductive aF where
 |pt (id off:Nat)(cs:List AV)
 |sl (v:AV)(es:Nat)(L:List (List AV))
 |ob (id:Nat)(o:AO)
def aF.ids:aF->List Nat
 |.pt id _ _=>[id]
 |.sl v _ _=>ef v
 |.ob id _=>[id]
def gl (S:AH)(v:AV)(es:Nat)(L:List (List AV)):Prop:=
 (v=.sc (.slice none 0 0)/\L=[])\/∃id off c,oZ v es L.length id off c/\
   S.cells? id=some c/\(c.drop off).take (L.length*es)=L.flatten/\∀x∈L,x.length=es
def aF.holds (S:AH):aF->Prop
 |.pt id off cs=>∃c,S.cells? id=some c/\off+cs.length<=c.length/\(c.drop off).take cs.length=cs
 |.sl v es L=>gl S v es L
 |.ob id o=>S.get id=some o
structure Cx (B:AH)(M:List Nat)(S:AH)(own:List Own)(ro:List aF):Prop where
 next:B.next<=S.next
 iD:∀id,id<B.next->id∉M->S.get id=B.get id
 oh:∀x∈own,x.holds S
 oi:∀x∈own,∀id∈x.ids,id<S.next/\(id<B.next->id∈M)
 od:own.Pairwise λx y=>∀id∈x.ids,id∉y.ids
 rh:∀φ∈ro,φ.holds S
 ri:∀φ∈ro,∀id∈φ.ids,id<S.next/\∀x∈own,id∉x.ids
theorem uT {S S1:AH}{id:Nat}(h:S1.get id=S.get id):S1.cells? id=S.cells? id:=by unfold AH.cells?;rw[h]
theorem Own.fS {S S1:AH}{x:Own}(h:∀id∈x.ids,S1.get id=S.get id)(hx:x.holds S):x.holds S1:=by
 cases x with
 |obj id o=>exact(h id (by simp[Own.ids])).trans hx
 |sl v es L=>
  rcases hx with hx|⟨id,off,c,h0,h1,h2⟩;.exact .inl hx
  .exact .inr ⟨id,off,c,h0,(h id (by simp[Own.ids,h0.ids])).trans h1,h2⟩
theorem xi {S S1:AH}{v:AV}{es:Nat}{L:List (List AV)}(h:∀id∈ef v,S1.get id=S.get id)(hx:gl S v es L):gl S1 v es L:=by
 rcases hx with hx|⟨id,off,c,h1,h2,h3⟩;.exact .inl hx
 .refine .inr ⟨id,off,c,h1,?_,h3⟩;rw[uT (h id (by simp[h1.ids]))];exact h2
theorem aF.fS {S S1:AH}{x:aF}(h:∀id∈x.ids,S1.get id=S.get id)(hx:x.holds S):x.holds S1:=by
 cases x with
 |pt id off cs=>
  obtain⟨c,h1,h2⟩:=hx;exact⟨c,by rw[uT (h id (by simp[aF.ids]))];exact h1,h2⟩
 |sl v es L=>exact xi h hx
 |ob id o=>exact(h id (by simp[aF.ids])).trans hx
section
variable{B S S1:AH}{M:List Nat}{own:List Own}{ro:List aF}
theorem Cx.step (H:Cx B M S own ro){i:Nat}{x x':Own}(hi:own[i]?=some x)(nh:S.next<=S1.next)(Gy:∀id,id<S.next->id∉x.ids->S1.get id=S.get id)(hx:x'.holds S1)
  (mM:∀id∈x'.ids,id<S1.next/\(id∈x.ids\/S.next<=id)):Cx B M S1 (own.set i x') ro:=by
 have jL:x∈own:=List.mem_of_getElem? hi;have As:=H.od;have uk:∀(j:Nat) y,j≠i->own[j]?=some y->∀id∈y.ids,id∉x.ids:=by
  intro j y hj hy id bR hx;rw[List.pairwise_iff_getElem] at As;obtain⟨At,wK⟩:=List.getElem?_eq_some_iff.1 hi;obtain⟨P5,JO⟩:=List.getElem?_eq_some_iff.1 hy;rcases Nat.lt_or_gt_of_ne hj with du|Gz;.exact As j i P5 At du id (by rw[JO];exact bR) (by rw[wK];exact hx)
  .exact As i j At P5 Gz id (by rw[wK];exact hx) (by rw[JO];exact bR)
 have GA:∀y∈own.set i x',y=x'\/∃j,j≠i/\own[j]?=some y:=by
  intro y hy;obtain⟨j,hj⟩:=List.getElem?_of_mem hy;rw[List.getElem?_set] at hj;by_cases e:i=j
  .subst e;obtain⟨At,_⟩:=List.getElem?_eq_some_iff.1 hi;simp[At] at hj;exact .inl hj.symm
  .rw[if_neg e] at hj;exact .inr ⟨j,λh=>e h.symm,hj⟩
 refine⟨Nat.le_trans H.next nh,?_,?_,?_,?_,?_,?_⟩
 .intro id bR hM;rw[Gy id (Nat.lt_of_lt_of_le bR H.next) (λhx=>hM ((H.oi x jL id hx).2 bR)),H.iD id bR hM]
 .intro y hy;rcases GA y hy with rfl|⟨j,hj,hy⟩;.exact hx
  .exact Own.fS (λid bR=>Gy id (H.oi y (List.mem_of_getElem? hy) id bR).1 (uk j y hj hy id bR)) (H.oh y (List.mem_of_getElem? hy))
 .intro y hy id bR;rcases GA y hy with rfl|⟨j,hj,hy⟩
  .obtain⟨h1,h2⟩:=mM id bR;refine⟨h1,λhB=>?_⟩;rcases h2 with h2|h2;.exact(H.oi x jL id h2).2 hB
   .exact absurd hB (by have:=H.next;omega)
  .have:=H.oi y (List.mem_of_getElem? hy) id bR;exact⟨Nat.lt_of_lt_of_le this.1 nh,this.2⟩
 .rw[List.pairwise_iff_getElem];rw[List.pairwise_iff_getElem] at As;intro a b ha hb Rc id h1 h2;rw[List.length_set] at ha hb;rw[List.getElem_set] at h1 h2;split at h1
  .rename_i ea;subst ea;rw[if_neg am] at h2;rcases(mM id h1).2 with hx|hx;.exact uk b own[b] am (List.getElem?_eq_getElem hb) id h2 hx
   .have:=(H.oi _ (List.getElem_mem hb) id h2).1;omega
  .split at h2
   .rename_i eb;subst eb;rcases(mM id h2).2 with hx|hx;.exact uk a own[a] am (List.getElem?_eq_getElem ha) id h1 hx
    .have:=(H.oi _ (List.getElem_mem ha) id h1).1;omega
   .exact As a b ha hb Rc id h1 h2
 .intro φ iW;exact aF.fS (λid bR=>Gy id (H.ri φ iW id bR).1 ((H.ri φ iW id bR).2 x jL)) (H.rh φ iW)
 .intro φ iW id bR;have:=H.ri φ iW id bR;refine⟨Nat.lt_of_lt_of_le this.1 nh,λy hy h=>?_⟩;rcases GA y hy with rfl|⟨j,hj,hy⟩
  .rcases(mM id h).2 with hx|hx;.exact this.2 x jL hx
   .omega
  .exact this.2 y (List.mem_of_getElem? hy) h
theorem Cx.grow (H:Cx B M S own ro)(hg:bj S S1):Cx B M S1 own ro where
 next:=Nat.le_trans H.next hg.next
 iD:=λid h1 h2=>by rw[hg.iD id (Nat.lt_of_lt_of_le h1 H.next),H.iD id h1 h2]
 oh:=λx hx=>Own.fS (λid bR=>hg.iD id (H.oi x hx id bR).1) (H.oh x hx)
 oi:=λx hx id bR=>⟨Nat.lt_of_lt_of_le (H.oi x hx id bR).1 hg.next,(H.oi x hx id bR).2⟩
 od:=H.od
 rh:=λφ iW=>aF.fS (λid bR=>hg.iD id (H.ri φ iW id bR).1) (H.rh φ iW)
 ri:=λφ iW id bR=>⟨Nat.lt_of_lt_of_le (H.ri φ iW id bR).1 hg.next,(H.ri φ iW id bR).2⟩
theorem Cx.gM (H:Cx B M S own ro)(hg:bj S S1){x}(hx:x.holds S1)(mM:∀id∈x.ids,S.next<=id/\id<S1.next):Cx B M S1 (x::own) ro:=by
 have K:=H.grow hg;refine⟨K.next,K.iD,?_,?_,?_,K.rh,?_⟩
 .intro y hy;rcases List.mem_cons.1 hy with rfl|hy;.exact hx
  .exact K.oh y hy
 .intro y hy id bR;rcases List.mem_cons.1 hy with rfl|hy
  .have:=mM id bR;exact⟨this.2,λhB=>absurd hB (by have:=H.next;omega)⟩
  .exact K.oi y hy id bR
 .refine List.pairwise_cons.2 ⟨λy hy id h1 h2=>?_,K.od⟩;have:=(H.oi y hy id h2).1;have:=(mM id h1).1;omega
 .intro φ iW id bR;refine⟨(K.ri φ iW id bR).1,λy hy=>?_⟩;rcases List.mem_cons.1 hy with rfl|hy
  .intro h;have:=(H.ri φ iW id bR).1;have:=(mM id h).1;omega
  .exact(K.ri φ iW id bR).2 y hy
theorem Cx.oC (H:Cx B M S own ro){φ}(hx:φ.holds S)(mM:∀id∈φ.ids,id<S.next/\∀x∈own,id∉x.ids):Cx B M S own (φ::ro) where
 next:=H.next
 iD:=H.iD
 oh:=H.oh
 oi:=H.oi
 od:=H.od
 rh:=λψ M6=>by
  rcases List.mem_cons.1 M6 with rfl|M6;.exact hx
  .exact H.rh ψ M6
 ri:=λψ M6=>by
  rcases List.mem_cons.1 M6 with rfl|M6;.exact mM
  .exact H.ri ψ M6
theorem Cx.Au (H:Cx B M S own ro)(hg:bj S S1){φ}(hx:φ.holds S1)(mM:∀id∈φ.ids,S.next<=id/\id<S1.next):Cx B M S1 own (φ::ro):=
 (H.grow hg).oC hx λid bR=>⟨(mM id bR).2,λx hx h=>by have:=(H.oi x hx id h).1;have:=(mM id bR).1;omega⟩
theorem Cx.B_ (H:Cx B M S own ro){LF}(h:∀φ∈LF,φ∈ro):Cx B M S own LF:=
 ⟨H.next,H.iD,H.oh,H.oi,H.od,λφ iW=>H.rh φ (h φ iW),λφ iW=>H.ri φ (h φ iW)⟩
theorem Cx.yu (H:Cx B M S own ro){ab}(h:ab.Sublist own):Cx B M S ab ro:=
 ⟨H.next,H.iD,λx hx=>H.oh x (h.subset hx),λx hx=>H.oi x (h.subset hx),H.od.sublist h,H.rh,λφ iW id bR=>⟨(H.ri φ iW id bR).1,λx hx=>(H.ri φ iW id bR).2 x (h.subset hx)⟩⟩
theorem Cx.tl {φ}(H:Cx B M S own (φ::ro)):Cx B M S own ro:=H.B_ λψ h=>List.mem_cons_of_mem _ h
theorem Cx.cq (H:Cx B [] S own ro):bj B S:=⟨H.next,λid h=>H.iD id h ac⟩
theorem Cx.enter {ro}(h:∀φ∈ro,φ.holds S/\∀id∈φ.ids,id<S.next):Cx S [] S [] ro where
 next:=Nat.le_refl _
 iD:=λ_ _ _=>rfl
 oh:=λ_ h=>by simp at h
 oi:=λ_ h=>by simp at h
 od:=List.Pairwise.nil
 rh:=λφ iW=>(h φ iW).1
 ri:=λφ iW id bR=>⟨(h φ iW).2 id bR,λ_ h=>by simp at h⟩
end
section
variable{P:Program}
theorem bo {α β:Type}{s:Sem α}{f:α->Sem β}:∀{a:α},bE P s=some a->bE P (s>>=f)=bE P (f a):=by
 induction s with
 |pure a=>intro b h;simp[bE] at h;subst h;rfl
 |program k ih=>intro b h;exact ih P h
 |mark m k ih=>intro b h;exact ih h
 |_=>intro b h;simp[bE] at h
theorem fp {α:Type}(a:α):bE P (pure a:Sem α)=some a:=rfl
theorem eG:bE P program=some P:=rfl
theorem dw {t:TypeId}{d:TypeDesc}(h:P.underlying t=some d):bE P (underlying t)=some d:=by unfold underlying;rw[bo eG,h];rfl
theorem uU {t:TypeId}{n:Nat}(h:aU P t=some n):bE P (sizeOf t)=some n:=by
 unfold aU at h;cases hi:P.info? t with
 |none=>rw[hi] at h;cases h
 |some i=>
  rw[hi] at h;cases h;have ht:bE P (typeInfo t)=some i:=by unfold typeInfo;rw[bo eG,hi];rfl
  unfold sizeOf;rw[bo ht];rfl
def sF (rec:TypeId->Option (List (Option IntKind)))(P:Program):List Field->Nat->Option (List (Option IntKind))
 |[],_=>some []
 |f::fs,off=>if f.name= "_" then none else if f.offset≠off then none else match rec f.type with
  |none=>none
  |some ks=>if aU P f.type=some ks.length then(match sF rec P fs (off+ks.length) with|some l=>some (ks++l)|none=>none) else none
def dV (P:Program):Nat->TypeId->Option (List (Option IntKind))
 |0,_=>none
 |d+1,t=>match P.underlying t with
  |some .bool=>some [none]
  |some (.int k)=>some [some k]
  |some (.struct fs)=>if P.stoodInHeld t then none else sF (dV P d) P fs.toList 0
  |_=>none
def gn:Option IntKind->Value->Bool
 |none,.bool _=>true
 |some k,.int k' _=>decide (k=k')
 |_,_=>false
def aA:List (Option IntKind)->List Value->Bool
 |[],[]=>true
 |k::ks,v::vs=>gn k v&&aA ks vs
 |_,_=>false
def U_:Value->Value->Bool
 |.bool a,.bool b=>a==b
 |.int _ a,.int _ b=>a==b
 |_,_=>false
def mN:List Value->List Value->Bool
 |[],[]=>true
 |a::r,b::s=>U_ a b&&mN r s
 |_,_=>false
theorem dT:∀{ks} {vs},aA ks vs=true->vs.length=ks.length
 |[],[],_=>rfl
 |[],_::_,h=>by simp[aA] at h
 |_::_,[],h=>by simp[aA] at h
 |_::ks,_::vs,h=>by simp only[aA,Bool.and_eq_true] at h;simp[dT h.2]
theorem kF:∀{ks ls} {vs},aA (ks++ls) vs=true->aA ks (vs.take ks.length)=true/\aA ls (vs.drop ks.length)=true
 |[],ls,vs,h=>by simpa[aA] using h
 |k::ks,ls,[],h=>by simp[aA] at h
 |k::ks,ls,v::vs,h=>by simp only[List.cons_append,aA,Bool.and_eq_true] at h;obtain⟨h1,h2⟩:=kF h.2;simp[aA,h.1,h1,h2]
theorem sG:∀{n:Nat} {xs ys},xs.length=ys.length->mN xs ys=(mN (xs.take n) (ys.take n)&&mN (xs.drop n) (ys.drop n))
 |0,xs,ys,h=>by simp[mN]
 |n+1,[],[],h=>by simp[mN]
 |n+1,[],_::_,h=>by simp at h
 |n+1,_::_,[],h=>by simp at h
 |n+1,x::xs,y::ys,h=>by simp only[List.take_succ_cons,List.drop_succ_cons,mN];rw[sG (n:=n) (by simpa using h),Bool.and_assoc]
def hO (P:Program)(t:TypeId)(vs:List Value):Value:=match P.underlying t with
 |some (.struct _)=>.agg vs.toArray
 |_=>vs.headD undef
theorem xj {d:Nat}{t:TypeId}{ks:List (Option IntKind)}(hf:dV P d t=some ks)(hs:aU P t=some ks.length){xs:List Value}{off:Nat}(hl:off+ks.length<=xs.length):
  bE P (part t xs.toArray off)=some (hO P t ((xs.drop off).take ks.length)):=by
 cases d with
 |zero=>simp[dV] at hf
 |succ d=>
  unfold dV at hf;cases hu:P.underlying t with
  |none=>rw[hu] at hf;cases hf
  |some u=>
   rw[hu] at hf;have one:∀k,ks=[k]->(isAgg t=isAgg t)->bE P (isAgg t)=some false->bE P (part t xs.toArray off)=some (((xs.drop off).take ks.length).headD undef):=by
    intro k hk _ ha;subst hk;unfold part;rw[bo ha];have du:off<xs.length:=by simp at hl;omega
    have h1:xs.toArray[off]?=some xs[off]:=by simp[du]
    simp only[Bool.false_eq_true,if_false,h1,fp];simp only[List.length_cons,List.length_nil];rw[List.drop_eq_getElem_cons du];rfl
   have agg:∀b,(match u with|.struct _=>b=true|.array _ _=>b=true|_=>b=false)->bE P (isAgg t)=some b:=by
    intro b hb;unfold isAgg;rw[bo (dw hu)];cases u<;>simp only at hb⊢<;>subst hb<;>rfl
   cases u with
   |bool=>cases hf;unfold hO;rw[hu];exact one _ rfl rfl (agg false rfl)
   |int k=>cases hf;unfold hO;rw[hu];exact one _ rfl rfl (agg false rfl)
   |struct fs=>
    unfold hO part;rw[hu,bo (agg true rfl)];simp only[if_true];rw[bo (uU hs)];simp only[fp,Option.some.injEq,Value.agg.injEq];apply Array.toList_inj.1;simp[List.take_drop]
   |_=>cases hf
theorem uV:∀(d:Nat) (t:TypeId) (ks:List (Option IntKind)),dV P d t=some ks->∀(D:Nat),d<=D->∀xs ys:List Value,aA ks xs=true->aA ks ys=true->
  bE P (Op.equalIn D t (hO P t xs) (hO P t ys))=some (mN xs ys)
 |0,t,ks,hf,_,_,_,_,_,_=>by simp[dV] at hf
 |d+1,t,ks,hf,0,hD,_,_,_,_=>am
 |d+1,t,ks,hf,D+1,hD,xs,ys,hx,hy=>by
  unfold dV at hf;cases hu:P.underlying t with
  |none=>rw[hu] at hf;cases hf
  |some u=>
   rw[hu] at hf;cases u with
   |bool=>
    cases hf;cases xs with
    |nil=>simp[aA] at hx
    |cons x xs=>
     cases ys with
     |nil=>simp[aA] at hy
     |cons y ys=>
      simp only[aA,Bool.and_eq_true] at hx hy;cases xs with
      |cons _ _=>simp[aA] at hx
      |nil=>
       cases ys with
       |cons _ _=>simp[aA] at hy
       |nil=>
        cases x<;>simp[gn] at hx
        cases y<;>simp[gn] at hy
        unfold hO Op.equalIn;rw[hu,bo (dw hu)];simp[mN,U_,fp]
   |int k=>
    cases hf;cases xs with
    |nil=>simp[aA] at hx
    |cons x xs=>
     cases ys with
     |nil=>simp[aA] at hy
     |cons y ys=>
      simp only[aA,Bool.and_eq_true] at hx hy;cases xs with
      |cons _ _=>simp[aA] at hx
      |nil=>
       cases ys with
       |cons _ _=>simp[aA] at hy
       |nil=>
        cases x<;>simp[gn] at hx
        cases y<;>simp[gn] at hy
        have hx:=hx.1;have hy:=hy.1;subst hx;subst hy;unfold hO Op.equalIn;rw[hu,bo (dw hu)];simp[mN,U_,fp]
   |struct fs=>
    simp only at hf;cases P6:P.stoodInHeld t with
    |true=>rw[P6] at hf;simp at hf
    |false=>
     rw[P6] at hf;simp only[Bool.false_eq_true,if_false] at hf;unfold hO Op.equalIn;rw[hu,bo (dw hu)];simp only;rw[bo eG];simp only[P6,Bool.false_eq_true,if_false];rw[<-Array.forIn_toList];have key:∀(fs:List Field) (off:Nat) (ks:List (Option IntKind)),sF (dV P d) P fs off=some ks->aA ks (xs.drop off)=true->aA ks (ys.drop off)=true->(off<=xs.length/\off<=ys.length)->
       bE P (do
        let s <-forIn (m:=Sem) fs ((none,()):Option Bool×Unit) (λf s=>
         if f.name≠ "_" then do
          let a <-part f.type xs.toArray f.offset
          let b <-part f.type ys.toArray f.offset
          let c <-Op.equalIn D f.type a b
          if(!c)=true then pure (ForInStep.done (some false,())) else pure (ForInStep.yield (none,()))
         else pure (ForInStep.yield (none,())))
        match s.fst with
        |some a=>pure a
        |none=>pure true)=some (mN (xs.drop off) (ys.drop off)):=by
      intro fs;induction fs with
      |nil=>
       intro off ks hf hx hy hle;cases hf;have e1:xs.drop off=[]:=List.length_eq_zero_iff.1 (dT hx);have e2:ys.drop off=[]:=List.length_eq_zero_iff.1 (dT hy);rw[e1,e2];rfl
      |cons f fs ih=>
       intro off ks hf hx hy hle;unfold sF at hf;by_cases hn:f.name= "_";.rw[if_pos hn] at hf;cases hf
       .rw[if_neg hn] at hf;by_cases ho:f.offset≠off;.rw[if_pos ho] at hf;cases hf
        .rw[if_neg ho] at hf;have ho:f.offset=off:=am;cases hr:dV P d f.type with
         |none=>rw[hr] at hf;cases hf
         |some k1=>
          rw[hr] at hf;simp only at hf;by_cases hs:aU P f.type=some k1.length
          .rw[if_pos hs] at hf;cases qy:sF (dV P d) P fs (off+k1.length) with
           |none=>rw[qy] at hf;cases hf
           |some k2=>
            rw[qy] at hf;cases hf;obtain⟨x1,x2⟩:=kF hx;obtain⟨y1,y2⟩:=kF hy;have lx:=dT hx;have ly:=dT hy;simp only[List.length_drop,List.length_append] at lx ly;rw[List.drop_drop] at x2 y2;have ih:=ih (off+k1.length) k2 qy x2 y2 ⟨am,am⟩;have hp1:=xj (P:=P) hr hs (xs:=xs) (off:=f.offset) am;have hp2:=xj (P:=P) hr hs (xs:=ys) (off:=f.offset) am;rw[ho] at hp1 hp2;have he:=uV d f.type k1 hr D am _ _ x1 y1;rw[List.forIn_cons];simp only[hn,ne_eq,not_false_eq_true,if_true,bind_assoc,ho];rw[bo hp1,bo hp2,bo he];have GB:=sG (n:=k1.length) (xs:=xs.drop off) (ys:=ys.drop off) (by simp;omega);rw[List.drop_drop,List.drop_drop] at GB;rw[GB];cases hb:mN ((xs.drop off).take k1.length) ((ys.drop off).take k1.length) with
            |false=>simp[fp,pure_bind]
            |true=>simp only[Bool.not_true,Bool.false_eq_true,if_false,pure_bind,Bool.true_and];exact ih
          .rw[if_neg hs] at hf;cases hf
     have:=key fs.toList 0 ks hf (by simpa using hx) (by simpa using hy) ⟨am,am⟩;rw[List.drop_zero,List.drop_zero] at this;refine Eq.trans (congrArg (bE P) ?_) this;congr 1;funext s;obtain⟨a,b⟩:=s;cases a<;>rfl
   |_=>cases hf
end
abbrev I (n:Int):AV:=.sc (.int .i64 n)
abbrev U (n:Int):AV:=.sc (.int .u64 n)
abbrev B (b:Bool):AV:=.sc (.bool b)
abbrev Np:AV:=.sc (.pointer none)
abbrev Ns:AV:=.sc (.slice none 0 0)
abbrev Nm:AV:=.sc (.map none)
abbrev Nf:AV:=.sc .nilFunc
abbrev Ni:AV:=.sc .nilIface
abbrev Z (κ:IntKind)(n:Int):AV:=.sc (.int κ n)
theorem aH (κ:IntKind):oK κ κ=true:=by cases κ<;>rfl
theorem wrap64 {n:Int}(h1:-9223372036854775808<=n)(h2:n<=9223372036854775807):fu .i64 n=n:=by rw[br,IntKind.wrap_i64];omega
section
variable{M:dS}{S:AH}{Q:iG}{k:AV->AC}{κ:IntKind}{a b:Int}
theorem Rd:evalOp M.P (.bin .add (Z κ a) (Z κ b)) S=some (Z κ (fu κ (a+b)),S):=by show eO (either (dc _ (Z κ a) (Z κ b)) _) S=_;simp only[dc,asInt,lO,aH];rfl
theorem Re:evalOp M.P (.bin .sub (Z κ a) (Z κ b)) S=some (Z κ (fu κ (a-b)),S):=by show eO (Mq (Z κ a) (Z κ b)) S=_;unfold Mq;simp only[dc,asInt,lO,aH];rfl
theorem Rf:evalOp M.P (.bin .mul (Z κ a) (Z κ b)) S=some (Z κ (fu κ (a*b)),S):=by show eO (Mr (Z κ a) (Z κ b)) S=_;unfold Mr;simp only[dc,asInt,lO,aH];rfl
theorem Rg (h:b≠0):evalOp M.P (.bin .quo (Z κ a) (Z κ b)) S=some (Z κ (fu κ (a.tdiv b)),S):=by
 show eO (Ms (Z κ a) (Z κ b)) S=_;unfold Ms;have:Ja b 0=false:=by rw[dX];simpa using h
 simp only[dc,asInt,lO,aH,this];rfl
theorem Rh (h:b≠0):evalOp M.P (.bin .rem (Z κ a) (Z κ b)) S=some (Z κ (a.tmod b),S):=by
 show eO (Mt (Z κ a) (Z κ b)) S=_;unfold Mt;have:Ja b 0=false:=by rw[dX];simpa using h
 simp only[dc,asInt,lO,aH,this];rfl
theorem GC:evalOp M.P (.bin .lss (Z κ a) (Z κ b)) S=some (B (decide (a<b)),S):=by show eO (either (dc _ (Z κ a) (Z κ b)) _) S=_;simp only[dc,asInt,lO,aH,fP];rfl
theorem GD:evalOp M.P (.bin .leq (Z κ a) (Z κ b)) S=some (B (decide (a<=b)),S):=by
 show eO (either (dc _ (Z κ a) (Z κ b)) _) S=_;have:(!decide (b<a))=decide (a<=b):=by rw[Bool.eq_iff_iff];simp
 simp only[dc,asInt,lO,aH,fP,this];rfl
theorem GF:evalOp M.P (.bin .gtr (Z κ a) (Z κ b)) S=some (B (decide (b<a)),S):=by show eO (either (dc _ (Z κ a) (Z κ b)) _) S=_;simp only[dc,asInt,lO,aH,fP];rfl
theorem GG:evalOp M.P (.bin .geq (Z κ a) (Z κ b)) S=some (B (decide (b<=a)),S):=by
 show eO (either (dc _ (Z κ a) (Z κ b)) _) S=_;have:(!decide (a<b))=decide (b<=a):=by rw[Bool.eq_iff_iff];simp
 simp only[dc,asInt,lO,aH,fP,this];rfl
theorem Dd:evalOp M.P (.bin .eql (Z κ a) (Z κ b)) S=some (B (decide (a=b)),S):=by
 show eO (either (dc _ (Z κ a) (Z κ b)) _) S=_;have:(a==b)=decide (a=b):=by rw[Bool.eq_iff_iff];simp
 simp only[dc,asInt,lO,aH,dX,this];rfl
theorem GH:evalOp M.P (.bin .neq (Z κ a) (Z κ b)) S=some (B (decide (a≠b)),S):=by
 show eO (either (dc _ (Z κ a) (Z κ b)) _) S=_;have:(!(a==b))=decide (a≠b):=by rw[Bool.eq_iff_iff];simp
 simp only[dc,asInt,lO,aH,dX,this];rfl
theorem uW {c:Int}(hw:fu κ (a+b)=c)(h:wp M (k (Z κ c)) S Q):wp M (.op (.bin .add (Z κ a) (Z κ b)) k) S Q:=ah Rd (hw▸h)
theorem uX {c:Int}(hw:fu κ (a-b)=c)(h:wp M (k (Z κ c)) S Q):wp M (.op (.bin .sub (Z κ a) (Z κ b)) k) S Q:=ah Re (hw▸h)
theorem GI {c:Int}(hw:fu κ (a*b)=c)(h:wp M (k (Z κ c)) S Q):wp M (.op (.bin .mul (Z κ a) (Z κ b)) k) S Q:=ah Rf (hw▸h)
theorem GJ {c:Int}(hb:b≠0)(hw:fu κ (a.tdiv b)=c)(h:wp M (k (Z κ c)) S Q):wp M (.op (.bin .quo (Z κ a) (Z κ b)) k) S Q:=ah (Rg hb) (hw▸h)
theorem GK (hb:b≠0)(h:wp M (k (Z κ (a.tmod b))) S Q):wp M (.op (.bin .rem (Z κ a) (Z κ b)) k) S Q:=ah (Rh hb) h
theorem cr (h1:-9223372036854775808<=a+b)(h2:a+b<=9223372036854775807)(h:wp M (k (I (a+b))) S Q):wp M (.op (.bin .add (I a) (I b)) k) S Q:=uW (wrap64 h1 h2) h
theorem lj (h1:-9223372036854775808<=a-b)(h2:a-b<=9223372036854775807)(h:wp M (k (I (a-b))) S Q):wp M (.op (.bin .sub (I a) (I b)) k) S Q:=uX (wrap64 h1 h2) h
theorem nv (h0:a<b)(h:wp M (k (B true)) S Q):wp M (.op (.bin .lss (Z κ a) (Z κ b)) k) S Q:=ah GC (by rw[decide_eq_true h0];exact h)
theorem js (h0:b<=a)(h:wp M (k (B false)) S Q):wp M (.op (.bin .lss (Z κ a) (Z κ b)) k) S Q:=ah GC (by rw[decide_eq_false am];exact h)
theorem fD (h1:a<b->wp M (k (B true)) S Q)(h2:b<=a->wp M (k (B false)) S Q):wp M (.op (.bin .lss (Z κ a) (Z κ b)) k) S Q:=
 if h:a<b then nv h (h1 h) else js am (h2 am)
theorem GL (h0:a<=b)(h:wp M (k (B true)) S Q):wp M (.op (.bin .leq (Z κ a) (Z κ b)) k) S Q:=ah GD (by rw[decide_eq_true h0];exact h)
theorem GM (h0:b<a)(h:wp M (k (B false)) S Q):wp M (.op (.bin .leq (Z κ a) (Z κ b)) k) S Q:=ah GD (by rw[decide_eq_false am];exact h)
theorem nw (h1:a<=b->wp M (k (B true)) S Q)(h2:b<a->wp M (k (B false)) S Q):wp M (.op (.bin .leq (Z κ a) (Z κ b)) k) S Q:=
 if h:a<=b then GL h (h1 h) else GM am (h2 am)
theorem GN (h0:b<a)(h:wp M (k (B true)) S Q):wp M (.op (.bin .gtr (Z κ a) (Z κ b)) k) S Q:=ah GF (by rw[decide_eq_true h0];exact h)
theorem uY (h0:a<=b)(h:wp M (k (B false)) S Q):wp M (.op (.bin .gtr (Z κ a) (Z κ b)) k) S Q:=ah GF (by rw[decide_eq_false am];exact h)
theorem iH (h1:b<a->wp M (k (B true)) S Q)(h2:a<=b->wp M (k (B false)) S Q):wp M (.op (.bin .gtr (Z κ a) (Z κ b)) k) S Q:=
 if h:b<a then GN h (h1 h) else uY am (h2 am)
theorem GO (h0:b<=a)(h:wp M (k (B true)) S Q):wp M (.op (.bin .geq (Z κ a) (Z κ b)) k) S Q:=ah GG (by rw[decide_eq_true h0];exact h)
theorem GP (h0:a<b)(h:wp M (k (B false)) S Q):wp M (.op (.bin .geq (Z κ a) (Z κ b)) k) S Q:=ah GG (by rw[decide_eq_false am];exact h)
theorem jt (h1:b<=a->wp M (k (B true)) S Q)(h2:a<b->wp M (k (B false)) S Q):wp M (.op (.bin .geq (Z κ a) (Z κ b)) k) S Q:=
 if h:b<=a then GO h (h1 h) else GP am (h2 am)
theorem GQ (h0:a=b)(h:wp M (k (B true)) S Q):wp M (.op (.bin .eql (Z κ a) (Z κ b)) k) S Q:=ah Dd (by rw[decide_eq_true h0];exact h)
theorem GR (h0:a≠b)(h:wp M (k (B false)) S Q):wp M (.op (.bin .eql (Z κ a) (Z κ b)) k) S Q:=ah Dd (by rw[decide_eq_false h0];exact h)
theorem kG (h1:a=b->wp M (k (B true)) S Q)(h2:a≠b->wp M (k (B false)) S Q):wp M (.op (.bin .eql (Z κ a) (Z κ b)) k) S Q:=
 if h:a=b then GQ h (h1 h) else GR h (h2 h)
theorem uZ (h0:a≠b)(h:wp M (k (B true)) S Q):wp M (.op (.bin .neq (Z κ a) (Z κ b)) k) S Q:=ah GH (by rw[decide_eq_true h0];exact h)
theorem Av (h0:a=b)(h:wp M (k (B false)) S Q):wp M (.op (.bin .neq (Z κ a) (Z κ b)) k) S Q:=ah GH (by rw[decide_eq_false (by simpa using h0)];exact h)
theorem fT (h1:a≠b->wp M (k (B true)) S Q)(h2:a=b->wp M (k (B false)) S Q):wp M (.op (.bin .neq (Z κ a) (Z κ b)) k) S Q:=
 if h:a=b then Av h (h2 h) else uZ h (h1 h)
theorem cC {g:Bool}{o}(h:wp M (.op o k) S Q):wp M (.rp (B g) g o k) S Q:=by
 obtain⟨t,vs,S',⟨n0,h1⟩,h2⟩:=h;refine⟨t,vs,S',⟨n0,λn hn=>?_⟩,h2⟩;have:=h1 n hn;rw[gK] at this;rw[tH];unfold ry;cases g<;>exact this
theorem dO {g g':Bool}{o}(hg:g'=!g)(h:wp M (k uv) S Q):wp M (.rp (B g) g' o k) S Q:=uS (by subst hg;cases g<;>rfl) h
theorem ed {g':Bool}{o}(h:wp M (k uv) S Q):wp M (.rp uv g' o k) S Q:=uS rfl h
theorem cE {g:Bool}{f args}(h:wp M (.call f args k) S Q):wp M (.hZ (B g) g f args k) S Q:=by
 obtain⟨t,vs,S',⟨n0,h1⟩,h2⟩:=h;refine⟨t,vs,S',⟨n0,λn hn=>?_⟩,h2⟩;have:=h1 n hn;rw[ni] at this;rw[rE];unfold mX;cases g<;>exact this
theorem ct {g g':Bool}{f args}(hg:g'=!g)(h:wp M (k uv) S Q):wp M (.hZ (B g) g' f args k) S Q:=qx (by subst hg;cases g<;>rfl) h
theorem cF {g':Bool}{f args}(h:wp M (k uv) S Q):wp M (.hZ uv g' f args k) S Q:=qx rfl h
theorem cM {x y}(h:wp M x S Q):wp M (.ite (B true) x y) S Q:=Gu h
theorem cN {x y}(h:wp M y S Q):wp M (.ite (B false) x y) S Q:=Gu h
theorem GS {c:Bool}{x y}(h1:c=true->wp M x S Q)(h2:c=false->wp M y S Q):wp M (.ite (B c) x y) S Q:=by
 cases c with
 |true=>exact cM (h1 rfl)
 |false=>exact cN (h2 rfl)
theorem wL {op t x y}{a b:Bool}:bE M.P (eqGuard op t x y (.bool a) (.bool b))=some ():=by
 cases op<;>rfl
theorem LG {t}{x y n:Bool}(ht:M.P.underlying t=some .bool):evalOp M.P (.eq t n (B x) (B y)) S=some (B (if n then !(x==y) else(x==y)),S):=by
 show eO (CN M.P t n (B x) (B y)) S=_;have h2:zn M.P t (B x) (B y)=some (x==y):=by
  unfold zn Ft;have h1:tD (B x)=some (.bool x):=by simp[tD]
  have h2:tD (B y)=some (.bool y):=by simp[tD]
  have h3:bE M.P (Op.equal t (.bool x) (.bool y))=some (x==y):=by show bE M.P (Op.equalIn (9999+1) t (.bool x) (.bool y))=_;unfold Op.equalIn;rw[bo (dw ht)];rfl
  have h4:h_ (B x)=none:=rfl;have e1:kp (B x)=0:=rfl;have e2:kp (B y)=0:=rfl;simp only[e1,e2,h1,h2,h3,h4,wL,mV];rfl
 unfold CN;rw[h2];cases n<;>rfl
theorem De {cs vs}(h:sY cs=some vs):tD (.agg cs)=some (.agg vs.toArray):=by simp[tD,h]
theorem Ri {t ks}{d:Nat}{xs ys vx vy}{n:Bool}(hf:dV M.P d t=some ks)(hd:d<=10000){fs}(hu:M.P.underlying t=some (.struct fs))
  (hg:M.P.eqGuardType M.P.depth t=false) (h1:sY xs=some vx) (h2:sY ys=some vy) (h3:aA ks vx=true) (h4:aA ks vy=true):
  evalOp M.P (.eq t n (.agg xs) (.agg ys)) S=some (B (if n then !(mN vx vy) else mN vx vy),S):=by
 show eO (CN M.P t n (.agg xs) (.agg ys)) S=_;have h5:zn M.P t (.agg xs) (.agg ys)=some (mN vx vy):=by
  unfold zn Ft;have g1:=De h1;have g2:=De h2;have g3:bE M.P (Op.equal t (.agg vx.toArray) (.agg vy.toArray))=some (mN vx vy):=by have:=uV d t ks hf 10000 hd vx vy h3 h4;unfold hO at this;rw[hu] at this;exact this
  have g4:h_ (.agg xs)=none:=rfl;have e1:kp (.agg xs)=0:=rfl;have e2:kp (.agg ys)=0:=rfl;have g5:bE M.P (eqGuard .eql t (.tmp 0) (.tmp 0) (.agg vx.toArray) (.agg vy.toArray))=some ():=by unfold eqGuard;simp only[Bool.not_true,Bool.false_eq_true,if_false];rw[bo eG,bo eG];simp[hg,fp]
  simp only[e1,e2,g1,g2,g3,g4,g5,mV];rfl
 unfold CN;rw[h5];cases n<;>rfl
theorem xk:∀{ks} {vs},aA ks vs=true->mN vs vs=true
 |[],[],_=>rfl
 |[],_::_,h=>by simp[aA] at h
 |_::_,[],h=>by simp[aA] at h
 |k::ks,v::vs,h=>by
  simp only[aA,Bool.and_eq_true] at h;simp only[mN,xk h.2,Bool.and_true];cases v<;>cases k<;>simp[gn] at h<;>simp[U_]
end
theorem dj {S:AH}{id:Nat}{c:List AV}(h:S.get id=some (.row c)):S.cells? id=some c:=by unfold AH.cells?;rw[h];rfl
theorem Df {S:AH}{id:Nat}{c:List AV}(h:S.get id=some (.row c)):S.row? id=some c:=by unfold AH.row?;rw[h];rfl
theorem bT (S:AH)(o:AO):(S.new o).get S.next=some o:=by rw[AH.b8,if_pos rfl]
theorem de {a b:Nat}(h:a<=b):Nat.ble a b=true:=Nat.ble_eq_true_of_le h
theorem l8 {cs}{off:Nat}{v}(h:cs[off]?=some v):fB false cs off 1=some v:=by show zG cs off=_;rw[nM];exact h
theorem o0 {cs}{off n:Nat}(h:off+n<=cs.length):fB true cs off n=some (.agg ((cs.drop off).take n)):=by
 unfold fB;have:Nat.ble (Nat.add off n) (bS cs)=true:=by rw[bB];exact de h
 simp only[this,dt,dN]
section
variable{M:dS}{B0 S:AH}{W:List Nat}{own:List Own}{ro:List aF}{Q:iG}{k:AV->AC}
theorem rJ {id off j:Nat}{cs v}(h:(aF.pt id off cs).holds S)(hj:cs[j]?=some v):∃c,S.cells? id=some c/\c[off+j]?=some v:=by
 obtain⟨c,h1,_,h2⟩:=h;refine⟨c,h1,?_⟩;rw[<-h2,List.getElem?_take,List.getElem?_drop] at hj;split at hj;.exact hj
 .cases hj
theorem M7 {id off j n:Nat}{cs}(h:(aF.pt id off cs).holds S)(hj:j+n<=cs.length):∃c,S.cells? id=some c/\off+j+n<=c.length/\(c.drop (off+j)).take n=(cs.drop j).take n:=by obtain⟨c,h1,hl,h2⟩:=h;refine⟨c,h1,am,?_⟩;rw[<-h2,List.drop_take,List.drop_drop,List.take_take,Nat.min_eq_left am]
theorem iX {id off:Nat}{c v}(h1:S.cells? id=some c)(h2:c[off]?=some v):evalOp M.P (.load 1 false (.ptr id off)) S=some (v,S):=by
 show eO (mB S 1 false (.ptr id off)) S=_;have:mB S 1 false (.ptr id off)=some v:=by show(match S.cells? id with|some c=>fB false c off 1|none=>none)=_;rw[h1];exact l8 h2
 rw[this];rfl
theorem yv {id off n:Nat}{c}(h1:S.cells? id=some c)(h2:off+n<=c.length):evalOp M.P (.load n true (.ptr id off)) S=some (.agg ((c.drop off).take n),S):=by
 show eO (mB S n true (.ptr id off)) S=_;have:mB S n true (.ptr id off)=some (.agg ((c.drop off).take n)):=by show(match S.cells? id with|some c=>fB true c off n|none=>none)=_;rw[h1];exact o0 h2
 rw[this];rfl
theorem ny (H:Cx B0 W S own ro){id off j:Nat}{cs v}(hm:aF.pt id off cs∈ro)(hj:cs[j]?=some v)(h:wp M (k v) S Q):wp M (.op (.load 1 false (.ptr id (Nat.add off j))) k) S Q:=by obtain⟨c,h1,h2⟩:=rJ (H.rh _ hm) hj;exact ah (iX h1 h2) h
theorem u_ (H:Cx B0 W S own ro){id off:Nat}{cs v}(hm:aF.pt id off cs∈ro)(hj:cs[0]?=some v)(h:wp M (k v) S Q):wp M (.op (.load 1 false (.ptr id off)) k) S Q:=
 ny (j:=0) H hm hj h
theorem qz (H:Cx B0 W S own ro){id off j n:Nat}{cs}(hm:aF.pt id off cs∈ro)(hj:j+n<=cs.length)(h:wp M (k (.agg ((cs.drop j).take n))) S Q):wp M (.op (.load n true (.ptr id (Nat.add off j))) k) S Q:=by obtain⟨c,h1,h2,h3⟩:=M7 (H.rh _ hm) hj;exact ah (yv h1 h2) (h3▸h)
theorem va (H:Cx B0 W S own ro){id off n:Nat}{cs}(hm:aF.pt id off cs∈ro)(hj:n<=cs.length)(h:wp M (k (.agg (cs.take n))) S Q):wp M (.op (.load n true (.ptr id off)) k) S Q:=
 qz (j:=0) H hm am h
theorem fU (H:Cx B0 W S own ro){x:AV}(ho:odd x=false)(h:∀id S1,Cx B0 W S1 own (.pt id 0 x.cells::ro)->wp M (k (.ptr id 0)) S1 Q):wp M (.op (.box x) k) S Q:=by
 refine ah (v:=.ptr S.next 0) (S1:=S.new (.row x.cells)) ?_ (h _ _ (H.Au (bj.new S _) ?_ ?_))
 .show BF x S=_;unfold BF;rw[ho];rfl
 .exact⟨x.cells,dj (bT _ _),am,ac⟩
 .intro id bR;simp only[aF.ids,List.mem_singleton] at bR;subst bR;exact⟨Nat.le_refl _,ac⟩
theorem fq (H:Cx B0 W S own ro){x}(ho:odd x=false)(h:∀id S1,Cx B0 W S1 (.obj id (.row x.cells)::own) ro->wp M (k (.ptr id 0)) S1 Q):wp M (.op (.box x) k) S Q:=by
 refine ah (v:=.ptr S.next 0) (S1:=S.new (.row x.cells)) ?_ (h _ _ (H.gM (bj.new S _) (bT _ _) ?_))
 .show BF x S=_;unfold BF;rw[ho];rfl
 .intro id bR;simp only[Own.ids,List.mem_singleton] at bR;subst bR;exact⟨Nat.le_refl _,ac⟩
theorem gp (H:Cx B0 W S own ro){c}(h:∀id S1,Cx B0 W S1 (.obj id (.row c)::own) ro->wp M (k (.ptr id 0)) S1 Q):wp M (.op (.alloc c) k) S Q:=by refine ah (v:=.ptr S.next 0) (S1:=S.new (.row c)) rfl (h _ _ (H.gM (bj.new S _) (bT _ _) ?_));intro id bR;simp only[Own.ids,List.mem_singleton] at bR;subst bR;exact⟨Nat.le_refl _,ac⟩
theorem Cx.freeze (H:Cx B0 W S own ro){i id:Nat}{c:List AV}(hi:own[i]?=some (.obj id (.row c))):Cx B0 W S (own.eraseIdx i) (.pt id 0 c::ro):=by
 have jL:=List.mem_of_getElem? hi;have Es:∀x∈own.eraseIdx i,x∈own:=λx hx=>List.mem_of_mem_eraseIdx hx;have K:Cx B0 W S (own.eraseIdx i) ro:=⟨H.next,H.iD,λx hx=>H.oh x (Es x hx),λx hx=>H.oi x (Es x hx),H.od.sublist (List.eraseIdx_sublist _ _),H.rh,λφ iW id bR=>⟨(H.ri φ iW id bR).1,λx hx=>(H.ri φ iW id bR).2 x (Es x hx)⟩⟩;refine K.oC ⟨c,dj (H.oh _ jL),am,ac⟩ λj hj=>?_;simp only[aF.ids,List.mem_singleton] at hj;subst hj;refine⟨(H.oi _ jL j (by simp[Own.ids])).1,λx hx hj=>?_⟩;obtain⟨m,hm⟩:=List.getElem?_of_mem hx;have hp:=H.od;rw[List.pairwise_iff_getElem] at hp;obtain⟨At,wK⟩:=List.getElem?_eq_some_iff.1 hi;rw[List.getElem?_eraseIdx] at hm;split at hm
 .rename_i du;obtain⟨zu,xg⟩:=List.getElem?_eq_some_iff.1 hm;exact hp m i zu At du j (by rw[xg];exact hj) (by rw[wK];simp[Own.ids])
 .rename_i Fc;obtain⟨zu,xg⟩:=List.getElem?_eq_some_iff.1 hm;exact hp i (m+1) At zu am j (by rw[wK];simp[Own.ids]) (by rw[xg];exact hj)
theorem fI (H:Cx B0 W S own ro)(i:Nat){id off n:Nat}{c:List AV}{v:AV}(hi:own[i]?=some (.obj id (.row c)))(ho:odd v=false)(hn:v.cells.length=n)(hl:off+n<=c.length)
  (h:∀S1,Cx B0 W S1 (own.set i (.obj id (.row (bn c off v.cells)))) ro->wp M (k uv) S1 Q):wp M (.op (.store n (.ptr id off) v) k) S Q:=by
 have hg:S.get id=some (.row c):=H.oh _ (List.mem_of_getElem? hi);refine ah (v:=uv) (S1:=S.set id (.row (bn c off v.cells))) ?_ (h _ (H.step hi (Nat.le_refl _) ?_ ?_ ?_))
 .show oM n (.ptr id off) v S=_;unfold oM;have h1:h_ (.ptr id off)=some (id,off):=rfl;have h2:(not (odd v)&&Nat.beq (bS v.cells) n&&Nat.ble (Nat.add off n) (bS c))=true:=by
   have q1:Nat.beq (bS v.cells) n=true:=by rw[bB,hn];exact Nat.beq_refl n
   have q2:Nat.ble (Nat.add off n) (bS c)=true:=by rw[bB];exact de hl
   simp only[ho,q1,q2];rfl
  simp only[h1,Df hg,h2]
 .intro j hj fF;rw[AH.dE,if_neg (by simpa[Own.ids] using fF)]
 .show(S.set id _).get id=_;rw[AH.dE,if_pos rfl]
 .intro j hj;simp only[Own.ids,List.mem_singleton] at hj;subst hj;exact⟨(H.oi _ (List.mem_of_getElem? hi) j (by simp[Own.ids])).1,.inl (by simp[Own.ids])⟩
theorem vd (H:Cx B0 W S own ro)(i:Nat){id off:Nat}{c:List AV}{v:AV}(hi:own[i]?=some (.obj id (.row c)))(hj:c[off]?=some v)(h:wp M (k v) S Q):wp M (.op (.load 1 false (.ptr id off)) k) S Q:=
 ah (iX (dj (H.oh _ (List.mem_of_getElem? hi))) hj) h
theorem gN (H:Cx B0 W S own ro)(i:Nat){id off n:Nat}{c:List AV}(hi:own[i]?=some (.obj id (.row c)))(hj:off+n<=c.length)(h:wp M (k (.agg ((c.drop off).take n))) S Q):wp M (.op (.load n true (.ptr id off)) k) S Q:=
 ah (yv (dj (H.oh _ (List.mem_of_getElem? hi))) hj) h
end
section
variable{M:dS}{B0 S:AH}{W:List Nat}{own:List Own}{ro:List aF}{Q:iG}{k:AV->AC}
theorem Aw {v}{es:Nat}{L}(h:gl S v es L):evalOp M.P (.len false v) S=some (I L.length,S):=by
 rcases h with⟨rfl,rfl⟩|⟨id,off,c,h1,h2,h3,h4⟩;.rfl
 .rcases h1 with⟨cap,_,_,rfl⟩|⟨cw,_,_,rfl⟩<;>rfl
theorem ij {v}{es:Nat}{L}(h:(Own.sl v es L).holds S):gl S v es L:=by
 rcases h with h|⟨id,off,c,h0,h1,h2⟩;.exact .inl h
 .exact .inr ⟨id,off,c,h0,dj h1,h2⟩
theorem gO (H:Cx B0 W S own ro){v}{es:Nat}{L}(hm:aF.sl v es L∈ro)(h:wp M (k (I L.length)) S Q):wp M (.op (.len false v) k) S Q:=ah (Aw (H.rh _ hm)) h
theorem Dg (H:Cx B0 W S own ro)(i:Nat){v}{es:Nat}{L}(hm:own[i]?=some (.sl v es L))(h:wp M (k (I L.length)) S Q):wp M (.op (.len false v) k) S Q:=
 ah (Aw (ij (H.oh _ (List.mem_of_getElem? hm)))) h
theorem ju:∀{L:List (List AV)} {es:Nat} (h:∀x∈L,x.length=es) {i:Nat} {x:List AV},L[i]?=some x->(L.flatten.drop (i*es)).take es=x
 |[],es,h,i,x,hx=>by simp at hx
 |y::L,es,h,0,x,hx=>by
  simp at hx;subst hx;have:=h y ac;simp[<-this]
 |y::L,es,h,i+1,x,hx=>by have hy:=h y ac;simp only[List.flatten_cons];rw[show(i+1)*es=y.length+i*es by rw[hy,Nat.succ_mul];omega,List.drop_append];simp only[Nat.add_sub_cancel_left];have e:y.drop (y.length+i*es)=[]:=List.drop_eq_nil_of_le am;rw[e,List.nil_append];exact ju (λz hz=>h z (by simp[hz])) (by simpa using hx)
theorem bw:∀{L:List (List AV)} {es:Nat} (h:∀x∈L,x.length=es),L.flatten.length=L.length*es
 |[],es,h=>ac
 |y::L,es,h=>by simp only[List.flatten_cons,List.length_append,List.length_cons];rw[h y ac,bw (λz hz=>h z (by simp[hz])),Nat.succ_mul];omega
theorem rK {v:AV}{es:Nat}{L:List (List AV)}(h:gl S v es L){i:Nat}{x:List AV}(hi:L[i]?=some x):
  ∃id off,evalOp M.P (.dp es v (I (i:Int))) S=some (.ptr id off,S)/\(aF.pt id off x).holds S/\id∈ef v:=by
 have du:i<L.length:=(List.getElem?_eq_some_iff.1 hi).1;rcases h with⟨rfl,rfl⟩|⟨id,off,c,h1,h2,h3,h4⟩;.simp at hi
 .have hx:=h4 x (List.mem_of_getElem? hi);have Ax:oL (I (i:Int)) L.length=some i:=by show below i L.length=some i;unfold below;rw[de du]
  have hlen:off+L.length*es<=c.length\/es=0:=by
   have:=congrArg List.length h3;rw[bw h4,List.length_take,List.length_drop] at this;rcases Nat.eq_zero_or_pos es with e|e;.exact .inr e
   .left;have:0<L.length*es:=Nat.mul_pos am e;omega
  have ng:off+i*es+x.length<=c.length:=by
   rcases hlen with hl|hl
   .have:(i+1)*es<=L.length*es:=Nat.mul_le_mul_right es du;rw[Nat.succ_mul] at this;omega
   .subst hl;rcases h1 with⟨cap,_,hh,_⟩|⟨cw,_,hh,_⟩<;>simp only[Nat.mul_zero,Nat.add_zero] at hh⊢<;>omega
  refine⟨id,off+i*es,?_,⟨c,h2,ng,?_⟩,?_⟩
  .rcases h1 with⟨cap,_,_,rfl⟩|⟨cw,_,_,rfl⟩
   .show eO (fC es (.sl id off L.length cap) (I (i:Int))) S=_;unfold fC;simp only[Ax];rfl
   .show eO (fC es (.op id off L.length cw es) (I (i:Int))) S=_;unfold fC;simp only[Ax];rfl
  .have:=ju h4 hi;rw[<-h3,List.drop_take,List.drop_drop,List.take_take] at this;rw[hx];rw[Nat.min_eq_left] at this;.exact this
   .have:(i+1)*es<=L.length*es:=Nat.mul_le_mul_right es du;rw[Nat.succ_mul] at this;omega
  .rcases h1 with⟨cap,_,_,rfl⟩|⟨cw,_,_,rfl⟩<;>simp[ef]
theorem nA (H:Cx B0 W S own ro){v}{es i:Nat}{L x}(hm:aF.sl v es L∈ro)(hi:L[i]?=some x)
  (h:∀id off,Cx B0 W S own (.pt id off x::ro)->wp M (k (.ptr id off)) S Q):wp M (.op (.dp es v (I (i:Int))) k) S Q:=by
 obtain⟨id,off,h1,h2,h3⟩:=rK (M:=M) (H.rh _ hm) hi;refine ah h1 (h id off (H.oC h2 λj hj=>?_));simp only[aF.ids,List.mem_singleton] at hj;subst hj;exact H.ri _ hm j h3
theorem gP (H:Cx B0 W S own ro)(n:Nat){v}{es i:Nat}{L x}(hm:own[n]?=some (.sl v es L))(hi:L[i]?=some x)
  (h:∀id off,(aF.pt id off x).holds S->wp M (k (.ptr id off)) S Q):wp M (.op (.dp es v (I (i:Int))) k) S Q:=by
 obtain⟨id,off,h1,h2,h3⟩:=rK (M:=M) (ij (H.oh _ (List.mem_of_getElem? hm))) hi;exact ah h1 (h id off h2)
theorem ve {id off j:Nat}{cs v}(hp:(aF.pt id off cs).holds S)(hj:cs[j]?=some v)(h:wp M (k v) S Q):wp M (.op (.load 1 false (.ptr id (Nat.add off j))) k) S Q:=by obtain⟨c,h1,h2⟩:=rJ hp hj;exact ah (iX h1 h2) h
theorem cD {id off f:Nat}(h:wp M (k (.ptr id (Nat.add off f))) S Q):wp M (.op (.jO f (.ptr id off)) k) S Q:=ah rfl h
theorem dJ {id off:Nat}(h:wp M (k (.ptr id off)) S Q):wp M (.op (.oJ (.ptr id off)) k) S Q:=ah rfl h
theorem yw {v}{es n id off i:Nat}{c}(h:oZ v es n id off c)(hi:i<n):evalOp M.P (.dp es v (I (i:Int))) S=some (.ptr id (off+i*es),S):=by
 have Ax:oL (I (i:Int)) n=some i:=by show below i n=some i;unfold below;rw[de hi]
 rcases h with⟨cap,_,_,rfl⟩|⟨cw,_,_,rfl⟩
 .show eO (fC es (.sl id off n cap) (I (i:Int))) S=_;unfold fC;simp only[Ax];rfl
 .show eO (fC es (.op id off n cw es) (I (i:Int))) S=_;unfold fC;simp only[Ax];rfl
theorem mE {c ys}{off:Nat}(h:off+ys.length<=c.length):(bn c off ys).length=c.length:=by rw[cb];simp;omega
theorem l9 {c ys}{off:Nat}(h:off+ys.length<=c.length)(j:Nat):(bn c off ys)[j]?=if off<=j/\j<off+ys.length then ys[j-off]? else c[j]?:=by
 have h1:(c.take off).length=off:=by rw[List.length_take];omega
 rw[cb,List.getElem?_append,h1];by_cases h2:j<off;.rw[if_pos h2,if_neg am,List.getElem?_take,if_pos h2]
 .rw[if_neg h2,List.getElem?_append];by_cases h3:j-off<ys.length;.rw[if_pos h3,if_pos am]
  .rw[if_neg h3,if_neg am,List.getElem?_drop];congr 1;omega
theorem sH:∀{L:List (List AV)} {es:Nat} (h:∀x∈L,x.length=es) {i:Nat} {ys:List AV},i<L.length->ys.length=es->(L.set i ys).flatten=bn L.flatten (i*es) ys
 |[],es,h,i,ys,hi,hy=>by simp at hi
 |y::L,es,h,0,ys,hi,hy=>by
  have:=h y ac;rw[cb];simp only[List.set_cons_zero,List.flatten_cons,Nat.zero_mul,List.take_zero,Nat.zero_add,List.nil_append];congr 1;rw[List.drop_append,hy,<-this];simp
 |y::L,es,h,i+1,ys,hi,hy=>by
  have IX:=h y ac;have ih:=sH (L:=L) (λz hz=>h z (by simp[hz])) (i:=i) (ys:=ys) (by simpa using hi) hy;rw[cb] at ih⊢;simp only[List.set_cons_succ,List.flatten_cons,ih];have e1:(i+1)*es=y.length+i*es:=by rw[IX,Nat.succ_mul];omega
  rw[e1,List.take_append,List.drop_append,List.take_of_length_le (by omega:y.length<=y.length+i*es),List.drop_eq_nil_of_le (by omega:y.length<=y.length+i*es+ys.length)];simp only[List.append_assoc,List.nil_append];congr 3
  .congr 1;omega
  .congr 2;omega
theorem rL (H:Cx B0 W S own ro)(n:Nat){v:AV}{es i:Nat}{L:List (List AV)}{y:AV}(hm:own[n]?=some (.sl v es L))(hi:i<L.length)(ho:odd y=false)(hy:y.cells.length=es)
  {k:AV->AC} (h:∀S1,Cx B0 W S1 (own.set n (.sl v es (L.set i y.cells))) ro->wp M (k uv) S1 Q):wp M (.op (.dp es v (I (i:Int))) λp=>.op (.store es p y) k) S Q:=by
 have hw:I3 S v es L:=H.oh _ (List.mem_of_getElem? hm);rcases hw with⟨rfl,rfl⟩|⟨id,off,c,h0,h1,h2,h3⟩;.simp at hi
 .refine ah (yw h0 hi) ?_;have Bx:=bw h3;have hlen:off+L.length*es<=c.length:=by
   have wC:∃m,L.length<=m/\off+m*es<=c.length:=by
    rcases h0 with⟨m,q1,q2,_⟩|⟨m,q1,q2,_⟩<;>exact⟨m,q1,q2⟩
   obtain⟨m,q1,q2⟩:=wC;have:=Nat.mul_le_mul_right es q1;omega
  have ng:i*es+es<=L.length*es:=by have:(i+1)*es<=L.length*es:=Nat.mul_le_mul_right es hi;rw[Nat.succ_mul] at this;omega
  refine ah (v:=uv) (S1:=S.set id (.row (bn c (off+i*es) y.cells))) ?_ (h _ (H.step hm (Nat.le_refl _) ?_ ?_ ?_))
  .show oM es (.ptr id (off+i*es)) y S=_;unfold oM;have g1:h_ (.ptr id (off+i*es))=some (id,off+i*es):=rfl;have g2:(not (odd y)&&Nat.beq (bS y.cells) es&&Nat.ble (Nat.add (off+i*es) es) (bS c))=true:=by
    have q1:Nat.beq (bS y.cells) es=true:=by rw[bB,hy];exact Nat.beq_refl es
    have q2:Nat.ble (Nat.add (off+i*es) es) (bS c)=true:=by rw[bB];exact de (by show off+i*es+es<=c.length;omega)
    simp only[ho,q1,q2];rfl
   simp only[g1,Df h1,g2]
  .intro j hj fF;rw[AH.dE,if_neg (by simpa[Own.ids,h0.ids] using fF)]
  .refine .inr ⟨id,off,bn c (off+i*es) y.cells,?_,by rw[AH.dE,if_pos rfl],?_,?_⟩
   .rw[List.length_set];have hl:(bn c (off+i*es) y.cells).length=c.length:=mE am;rcases h0 with⟨m,q1,q2,q3⟩|⟨m,q1,q2,q3⟩;.exact .inl ⟨m,q1,by rw[hl];exact q2,q3⟩
    .exact .inr ⟨m,q1,by rw[hl];exact q2,q3⟩
   .rw[List.length_set,sH h3 hi hy,<-h2];apply List.ext_getElem?;intro j;rw[List.getElem?_take,List.getElem?_drop,l9 am,l9 (by rw[List.length_take,List.length_drop];omega)];rw[List.getElem?_take,List.getElem?_drop];by_cases hj:j<L.length*es
    .rw[if_pos hj,if_pos hj];by_cases hr:i*es<=j/\j<i*es+y.cells.length;.rw[if_pos hr,if_pos am];congr 1;omega
     .rw[if_neg hr,if_neg am]
    .rw[if_neg hj,if_neg hj,if_neg am]
   .intro x hx;rcases List.mem_or_eq_of_mem_set hx with hx|rfl;.exact h3 x hx
    .exact hy
  .intro j hj;exact⟨(H.oi _ (List.mem_of_getElem? hm) j hj).1,.inl hj⟩
theorem o4 {v}{es:Nat}{L}(h:gl S v es L):elems S es v=some (L.length,L.flatten):=by
 rcases h with⟨rfl,rfl⟩|⟨id,off,c,h0,h1,h2,h3⟩;.rfl
 .have hlen:off+L.length*es<=c.length:=by
   have wC:∃m,L.length<=m/\off+m*es<=c.length:=by
    rcases h0 with⟨m,q1,q2,_⟩|⟨m,q1,q2,_⟩<;>exact⟨m,q1,q2⟩
   obtain⟨m,q1,q2⟩:=wC;have:=Nat.mul_le_mul_right es q1;omega
  have hb:Nat.ble (off+L.length*es) (bS c)=true:=by rw[bB];exact de hlen
  rcases h0 with⟨m,q1,q2,rfl⟩|⟨m,q1,q2,rfl⟩
  .show(match S.cells? id with|some c=>if Nat.ble (off+L.length*es) (bS c) then some (L.length,jQ (L.length*es) (jP off c)) else none|none=>none)=_;simp only[h1,hb,if_true,dt,dN,h2]
  .show(match S.cells? id with|some c=>if Nat.ble (off+L.length*es) (bS c) then some (L.length,jQ (L.length*es) (jP off c)) else none|none=>none)=_;simp only[h1,hb,if_true,dt,dN,h2]
theorem wM {c ys}{off a n:Nat}(h:off+a+ys.length<=c.length)(hn:n=a+ys.length):((bn c (off+a) ys).drop off).take n=(c.drop off).take a++ys:=by
 subst hn;have h1:(c.take (off+a)).drop off=(c.drop off).take a:=by rw[List.drop_take];congr 1;omega
 have h2:(c.take (off+a)).length=off+a:=by rw[List.length_take];omega
 rw[cb,List.drop_append,h1,h2];have h3:((c.drop off).take a).length=a:=by rw[List.length_take,List.length_drop];omega
 rw[show off-(off+a)=0 by omega,List.drop_zero,List.take_append,h3,List.take_of_length_le (by omega:((c.drop off).take a).length<=a+ys.length)];congr 1;rw[show a+ys.length-a=ys.length by omega,List.take_append,List.take_of_length_le (Nat.le_refl _),Nat.sub_self,List.take_zero,List.append_nil]
theorem nB {v x:AV}{es bytes:Nat}{L N:List (List AV)}(hv:I3 S v es L)(hx:elems S es x=some (N.length,N.flatten))(hN:∀y∈N,y.length=es)
  (hb:(L.length+N.length)*bytes<=cK) (hl:L.length+N.length<=dL) (du:∀id∈ef v,id<S.next):
  ∃v1 S1,evalOp M.P (.append es bytes v x) S=some (v1,S1)/\I3 S1 v1 es (L++N)/\S.next<=S1.next/\(∀id,id<S.next->id∉ef v->S1.get id=S.get id)/\(∀id∈ef v1,id<S1.next/\(id∈ef v\/S.next<=id)):=by
 have Bx:(L++N).flatten=L.flatten++N.flatten:=List.flatten_append;have W3:=bw hN;have jM:∀(hL:∀y∈L,y.length=es),∀y∈L++N,y.length=es:=λhL y hy=>by
  rcases List.mem_append.1 hy with hy|hy;.exact hL y hy
  .exact hN y hy
 rcases hv with⟨rfl,rfl⟩|⟨id,off,c,h0,h1,h2,h3⟩
 ·
  have An:evalOp M.P (.append es bytes Ns x) S=if Nat.beq N.length 0 then some (Ns,S) else if Nat.ble (N.length*bytes) cK&&Nat.ble N.length dL then some (.op S.next 0 N.length N.length es,S.new (.row N.flatten)) else none:=by show iT es bytes Ns x S=_;unfold iT;rw[hx];rfl
  by_cases hz:N.length=0
  .have:N=[]:=List.length_eq_zero_iff.1 hz;subst this;refine⟨Ns,S,by rw[An];rfl,.inl ⟨rfl,rfl⟩,Nat.le_refl _,λ_ _ _=>rfl,λid bR=>by simp[ef] at bR⟩
  .have e1:Nat.beq N.length 0=false:=by cases hq:Nat.beq N.length 0 with|true=>exact absurd (Nat.eq_of_beq_eq_true hq) hz|false=>rfl
   have e2:(Nat.ble (N.length*bytes) cK&&Nat.ble N.length dL)=true:=by rw[de (by simpa using hb),de (by simpa using hl)];rfl
   rw[e1,e2] at An;refine⟨_,_,An,.inr ⟨S.next,0,N.flatten,.inr ⟨N.length,ac,by rw[W3];omega,ac⟩,bT _ _,?_,by simpa using hN⟩,ac,λid bR _=>by rw[AH.b8,if_neg am],λid bR=>?_⟩
   .simp only[List.drop_zero,List.nil_append];rw[List.take_of_length_le (by rw[W3];omega)]
   .simp only[ef,List.mem_singleton] at bR;subst bR;simp
 .have wC:∃m,L.length<=m/\off+m*es<=c.length:=by
   rcases h0 with⟨m,q1,q2,_⟩|⟨m,q1,q2,_⟩<;>exact⟨m,q1,q2⟩
  have hlen:off+L.length*es<=c.length:=by obtain⟨m,q1,q2⟩:=wC;have:=Nat.mul_le_mul_right es q1;omega
  have hLl:=bw h3;have bR:id<S.next:=du id (by rw[h0.ids];simp);have e2:(Nat.ble ((L.length+N.length)*bytes) cK&&Nat.ble (L.length+N.length) dL)=true:=by rw[de hb,de hl];rfl
  have Rj:jf (jQ (L.length*es) (jP off c)) N.flatten=(L++N).flatten:=by rw[fK,dt,dN,h2,Bx]
  have Rk:∀S0:AH,S0.next=S.next->(∀j,j<S.next->j≠id->S0.get j=S.get j)->I3 (S0.new (.row (L++N).flatten)) (.op S0.next 0 (L.length+N.length) (L.length+N.length) es) es (L++N):=λS0 _ _=>by
   refine .inr ⟨S0.next,0,(L++N).flatten,.inr ⟨(L++N).length,ac,?_,ac⟩,bT _ _,?_,jM h3⟩;.rw[bw (jM h3)];omega
   .rw[List.drop_zero,List.take_of_length_le (by rw[bw (jM h3)];exact Nat.le_refl _)]
  have room:∀cap,L.length+N.length<=cap->off+cap*es<=c.length->((bn c (off+L.length*es) N.flatten).drop off).take ((L++N).length*es)=(L++N).flatten/\(bn c (off+L.length*es) N.flatten).length=c.length:=by intro cap q1 q2;have:=Nat.mul_le_mul_right es q1;rw[Nat.add_mul] at this;refine⟨?_,mE am⟩;rw[wM am (by rw[List.length_append,Nat.add_mul,W3]),h2,Bx]
  rcases h0 with⟨cap,q1,q2,rfl⟩|⟨cw,q1,q2,rfl⟩
  .have g1:(Nat.ble (off+cap*es) (bS c)&&Nat.ble L.length cap)=true:=by rw[bB,de q2,de q1];rfl
   have An:evalOp M.P (.append es bytes (.sl id off L.length cap) x) S=if Nat.ble (L.length+N.length) cap then some (.sl id off (L.length+N.length) cap,S.set id (.row (bn c (off+L.length*es) N.flatten))) else
     if Nat.ble ((L.length+N.length)*bytes) cK&&Nat.ble (L.length+N.length) dL then some (.op S.next 0 (L.length+N.length) (L.length+N.length) es,S.new (.row (jf (jQ (L.length*es) (jP off c)) N.flatten))) else none:=by
    show iT es bytes (.sl id off L.length cap) x S=_;unfold iT;rw[hx];simp only[h1,g1,if_true]
   by_cases hr:L.length+N.length<=cap
   .rw[de hr] at An;obtain⟨r1,r2⟩:=room cap hr q2;refine⟨_,_,An,.inr ⟨id,off,_,.inl ⟨cap,by simpa using hr,by rw[r2];exact q2,ac⟩,by rw[AH.dE,if_pos rfl],r1,jM h3⟩,Nat.le_refl _,λj hj fF=>?_,λj hj=>?_⟩;.rw[AH.dE,if_neg (by simpa[ef] using fF)]
    .simp only[ef,List.mem_singleton] at hj;subst hj;exact⟨bR,.inl (by simp[ef])⟩
   .have e1:Nat.ble (L.length+N.length) cap=false:=by cases hq:Nat.ble (L.length+N.length) cap with|true=>exact absurd (Nat.le_of_ble_eq_true hq) hr|false=>rfl
    rw[e1,e2,Rj] at An;refine⟨_,_,An,Rk S rfl (λ_ _ _=>rfl),ac,λj hj _=>by rw[AH.b8,if_neg am],λj hj=>?_⟩;simp only[ef,List.mem_singleton] at hj;subst hj;simp
  .have g1:(Nat.beq es es&&Nat.ble (off+cw*es) (bS c)&&Nat.ble L.length cw)=true:=by rw[bB,de q2,de q1,Nat.beq_refl];rfl
   have An:evalOp M.P (.append es bytes (.op id off L.length cw es) x) S=if Nat.ble (L.length+N.length) cw then some (.op id off (L.length+N.length) cw es,S.set id (.row (bn c (off+L.length*es) N.flatten))) else
     if Nat.ble ((L.length+N.length)*bytes) cK&&Nat.ble (L.length+N.length) dL then some (.op S.next 0 (L.length+N.length) (L.length+N.length) es,(S.kill id).new (.row (jf (jQ (L.length*es) (jP off c)) N.flatten))) else none:=by
    show iT es bytes (.op id off L.length cw es) x S=_;unfold iT;rw[hx];simp only[h1,g1,if_true]
   by_cases hr:L.length+N.length<=cw
   .rw[de hr] at An;obtain⟨r1,r2⟩:=room cw hr q2;refine⟨_,_,An,.inr ⟨id,off,_,.inr ⟨cw,by simpa using hr,by rw[r2];exact q2,ac⟩,by rw[AH.dE,if_pos rfl],r1,jM h3⟩,Nat.le_refl _,λj hj fF=>?_,λj hj=>?_⟩;.rw[AH.dE,if_neg (by simpa[ef] using fF)]
    .simp only[ef,List.mem_singleton] at hj;subst hj;exact⟨bR,.inl (by simp[ef])⟩
   .have e1:Nat.ble (L.length+N.length) cw=false:=by cases hq:Nat.ble (L.length+N.length) cw with|true=>exact absurd (Nat.le_of_ble_eq_true hq) hr|false=>rfl
    rw[e1,e2,Rj] at An;refine⟨_,_,An,Rk (S.kill id) rfl (λj _ fF=>by rw[AH.gg,if_neg fF]),Nat.le_succ _,λj hj fF=>?_,λj hj=>?_⟩;.rw[AH.b8,if_neg (by show j≠S.next;omega),AH.gg,if_neg (by simpa[ef] using fF)]
    .simp only[ef,List.mem_singleton] at hj;subst hj;exact⟨Nat.lt_succ_self _,.inr (Nat.le_refl _)⟩
theorem Et (H:Cx B0 W S own ro)(n:Nat){v x}{es bytes:Nat}{L N}(hm:own[n]?=some (.sl v es L))(hx:elems S es x=some (N.length,N.flatten))(hN:∀y∈N,y.length=es)
  (hb:(L.length+N.length)*bytes<=cK) (hl:L.length+N.length<=dL) (h:∀v1 S1,Cx B0 W S1 (own.set n (.sl v1 es (L++N))) ro->wp M (k v1) S1 Q):wp M (.op (.append es bytes v x) k) S Q:=by
 have jL:=List.mem_of_getElem? hm;obtain⟨v1,S1,h1,h2,h3,h4,h5⟩:=nB (M:=M) (H.oh _ jL) hx hN hb hl (λid bR=>(H.oi _ jL id bR).1);exact ah h1 (h v1 S1 (H.step hm h3 h4 h2 h5))
theorem o5 (H:Cx B0 W S own ro)(n:Nat){v x}{es bytes:Nat}{L N}(hm:own[n]?=some (.sl v es L))(hx:aF.sl x es N∈ro)(hN:∀y∈N,y.length=es)
  (hb:(L.length+N.length)*bytes<=cK) (hl:L.length+N.length<=dL) (h:∀v1 S1,Cx B0 W S1 (own.set n (.sl v1 es (L++N))) ro->wp M (k v1) S1 Q):wp M (.op (.append es bytes v x) k) S Q:=
 Et H n hm (o4 (H.rh _ hx)) hN hb hl h
theorem GU (H:Cx B0 W S own ro){f:AV}{args:List AV}{R:AV->Prop}(hc:aG M f args S λv S'=>R v/\bj S S')(h:∀v S1,R v->Cx B0 W S1 own ro->wp M (k v) S1 Q):wp M (.call f args k) S Q:=
 bW (ar hc λv S1 ⟨h1,h2⟩=>h v S1 h1 (H.grow h2))
theorem dP (H:Cx B0 W S own ro){f:AV}{args:List AV}{u:AV}(hc:aG M f args S λv S'=>v=u/\bj S S')(h:∀S1,Cx B0 W S1 own ro->wp M (k u) S1 Q):wp M (.call f args k) S Q:=
 GU H hc λv S1 e K=>e▸h S1 K
end
def lq (S:AH)(v:AV)(es:Nat)(L:List (List AV)):Prop:=gl S v es L/\∀id∈ef v,id<S.next
theorem lq.grow {S S1 v}{es:Nat}{L}(h:lq S v es L)(hg:bj S S1):lq S1 v es L:=
 ⟨xi (λid bR=>hg.iD id (h.2 id bR)) h.1,λid bR=>Nat.lt_of_lt_of_le (h.2 id bR) hg.next⟩
theorem Cx.M8 {S v}{es:Nat}{L}(h:lq S v es L):Cx S [] S [] [.sl v es L]:=Cx.enter (by
 intro φ iW;simp only[List.mem_singleton] at iW;subst iW;exact⟨h.1,h.2⟩)
theorem Cx.Rm {S v v'}{es pP:Nat}{L L'}(h:lq S v es L)(h':lq S v' pP L'):Cx S [] S [] [.sl v es L,.sl v' pP L']:=Cx.enter (by
 intro φ iW;simp only[List.mem_cons,List.not_mem_nil,or_false] at iW;rcases iW with rfl|rfl;.exact⟨h.1,h.2⟩
 .exact⟨h'.1,h'.2⟩)
theorem Cx.eT {B S M own ro}(H:Cx B M S own ro){v}{es:Nat}{L}(hm:aF.sl v es L∈ro):lq S v es L:=⟨H.rh _ hm,λid bR=>(H.ri _ hm id bR).1⟩
def ints (l:List Int):List (List AV):=l.map λn=>[I n]
theorem qA (l:List Int):(ints l).length=l.length:=List.length_map ..
section
variable{M:dS}{S:AH}{f:FuncId}
theorem yx {body Q}(n:Nat)(J:Nat->List AV->AH->Prop)(hs:∀i vs S,i<n->J i vs S->wp M (body vs) S λt Bw S1=>(t=.normal/\J (i+1) Bw S1)\/(t≠.normal/\Q t Bw S1))
  (he:∀vs S,J n vs S->wp M (body vs) S λt Bw S1=>t≠.normal/\Q t Bw S1) {vs} {S} (h:J 0 vs S):P4 M body vs S Q:=by
 refine Dc (λm vs S=>∃i,i<=n/\m=n-i/\J i vs S) ?_ n ⟨0,am,am,h⟩;rintro m vs S ⟨i,hi,rfl,hJ⟩;by_cases du:i<n
 .refine wp_mono (hs i vs S du hJ) λt Bw S1 q=>?_;rcases q with⟨h1,h2⟩|q;.exact .inl ⟨h1,n-(i+1),am,i+1,am,rfl,h2⟩
  .exact .inr q
 .have:i=n:=am;subst this;exact wp_mono (he vs S hJ) λt Bw S1 q=>.inr q
def pick (x n:Int):Int:=if n<=0 then 0 else x%n
def LH:List AV->AC:=λv0=>.op (.bin .leq (nth v0 1) (I 0)) λv1=>.ite v1 (.ret .ret [(I 0)]) (.op (.bin .rem (nth v0 0) (nth v0 1)) λv2=>.op (.bin .lss v2 (I 0)) λv3=>.bind (.ite v3 (.op (.bin .add v2 (nth v0 1)) λv4=>.ret .normal [v4]) (.ret .normal [v2])) none (λv4=>.ret .ret [(nth v4 0)]) (λv4=>[(I 0)]))
theorem JP {x n:Int}(hk:M.kn f [I x,I n]=none)(hb:M.iA f=some LH)(hn:n<=9223372036854775807):aG M (.fn (.func f) [] []) [I x,I n] S λr S'=>r=I (pick x n)/\S'=S:=by
 refine bk hk hb ?_;unfold LH pick;refine nw (λh=>?_) (λh=>?_)
 .rw[if_pos h];exact cM (wp_ret ⟨rfl,rfl,rfl⟩)
 .rw[if_neg am];have e:=Int.tmod_eq_emod (a:=x) (b:=n);have h1:=Int.emod_nonneg x (by omega:n≠0);have h2:=Int.emod_lt_of_pos x (by omega:0<n);refine cN (GK am ?_);refine fD (λhl=>?_) (λhl=>?_)
  .refine wp_bind (cM (cr ?_ ?_ (wp_ret (wp_ret ⟨rfl,?_,rfl⟩))))
   .show _<=x.tmod n+n;split at e<;>omega
   .show x.tmod n+n<=_;split at e<;>omega
   .show I (x.tmod n+n)=_;congr 2;split at e;.omega
    .rw[e];omega
  .refine wp_bind (cN (wp_ret (wp_ret ⟨rfl,?_,rfl⟩)));show I (x.tmod n)=_;congr 2;split at e<;>omega
theorem Ca {v}{es n id off i:Nat}{c}(h:oZ v es n id off c)(hi:i<=n):∃v',evalOp M.P (.ko es v none (some (I (i:Int))) none) S=some (v',S)/\oZ v' es i id off c:=by
 rcases h with⟨cap,q1,q2,rfl⟩|⟨cw,q1,q2,rfl⟩
 .refine⟨.sl id off i cap,?_,.inl ⟨cap,am,q2,rfl⟩⟩;show eO (dD es (.sl id off n cap) none (some (I (i:Int))) none) S=_;have hb:kr none (some (I (i:Int))) none n cap=some (0,i,cap):=by
   have h1:below i (Nat.succ cap)=some i:=by unfold below;rw[de am]
   show(match(match fE (some (I (i:Int))) n cap with|some h=>_|none=>none) with|r=>r)=_;have h2:fE (some (I (i:Int))) n cap=some i:=h1;rw[h2];rfl
  unfold dD;simp only[hb];have e:(if Nat.beq cap 0=true then off else Nat.add off (Nat.mul 0 es))=off:=by
   split;.rfl
   .show off+0*es=off;omega
  rw[e];rfl
 .refine⟨.op id off i cw es,?_,.inr ⟨cw,am,q2,rfl⟩⟩;show eO (dD es (.op id off n cw es) none (some (I (i:Int))) none) S=_;have hb:kr none (some (I (i:Int))) none n cw=some (0,i,cw):=by
   have h1:below i (Nat.succ cw)=some i:=by unfold below;rw[de am]
   show(match(match fE (some (I (i:Int))) n cw with|some h=>_|none=>none) with|r=>r)=_;have h2:fE (some (I (i:Int))) n cw=some i:=h1;rw[h2];rfl
  unfold dD;simp only[hb,Nat.beq_refl];have e:Nat.add off (Nat.mul 0 es)=off:=by show off+0*es=off;omega
  rw[e];rfl
theorem Eu {B0 W own ro Q k}(H:Cx B0 W S own ro){v}{es i:Nat}{L}(hm:aF.sl v es L∈ro)(hi:i<=L.length)
  (h:∀v',Cx B0 W S own (.sl v' es (L.take i)::ro)->wp M (k v') S Q):wp M (.op (.ko es v none (some (I (i:Int))) none) k) S Q:=by
 have hs:=H.rh _ hm;rcases hs with⟨rfl,rfl⟩|⟨id,off,c,h0,h1,h2,h3⟩
 .have:i=0:=by simpa using hi
  subst this;exact ah (v:=Ns) rfl (h Ns (H.oC (.inl ⟨rfl,ac⟩) λid bR=>by simp[aF.ids,ef] at bR))
 .obtain⟨v',e1,e2⟩:=Ca (M:=M) (S:=S) h0 hi;refine ah e1 (h v' (H.oC (.inr ⟨id,off,c,?_,h1,?_,λx hx=>h3 x (List.mem_of_mem_take hx)⟩) λj hj=>H.ri _ hm j ?_));.rw[List.length_take,Nat.min_eq_left hi];exact e2
  .rw[List.length_take,Nat.min_eq_left hi];have hle:=Nat.mul_le_mul_right es hi;have:(c.drop off).take (i*es)=((c.drop off).take (L.length*es)).take (i*es):=by rw[List.take_take,Nat.min_eq_left hle]
   rw[this,h2];have e:L.flatten=(L.take i).flatten++(L.drop i).flatten:=by rw[<-List.flatten_append,List.take_append_drop]
   have hl:(L.take i).flatten.length=i*es:=by rw[bw (λx hx=>h3 x (List.mem_of_mem_take hx)),List.length_take,Nat.min_eq_left hi]
   rw[e,List.take_append,hl,Nat.sub_self,List.take_zero,List.append_nil,List.take_of_length_le am]
  .simp only[aF.ids] at hj⊢;rw[e2.ids] at hj;rw[h0.ids];exact hj
theorem tO {κ}{a:Int}:AV.beq (Z κ a) (Z κ a)=true:=by show(oK κ κ&&Ja a a)=true;rw[aH,dX];simp
theorem JQ {B0 W own ro Q k}(H:Cx B0 W S own ro){id off j:Nat}{cs v}(hm:aF.pt id off cs∈ro)(hj:cs[j]?=some v)(hb:AV.beq v v=true)(h:wp M k S Q):
  wp M (.lN (.load 1 false (.ptr id (Nat.add off j))) v k) S Q:=by
 obtain⟨c,h1,h2⟩:=rJ (H.rh _ hm) hj;refine yq (v':=v) ?_ hb h;show(match S.cells? id with|some c=>fB false c (Nat.add off j) 1|none=>none)=_;rw[h1];exact l8 h2
end
section
variable{M:dS}{B0 S:AH}{W:List Nat}{own:List Own}{ro:List aF}{Q:iG}{k:AV->AC}
theorem Cx.Dh (H:Cx B0 W S own ro){n id:Nat}{o}(hm:own[n]?=some (.obj id o))(o':AO):Cx B0 W (S.set id o') (own.set n (.obj id o')) ro:=by
 refine H.step hm (Nat.le_refl _) (λj hj fF=>?_) ?_ (λj hj=>?_);.rw[AH.dE,if_neg (by simpa[Own.ids] using fF)]
 .show(S.set id o').get id=_;rw[AH.dE,if_pos rfl]
 .simp only[Own.ids,List.mem_singleton] at hj;subst hj;exact⟨(H.oi _ (List.mem_of_getElem? hm) j (by simp[Own.ids])).1,.inl (by simp[Own.ids])⟩
theorem Cx.iI (H:Cx B0 W S own ro)(n:Nat):Cx B0 W S (own.eraseIdx n) ro:=H.yu (List.eraseIdx_sublist _ _)
theorem Cx.GV (H:Cx B0 W S own ro){i id:Nat}{o}(hi:own[i]?=some (.obj id o)):Cx B0 W S (own.eraseIdx i) (.ob id o::ro):=by
 have jL:=List.mem_of_getElem? hi;refine(H.iI i).oC (H.oh _ jL) λj hj=>?_;simp only[aF.ids,List.mem_singleton] at hj;subst hj;refine⟨(H.oi _ jL j (by simp[Own.ids])).1,λx hx hj=>?_⟩;obtain⟨m,hm⟩:=List.getElem?_of_mem hx;have hp:=H.od;rw[List.pairwise_iff_getElem] at hp;obtain⟨At,wK⟩:=List.getElem?_eq_some_iff.1 hi;rw[List.getElem?_eraseIdx] at hm;split at hm
 .rename_i du;obtain⟨zu,xg⟩:=List.getElem?_eq_some_iff.1 hm;exact hp m i zu At du j (by rw[xg];exact hj) (by rw[wK];simp[Own.ids])
 .obtain⟨zu,xg⟩:=List.getElem?_eq_some_iff.1 hm;exact hp i (m+1) At zu am j (by rw[wK];simp[Own.ids]) (by rw[xg];exact hj)
theorem Cx.other {B0 S S1 W own ro}(H:Cx B0 W S own ro){l:Nat}{n:Nat}{o}(hm:own[n]?=some (.obj l o))(h1:S1.next=S.next)(h2:∀j,j≠l->S1.get j=S.get j):Cx B0 W S1 (own.eraseIdx n) ro:=by
 have jL:=List.mem_of_getElem? hm;have K:=H.GV hm;have K':Cx B0 W S (own.eraseIdx n) ro:=K.tl;have hl:∀x∈own.eraseIdx n,l∉x.ids:=(K.ri _ (List.Mem.head _) l (by simp[aF.ids])).2;have i_:∀φ∈ro,l∉φ.ids:=λφ iW bR=>(H.ri φ iW l bR).2 _ jL (by simp[Own.ids])
 refine⟨by rw[h1];exact K'.next,λid h3 h4=>?_,λx hx=>Own.fS (λid bR=>h2 id λe=>hl x hx (e▸bR)) (K'.oh x hx),λx hx id bR=>by rw[h1];exact K'.oi x hx id bR,K'.od,
  λφ iW=>aF.fS (λid bR=>h2 id λe=>i_ φ iW (e▸bR)) (K'.rh φ iW),λφ iW id bR=>by rw[h1];exact K'.ri φ iW id bR⟩
 by_cases e:id=l
 .subst e;exact absurd ((H.oi _ jL id (by simp[Own.ids])).2 h3) h4
 .rw[h2 id e];exact K'.iD id h3 h4
end
section
variable[jJ]
open Go.ChangeShapes Go.WideShapes
section
variable{H:Type}{enc:TypeId×Value->H}{P:Program}{W:World}{base:Nat}{sp:Nat->Bool}{hd:Bool}
def Cb:Value->Bool
 |.int k n=>(Lit.int k n).wf
 |_=>true
theorem l_ {t}{n:Nat}(h:aU P t=some n):P.cellsOf t=n:=by unfold aU at h;unfold Program.cellsOf;rw[h];rfl
theorem Ev {ks}:∀{ls} {vs},aA ks (vs.take ks.length)=true->aA ls (vs.drop ks.length)=true->aA (ks++ls) vs=true:=by
 induction ks with
 |nil=>intro ls vs h1 h2;simpa using h2
 |cons k ks ih=>
  intro ls vs h1 h2;cases vs with
  |nil=>simp[aA] at h1
  |cons v vs=>simp only[List.length_cons,List.take_succ_cons,aA,Bool.and_eq_true,List.drop_succ_cons] at h1 h2;simp only[List.cons_append,aA,Bool.and_eq_true];exact⟨h1.1,ih h1.2 h2⟩
theorem xl:∀(d:Nat) (t:TypeId) (ks:List (Option IntKind)),dV P d t=some ks->aU P t=some ks.length->∀(fuel:Nat) (cs:List Value) (x:DataW H×List MemPlace),DataW.trod enc P W base sp hd fuel t cs=some x->aA ks cs=true/\∀v∈cs,Cb v=true
 |0,t,ks,hf,_,_,_,_,_=>by simp[dV] at hf
 |d+1,t,ks,hf,oS,fuel,cs,x,h=>by
  unfold dV at hf;cases hu:P.underlying t with
  |none=>rw[hu] at hf;cases hf
  |some u=>
   rw[hu] at hf;cases u with
   |bool=>
    cases hf;obtain⟨b,rfl,_⟩:=DataW.trod_bool hu h;exact⟨rfl,by simp[Cb]⟩
   |int k=>
    cases hf;obtain⟨n,rfl,_,hw⟩:=DataW.trod_int hu h;exact⟨by simp[aA,gn],by simpa[Cb] using hw⟩
   |struct fs=>
    simp only at hf;cases P6:P.stoodInHeld t with
    |true=>rw[P6] at hf;simp at hf
    |false=>
     rw[P6] at hf;simp only[Bool.false_eq_true,if_false] at hf;obtain⟨xs,n,_,_,hlen,_,Bx⟩:=DataW.trod_struct hu h;rw[l_ oS] at hlen;have key:∀(l:List Field) (i off:Nat) (ks:List (Option IntKind)),(∀(j:Nat) f,l[j]?=some f->fs[i+j]?=some f)->sF (dV P d) P l off=some ks->off+ks.length=cs.length->aA ks (cs.drop off)=true/\∀v∈cs.drop off,Cb v=true:=by
      intro l;induction l with
      |nil=>
       intro i off ks _ hf hl;cases hf;have:cs.drop off=[]:=List.drop_eq_nil_of_le (by simp at hl;omega);rw[this];exact⟨rfl,ac⟩
      |cons f l ih=>
       intro i off ks Ax hf hl;unfold sF at hf;by_cases hn:f.name= "_";.rw[if_pos hn] at hf;cases hf
       .rw[if_neg hn] at hf;by_cases ho:f.offset≠off;.rw[if_pos ho] at hf;cases hf
        .rw[if_neg ho] at hf;have ho:f.offset=off:=am;cases hr:dV P d f.type with
         |none=>rw[hr] at hf;cases hf
         |some k1=>
          rw[hr] at hf;simp only at hf;by_cases hs:aU P f.type=some k1.length
          .rw[if_pos hs] at hf;cases qy:sF (dV P d) P l (off+k1.length) with
           |none=>rw[qy] at hf;cases hf
           |some k2=>
            rw[qy] at hf;cases hf;rw[List.length_append] at hl;have h0:=Ax 0 f rfl;have h1:=Bx i f h0;rw[ho,l_ hs] at h1;cases hx:xs[i]? with
            |none=>
             rw[hx] at h1;have:=(Array.getElem?_eq_some_iff.1 h0).1;have:=List.getElem?_eq_none_iff.1 hx;omega
            |some y=>
             rw[hx] at h1;obtain⟨q1,q2⟩:=xl d f.type k1 hr hs n _ y h1;obtain⟨r1,r2⟩:=ih (i+1) (off+k1.length) k2 (λj f hj=>by
              have:=Ax (j+1) f (by simpa using hj)
              rwa[show i+(j+1)=i+1+j by omega] at this) qy am
             rw[<-List.drop_drop] at r1 r2;refine⟨Ev q1 r1,λv hv=>?_⟩;rw[<-List.take_append_drop k1.length (cs.drop off),List.mem_append] at hv;rcases hv with hv|hv;.exact q2 v hv
             .exact r2 v hv
          .rw[if_neg hs] at hf;cases hf
     have:=key fs.toList 0 0 ks (λj f hj=>by simpa using hj) hf am;simpa using this
   |_=>cases hf
theorem nQ {t e}{d:Nat}{ks v x p}(ht:P.underlying t=some (.slice e))(hf:dV P d e=some ks)(hs:aU P e=some ks.length)
  (ig:Value.okWide P W .any base t v) (h:DataW.Trod enc P W 0 (λ_=>true) true t v x p):
  v=.slice none 0 0\/∃(b off len cap:Nat) (C:Nat->List Value),v=.slice (some ⟨b,off,none⟩) len cap/\len<=cap/\cap<=maxLen/\b<W.heap.size/\
   ∀i,i<cap->aA ks (C i)=true/\(∀y∈C i,Cb y=true)/\∀(j:Nat) y,(C i)[j]?=some y->W.cell? ⟨b,off+i*ks.length+j,none⟩=some y:=by
 obtain⟨fuel,hr⟩:=h;have dH:=l_ hs;rcases DataW.trod_slice ht hr with⟨h1,_⟩|⟨a,len,cap,elems,rest,n,_,h1,_,_,h2,h3,h4,h5,h6,_⟩
 .left;cases v<;>simp[Value.cells] at h1
  .obtain⟨rfl,rfl,rfl⟩:=h1;rfl
  .simp[Value.okWide,ht,Cell.okWide,Cell.ok] at ig
 .right;have hv:v=.slice (some a) len cap:=by
   cases v<;>simp[Value.cells] at h1
   .obtain⟨rfl,rfl,rfl⟩:=h1;rfl
   .simp[Value.okWide,ht,Cell.okWide,Cell.ok] at ig
  subst hv;have W4:W.has P .any base a e cap:=by simp only[Value.okWide,ht,Cell.okWide,Cell.ok] at ig;exact ig.2.2
  obtain⟨_,LI,row,cells,Cc,_⟩:=W4;obtain⟨b,off,s⟩:=a;simp only at LI;subst LI;have hb:b<W.heap.size:=by
   unfold World.shape? at Cc;split at Cc
   .rename_i hh;exact(Array.getElem?_eq_some_iff.1 hh).1
   .cases Cc
  obtain⟨h7,h8⟩:=h6 rfl;have jM:∀i,i<cap->∃y,(W.cells? 0 (Addr.add ⟨b,off,none⟩ (i*P.cellsOf e)) (P.cellsOf e)).bind (DataW.trod enc P W 0 (λ_=>true) true n e)=some y:=by
   intro i hi;by_cases hl:i<len
   .rw[h5 i hl];exact⟨elems[i]' am,List.getElem?_eq_getElem am⟩
   .have:=h8 (i-len) am;rw[show len+(i-len)=i by omega] at this;rw[this];exact⟨rest[i-len]' am,List.getElem?_eq_getElem am⟩
  have hex:∀i,∃C:List Value,i<cap->aA ks C=true/\(∀y∈C,Cb y=true)/\∀(j:Nat) y,C[j]?=some y->W.cell? ⟨b,off+i*ks.length+j,none⟩=some y:=by
   intro i;by_cases hi:i<cap
   .obtain⟨y,hy⟩:=jM i hi;rw[dH] at hy;obtain⟨cs,hc,htr⟩:=Option.bind_eq_some_iff.1 hy;obtain⟨_,abj,W5⟩:=World.cells?_some hc;obtain⟨q1,q2⟩:=xl d e ks hf hs n cs y htr;refine⟨cs,λ_=>⟨q1,q2,λj z hz=>?_⟩⟩;have hj:j<ks.length:=by have:=(List.getElem?_eq_some_iff.1 hz).1;omega
    rw[<-hz,<-W5 j hj];have e1:Addr.add (Addr.add ⟨b,off,none⟩ (i*ks.length)) j=⟨b,off+i*ks.length+j,none⟩:=by
     unfold Addr.add;by_cases z1:i*ks.length=0
     .rw[if_pos z1];by_cases z2:j=0;.rw[if_pos z2,z1,z2];rfl
      .rw[if_neg z2,z1];rfl
     .rw[if_neg z1];by_cases z2:j=0;.rw[if_pos z2,z2];rfl
      .rw[if_neg z2]
    rw[e1]
   .exact⟨[],λh=>absurd h hi⟩
  refine⟨b,off,len,cap,λi=>(hex i).choose,rfl,h2,h3,hb,λi hi=>(hex i).choose_spec hi⟩
end
def sI (vs:List Value):List AV:=vs.map .sc
theorem GW {ρ ks}:∀{vs},aA ks vs=true->∀v∈vs,V ρ (.sc v) v/\v.oneCell'=true:=by
 induction ks with
 |nil=>intro vs h;cases vs with|nil=>simp|cons _ _=>simp[aA] at h
 |cons k ks ih=>
  intro vs h v hv;cases vs with
  |nil=>simp at hv
  |cons a vs=>
   simp only[aA,Bool.and_eq_true] at h;rcases List.mem_cons.1 hv with rfl|hv;.cases v<;>cases k<;>simp[gn] at h<;>exact⟨.sc rfl,rfl⟩
   .exact ih h.2 v hv
theorem GX {ρ}:∀{vs},(∀v∈vs,V ρ (.sc v) v)->VL ρ (sI vs) vs
 |[],_=>.nil
 |v::vs,h=>.cons (h v ac) (GX λx hx=>h x (by simp[hx]))
theorem V.Rp {ρ ks vs}(h:aA ks vs=true):V ρ (.agg (sI vs)) (.agg vs.toArray):=
 .agg (GX λv hv=>(GW h v hv).1) λv hv=>(GW (ρ:=ρ) h v hv).2
structure Open (P:Program)(W:World)(S:AH)(ρ:Ren)(as:List AV)(xs:List Value):Prop where
 r:R P ρ S W
 v:VL ρ as xs
 ro:∀id o,S.get id=some o->oQ o=true
theorem Open.nil (P:Program)(W:World):Open P W ⟨.e,0⟩ (λ_=>none) [] []:=⟨R.nothing P W,.nil,λid o h=>by simp[AH.get,fN] at h⟩
theorem Open.one {P W S ρ as xs}(h:Open P W S ρ as xs){a x}(hv:V ρ a x):Open P W S ρ (a::as) (x::xs):=⟨h.r,.cons hv h.v,h.ro⟩
theorem Open.lay {P W S ρ as xs}(h:Open P W S ρ as xs){b off l:Nat}{c}(hb:b<W.heap.size)
  (hc:∀(i:Nat) v,c[i]?=some v->∃x,W.cell? ⟨b,off+i,none⟩=some x/\V ρ v x/\x.oneCell'=true):Open P W (S.new (.ro c)) (ρ.put S.next (b,off,l)) as xs/\ρ.le (ρ.put S.next (b,off,l)):=by
 have hn:ρ S.next=none:=by
  cases e:ρ S.next with
  |none=>rfl
  |some x=>exact absurd (h.r.sZ e) (Nat.lt_irrefl _)
 have hle:=Ren.kt (x:=(b,off,l)) hn;refine⟨⟨⟨?_,?_,?_,?_,?_⟩,h.v.mono hle,?_⟩,hle⟩
 .intro id ob b' o l' h1 h2;rw[AH.b8] at h1;by_cases e:id=S.next
  .subst e;rw[if_pos rfl] at h1;cases h1;rw[Ren.bI] at h2;cases h2;intro i v hv;obtain⟨x,q1,q2,q3⟩:=hc i v hv;exact⟨x,q1,q2.mono hle,q3⟩
  .rw[if_neg e] at h1;rw[Ren.aN _ _ e] at h2;exact(h.r.ji h1 h2).mono hle rfl
 .intro i j oi oj b' o l' o' UW h1 h2 h3 h4 h5;exfalso;have i_:∀id o,(S.new (.ro c)).get id=some o->oQ o=true:=λid o hg=>by
   rw[AH.b8] at hg;split at hg;.cases hg;rfl
   .exact h.ro id o hg
  rw[i_ i oi h1,i_ j oj h2] at h5;simp at h5
 .intro id x h1;by_cases e:id=S.next;.subst e;simp
  .rw[Ren.aN _ _ e] at h1;have:=h.r.sZ h1;simp;omega
 .intro id b' o l' h1;by_cases e:id=S.next
  .subst e;rw[Ren.bI] at h1;cases h1;exact hb
  .rw[Ren.aN _ _ e] at h1;exact h.r.ou h1
 .intro id ob hg;rw[AH.b8] at hg;split at hg;.next e=>subst e;simp
  .have:=h.r.wf hg;simp;omega
 .intro id o hg;rw[AH.b8] at hg;split at hg;.cases hg;rfl
  .exact h.ro id o hg
theorem Open.M9 {P W S ρ as xs}(h:Open P W S ρ as xs){ks v}
  (hv:v=.slice none 0 0\/∃(b off len cap:Nat) (C:Nat->List Value),v=.slice (some ⟨b,off,none⟩) len cap/\len<=cap/\cap<=maxLen/\b<W.heap.size/\
    ∀i,i<cap->aA ks (C i)=true/\(∀y∈C i,Cb y=true)/\∀(j:Nat) y,(C i)[j]?=some y->W.cell? ⟨b,off+i*ks.length+j,none⟩=some y):
  ∃(a:AV) (S':AH) (ba:Ren) (L:List (List Value)),Open P W S' ba (a::as) (v::xs)/\bj S S'/\lq S' a ks.length (L.map sI)/\L.length<=maxLen/\(∀vs∈L,aA ks vs=true/\∀y∈vs,Cb y=true)/\((a=Ns/\S'=S)\/∃c len cap,a=.sl S.next 0 len cap/\S'=S.new (.ro c)):=by
 rcases hv with rfl|⟨b,off,len,cap,C,rfl,hle,hm,hb,hC⟩;.exact⟨Ns,S,ρ,[],h.one (.sc rfl),bj.refl S,⟨.inl ⟨rfl,rfl⟩,by simp[ef]⟩,ac,ac,.inl ⟨rfl,rfl⟩⟩
 .let c:List AV:=((List.range cap).map λi=>sI (C i)).flatten
  have hlen:∀x∈(List.range cap).map (λi=>sI (C i)),x.length=ks.length:=by intro x hx;obtain⟨i,hi,rfl⟩:=List.mem_map.1 hx;have:=dT (hC i (List.mem_range.1 hi)).1;simp[sI,this]
  have dH:c.length=cap*ks.length:=by show(List.flatten _).length=_;rw[bw hlen,List.length_map,List.length_range]
  have lR:∀i,i<cap->((c.drop (i*ks.length)).take ks.length)=sI (C i):=λi hi=>ju hlen (by simp[hi]);obtain⟨h1,h2⟩:=h.lay (l:=cap*ks.length) hb (c:=c) (off:=off) λq v hq=>by
   have hql:q<c.length:=(List.getElem?_eq_some_iff.1 hq).1;have hkp:0<ks.length:=by
    rcases Nat.eq_zero_or_pos ks.length with e|e;.rw[dH,e] at hql;omega
    .exact e
   have hdm:=Nat.div_add_mod q ks.length;have W6:=Nat.mod_lt q hkp;have hi:q/ks.length<cap:=by rw[Nat.div_lt_iff_lt_mul hkp];omega
   have hg:=lR (q/ks.length) hi;have Fb:(sI (C (q/ks.length)))[q%ks.length]?=some v:=by rw[<-hg,List.getElem?_take,if_pos W6,List.getElem?_drop,<-hq];congr 1;rw[Nat.mul_comm];omega
   unfold sI at Fb;rw[List.getElem?_map] at Fb;obtain⟨x,hx,rfl⟩:=Option.map_eq_some_iff.1 Fb;obtain⟨q1,q2,q3⟩:=hC _ hi;refine⟨x,?_,GW q1 x (List.mem_of_getElem? hx)⟩;have:=q3 _ _ hx;rw[show off+q/ks.length*ks.length+q%ks.length=off+q by rw[Nat.mul_comm];omega] at this;exact this
  refine⟨.sl S.next 0 len cap,_,_,(List.range len).map C,h1.one (.sl (off:=0) (Ren.bI _ _ _)),bj.new S _,⟨.inr ⟨S.next,0,c,.inl ⟨cap,?_,?_,?_⟩,?_,?_,?_⟩,?_⟩,?_,?_,.inr ⟨c,len,cap,rfl,rfl⟩⟩;.simpa using hle
  .rw[dH];omega
  .simp
  .unfold AH.cells?;rw[bT];rfl
  .rw[List.drop_zero,List.length_map,List.length_map,List.length_range];have e1:(List.range cap).map (λi=>sI (C i))=((List.range len).map C).map sI++((List.range (cap-len)).map λj=>sI (C (len+j))):=by
    have:List.range cap=List.range len++(List.range (cap-len)).map (λj=>len+j):=by rw[<-List.range_add];congr 1;omega
    rw[this,List.map_append,List.map_map,List.map_map];rfl
   have Es:∀x∈((List.range len).map C).map sI,x.length=ks.length:=λx hx=>hlen x (by rw[e1];exact List.mem_append.2 (.inl hx));show List.take (len*ks.length) (List.flatten _)=_;rw[e1,List.flatten_append,List.take_append];have og:(((List.range len).map C).map sI).flatten.length=len*ks.length:=by rw[bw Es];simp
   rw[og,Nat.sub_self,List.take_zero,List.append_nil,List.take_of_length_le am]
  .intro x hx;obtain⟨vs,Ay,rfl⟩:=List.mem_map.1 hx;obtain⟨i,hi,rfl⟩:=List.mem_map.1 Ay;have:=dT (hC i (by have:=List.mem_range.1 hi;omega)).1;simp[sI,this]
  .intro id bR;simp only[ef,List.mem_singleton] at bR;subst bR;simp
  .simp;omega
  .intro vs Ay;obtain⟨i,hi,rfl⟩:=List.mem_map.1 Ay;have:=hC i (by have:=List.mem_range.1 hi;omega);exact⟨this.1,this.2.1⟩
theorem Open.slice {P W S ρ as xs}(h:Open P W S ρ as xs){ks v}
  (hv:v=.slice none 0 0\/∃(b off len cap:Nat) (C:Nat->List Value),v=.slice (some ⟨b,off,none⟩) len cap/\len<=cap/\cap<=maxLen/\b<W.heap.size/\
    ∀i,i<cap->aA ks (C i)=true/\(∀y∈C i,Cb y=true)/\∀(j:Nat) y,(C i)[j]?=some y->W.cell? ⟨b,off+i*ks.length+j,none⟩=some y):
  ∃(a:AV) (S':AH) (ba:Ren) (L:List (List Value)),Open P W S' ba (a::as) (v::xs)/\bj S S'/\lq S' a ks.length (L.map sI)/\L.length<=maxLen/\(∀vs∈L,aA ks vs=true/\∀y∈vs,Cb y=true):=by
 obtain⟨a,S',ba,L,h1,h2,h3,h4,h5,_⟩:=h.M9 hv;exact⟨a,S',ba,L,h1,h2,h3,h4,h5⟩
end
section
variable{M:dS}{S:AH}{f:FuncId}
def ja (P:Program)(t:TypeId):Bool:=match P.underlying t with
 |some (.struct _)=>true
 |_=>false
theorem vg {P t}(h:ja P t=true):∃fs,P.underlying t=some (.struct fs):=by
 unfold ja at h;split at h;.exact⟨_,ci⟩
 .cases h
theorem Az {ks}:∀{vs},aA ks vs=true->sY (sI vs)=some vs:=by
 induction ks with
 |nil=>intro vs h;cases vs with|nil=>rfl|cons _ _=>simp[aA] at h
 |cons k ks ih=>
  intro vs h;cases vs with
  |nil=>simp[aA] at h
  |cons v vs=>simp only[aA,Bool.and_eq_true] at h;have:=ih h.2;simp only[sI,List.map_cons,sY,tD] at this⊢;rw[show sY (List.map AV.sc vs)=some vs from this]
theorem rM {Q k t ks}{d:Nat}{vs}(hf:dV M.P d t=some ks)(hd:d<=10000)(hu:ja M.P t=true)(hg:M.P.eqGuardType M.P.depth t=false)(hk:aA ks vs=true)
  (h:wp M (k (B true)) S Q):wp M (.op (.eq t false (.agg (sI vs)) (.agg (sI vs))) k) S Q:=by
 obtain⟨fs,hu⟩:=vg hu;refine ah (Ri hf hd hu hg (Az hk) (Az hk) hk hk) ?_;simpa[xk hk] using h
end
def OLe {α:Type}(a b:Option α):Prop:=∀r,a=some r->b=some r
theorem OLe.rfl' {α:Type}{a:Option α}:OLe a a:=λ_ h=>h
section
variable{P:Program}{call aaa:AV->List AV->AH->Option (AV×AH)}{fuel aab:Nat}
end
section
variable[jJ]
end
section
variable[jJ]
open Go.ChangeShapes Go.WideShapes
def Di (P:Program)(t:TypeId):Bool:=match P.underlying t with
 |some (.int .i64)=>true
 |_=>false
theorem AA:∀{l},(∀v∈l,∃a,v=.int .i64 a/\IntKind.i64.has a)->∃ns:List Int,l=ns.map (Value.int .i64)/\∀a∈ns,IntKind.i64.has a
 |[],_=>⟨[],rfl,ac⟩
 |v::l,h=>by obtain⟨a,rfl,ha⟩:=h v ac;obtain⟨ns,rfl,Va⟩:=AA (l:=l) λw hw=>h w (List.mem_cons_of_mem _ hw);exact⟨a::ns,rfl,λb hb=>by rcases List.mem_cons.1 hb with rfl|hb;exact ha;exact Va _ hb⟩
theorem Ew {H:Type}{enc:TypeId×Value->H}{P:Program}{W:World}{base:Nat}{t u e:TypeId}{d m n:Nat}{ks:List (Option IntKind)}{v:Value}{x:DataW H}{p:List MemPlace}{fs:Array Field}{f:Field}{ts:List TypeId}
  (hu:P.underlying t=some (.struct fs)) (W7:P.cellTypes P.depth t=some ts) (hn:ts.length=n+1) (hint:((ts.take n).all (Di P))=true) (GY:P.cellsOf t=n+1)
  (Rq:ts[n]?=some u) (Fk:fs[m]?=some f) (rq:f.offset=n) (hft:f.type=u) (W8:P.cellsOf u=1) (Rt:P.underlying u=some (.slice e)) (hf:dV P d e=some ks) (hs:aU P e=some ks.length)
  (ig:Value.okWide P W .any base t v) (h:DataW.Trod enc P W 0 (λ_=>true) true t v x p):
  ∃(ns:List Int) (w:Value),v=.agg ((ns.map (Value.int .i64))++[w]).toArray/\ns.length=n/\(∀a∈ns,IntKind.i64.has a)/\w.oneCell'=true/\
   (w=.slice none 0 0\/∃(b off len cap:Nat) (C:Nat->List Value),w=.slice (some ⟨b,off,none⟩) len cap/\len<=cap/\cap<=maxLen/\b<W.heap.size/\
     ∀i,i<cap->aA ks (C i)=true/\(∀y∈C i,Cb y=true)/\∀(j:Nat) y,(C i)[j]?=some y->W.cell? ⟨b,off+i*ks.length+j,none⟩=some y):=by
 simp only[Value.okWide,hu] at ig;obtain⟨cs,rfl,dk,ts',Ru,_,GZ⟩:=ig;rw[W7] at Ru;cases Ru;rw[GY] at dk;obtain⟨fuel,hr⟩:=h;have hr:DataW.trod enc P W 0 (λ_=>true) true fuel t cs.toList=some (x,p):=hr;have dH:cs.toList.length=n+1:=by simpa using dk
 have W9:∀i (hi:i<n+1),∃u',ts[i]?=some u'/\Cell.okWide P W .any base u' (cs.toList[i]' am):=by intro i hi;obtain⟨u',h1,h2⟩:=GZ i (cs.toList[i]' am) (by rw[<-Array.getElem?_toList,List.getElem?_eq_getElem am]);rw[hn,Nat.mod_eq_of_lt hi] at h1;exact⟨u',h1,h2⟩
 obtain⟨ns,Va,eo⟩:=AA (l:=cs.toList.take n) λv hv=>by
  obtain⟨i,hi,rfl⟩:=List.mem_iff_getElem.1 hv;rw[List.length_take] at hi;rw[List.getElem_take];obtain⟨u',h1,h2⟩:=W9 i am;have h3:Di P u'=true:=by rw[List.all_eq_true] at hint;refine hint u' (List.mem_of_getElem? (i:=i) ?_);rw[List.getElem?_take,if_pos am,h1]
  unfold Di at h3;split at h3
  .next h4=>
   generalize(cs.toList[i]' am)=x at h2⊢;simp only[Cell.okWide,Cell.ok,h4] at h2;cases x<;>simp at h2
   obtain⟨rfl,ng⟩:=h2;exact⟨_,rfl,ng⟩
  .cases h3
 obtain⟨u',h1,Rv⟩:=W9 n am;rw[Rq] at h1;cases h1;have LJ:cs.toList.drop n=[cs.toList[n]' am]:=by rw[List.drop_eq_getElem_cons am,List.drop_of_length_le am]
 have jM:cs.toList=cs.toList.take n++[cs.toList[n]' am]:=by rw[<-LJ,List.take_append_drop]
 have hlen:ns.length=n:=by have:=congrArg List.length Va;rw[List.length_take,List.length_map] at this;omega
 obtain⟨xs,k,_,_,_,hxl,Bx⟩:=DataW.trod_struct hu hr;have h5:=Bx m f Fk;rw[rq,hft,W8,LJ] at h5;have hm:m<fs.size:=(Array.getElem?_eq_some_iff.1 Fk).1;rw[List.getElem?_eq_getElem am] at h5;have h6:DataW.trod enc P W 0 (λ_=>true) true k u [cs.toList[n]' am]=some (xs[m]' am):=h5;refine⟨ns,cs.toList[n]' am,?_,hlen,eo,?_⟩;.rw[<-Va,<-jM]
 .have hw:(cs.toList[n]' am=.slice none 0 0)\/∃a len cap,cs.toList[n]' am=.slice (some a) len cap:=by
   rcases DataW.trod_slice Rt h6 with⟨h7,_⟩|⟨a,len,cap,_,_,_,_,h7,_⟩;.exact .inl (by simpa using h7)
   .exact .inr ⟨a,len,cap,by simpa using h7⟩
  generalize cs.toList[n]' am=w at h6 Rv hw;have oT:w.cells.toList=[w]:=by
   rcases hw with rfl|⟨a,len,cap,rfl⟩<;>rfl
  have W_:w.oneCell'=true:=by
   rcases hw with rfl|⟨a,len,cap,rfl⟩<;>rfl
  have Xa:Value.okWide P W .any base u w:=by simp only[Value.okWide,Rt];exact Rv
  exact⟨W_,nQ Rt hf hs Xa ⟨k,by rw[oT];exact h6⟩⟩
theorem Open.Rp {P W S ρ a w as xs}(h:Open P W S ρ (a::as) (w::xs))(hw:w.oneCell'=true)(ns:List Int):
  Open P W S ρ (.agg (ns.map (λn=>AV.sc (.int .i64 n))++[a])::as) (.agg ((ns.map (Value.int .i64))++[w]).toArray::xs):=by
 obtain⟨h1,h2,h3⟩:=h;cases h2 with
 |cons ha hr=>
  refine⟨h1,.cons (.agg ?_ ?_) hr,h3⟩
  .induction ns with
   |nil=>exact .cons ha .nil
   |cons n ns ih=>exact .cons (.sc rfl) ih
  .intro v hv;rcases List.mem_append.1 hv with hv|hv;.obtain⟨n,_,rfl⟩:=List.mem_map.1 hv;rfl
   .rw[List.mem_singleton.1 hv];exact hw
end
section
variable[jJ]
open Go.ChangeShapes Go.WideShapes
def G0 (P:Program)(t u n m:Nat):Bool:=match P.underlying t,P.cellTypes P.depth t with
 |some (.struct fs),some ts=>decide (ts.length=n+1)&&(ts.take n).all (Di P)&&decide (ts[n]?=some u)&&(match fs[m]? with|some f=>decide (f.offset=n)&&decide (f.type=u)|none=>false)
 |_,_=>false
theorem Cd {H:Type}{enc:TypeId×Value->H}{P:Program}{W:World}{base:Nat}{t u e:TypeId}{d m n:Nat}{ks:List (Option IntKind)}{v:Value}{x:DataW H}{p:List MemPlace}
  (hb:G0 P t u n m=true) (GY:P.cellsOf t=n+1) (W8:P.cellsOf u=1) (Rt:P.underlying u=some (.slice e)) (hf:dV P d e=some ks) (hs:aU P e=some ks.length)
  (ig:Value.okWide P W .any base t v) (h:DataW.Trod enc P W 0 (λ_=>true) true t v x p):
  ∃(ns:List Int) (w:Value),v=.agg ((ns.map (Value.int .i64))++[w]).toArray/\ns.length=n/\(∀a∈ns,IntKind.i64.has a)/\w.oneCell'=true/\
   (w=.slice none 0 0\/∃(b off len cap:Nat) (C:Nat->List Value),w=.slice (some ⟨b,off,none⟩) len cap/\len<=cap/\cap<=maxLen/\b<W.heap.size/\
     ∀i,i<cap->aA ks (C i)=true/\(∀y∈C i,Cb y=true)/\∀(j:Nat) y,(C i)[j]?=some y->W.cell? ⟨b,off+i*ks.length+j,none⟩=some y):=by
 unfold G0 at hb;split at hb
 .next fs ts hu W7=>
  simp only[Bool.and_eq_true,decide_eq_true_eq] at hb;obtain⟨⟨⟨h1,h2⟩,h3⟩,h4⟩:=hb;split at h4
  .next f Fk=>simp only[Bool.and_eq_true,decide_eq_true_eq] at h4;exact Ew hu W7 h1 h2 GY h3 Fk h4.1 h4.2 W8 Rt hf hs ig h
  .cases h4
 .cases hb
theorem nR {n:Nat}{l:List Int}(h:l.length=n+1):∃a r,l=a::r/\r.length=n:=by
 cases l with
 |nil=>simp at h
 |cons a r=>exact⟨a,r,rfl,by simpa using h⟩
theorem M_ {l:List Int}(h:l.length=0):l=[]:=List.eq_nil_of_length_eq_zero h
end
end
end Go.cI
