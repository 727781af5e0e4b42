/- The abstract machine: calls do what the model does; a statement out of a run. No condition. -/
import Derived.Test.YtdfgboafnklioaaGreatAb
import Derived.ProofKit
import Derived.Below
import Derived.Deep.Slices
set_option linter.all false
set_option maxRecDepth 100000
set_option maxHeartbeats 4000000
namespace Go.cY
noncomputable section
section
variable[jo]
variable{P:Program}{ρ:a_}{F:Fr}{a:Act}{o:Oper}{S:AH}{w:World}
structure oF (P:Program)(call:gl):Prop where
 ok:∀{g fa fc args S v S' ρ w d},call (.fn (.func g) fa fc) args S=some (v,S')→eU P g=true→R P ρ S w→gn ρ (.fn (.func g) fa fc) args d→
  ∃cap ys,d.target=.fn (.func g) cap∧(invoke d.target d.args).run P w=.ok (.enter g ys) w∧∀u,u≠.run→CallsDIn Fence.wide 0 P g ys u w fun e u' w'=>u'=u∧bB P ρ S w v S' e w'
theorem rn {iu:a_}{S0:AH}{w0:World}:∀(ms:List Deferred) (w:World) (fr:Frame) (cs:List Frame),Marks w0.heap.size ρ S w ms→R P ρ S w→Ext iu S0 w0 ρ S w→fr.mode≠.run→fr.defers=ms→
  ∃w',R P ρ S w'∧Ext iu S0 w0 ρ S w'∧StepsIn (Machine.fenced P Fence.wide) P (lone fr cs w) (lone {fr with defers:=[]} cs w')
 |[],w,fr,cs,hm,hR,hE,BN,hd=>⟨w,hR,hE,by rw[←hd];exact .refl _⟩
 |m::ms,w,fr,cs,hm,hR,hE,BN,hd=>by
  obtain⟨r,h1,h2,h3,h4⟩:=hm.2 m (by simp)
  have Om:=List.pairwise_cons.1 hm.1
  have EG:Marks w0.heap.size ρ S (w.putObj r (.deferred none)) ms:=by
   refine⟨Om.2,fun m' EG=>?_⟩
   obtain⟨r',k1,k2,k3,k4⟩:=hm.2 m' (by simp[EG])
   refine⟨r',k1,k2,?_,k4⟩
   have fQ:r'≠r:=fun e=>Om.1 m' EG (by rw[h1,k1,e])
   rw[World.putObj_heap_other fQ];exact k3
  have hs:=step_collected (P:=P) (cs:=cs) BN hd (by rw[h1]) (run_takeDeferred h3)
  obtain⟨w',q1,q2,q3⟩:=rn ms _ {fr with defers:=[]++ms} cs EG (hR.shut h4 h3) (hE.shut h2) BN rfl
  refine⟨w',q1,q2,.head ?_ hs q3⟩
  exact fenced_out (n:=0) trivial (room_wide _) BN hd (fun g hg=>trivial)
def Aw (P:Program)(ρ:a_)(S:AH)(w:World)(fn:Func)(v:AV)(S':AH):Exit→Act→World→Prop:=fun e a' w'=>
 (e=.normal∨e=.ret)∧∃aU,R P aU S' w'∧Ext ρ S w aU S' w'∧Marks w.heap.size aU S' w' a'.defers∧
   ∀wT,R P aU S' wT→∃x,V aU v x∧(results fn a'.tmps).run P wT=.ok x wT
theorem uW {f:FuncId}{fn:Func}{c:Code}{ys:Array Value}{v:AV}{S':AH}(hf:P.funcs[f]?=some fn)(hb:fn.body=some c)
  (h:c.wpIn (FF none) 0 P (Aw P ρ S w fn v S') {tmps:=ys++Array.replicate (fn.ntmps-ys.size) undef,defers:=[]} w):CallsIn Fence.wide 0 P f ys w (bB P ρ S w v S'):=by
 refine callsIn_of_wp_marks (F:=FF none) hf hb trivial (wpIn_mono h fun e a1 w1 q=>?_)
 obtain⟨he,aU,h1,h2,h3,h4⟩:=q
 have key:LeavesInM (FF none) 0 P fn a1.tmps (bB P ρ S w v S') a1.defers .returning w1:=by
  have:=lz (P:=P) (fn:=fn) (tmps:=a1.tmps) (Rr:=bB P ρ S w v S') (rest:=[]) a1.defers w1 h3 h1 h2 (fun w' q1 q2 q3=>by
   obtain⟨x,g1,g2⟩:=h4 w' q1
   exact⟨x,g2,x,aU,rfl,g1,q1,q2⟩)
  rwa[List.append_nil] at this
 rcases he with rfl|rfl<;>exact key
theorem qE {f:FuncId}{fn:Func}{c:Code}{ys:Array Value}{v:AV}{S':AH}{u:FrameMode}(hf:P.funcs[f]?=some fn)(hb:fn.body=some c)
  (h:c.wpIn (FF none) 0 P (Aw P ρ S w fn v S') {tmps:=ys++Array.replicate (fn.ntmps-ys.size) undef,defers:=[]} w):
  CallsDIn Fence.wide 0 P f ys u w fun e u' w'=>u'=u∧bB P ρ S w v S' e w':=by
 refine⟨trivial,fun yE cs hu hr=>?_⟩
 let b:Frame:={(default:Frame) with fn:=f,kind:=.deferred,roundOf:=none}
 have Ky:Frame.enter P f ys .deferred=
   b.atR {tmps:=ys++Array.replicate (fn.ntmps-ys.size) undef,defers:=[]} [.code c]:=by
  simp[Frame.enter,Frame.atR,hf,hb,b]
 have hc:({yE with mode:=u}:Frame)=yE:=by subst hu;rfl
 obtain⟨e,a',w',hq,kJ⟩:=h b [] (yE::cs) rfl trivial hr
 rw[←Ky] at kJ
 obtain⟨he,aU,h1,h2,h3,h4⟩:=hq
 have key:∀fr:Frame,fr.mode=.returning→fr.defers=a'.defers→fr.tmps=a'.tmps→fr.fn=f→fr.kind=.deferred→StepsIn (Machine.fenced P Fence.wide) P (lone (Frame.enter P f ys .deferred) (yE::cs) w) (lone fr (yE::cs) w')→
   ∃e u' w' fr,(u'=u∧bB P ρ S w v S' e w')∧
    ComesIn (Machine.fenced P Fence.wide) P (lone (Frame.enter P f ys .deferred) (yE::cs) w) (lone fr ({yE with mode:=u'}::cs) w') e∧fr.kind=.deferred∧fr.fn=f∧fr.going P w' e:=by
  intro fr g1 g2 g3 g4 g5 hs
  obtain⟨w2,k1,k2,k3⟩:=rn a'.defers w' fr (yE::cs) h3 h1 h2 (by rw[g1];simp) g2
  obtain⟨x,l1,l2⟩:=h4 w2 k1
  refine⟨.returned x,u,w2,{fr with defers:=[]},⟨rfl,x,aU,rfl,l1,k1,k2⟩,?_,g5,g4,g1,rfl,fn,by rw[←hf];exact congrArg _ g4,by simp only[g3];exact l2⟩
  rw[hc];exact StepsIn.trans hs k3
 rcases he with rfl|rfl
 ·exact key {b.atR a' [] with mode:=.returning} rfl rfl rfl rfl rfl (StepsIn.trans kJ (.one (fenced_calm (n:=0) (fr:=b.atR a' []) trivial (room_wide _) rfl) (stepR_end rfl)))
 ·obtain⟨todo,hs⟩:=kJ.1 rfl
  exact key {b.atR a' todo with mode:=.returning} rfl rfl rfl rfl rfl hs
end
section
variable[jo]
variable{P:Program}{ρ:a_}{F:Fr}{a:Act}{o:Oper}{S:AH}{w:World}
theorem VL.oneOf {vs xs}(h:VL ρ vs xs):V ρ (cY.oneOf vs) (if h:xs.toArray.size=1 then xs.toArray[0] else .tuple xs.toArray):=by
 cases h with
 |nil=>exact .cP .nil
 |cons h1 h2=>
  cases h2 with
  |nil=>simpa[cY.oneOf] using h1
  |cons h3 h4=>simpa[cY.oneOf] using V.cP (.cons h1 (.cons h3 h4))
theorem rp (P:Program){call}{fuel:Nat}{S}:∀(rs:List ResultVar) (i:Nat) (pre vs acc:List AV),rs.all sJ=true→pre.length=i→vs.length=rs.length→
  run P call fuel (cQ P rs i (pre++vs) acc) S=some (.ret,acc++vs,S)
 |[],i,pre,vs,acc,_,hi,hl=>by
  have:vs=[]:=List.length_eq_zero_iff.1 (by simpa using hl)
  subst this
  simp[cQ,HA]
 |.tmp t::rs,i,pre,vs,acc,h,hi,hl=>by
  cases vs with
  |nil=>simp at hl
  |cons v vs=>
   have h':rs.all sJ=true:=by simp only[List.all_cons,Bool.and_eq_true] at h;exact h.2
   have:=@rp P call fuel S rs (i+1) (pre++[v]) vs (acc++[v]) h' (by simp[hi]) (by simpa using hl)
   simp only[cQ]
   have e:nth (pre++v::vs) i=v:=At (by rw[←hi];simp)
   rw[e]
   simpa using this
 |.cell _ _::rs,_,_,_,_,h,_,_=>by simp[sJ] at h
section
variable{call:gl}{fuel:Nat}
theorem kd (fn:Func){F1 jn S1 tmps t vs S'}(hF:FR jn F1 tmps)
  (h:run P call fuel (cQ P fn.results.toList 0 (F1.outs (fn.results.toList.map ResultVar.slot)) []) S1=some (t,vs,S')) {w1} (hR:R P jn S1 w1):
  t=.ret∧S'=S1∧∃x,V jn (oneOf vs) x∧(results fn tmps).run P w1=.ok x w1:=by
 obtain⟨news,xs,h1,h2,h3,h4,h5⟩:=xb hR fn.results.toList 0 [] t vs S' (fun j r hj=>by
  rw[Nat.zero_add,BG _ F1 j (ResultVar.slot r) (by simp[hj])];exact hF _) h
 refine⟨h1,h3,(if h:xs.toArray.size=1 then xs.toArray[0] else .tuple xs.toArray),?_,?_⟩
 ·rw[h2,List.nil_append];exact h4.oneOf
 ·rw[Au,Sem.run_bind,EH h5]
  simp only[Result.andThen_ok,Sem.run_pure]
theorem tj (ca:cM P call){fn:Func}{c:Code}{vars:List Nat}{vs:List AV}{S':AH}(hb:fn.body=some c)(hd:e_ c=false){args:List AV}{xs:List Value}(hx:VL ρ args xs)
  (h:run P call fuel (fy P fn vars args) S=some (.ret,vs,S')) (hR:R P ρ S w) (hlen:xs.length≤fn.ntmps∨True):
  c.wpIn (FF none) 0 P (Aw P ρ S w fn (oneOf vs) S') {tmps:=xs.toArray++Array.replicate (fn.ntmps-xs.toArray.size) undef,defers:=[]} w:=by
 unfold fy at h
 rw[hb] at h
 simp only at h
 cases bz:fits fn.ntmps c with
 |false=>rw[bz] at h;cases h
 |true=>
  rw[bz,hd] at h
  simp only[Bool.not_true,Bool.false_eq_true,if_false] at h
  have TA:FR ρ (Fr.eX .e (List.range (fn.params.size+fn.nfree)) 0 args) (xs.toArray++Array.replicate (fn.ntmps-xs.toArray.size) undef):=FR.args _ _ hx
  have EN:fits (xs.toArray++Array.replicate (fn.ntmps-xs.toArray.size) undef).size c=true:=vS (by simp;omega) bz
  have key:∃kK,run P call fuel (den P vars false none c (Fr.eX .e (List.range (fn.params.size+fn.nfree)) 0 args) (fn.results.toList.map ResultVar.slot) fun F=>.ret .ret (F.outs (fn.results.toList.map ResultVar.slot))) S=some kK∧
    ∀Nc S0,(kK=(.ret,Nc,S0))→(∃F1:Fr,Nc=F1.outs (fn.results.toList.map ResultVar.slot))→run P call fuel (cQ P fn.results.toList 0 Nc []) S0=some (.ret,vs,S'):=by
   cases js:fn.results.toList.all sJ with
   |true=>
    rw[js] at h
    simp only[if_true] at h
    refine⟨_,h,fun Nc S0 e ⟨F1,e1⟩=>?_⟩
    cases e
    have:=rp P (S:=S') (call:=call) (fuel:=fuel) fn.results.toList 0 [] vs [] js rfl (by rw[e1];simp[Fr.outs])
    simpa using this
   |false=>
    rw[js] at h
    simp only[Bool.false_eq_true,if_false] at h
    rw[sq] at h
    unfold qw at h
    cases hm:run P call fuel (den P vars false none c (Fr.eX .e (List.range (fn.params.size+fn.nfree)) 0 args) (fn.results.toList.map ResultVar.slot) fun F=>.ret .ret (F.outs (fn.results.toList.map ResultVar.slot))) S with
    |none=>rw[hm] at h;cases h
    |some kK=>
     refine⟨kK,rfl,fun Nc S0 e _=>?_⟩
     subst e
     rw[hm] at h
     exact h
  obtain⟨kK,k1,k2⟩:=key
  refine wpIn_mono (qD ca c false none _ _ _ S kK ρ _ w none (fun _=>rfl) k1 hR TA EN) fun e a1 w1 q=>?_
  obtain⟨jn,S1,F1,ms,h1,h2,h3,h4,h5,h6,h7⟩:=q
  have Ax:a1.defers=ms:=by rw[h5];simp
  have fin:kK=(.ret,F1.outs (fn.results.toList.map ResultVar.slot),S1)→∃aU,R P aU S' w1∧Ext ρ S w aU S' w1∧Marks w.heap.size aU S' w1 a1.defers∧∀wT,R P aU S' wT→∃x,V aU (oneOf vs) x∧(results fn a1.tmps).run P wT=.ok x wT:=by
   intro e0
   have hl:=k2 _ _ e0 ⟨F1,rfl⟩
   obtain⟨_,rfl,_⟩:=kd fn h2 hl h1
   refine⟨jn,h1,h3,by rw[Ax];exact h6,fun wT TB=>?_⟩
   exact(kd fn h2 hl TB).2.2
  cases e with
  |normal=>exact⟨.inl rfl,fin (Option.some.inj h7).symm⟩
  |ret=>exact⟨.inr rfl,fin h7⟩
  |exit id=>
   exfalso
   have e0:kK=(.exit (3*id),F1.outs (fn.results.toList.map ResultVar.slot),S1):=h7
   subst e0
   cases js:fn.results.toList.all sJ with
   |true=>
    rw[js] at h
    simp only[if_true] at h
    rw[k1] at h;cases h
   |false=>
    rw[js] at h
    simp only[Bool.false_eq_true,if_false] at h
    rw[sq] at h
    unfold qw at h
    rw[k1] at h
    cases h
  |goto l=>exact(by cases h7.1)
  |panic ch=>exact h7.elim
  |outgrown=>exact h7.elim
end
end
section
variable[jo]
variable{P:Program}{ρ:a_}{F:Fr}{a:Act}{o:Oper}{S:AH}{w:World}
section
variable{call:gl}{fuel:Nat}{gt:Option Nat}
theorem gn.mono {aU}(hl:ρ.le aU){f args d}(h:gn ρ f args d):gn aU f args d:=by
 rcases h with⟨fn,fa,fc,a',c',xs,e,h1,h2,h3,h4,h5⟩|⟨id,b,o,l,xs,e,h1,h2,h3,h4⟩|⟨m,xs,e,h1,h2,h3⟩
 ·exact .inl ⟨fn,fa,fc,a',c',xs,e,h1.mono hl,h2.mono hl,h3.mono hl,h4,h5⟩
 ·exact .inr (.inl ⟨id,b,o,l,xs,e,hl _ _ h1,h2.mono hl,h3,h4⟩)
 ·exact .inr (.inr ⟨m,xs,e,h1.mono hl,h2,h3⟩)
theorem bB.Kz {jn S1 w1 v S'}(hE:Ext ρ S w jn S1 w1){e w'}(h:bB P jn S1 w1 v S' e w'):bB P ρ S w v S' e w':=by
 obtain⟨x,aU,e,h1,h2,h3⟩:=h
 exact⟨x,aU,e,h1,h2,hE.trans h3⟩
theorem mO (ca:cM P call){vars}{round:Bool}{ro}:∀(c:Code) (F:Fr) (K:Fr→AC) (S:AH) (res:Tag×List AV×AH) (ρ:a_) (a:Act) (w:World) (Q:Exit→Act→World→Prop),dE c=true→
  run P call fuel (den P vars round gt c F [] K) S=some res→R P ρ S w→FR ρ F a.tmps→fits a.tmps.size c=true→
  (∀aU S' F' a' w',run P call fuel (K F') S'=some res→R P aU S' w'→FR aU F' a'.tmps→Ext ρ S w aU S' w'→a'.tmps.size=a.tmps.size→a'.defers=a.defers→Q .normal a' w')→
  c.wpIn (FF ro) 0 P Q a w:=by
 intro c
 induction c with
 |skip=>intro F K S res ρ a w Q hs h hR hF bz hQ;exact wpIn_skip (hQ ρ S F a w h hR hF (Ext.refl _ _ _) rfl rfl)
 |label l=>intro F K S res ρ a w Q hs h hR hF bz hQ;exact wpIn_label (hQ ρ S F a w h hR hF (Ext.refl _ _ _) rfl rfl)
 |region id ops draw=>
  intro F K S res ρ a w Q hs h hR hF bz hQ
  have rT:=tc bz
  have pz:∀aU S' F' a' w',run P call fuel (K F') S'=some res→R P aU S' w'→FR aU F' a'.tmps→Ext ρ S w aU S' w'→cN (gf (.region id ops draw) []) a a'→a'.defers=a.defers→Q .normal a' w':=
   fun aU S' F' a' w' k1 k2 k3 k4 k5 k6=>hQ aU S' F' a' w' k1 k2 k3 k4 k5.size k6
  simp only[den] at h
  cases hp:oq P ops draw with
  |none=>rw[hp] at h;cases h
  |some p=>
   rw[hp] at h
   simp only at h
   cases draw with
   |true=>exact ta ca hp h hR hF rT pz
   |false=>
    unfold oq at hp
    simp only[Bool.false_eq_true,if_false] at hp
    cases hp
    exact wpIn_region (oC ca (fun i o d h1 h2=>(rT i o d h1 h2).2) _ F [] a w ρ S h hR hF (fun i o d h1 h2=>(rT i o d h1 h2).1) pz)
 |seq x y xa uV=>
  intro F K S res ρ a w Q hs h hR hF bz hQ
  simp only[dE,Bool.and_eq_true] at hs
  simp only[den] at h
  simp only[fits,Bool.and_eq_true] at bz
  refine wpIn_seq (xa F _ S res ρ a w _ hs.1 h hR hF bz.1 fun jn S1 F1 a1 w1 k1 k2 k3 k4 k5 k6=>?_)
  exact uV F1 K S1 res jn a1 w1 Q hs.2 k1 k2 k3 (by rw[k5];exact bz.2) fun yy S2 F2 a2 w2 l1 l2 l3 l4 l5 l6=>hQ yy S2 F2 a2 w2 l1 l2 l3 (k4.trans l4) (l5.trans k5) (l6.trans k6)
 |_=>intro F K S res ρ a w Q hs;simp[dE] at hs
theorem tn {ops c}(h:kC ops=some c):∃o,ops[ops.size-1]?=some o∧o.guard=none∧o.dst=none∧o.op=.defer c∧List.range ops.size=List.range (ops.size-1)++[ops.size-1]:=by
 unfold kC at h
 cases hb:ops.back? with
 |none=>rw[hb] at h;cases h
 |some o=>
  rw[hb] at h
  simp only at h
  rw[Array.back?_eq_getElem?] at hb
  have dN:=(Array.getElem?_eq_some_iff.1 hb).1
  cases hg:o.guard with
  |some _=>rw[hg] at h;cases h
  |none=>
   cases hd:o.dst with
   |some _=>rw[hg,hd] at h;cases h
   |none=>
    rw[hg,hd] at h
    simp only at h
    cases ho:o.op with
    |defer c'=>
     rw[ho] at h
     cases h
     refine⟨o,hb,hg,hd,ho,?_⟩
     rw[←List.range_succ]
     congr 1
     omega
    |_=>rw[ho] at h;cases h
theorem ec {ops:Array Oper}{Q:Exit→Act→World→Prop}{j:Nat}{c:Call}{o:Oper}(ho:ops[j]?=some o)(hg:o.guard=none)(uL:o.op=.defer c):∀(l:List Nat) (a:Act) (w:World),
  wpOpsIn (FF none) 0 P ops (fun e a' w'=>e=.normal∧∃d,(resolve a'.eval c o.type).run P w'=.ok d w'∧Q .normal ({a' with defers:=d::a'.defers}.put o.dst undef) w') l a w→wpOpsIn (FF none) 0 P ops Q (l++[j]) a w
 |[],a,w,h=>by
  obtain⟨_,d,h1,h2⟩:=h
  show wpOpsIn (FF none) 0 P ops Q [j] a w
  simp only[wpOpsIn,ho,Region.wanted,hg,if_true]
  refine⟨fun _ _=>trivial,?_⟩
  have hs:o.semAt (FF none).round a.eval=execOp a.eval o:=rfl
  have hex:execOp a.eval o=(do pure (.defer (←resolve a.eval c o.type))):=by simp[execOp,uL]
  rw[hs,hex,Sem.run_bind,h1,Result.andThen_ok,Sem.run_pure]
  exact h2
 |i::l,a,w,h=>by
  show wpOpsIn (FF none) 0 P ops Q (i::(l++[j])) a w
  simp only[wpOpsIn] at h⊢
  cases hi:ops[i]? with
  |none=>rw[hi] at h;exact ec ho hg uL l a w h
  |some oi=>
   rw[hi] at h
   simp only at h⊢
   split
   ·rename_i hw
    rw[if_pos hw] at h
    refine⟨h.1,?_⟩
    have h2:=h.2
    clear h
    generalize(oi.semAt (FF none).round a.eval).run P w=r at h2⊢
    cases r with
    |ok nx w'=>
     cases nx with
     |value v=>exact ec ho hg uL l _ _ h2
     |skip=>exact ec ho hg uL l _ _ h2
     |defer d=>exact ec ho hg uL l _ _ h2
     |enter f args=>
      refine⟨h2.1,CallsIn.mono h2.2 fun e wT q=>?_⟩
      cases e with
      |returned v=>exact ec ho hg uL l _ _ q
      |panicked ch=>exact absurd q.1 (by simp)
      |outgrown=>obtain⟨_,_,q⟩:=q;exact absurd q.1 (by simp)
     |row r args=>exact⟨h2.1,RowsIn.mono h2.2 fun v wT q=>ec ho hg uL l _ _ q⟩
     |round l' f tmps uS body=>
      refine⟨h2.1,RoundIn.mono h2.2 fun e wT q=>?_⟩
      cases e with
      |returned v=>exact ec ho hg uL l _ _ q
      |panicked ch=>exact absurd q.1 (by simp)
      |outgrown=>obtain⟨_,_,q⟩:=q;exact absurd q.1 (by simp)
     |_=>exact h2.elim
    |halt x w'=>
     cases x with
     |panic v=>exact absurd h2.1 (by simp)
     |_=>exact h2.elim
   ·rename_i hw
    rw[if_neg hw] at h
    exact⟨h.1,ec ho hg uL l _ _ h.2⟩
end
end
section
variable[jo]
variable{P:Program}{ρ:a_}{F:Fr}{a:Act}{o:Oper}{S:AH}{w:World}
section
variable{call:gl}{fuel:Nat}
def BO (P:Program)(vars:List Nat)(rs:List ResultVar)(out:List Nat)(b:Code)(c:Call)(F1:Fr):AC:=
 match c.callee with
 |.value f=>match F1.ev f with
  |.fn (.func g) fa fc=>
   if eU P g then .fin (den P vars false none b F1 out fun F=>.ret .ret (F.outs out)) fun vs=>
    .call (.fn (.func g) fa fc) (c.args.toList.map F1.ev) fun _=>cQ P rs 0 vs []
   else .fail
  |_=>.fail
 |_=>.fail
theorem CT {vars rs out x b F ops c}(h:gW x=some (ops,c)):
  nK P vars rs out (.seq x b) F=aw P ops ((List.range (ops.size-1)).map .exec) F [] (BO P vars rs out b c):=by
 simp only[nK,h];rfl
theorem CU {vars rs out x b F}(h:gW x=none):
  nK P vars rs out (.seq x b) F=if dE x then den P vars false none x F [] fun F1=>nK P vars rs out b F1 else .fail:=by
 simp only[nK,h]
theorem dR {Fe}{n:Nat}{fn tmps R R'}(hm:∀e w,R e w→R' e w):∀(ds:List Deferred) (u:FrameMode) (w:World),LeavesInM Fe n P fn tmps R ds u w→LeavesInM Fe n P fn tmps R' ds u w
 |[],.returning,w,h=>let⟨v,h1,h2⟩:=h;⟨v,h1,hm _ _ h2⟩
 |[],.panicking ch,w,h=>hm _ _ h
 |[],.run,w,h=>h
 |d::ds,u,w,h=>by
  refine⟨h.1,?_⟩
  rcases h.2 with⟨r,w',h1,h2,h3⟩|⟨h1,fv,cap,f,args,h2,h3,h4,h5⟩
  ·exact .inl ⟨r,w',h1,h2,dR hm ds u w' h3⟩
  ·refine .inr ⟨h1,fv,cap,f,args,h2,h3,h4,CallsDIn.mono h5 fun e u' w' q=>?_⟩
   cases e with
   |returned v=>exact dR hm ds _ w' q
   |panicked ch=>exact dR hm ds _ w' q
   |outgrown=>exact hm _ _ q
theorem tp {Fe}{n:Nat}{fn R R'}(hm:∀e w,R e w→R' e w){e a w}(h:bodyPostM Fe n P fn R e a w):bodyPostM Fe n P fn R' e a w:=by
 cases e with
 |normal=>exact dR hm _ _ _ h
 |ret=>exact dR hm _ _ _ h
 |panic ch=>exact dR hm _ _ _ h
 |outgrown=>exact hm _ _ h
 |exit i=>exact h
 |goto l=>exact h
theorem Ay (ca:cM P call)(Ax:oF P call){vars fn vs S'}:∀(c:Code) (F:Fr) (S:AH) (ρ:a_) (a:Act) (w:World),
  run P call fuel (nK P vars fn.results.toList (fn.results.toList.map ResultVar.slot) c F) S=some (.ret,vs,S')→R P ρ S w→FR ρ F a.tmps→fits a.tmps.size c=true→a.defers=[]→
  c.wpIn (FF none) 0 P (bodyPostM (FF none) 0 P fn (bB P ρ S w (oneOf vs) S')) a w:=by
 intro c
 induction c with
 |seq x b xa RI=>
  intro F S ρ a w h hR hF bz Em
  simp only[fits,Bool.and_eq_true] at bz
  cases BD:gW x with
  |none=>
   rw[CU BD] at h
   cases hs:dE x with
   |false=>rw[hs] at h;cases h
   |true=>
    rw[hs] at h
    simp only[if_true] at h
    refine wpIn_seq (mO ca x F _ S _ ρ a w _ hs h hR hF bz.1 fun jn S1 F1 a1 w1 k1 k2 k3 k4 k5 k6=>?_)
    refine wpIn_mono (RI F1 S1 jn a1 w1 k1 k2 k3 (by rw[k5];exact bz.2) (by rw[k6,Em])) fun e a2 w2 q=>?_
    have hm:∀(e:Ending) w',bB P jn S1 w1 (oneOf vs) S' e w'→bB P ρ S w (oneOf vs) S' e w':=fun e w' q=>q.Kz k4
    exact tp hm q
  |some q=>
   obtain⟨ops,c⟩:=q
   rw[CT BD] at h
   cases x with
   |region id KA dr=>
    cases dr with
    |true=>simp[gW] at BD
    |false=>
     have TC:KA=ops∧kC ops=some c:=by
      simp only[gW] at BD
      cases hl:kC KA with
      |none=>rw[hl] at BD;cases BD
      |some c'=>rw[hl] at BD;cases BD;exact⟨rfl,hl⟩
     obtain⟨rfl,TC⟩:=TC
     obtain⟨o,ho,hg,TD,uL,KB⟩:=tn TC
     have rT:=tc bz.1
     refine wpIn_seq (wpIn_region ?_)
     rw[KB]
     refine ec ho hg uL _ a w ?_
     refine oC ca (W:=gf (.region id KA false) []) (fun i o d h1 h2=>(rT i o d h1 h2).2) _ F [] a w ρ S h hR hF (fun i o d h1 h2=>(rT i o d h1 h2).1) fun jn S1 F1 a1 w1 k1 k2 k3 k4 k5 k6=>?_
     refine⟨rfl,?_⟩
     unfold BO at k1
     cases bt:c.callee with
     |value f=>
      rw[bt] at k1
      simp only at k1
      have Yo:=an k3 f
      cases yF:F1.ev f with
      |fn g fa fc=>
       rw[yF] at k1
       cases g with
       |func g=>
        simp only at k1
        cases qX:eU P g with
        |false=>rw[qX] at k1;cases k1
        |true=>
         rw[qX] at k1
         simp only[if_true] at k1
         obtain⟨d,qz,mf⟩:=jZ (P:=P) (c:=c) (f:=.fn (.func g) fa fc) rfl bt (yF▸Yo) (iS k3 c.args.toList) o.type
         refine⟨d,qz w1,?_⟩
         rw[sq] at k1
         unfold qw at k1
         cases hm:run P call fuel (den P vars false none b F1 (fn.results.toList.map ResultVar.slot) fun F=>.ret .ret (F.outs (fn.results.toList.map ResultVar.slot))) S1 with
         |none=>rw[hm] at k1;cases k1
         |some kK=>
          rw[hm] at k1
          have Yp:FR jn F1 (({a1 with defers:=d::a1.defers}:Act).put o.dst undef).tmps:=by rw[TD];exact k3
          have da:(({a1 with defers:=d::a1.defers}:Act).put o.dst undef).tmps.size=a.tmps.size:=by rw[sT];exact k5.size
          show Code.wpIn (FF none) 0 P b _ _ w1
          refine wpIn_mono (qD ca b false none F1 _ _ S1 kK jn _ w1 none (fun _=>rfl) hm k2 Yp (by rw[da];exact bz.2)) fun e a2 w2 q=>?_
          obtain⟨yy,S2,F2,ms,h1,h2,h3,h4,h5,h6,h7⟩:=q
          have Yq:a2.defers=ms++[d]:=by rw[h5,put_defers];simp[k6,Em]
          have fin:kK=(.ret,F2.outs (fn.results.toList.map ResultVar.slot),S2)→LeavesInM (FF none) 0 P fn a2.tmps (bB P ρ S w (oneOf vs) S') a2.defers .returning w2:=by
           intro e0
           subst e0
           simp only at k1
           rw[mK] at k1
           obtain⟨v,S3,g1,g2⟩:=fR k1
           rw[Yq]
           refine lz (iu:=jn) (S0:=S1) (w0:=w1) ms w2 h6 h1 h3 fun w3 j1 j2 j3=>?_
           obtain⟨cap,ys,l1,l2,l3⟩:=Ax.ok g1 qX j1 (mf.mono h3.uJ)
           refine⟨by simp,.inr ⟨fun h=>by simp[FF] at h,.func g,cap,g,ys,l1,l2,fun _ _=>trivial,?_⟩⟩
           refine CallsDIn.mono (l3 .returning (by simp)) fun e u' w4 hq=>?_
           obtain⟨rfl,x,EE,rfl,m1,m2,m3⟩:=hq
           have Yr:FR EE F2 a2.tmps:=h2.mono m3.uJ
           obtain⟨_,hS,y,n1,n2⟩:=kd fn Yr g2 m2
           subst hS
           show LeavesInM (FF none) 0 P fn a2.tmps _ [] (settle .returning) w4
           exact⟨y,n2,y,EE,rfl,n1,m2,k4.trans (j2.trans m3)⟩
          cases e with
          |normal=>exact fin (Option.some.inj h7).symm
          |ret=>exact fin h7
          |exit i=>
           have e0:kK=(.exit (3*i),F2.outs (fn.results.toList.map ResultVar.slot),S2):=h7
           subst e0
           cases k1
          |goto l=>exact(by cases h7.1)
          |panic ch=>exact h7.elim
          |outgrown=>exact h7.elim
       |_=>cases k1
      |_=>rw[yF] at k1;cases k1
     |_=>rw[bt] at k1;cases k1
   |_=>simp[gW] at BD
 |_=>intro F S ρ a w h;simp only[nK] at h;cases h
end
end
section
variable[jo]
variable{P:Program}{ρ:a_}{F:Fr}{a:Act}{o:Oper}{S:AH}{w:World}
def yG (P:Program)(iP:Table):Prop:=∀f b,iP f=some b→∃fn vars,P.funcs[f]?=some fn∧(fn.name== "runtime.NumGoroutine")=false∧b=fy P fn vars
theorem tq {call}{fuel:Nat}{fn vars args r}(h:run P call fuel (fy P fn vars args) S=some r):∃c,fn.body=some c∧fits fn.ntmps c=true:=by
 unfold fy at h
 cases hb:fn.body with
 |none=>rw[hb] at h;cases h
 |some c=>
  rw[hb] at h
  simp only at h
  cases hf:fits fn.ntmps c with
  |true=>exact⟨c,rfl,hf⟩
  |false=>rw[hf] at h;cases h
theorem lE {g fn c args}(hf:P.funcs[g]?=some fn)(hn:(fn.name== "runtime.NumGoroutine")=false)(hb:fn.body=some c):
  (callFunc g args).run P w=.ok (.enter g args) w:=by
 have gX:¬fn.name= "runtime.NumGoroutine":=by simpa using hn
 simp[callFunc,Sem.run_bind,program,Sem.run,hf,Result.andThen,gX,hb]
theorem yH {call}{fuel:Nat}(ca:cM P call)(Ax:oF P call){g fn vars args vs xs S'}(hf:P.funcs[g]?=some fn)
  (hx:VL ρ args xs) (h:run P call fuel (fy P fn vars args) S=some (.ret,vs,S')) (hR:R P ρ S w):CallsIn Fence.wide 0 P g xs.toArray w (bB P ρ S w (oneOf vs) S'):=by
 obtain⟨c,hb,bz⟩:=tq h
 cases hd:e_ c with
 |false=>exact uW hf hb (tj ca hb hd hx h hR (.inr trivial))
 |true=>
  have TA:FR ρ (Fr.eX .e (List.range (fn.params.size+fn.nfree)) 0 args) (xs.toArray++Array.replicate (fn.ntmps-xs.toArray.size) undef):=FR.args _ _ hx
  have EN:fits (xs.toArray++Array.replicate (fn.ntmps-xs.toArray.size) undef).size c=true:=vS (by simp;omega) bz
  unfold fy at h
  rw[hb] at h
  simp only[bz,hd,Bool.not_true,Bool.false_eq_true,if_false,if_true] at h
  exact callsIn_of_wp_marks (F:=FF none) hf hb trivial (Ay ca Ax c _ S ρ {tmps:=xs.toArray++Array.replicate (fn.ntmps-xs.toArray.size) undef,defers:=[]} w h hR TA EN rfl)
theorem FR.fold {n:Nat}:∀(ps:List Nat) (xs:List Value) (F:Fr) (tmps:Array Value) (i:Nat) (vs:List AV),FR ρ F tmps→ps.length=xs.length→(∀p∈ps,p<tmps.size)→(∀j,V ρ (nth vs (i+j)) (xs.getD j undef))→
  FR ρ (F.eX ps i vs) ((ps.zip xs).foldl (fun t (p:Nat×Value)=>t.setIfInBounds p.1 p.2) tmps)∧((ps.zip xs).foldl (fun t (p:Nat×Value)=>t.setIfInBounds p.1 p.2) tmps).size=tmps.size
 |[],xs,F,tmps,i,vs,hF,hl,hp,hv=>⟨hF,rfl⟩
 |p::ps,[],F,tmps,i,vs,hF,hl,hp,hv=>by simp at hl
 |p::ps,x::xs,F,tmps,i,vs,hF,hl,hp,hv=>by
  simp only[List.zip_cons_cons,List.foldl_cons,Fr.eX]
  have h1:FR ρ (T.set F p (nth vs i)) (tmps.setIfInBounds p x):=by
   have:=FR.put (a:={tmps:=tmps,defers:=[]}) hF (d:=some p) (v:=nth vs i) (x:=x) (hv 0) (fun e he=>by cases he;exact hp p (by simp))
   exact this
  obtain⟨q1,q2⟩:=FR.fold (n:=n) ps xs _ (tmps.setIfInBounds p x) (i+1) vs h1 (by simpa using hl) (fun q hq=>by rw[Array.size_setIfInBounds];exact hp q (by simp[hq])) (fun j=>by
   have:=hv (j+1)
   simpa[show i+(j+1)=i+1+j by omega] using this)
  exact⟨q1,by rw[q2,Array.size_setIfInBounds]⟩
theorem yI {call}{fuel:Nat}(ca:cM P call){l:Nat}{de}{m:Nat}{body args xs}{b o len:Nat}{t vs S' v S2}
  (hR:R P ρ S w) (hl:ρ l=some (b,o,len)) (hg:S.get l=some (.loop .ready de m body)) (hx:VL ρ args xs) (hlen:args.length=m)
  (h:run P call fuel (body (.yd l::args)) S=some (t,vs,S')) {p2} {m2:Nat} {b2} (CV:S'.get l=some (.loop .busy p2 m2 b2))
  (hv:(t=.normal∧v=.sc (.bool true)∧S2=S'.set l (.loop .ready none m2 b2))∨(t≠.normal∧v=.sc (.bool false)∧S2=S'.set l (.loop .done (some t) m2 b2))):
  ∃g tmps uS bd,(Instr.yield b xs.toArray).run P w=.ok (.round b g tmps uS bd) w∧RoundIn Fence.wide 0 P b g tmps uS bd w (bB P ρ S w v S2):=by
 obtain⟨r,g1,g2,g3,g4,F0,vars,l1,l2,l3,l4,l5,l6⟩:=hR.gH hg hl
 have Oi:xs.length=r.params.size:=by rw[g4,←hlen];exact hx.length.symm
 refine⟨r.fn,_,r.assign,r.body,run_yield g1 (by simpa using Oi),?_⟩
 have Ov:(r.params.zip xs.toArray).foldl (fun tmps (x:Tmp×Value)=>tmps.setIfInBounds x.1 x.2) r.tmps=(r.params.toList.zip xs).foldl (fun t (p:Nat×Value)=>t.setIfInBounds p.1 p.2) r.tmps:=by
  rw[←Array.foldl_toList,Array.toList_zip]
 have KC:(r.params.zip xs.toArray).foldl (fun tmps (x:Tmp×Value)=>match x with|(t,a)=>tmps.setIfInBounds t a) r.tmps=(r.params.toList.zip xs).foldl (fun t (p:Nat×Value)=>t.setIfInBounds p.1 p.2) r.tmps:=Ov
 have EF:=FR.fold (n:=0) r.params.toList xs F0 r.tmps 1 (.yd l::args) l1 (by simpa using Oi.symm) l5 (fun j=>by
  rw[Nat.add_comm];exact hx.Ty j)
 rw[l6] at h
 rw[KC]
 generalize(r.params.toList.zip xs).foldl (fun t (p:Nat×Value)=>t.setIfInBounds p.1 p.2) r.tmps=tm at EF⊢
 obtain⟨EF,da⟩:=EF
 refine roundIn_of_wpIn (F:=Fence.wide) trivial ?_
 show Code.wpIn (FF (some b)) 0 P r.assign _ _ w
 refine mO (ro:=some b) ca r.assign _ _ S _ ρ {tmps:=tm,defers:=[]} w _ l2 h hR EF (by simp only[da];exact l3) fun jn S1 F1 a1 w1 k1 k2 k3 k4 k5 k6=>?_
 have G3:=k4.uJ _ _ hl
 rw[vQ] at k1
 unfold pc at k1
 have N8:nth (AV.yd l::args) 0=.yd l:=rfl
 rw[N8] at k1
 simp only at k1
 cases RL:S1.get l with
 |none=>rw[RL] at k1;cases k1
 |some ob=>
  rw[RL] at k1
  cases ob with
  |loop st pd n1 Ys=>
   cases st with
   |ready=>
    simp only at k1
    obtain⟨r1,m1,Yt,m3,m4,m5⟩:=k2.gH RL G3
    refine⟨w1.putObj b (.loop {r1 with state:=.busy}),run_beginRound m1 Yt,?_⟩
    have dN:=(Array.getElem?_eq_some_iff.1 m1).1
    obtain⟨Yu,DI⟩:=k2.set (w':=w1.putObj b (.loop {r1 with state:=.busy})) RL rfl G3 ⟨rfl,rfl,rfl⟩ World.putObj_size (fun k hk=>World.putObj_heap_other hk)
     (rP:=.loop .busy pd n1 Ys) ⟨{r1 with state:=.busy},World.putObj_heap_same dN,rfl,m3,m4,m5⟩ rfl
    show Code.wpIn (FF (some b)) 0 P r.body _ a1 _
    refine wpIn_mono (qD ca r.body true none F1 [] _ _ _ jn a1 _ (some b) (fun e=>by cases e) k1 Yu k3 (by simp only[k5,da];exact l4)) fun e a3 w3 q=>?_
    obtain⟨EE,S3,F3,ms,TE,n2,n3,n4,n5,n6,n7⟩:=q
    have TF:Ext ρ S w EE S3 w3:=k4.trans (DI.trans n3)
    have TG:=TF.uJ _ _ hl
    have fin:(t,vs,S')=(t,vs,S3)→∀jump,(t=.normal∧jump=none∨t≠.normal∧∃j,jump=some j∧Ja (some t) (some j))→∃v' w',(Instr.endRound b jump).run P w3=.ok v' w'∧bB P ρ S w v S2 (.returned v') w':=by
     intro e0 jump hj
     have e1:S'=S3:=by injection e0 with _ e0;injection e0
     rw[e1] at CV hv
     obtain⟨r3,p1,p2',p3,p4,p5⟩:=TE.gH CV TG
     have Ow:=(Array.getElem?_eq_some_iff.1 p1).1
     refine⟨_,_,run_endRound jump p1,?_⟩
     rcases hv with⟨ht,rfl,rfl⟩|⟨ht,rfl,rfl⟩
     ·rcases hj with⟨_,rfl⟩|⟨fQ,_⟩
      ·obtain⟨Na,Ku⟩:=TE.set (w':=w3.putObj b (.loop {r3 with state:=.ready,pending:=none})) CV rfl TG ⟨rfl,rfl,rfl⟩ World.putObj_size (fun k hk=>World.putObj_heap_other hk)
        (rP:=.loop .ready none m2 b2) ⟨{r3 with state:=.ready,pending:=none},World.putObj_heap_same Ow,rfl,trivial,p4,p5⟩ rfl
       exact⟨_,EE,rfl,.sc rfl,Na,TF.trans Ku⟩
      ·exact absurd ht fQ
     ·rcases hj with⟨he,_⟩|⟨_,j,rfl,hp⟩
      ·exact absurd he ht
      ·obtain⟨Na,Ku⟩:=TE.set (w':=w3.putObj b (.loop {r3 with state:=.done,pending:=some j})) CV rfl TG ⟨rfl,rfl,rfl⟩ World.putObj_size (fun k hk=>World.putObj_heap_other hk)
        (rP:=.loop .done (some t) m2 b2) ⟨{r3 with state:=.done,pending:=some j},World.putObj_heap_same Ow,rfl,hp,p4,p5⟩ rfl
       exact⟨_,EE,rfl,.sc rfl,Na,TF.trans Ku⟩
    cases e with
    |normal=>
     have e0:(t,vs,S')=(Tag.normal,[],S3):=(Option.some.inj n7).symm
     injection e0 with e1 e2
     injection e2 with e2 e3
     subst e1 e2 e3
     exact fin rfl none (.inl ⟨rfl,rfl⟩)
    |exit i=>
     have e0:(t,vs,S')=(Tag.exit (3*i),[],S3):=n7
     injection e0 with e1 e2
     injection e2 with e2 e3
     subst e1 e2 e3
     exact fin rfl _ (.inr ⟨by simp,_,rfl,rfl⟩)
    |ret=>
     have e0:(t,vs,S')=(Tag.ret,[],S3):=n7
     injection e0 with e1 e2
     injection e2 with e2 e3
     subst e1 e2 e3
     exact fin rfl _ (.inr ⟨by simp,_,rfl,trivial⟩)
    |goto l=>exact(by cases n7.1)
    |panic ch=>exact n7.elim
    |outgrown=>exact n7.elim
   |_=>cases k1
  |_=>cases k1
end
section
variable[jo]
variable{P:Program}{ρ:a_}{F:Fr}{a:Act}{o:Oper}{S:AH}{w:World}
theorem Az {t v r}{name:String}{f x}{n:Nat}(h:methodOf P t v name=some (f,r)):r=v∧(method (n+1) t x name).run P w=.ok (f,x) w:=by
 unfold methodOf at h
 cases hi:P.info? t with
 |none=>rw[hi] at h;cases h
 |some i=>
  rw[hi] at h
  simp only at h
  cases hm:i.methods.find? (·.name==name) with
  |none=>rw[hm] at h;cases h
  |some m=>
   rw[hm] at h
   simp only at h
   cases hp:m.path.isEmpty with
   |false=>rw[hp] at h;cases h
   |true=>
    rw[hp] at h
    simp only[if_true] at h
    have qX:m.path.toList=[]:=by simpa using hp
    cases TH:m.func with
    |none=>rw[TH] at h;cases h
    |some q=>
     obtain⟨f',pr⟩:=q
     rw[TH] at h
     cases hu:P.underlying t with
     |none=>rw[hu] at h;cases pr<;>cases h
     |some u=>
      rw[hu] at h
      have key:r=v∧f'=f∧(receiverAt t (.val x) pr (some ((name.splitOn ".").getLastD name))).run P w=.ok x w:=by
       cases u<;>cases pr<;>simp at h<;>(obtain⟨rfl,rfl⟩:=h;refine⟨rfl,rfl,?_⟩;simp[receiverAt,Sem.run_bind,run_underlying hu,Result.andThen,Place.get])
      obtain⟨rfl,rfl,TI⟩:=key
      refine⟨rfl,?_⟩
      have Yv:(typeInfo t).run P w=.ok i w:=by simp[typeInfo,Sem.run_bind,program,Sem.run,hi,Result.andThen]
      simp only[method,Sem.run_bind,Yv,Result.andThen_ok,hm,qX,follow,Sem.run_pure,TH,hp,if_true,TI]
theorem VL.Ox:∀{a b} {xs ys},VL ρ a xs→VL ρ b ys→VL ρ (a++b) (xs++ys)
 |[],_,_,_,.nil,k=>k
 |_::_,_,_,_,.cons h1 h2,k=>.cons h1 (VL.Ox h2 k)
theorem VL.app {a b xs ys}(h:VL ρ a xs)(k:VL ρ b ys):VL ρ (iY a b) (xs++ys):=by
 rw[fK];exact h.Ox k
def EO (P:Program)(kn:FuncId→List AV→Option AV):Prop:=∀f args v,kn f args=some v→∀ρ S w xs,R P ρ S w→VL ρ args xs→
 (callFunc f xs.toArray).run P w=.ok (.enter f xs.toArray) w∧CallsIn Fence.wide 0 P f xs.toArray w (bB P ρ S w v S)∧
 (eU P f=true→∀u,u≠.run→CallsDIn Fence.wide 0 P f xs.toArray u w fun e u' w'=>u'=u∧bB P ρ S w v S e w')
def Jq (P:Program)(x:FuncId→Option (List AV→AH→Option (AV×AH))):Prop:=∀f g,x f=some g→∃fn c,P.funcs[f]?=some fn∧(fn.name== "runtime.NumGoroutine")=false∧fn.body=some c∧Nat.ble fn.params.size 2=false∧
 ∀args v S S',g args S=some (v,S')→∀ρ w xs,R P ρ S w→VL ρ args xs→CallsIn Fence.wide 0 P f xs.toArray w (bB P ρ S w v S')
structure EP (P:Program)(kn:vE):Prop where
 v:EO P kn.v
 x:Jq P kn.x
def KE:vE:=⟨fun _ _=>none,fun _=>none⟩
theorem ER:EO P fun _ _=>none:=fun _ _ _ h=>by cases h
theorem ES:Jq P fun _=>none:=fun _ _ h=>by cases h
theorem BP:EP P KE:=⟨ER,ES⟩
theorem jH {iP kn}(hT:yG P iP)(hk:EP P kn):∀n,cM P (b6 P iP kn n)∧oF P (b6 P iP kn n)
 |0=>⟨⟨fun h=>by simp[b6] at h,fun h=>by simp[b6] at h⟩,⟨fun h=>by simp[b6] at h⟩⟩
 |n+1=>by
  obtain⟨ca,Ax⟩:=jH hT hk n
  have Oy:∀{g fa fc args S v S' ρ w d},b6 P iP kn (n+1) (.fn (.func g) fa fc) args S=some (v,S')→R P ρ S w→gn ρ (.fn (.func g) fa fc) args d→
    ∃cap ys,d.target=.fn (.func g) cap∧(invoke d.target d.args).run P w=.ok (.enter g ys) w∧CallsIn Fence.wide 0 P g ys w (bB P ρ S w v S')∧
     (eU P g=true→∀u,u≠.run→CallsDIn Fence.wide 0 P g ys u w fun e u' w'=>u'=u∧bB P ρ S w v S' e w'):=by
   intro g fa fc args S v S' ρ w d h hR mf
   rcases mf with⟨f',WI,WJ,a',c',xs,e,k1,k2,k3,k4,k5⟩|⟨_,_,_,_,_,e,_⟩|⟨_,_,e,_⟩
   ·cases e
    have hV:=k1.app (k3.app k2)
    have hinv:(invoke d.target d.args).run P w=(callFunc g (a'++(xs++c')).toArray).run P w:=by
     rw[k4,k5]
     show(callFunc g _).run P w=_
     simp
    refine⟨c'.toArray,(a'++(xs++c')).toArray,k4,?_⟩
    rw[hinv]
    simp only[b6] at h
    cases TJ:kn.v g (iY fa (iY args fc)) with
    |some v0=>
     rw[TJ] at h
     cases h
     exact hk.v _ _ _ TJ _ _ _ _ hR hV
    |none=>
     rw[TJ] at h
     simp only at h
     cases hb:iP g with
     |none=>
      rw[hb] at h
      simp only at h
      cases hx:kn.x g with
      |none=>rw[hx] at h;cases h
      |some q=>
       rw[hx] at h
       simp only at h
       obtain⟨fn,c,h1,h2,h3,h4,h5⟩:=hk.x g q hx
       refine⟨lE h1 h2 h3,h5 _ _ _ _ h _ _ _ hR hV,fun qX=>?_⟩
       unfold eU at qX
       rw[h1] at qX
       simp only[h3,h4,Bool.and_false] at qX
       cases qX
     |some b=>
      rw[hb] at h
      simp only at h
      obtain⟨fn,vars,h1,h2,rfl⟩:=hT g b hb
      cases hr:run P (b6 P iP kn n) n (fy P fn vars (iY fa (iY args fc))) S with
      |none=>rw[hr] at h;cases h
      |some q=>
       obtain⟨t,vs,S1⟩:=q
       rw[hr] at h
       cases t with
       |ret=>
        cases h
        obtain⟨c,DD,_⟩:=tq hr
        refine⟨lE h1 h2 DD,yH ca Ax h1 hV hr hR,fun qX u hu=>?_⟩
        have hd:e_ c=false:=by
         unfold eU at qX
         rw[h1] at qX
         simp only[DD,Bool.and_eq_true] at qX
         simpa using qX.1
        exact qE h1 DD (tj ca DD hd hV hr hR (.inr trivial))
       |_=>cases h
   ·cases e
   ·cases e
  refine⟨⟨fun{f args S r} h=>?_,fun{f args S v S' ρ w d} h hR mf=>?_⟩,⟨fun{g fa fc args S v S' ρ w d} h qX hR mf=>?_⟩⟩
  ·
   cases f with
   |fn f a b=>
    cases f with
    |func f=>rfl
    |method m=>
     cases a with
     |nil=>cases b with
      |nil=>rfl
      |cons _ _=>simp[b6] at h
     |cons _ _=>simp[b6] at h
    |_=>simp[b6] at h
   |yd l=>rfl
   |_=>simp[b6] at h
  ·have hc:gp f=true:=by
    cases f with
    |fn f a b=>
     cases f with
     |func f=>rfl
     |method m=>
      cases a with
      |nil=>cases b with
       |nil=>rfl
       |cons _ _=>simp[b6] at h
      |cons _ _=>simp[b6] at h
     |_=>simp[b6] at h
    |yd l=>rfl
    |_=>simp[b6] at h
   cases f with
   |fn f fa fc=>
    cases f with
    |func g=>
     obtain⟨cap,ys,h1,h2,h3,_⟩:=Oy h hR mf
     exact .inl ⟨g,ys,h2,h3⟩
    |method name=>
     have hn:fa=[]∧fc=[]:=by
      cases fa<;>cases fc<;>simp[gp] at hc
      exact⟨rfl,rfl⟩
     obtain⟨rfl,rfl⟩:=hn
     rcases mf with⟨f',WI,WJ,a',c',xs,e,k1,k2,k3,k4,k5⟩|⟨_,_,_,_,_,e,_⟩|⟨m,xs,e,k1,k2,k3⟩
     ·cases e
     ·cases e
     ·cases e
      simp only[b6] at h
      cases args with
      |nil=>cases h
      |cons x rest=>
       cases x with
       |iface t v0=>
        simp only at h
        cases hm:methodOf P t v0 name with
        |none=>rw[hm] at h;cases h
        |some q=>
         obtain⟨g,r⟩:=q
         rw[hm] at h
         simp only at h
         cases k1 with
         |cons q1 q2=>
          rename_i x xs
          cases q1 with
          |iface q1=>
           rename_i y
           obtain⟨k,hk⟩:∃k,P.types.size+Made.depth=k+1:=⟨P.types.size+99,rfl⟩
           obtain⟨rfl,bQ⟩:=Az (w:=w) (x:=y) (n:=k) hm
           have Oz:gn ρ (.fn (.func g) [] []) (r::rest) {target:=.fn (.func g) #[],args:=(y::xs).toArray}:=
            .inl ⟨g,[],[],[],[],y::xs,rfl,.nil,.nil,.cons q1 q2,rfl,by simp⟩
           rcases ca.ok h hR Oz with⟨g',ys,l1,l2⟩|⟨⟨_,e⟩,_⟩
           ·refine .inl ⟨g',ys,?_,l2⟩
            rw[k2,k3]
            rw[←l1]
            have e1:(invoke (.fn (.func g) #[]) (y::xs).toArray).run P w=(callFunc g (y::xs).toArray).run P w:=by simp[invoke]
            rw[e1]
            simp[invoke,callMethod,Sem.run_bind,program,Sem.run,hk,bQ,Result.andThen]
           ·cases e
       |_=>cases h
    |_=>simp[gp] at hc
   |yd l=>
    rcases mf with⟨f',WI,WJ,a',c',xs,e,k1,k2,k3,k4,k5⟩|⟨l',b,o,len,xs,e,k1,k2,k3,k4⟩|⟨_,_,e,_⟩
    ·cases e
    ·cases e
     simp only[b6] at h
     cases hg:S.get l with
     |none=>rw[hg] at h;cases h
     |some ob=>
      rw[hg] at h
      cases ob with
      |loop st de m body=>
       cases st with
       |ready=>
        simp only at h
        cases KF:Nat.beq (bI args) m with
        |false=>rw[KF] at h;cases h
        |true=>
         rw[KF] at h
         simp only at h
         have hlen:args.length=m:=by rw[←aZ];exact Nat.eq_of_beq_eq_true KF
         cases hr:run P (b6 P iP kn n) n (body (.yd l::args)) S with
         |none=>rw[hr] at h;cases h
         |some q=>
          obtain⟨t,vs,S1⟩:=q
          rw[hr] at h
          simp only at h
          cases CV:S1.get l with
          |none=>rw[CV] at h;cases h
          |some Yw=>
           rw[CV] at h
           cases Yw with
           |loop Yx p2 m2 b2=>
            cases Yx with
            |busy=>
             simp only at h
             have hv:(t=.normal∧v=.sc (.bool true)∧S'=S1.set l (.loop .ready none m2 b2))∨(t≠.normal∧v=.sc (.bool false)∧S'=S1.set l (.loop .done (some t) m2 b2)):=by
              cases t with
              |normal=>cases h;exact .inl ⟨rfl,rfl,rfl⟩
              |_=>cases h;exact .inr ⟨by simp,rfl,rfl⟩
             obtain⟨g,tmps,uS,bd,l1,l2⟩:=yI ca hR k1 hg k2 hlen hr CV hv
             refine .inr ⟨⟨l,rfl⟩,b,g,tmps,uS,bd,?_,l2⟩
             rw[k3,k4]
             exact l1
            |_=>cases h
           |_=>cases h
       |_=>cases h
      |_=>cases h
    ·cases e
   |_=>simp[gp] at hc
  ·obtain⟨cap,ys,h1,h2,_,h4⟩:=Oy h hR mf
   exact⟨cap,ys,h1,h2,h4 qX⟩
end
section
variable[jo]
open Go.RowKit Go.WideShapes Go.ChangeShapes
variable{P:Program}
theorem pC {ρ aU S S' w w'}(RH:∀id o,S.get id=some o→ou o=true)(hE:Ext ρ S w aU S' w'):Below w.heap.size w w':=
 ⟨hE.os,hE.tape,hE.output,hE.size,fun k hk=>hE.frame k hk fun⟨id,ob,o,l,h1,h2,_⟩=>by rw[RH id ob h1] at h2;cases h2⟩
theorem rq {H:Type}{enc:TypeId×Value→H}{W:World}{b:Nat}{sp:Nat→Bool}{hd:Bool}:∀{ts:List TypeId} {vs:List Value} {ds:List (DataW H)} {ps:List MemPlace},DataW.TrodAll enc P W b sp hd ts vs ds ps→ds.length=ts.length
 |[],[],[],_,_=>rfl
 |[],_::_,_,_,h=>h.elim
 |[],[],_::_,_,h=>h.elim
 |_::_,[],_,_,h=>h.elim
 |_::_,_::_,[],_,h=>h.elim
 |t::ts,v::vs,d::ds,ps,h=>by
  obtain⟨p,q,h1,h2,rfl⟩:=h
  simp[rq h2]
theorem nU {H:Type}{enc:TypeId×Value→H}(hl:laidOutB P=true){W W':World}{sp:Nat→Bool}:∀{ts:List TypeId} {vs:List Value} {ds:List (DataW H)} {ps:List MemPlace},
  ts.all (fun t=>P.readableRec t&&decide (t<P.types.size))=true→DataW.TrodAll enc P W 0 (fun _=>true) true ts vs ds ps→(∀p∈ps,W.sameAt W' p)→(∀p∈ps,sp p.block=true)→DataW.TrodAll enc P W' 0 sp true ts vs ds ps
 |[],[],[],_,_,h,_,_=>h
 |[],_::_,_,_,_,h,_,_=>h.elim
 |[],[],_::_,_,_,h,_,_=>h.elim
 |_::_,[],_,_,_,h,_,_=>h.elim
 |_::_,_::_,[],_,_,h,_,_=>h.elim
 |t::ts,v::vs,d::ds,ps,hr,h,hs,hp=>by
  simp only[List.all_cons,Bool.and_eq_true,decide_eq_true_eq] at hr
  obtain⟨p,q,h1,h2,rfl⟩:=h
  exact⟨p,q,WideElems.Trod_stays hl hr.1.1 hr.1.2 h1 (fun x hx=>hs x (by simp[hx])) (fun x hx=>hp x (by simp[hx])),
   nU hl hr.2 h2 (fun x hx=>hs x (by simp[hx])) (fun x hx=>hp x (by simp[hx])),rfl⟩
def xc (P:Program)(f:Func):Bool:=match f.resultTypes.toList with
 |[t]=>match P.underlying t with
  |some .bool=>true
  |_=>false
 |_=>false
theorem xd {f}(h:xc P f=true):∃t,f.resultTypes=#[t]∧P.underlying t=some .bool:=by
 unfold xc at h
 split at h
 ·rename_i t ht
  split at h
  ·exact⟨t,Array.toList_inj.1 ht,by assumption⟩
  ·cases h
 ·cases h
theorem ET {H:Type}{enc:TypeId×Value→H}{f:Func}{s:ChangeSpec}{apart fresh handsOn again:Bool}{W W':World}{args:Array Value}{ds gs:List (DataW H)}{before:List MemPlace}
  (hl:laidOutB P=true) (OA:xc P f=true) (sZ:f.params.toList.all (fun t=>P.readableRec t&&decide (t<P.types.size))=true) (EU:s.vars=[])
  (TK:∀ds:List (DataW H),ds.length=f.params.size→s.fn H ds={results:=[.lit (.bool true)],args:=ds})
  (hW:DataW.Whole enc P f.params.toList s.vars apart W args.toList ds gs before) (hb:Below W.heap.size W W'):s.post enc P f apart fresh handsOn again W args (.bool true) W':=by
 have TL:=hW
 obtain⟨tb,WK,WL⟩:=xd OA
 obtain⟨p,q,hA,hV,rfl,WM,M4⟩:=hW
 rw[EU] at hV
 obtain⟨rfl,rfl⟩:=trodVars_none hV
 have hlen:ds.length=f.params.size:=by have:=rq hA;simpa using this
 have dN:∀x∈p,x.block<W.heap.size:=fun x hx=>TL.lt x (by simp[hx])
 have aR:∀sp:Nat→Bool,(∀x∈p++[],sp x.block=true)→DataW.TrodAll enc P W' 0 sp true f.params.toList args.toList ds p:=fun sp Yy=>
  nU hl sZ hA (fun x hx=>hb.same (dN x hx)) (fun x hx=>Yy x (by simp[hx]))
 have KG:s.fn H (ds++[])={results:=[.lit (.bool true)],args:=ds}:=by rw[List.append_nil];exact TK ds hlen
 have qz:∀(b:Nat) (sp:Nat→Bool) (hd:Bool),DataW.TrodAll enc P W' b sp hd f.resultTypes.toList ((Value.bool true).resultList f.resultTypes.size) (s.fn H (ds++[])).results []:=fun b sp hd=>by
  rw[KG,WK]
  exact trodAll_mk1 (shut_bool WL true)
 have fW:∀(j:Nat) (t:TypeId) (r:Value),f.resultTypes[j]?=some t→((Value.bool true).resultList f.resultTypes.size)[j]?=some r→Value.okWide P W' .any 0 t r:=by
  intro j t r h1 h2
  rw[WK] at h1 h2
  cases j with
  |zero=>
   simp only[List.getElem?_toArray,List.getElem?_cons_zero,Option.some.injEq] at h1
   simp only[Value.resultList] at h2
   simp at h2
   subst h1 h2
   exact okWide_bool_mk WL true
  |succ j=>simp at h1
 have OB:∀x∈p++[],x.block<W.heap.size:=fun x hx=>TL.lt x (by simpa using hx)
 have hold:∀x∈p++[],(fun b=>decide (b<W.heap.size)) x.block=true:=fun x hx=>by simpa using OB x hx
 refine⟨ds,[],p++[],[],p,[],TL,qz _ _ _,by rw[KG];exact aR _ hold,by rw[EU,KG];exact(rfl:DataW.TrodVars enc P W' _ [] [] []),World.keptBut_mono (fun x hx=>⟨hx,Or.inr (by simpa using hx)⟩) (hb.frame (·∈p++[])),fun _=>?_⟩
 refine⟨fW,_,[],([]++p)++[],⟨[]++p,[],trodAll_append (aR _ (fun _ _=>rfl)) (qz _ _ _),by rw[EU];exact(rfl:DataW.TrodVars enc P W' _ [] [] []),rfl,?_,?_⟩,?_⟩
 ·intro b off hp
  have nL:MemPlace.cell b off∈p++[]:=by simpa using hp
  rw[hb.frozen (OB _ nL)]
  exact WM b off (by simpa using nL)
 ·intro ha
  have:=M4 ha
  simpa using this
 ·intro x hx _
  simpa using hx
end
section
variable[jo]
open Go.RowKit Go.WideShapes Go.ChangeShapes
variable{P:Program}
def T.RM {α:Type}(p:Nat→α→Prop):T α→Nat→Nat→Prop
 |.e,_,_=>True
 |.n l v r,a,b=>T.RM p l (a+b) (2*b)∧(match v with|some x=>p a x|none=>True)∧T.RM p r (a+2*b) (2*b)
theorem T.RM.get {α:Type}{p:Nat→α→Prop}:∀{t:T α} {a b:Nat},T.RM p t a b→∀{k:Nat} {x:α},T.get t k=some x→p (a+b*k) x
 |.e,a,b,h,k,x,hx=>by simp[T.get] at hx
 |.n l v r,a,b,h,k,x,hx=>by
  obtain⟨h1,h2,h3⟩:=h
  unfold T.get at hx
  cases k with
  |zero=>
   simp only at hx
   subst hx
   simpa using h2
  |succ k=>
   simp only at hx
   have hk:=Nat.div_add_mod k 2
   split at hx
   ·rename_i hm
    have EG:k%2=0:=Nat.eq_of_beq_eq_true hm
    have:=h1.get hx
    have e:a+b+2*b*(k/2)=a+b*(k+1):=by
     have:k=2*(k/2):=by omega
     generalize k/2=j at this⊢
     subst this
     rw[Nat.mul_add,Nat.mul_comm 2 b,Nat.mul_assoc];omega
    exact e▸this
   ·rename_i hm
    have EG:k%2=1:=by
     have:k%2≠0:=fun e=>hm (by rw[show Nat.mod k 2=k%2 from rfl,e];rfl)
     omega
    have:=h3.get hx
    have e:a+2*b+2*b*(k/2)=a+b*(k+1):=by
     have:k=2*(k/2)+1:=by omega
     generalize k/2=j at this⊢
     subst this
     rw[show b*(2*j+1+1)=2*b*j+2*b by
      rw[Nat.mul_add,Nat.mul_add,Nat.mul_comm 2 b,Nat.mul_assoc];omega]
     omega
    exact e▸this
def OC (P:Program)(f:Nat)(b:List AV→AC):Prop:=∃fn vars,P.funcs[f]?=some fn∧(fn.name== "runtime.NumGoroutine")=false∧b=fy P fn vars
def isTrue:Option (AV×AH)→Bool
 |some (.sc (.bool true),_)=>true
 |_=>false
theorem ru {r}(h:isTrue r=true):∃S',r=some (.sc (.bool true),S'):=by
 unfold isTrue at h
 split at h
 ·exact⟨_,rfl⟩
 ·cases h
theorem R.nothing (P:Program)(w:World):R P (fun _=>none) ⟨.e,0⟩ w where
 gH:=fun h=>by simp[AH.get,fN] at h
 inj:=fun h=>by simp[AH.get,fN] at h
 rO:=fun h=>by cases h
 nO:=fun h=>by cases h
 wf:=fun h=>by simp[AH.get,fN] at h
theorem xe {iP kn}(hT:yG P iP)(hk:EP P kn){n:Nat}{f as S ρ W args}
  (bQ:isTrue (b6 P iP kn n (.fn (.func f) [] []) as S)=true) (hR:R P ρ S W) (hV:VL ρ as args.toList) (iU:∀id o,S.get id=some o→ou o=true)
  (k9:∀w,(callFunc f args).run P w=.ok (.enter f args) w):
  Calls P f args W fun e W'=>e=.returned (.bool true)∧Below W.heap.size W W':=by
 obtain⟨S',bQ⟩:=ru bQ
 have mf:gn ρ (.fn (.func f) [] []) as {target:=.fn (.func f) #[],args:=args}:=.inl ⟨f,[],[],[],[],args.toList,rfl,.nil,.nil,hV,rfl,by simp⟩
 rcases(jH hT hk n).1.ok bQ hR mf with⟨g,ys,h1,h2⟩|⟨⟨_,e⟩,_⟩
 ·have hn:(invoke (.fn (.func f) #[]) args).run P W=(callFunc f args).run P W:=by simp[invoke]
  rw[hn,k9] at h1
  cases h1
  refine(callsIn_wide.1 h2).mono fun e W' q=>?_
  obtain⟨x,aU,rfl,q1,q2,q3⟩:=q
  exact⟨by rw[q1.df.1],pC iU q3⟩
 ·cases e
theorem EV {f fn}(hf:P.funcs[f]?=some fn)(hn:(fn.name== "runtime.NumGoroutine")=false)(hb:fn.body.isSome=true)(args:Array Value)(w:World):(callFunc f args).run P w=.ok (.enter f args) w:=by
 cases h:fn.body with
 |none=>rw[h] at hb;cases hb
 |some c=>exact lE hf hn h
theorem R.grown {ρ S w w'}(h:R P ρ S w)(hb:Below w.heap.size w w'):R P ρ S w'∧Ext ρ S w ρ S w':=
 ⟨⟨fun h1 h2=>(h.gH h1 h2).mono (a_.le_refl _) (hb.block _ (h.nO h2)),h.inj,h.rO,fun h1=>Nat.lt_of_lt_of_le (h.nO h1) hb.size,h.wf⟩,
  ⟨a_.le_refl _,Nat.le_refl _,fun id x h1 h2=>by(rw[h1] at h2;cases h2),fun _ _ _=>rfl,hb.os,hb.tape,hb.output,hb.size,fun b h1 _=>hb.block b h1,fun _ _ h=>h⟩⟩
def RN:List (FuncId×Value)→FuncId→List AV→Option AV
 |[],_,_=>none
 |(f,v)::r,g,as=>match Nat.beq g f with
  |true=>match as with
   |[]=>some (.sc v)
   |_=>none
  |false=>RN r g as
theorem EW {iP kn}(hT:yG P iP)(hk:EP P kn):∀{l},(∀x∈l,(∃n S',b6 P iP kn n (.fn (.func x.1) [] []) [] ⟨.e,0⟩=some (.sc x.2,S'))∧∀w,(callFunc x.1 #[]).run P w=.ok (.enter x.1 #[]) w)→EO P (RN l)
 |[],_=>fun _ _ _ h=>by cases h
 |(f,v)::r,hl=>by
  intro g as u h ρ S w xs hR hV
  unfold RN at h
  cases hb:Nat.beq g f with
  |false=>
   rw[hb] at h
   exact EW hT hk (l:=r) (fun x hx=>hl x (by simp[hx])) _ _ _ h _ _ _ _ hR hV
  |true=>
   have e:=Nat.eq_of_beq_eq_true hb
   subst e
   rw[hb] at h
   cases as with
   |cons _ _=>cases h
   |nil=>
    cases h
    cases hV
    obtain⟨⟨n,S',bQ⟩,k9⟩:=hl (g,v) (by simp)
    have mf:gn (fun _=>none) (.fn (.func g) [] []) [] {target:=.fn (.func g) #[],args:=#[]}:=.inl ⟨g,[],[],[],[],[],rfl,.nil,.nil,.nil,rfl,rfl⟩
    have hn:(invoke (.fn (.func g) #[]) #[]).run P w=(callFunc g #[]).run P w:=by simp[invoke]
    have post:∀e w',bB P (fun _=>none) ⟨.e,0⟩ w (.sc v) S' e w'→bB P ρ S w (.sc v) S e w':=by
     rintro e w' ⟨x,aU,rfl,q1,q2,q3⟩
     obtain⟨h1,h2⟩:=hR.grown (pC (fun id o h=>by simp[AH.get,fN] at h) q3)
     obtain⟨rfl,hs⟩:=q1.df
     exact⟨_,ρ,rfl,.sc hs,h1,h2⟩
    refine⟨k9 w,?_,fun qX u hu=>?_⟩
    ·rcases(jH hT hk n).1.ok bQ (R.nothing P w) mf with⟨g',ys,h1,h2⟩|⟨⟨_,e⟩,_⟩
     ·rw[hn,k9] at h1
      cases h1
      exact h2.mono (post)
     ·cases e
    ·obtain⟨cap,ys,h0,h1,h2⟩:=(jH hT hk n).2.ok bQ qX (R.nothing P w) mf
     rw[hn,k9] at h1
     cases h1
     exact(h2 u hu).mono fun e u' w' q=>⟨q.1,post e w' q.2⟩
end
section
structure ef where
 P:Program
 iP:Table
 kn:vE
abbrev hX:=Tag→List AV→AH→Prop
def wp (M:ef)(x:AC)(S:AH)(Q:hX):Prop:=∃t vs S',(∃n0,∀n,n0≤n→run M.P (b6 M.P M.iP M.kn n) n x S=some (t,vs,S'))∧Q t vs S'
def aO (M:ef)(f:AV)(args:List AV)(S:AH)(Q:AV→AH→Prop):Prop:=∃v S',(∃n0,∀n,n0≤n→b6 M.P M.iP M.kn n f args S=some (v,S'))∧Q v S'
def Nd (M:ef)(body:List AV→AC)(vs:List AV)(S:AH)(Q:hX):Prop:=
 ∃t uI S',(∃n0,∀n k,n0≤n→n0≤k→iter (fun vs=>run M.P (b6 M.P M.iP M.kn n) n (body vs)) k vs S=some (t,uI,S'))∧Q t uI S'
section
variable{M:ef}{S S1:AH}{Q:hX}
theorem wp_mono {x Q'}(h:wp M x S Q)(hm:∀t vs S',Q t vs S'→Q' t vs S'):wp M x S Q':=
 let⟨t,vs,S',h1,h2⟩:=h;⟨t,vs,S',h1,hm _ _ _ h2⟩
theorem az {f args Q Q'}(h:aO M f args S Q)(hm:∀v S',Q v S'→Q' v S'):aO M f args S Q':=
 let⟨v,S',h1,h2⟩:=h;⟨v,S',h1,hm _ _ h2⟩
theorem wp_ret {t vs}(h:Q t vs S):wp M (.ret t vs) S Q:=⟨t,vs,S,⟨0,fun _ _=>rfl⟩,h⟩
theorem ae {o k v}(he:evalOp M.P o S=some (v,S1))(h:wp M (k v) S1 Q):wp M (.op o k) S Q:=by
 obtain⟨t,vs,S',⟨n0,h1⟩,h2⟩:=h
 exact⟨t,vs,S',⟨n0,fun n hn=>by rw[gL,he];exact h1 n hn⟩,h2⟩
theorem tr {g}{b:Bool}{o k}(hg:zI g b=some false)(h:wp M (k uv) S Q):wp M (.sG g b o k) S Q:=by
 obtain⟨t,vs,S',⟨n0,h1⟩,h2⟩:=h
 exact⟨t,vs,S',⟨n0,fun n hn=>by rw[sm];unfold qv;rw[hg];exact h1 n hn⟩,h2⟩
theorem tt {o v v' k}(he:cB M.P S o=some v')(hb:v'.beq v=true)(h:wp M k S Q):wp M (.kA o v k) S Q:=by
 obtain⟨t,vs,S',⟨n0,h1⟩,h2⟩:=h
 exact⟨t,vs,S',⟨n0,fun n hn=>by show og M.P o v _ S=_;unfold og;rw[he];simp only[hb];exact h1 n hn⟩,h2⟩
theorem mP {g}{b:Bool}{o v k}(hg:zI g b=some false)(h:wp M k S Q):wp M (.zS g b o v k) S Q:=by
 obtain⟨t,vs,S',⟨n0,h1⟩,h2⟩:=h
 exact⟨t,vs,S',⟨n0,fun n hn=>by show o_ M.P g b o v _ S=_;unfold o_;rw[hg];exact h1 n hn⟩,h2⟩
theorem EX {b:Bool}{x y}(h:wp M (if b then x else y) S Q):wp M (.ite (.sc (.bool b)) x y) S Q:=by
 obtain⟨t,vs,S',⟨n0,h1⟩,h2⟩:=h
 refine⟨t,vs,S',⟨n0,fun n hn=>?_⟩,h2⟩
 have:=h1 n hn
 rw[run_ite]
 cases b<;>exact this
theorem b5 {f args k}(h:aO M f args S fun v S'=>wp M (k v) S' Q):wp M (.call f args k) S Q:=by
 obtain⟨v,S1,⟨n0,h1⟩,t,vs,S',⟨n1,h2⟩,h3⟩:=h
 exact⟨t,vs,S',⟨max n0 n1,fun n hn=>by rw[mK,h1 n (by omega)];exact h2 n (by omega)⟩,h3⟩
theorem pD {g}{b:Bool}{f args k}(hg:zI g b=some false)(h:wp M (k uv) S Q):wp M (.hG g b f args k) S Q:=by
 obtain⟨t,vs,S',⟨n0,h1⟩,h2⟩:=h
 exact⟨t,vs,S',⟨n0,fun n hn=>by rw[qA];unfold my;rw[hg];exact h1 n hn⟩,h2⟩
def xf (M:ef)(id:Option Nat)(k:List AV→AC)(outs:List AV→List AV)(Q:hX):hX:=fun t vs S'=>
 match t with
 |.normal=>wp M (k vs) S' Q
 |.exit i=>match id with
  |some j=>match Nat.beq j i with
   |true=>wp M (k vs) S' Q
   |false=>Q (.exit i) (outs vs) S'
  |none=>Q (.exit i) (outs vs) S'
 |t=>Q t (outs vs) S'
theorem wp_bind {m id k outs}(h:wp M m S (xf M id k outs Q)):wp M (.bind m id k outs) S Q:=by
 obtain⟨t,vs,S1,⟨n0,h1⟩,h2⟩:=h
 have go:wp M (k vs) S1 Q→(∀n,run M.P (b6 M.P M.iP M.kn n) n m S=some (t,vs,S1)→run M.P (b6 M.P M.iP M.kn n) n (.bind m id k outs) S=run M.P (b6 M.P M.iP M.kn n) n (k vs) S1)→wp M (.bind m id k outs) S Q:=by
  rintro⟨t',uI,S',⟨n1,h3⟩,h4⟩ he
  exact⟨t',uI,S',⟨max n0 n1,fun n hn=>by rw[he n (h1 n (by omega))];exact h3 n (by omega)⟩,h4⟩
 have out:∀t',Q t' (outs vs) S1→(∀n,run M.P (b6 M.P M.iP M.kn n) n m S=some (t,vs,S1)→run M.P (b6 M.P M.iP M.kn n) n (.bind m id k outs) S=some (t',outs vs,S1))→wp M (.bind m id k outs) S Q:=by
  intro t' hq he
  exact⟨t',outs vs,S1,⟨n0,fun n hn=>he n (h1 n hn)⟩,hq⟩
 cases t with
 |normal=>exact go h2 fun n hn=>by rw[run_bind'];unfold eT;rw[hn]
 |exit i=>
  cases id with
  |none=>exact out _ h2 fun n hn=>by rw[run_bind'];unfold eT;rw[hn]
  |some j=>
   simp only[xf] at h2
   cases hb:Nat.beq j i with
   |true=>rw[hb] at h2;exact go h2 fun n hn=>by rw[run_bind'];unfold eT;rw[hn];simp only[hb]
   |false=>rw[hb] at h2;exact out _ h2 fun n hn=>by rw[run_bind'];unfold eT;rw[hn];simp only[hb]
 |goto l=>exact out _ h2 fun n hn=>by rw[run_bind'];unfold eT;rw[hn]
 |ret=>exact out _ h2 fun n hn=>by rw[run_bind'];unfold eT;rw[hn]
theorem xg {m k}(h:wp M m S fun t vs S'=>(t=.normal∨t=.ret)∧wp M (k vs) S' Q):wp M (.fin m k) S Q:=by
 obtain⟨t,vs,S1,⟨n0,h1⟩,ht,t',uI,S',⟨n1,h2⟩,h3⟩:=h
 refine⟨t',uI,S',⟨max n0 n1,fun n hn=>?_⟩,h3⟩
 rw[sq];unfold qw;rw[h1 n (by omega)]
 rcases ht with rfl|rfl<;>exact h2 n (by omega)
theorem wp_loop {init body outs}(h:Nd M body init S fun t vs S'=>Q t (outs vs) S'):wp M (.loop init body outs) S Q:=by
 obtain⟨t,vs,S1,⟨n0,h1⟩,h2⟩:=h
 exact⟨t,outs vs,S1,⟨n0,fun n hn=>by rw[yA];unfold sj;rw[h1 n n hn hn]⟩,h2⟩
theorem mQ {body vs}(h:wp M (body vs) S fun t zO S1=>(t=.normal∧Nd M body zO S1 Q)∨(t≠.normal∧Q t zO S1)):Nd M body vs S Q:=by
 obtain⟨t,zO,S1,⟨n0,h1⟩,h2⟩:=h
 rcases h2 with⟨rfl,t',uI,S',⟨n1,h3⟩,h4⟩|⟨ht,hq⟩
 ·refine⟨t',uI,S',⟨max n0 n1+1,fun n k hn hk=>?_⟩,h4⟩
  obtain⟨k,rfl⟩:∃j,k=j+1:=⟨k-1,by omega⟩
  simp only[iter]
  rw[h1 n (by omega)]
  exact h3 n k (by omega) (by omega)
 ·refine⟨t,zO,S1,⟨n0+1,fun n k hn hk=>?_⟩,hq⟩
  obtain⟨k,rfl⟩:∃j,k=j+1:=⟨k-1,by omega⟩
  simp only[iter]
  rw[h1 n (by omega)]
  cases t with
  |normal=>exact absurd rfl ht
  |_=>rfl
theorem BQ {body}(I:Nat→List AV→AH→Prop)
  (hr:∀m vs S,I m vs S→wp M (body vs) S fun t zO S1=>(t=.normal∧∃m',m'<m∧I m' zO S1)∨(t≠.normal∧Q t zO S1)):
  ∀(m:Nat) {vs} {S},I m vs S→Nd M body vs S Q:=by
 intro m
 induction m using Nat.strongRecOn with
 |_ m ih=>
  intro vs S h
  refine mQ (wp_mono (hr m vs S h) fun t zO S1 q=>?_)
  rcases q with⟨ht,m',dN,hI⟩|q
  ·exact .inl ⟨ht,ih m' dN hI⟩
  ·exact .inr q
theorem EY {l:Nat}{k de}{n:Nat}{b}(hg:S.get l=some (.loop .ready de n b))(h:wp M k (S.set l (.loop .busy de n b)) Q):wp M (.start (.yd l) k) S Q:=by
 obtain⟨t,vs,S',⟨n0,h1⟩,h2⟩:=h
 exact⟨t,vs,S',⟨n0,fun n hn=>by rw[vQ];unfold pc;simp only[hg];exact h1 n hn⟩,h2⟩
theorem KH {n:Nat}{f body k outs}(hf:∀i,f≠.yd i)
  (h:aO M f [.yd S.next] (S.new (.loop .ready none n body)) fun _ S'=>∃st de m b,S'.get S.next=some (.loop st de m b)∧st≠.busy∧
    match de with
    |none=>wp M k (S'.set S.next (.loop .exhausted de m b)) Q
    |some t=>Q t outs (S'.set S.next (.loop .exhausted de m b))):wp M (.Cu n f body k outs) S Q:=by
 obtain⟨v,S1,⟨n0,h1⟩,st,de,m,b,hg,mI,h2⟩:=h
 have key:∀n',n0≤n'→run M.P (b6 M.P M.iP M.kn n') n' (.Cu n f body k outs) S=ED (run M.P (b6 M.P M.iP M.kn n') n' k) outs (S1.set S.next (.loop .exhausted de m b)) de:=by
  intro n' hn
  rw[BI]
  have e:=h1 n' hn
  cases f with
  |yd i=>exact absurd rfl (hf i)
  |_=>unfold wL;simp only[e,hg];cases st<;>cases de<;>first|exact absurd rfl mI|rfl
 cases de with
 |none=>
  obtain⟨t,vs,S',⟨n1,h3⟩,h4⟩:=h2
  exact⟨t,vs,S',⟨max n0 n1,fun n' hn=>by rw[key n' (by omega)];exact h3 n' (by omega)⟩,h4⟩
 |some t=>exact⟨t,outs,_,⟨n0,fun n' hn=>key n' hn⟩,h2⟩
theorem bg {f fa fc args b Q}(hk:M.kn f (fa++(args++fc))=none)(hb:M.iP f=some b)
  (h:wp M (b (fa++(args++fc))) S fun t vs S'=>t=.ret∧Q (oneOf vs) S'):aO M (.fn (.func f) fa fc) args S Q:=by
 obtain⟨t,vs,S',⟨n0,h1⟩,rfl,h2⟩:=h
 refine⟨oneOf vs,S',⟨n0+1,fun n hn=>?_⟩,h2⟩
 obtain⟨n,rfl⟩:∃j,n=j+1:=⟨n-1,by omega⟩
 simp only[b6,fK,hk,hb,h1 n (by omega)]
theorem KI {f fa fc args v Q}(hk:M.kn f (fa++(args++fc))=some v)(h:Q v S):aO M (.fn (.func f) fa fc) args S Q:=by
 refine⟨v,S,⟨1,fun n hn=>?_⟩,h⟩
 obtain⟨n,rfl⟩:∃j,n=j+1:=⟨n-1,by omega⟩
 simp only[b6,fK,hk]
theorem i_ {name:String}{t v r f rest Q}(hm:methodOf M.P t v name=some (f,r))(h:aO M (.fn (.func f) [] []) (r::rest) S Q):
  aO M (.fn (.method name) [] []) (.iface t v::rest) S Q:=by
 obtain⟨u,S',⟨n0,h1⟩,h2⟩:=h
 refine⟨u,S',⟨n0+1,fun n hn=>?_⟩,h2⟩
 obtain⟨n,rfl⟩:∃j,n=j+1:=⟨n-1,by omega⟩
 simp only[b6,hm]
 exact h1 n (by omega)
theorem KJ {l:Nat}{args de}{m:Nat}{body Q}(hg:S.get l=some (.loop .ready de m body))(hl:args.length=m)
  (h:wp M (body (.yd l::args)) S fun t _ S'=>∃p m' b',S'.get l=some (.loop .busy p m' b')∧
    match t with
    |.normal=>Q (.sc (.bool true)) (S'.set l (.loop .ready none m' b'))
    |t=>Q (.sc (.bool false)) (S'.set l (.loop .done (some t) m' b'))):aO M (.yd l) args S Q:=by
 obtain⟨t,vs,S',⟨n0,h1⟩,p,m',b',CV,h2⟩:=h
 have hb:Nat.beq (bI args) m=true:=by rw[aZ,hl];exact Nat.beq_refl m
 cases t with
 |normal=>
  refine⟨_,_,⟨n0+1,fun n hn=>?_⟩,h2⟩
  obtain⟨n,rfl⟩:∃j,n=j+1:=⟨n-1,by omega⟩
  simp only[b6,hg,hb,h1 n (by omega),CV]
 |_=>
  refine⟨_,_,⟨n0+1,fun n hn=>?_⟩,h2⟩
  obtain⟨n,rfl⟩:∃j,n=j+1:=⟨n-1,by omega⟩
  simp only[b6,hg,hb,h1 n (by omega),CV]
theorem EZ {f as}(h:aO M (.fn (.func f) [] []) as S fun v _=>v=.sc (.bool true)):∃n,isTrue (b6 M.P M.iP M.kn n (.fn (.func f) [] []) as S)=true:=by
 obtain⟨v,S',⟨n0,h1⟩,rfl⟩:=h
 exact⟨n0,by rw[h1 n0 (Nat.le_refl _)];rfl⟩
end
end
section
structure aY (B S:AH):Prop where
 next:B.next≤S.next
 iK:∀id,id<B.next→S.get id=B.get id
theorem aY.refl (S:AH):aY S S:=⟨Nat.le_refl _,fun _ _=>rfl⟩
theorem aY.trans {A B C}(h:aY A B)(k:aY B C):aY A C:=⟨Nat.le_trans h.next k.next,fun id hi=>by rw[k.iK id (Nat.lt_of_lt_of_le hi h.next),h.iK id hi]⟩
theorem aY.new (S:AH)(o:AO):aY S (S.new o):=⟨by simp[AH.new],fun id hi=>by rw[AH.bZ,if_neg (by omega)]⟩
def eg:AV→List Nat
 |.sl id _ _ _=>[id]
 |.op id _ _ _ _=>[id]
 |_=>[]
def tw (v:AV)(es n id off:Nat)(c:List AV):Prop:=
 (∃cap,n≤cap∧off+cap*es≤c.length∧v=.sl id off n cap)∨(∃cO,n≤cO∧off+cO*es≤c.length∧v=.op id off n cO es)
theorem tw.ids {v}{es n id off:Nat}{c}(h:tw v es n id off c):eg v=[id]:=by
 rcases h with⟨_,_,_,rfl⟩|⟨_,_,_,rfl⟩<;>rfl
def G7 (S:AH)(v:AV)(es:Nat)(L:List (List AV)):Prop:=
 (v=.sc (.slice none 0 0)∧L=[])∨∃id off c,tw v es L.length id off c∧S.get id=some (.row c)∧(c.drop off).take (L.length*es)=L.flatten∧∀x∈L,x.length=es
inductive Own where
 |obj (id:Nat)(o:AO)
 |sl (v:AV)(es:Nat)(L:List (List AV))
def Own.ids:Own→List Nat
 |.obj id _=>[id]
 |.sl v _ _=>eg v
def Own.holds (S:AH):Own→Prop
 |.obj id o=>S.get id=some o
 |.sl v es L=>G7 S v es L
inductive aQ where
 |pt (id off:Nat)(cs:List AV)
 |sl (v:AV)(es:Nat)(L:List (List AV))
 |ob (id:Nat)(o:AO)
def aQ.ids:aQ→List Nat
 |.pt id _ _=>[id]
 |.sl v _ _=>eg v
 |.ob id _=>[id]
def gq (S:AH)(v:AV)(es:Nat)(L:List (List AV)):Prop:=
 (v=.sc (.slice none 0 0)∧L=[])∨∃id off c,tw v es L.length id off c∧
   S.cells? id=some c∧(c.drop off).take (L.length*es)=L.flatten∧∀x∈L,x.length=es
def aQ.holds (S:AH):aQ→Prop
 |.pt id off cs=>∃c,S.cells? id=some c∧off+cs.length≤c.length∧(c.drop off).take cs.length=cs
 |.sl v es L=>gq S v es L
 |.ob id o=>S.get id=some o
structure Cx (B:AH)(M:List Nat)(S:AH)(own:List Own)(ro:List aQ):Prop where
 next:B.next≤S.next
 iK:∀id,id<B.next→id∉M→S.get id=B.get id
 oh:∀x∈own,x.holds S
 oi:∀x∈own,∀id∈x.ids,id<S.next∧(id<B.next→id∈M)
 od:own.Pairwise fun x y=>∀id∈x.ids,id∉y.ids
 rh:∀φ∈ro,φ.holds S
 ri:∀φ∈ro,∀id∈φ.ids,id<S.next∧∀x∈own,id∉x.ids
theorem tx {S S1:AH}{id:Nat}(h:S1.get id=S.get id):S1.cells? id=S.cells? id:=by unfold AH.cells?;rw[h]
theorem Own.fS {S S1:AH}{x:Own}(h:∀id∈x.ids,S1.get id=S.get id)(hx:x.holds S):x.holds S1:=by
 cases x with
 |obj id o=>exact(h id (by simp[Own.ids])).trans hx
 |sl v es L=>
  rcases hx with hx|⟨id,off,c,h0,h1,h2⟩
  ·exact .inl hx
  ·exact .inr ⟨id,off,c,h0,(h id (by simp[Own.ids,h0.ids])).trans h1,h2⟩
theorem vT {S S1:AH}{v:AV}{es:Nat}{L:List (List AV)}(h:∀id∈eg v,S1.get id=S.get id)(hx:gq S v es L):gq S1 v es L:=by
 rcases hx with hx|⟨id,off,c,h1,h2,h3⟩
 ·exact .inl hx
 ·refine .inr ⟨id,off,c,h1,?_,h3⟩
  rw[tx (h id (by simp[h1.ids]))];exact h2
theorem aQ.fS {S S1:AH}{x:aQ}(h:∀id∈x.ids,S1.get id=S.get id)(hx:x.holds S):x.holds S1:=by
 cases x with
 |pt id off cs=>
  obtain⟨c,h1,h2⟩:=hx
  exact⟨c,by rw[tx (h id (by simp[aQ.ids]))];exact h1,h2⟩
 |sl v es L=>exact vT h hx
 |ob id o=>exact(h id (by simp[aQ.ids])).trans hx
section
variable{B S S1:AH}{M:List Nat}{own:List Own}{ro:List aQ}
theorem Cx.step (H:Cx B M S own ro){i:Nat}{x x':Own}(hi:own[i]?=some x)(mJ:S.next≤S1.next)(yl:∀id,id<S.next→id∉x.ids→S1.get id=S.get id)(hx:x'.holds S1)
  (mg:∀id∈x'.ids,id<S1.next∧(id∈x.ids∨S.next≤id)):Cx B M S1 (own.set i x') ro:=by
 have jr:x∈own:=List.mem_of_getElem? hi
 have yJ:=H.od
 have sO:∀(j:Nat) y,j≠i→own[j]?=some y→∀id∈y.ids,id∉x.ids:=by
  intro j y hj hy id bS hx
  rw[List.pairwise_iff_getElem] at yJ
  obtain⟨yK,uX⟩:=List.getElem?_eq_some_iff.1 hi
  obtain⟨Ng,HO⟩:=List.getElem?_eq_some_iff.1 hy
  rcases Nat.lt_or_gt_of_ne hj with dN|Yz
  ·exact yJ j i Ng yK dN id (by rw[HO];exact bS) (by rw[uX];exact hx)
  ·exact yJ i j yK Ng Yz id (by rw[uX];exact hx) (by rw[HO];exact bS)
 have E0:∀y∈own.set i x',y=x'∨∃j,j≠i∧own[j]?=some y:=by
  intro y hy
  obtain⟨j,hj⟩:=List.getElem?_of_mem hy
  rw[List.getElem?_set] at hj
  by_cases e:i=j
  ·subst e
   obtain⟨yK,_⟩:=List.getElem?_eq_some_iff.1 hi
   simp[yK] at hj
   exact .inl hj.symm
  ·rw[if_neg e] at hj
   exact .inr ⟨j,fun h=>e h.symm,hj⟩
 refine⟨Nat.le_trans H.next mJ,?_,?_,?_,?_,?_,?_⟩
 ·intro id bS hM
  rw[yl id (Nat.lt_of_lt_of_le bS H.next) (fun hx=>hM ((H.oi x jr id hx).2 bS)),H.iK id bS hM]
 ·intro y hy
  rcases E0 y hy with rfl|⟨j,hj,hy⟩
  ·exact hx
  ·exact Own.fS (fun id bS=>yl id (H.oi y (List.mem_of_getElem? hy) id bS).1 (sO j y hj hy id bS)) (H.oh y (List.mem_of_getElem? hy))
 ·intro y hy id bS
  rcases E0 y hy with rfl|⟨j,hj,hy⟩
  ·obtain⟨h1,h2⟩:=mg id bS
   refine⟨h1,fun hB=>?_⟩
   rcases h2 with h2|h2
   ·exact(H.oi x jr id h2).2 hB
   ·exact absurd hB (by have:=H.next;omega)
  ·have:=H.oi y (List.mem_of_getElem? hy) id bS
   exact⟨Nat.lt_of_lt_of_le this.1 mJ,this.2⟩
 ·rw[List.pairwise_iff_getElem]
  rw[List.pairwise_iff_getElem] at yJ
  intro a b ha hb OD id h1 h2
  rw[List.length_set] at ha hb
  rw[List.getElem_set] at h1 h2
  split at h1
  ·rename_i ea
   subst ea
   rw[if_neg (by omega)] at h2
   rcases(mg id h1).2 with hx|hx
   ·exact sO b own[b] (by omega) (List.getElem?_eq_getElem hb) id h2 hx
   ·have:=(H.oi _ (List.getElem_mem hb) id h2).1;omega
  ·split at h2
   ·rename_i eb
    subst eb
    rcases(mg id h2).2 with hx|hx
    ·exact sO a own[a] (by omega) (List.getElem?_eq_getElem ha) id h1 hx
    ·have:=(H.oi _ (List.getElem_mem ha) id h1).1;omega
   ·exact yJ a b ha hb OD id h1 h2
 ·intro φ jt
  exact aQ.fS (fun id bS=>yl id (H.ri φ jt id bS).1 ((H.ri φ jt id bS).2 x jr)) (H.rh φ jt)
 ·intro φ jt id bS
  have:=H.ri φ jt id bS
  refine⟨Nat.lt_of_lt_of_le this.1 mJ,fun y hy h=>?_⟩
  rcases E0 y hy with rfl|⟨j,hj,hy⟩
  ·rcases(mg id h).2 with hx|hx
   ·exact this.2 x jr hx
   ·omega
  ·exact this.2 y (List.mem_of_getElem? hy) h
theorem Cx.grow (H:Cx B M S own ro)(hg:aY S S1):Cx B M S1 own ro where
 next:=Nat.le_trans H.next hg.next
 iK:=fun id h1 h2=>by rw[hg.iK id (Nat.lt_of_lt_of_le h1 H.next),H.iK id h1 h2]
 oh:=fun x hx=>Own.fS (fun id bS=>hg.iK id (H.oi x hx id bS).1) (H.oh x hx)
 oi:=fun x hx id bS=>⟨Nat.lt_of_lt_of_le (H.oi x hx id bS).1 hg.next,(H.oi x hx id bS).2⟩
 od:=H.od
 rh:=fun φ jt=>aQ.fS (fun id bS=>hg.iK id (H.ri φ jt id bS).1) (H.rh φ jt)
 ri:=fun φ jt id bS=>⟨Nat.lt_of_lt_of_le (H.ri φ jt id bS).1 hg.next,(H.ri φ jt id bS).2⟩
theorem Cx.iv (H:Cx B M S own ro)(hg:aY S S1){x}(hx:x.holds S1)(mg:∀id∈x.ids,S.next≤id∧id<S1.next):Cx B M S1 (x::own) ro:=by
 have K:=H.grow hg
 refine⟨K.next,K.iK,?_,?_,?_,K.rh,?_⟩
 ·intro y hy
  rcases List.mem_cons.1 hy with rfl|hy
  ·exact hx
  ·exact K.oh y hy
 ·intro y hy id bS
  rcases List.mem_cons.1 hy with rfl|hy
  ·have:=mg id bS
   exact⟨this.2,fun hB=>absurd hB (by have:=H.next;omega)⟩
  ·exact K.oi y hy id bS
 ·refine List.pairwise_cons.2 ⟨fun y hy id h1 h2=>?_,K.od⟩
  have:=(H.oi y hy id h2).1
  have:=(mg id h1).1
  omega
 ·intro φ jt id bS
  refine⟨(K.ri φ jt id bS).1,fun y hy=>?_⟩
  rcases List.mem_cons.1 hy with rfl|hy
  ·intro h
   have:=(H.ri φ jt id bS).1
   have:=(mg id h).1
   omega
  ·exact(K.ri φ jt id bS).2 y hy
theorem Cx.yL (H:Cx B M S own ro){φ}(hx:φ.holds S)(mg:∀id∈φ.ids,id<S.next∧∀x∈own,id∉x.ids):Cx B M S own (φ::ro) where
 next:=H.next
 iK:=H.iK
 oh:=H.oh
 oi:=H.oi
 od:=H.od
 rh:=fun ψ KK=>by
  rcases List.mem_cons.1 KK with rfl|KK
  ·exact hx
  ·exact H.rh ψ KK
 ri:=fun ψ KK=>by
  rcases List.mem_cons.1 KK with rfl|KK
  ·exact mg
  ·exact H.ri ψ KK
theorem Cx.yM (H:Cx B M S own ro)(hg:aY S S1){φ}(hx:φ.holds S1)(mg:∀id∈φ.ids,S.next≤id∧id<S1.next):Cx B M S1 own (φ::ro):=
 (H.grow hg).yL hx fun id bS=>⟨(mg id bS).2,fun x hx h=>by have:=(H.oi x hx id h).1;have:=(mg id bS).1;omega⟩
theorem Cx.AA (H:Cx B M S own ro){RO}(h:∀φ∈RO,φ∈ro):Cx B M S own RO:=
 ⟨H.next,H.iK,H.oh,H.oi,H.od,fun φ jt=>H.rh φ (h φ jt),fun φ jt=>H.ri φ (h φ jt)⟩
theorem Cx.xh (H:Cx B M S own ro){ab}(h:ab.Sublist own):Cx B M S ab ro:=
 ⟨H.next,H.iK,fun x hx=>H.oh x (h.subset hx),fun x hx=>H.oi x (h.subset hx),H.od.sublist h,H.rh,fun φ jt id bS=>⟨(H.ri φ jt id bS).1,fun x hx=>(H.ri φ jt id bS).2 x (h.subset hx)⟩⟩
theorem Cx.tl {φ}(H:Cx B M S own (φ::ro)):Cx B M S own ro:=H.AA fun ψ h=>List.mem_cons_of_mem _ h
theorem Cx.cr (H:Cx B [] S own ro):aY B S:=⟨H.next,fun id h=>H.iK id h (by simp)⟩
theorem Cx.enter {ro}(h:∀φ∈ro,φ.holds S∧∀id∈φ.ids,id<S.next):Cx S [] S [] ro where
 next:=Nat.le_refl _
 iK:=fun _ _ _=>rfl
 oh:=fun _ h=>by simp at h
 oi:=fun _ h=>by simp at h
 od:=List.Pairwise.nil
 rh:=fun φ jt=>(h φ jt).1
 ri:=fun φ jt id bS=>⟨(h φ jt).2 id bS,fun _ h=>by simp at h⟩
end
end
section
section
variable{P:Program}
theorem bh {α β:Type}{s:Sem α}{f:α→Sem β}:∀{a:α},bm P s=some a→bm P (s>>=f)=bm P (f a):=by
 induction s with
 |pure a=>intro b h;simp[bm] at h;subst h;rfl
 |program k ih=>intro b h;exact ih P h
 |mark m k ih=>intro b h;exact ih h
 |_=>intro b h;simp[bm] at h
theorem fp {α:Type}(a:α):bm P (pure a:Sem α)=some a:=rfl
theorem eC:bm P program=some P:=rfl
theorem dg {t:TypeId}{d:TypeDesc}(h:P.underlying t=some d):bm P (underlying t)=some d:=by
 unfold underlying
 rw[bh eC,h];rfl
theorem tz {t:TypeId}{n:Nat}(h:aG P t=some n):bm P (sizeOf t)=some n:=by
 unfold aG at h
 cases hi:P.info? t with
 |none=>rw[hi] at h;cases h
 |some i=>
  rw[hi] at h
  cases h
  have ht:bm P (typeInfo t)=some i:=by
   unfold typeInfo
   rw[bh eC,hi];rfl
  unfold sizeOf
  rw[bh ht];rfl
def rv (rec:TypeId→Option (List (Option IntKind)))(P:Program):List Field→Nat→Option (List (Option IntKind))
 |[],_=>some []
 |f::fs,off=>if f.name= "_" then none else if f.offset≠off then none else match rec f.type with
  |none=>none
  |some ks=>if aG P f.type=some ks.length then(match rv rec P fs (off+ks.length) with|some l=>some (ks++l)|none=>none) else none
def eV (P:Program):Nat→TypeId→Option (List (Option IntKind))
 |0,_=>none
 |d+1,t=>match P.underlying t with
  |some .bool=>some [none]
  |some (.int k)=>some [some k]
  |some (.struct fs)=>if P.stoodInHeld t then none else rv (eV P d) P fs.toList 0
  |_=>none
def hZ:Option IntKind→Value→Bool
 |none,.bool _=>true
 |some k,.int k' _=>decide (k=k')
 |_,_=>false
def aA:List (Option IntKind)→List Value→Bool
 |[],[]=>true
 |k::ks,v::vs=>hZ k v&&aA ks vs
 |_,_=>false
def RP:Value→Value→Bool
 |.bool a,.bool b=>a==b
 |.int _ a,.int _ b=>a==b
 |_,_=>false
def mh:List Value→List Value→Bool
 |[],[]=>true
 |a::r,b::s=>RP a b&&mh r s
 |_,_=>false
theorem dJ:∀{ks} {vs},aA ks vs=true→vs.length=ks.length
 |[],[],_=>rfl
 |[],_::_,h=>by simp[aA] at h
 |_::_,[],h=>by simp[aA] at h
 |_::ks,_::vs,h=>by simp only[aA,Bool.and_eq_true] at h;simp[dJ h.2]
theorem ke:∀{ks ls} {vs},aA (ks++ls) vs=true→aA ks (vs.take ks.length)=true∧aA ls (vs.drop ks.length)=true
 |[],ls,vs,h=>by simpa[aA] using h
 |k::ks,ls,[],h=>by simp[aA] at h
 |k::ks,ls,v::vs,h=>by
  simp only[List.cons_append,aA,Bool.and_eq_true] at h
  obtain⟨h1,h2⟩:=ke h.2
  simp[aA,h.1,h1,h2]
theorem ry:∀{n:Nat} {xs ys},xs.length=ys.length→mh xs ys=(mh (xs.take n) (ys.take n)&&mh (xs.drop n) (ys.drop n))
 |0,xs,ys,h=>by simp[mh]
 |n+1,[],[],h=>by simp[mh]
 |n+1,[],_::_,h=>by simp at h
 |n+1,_::_,[],h=>by simp at h
 |n+1,x::xs,y::ys,h=>by
  simp only[List.take_succ_cons,List.drop_succ_cons,mh]
  rw[ry (n:=n) (by simpa using h),Bool.and_assoc]
def g_ (P:Program)(t:TypeId)(vs:List Value):Value:=match P.underlying t with
 |some (.struct _)=>.agg vs.toArray
 |_=>vs.headD undef
theorem vU {d:Nat}{t:TypeId}{ks:List (Option IntKind)}(hf:eV P d t=some ks)(hs:aG P t=some ks.length){xs:List Value}{off:Nat}(hl:off+ks.length≤xs.length):
  bm P (part t xs.toArray off)=some (g_ P t ((xs.drop off).take ks.length)):=by
 cases d with
 |zero=>simp[eV] at hf
 |succ d=>
  unfold eV at hf
  cases hu:P.underlying t with
  |none=>rw[hu] at hf;cases hf
  |some u=>
   rw[hu] at hf
   have one:∀k,ks=[k]→(isAgg t=isAgg t)→bm P (isAgg t)=some false→bm P (part t xs.toArray off)=some (((xs.drop off).take ks.length).headD undef):=by
    intro k hk _ ha
    subst hk
    unfold part
    rw[bh ha]
    have dN:off<xs.length:=by simp at hl;omega
    have h1:xs.toArray[off]?=some xs[off]:=by simp[dN]
    simp only[Bool.false_eq_true,if_false,h1,fp]
    simp only[List.length_cons,List.length_nil]
    rw[List.drop_eq_getElem_cons dN];rfl
   have agg:∀b,(match u with|.struct _=>b=true|.array _ _=>b=true|_=>b=false)→bm P (isAgg t)=some b:=by
    intro b hb
    unfold isAgg
    rw[bh (dg hu)]
    cases u<;>simp only at hb⊢<;>subst hb<;>rfl
   cases u with
   |bool=>cases hf;unfold g_;rw[hu];exact one _ rfl rfl (agg false rfl)
   |int k=>cases hf;unfold g_;rw[hu];exact one _ rfl rfl (agg false rfl)
   |struct fs=>
    unfold g_ part
    rw[hu,bh (agg true rfl)]
    simp only[if_true]
    rw[bh (tz hs)]
    simp only[fp,Option.some.injEq,Value.agg.injEq]
    apply Array.toList_inj.1
    simp[List.take_drop]
   |_=>cases hf
theorem tA:∀(d:Nat) (t:TypeId) (ks:List (Option IntKind)),eV P d t=some ks→∀(D:Nat),d≤D→∀xs ys:List Value,aA ks xs=true→aA ks ys=true→
  bm P (Op.equalIn D t (g_ P t xs) (g_ P t ys))=some (mh xs ys)
 |0,t,ks,hf,_,_,_,_,_,_=>by simp[eV] at hf
 |d+1,t,ks,hf,0,hD,_,_,_,_=>by omega
 |d+1,t,ks,hf,D+1,hD,xs,ys,hx,hy=>by
  unfold eV at hf
  cases hu:P.underlying t with
  |none=>rw[hu] at hf;cases hf
  |some u=>
   rw[hu] at hf
   cases u with
   |bool=>
    cases hf
    cases xs with
    |nil=>simp[aA] at hx
    |cons x xs=>
     cases ys with
     |nil=>simp[aA] at hy
     |cons y ys=>
      simp only[aA,Bool.and_eq_true] at hx hy
      cases xs with
      |cons _ _=>simp[aA] at hx
      |nil=>
       cases ys with
       |cons _ _=>simp[aA] at hy
       |nil=>
        cases x<;>simp[hZ] at hx
        cases y<;>simp[hZ] at hy
        unfold g_ Op.equalIn
        rw[hu,bh (dg hu)]
        simp[mh,RP,fp]
   |int k=>
    cases hf
    cases xs with
    |nil=>simp[aA] at hx
    |cons x xs=>
     cases ys with
     |nil=>simp[aA] at hy
     |cons y ys=>
      simp only[aA,Bool.and_eq_true] at hx hy
      cases xs with
      |cons _ _=>simp[aA] at hx
      |nil=>
       cases ys with
       |cons _ _=>simp[aA] at hy
       |nil=>
        cases x<;>simp[hZ] at hx
        cases y<;>simp[hZ] at hy
        have hx:=hx.1
        have hy:=hy.1
        subst hx
        subst hy
        unfold g_ Op.equalIn
        rw[hu,bh (dg hu)]
        simp[mh,RP,fp]
   |struct fs=>
    simp only at hf
    cases Nh:P.stoodInHeld t with
    |true=>rw[Nh] at hf;simp at hf
    |false=>
     rw[Nh] at hf
     simp only[Bool.false_eq_true,if_false] at hf
     unfold g_ Op.equalIn
     rw[hu,bh (dg hu)]
     simp only
     rw[bh eC]
     simp only[Nh,Bool.false_eq_true,if_false]
     rw[←Array.forIn_toList]
     have key:∀(fs:List Field) (off:Nat) (ks:List (Option IntKind)),rv (eV P d) P fs off=some ks→aA ks (xs.drop off)=true→aA ks (ys.drop off)=true→(off≤xs.length∧off≤ys.length)→
       bm P (do
        let s ←forIn (m:=Sem) fs ((none,()):Option Bool×Unit) (fun f s=>
         if f.name≠ "_" then do
          let a ←part f.type xs.toArray f.offset
          let b ←part f.type ys.toArray f.offset
          let c ←Op.equalIn D f.type a b
          if(!c)=true then pure (ForInStep.done (some false,())) else pure (ForInStep.yield (none,()))
         else pure (ForInStep.yield (none,())))
        match s.fst with
        |some a=>pure a
        |none=>pure true)=some (mh (xs.drop off) (ys.drop off)):=by
      intro fs
      induction fs with
      |nil=>
       intro off ks hf hx hy hle
       cases hf
       have e1:xs.drop off=[]:=List.length_eq_zero_iff.1 (dJ hx)
       have e2:ys.drop off=[]:=List.length_eq_zero_iff.1 (dJ hy)
       rw[e1,e2]
       rfl
      |cons f fs ih=>
       intro off ks hf hx hy hle
       unfold rv at hf
       by_cases hn:f.name= "_"
       ·rw[if_pos hn] at hf;cases hf
       ·rw[if_neg hn] at hf
        by_cases ho:f.offset≠off
        ·rw[if_pos ho] at hf;cases hf
        ·rw[if_neg ho] at hf
         have ho:f.offset=off:=by omega
         cases hr:eV P d f.type with
         |none=>rw[hr] at hf;cases hf
         |some k1=>
          rw[hr] at hf
          simp only at hf
          by_cases hs:aG P f.type=some k1.length
          ·rw[if_pos hs] at hf
           cases tB:rv (eV P d) P fs (off+k1.length) with
           |none=>rw[tB] at hf;cases hf
           |some k2=>
            rw[tB] at hf
            cases hf
            obtain⟨x1,x2⟩:=ke hx
            obtain⟨y1,y2⟩:=ke hy
            have lx:=dJ hx
            have ly:=dJ hy
            simp only[List.length_drop,List.length_append] at lx ly
            rw[List.drop_drop] at x2 y2
            have ih:=ih (off+k1.length) k2 tB x2 y2 ⟨by omega,by omega⟩
            have WN:=vU (P:=P) hr hs (xs:=xs) (off:=f.offset) (by omega)
            have WO:=vU (P:=P) hr hs (xs:=ys) (off:=f.offset) (by omega)
            rw[ho] at WN WO
            have he:=tA d f.type k1 hr D (by omega) _ _ x1 y1
            rw[List.forIn_cons]
            simp only[hn,ne_eq,not_false_eq_true,if_true,bind_assoc,ho]
            rw[bh WN,bh WO,bh he]
            have E1:=ry (n:=k1.length) (xs:=xs.drop off) (ys:=ys.drop off) (by simp;omega)
            rw[List.drop_drop,List.drop_drop] at E1
            rw[E1]
            cases hb:mh ((xs.drop off).take k1.length) ((ys.drop off).take k1.length) with
            |false=>simp[fp,pure_bind]
            |true=>
             simp only[Bool.not_true,Bool.false_eq_true,if_false,pure_bind,Bool.true_and]
             exact ih
          ·rw[if_neg hs] at hf;cases hf
     have:=key fs.toList 0 ks hf (by simpa using hx) (by simpa using hy) ⟨by omega,by omega⟩
     rw[List.drop_zero,List.drop_zero] at this
     refine Eq.trans (congrArg (bm P) ?_) this
     congr 1
     funext s
     obtain⟨a,b⟩:=s
     cases a<;>rfl
   |_=>cases hf
end
end
section
abbrev I (n:Int):AV:=.sc (.int .i64 n)
abbrev U (n:Int):AV:=.sc (.int .u64 n)
abbrev B (b:Bool):AV:=.sc (.bool b)
abbrev Np:AV:=.sc (.pointer none)
abbrev Ns:AV:=.sc (.slice none 0 0)
abbrev Nm:AV:=.sc (.map none)
abbrev Nf:AV:=.sc .nilFunc
abbrev Ni:AV:=.sc .nilIface
abbrev Z (κ:IntKind)(n:Int):AV:=.sc (.int κ n)
theorem aP (κ:IntKind):mn κ κ=true:=by cases κ<;>rfl
theorem wrap64 {n:Int}(h1:-9223372036854775808≤n)(h2:n≤9223372036854775807):fw .i64 n=n:=by
 rw[bo,IntKind.wrap_i64];omega
section
variable{M:ef}{S:AH}{Q:hX}{k:AV→AC}{κ:IntKind}{a b:Int}
theorem OE:evalOp M.P (.bin .add (Z κ a) (Z κ b)) S=some (Z κ (fw κ (a+b)),S):=by
 show et (either (cZ _ (Z κ a) (Z κ b)) _) S=_
 simp only[cZ,asInt,kX,aP];rfl
theorem OF:evalOp M.P (.bin .sub (Z κ a) (Z κ b)) S=some (Z κ (fw κ (a-b)),S):=by
 show et (JZ (Z κ a) (Z κ b)) S=_
 unfold JZ
 simp only[cZ,asInt,kX,aP];rfl
theorem OG:evalOp M.P (.bin .mul (Z κ a) (Z κ b)) S=some (Z κ (fw κ (a*b)),S):=by
 show et (J0 (Z κ a) (Z κ b)) S=_
 unfold J0
 simp only[cZ,asInt,kX,aP];rfl
theorem OH (h:b≠0):evalOp M.P (.bin .quo (Z κ a) (Z κ b)) S=some (Z κ (fw κ (a.tdiv b)),S):=by
 show et (J1 (Z κ a) (Z κ b)) S=_
 unfold J1
 have:G1 b 0=false:=by rw[fD];simpa using h
 simp only[cZ,asInt,kX,aP,this];rfl
theorem OI (h:b≠0):evalOp M.P (.bin .rem (Z κ a) (Z κ b)) S=some (Z κ (a.tmod b),S):=by
 show et (J2 (Z κ a) (Z κ b)) S=_
 unfold J2
 have:G1 b 0=false:=by rw[fD];simpa using h
 simp only[cZ,asInt,kX,aP,this];rfl
theorem E2:evalOp M.P (.bin .lss (Z κ a) (Z κ b)) S=some (B (decide (a<b)),S):=by
 show et (either (cZ _ (Z κ a) (Z κ b)) _) S=_
 simp only[cZ,asInt,kX,aP,fP];rfl
theorem E3:evalOp M.P (.bin .leq (Z κ a) (Z κ b)) S=some (B (decide (a≤b)),S):=by
 show et (either (cZ _ (Z κ a) (Z κ b)) _) S=_
 have:(!decide (b<a))=decide (a≤b):=by rw[Bool.eq_iff_iff];simp
 simp only[cZ,asInt,kX,aP,fP,this];rfl
theorem E4:evalOp M.P (.bin .gtr (Z κ a) (Z κ b)) S=some (B (decide (b<a)),S):=by
 show et (either (cZ _ (Z κ a) (Z κ b)) _) S=_
 simp only[cZ,asInt,kX,aP,fP];rfl
theorem E5:evalOp M.P (.bin .geq (Z κ a) (Z κ b)) S=some (B (decide (b≤a)),S):=by
 show et (either (cZ _ (Z κ a) (Z κ b)) _) S=_
 have:(!decide (a<b))=decide (b≤a):=by rw[Bool.eq_iff_iff];simp
 simp only[cZ,asInt,kX,aP,fP,this];rfl
theorem BR:evalOp M.P (.bin .eql (Z κ a) (Z κ b)) S=some (B (decide (a=b)),S):=by
 show et (either (cZ _ (Z κ a) (Z κ b)) _) S=_
 have:(a==b)=decide (a=b):=by rw[Bool.eq_iff_iff];simp
 simp only[cZ,asInt,kX,aP,fD,this];rfl
theorem E6:evalOp M.P (.bin .neq (Z κ a) (Z κ b)) S=some (B (decide (a≠b)),S):=by
 show et (either (cZ _ (Z κ a) (Z κ b)) _) S=_
 have:(!(a==b))=decide (a≠b):=by rw[Bool.eq_iff_iff];simp
 simp only[cZ,asInt,kX,aP,fD,this];rfl
theorem tC {c:Int}(hw:fw κ (a+b)=c)(h:wp M (k (Z κ c)) S Q):wp M (.op (.bin .add (Z κ a) (Z κ b)) k) S Q:=ae OE (hw▸h)
theorem tD {c:Int}(hw:fw κ (a-b)=c)(h:wp M (k (Z κ c)) S Q):wp M (.op (.bin .sub (Z κ a) (Z κ b)) k) S Q:=ae OF (hw▸h)
theorem E7 {c:Int}(hw:fw κ (a*b)=c)(h:wp M (k (Z κ c)) S Q):wp M (.op (.bin .mul (Z κ a) (Z κ b)) k) S Q:=ae OG (hw▸h)
theorem KL {c:Int}(hb:b≠0)(hw:fw κ (a.tdiv b)=c)(h:wp M (k (Z κ c)) S Q):wp M (.op (.bin .quo (Z κ a) (Z κ b)) k) S Q:=ae (OH hb) (hw▸h)
theorem E8 (hb:b≠0)(h:wp M (k (Z κ (a.tmod b))) S Q):wp M (.op (.bin .rem (Z κ a) (Z κ b)) k) S Q:=ae (OI hb) h
theorem cg (h1:-9223372036854775808≤a+b)(h2:a+b≤9223372036854775807)(h:wp M (k (I (a+b))) S Q):wp M (.op (.bin .add (I a) (I b)) k) S Q:=tC (wrap64 h1 h2) h
theorem kM (h1:-9223372036854775808≤a-b)(h2:a-b≤9223372036854775807)(h:wp M (k (I (a-b))) S Q):wp M (.op (.bin .sub (I a) (I b)) k) S Q:=tD (wrap64 h1 h2) h
theorem mR (h0:a<b)(h:wp M (k (B true)) S Q):wp M (.op (.bin .lss (Z κ a) (Z κ b)) k) S Q:=ae E2 (by rw[decide_eq_true h0];exact h)
theorem ja (h0:b≤a)(h:wp M (k (B false)) S Q):wp M (.op (.bin .lss (Z κ a) (Z κ b)) k) S Q:=ae E2 (by rw[decide_eq_false (by omega)];exact h)
theorem fE (h1:a<b→wp M (k (B true)) S Q)(h2:b≤a→wp M (k (B false)) S Q):wp M (.op (.bin .lss (Z κ a) (Z κ b)) k) S Q:=
 if h:a<b then mR h (h1 h) else ja (by omega) (h2 (by omega))
theorem E9 (h0:a≤b)(h:wp M (k (B true)) S Q):wp M (.op (.bin .leq (Z κ a) (Z κ b)) k) S Q:=ae E3 (by rw[decide_eq_true h0];exact h)
theorem E_ (h0:b<a)(h:wp M (k (B false)) S Q):wp M (.op (.bin .leq (Z κ a) (Z κ b)) k) S Q:=ae E3 (by rw[decide_eq_false (by omega)];exact h)
theorem mS (h1:a≤b→wp M (k (B true)) S Q)(h2:b<a→wp M (k (B false)) S Q):wp M (.op (.bin .leq (Z κ a) (Z κ b)) k) S Q:=
 if h:a≤b then E9 h (h1 h) else E_ (by omega) (h2 (by omega))
theorem Fa (h0:b<a)(h:wp M (k (B true)) S Q):wp M (.op (.bin .gtr (Z κ a) (Z κ b)) k) S Q:=ae E4 (by rw[decide_eq_true h0];exact h)
theorem tE (h0:a≤b)(h:wp M (k (B false)) S Q):wp M (.op (.bin .gtr (Z κ a) (Z κ b)) k) S Q:=ae E4 (by rw[decide_eq_false (by omega)];exact h)
theorem iw (h1:b<a→wp M (k (B true)) S Q)(h2:a≤b→wp M (k (B false)) S Q):wp M (.op (.bin .gtr (Z κ a) (Z κ b)) k) S Q:=
 if h:b<a then Fa h (h1 h) else tE (by omega) (h2 (by omega))
theorem Fb (h0:b≤a)(h:wp M (k (B true)) S Q):wp M (.op (.bin .geq (Z κ a) (Z κ b)) k) S Q:=ae E5 (by rw[decide_eq_true h0];exact h)
theorem Fc (h0:a<b)(h:wp M (k (B false)) S Q):wp M (.op (.bin .geq (Z κ a) (Z κ b)) k) S Q:=ae E5 (by rw[decide_eq_false (by omega)];exact h)
theorem jb (h1:b≤a→wp M (k (B true)) S Q)(h2:a<b→wp M (k (B false)) S Q):wp M (.op (.bin .geq (Z κ a) (Z κ b)) k) S Q:=
 if h:b≤a then Fb h (h1 h) else Fc (by omega) (h2 (by omega))
theorem Ff (h0:a=b)(h:wp M (k (B true)) S Q):wp M (.op (.bin .eql (Z κ a) (Z κ b)) k) S Q:=ae BR (by rw[decide_eq_true h0];exact h)
theorem Fg (h0:a≠b)(h:wp M (k (B false)) S Q):wp M (.op (.bin .eql (Z κ a) (Z κ b)) k) S Q:=ae BR (by rw[decide_eq_false h0];exact h)
theorem kf (h1:a=b→wp M (k (B true)) S Q)(h2:a≠b→wp M (k (B false)) S Q):wp M (.op (.bin .eql (Z κ a) (Z κ b)) k) S Q:=
 if h:a=b then Ff h (h1 h) else Fg h (h2 h)
theorem tF (h0:a≠b)(h:wp M (k (B true)) S Q):wp M (.op (.bin .neq (Z κ a) (Z κ b)) k) S Q:=ae E6 (by rw[decide_eq_true h0];exact h)
theorem yN (h0:a=b)(h:wp M (k (B false)) S Q):wp M (.op (.bin .neq (Z κ a) (Z κ b)) k) S Q:=ae E6 (by rw[decide_eq_false (by simpa using h0)];exact h)
theorem fT (h1:a≠b→wp M (k (B true)) S Q)(h2:a=b→wp M (k (B false)) S Q):wp M (.op (.bin .neq (Z κ a) (Z κ b)) k) S Q:=
 if h:a=b then yN h (h2 h) else tF h (h1 h)
theorem dS {g:Bool}{o}(h:wp M (.op o k) S Q):wp M (.sG (B g) g o k) S Q:=by
 obtain⟨t,vs,S',⟨n0,h1⟩,h2⟩:=h
 refine⟨t,vs,S',⟨n0,fun n hn=>?_⟩,h2⟩
 have:=h1 n hn
 rw[gL] at this
 rw[sm]
 unfold qv
 cases g<;>exact this
theorem dG {g g':Bool}{o}(hg:g'=!g)(h:wp M (k uv) S Q):wp M (.sG (B g) g' o k) S Q:=tr (by subst hg;cases g<;>rfl) h
theorem dT {g':Bool}{o}(h:wp M (k uv) S Q):wp M (.sG uv g' o k) S Q:=tr rfl h
theorem cw {g:Bool}{f args}(h:wp M (.call f args k) S Q):wp M (.hG (B g) g f args k) S Q:=by
 obtain⟨t,vs,S',⟨n0,h1⟩,h2⟩:=h
 refine⟨t,vs,S',⟨n0,fun n hn=>?_⟩,h2⟩
 have:=h1 n hn
 rw[mK] at this
 rw[qA]
 unfold my
 cases g<;>exact this
theorem cj {g g':Bool}{f args}(hg:g'=!g)(h:wp M (k uv) S Q):wp M (.hG (B g) g' f args k) S Q:=pD (by subst hg;cases g<;>rfl) h
theorem cy {g':Bool}{f args}(h:wp M (k uv) S Q):wp M (.hG uv g' f args k) S Q:=pD rfl h
theorem cD {x y}(h:wp M x S Q):wp M (.ite (B true) x y) S Q:=EX h
theorem cE {x y}(h:wp M y S Q):wp M (.ite (B false) x y) S Q:=EX h
theorem Fh {c:Bool}{x y}(h1:c=true→wp M x S Q)(h2:c=false→wp M y S Q):wp M (.ite (B c) x y) S Q:=by
 cases c with
 |true=>exact cD (h1 rfl)
 |false=>exact cE (h2 rfl)
theorem uY {op t x y}{a b:Bool}:bm M.P (eqGuard op t x y (.bool a) (.bool b))=some ():=by
 cases op<;>rfl
theorem OJ {t}{x y n:Bool}(ht:M.P.underlying t=some .bool):evalOp M.P (.eq t n (B x) (B y)) S=some (B (if n then !(x==y) else(x==y)),S):=by
 show et (DA M.P t n (B x) (B y)) S=_
 have h2:x5 M.P t (B x) (B y)=some (x==y):=by
  unfold x5 Hd
  have h1:qu (B x)=some (.bool x):=by simp[qu]
  have h2:qu (B y)=some (.bool y):=by simp[qu]
  have h3:bm M.P (Op.equal t (.bool x) (.bool y))=some (x==y):=by
   show bm M.P (Op.equalIn (9999+1) t (.bool x) (.bool y))=_
   unfold Op.equalIn
   rw[bh (dg ht)]
   rfl
  have h4:hH (B x)=none:=rfl
  have e1:jW (B x)=0:=rfl
  have e2:jW (B y)=0:=rfl
  simp only[e1,e2,h1,h2,h3,h4,uY,mo]
  rfl
 unfold DA
 rw[h2]
 cases n<;>rfl
theorem BS {cs vs}(h:rN cs=some vs):qu (.agg cs)=some (.agg vs.toArray):=by simp[qu,h]
theorem OK {t ks}{d:Nat}{xs ys vx vy}{n:Bool}(hf:eV M.P d t=some ks)(hd:d≤10000){fs}(hu:M.P.underlying t=some (.struct fs))
  (hg:M.P.eqGuardType M.P.depth t=false) (h1:rN xs=some vx) (h2:rN ys=some vy) (h3:aA ks vx=true) (h4:aA ks vy=true):
  evalOp M.P (.eq t n (.agg xs) (.agg ys)) S=some (B (if n then !(mh vx vy) else mh vx vy),S):=by
 show et (DA M.P t n (.agg xs) (.agg ys)) S=_
 have h5:x5 M.P t (.agg xs) (.agg ys)=some (mh vx vy):=by
  unfold x5 Hd
  have g1:=BS h1
  have g2:=BS h2
  have g3:bm M.P (Op.equal t (.agg vx.toArray) (.agg vy.toArray))=some (mh vx vy):=by
   have:=tA d t ks hf 10000 hd vx vy h3 h4
   unfold g_ at this
   rw[hu] at this
   exact this
  have g4:hH (.agg xs)=none:=rfl
  have e1:jW (.agg xs)=0:=rfl
  have e2:jW (.agg ys)=0:=rfl
  have g5:bm M.P (eqGuard .eql t (.tmp 0) (.tmp 0) (.agg vx.toArray) (.agg vy.toArray))=some ():=by
   unfold eqGuard
   simp only[Bool.not_true,Bool.false_eq_true,if_false]
   rw[bh eC,bh eC]
   simp[hg,fp]
  simp only[e1,e2,g1,g2,g3,g4,g5,mo]
  rfl
 unfold DA
 rw[h5]
 cases n<;>rfl
theorem vV:∀{ks} {vs},aA ks vs=true→mh vs vs=true
 |[],[],_=>rfl
 |[],_::_,h=>by simp[aA] at h
 |_::_,[],h=>by simp[aA] at h
 |k::ks,v::vs,h=>by
  simp only[aA,Bool.and_eq_true] at h
  simp only[mh,vV h.2,Bool.and_true]
  cases v<;>cases k<;>simp[hZ] at h<;>simp[RP]
end
end
section
theorem dB {S:AH}{id:Nat}{c:List AV}(h:S.get id=some (.row c)):S.cells? id=some c:=by unfold AH.cells?;rw[h];rfl
theorem BT {S:AH}{id:Nat}{c:List AV}(h:S.get id=some (.row c)):S.row? id=some c:=by unfold AH.row?;rw[h];rfl
theorem bN (S:AH)(o:AO):(S.new o).get S.next=some o:=by rw[AH.bZ,if_pos rfl]
theorem dy {a b:Nat}(h:a≤b):Nat.ble a b=true:=Nat.ble_eq_true_of_le h
theorem lF {cs}{off:Nat}{v}(h:cs[off]?=some v):eZ false cs off 1=some v:=by
 show x6 cs off=_
 rw[nt];exact h
theorem lG {cs}{off n:Nat}(h:off+n≤cs.length):eZ true cs off n=some (.agg ((cs.drop off).take n)):=by
 unfold eZ
 have:Nat.ble (Nat.add off n) (bI cs)=true:=by rw[aZ];exact dy h
 simp only[this,ct,dF]
section
variable{M:ef}{B0 S:AH}{W:List Nat}{own:List Own}{ro:List aQ}{Q:hX}{k:AV→AC}
theorem tG {id off j:Nat}{cs v}(h:(aQ.pt id off cs).holds S)(hj:cs[j]?=some v):∃c,S.cells? id=some c∧c[off+j]?=some v:=by
 obtain⟨c,h1,_,h2⟩:=h
 refine⟨c,h1,?_⟩
 rw[←h2,List.getElem?_take,List.getElem?_drop] at hj
 split at hj
 ·exact hj
 ·cases hj
theorem KM {id off j n:Nat}{cs}(h:(aQ.pt id off cs).holds S)(hj:j+n≤cs.length):∃c,S.cells? id=some c∧off+j+n≤c.length∧(c.drop (off+j)).take n=(cs.drop j).take n:=by
 obtain⟨c,h1,hl,h2⟩:=h
 refine⟨c,h1,by omega,?_⟩
 rw[←h2,List.drop_take,List.drop_drop,List.take_take,Nat.min_eq_left (by omega)]
theorem jI {id off:Nat}{c v}(h1:S.cells? id=some c)(h2:c[off]?=some v):evalOp M.P (.load 1 false (.ptr id off)) S=some (v,S):=by
 show et (lX S 1 false (.ptr id off)) S=_
 have:lX S 1 false (.ptr id off)=some v:=by
  show(match S.cells? id with|some c=>eZ false c off 1|none=>none)=_
  rw[h1];exact lF h2
 rw[this];rfl
theorem xi {id off n:Nat}{c}(h1:S.cells? id=some c)(h2:off+n≤c.length):evalOp M.P (.load n true (.ptr id off)) S=some (.agg ((c.drop off).take n),S):=by
 show et (lX S n true (.ptr id off)) S=_
 have:lX S n true (.ptr id off)=some (.agg ((c.drop off).take n)):=by
  show(match S.cells? id with|some c=>eZ true c off n|none=>none)=_
  rw[h1];exact lG h2
 rw[this];rfl
theorem pE (H:Cx B0 W S own ro){id off j:Nat}{cs v}(hm:aQ.pt id off cs∈ro)(hj:cs[j]?=some v)(h:wp M (k v) S Q):wp M (.op (.load 1 false (.ptr id (Nat.add off j))) k) S Q:=by
 obtain⟨c,h1,h2⟩:=tG (H.rh _ hm) hj
 exact ae (jI h1 h2) h
theorem Fi (H:Cx B0 W S own ro){id off:Nat}{cs v}(hm:aQ.pt id off cs∈ro)(hj:cs[0]?=some v)(h:wp M (k v) S Q):wp M (.op (.load 1 false (.ptr id off)) k) S Q:=
 pE (j:=0) H hm hj h
theorem pF (H:Cx B0 W S own ro){id off j n:Nat}{cs}(hm:aQ.pt id off cs∈ro)(hj:j+n≤cs.length)(h:wp M (k (.agg ((cs.drop j).take n))) S Q):wp M (.op (.load n true (.ptr id (Nat.add off j))) k) S Q:=by
 obtain⟨c,h1,h2,h3⟩:=KM (H.rh _ hm) hj
 exact ae (xi h1 h2) (h3▸h)
theorem tH (H:Cx B0 W S own ro){id off n:Nat}{cs}(hm:aQ.pt id off cs∈ro)(hj:n≤cs.length)(h:wp M (k (.agg (cs.take n))) S Q):wp M (.op (.load n true (.ptr id off)) k) S Q:=
 pF (j:=0) H hm (by omega) h
theorem fU (H:Cx B0 W S own ro){x:AV}(ho:ep x=false)(h:∀id S1,Cx B0 W S1 own (.pt id 0 x.cells::ro)→wp M (k (.ptr id 0)) S1 Q):wp M (.op (.box x) k) S Q:=by
 refine ae (v:=.ptr S.next 0) (S1:=S.new (.row x.cells)) ?_ (h _ _ (H.yM (aY.new S _) ?_ ?_))
 ·show zV x S=_
  unfold zV;rw[ho];rfl
 ·exact⟨x.cells,dB (bN _ _),by omega,by simp⟩
 ·intro id bS
  simp only[aQ.ids,List.mem_singleton] at bS
  subst bS
  exact⟨Nat.le_refl _,by simp⟩
theorem fq (H:Cx B0 W S own ro){x}(ho:ep x=false)(h:∀id S1,Cx B0 W S1 (.obj id (.row x.cells)::own) ro→wp M (k (.ptr id 0)) S1 Q):wp M (.op (.box x) k) S Q:=by
 refine ae (v:=.ptr S.next 0) (S1:=S.new (.row x.cells)) ?_ (h _ _ (H.iv (aY.new S _) (bN _ _) ?_))
 ·show zV x S=_
  unfold zV;rw[ho];rfl
 ·intro id bS
  simp only[Own.ids,List.mem_singleton] at bS
  subst bS
  exact⟨Nat.le_refl _,by simp⟩
theorem gr (H:Cx B0 W S own ro){c}(h:∀id S1,Cx B0 W S1 (.obj id (.row c)::own) ro→wp M (k (.ptr id 0)) S1 Q):wp M (.op (.alloc c) k) S Q:=by
 refine ae (v:=.ptr S.next 0) (S1:=S.new (.row c)) rfl (h _ _ (H.iv (aY.new S _) (bN _ _) ?_))
 intro id bS
 simp only[Own.ids,List.mem_singleton] at bS
 subst bS
 exact⟨Nat.le_refl _,by simp⟩
theorem Cx.freeze (H:Cx B0 W S own ro){i id:Nat}{c:List AV}(hi:own[i]?=some (.obj id (.row c))):Cx B0 W S (own.eraseIdx i) (.pt id 0 c::ro):=by
 have jr:=List.mem_of_getElem? hi
 have CW:∀x∈own.eraseIdx i,x∈own:=fun x hx=>List.mem_of_mem_eraseIdx hx
 have K:Cx B0 W S (own.eraseIdx i) ro:=⟨H.next,H.iK,fun x hx=>H.oh x (CW x hx),fun x hx=>H.oi x (CW x hx),H.od.sublist (List.eraseIdx_sublist _ _),H.rh,fun φ jt id bS=>⟨(H.ri φ jt id bS).1,fun x hx=>(H.ri φ jt id bS).2 x (CW x hx)⟩⟩
 refine K.yL ⟨c,dB (H.oh _ jr),by omega,by simp⟩ fun j hj=>?_
 simp only[aQ.ids,List.mem_singleton] at hj
 subst hj
 refine⟨(H.oi _ jr j (by simp[Own.ids])).1,fun x hx hj=>?_⟩
 obtain⟨m,hm⟩:=List.getElem?_of_mem hx
 have hp:=H.od
 rw[List.pairwise_iff_getElem] at hp
 obtain⟨yK,uX⟩:=List.getElem?_eq_some_iff.1 hi
 rw[List.getElem?_eraseIdx] at hm
 split at hm
 ·rename_i dN
  obtain⟨DK,vR⟩:=List.getElem?_eq_some_iff.1 hm
  exact hp m i DK yK dN j (by rw[vR];exact hj) (by rw[uX];simp[Own.ids])
 ·rename_i G2
  obtain⟨DK,vR⟩:=List.getElem?_eq_some_iff.1 hm
  exact hp i (m+1) yK DK (by omega) j (by rw[uX];simp[Own.ids]) (by rw[vR];exact hj)
theorem fI (H:Cx B0 W S own ro)(i:Nat){id off n:Nat}{c:List AV}{v:AV}(hi:own[i]?=some (.obj id (.row c)))(ho:ep v=false)(hn:v.cells.length=n)(hl:off+n≤c.length)
  (h:∀S1,Cx B0 W S1 (own.set i (.obj id (.row (aL c off v.cells)))) ro→wp M (k uv) S1 Q):wp M (.op (.store n (.ptr id off) v) k) S Q:=by
 have hg:S.get id=some (.row c):=H.oh _ (List.mem_of_getElem? hi)
 refine ae (v:=uv) (S1:=S.set id (.row (aL c off v.cells))) ?_ (h _ (H.step hi (Nat.le_refl _) ?_ ?_ ?_))
 ·show oc n (.ptr id off) v S=_
  unfold oc
  have h1:hH (.ptr id off)=some (id,off):=rfl
  have h2:(not (ep v)&&Nat.beq (bI v.cells) n&&Nat.ble (Nat.add off n) (bI c))=true:=by
   have q1:Nat.beq (bI v.cells) n=true:=by rw[aZ,hn];exact Nat.beq_refl n
   have q2:Nat.ble (Nat.add off n) (bI c)=true:=by rw[aZ];exact dy hl
   simp only[ho,q1,q2];rfl
  simp only[h1,BT hg,h2]
 ·intro j hj fQ
  rw[AH.du,if_neg (by simpa[Own.ids] using fQ)]
 ·show(S.set id _).get id=_
  rw[AH.du,if_pos rfl]
 ·intro j hj
  simp only[Own.ids,List.mem_singleton] at hj
  subst hj
  exact⟨(H.oi _ (List.mem_of_getElem? hi) j (by simp[Own.ids])).1,.inl (by simp[Own.ids])⟩
theorem tI (H:Cx B0 W S own ro)(i:Nat){id off:Nat}{c:List AV}{v:AV}(hi:own[i]?=some (.obj id (.row c)))(hj:c[off]?=some v)(h:wp M (k v) S Q):wp M (.op (.load 1 false (.ptr id off)) k) S Q:=
 ae (jI (dB (H.oh _ (List.mem_of_getElem? hi))) hj) h
theorem gN (H:Cx B0 W S own ro)(i:Nat){id off n:Nat}{c:List AV}(hi:own[i]?=some (.obj id (.row c)))(hj:off+n≤c.length)(h:wp M (k (.agg ((c.drop off).take n))) S Q):wp M (.op (.load n true (.ptr id off)) k) S Q:=
 ae (xi (dB (H.oh _ (List.mem_of_getElem? hi))) hj) h
end
end
section
section
variable{M:ef}{B0 S:AH}{W:List Nat}{own:List Own}{ro:List aQ}{Q:hX}{k:AV→AC}
theorem yO {v}{es:Nat}{L}(h:gq S v es L):evalOp M.P (.len false v) S=some (I L.length,S):=by
 rcases h with⟨rfl,rfl⟩|⟨id,off,c,h1,h2,h3,h4⟩
 ·rfl
 ·rcases h1 with⟨cap,_,_,rfl⟩|⟨cO,_,_,rfl⟩<;>rfl
theorem mT {v}{es:Nat}{L}(h:(Own.sl v es L).holds S):gq S v es L:=by
 rcases h with h|⟨id,off,c,h0,h1,h2⟩
 ·exact .inl h
 ·exact .inr ⟨id,off,c,h0,dB h1,h2⟩
theorem gO (H:Cx B0 W S own ro){v}{es:Nat}{L}(hm:aQ.sl v es L∈ro)(h:wp M (k (I L.length)) S Q):wp M (.op (.len false v) k) S Q:=ae (yO (H.rh _ hm)) h
theorem BU (H:Cx B0 W S own ro)(i:Nat){v}{es:Nat}{L}(hm:own[i]?=some (.sl v es L))(h:wp M (k (I L.length)) S Q):wp M (.op (.len false v) k) S Q:=
 ae (yO (mT (H.oh _ (List.mem_of_getElem? hm)))) h
theorem jc:∀{L:List (List AV)} {es:Nat} (h:∀x∈L,x.length=es) {i:Nat} {x:List AV},L[i]?=some x→(L.flatten.drop (i*es)).take es=x
 |[],es,h,i,x,hx=>by simp at hx
 |y::L,es,h,0,x,hx=>by
  simp at hx;subst hx
  have:=h y (by simp)
  simp[←this]
 |y::L,es,h,i+1,x,hx=>by
  have hy:=h y (by simp)
  simp only[List.flatten_cons]
  rw[show(i+1)*es=y.length+i*es by rw[hy,Nat.succ_mul];omega,List.drop_append]
  simp only[Nat.add_sub_cancel_left]
  have e:y.drop (y.length+i*es)=[]:=List.drop_eq_nil_of_le (by omega)
  rw[e,List.nil_append]
  exact jc (fun z hz=>h z (by simp[hz])) (by simpa using hx)
theorem bV:∀{L:List (List AV)} {es:Nat} (h:∀x∈L,x.length=es),L.flatten.length=L.length*es
 |[],es,h=>by simp
 |y::L,es,h=>by
  simp only[List.flatten_cons,List.length_append,List.length_cons]
  rw[h y (by simp),bV (fun z hz=>h z (by simp[hz])),Nat.succ_mul];omega
theorem qF {v:AV}{es:Nat}{L:List (List AV)}(h:gq S v es L){i:Nat}{x:List AV}(hi:L[i]?=some x):
  ∃id off,evalOp M.P (.fu es v (I (i:Int))) S=some (.ptr id off,S)∧(aQ.pt id off x).holds S∧id∈eg v:=by
 have dN:i<L.length:=(List.getElem?_eq_some_iff.1 hi).1
 rcases h with⟨rfl,rfl⟩|⟨id,off,c,h1,h2,h3,h4⟩
 ·simp at hi
 ·have hx:=h4 x (List.mem_of_getElem? hi)
  have yP:mq (I (i:Int)) L.length=some i:=by
   show below i L.length=some i
   unfold below;rw[dy dN]
  have hlen:off+L.length*es≤c.length∨es=0:=by
   have:=congrArg List.length h3
   rw[bV h4,List.length_take,List.length_drop] at this
   rcases Nat.eq_zero_or_pos es with e|e
   ·exact .inr e
   ·left
    have:0<L.length*es:=Nat.mul_pos (by omega) e
    omega
  have nL:off+i*es+x.length≤c.length:=by
   rcases hlen with hl|hl
   ·have:(i+1)*es≤L.length*es:=Nat.mul_le_mul_right es dN
    rw[Nat.succ_mul] at this
    omega
   ·subst hl
    rcases h1 with⟨cap,_,hh,_⟩|⟨cO,_,hh,_⟩<;>simp only[Nat.mul_zero,Nat.add_zero] at hh⊢<;>omega
  refine⟨id,off+i*es,?_,⟨c,h2,nL,?_⟩,?_⟩
  ·rcases h1 with⟨cap,_,_,rfl⟩|⟨cO,_,_,rfl⟩
   ·show et (fC es (.sl id off L.length cap) (I (i:Int))) S=_
    unfold fC;simp only[yP];rfl
   ·show et (fC es (.op id off L.length cO es) (I (i:Int))) S=_
    unfold fC;simp only[yP];rfl
  ·have:=jc h4 hi
   rw[←h3,List.drop_take,List.drop_drop,List.take_take] at this
   rw[hx]
   rw[Nat.min_eq_left] at this
   ·exact this
   ·have:(i+1)*es≤L.length*es:=Nat.mul_le_mul_right es dN
    rw[Nat.succ_mul] at this
    omega
  ·rcases h1 with⟨cap,_,_,rfl⟩|⟨cO,_,_,rfl⟩<;>simp[eg]
theorem mU (H:Cx B0 W S own ro){v}{es i:Nat}{L x}(hm:aQ.sl v es L∈ro)(hi:L[i]?=some x)
  (h:∀id off,Cx B0 W S own (.pt id off x::ro)→wp M (k (.ptr id off)) S Q):wp M (.op (.fu es v (I (i:Int))) k) S Q:=by
 obtain⟨id,off,h1,h2,h3⟩:=qF (M:=M) (H.rh _ hm) hi
 refine ae h1 (h id off (H.yL h2 fun j hj=>?_))
 simp only[aQ.ids,List.mem_singleton] at hj
 subst hj
 exact H.ri _ hm j h3
theorem nw (H:Cx B0 W S own ro)(n:Nat){v}{es i:Nat}{L x}(hm:own[n]?=some (.sl v es L))(hi:L[i]?=some x)
  (h:∀id off,(aQ.pt id off x).holds S→wp M (k (.ptr id off)) S Q):wp M (.op (.fu es v (I (i:Int))) k) S Q:=by
 obtain⟨id,off,h1,h2,h3⟩:=qF (M:=M) (mT (H.oh _ (List.mem_of_getElem? hm))) hi
 exact ae h1 (h id off h2)
theorem dh {id off f:Nat}(h:wp M (k (.ptr id (Nat.add off f))) S Q):wp M (.op (.nN f (.ptr id off)) k) S Q:=ae rfl h
theorem dC {id off:Nat}(h:wp M (k (.ptr id off)) S Q):wp M (.op (.n_ (.ptr id off)) k) S Q:=ae rfl h
theorem xj {v}{es n id off i:Nat}{c}(h:tw v es n id off c)(hi:i<n):evalOp M.P (.fu es v (I (i:Int))) S=some (.ptr id (off+i*es),S):=by
 have yP:mq (I (i:Int)) n=some i:=by
  show below i n=some i
  unfold below;rw[dy hi]
 rcases h with⟨cap,_,_,rfl⟩|⟨cO,_,_,rfl⟩
 ·show et (fC es (.sl id off n cap) (I (i:Int))) S=_
  unfold fC;simp only[yP];rfl
 ·show et (fC es (.op id off n cO es) (I (i:Int))) S=_
  unfold fC;simp only[yP];rfl
theorem l7 {c ys}{off:Nat}(h:off+ys.length≤c.length):(aL c off ys).length=c.length:=by
 rw[bD];simp;omega
theorem lH {c ys}{off:Nat}(h:off+ys.length≤c.length)(j:Nat):(aL c off ys)[j]?=if off≤j∧j<off+ys.length then ys[j-off]? else c[j]?:=by
 have h1:(c.take off).length=off:=by rw[List.length_take];omega
 rw[bD,List.getElem?_append,h1]
 by_cases h2:j<off
 ·rw[if_pos h2,if_neg (by omega),List.getElem?_take,if_pos h2]
 ·rw[if_neg h2,List.getElem?_append]
  by_cases h3:j-off<ys.length
  ·rw[if_pos h3,if_pos (by omega)]
  ·rw[if_neg h3,if_neg (by omega),List.getElem?_drop]
   congr 1;omega
theorem rz:∀{L:List (List AV)} {es:Nat} (h:∀x∈L,x.length=es) {i:Nat} {ys:List AV},i<L.length→ys.length=es→(L.set i ys).flatten=aL L.flatten (i*es) ys
 |[],es,h,i,ys,hi,hy=>by simp at hi
 |y::L,es,h,0,ys,hi,hy=>by
  have:=h y (by simp)
  rw[bD]
  simp only[List.set_cons_zero,List.flatten_cons,Nat.zero_mul,List.take_zero,Nat.zero_add,List.nil_append]
  congr 1
  rw[List.drop_append,hy,←this];simp
 |y::L,es,h,i+1,ys,hi,hy=>by
  have M1:=h y (by simp)
  have ih:=rz (L:=L) (fun z hz=>h z (by simp[hz])) (i:=i) (ys:=ys) (by simpa using hi) hy
  rw[bD] at ih⊢
  simp only[List.set_cons_succ,List.flatten_cons,ih]
  have e1:(i+1)*es=y.length+i*es:=by rw[M1,Nat.succ_mul];omega
  rw[e1,List.take_append,List.drop_append,List.take_of_length_le (by omega:y.length≤y.length+i*es),List.drop_eq_nil_of_le (by omega:y.length≤y.length+i*es+ys.length)]
  simp only[List.append_assoc,List.nil_append]
  congr 3
  ·congr 1;omega
  ·congr 2;omega
theorem vW (H:Cx B0 W S own ro)(n:Nat){v:AV}{es i:Nat}{L:List (List AV)}{y:AV}(hm:own[n]?=some (.sl v es L))(hi:i<L.length)(ho:ep y=false)(hy:y.cells.length=es)
  {k:AV→AC} (h:∀S1,Cx B0 W S1 (own.set n (.sl v es (L.set i y.cells))) ro→wp M (k uv) S1 Q):wp M (.op (.fu es v (I (i:Int))) fun p=>.op (.store es p y) k) S Q:=by
 have hw:G7 S v es L:=H.oh _ (List.mem_of_getElem? hm)
 rcases hw with⟨rfl,rfl⟩|⟨id,off,c,h0,h1,h2,h3⟩
 ·simp at hi
 ·refine ae (xj h0 hi) ?_
  have yQ:=bV h3
  have hlen:off+L.length*es≤c.length:=by
   have uP:∃m,L.length≤m∧off+m*es≤c.length:=by
    rcases h0 with⟨m,q1,q2,_⟩|⟨m,q1,q2,_⟩<;>exact⟨m,q1,q2⟩
   obtain⟨m,q1,q2⟩:=uP
   have:=Nat.mul_le_mul_right es q1
   omega
  have nL:i*es+es≤L.length*es:=by
   have:(i+1)*es≤L.length*es:=Nat.mul_le_mul_right es hi
   rw[Nat.succ_mul] at this;omega
  refine ae (v:=uv) (S1:=S.set id (.row (aL c (off+i*es) y.cells))) ?_ (h _ (H.step hm (Nat.le_refl _) ?_ ?_ ?_))
  ·show oc es (.ptr id (off+i*es)) y S=_
   unfold oc
   have g1:hH (.ptr id (off+i*es))=some (id,off+i*es):=rfl
   have g2:(not (ep y)&&Nat.beq (bI y.cells) es&&Nat.ble (Nat.add (off+i*es) es) (bI c))=true:=by
    have q1:Nat.beq (bI y.cells) es=true:=by rw[aZ,hy];exact Nat.beq_refl es
    have q2:Nat.ble (Nat.add (off+i*es) es) (bI c)=true:=by rw[aZ];exact dy (by show off+i*es+es≤c.length;omega)
    simp only[ho,q1,q2];rfl
   simp only[g1,BT h1,g2]
  ·intro j hj fQ
   rw[AH.du,if_neg (by simpa[Own.ids,h0.ids] using fQ)]
  ·refine .inr ⟨id,off,aL c (off+i*es) y.cells,?_,by rw[AH.du,if_pos rfl],?_,?_⟩
   ·rw[List.length_set]
    have hl:(aL c (off+i*es) y.cells).length=c.length:=l7 (by omega)
    rcases h0 with⟨m,q1,q2,q3⟩|⟨m,q1,q2,q3⟩
    ·exact .inl ⟨m,q1,by rw[hl];exact q2,q3⟩
    ·exact .inr ⟨m,q1,by rw[hl];exact q2,q3⟩
   ·rw[List.length_set,rz h3 hi hy,←h2]
    apply List.ext_getElem?
    intro j
    rw[List.getElem?_take,List.getElem?_drop,lH (by omega),lH (by rw[List.length_take,List.length_drop];omega)]
    rw[List.getElem?_take,List.getElem?_drop]
    by_cases hj:j<L.length*es
    ·rw[if_pos hj,if_pos hj]
     by_cases hr:i*es≤j∧j<i*es+y.cells.length
     ·rw[if_pos hr,if_pos (by omega)];congr 1;omega
     ·rw[if_neg hr,if_neg (by omega)]
    ·rw[if_neg hj,if_neg hj,if_neg (by omega)]
   ·intro x hx
    rcases List.mem_or_eq_of_mem_set hx with hx|rfl
    ·exact h3 x hx
    ·exact hy
  ·intro j hj
   exact⟨(H.oi _ (List.mem_of_getElem? hm) j hj).1,.inl hj⟩
theorem oG {v}{es:Nat}{L}(h:gq S v es L):elems S es v=some (L.length,L.flatten):=by
 rcases h with⟨rfl,rfl⟩|⟨id,off,c,h0,h1,h2,h3⟩
 ·rfl
 ·have hlen:off+L.length*es≤c.length:=by
   have uP:∃m,L.length≤m∧off+m*es≤c.length:=by
    rcases h0 with⟨m,q1,q2,_⟩|⟨m,q1,q2,_⟩<;>exact⟨m,q1,q2⟩
   obtain⟨m,q1,q2⟩:=uP
   have:=Nat.mul_le_mul_right es q1
   omega
  have hb:Nat.ble (off+L.length*es) (bI c)=true:=by rw[aZ];exact dy hlen
  rcases h0 with⟨m,q1,q2,rfl⟩|⟨m,q1,q2,rfl⟩
  ·show(match S.cells? id with|some c=>if Nat.ble (off+L.length*es) (bI c) then some (L.length,hK (L.length*es) (jx off c)) else none|none=>none)=_
   simp only[h1,hb,if_true,ct,dF,h2]
  ·show(match S.cells? id with|some c=>if Nat.ble (off+L.length*es) (bI c) then some (L.length,hK (L.length*es) (jx off c)) else none|none=>none)=_
   simp only[h1,hb,if_true,ct,dF,h2]
theorem uZ {c ys}{off a n:Nat}(h:off+a+ys.length≤c.length)(hn:n=a+ys.length):((aL c (off+a) ys).drop off).take n=(c.drop off).take a++ys:=by
 subst hn
 have h1:(c.take (off+a)).drop off=(c.drop off).take a:=by rw[List.drop_take];congr 1;omega
 have h2:(c.take (off+a)).length=off+a:=by rw[List.length_take];omega
 rw[bD,List.drop_append,h1,h2]
 have h3:((c.drop off).take a).length=a:=by rw[List.length_take,List.length_drop];omega
 rw[show off-(off+a)=0 by omega,List.drop_zero,List.take_append,h3,List.take_of_length_le (by omega:((c.drop off).take a).length≤a+ys.length)]
 congr 1
 rw[show a+ys.length-a=ys.length by omega,List.take_append,List.take_of_length_le (Nat.le_refl _),Nat.sub_self,List.take_zero,List.append_nil]
theorem mV {v x:AV}{es bytes:Nat}{L N:List (List AV)}(hv:G7 S v es L)(hx:elems S es x=some (N.length,N.flatten))(hN:∀y∈N,y.length=es)
  (hb:(L.length+N.length)*bytes≤cU) (hl:L.length+N.length≤dM) (dN:∀id∈eg v,id<S.next):
  ∃v1 S1,evalOp M.P (.append es bytes v x) S=some (v1,S1)∧G7 S1 v1 es (L++N)∧S.next≤S1.next∧(∀id,id<S.next→id∉eg v→S1.get id=S.get id)∧(∀id∈eg v1,id<S1.next∧(id∈eg v∨S.next≤id)):=by
 have yQ:(L++N).flatten=L.flatten++N.flatten:=List.flatten_append
 have TM:=bV hN
 have js:∀(hL:∀y∈L,y.length=es),∀y∈L++N,y.length=es:=fun hL y hy=>by
  rcases List.mem_append.1 hy with hy|hy
  ·exact hL y hy
  ·exact hN y hy
 rcases hv with⟨rfl,rfl⟩|⟨id,off,c,h0,h1,h2,h3⟩
 ·
  have yF:evalOp M.P (.append es bytes Ns x) S=if Nat.beq N.length 0 then some (Ns,S) else if Nat.ble (N.length*bytes) cU&&Nat.ble N.length dM then some (.op S.next 0 N.length N.length es,S.new (.row N.flatten)) else none:=by
   show iJ es bytes Ns x S=_
   unfold iJ;rw[hx];rfl
  by_cases hz:N.length=0
  ·have:N=[]:=List.length_eq_zero_iff.1 hz
   subst this
   refine⟨Ns,S,by rw[yF];rfl,.inl ⟨rfl,rfl⟩,Nat.le_refl _,fun _ _ _=>rfl,fun id bS=>by simp[eg] at bS⟩
  ·have e1:Nat.beq N.length 0=false:=by cases hq:Nat.beq N.length 0 with|true=>exact absurd (Nat.eq_of_beq_eq_true hq) hz|false=>rfl
   have e2:(Nat.ble (N.length*bytes) cU&&Nat.ble N.length dM)=true:=by
    rw[dy (by simpa using hb),dy (by simpa using hl)];rfl
   rw[e1,e2] at yF
   refine⟨_,_,yF,.inr ⟨S.next,0,N.flatten,.inr ⟨N.length,by simp,by rw[TM];omega,by simp⟩,bN _ _,?_,by simpa using hN⟩,by simp,fun id bS _=>by rw[AH.bZ,if_neg (by omega)],fun id bS=>?_⟩
   ·simp only[List.drop_zero,List.nil_append]
    rw[List.take_of_length_le (by rw[TM];omega)]
   ·simp only[eg,List.mem_singleton] at bS
    subst bS
    simp
 ·have uP:∃m,L.length≤m∧off+m*es≤c.length:=by
   rcases h0 with⟨m,q1,q2,_⟩|⟨m,q1,q2,_⟩<;>exact⟨m,q1,q2⟩
  have hlen:off+L.length*es≤c.length:=by
   obtain⟨m,q1,q2⟩:=uP
   have:=Nat.mul_le_mul_right es q1
   omega
  have hLl:=bV h3
  have bS:id<S.next:=dN id (by rw[h0.ids];simp)
  have e2:(Nat.ble ((L.length+N.length)*bytes) cU&&Nat.ble (L.length+N.length) dM)=true:=by rw[dy hb,dy hl];rfl
  have OL:iY (hK (L.length*es) (jx off c)) N.flatten=(L++N).flatten:=by rw[fK,ct,dF,h2,yQ]
  have OM:∀S0:AH,S0.next=S.next→(∀j,j<S.next→j≠id→S0.get j=S.get j)→G7 (S0.new (.row (L++N).flatten)) (.op S0.next 0 (L.length+N.length) (L.length+N.length) es) es (L++N):=fun S0 _ _=>by
   refine .inr ⟨S0.next,0,(L++N).flatten,.inr ⟨(L++N).length,by simp,?_,by simp⟩,bN _ _,?_,js h3⟩
   ·rw[bV (js h3)];omega
   ·rw[List.drop_zero,List.take_of_length_le (by rw[bV (js h3)];exact Nat.le_refl _)]
  have room:∀cap,L.length+N.length≤cap→off+cap*es≤c.length→((aL c (off+L.length*es) N.flatten).drop off).take ((L++N).length*es)=(L++N).flatten∧(aL c (off+L.length*es) N.flatten).length=c.length:=by
   intro cap q1 q2
   have:=Nat.mul_le_mul_right es q1
   rw[Nat.add_mul] at this
   refine⟨?_,l7 (by omega)⟩
   rw[uZ (by omega) (by rw[List.length_append,Nat.add_mul,TM]),h2,yQ]
  rcases h0 with⟨cap,q1,q2,rfl⟩|⟨cO,q1,q2,rfl⟩
  ·have g1:(Nat.ble (off+cap*es) (bI c)&&Nat.ble L.length cap)=true:=by rw[aZ,dy q2,dy q1];rfl
   have yF:evalOp M.P (.append es bytes (.sl id off L.length cap) x) S=if Nat.ble (L.length+N.length) cap then some (.sl id off (L.length+N.length) cap,S.set id (.row (aL c (off+L.length*es) N.flatten))) else
     if Nat.ble ((L.length+N.length)*bytes) cU&&Nat.ble (L.length+N.length) dM then some (.op S.next 0 (L.length+N.length) (L.length+N.length) es,S.new (.row (iY (hK (L.length*es) (jx off c)) N.flatten))) else none:=by
    show iJ es bytes (.sl id off L.length cap) x S=_
    unfold iJ;rw[hx];simp only[h1,g1,if_true]
   by_cases hr:L.length+N.length≤cap
   ·rw[dy hr] at yF
    obtain⟨r1,r2⟩:=room cap hr q2
    refine⟨_,_,yF,.inr ⟨id,off,_,.inl ⟨cap,by simpa using hr,by rw[r2];exact q2,by simp⟩,by rw[AH.du,if_pos rfl],r1,js h3⟩,Nat.le_refl _,fun j hj fQ=>?_,fun j hj=>?_⟩
    ·rw[AH.du,if_neg (by simpa[eg] using fQ)]
    ·simp only[eg,List.mem_singleton] at hj;subst hj;exact⟨bS,.inl (by simp[eg])⟩
   ·have e1:Nat.ble (L.length+N.length) cap=false:=by cases hq:Nat.ble (L.length+N.length) cap with|true=>exact absurd (Nat.le_of_ble_eq_true hq) hr|false=>rfl
    rw[e1,e2,OL] at yF
    refine⟨_,_,yF,OM S rfl (fun _ _ _=>rfl),by simp,fun j hj _=>by rw[AH.bZ,if_neg (by omega)],fun j hj=>?_⟩
    simp only[eg,List.mem_singleton] at hj;subst hj;simp
  ·have g1:(Nat.beq es es&&Nat.ble (off+cO*es) (bI c)&&Nat.ble L.length cO)=true:=by rw[aZ,dy q2,dy q1,Nat.beq_refl];rfl
   have yF:evalOp M.P (.append es bytes (.op id off L.length cO es) x) S=if Nat.ble (L.length+N.length) cO then some (.op id off (L.length+N.length) cO es,S.set id (.row (aL c (off+L.length*es) N.flatten))) else
     if Nat.ble ((L.length+N.length)*bytes) cU&&Nat.ble (L.length+N.length) dM then some (.op S.next 0 (L.length+N.length) (L.length+N.length) es,(S.kill id).new (.row (iY (hK (L.length*es) (jx off c)) N.flatten))) else none:=by
    show iJ es bytes (.op id off L.length cO es) x S=_
    unfold iJ;rw[hx];simp only[h1,g1,if_true]
   by_cases hr:L.length+N.length≤cO
   ·rw[dy hr] at yF
    obtain⟨r1,r2⟩:=room cO hr q2
    refine⟨_,_,yF,.inr ⟨id,off,_,.inr ⟨cO,by simpa using hr,by rw[r2];exact q2,by simp⟩,by rw[AH.du,if_pos rfl],r1,js h3⟩,Nat.le_refl _,fun j hj fQ=>?_,fun j hj=>?_⟩
    ·rw[AH.du,if_neg (by simpa[eg] using fQ)]
    ·simp only[eg,List.mem_singleton] at hj;subst hj;exact⟨bS,.inl (by simp[eg])⟩
   ·have e1:Nat.ble (L.length+N.length) cO=false:=by cases hq:Nat.ble (L.length+N.length) cO with|true=>exact absurd (Nat.le_of_ble_eq_true hq) hr|false=>rfl
    rw[e1,e2,OL] at yF
    refine⟨_,_,yF,OM (S.kill id) rfl (fun j _ fQ=>by rw[AH.gi,if_neg fQ]),Nat.le_succ _,fun j hj fQ=>?_,fun j hj=>?_⟩
    ·rw[AH.bZ,if_neg (by show j≠S.next;omega),AH.gi,if_neg (by simpa[eg] using fQ)]
    ·simp only[eg,List.mem_singleton] at hj
     subst hj
     exact⟨Nat.lt_succ_self _,.inr (Nat.le_refl _)⟩
theorem CX (H:Cx B0 W S own ro)(n:Nat){v x}{es bytes:Nat}{L N}(hm:own[n]?=some (.sl v es L))(hx:elems S es x=some (N.length,N.flatten))(hN:∀y∈N,y.length=es)
  (hb:(L.length+N.length)*bytes≤cU) (hl:L.length+N.length≤dM) (h:∀v1 S1,Cx B0 W S1 (own.set n (.sl v1 es (L++N))) ro→wp M (k v1) S1 Q):wp M (.op (.append es bytes v x) k) S Q:=by
 have jr:=List.mem_of_getElem? hm
 obtain⟨v1,S1,h1,h2,h3,h4,h5⟩:=mV (M:=M) (H.oh _ jr) hx hN hb hl (fun id bS=>(H.oi _ jr id bS).1)
 exact ae h1 (h v1 S1 (H.step hm h3 h4 h2 h5))
theorem AB (H:Cx B0 W S own ro)(n:Nat){v x}{es bytes:Nat}{L N}(hm:own[n]?=some (.sl v es L))(hx:aQ.sl x es N∈ro)(hN:∀y∈N,y.length=es)
  (hb:(L.length+N.length)*bytes≤cU) (hl:L.length+N.length≤dM) (h:∀v1 S1,Cx B0 W S1 (own.set n (.sl v1 es (L++N))) ro→wp M (k v1) S1 Q):wp M (.op (.append es bytes v x) k) S Q:=
 CX H n hm (oG (H.rh _ hx)) hN hb hl h
theorem Fj (H:Cx B0 W S own ro){f:AV}{args:List AV}{R:AV→Prop}(hc:aO M f args S fun v S'=>R v∧aY S S')(h:∀v S1,R v→Cx B0 W S1 own ro→wp M (k v) S1 Q):wp M (.call f args k) S Q:=
 b5 (az hc fun v S1 ⟨h1,h2⟩=>h v S1 h1 (H.grow h2))
theorem dH (H:Cx B0 W S own ro){f:AV}{args:List AV}{u:AV}(hc:aO M f args S fun v S'=>v=u∧aY S S')(h:∀S1,Cx B0 W S1 own ro→wp M (k u) S1 Q):wp M (.call f args k) S Q:=
 Fj H hc fun v S1 e K=>e▸h S1 K
end
end
section
def mW (S:AH)(v:AV)(es:Nat)(L:List (List AV)):Prop:=gq S v es L∧∀id∈eg v,id<S.next
theorem mW.grow {S S1 v}{es:Nat}{L}(h:mW S v es L)(hg:aY S S1):mW S1 v es L:=
 ⟨vT (fun id bS=>hg.iK id (h.2 id bS)) h.1,fun id bS=>Nat.lt_of_lt_of_le (h.2 id bS) hg.next⟩
theorem Cx.Nj {S v}{es:Nat}{L}(h:mW S v es L):Cx S [] S [] [.sl v es L]:=Cx.enter (by
 intro φ jt
 simp only[List.mem_singleton] at jt
 subst jt
 exact⟨h.1,h.2⟩)
theorem Cx.WQ {S v v'}{es dV:Nat}{L L'}(h:mW S v es L)(h':mW S v' dV L'):Cx S [] S [] [.sl v es L,.sl v' dV L']:=Cx.enter (by
 intro φ jt
 simp only[List.mem_cons,List.not_mem_nil,or_false] at jt
 rcases jt with rfl|rfl
 ·exact⟨h.1,h.2⟩
 ·exact⟨h'.1,h'.2⟩)
theorem Cx.iy {B S M own ro}(H:Cx B M S own ro){v}{es:Nat}{L}(hm:aQ.sl v es L∈ro):mW S v es L:=⟨H.rh _ hm,fun id bS=>(H.ri _ hm id bS).1⟩
def ints (l:List Int):List (List AV):=l.map fun n=>[I n]
theorem pG (l:List Int):(ints l).length=l.length:=List.length_map ..
section
variable{M:ef}{S:AH}{f:FuncId}
theorem xk {body Q}(n:Nat)(J:Nat→List AV→AH→Prop)(hs:∀i vs S,i<n→J i vs S→wp M (body vs) S fun t zO S1=>(t=.normal∧J (i+1) zO S1)∨(t≠.normal∧Q t zO S1))
  (he:∀vs S,J n vs S→wp M (body vs) S fun t zO S1=>t≠.normal∧Q t zO S1) {vs} {S} (h:J 0 vs S):Nd M body vs S Q:=by
 refine BQ (fun m vs S=>∃i,i≤n∧m=n-i∧J i vs S) ?_ n ⟨0,by omega,by omega,h⟩
 rintro m vs S ⟨i,hi,rfl,hJ⟩
 by_cases dN:i<n
 ·refine wp_mono (hs i vs S dN hJ) fun t zO S1 q=>?_
  rcases q with⟨h1,h2⟩|q
  ·exact .inl ⟨h1,n-(i+1),by omega,i+1,by omega,rfl,h2⟩
  ·exact .inr q
 ·have:i=n:=by omega
  subst this
  exact wp_mono (he vs S hJ) fun t zO S1 q=>.inr q
def pick (x n:Int):Int:=if n≤0 then 0 else x%n
def Jr:List AV→AC:=fun v0=>.op (.bin .leq (nth v0 1) (I 0)) fun v1=>.ite v1 (.ret .ret [(I 0)]) (.op (.bin .rem (nth v0 0) (nth v0 1)) fun v2=>.op (.bin .lss v2 (I 0)) fun v3=>.bind (.ite v3 (.op (.bin .add v2 (nth v0 1)) fun v4=>.ret .normal [v4]) (.ret .normal [v2])) none (fun v4=>.ret .ret [(nth v4 0)]) (fun v4=>[(I 0)]))
theorem HP {x n:Int}(hk:M.kn f [I x,I n]=none)(hb:M.iP f=some Jr)(hn:n≤9223372036854775807):aO M (.fn (.func f) [] []) [I x,I n] S fun r S'=>r=I (pick x n)∧S'=S:=by
 refine bg hk hb ?_
 unfold Jr pick
 refine mS (fun h=>?_) (fun h=>?_)
 ·rw[if_pos h]
  exact cD (wp_ret ⟨rfl,rfl,rfl⟩)
 ·rw[if_neg (by omega)]
  have e:=Int.tmod_eq_emod (a:=x) (b:=n)
  have h1:=Int.emod_nonneg x (by omega:n≠0)
  have h2:=Int.emod_lt_of_pos x (by omega:0<n)
  refine cE (E8 (by omega) ?_)
  refine fE (fun hl=>?_) (fun hl=>?_)
  ·refine wp_bind (cD (cg ?_ ?_ (wp_ret (wp_ret ⟨rfl,?_,rfl⟩))))
   ·show _≤x.tmod n+n
    split at e<;>omega
   ·show x.tmod n+n≤_
    split at e<;>omega
   ·show I (x.tmod n+n)=_
    congr 2
    split at e
    ·omega
    ·rw[e];omega
  ·refine wp_bind (cE (wp_ret (wp_ret ⟨rfl,?_,rfl⟩)))
   show I (x.tmod n)=_
   congr 2
   split at e<;>omega
theorem su {κ}{a:Int}:AV.beq (Z κ a) (Z κ a)=true:=by
 show(mn κ κ&&G1 a a)=true
 rw[aP,fD];simp
theorem HR {B0 W own ro Q k}(H:Cx B0 W S own ro){id off j:Nat}{cs v}(hm:aQ.pt id off cs∈ro)(hj:cs[j]?=some v)(hb:AV.beq v v=true)(h:wp M k S Q):
  wp M (.kA (.load 1 false (.ptr id (Nat.add off j))) v k) S Q:=by
 obtain⟨c,h1,h2⟩:=tG (H.rh _ hm) hj
 refine tt (v':=v) ?_ hb h
 show(match S.cells? id with|some c=>eZ false c (Nat.add off j) 1|none=>none)=_
 rw[h1];exact lF h2
end
end
section
section
variable{M:ef}{B0 S:AH}{W:List Nat}{own:List Own}{ro:List aQ}{Q:hX}{k:AV→AC}
end
end
section
section
variable{M:ef}{B0 S:AH}{W:List Nat}{own:List Own}{ro:List aQ}{Q:hX}{k:AV→AC}
theorem Cx.BV (H:Cx B0 W S own ro){n id:Nat}{o}(hm:own[n]?=some (.obj id o))(o':AO):Cx B0 W (S.set id o') (own.set n (.obj id o')) ro:=by
 refine H.step hm (Nat.le_refl _) (fun j hj fQ=>?_) ?_ (fun j hj=>?_)
 ·rw[AH.du,if_neg (by simpa[Own.ids] using fQ)]
 ·show(S.set id o').get id=_
  rw[AH.du,if_pos rfl]
 ·simp only[Own.ids,List.mem_singleton] at hj
  subst hj
  exact⟨(H.oi _ (List.mem_of_getElem? hm) j (by simp[Own.ids])).1,.inl (by simp[Own.ids])⟩
theorem Cx.iz (H:Cx B0 W S own ro)(n:Nat):Cx B0 W S (own.eraseIdx n) ro:=H.xh (List.eraseIdx_sublist _ _)
theorem Cx.Fk (H:Cx B0 W S own ro){i id:Nat}{o}(hi:own[i]?=some (.obj id o)):Cx B0 W S (own.eraseIdx i) (.ob id o::ro):=by
 have jr:=List.mem_of_getElem? hi
 refine(H.iz i).yL (H.oh _ jr) fun j hj=>?_
 simp only[aQ.ids,List.mem_singleton] at hj
 subst hj
 refine⟨(H.oi _ jr j (by simp[Own.ids])).1,fun x hx hj=>?_⟩
 obtain⟨m,hm⟩:=List.getElem?_of_mem hx
 have hp:=H.od
 rw[List.pairwise_iff_getElem] at hp
 obtain⟨yK,uX⟩:=List.getElem?_eq_some_iff.1 hi
 rw[List.getElem?_eraseIdx] at hm
 split at hm
 ·rename_i dN
  obtain⟨DK,vR⟩:=List.getElem?_eq_some_iff.1 hm
  exact hp m i DK yK dN j (by rw[vR];exact hj) (by rw[uX];simp[Own.ids])
 ·obtain⟨DK,vR⟩:=List.getElem?_eq_some_iff.1 hm
  exact hp i (m+1) yK DK (by omega) j (by rw[uX];simp[Own.ids]) (by rw[vR];exact hj)
theorem Cx.other {B0 S S1 W own ro}(H:Cx B0 W S own ro){l:Nat}{n:Nat}{o}(hm:own[n]?=some (.obj l o))(h1:S1.next=S.next)(h2:∀j,j≠l→S1.get j=S.get j):Cx B0 W S1 (own.eraseIdx n) ro:=by
 have jr:=List.mem_of_getElem? hm
 have K:=H.Fk hm
 have K':Cx B0 W S (own.eraseIdx n) ro:=K.tl
 have hl:∀x∈own.eraseIdx n,l∉x.ids:=(K.ri _ (List.Mem.head _) l (by simp[aQ.ids])).2
 have iU:∀φ∈ro,l∉φ.ids:=fun φ jt bS=>(H.ri φ jt l bS).2 _ jr (by simp[Own.ids])
 refine⟨by rw[h1];exact K'.next,fun id h3 h4=>?_,fun x hx=>Own.fS (fun id bS=>h2 id fun e=>hl x hx (e▸bS)) (K'.oh x hx),fun x hx id bS=>by rw[h1];exact K'.oi x hx id bS,K'.od,
  fun φ jt=>aQ.fS (fun id bS=>h2 id fun e=>iU φ jt (e▸bS)) (K'.rh φ jt),fun φ jt id bS=>by rw[h1];exact K'.ri φ jt id bS⟩
 by_cases e:id=l
 ·subst e
  exact absurd ((H.oi _ jr id (by simp[Own.ids])).2 h3) h4
 ·rw[h2 id e];exact K'.iK id h3 h4
end
end
section
variable[jo]
open Go.ChangeShapes Go.WideShapes
section
variable{H:Type}{enc:TypeId×Value→H}{P:Program}{W:World}{base:Nat}{sp:Nat→Bool}{hd:Bool}
def DL:Value→Bool
 |.int k n=>(Lit.int k n).wf
 |_=>true
theorem lI {t}{n:Nat}(h:aG P t=some n):P.cellsOf t=n:=by
 unfold aG at h
 unfold Program.cellsOf
 rw[h];rfl
theorem CY {ks}:∀{ls} {vs},aA ks (vs.take ks.length)=true→aA ls (vs.drop ks.length)=true→aA (ks++ls) vs=true:=by
 induction ks with
 |nil=>intro ls vs h1 h2;simpa using h2
 |cons k ks ih=>
  intro ls vs h1 h2
  cases vs with
  |nil=>simp[aA] at h1
  |cons v vs=>
   simp only[List.length_cons,List.take_succ_cons,aA,Bool.and_eq_true,List.drop_succ_cons] at h1 h2
   simp only[List.cons_append,aA,Bool.and_eq_true]
   exact⟨h1.1,ih h1.2 h2⟩
theorem vX:∀(d:Nat) (t:TypeId) (ks:List (Option IntKind)),eV P d t=some ks→aG P t=some ks.length→∀(fuel:Nat) (cs:List Value) (x:DataW H×List MemPlace),DataW.trod enc P W base sp hd fuel t cs=some x→aA ks cs=true∧∀v∈cs,DL v=true
 |0,t,ks,hf,_,_,_,_,_=>by simp[eV] at hf
 |d+1,t,ks,hf,mI,fuel,cs,x,h=>by
  unfold eV at hf
  cases hu:P.underlying t with
  |none=>rw[hu] at hf;cases hf
  |some u=>
   rw[hu] at hf
   cases u with
   |bool=>
    cases hf
    obtain⟨b,rfl,_⟩:=DataW.trod_bool hu h
    exact⟨rfl,by simp[DL]⟩
   |int k=>
    cases hf
    obtain⟨n,rfl,_,hw⟩:=DataW.trod_int hu h
    exact⟨by simp[aA,hZ],by simpa[DL] using hw⟩
   |struct fs=>
    simp only at hf
    cases Nh:P.stoodInHeld t with
    |true=>rw[Nh] at hf;simp at hf
    |false=>
     rw[Nh] at hf
     simp only[Bool.false_eq_true,if_false] at hf
     obtain⟨xs,n,_,_,hlen,_,yQ⟩:=DataW.trod_struct hu h
     rw[lI mI] at hlen
     have key:∀(l:List Field) (i off:Nat) (ks:List (Option IntKind)),(∀(j:Nat) f,l[j]?=some f→fs[i+j]?=some f)→rv (eV P d) P l off=some ks→off+ks.length=cs.length→aA ks (cs.drop off)=true∧∀v∈cs.drop off,DL v=true:=by
      intro l
      induction l with
      |nil=>
       intro i off ks _ hf hl
       cases hf
       have:cs.drop off=[]:=List.drop_eq_nil_of_le (by simp at hl;omega)
       rw[this]
       exact⟨rfl,by simp⟩
      |cons f l ih=>
       intro i off ks yP hf hl
       unfold rv at hf
       by_cases hn:f.name= "_"
       ·rw[if_pos hn] at hf;cases hf
       ·rw[if_neg hn] at hf
        by_cases ho:f.offset≠off
        ·rw[if_pos ho] at hf;cases hf
        ·rw[if_neg ho] at hf
         have ho:f.offset=off:=by omega
         cases hr:eV P d f.type with
         |none=>rw[hr] at hf;cases hf
         |some k1=>
          rw[hr] at hf
          simp only at hf
          by_cases hs:aG P f.type=some k1.length
          ·rw[if_pos hs] at hf
           cases tB:rv (eV P d) P l (off+k1.length) with
           |none=>rw[tB] at hf;cases hf
           |some k2=>
            rw[tB] at hf
            cases hf
            rw[List.length_append] at hl
            have h0:=yP 0 f rfl
            have h1:=yQ i f h0
            rw[ho,lI hs] at h1
            cases hx:xs[i]? with
            |none=>
             rw[hx] at h1
             have:=(Array.getElem?_eq_some_iff.1 h0).1
             have:=List.getElem?_eq_none_iff.1 hx
             omega
            |some y=>
             rw[hx] at h1
             obtain⟨q1,q2⟩:=vX d f.type k1 hr hs n _ y h1
             obtain⟨r1,r2⟩:=ih (i+1) (off+k1.length) k2 (fun j f hj=>by
              have:=yP (j+1) f (by simpa using hj)
              rwa[show i+(j+1)=i+1+j by omega] at this) tB (by omega)
             rw[←List.drop_drop] at r1 r2
             refine⟨CY q1 r1,fun v hv=>?_⟩
             rw[←List.take_append_drop k1.length (cs.drop off),List.mem_append] at hv
             rcases hv with hv|hv
             ·exact q2 v hv
             ·exact r2 v hv
          ·rw[if_neg hs] at hf;cases hf
     have:=key fs.toList 0 0 ks (fun j f hj=>by simpa using hj) hf (by omega)
     simpa using this
   |_=>cases hf
theorem vY {t e}{d:Nat}{ks v x p}(ht:P.underlying t=some (.slice e))(hf:eV P d e=some ks)(hs:aG P e=some ks.length)
  (fW:Value.okWide P W .any base t v) (h:DataW.Trod enc P W 0 (fun _=>true) true t v x p):
  v=.slice none 0 0∨∃(b off len cap:Nat) (C:Nat→List Value),v=.slice (some ⟨b,off,none⟩) len cap∧len≤cap∧cap≤maxLen∧b<W.heap.size∧
   ∀i,i<cap→aA ks (C i)=true∧(∀y∈C i,DL y=true)∧∀(j:Nat) y,(C i)[j]?=some y→W.cell? ⟨b,off+i*ks.length+j,none⟩=some y:=by
 obtain⟨fuel,hr⟩:=h
 have dw:=lI hs
 rcases DataW.trod_slice ht hr with⟨h1,_⟩|⟨a,len,cap,elems,rest,n,_,h1,_,_,h2,h3,h4,h5,h6,_⟩
 ·left
  cases v<;>simp[Value.cells] at h1
  ·obtain⟨rfl,rfl,rfl⟩:=h1;rfl
  ·simp[Value.okWide,ht,Cell.okWide,Cell.ok] at fW
 ·right
  have hv:v=.slice (some a) len cap:=by
   cases v<;>simp[Value.cells] at h1
   ·obtain⟨rfl,rfl,rfl⟩:=h1;rfl
   ·simp[Value.okWide,ht,Cell.okWide,Cell.ok] at fW
  subst hv
  have TN:W.has P .any base a e cap:=by
   simp only[Value.okWide,ht,Cell.okWide,Cell.ok] at fW
   exact fW.2.2
  obtain⟨_,Js,row,cells,AD,_⟩:=TN
  obtain⟨b,off,s⟩:=a
  simp only at Js
  subst Js
  have hb:b<W.heap.size:=by
   unfold World.shape? at AD
   split at AD
   ·rename_i hh;exact(Array.getElem?_eq_some_iff.1 hh).1
   ·cases AD
  obtain⟨h7,h8⟩:=h6 rfl
  have js:∀i,i<cap→∃y,(W.cells? 0 (Addr.add ⟨b,off,none⟩ (i*P.cellsOf e)) (P.cellsOf e)).bind (DataW.trod enc P W 0 (fun _=>true) true n e)=some y:=by
   intro i hi
   by_cases hl:i<len
   ·rw[h5 i hl]
    exact⟨elems[i]'(by omega),List.getElem?_eq_getElem (by omega)⟩
   ·have:=h8 (i-len) (by omega)
    rw[show len+(i-len)=i by omega] at this
    rw[this]
    exact⟨rest[i-len]'(by omega),List.getElem?_eq_getElem (by omega)⟩
  have hex:∀i,∃C:List Value,i<cap→aA ks C=true∧(∀y∈C,DL y=true)∧∀(j:Nat) y,C[j]?=some y→W.cell? ⟨b,off+i*ks.length+j,none⟩=some y:=by
   intro i
   by_cases hi:i<cap
   ·obtain⟨y,hy⟩:=js i hi
    rw[dw] at hy
    obtain⟨cs,hc,YA⟩:=Option.bind_eq_some_iff.1 hy
    obtain⟨_,YB,TO⟩:=World.cells?_some hc
    obtain⟨q1,q2⟩:=vX d e ks hf hs n cs y YA
    refine⟨cs,fun _=>⟨q1,q2,fun j z hz=>?_⟩⟩
    have hj:j<ks.length:=by have:=(List.getElem?_eq_some_iff.1 hz).1;omega
    rw[←hz,←TO j hj]
    have e1:Addr.add (Addr.add ⟨b,off,none⟩ (i*ks.length)) j=⟨b,off+i*ks.length+j,none⟩:=by
     unfold Addr.add
     by_cases z1:i*ks.length=0
     ·rw[if_pos z1]
      by_cases z2:j=0
      ·rw[if_pos z2,z1,z2];rfl
      ·rw[if_neg z2,z1];rfl
     ·rw[if_neg z1]
      by_cases z2:j=0
      ·rw[if_pos z2,z2];rfl
      ·rw[if_neg z2]
    rw[e1]
   ·exact⟨[],fun h=>absurd h hi⟩
  refine⟨b,off,len,cap,fun i=>(hex i).choose,rfl,h2,h3,hb,fun i hi=>(hex i).choose_spec hi⟩
end
def uC (vs:List Value):List AV:=vs.map .sc
theorem Fl {ρ ks}:∀{vs},aA ks vs=true→∀v∈vs,V ρ (.sc v) v∧v.oneCell'=true:=by
 induction ks with
 |nil=>intro vs h;cases vs with|nil=>simp|cons _ _=>simp[aA] at h
 |cons k ks ih=>
  intro vs h v hv
  cases vs with
  |nil=>simp at hv
  |cons a vs=>
   simp only[aA,Bool.and_eq_true] at h
   rcases List.mem_cons.1 hv with rfl|hv
   ·cases v<;>cases k<;>simp[hZ] at h<;>exact⟨.sc rfl,rfl⟩
   ·exact ih h.2 v hv
theorem Fm {ρ}:∀{vs},(∀v∈vs,V ρ (.sc v) v)→VL ρ (uC vs) vs
 |[],_=>.nil
 |v::vs,h=>.cons (h v (by simp)) (Fm fun x hx=>h x (by simp[hx]))
theorem V.ON {ρ ks vs}(h:aA ks vs=true):V ρ (.agg (uC vs)) (.agg vs.toArray):=
 .agg (Fm fun v hv=>(Fl h v hv).1) fun v hv=>(Fl (ρ:=ρ) h v hv).2
structure Open (P:Program)(W:World)(S:AH)(ρ:a_)(as:List AV)(xs:List Value):Prop where
 r:R P ρ S W
 v:VL ρ as xs
 ro:∀id o,S.get id=some o→ou o=true
theorem Open.nil (P:Program)(W:World):Open P W ⟨.e,0⟩ (fun _=>none) [] []:=⟨R.nothing P W,.nil,fun id o h=>by simp[AH.get,fN] at h⟩
theorem Open.one {P W S ρ as xs}(h:Open P W S ρ as xs){a x}(hv:V ρ a x):Open P W S ρ (a::as) (x::xs):=⟨h.r,.cons hv h.v,h.ro⟩
theorem Open.lay {P W S ρ as xs}(h:Open P W S ρ as xs){b off l:Nat}{c}(hb:b<W.heap.size)
  (hc:∀(i:Nat) v,c[i]?=some v→∃x,W.cell? ⟨b,off+i,none⟩=some x∧V ρ v x∧x.oneCell'=true):Open P W (S.new (.ro c)) (ρ.put S.next (b,off,l)) as xs∧ρ.le (ρ.put S.next (b,off,l)):=by
 have hn:ρ S.next=none:=by
  cases e:ρ S.next with
  |none=>rfl
  |some x=>exact absurd (h.r.rO e) (Nat.lt_irrefl _)
 have hle:=a_.jY (x:=(b,off,l)) hn
 refine⟨⟨⟨?_,?_,?_,?_,?_⟩,h.v.mono hle,?_⟩,hle⟩
 ·intro id ob b' o l' h1 h2
  rw[AH.bZ] at h1
  by_cases e:id=S.next
  ·subst e
   rw[if_pos rfl] at h1
   cases h1
   rw[a_.bA] at h2
   cases h2
   intro i v hv
   obtain⟨x,q1,q2,q3⟩:=hc i v hv
   exact⟨x,q1,q2.mono hle,q3⟩
  ·rw[if_neg e] at h1
   rw[a_.aE _ _ e] at h2
   exact(h.r.gH h1 h2).mono hle rfl
 ·intro i j oi oj b' o l' o' RA h1 h2 h3 h4 h5
  exfalso
  have iU:∀id o,(S.new (.ro c)).get id=some o→ou o=true:=fun id o hg=>by
   rw[AH.bZ] at hg
   split at hg
   ·cases hg;rfl
   ·exact h.ro id o hg
  rw[iU i oi h1,iU j oj h2] at h5
  simp at h5
 ·intro id x h1
  by_cases e:id=S.next
  ·subst e;simp
  ·rw[a_.aE _ _ e] at h1
   have:=h.r.rO h1
   simp;omega
 ·intro id b' o l' h1
  by_cases e:id=S.next
  ·subst e
   rw[a_.bA] at h1
   cases h1
   exact hb
  ·rw[a_.aE _ _ e] at h1
   exact h.r.nO h1
 ·intro id ob hg
  rw[AH.bZ] at hg
  split at hg
  ·next e=>subst e;simp
  ·have:=h.r.wf hg;simp;omega
 ·intro id o hg
  rw[AH.bZ] at hg
  split at hg
  ·cases hg;rfl
  ·exact h.ro id o hg
theorem Open.KN {P W S ρ as xs}(h:Open P W S ρ as xs){ks v}
  (hv:v=.slice none 0 0∨∃(b off len cap:Nat) (C:Nat→List Value),v=.slice (some ⟨b,off,none⟩) len cap∧len≤cap∧cap≤maxLen∧b<W.heap.size∧
    ∀i,i<cap→aA ks (C i)=true∧(∀y∈C i,DL y=true)∧∀(j:Nat) y,(C i)[j]?=some y→W.cell? ⟨b,off+i*ks.length+j,none⟩=some y):
  ∃(a:AV) (S':AH) (aU:a_) (L:List (List Value)),Open P W S' aU (a::as) (v::xs)∧aY S S'∧mW S' a ks.length (L.map uC)∧L.length≤maxLen∧(∀vs∈L,aA ks vs=true∧∀y∈vs,DL y=true)∧((a=Ns∧S'=S)∨∃c len cap,a=.sl S.next 0 len cap∧S'=S.new (.ro c)):=by
 rcases hv with rfl|⟨b,off,len,cap,C,rfl,hle,hm,hb,hC⟩
 ·exact⟨Ns,S,ρ,[],h.one (.sc rfl),aY.refl S,⟨.inl ⟨rfl,rfl⟩,by simp[eg]⟩,by simp,by simp,.inl ⟨rfl,rfl⟩⟩
 ·let c:List AV:=((List.range cap).map fun i=>uC (C i)).flatten
  have hlen:∀x∈(List.range cap).map (fun i=>uC (C i)),x.length=ks.length:=by
   intro x hx
   obtain⟨i,hi,rfl⟩:=List.mem_map.1 hx
   have:=dJ (hC i (List.mem_range.1 hi)).1
   simp[uC,this]
  have dw:c.length=cap*ks.length:=by
   show(List.flatten _).length=_
   rw[bV hlen,List.length_map,List.length_range]
  have rQ:∀i,i<cap→((c.drop (i*ks.length)).take ks.length)=uC (C i):=fun i hi=>jc hlen (by simp[hi])
  obtain⟨h1,h2⟩:=h.lay (l:=cap*ks.length) hb (c:=c) (off:=off) fun q v hq=>by
   have YC:q<c.length:=(List.getElem?_eq_some_iff.1 hq).1
   have WR:0<ks.length:=by
    rcases Nat.eq_zero_or_pos ks.length with e|e
    ·rw[dw,e] at YC;omega
    ·exact e
   have hdm:=Nat.div_add_mod q ks.length
   have TP:=Nat.mod_lt q WR
   have hi:q/ks.length<cap:=by
    rw[Nat.div_lt_iff_lt_mul WR];omega
   have hg:=rQ (q/ks.length) hi
   have DC:(uC (C (q/ks.length)))[q%ks.length]?=some v:=by
    rw[←hg,List.getElem?_take,if_pos TP,List.getElem?_drop,←hq]
    congr 1
    rw[Nat.mul_comm];omega
   unfold uC at DC
   rw[List.getElem?_map] at DC
   obtain⟨x,hx,rfl⟩:=Option.map_eq_some_iff.1 DC
   obtain⟨q1,q2,q3⟩:=hC _ hi
   refine⟨x,?_,Fl q1 x (List.mem_of_getElem? hx)⟩
   have:=q3 _ _ hx
   rw[show off+q/ks.length*ks.length+q%ks.length=off+q by rw[Nat.mul_comm];omega] at this
   exact this
  refine⟨.sl S.next 0 len cap,_,_,(List.range len).map C,h1.one (.sl (off:=0) (a_.bA _ _ _)),aY.new S _,⟨.inr ⟨S.next,0,c,.inl ⟨cap,?_,?_,?_⟩,?_,?_,?_⟩,?_⟩,?_,?_,.inr ⟨c,len,cap,rfl,rfl⟩⟩
  ·simpa using hle
  ·rw[dw];omega
  ·simp
  ·unfold AH.cells?;rw[bN];rfl
  ·rw[List.drop_zero,List.length_map,List.length_map,List.length_range]
   have e1:(List.range cap).map (fun i=>uC (C i))=((List.range len).map C).map uC++((List.range (cap-len)).map fun j=>uC (C (len+j))):=by
    have:List.range cap=List.range len++(List.range (cap-len)).map (fun j=>len+j):=by
     rw[←List.range_add];congr 1;omega
    rw[this,List.map_append,List.map_map,List.map_map];rfl
   have CW:∀x∈((List.range len).map C).map uC,x.length=ks.length:=fun x hx=>hlen x (by rw[e1];exact List.mem_append.2 (.inl hx))
   show List.take (len*ks.length) (List.flatten _)=_
   rw[e1,List.flatten_append,List.take_append]
   have pq:(((List.range len).map C).map uC).flatten.length=len*ks.length:=by rw[bV CW];simp
   rw[pq,Nat.sub_self,List.take_zero,List.append_nil,List.take_of_length_le (by omega)]
  ·intro x hx
   obtain⟨vs,Fo,rfl⟩:=List.mem_map.1 hx
   obtain⟨i,hi,rfl⟩:=List.mem_map.1 Fo
   have:=dJ (hC i (by have:=List.mem_range.1 hi;omega)).1
   simp[uC,this]
  ·intro id bS
   simp only[eg,List.mem_singleton] at bS
   subst bS
   simp
  ·simp;omega
  ·intro vs Fo
   obtain⟨i,hi,rfl⟩:=List.mem_map.1 Fo
   have:=hC i (by have:=List.mem_range.1 hi;omega)
   exact⟨this.1,this.2.1⟩
theorem Open.slice {P W S ρ as xs}(h:Open P W S ρ as xs){ks v}
  (hv:v=.slice none 0 0∨∃(b off len cap:Nat) (C:Nat→List Value),v=.slice (some ⟨b,off,none⟩) len cap∧len≤cap∧cap≤maxLen∧b<W.heap.size∧
    ∀i,i<cap→aA ks (C i)=true∧(∀y∈C i,DL y=true)∧∀(j:Nat) y,(C i)[j]?=some y→W.cell? ⟨b,off+i*ks.length+j,none⟩=some y):
  ∃(a:AV) (S':AH) (aU:a_) (L:List (List Value)),Open P W S' aU (a::as) (v::xs)∧aY S S'∧mW S' a ks.length (L.map uC)∧L.length≤maxLen∧(∀vs∈L,aA ks vs=true∧∀y∈vs,DL y=true):=by
 obtain⟨a,S',aU,L,h1,h2,h3,h4,h5,_⟩:=h.KN hv
 exact⟨a,S',aU,L,h1,h2,h3,h4,h5⟩
end
section
section
variable{M:ef}{S:AH}{f:FuncId}
def ny (P:Program)(t:TypeId):Bool:=match P.underlying t with
 |some (.struct _)=>true
 |_=>false
theorem tJ {P t}(h:ny P t=true):∃fs,P.underlying t=some (.struct fs):=by
 unfold ny at h
 split at h
 ·exact⟨_,by assumption⟩
 ·cases h
theorem yR {ks}:∀{vs},aA ks vs=true→rN (uC vs)=some vs:=by
 induction ks with
 |nil=>intro vs h;cases vs with|nil=>rfl|cons _ _=>simp[aA] at h
 |cons k ks ih=>
  intro vs h
  cases vs with
  |nil=>simp[aA] at h
  |cons v vs=>
   simp only[aA,Bool.and_eq_true] at h
   have:=ih h.2
   simp only[uC,List.map_cons,rN,qu] at this⊢
   rw[show rN (List.map AV.sc vs)=some vs from this]
theorem CZ {Q k t ks}{d:Nat}{vs}(hf:eV M.P d t=some ks)(hd:d≤10000)(hu:ny M.P t=true)(hg:M.P.eqGuardType M.P.depth t=false)(hk:aA ks vs=true)
  (h:wp M (k (B true)) S Q):wp M (.op (.eq t false (.agg (uC vs)) (.agg (uC vs))) k) S Q:=by
 obtain⟨fs,hu⟩:=tJ hu
 refine ae (OK hf hd hu hg (yR hk) (yR hk) hk hk) ?_
 simpa[vV hk] using h
end
end
section
def WS {α:Type}(a b:Option α):Prop:=∀r,a=some r→b=some r
theorem WS.rfl' {α:Type}{a:Option α}:WS a a:=fun _ h=>h
section
variable{P:Program}{call WT:AV→List AV→AH→Option (AV×AH)}{fuel WU:Nat}
end
end
section
section
variable[jo]
end
end
section
variable[jo]
open Go.ChangeShapes Go.WideShapes
def BW (P:Program)(t:TypeId):Bool:=match P.underlying t with
 |some (.int .i64)=>true
 |_=>false
theorem yS:∀{l:List Value},(∀v∈l,∃a,v=.int .i64 a∧IntKind.i64.has a)→∃ns:List Int,l=ns.map (Value.int .i64)∧∀a∈ns,IntKind.i64.has a
 |[],_=>⟨[],rfl,by simp⟩
 |v::l,h=>by
  obtain⟨a,rfl,ha⟩:=h v (by simp)
  obtain⟨ns,rfl,RQ⟩:=yS (l:=l) fun w hw=>h w (List.mem_cons_of_mem _ hw)
  exact⟨a::ns,rfl,fun b hb=>by rcases List.mem_cons.1 hb with rfl|hb;exact ha;exact RQ _ hb⟩
theorem C0 {H:Type}{enc:TypeId×Value→H}{P:Program}{W:World}{base:Nat}{t u e:TypeId}{d m n:Nat}{ks:List (Option IntKind)}{v:Value}{x:DataW H}{p:List MemPlace}{fs:Array Field}{f:Field}{ts:List TypeId}
  (hu:P.underlying t=some (.struct fs)) (TQ:P.cellTypes P.depth t=some ts) (hn:ts.length=n+1) (hint:((ts.take n).all (BW P))=true) (Fp:P.cellsOf t=n+1)
  (OO:ts[n]?=some u) (RR:fs[m]?=some f) (M0:f.offset=n) (YD:f.type=u) (TR:P.cellsOf u=1) (OP:P.underlying u=some (.slice e)) (hf:eV P d e=some ks) (hs:aG P e=some ks.length)
  (fW:Value.okWide P W .any base t v) (h:DataW.Trod enc P W 0 (fun _=>true) true t v x p):
  ∃(ns:List Int) (w:Value),v=.agg ((ns.map (Value.int .i64))++[w]).toArray∧ns.length=n∧(∀a∈ns,IntKind.i64.has a)∧w.oneCell'=true∧
   (w=.slice none 0 0∨∃(b off len cap:Nat) (C:Nat→List Value),w=.slice (some ⟨b,off,none⟩) len cap∧len≤cap∧cap≤maxLen∧b<W.heap.size∧
     ∀i,i<cap→aA ks (C i)=true∧(∀y∈C i,DL y=true)∧∀(j:Nat) y,(C i)[j]?=some y→W.cell? ⟨b,off+i*ks.length+j,none⟩=some y):=by
 simp only[Value.okWide,hu] at fW
 obtain⟨cs,rfl,da,ts',OQ,_,Fq⟩:=fW
 rw[TQ] at OQ
 cases OQ
 rw[Fp] at da
 obtain⟨fuel,hr⟩:=h
 have hr:DataW.trod enc P W 0 (fun _=>true) true fuel t cs.toList=some (x,p):=hr
 have dw:cs.toList.length=n+1:=by simpa using da
 have TT:∀i (hi:i<n+1),∃u',ts[i]?=some u'∧Cell.okWide P W .any base u' (cs.toList[i]'(by omega)):=by
  intro i hi
  obtain⟨u',h1,h2⟩:=Fq i (cs.toList[i]'(by omega)) (by rw[←Array.getElem?_toList,List.getElem?_eq_getElem (by omega)])
  rw[hn,Nat.mod_eq_of_lt hi] at h1
  exact⟨u',h1,h2⟩
 obtain⟨ns,RQ,dX⟩:=yS (l:=cs.toList.take n) fun v hv=>by
  obtain⟨i,hi,rfl⟩:=List.mem_iff_getElem.1 hv
  rw[List.length_take] at hi
  rw[List.getElem_take]
  obtain⟨u',h1,h2⟩:=TT i (by omega)
  have h3:BW P u'=true:=by
   rw[List.all_eq_true] at hint
   refine hint u' (List.mem_of_getElem? (i:=i) ?_)
   rw[List.getElem?_take,if_pos (by omega),h1]
  unfold BW at h3
  split at h3
  ·next h4=>
   generalize(cs.toList[i]'(by omega))=x at h2⊢
   simp only[Cell.okWide,Cell.ok,h4] at h2
   cases x<;>simp at h2
   obtain⟨rfl,nL⟩:=h2
   exact⟨_,rfl,nL⟩
  ·cases h3
 obtain⟨u',h1,OS⟩:=TT n (by omega)
 rw[OO] at h1
 cases h1
 have Jt:cs.toList.drop n=[cs.toList[n]'(by omega)]:=by
  rw[List.drop_eq_getElem_cons (by omega),List.drop_of_length_le (by omega)]
 have js:cs.toList=cs.toList.take n++[cs.toList[n]'(by omega)]:=by
  rw[←Jt,List.take_append_drop]
 have hlen:ns.length=n:=by
  have:=congrArg List.length RQ
  rw[List.length_take,List.length_map] at this
  omega
 obtain⟨xs,k,_,_,_,hxl,yQ⟩:=DataW.trod_struct hu hr
 have h5:=yQ m f RR
 rw[M0,YD,TR,Jt] at h5
 have hm:m<fs.size:=(Array.getElem?_eq_some_iff.1 RR).1
 rw[List.getElem?_eq_getElem (by omega)] at h5
 have h6:DataW.trod enc P W 0 (fun _=>true) true k u [cs.toList[n]'(by omega)]=some (xs[m]'(by omega)):=h5
 refine⟨ns,cs.toList[n]'(by omega),?_,hlen,dX,?_⟩
 ·rw[←RQ,←js]
 ·have hw:(cs.toList[n]'(by omega)=.slice none 0 0)∨∃a len cap,cs.toList[n]'(by omega)=.slice (some a) len cap:=by
   rcases DataW.trod_slice OP h6 with⟨h7,_⟩|⟨a,len,cap,_,_,_,_,h7,_⟩
   ·exact .inl (by simpa using h7)
   ·exact .inr ⟨a,len,cap,by simpa using h7⟩
  generalize cs.toList[n]'(by omega)=w at h6 OS hw
  have oz:w.cells.toList=[w]:=by
   rcases hw with rfl|⟨a,len,cap,rfl⟩<;>rfl
  have TU:w.oneCell'=true:=by
   rcases hw with rfl|⟨a,len,cap,rfl⟩<;>rfl
  have TV:Value.okWide P W .any base u w:=by
   simp only[Value.okWide,OP];exact OS
  exact⟨TU,vY OP hf hs TV ⟨k,by rw[oz];exact h6⟩⟩
theorem Open.ON {P:Program}{W:World}{S:AH}{ρ:a_}{a:AV}{w:Value}{as:List AV}{xs:List Value}(h:Open P W S ρ (a::as) (w::xs))(hw:w.oneCell'=true)(ns:List Int):
  Open P W S ρ (.agg (ns.map (fun n=>AV.sc (.int .i64 n))++[a])::as) (.agg ((ns.map (Value.int .i64))++[w]).toArray::xs):=by
 obtain⟨h1,h2,h3⟩:=h
 cases h2 with
 |cons ha hr=>
  refine⟨h1,.cons (.agg ?_ ?_) hr,h3⟩
  ·induction ns with
   |nil=>exact .cons ha .nil
   |cons n ns ih=>exact .cons (.sc rfl) ih
  ·intro v hv
   rcases List.mem_append.1 hv with hv|hv
   ·obtain⟨n,_,rfl⟩:=List.mem_map.1 hv;rfl
   ·rw[List.mem_singleton.1 hv];exact hw
end
section
variable[jo]
open Go.ChangeShapes Go.WideShapes
def Fs (P:Program)(t u n m:Nat):Bool:=match P.underlying t,P.cellTypes P.depth t with
 |some (.struct fs),some ts=>decide (ts.length=n+1)&&(ts.take n).all (BW P)&&decide (ts[n]?=some u)&&(match fs[m]? with|some f=>decide (f.offset=n)&&decide (f.type=u)|none=>false)
 |_,_=>false
theorem AE {H:Type}{enc:TypeId×Value→H}{P:Program}{W:World}{base:Nat}{t u e:TypeId}{d m n:Nat}{ks:List (Option IntKind)}{v:Value}{x:DataW H}{p:List MemPlace}
  (hb:Fs P t u n m=true) (Fp:P.cellsOf t=n+1) (TR:P.cellsOf u=1) (OP:P.underlying u=some (.slice e)) (hf:eV P d e=some ks) (hs:aG P e=some ks.length)
  (fW:Value.okWide P W .any base t v) (h:DataW.Trod enc P W 0 (fun _=>true) true t v x p):
  ∃(ns:List Int) (w:Value),v=.agg ((ns.map (Value.int .i64))++[w]).toArray∧ns.length=n∧(∀a∈ns,IntKind.i64.has a)∧w.oneCell'=true∧
   (w=.slice none 0 0∨∃(b off len cap:Nat) (C:Nat→List Value),w=.slice (some ⟨b,off,none⟩) len cap∧len≤cap∧cap≤maxLen∧b<W.heap.size∧
     ∀i,i<cap→aA ks (C i)=true∧(∀y∈C i,DL y=true)∧∀(j:Nat) y,(C i)[j]?=some y→W.cell? ⟨b,off+i*ks.length+j,none⟩=some y):=by
 unfold Fs at hb
 split at hb
 ·next fs ts hu TQ=>
  simp only[Bool.and_eq_true,decide_eq_true_eq] at hb
  obtain⟨⟨⟨h1,h2⟩,h3⟩,h4⟩:=hb
  split at h4
  ·next f RR=>
   simp only[Bool.and_eq_true,decide_eq_true_eq] at h4
   exact C0 hu TQ h1 h2 Fp h3 RR h4.1 h4.2 TR OP hf hs fW h
  ·cases h4
 ·cases hb
theorem nA {n:Nat}{l:List Int}(h:l.length=n+1):∃a r,l=a::r∧r.length=n:=by
 cases l with
 |nil=>simp at h
 |cons a r=>exact⟨a,r,rfl,by simpa using h⟩
theorem KO {l:List Int}(h:l.length=0):l=[]:=List.eq_nil_of_length_eq_zero h
end
end
end Go.cY
