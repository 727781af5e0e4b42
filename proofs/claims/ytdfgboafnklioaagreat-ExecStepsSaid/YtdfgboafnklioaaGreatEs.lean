/- ExecSteps: whatever the input, the statement answers true, and what is handed in reads as before. No condition. -/
import Derived.Test.YtdfgboafnklioaaGreatH
import Derived.Test.YtdfgboafnklioaaGreatJA
import Derived.Test.YtdfgboafnklioaaGreatJB
import Derived.Test.YtdfgboafnklioaaGreatJC
import Derived.Test.YtdfgboafnklioaaGreatJD
set_option linter.all false
namespace Go.Proofs.YtdfgboafnklioaaGreat.ExecStepsOf
open Go.cG
set_option maxRecDepth 1000000
theorem lifted (os:Os) (started:os.Started) (H:Type) (enc:TypeId×Value→H):
  ReturnsInHanded {} Tryz.checked os 3 .any (Rows.execStepsSpec.pre6 enc Tryz.prog Tryz.f3 Rows.execStepsRow.domain false) (Rows.execStepsSpec.post enc Tryz.prog Tryz.f3 false true false false):=by
 refine returnsInHanded_of_change (C:=Tryz.checked) own started (by kernel_rfl) Tryz.func3
  (ChangeSpec.witness6 (enc:=enc) (C:=Tryz.checked) false ⟨#[],#[.agg #[.int .i64 0,.int .i64 0,.int .i64 0,.int .i64 0,.int .i64 0,.int .i64 0,.int .i64 0,.int .i64 0,.int .i64 0,.int .i64 0,.int .i64 0,.int .i64 0,.int .i64 0,.int .i64 0,.int .i64 0,.int .i64 0,.int .i64 0,.int .i64 0,.int .i64 0,.int .i64 0,.int .i64 0,.int .i64 0,.int .i64 0,.int .i64 0,.int .i64 0,.int .i64 0,.int .i64 0,.int .i64 0,.slice none 0 0],.int .i64 0,.slice none 0 0,.slice none 0 0],[]⟩ 8 (by kernel_rfl) (by kernel_rfl) (by kernel_rfl) (by kernel_rfl)) ?_
 intro W base args ds gs before RW hW abl _
 have wU:∀(j:Nat) t v,Tryz.f3.params[j]?=some t→args[j]?=some v→Value.okWide Tryz.prog W .any base t v:=RW
 have hW':=hW
 obtain⟨p,q,hA0,hV,rfl,hfz,BV⟩:=hW
 have hA:DataW.TrodAll enc Tryz.prog W 0 (fun _=>true) true Tryz.f3.params.toList args.toList ds p:=hA0
 rw[Tryz.params3] at hA wU
 obtain⟨v0,Qs,d0,ds0,p0,q0,cI,rfl,rfl,h0,hA⟩:=Go.ChangeShapes.trodAll_cons hA
 obtain⟨v1,Bw,d1,ds1,p1,q1,rfl,rfl,rfl,h1,hA⟩:=Go.ChangeShapes.trodAll_cons hA
 obtain⟨v2,vs2,d2,ds2,p2,q2,rfl,rfl,rfl,h2,hA⟩:=Go.ChangeShapes.trodAll_cons hA
 obtain⟨v3,vs3,d3,ds3,p3,q3,rfl,rfl,rfl,h3,hA⟩:=Go.ChangeShapes.trodAll_cons hA
 obtain⟨rfl,rfl,rfl⟩:=Go.ChangeShapes.trodAll_nil hA
 obtain rfl:args=#[v0,v1,v2,v3]:=Array.toList_inj.1 cI
 have O4:=Open.nil Tryz.prog W
 obtain⟨a3,S3,FC,L3,O3,hg3,ES,_,hK3⟩:=O4.slice (si Km Kn Ko (wU 3 44 v3 rfl rfl) h3)
 obtain⟨l3,Rz⟩:=Hu (fun vs EO=>(hK3 vs EO).1)
 rw[Rz] at ES
 obtain⟨a2,S2,zu,L2,O2,yz,Kp,_,hK2⟩:=O3.slice (si Hv Hw Hy (wU 2 43 v2 rfl rfl) h2)
 replace ES:=ES.grow yz
 obtain⟨l2,pG,Vj⟩:=Ay hK2
 rw[pG] at Kp
 obtain⟨x1,rfl,rfl,rfl,_⟩:=Go.ChangeShapes.open_int ND (wU 1 3 v1 rfl rfl) h1
 have O1:=O2.one (cG.V.sc (v:=.int .i64 x1) rfl)
 obtain⟨ns0,w0,rfl,Qh,Jt,ho0,hw0⟩:=Cg Xp RX NF Hz HA HB (wU 0 42 v0 rfl rfl) h0
 obtain⟨a0,S0,jf,L0,P0,hg0,RY,_,hK0⟩:=O1.slice hw0
 replace ES:=ES.grow hg0
 replace Kp:=Kp.grow hg0
 have O0:=P0.RO ho0 ns0
 obtain⟨l0,zQ⟩:=HC (fun vs EO=>(hK0 vs EO).1)
 rw[zQ] at RY
 obtain⟨y0,hy0,hgn⟩:=RZ Qh Jt
 rw[hy0] at O0
 obtain⟨n,bX⟩:=G0 (yH (x:=y0) hgn RY Kp Vj ES)
 refine(yC (P:=Tryz.prog) Tryz.Ma known bX O0.r O0.v O0.ro (GV Tryz.func3 (by kernel_rfl) (by kernel_rfl) _)).mono fun e W' ⟨he,hb⟩=>⟨_,he,?_⟩
 exact GS o_.laidOut (by kernel_rfl) (by kernel_rfl) rfl (fun ds h=>by
  match ds,h with
  |[_,_,_,_],_=>rfl) hW' hb
theorem j6:(Rows.execStepsRow.plainKeys==Tryz.checked.prog.plainKeys)=true:=by kernel_rfl
theorem j9:(Rows.execStepsRow.lifted==Tryz.checked.prog.liftsFinal)=true:=by kernel_rfl
theorem closed:joinedFacts Tryz.checked.prog 3 Tryz.f3 Rows.execStepsSpec Rows.execStepsRow=true:=by
 unfold joinedFacts
 rw[o_.laidOut,o_.R2,j2,j3,j4,j5,j6,o_.heard,o_.enters,j9]
 kernel_rfl
theorem inst:Tryz.f3.isInstance Tryz.checked.prog Rows.execStepsRow.origin Rows.execStepsRow.targs:=of_decide_eq_true (by kernel_rfl)
theorem holds:Rows.ExecStepsSaid:=
 OpenClaim.holds_of_wide 3 Tryz.f3 rfl rfl rfl rfl rfl rfl rfl ⟨rfl,rfl,rfl,rfl,rfl⟩ rfl rfl rfl rfl rfl (by kernel_rfl) Tryz.func3 closed
  inst (by unfold Func.isWrapper;first|(rw[if_pos (by decide+kernel)];kernel_rfl)|(rw[if_neg (by decide+kernel)];exact⟨rfl,rfl⟩))
  (fun os started H enc _=>lifted os started H enc)
end Go.Proofs.YtdfgboafnklioaaGreat.ExecStepsOf
