/- StillSteps: whatever the input, the statement answers true, and what is handed in reads as before. No condition. -/
import Derived.Test.YtdfgboafnklioaaGreatH
import Derived.Test.YtdfgboafnklioaaGreatJA
import Derived.Test.YtdfgboafnklioaaGreatJB
import Derived.Test.YtdfgboafnklioaaGreatJC
import Derived.Test.YtdfgboafnklioaaGreatJD
set_option linter.all false
namespace Go.Proofs.YtdfgboafnklioaaGreat.StillStepsOf
open Go.cI
set_option maxRecDepth 1000000
theorem lifted (os:Os) (started:os.Started) (H:Type) (enc:TypeId×Value→H):
  ReturnsInHanded {} Tryz.checked os 5 .any (Rows.stillStepsSpec.pre6 enc Tryz.prog Tryz.f5 Rows.stillStepsRow.domain false) (Rows.stillStepsSpec.post enc Tryz.prog Tryz.f5 false true false false):=by
 refine returnsInHanded_of_change (C:=Tryz.checked) own started (by kernel_rfl) Tryz.func5
  (ChangeSpec.witness6 (enc:=enc) (C:=Tryz.checked) false ⟨#[],#[.agg #[.int .i64 0,.int .i64 0,.int .i64 0,.int .i64 0,.int .i64 0,.int .i64 0,.slice none 0 0],.slice none 0 0,.slice none 0 0,.slice none 0 0],[]⟩ 8 (by kernel_rfl) (by kernel_rfl) (by kernel_rfl) (by kernel_rfl)) ?_
 intro W base args ds gs before UO hW acw _
 have wG:∀(j:Nat) t v,Tryz.f5.params[j]?=some t→args[j]?=some v→Value.okWide Tryz.prog W .any base t v:=UO
 have hW':=hW
 obtain⟨p,q,hA0,hV,rfl,hfz,PU⟩:=hW
 have hA:DataW.TrodAll enc Tryz.prog W 0 (fun _=>true) true Tryz.f5.params.toList args.toList ds p:=hA0
 rw[Tryz.params5] at hA wG
 obtain⟨v0,P3,d0,ds0,p0,q0,cy,rfl,rfl,h0,hA⟩:=Go.ChangeShapes.trodAll_cons hA
 obtain⟨v1,Bw,d1,ds1,p1,q1,rfl,rfl,rfl,h1,hA⟩:=Go.ChangeShapes.trodAll_cons hA
 obtain⟨v2,vs2,d2,ds2,p2,q2,rfl,rfl,rfl,h2,hA⟩:=Go.ChangeShapes.trodAll_cons hA
 obtain⟨v3,vs3,d3,ds3,p3,q3,rfl,rfl,rfl,h3,hA⟩:=Go.ChangeShapes.trodAll_cons hA
 obtain⟨rfl,rfl,rfl⟩:=Go.ChangeShapes.trodAll_nil hA
 obtain rfl:args=#[v0,v1,v2,v3]:=Array.toList_inj.1 cy
 have O4:=Open.nil Tryz.prog W
 obtain⟨a3,S3,Fg,L3,O3,hg3,Br,_,hK3⟩:=O4.slice (nQ JS JT JU (wG 3 87 v3 rfl rfl) h3)
 obtain⟨l3,Q6⟩:=Dj (fun vs Ay=>(hK3 vs Ay).1)
 rw[Q6] at Br
 obtain⟨a2,S2,zt,L2,O2,B8,E9,_,hK2⟩:=O3.slice (nQ JX JY JZ (wG 2 44 v2 rfl rfl) h2)
 replace Br:=Br.grow B8
 obtain⟨l2,og⟩:=G8 (fun vs Ay=>(hK2 vs Ay).1)
 rw[og] at E9
 obtain⟨a1,S1,jH,L1,O1,hg1,La,_,hK1⟩:=O2.slice (nQ G1 G2 G3 (wG 1 43 v1 rfl rfl) h1)
 replace Br:=Br.grow hg1
 replace E9:=E9.grow hg1
 obtain⟨l1,IZ,Fj⟩:=AB hK1
 rw[IZ] at La
 obtain⟨ns0,w0,rfl,QO,I1,ho0,hw0⟩:=Cd Xe RA Nb G4 G5 G6 (wG 0 78 v0 rfl rfl) h0
 obtain⟨a0,S0,iF,L0,P0,ZS,UP,_,hK0⟩:=O1.slice hw0
 replace Br:=Br.grow ZS
 replace E9:=E9.grow ZS
 replace La:=La.grow ZS
 have O0:=P0.Rp ho0 ns0
 obtain⟨l0,Bt⟩:=G7 (fun vs Ay=>(hK0 vs Ay).1)
 rw[Bt] at UP
 obtain⟨y0,Ux⟩:=RB QO I1
 rw[Ux] at O0
 obtain⟨n,cf⟩:=Gx (wZ (s:=y0) UP La Fj E9 Br)
 refine(yp (P:=Tryz.prog) Tryz.LK known cf O0.r O0.v O0.ro (Gs Tryz.func5 (by kernel_rfl) (by kernel_rfl) _)).mono fun e W' ⟨he,hb⟩=>⟨_,he,?_⟩
 exact Gp oD.laidOut (by kernel_rfl) (by kernel_rfl) rfl (fun ds h=>by
  match ds,h with
  |[_,_,_,_],_=>rfl) hW' hb
theorem j6:(Rows.stillStepsRow.plainKeys==Tryz.checked.prog.plainKeys)=true:=by kernel_rfl
theorem j9:(Rows.stillStepsRow.lifted==Tryz.checked.prog.liftsFinal)=true:=by kernel_rfl
theorem closed:joinedFacts Tryz.checked.prog 5 Tryz.f5 Rows.stillStepsSpec Rows.stillStepsRow=true:=by
 unfold joinedFacts
 rw[oD.laidOut,oD.RC,j2,j3,j4,j5,j6,oD.heard,oD.enters,j9]
 kernel_rfl
theorem inst:Tryz.f5.isInstance Tryz.checked.prog Rows.stillStepsRow.origin Rows.stillStepsRow.targs:=of_decide_eq_true (by kernel_rfl)
theorem holds:Rows.StillStepsSaid:=
 OpenClaim.holds_of_wide 5 Tryz.f5 rfl rfl rfl rfl rfl rfl rfl ⟨rfl,rfl,rfl,rfl,rfl⟩ rfl rfl rfl rfl rfl (by kernel_rfl) Tryz.func5 closed
  inst (by unfold Func.isWrapper;first|(rw[if_pos (by decide+kernel)];kernel_rfl)|(rw[if_neg (by decide+kernel)];exact⟨rfl,rfl⟩))
  (fun os started H enc _=>lifted os started H enc)
end Go.Proofs.YtdfgboafnklioaaGreat.StillStepsOf
