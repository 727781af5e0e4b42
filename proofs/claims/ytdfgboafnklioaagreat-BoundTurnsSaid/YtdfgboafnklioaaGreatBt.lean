/- BoundTurns: whatever the input, the statement answers true, and what is handed in reads as before. No condition. -/
import Derived.Test.YtdfgboafnklioaaGreatH
import Derived.Test.YtdfgboafnklioaaGreatJA
import Derived.Test.YtdfgboafnklioaaGreatJB
import Derived.Test.YtdfgboafnklioaaGreatJC
import Derived.Test.YtdfgboafnklioaaGreatJD
set_option linter.all false
namespace Go.Proofs.YtdfgboafnklioaaGreat.BoundTurnsOf
open Go.cO
set_option maxRecDepth 1000000
theorem lifted (os:Os) (started:os.Started) (H:Type) (enc:TypeId×Value→H):
  ReturnsInHanded {} Tryz.checked os 6 .any (Rows.boundTurnsSpec.pre6 enc Tryz.prog Tryz.f6 Rows.boundTurnsRow.domain false) (Rows.boundTurnsSpec.post enc Tryz.prog Tryz.f6 false true false false):=by
 refine returnsInHanded_of_change (C:=Tryz.checked) own started (by kernel_rfl) Tryz.func6
  (ChangeSpec.witness6 (enc:=enc) (C:=Tryz.checked) false ⟨#[],#[.slice none 0 0,.slice none 0 0],[]⟩ 8 (by kernel_rfl) (by kernel_rfl) (by kernel_rfl) (by kernel_rfl)) ?_
 intro W base args ds gs before RJ hW abh _
 have zK:∀(j:Nat) t v,Tryz.f6.params[j]?=some t→args[j]?=some v→Value.okWide Tryz.prog W .any base t v:=RJ
 have hW':=hW
 obtain⟨p,q,hA0,hV,rfl,Z2,P2⟩:=hW
 have hA:DataW.TrodAll enc Tryz.prog W 0 (fun _=>true) true Tryz.f6.params.toList args.toList ds p:=hA0
 rw[Tryz.params6] at hA zK
 obtain⟨v0,P_,d0,ds0,p0,q0,bZ,rfl,rfl,h0,hA⟩:=Go.ChangeShapes.trodAll_cons hA
 obtain⟨v1,Bh,d1,ds1,p1,q1,rfl,rfl,rfl,h1,hA⟩:=Go.ChangeShapes.trodAll_cons hA
 obtain⟨rfl,rfl,rfl⟩:=Go.ChangeShapes.trodAll_nil hA
 obtain rfl:args=#[v0,v1]:=Array.toList_inj.1 bZ
 have O2:=Open.nil Tryz.prog W
 obtain⟨a1,S1,jH,l1,O1,Qi,M4,Qg⟩:=O2.turns (BZ G6 M5 Dc Dd De (zK 1 104 v1 rfl rfl) h1)
 obtain⟨a0,S0,i7,L0,O0,Z8,RK,_,hK0⟩:=O1.slice (Ei Dc Dd De (zK 0 87 v0 rfl rfl) h0)
 replace M4:=M4.grow Z8
 replace Qg:=fun t ht=>(Qg t ht).grow Z8
 obtain⟨l0,Be⟩:=yp (fun vs JR=>(hK0 vs JR).1)
 rw[Be] at RK
 obtain⟨n,b6⟩:=GJ (wx RK M4 Qg)
 refine(ye (P:=Tryz.prog) Tryz.LC known b6 O0.r O0.v O0.ro (GD Tryz.func6 (by kernel_rfl) (by kernel_rfl) _)).mono fun e W' ⟨he,hb⟩=>⟨_,he,?_⟩
 exact GB oW.laidOut (by kernel_rfl) (by kernel_rfl) rfl (fun ds h=>by
  match ds,h with
  |[_,_],_=>rfl) hW' hb
theorem j6:(Rows.boundTurnsRow.plainKeys==Tryz.checked.prog.plainKeys)=true:=by kernel_rfl
theorem j9:(Rows.boundTurnsRow.lifted==Tryz.checked.prog.liftsFinal)=true:=by kernel_rfl
theorem closed:joinedFacts Tryz.checked.prog 6 Tryz.f6 Rows.boundTurnsSpec Rows.boundTurnsRow=true:=by
 unfold joinedFacts
 rw[oW.laidOut,oW.RL,j2,j3,j4,j5,j6,oW.heard,oW.enters,j9]
 kernel_rfl
theorem inst:Tryz.f6.isInstance Tryz.checked.prog Rows.boundTurnsRow.origin Rows.boundTurnsRow.targs:=of_decide_eq_true (by kernel_rfl)
theorem holds:Rows.BoundTurnsSaid:=
 OpenClaim.holds_of_wide 6 Tryz.f6 rfl rfl rfl rfl rfl rfl rfl ⟨rfl,rfl,rfl,rfl,rfl⟩ rfl rfl rfl rfl rfl (by kernel_rfl) Tryz.func6 closed
  inst (by unfold Func.isWrapper;first|(rw[if_pos (by decide+kernel)];kernel_rfl)|(rw[if_neg (by decide+kernel)];exact⟨rfl,rfl⟩))
  (fun os started H enc _=>lifted os started H enc)
end Go.Proofs.YtdfgboafnklioaaGreat.BoundTurnsOf
