/- StillAlone: whatever the input, the statement answers true, and what is handed in reads as before. No condition. -/
import Derived.Test.YtdfgboafnklioaaGreatH
import Derived.Test.YtdfgboafnklioaaGreatJA
import Derived.Test.YtdfgboafnklioaaGreatJB
import Derived.Test.YtdfgboafnklioaaGreatJC
import Derived.Test.YtdfgboafnklioaaGreatJD
set_option linter.all false
namespace Go.Proofs.YtdfgboafnklioaaGreat.StillAloneOf
open Go.cY
set_option maxRecDepth 1000000
theorem lifted (os:Os) (started:os.Started) (H:Type) (enc:TypeId×Value→H):
  ReturnsInHanded {} Tryz.checked os 4 .any (Rows.stillAloneSpec.pre6 enc Tryz.prog Tryz.f4 Rows.stillAloneRow.domain false) (Rows.stillAloneSpec.post enc Tryz.prog Tryz.f4 false true false false):=by
 refine returnsInHanded_of_change (C:=Tryz.checked) own started (by kernel_rfl) Tryz.func4
  (ChangeSpec.witness6 (enc:=enc) (C:=Tryz.checked) false ⟨#[],#[.agg #[.int .i64 0,.int .i64 0,.int .i64 0,.int .i64 0,.int .i64 0,.int .i64 0,.slice none 0 0],.slice none 0 0,.int .i64 0,.int .i64 0],[]⟩ 8 (by kernel_rfl) (by kernel_rfl) (by kernel_rfl) (by kernel_rfl)) ?_
 intro W base args ds gs before Rt hW aas _
 have uU:∀(j:Nat) t v,Tryz.f4.params[j]?=some t→args[j]?=some v→Value.okWide Tryz.prog W .any base t v:=Rt
 have hW':=hW
 obtain⟨p,q,hA0,hV,rfl,WM,M4⟩:=hW
 have hA:DataW.TrodAll enc Tryz.prog W 0 (fun _=>true) true Tryz.f4.params.toList args.toList ds p:=hA0
 rw[Tryz.params4] at hA uU
 obtain⟨v0,Nc,d0,ds0,p0,q0,aR,rfl,rfl,h0,hA⟩:=Go.ChangeShapes.trodAll_cons hA
 obtain⟨v1,zO,d1,ds1,p1,q1,rfl,rfl,rfl,h1,hA⟩:=Go.ChangeShapes.trodAll_cons hA
 obtain⟨v2,vs2,d2,ds2,p2,q2,rfl,rfl,rfl,h2,hA⟩:=Go.ChangeShapes.trodAll_cons hA
 obtain⟨v3,vs3,d3,ds3,p3,q3,rfl,rfl,rfl,h3,hA⟩:=Go.ChangeShapes.trodAll_cons hA
 obtain⟨rfl,rfl,rfl⟩:=Go.ChangeShapes.trodAll_nil hA
 obtain rfl:args=#[v0,v1,v2,v3]:=Array.toList_inj.1 aR
 have O4:=Open.nil Tryz.prog W
 obtain⟨x3,rfl,rfl,rfl,_⟩:=Go.ChangeShapes.open_int Ft (uU 3 3 v3 rfl rfl) h3
 have O3:=O4.one (cY.V.sc (v:=.int .i64 x3) rfl)
 obtain⟨x2,rfl,rfl,rfl,_⟩:=Go.ChangeShapes.open_int Ft (uU 2 3 v2 rfl rfl) h2
 have O2:=O3.one (cY.V.sc (v:=.int .i64 x2) rfl)
 obtain⟨a1,S1,jn,L1,O1,hg1,I4,_,hK1⟩:=O2.slice (vY HT HU HV (uU 1 44 v1 rfl rfl) h1)
 obtain⟨l1,G3⟩:=Fz (fun vs Fo=>(hK1 vs Fo).1)
 rw[G3] at I4
 obtain⟨ns0,w0,rfl,N8,G6,ho0,hw0⟩:=AE TX OX KP Fu Fw Fx (uU 0 78 v0 rfl rfl) h0
 obtain⟨a0,S0,iu,L0,P0,hg0,Ru,_,hK0⟩:=O1.slice hw0
 replace I4:=I4.grow hg0
 have O0:=P0.ON ho0 ns0
 obtain⟨l0,zK⟩:=Fy (fun vs Fo=>(hK0 vs Fo).1)
 rw[zK] at Ru
 obtain⟨y0,hy0⟩:=OY N8 G6
 rw[hy0] at O0
 obtain⟨n,bQ⟩:=EZ (vB (s:=y0) Ru I4)
 refine(xe (P:=Tryz.prog) Tryz.Ju known bQ O0.r O0.v O0.ro (EV Tryz.func4 (by kernel_rfl) (by kernel_rfl) _)).mono fun e W' ⟨he,hb⟩=>⟨_,he,?_⟩
 exact ET nV.laidOut (by kernel_rfl) (by kernel_rfl) rfl (fun ds h=>by
  match ds,h with
  |[_,_,_,_],_=>rfl) hW' hb
theorem j6:(Rows.stillAloneRow.plainKeys==Tryz.checked.prog.plainKeys)=true:=by kernel_rfl
theorem j9:(Rows.stillAloneRow.lifted==Tryz.checked.prog.liftsFinal)=true:=by kernel_rfl
theorem closed:joinedFacts Tryz.checked.prog 4 Tryz.f4 Rows.stillAloneSpec Rows.stillAloneRow=true:=by
 unfold joinedFacts
 rw[nV.laidOut,nV.OZ,j2,j3,j4,j5,j6,nV.heard,nV.enters,j9]
 kernel_rfl
theorem inst:Tryz.f4.isInstance Tryz.checked.prog Rows.stillAloneRow.origin Rows.stillAloneRow.targs:=of_decide_eq_true (by kernel_rfl)
theorem holds:Rows.StillAloneSaid:=
 OpenClaim.holds_of_wide 4 Tryz.f4 rfl rfl rfl rfl rfl rfl rfl ⟨rfl,rfl,rfl,rfl,rfl⟩ rfl rfl rfl rfl rfl (by kernel_rfl) Tryz.func4 closed
  inst (by unfold Func.isWrapper;first|(rw[if_pos (by decide+kernel)];kernel_rfl)|(rw[if_neg (by decide+kernel)];exact⟨rfl,rfl⟩))
  (fun os started H enc _=>lifted os started H enc)
end Go.Proofs.YtdfgboafnklioaaGreat.StillAloneOf
