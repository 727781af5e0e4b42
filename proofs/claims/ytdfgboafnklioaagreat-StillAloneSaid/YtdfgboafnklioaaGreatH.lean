/- What the statement needs: the closed call is known, what is handed in is opened. Conditions: stated in each theorem. -/
import Derived.Test.YtdfgboafnklioaaGreatM72
import Derived.Test.YtdfgboafnklioaaGreatJ
import Derived.Test.YtdfgboafnklioaaGreatRows
set_option linter.all false
namespace Go.Proofs.YtdfgboafnklioaaGreat
open Go.cY
set_option maxRecDepth 1000000
theorem own:ownKnob Tryz.prog.godebug=none:=by kernel_rfl
theorem TW:isTrue (b6 Tryz.prog Tryz.iP KE 4000000 (.fn (.func 31) [] []) [] ⟨.e,0⟩)=true:=by kernel_rfl
theorem known [jo]:EP Tryz.prog EM.kn:=⟨EW Tryz.Ju BP (fun x hx=>by
 simp only[List.mem_cons,List.not_mem_nil,or_false] at hx
 subst hx
 obtain⟨S',h⟩:=ru TW
 exact⟨⟨4000000,S',h⟩,fun w=>EV Tryz.func31 (by kernel_rfl) (by kernel_rfl) _ w⟩),BP.x⟩
theorem Ft:Tryz.prog.underlying 3=some (.int .i64):=by kernel_rfl
def HS:List (Option IntKind):=[some .i64,some .i64,some .i64,some .i64]
def Tk.vs (x:dW.Tk):List Value:=[.int .i64 x.kind,.int .i64 x.prio,.int .i64 x.every,.int .i64 x.first]
theorem Fu:Tryz.prog.underlying 40=some (.slice 208):=by kernel_rfl
theorem Fw:eV Tryz.prog 2 208=some HS:=by kernel_rfl
theorem Fx:aG Tryz.prog 208=some HS.length:=by kernel_rfl
theorem OT:∀{vs:List Value},aA HS vs=true→∃x:dW.Tk,vs=Tk.vs x
 |[],h=>by cases h
 |[_],h=>by simp[HS,aA] at h
 |[_,_],h=>by simp[HS,aA] at h
 |[_,_,_],h=>by simp[HS,aA] at h
 |[v0,v1,v2,v3],h=>by
  simp only[HS,aA,Bool.and_eq_true,Bool.and_true] at h
  obtain⟨h0,h1,h2,h3⟩:=h
  cases v0<;>simp[hZ] at h0
  cases v1<;>simp[hZ] at h1
  cases v2<;>simp[hZ] at h2
  cases v3<;>simp[hZ] at h3
  subst h0 h1 h2 h3
  exact⟨⟨_,_,_,_⟩,rfl⟩
 |_::_::_::_::_::_,h=>by simp[HS,aA] at h
theorem Fy:∀{L:List (List Value)},(∀vs∈L,aA HS vs=true)→∃l:List dW.Tk,L.map uC=dW.eK l
 |[],_=>⟨[],rfl⟩
 |v::L,hL=>by
  obtain⟨x,rfl⟩:=OT (hL v (by simp))
  obtain⟨l,hl⟩:=Fy (L:=L) (fun vs Fo=>hL vs (by simp[Fo]))
  exact⟨x::l,by simp only[List.map_cons,hl];rfl⟩
def OU:List (Option IntKind):=[some .i64,some .i64,some .i64,some .i64,some .i64]
def OV (x:G8):List Value:=[.int .i64 x.core,.int .i64 x.what,.int .i64 x.t,.int .i64 x.now,.int .i64 x.high]
theorem HT:Tryz.prog.underlying 44=some (.slice 62):=by kernel_rfl
theorem HU:eV Tryz.prog 2 62=some OU:=by kernel_rfl
theorem HV:aG Tryz.prog 62=some OU.length:=by kernel_rfl
theorem OW:∀{vs:List Value},aA OU vs=true→∃x:G8,vs=OV x
 |[],h=>by cases h
 |[_],h=>by simp[OU,aA] at h
 |[_,_],h=>by simp[OU,aA] at h
 |[_,_,_],h=>by simp[OU,aA] at h
 |[_,_,_,_],h=>by simp[OU,aA] at h
 |[v0,v1,v2,v3,v4],h=>by
  simp only[OU,aA,Bool.and_eq_true,Bool.and_true] at h
  obtain⟨h0,h1,h2,h3,h4⟩:=h
  cases v0<;>simp[hZ] at h0
  cases v1<;>simp[hZ] at h1
  cases v2<;>simp[hZ] at h2
  cases v3<;>simp[hZ] at h3
  cases v4<;>simp[hZ] at h4
  subst h0 h1 h2 h3 h4
  exact⟨⟨_,_,_,_,_⟩,rfl⟩
 |_::_::_::_::_::_::_,h=>by simp[OU,aA] at h
theorem Fz:∀{L:List (List Value)},(∀vs∈L,aA OU vs=true)→∃l:List G8,L.map uC=u_ l
 |[],_=>⟨[],rfl⟩
 |v::L,hL=>by
  obtain⟨x,rfl⟩:=OW (hL v (by simp))
  obtain⟨l,hl⟩:=Fz (L:=L) (fun vs Fo=>hL vs (by simp[Fo]))
  exact⟨x::l,by simp only[List.map_cons,hl];rfl⟩
theorem KP:Tryz.prog.cellsOf 40=1:=by kernel_rfl
theorem TX:Fs Tryz.prog 78 40 6 6=true:=by kernel_rfl
theorem OX:Tryz.prog.cellsOf 78=7:=by kernel_rfl
theorem OY {ns:List Int} (h:ns.length=6) (hr:∀a∈ns,IntKind.i64.has a):∃s:X.Su,(∀v,ns.map (fun n=>AV.sc (.int .i64 n))++[v]=s.cs v):=by
 obtain⟨a0,r0,rfl,h0⟩:=nA (n:=5) h
 obtain⟨a1,r1,rfl,h1⟩:=nA (n:=4) h0
 obtain⟨a2,r2,rfl,h2⟩:=nA (n:=3) h1
 obtain⟨a3,r3,rfl,h3⟩:=nA (n:=2) h2
 obtain⟨a4,r4,rfl,h4⟩:=nA (n:=1) h3
 obtain⟨a5,r5,rfl,h5⟩:=nA (n:=0) h4
 obtain rfl:=KO h5
 exact⟨⟨a0,a1,a2,a3,a4,a5⟩,fun v=>rfl⟩
end Go.Proofs.YtdfgboafnklioaaGreat
