/- What the statement needs: the closed call is known, what is handed in is opened. Conditions: stated in each theorem. -/
import Derived.Test.YtdfgboafnklioaaGreatM85
import Derived.Test.YtdfgboafnklioaaGreatJ
import Derived.Test.YtdfgboafnklioaaGreatRows
set_option linter.all false
namespace Go.Proofs.YtdfgboafnklioaaGreat
open Go.cI
set_option maxRecDepth 1000000
theorem own:ownKnob Tryz.prog.godebug=none:=by kernel_rfl
theorem Xb:isTrue (b_ Tryz.prog Tryz.iA M1 4000000 (.fn (.func 31) [] []) [] ⟨.e,0⟩)=true:=by kernel_rfl
theorem known [jJ]:Gl Tryz.prog EM.kn:=⟨Gt Tryz.LK Db (fun x hx=>by
 simp only[List.mem_cons,List.not_mem_nil,or_false] at hx
 subst hx
 obtain⟨S',h⟩:=sE Xb
 exact⟨⟨4000000,S',h⟩,fun w=>Gs Tryz.func31 (by kernel_rfl) (by kernel_rfl) _ w⟩),Db.x⟩
theorem Xd:Tryz.prog.underlying 3=some (.int .i64):=by kernel_rfl
theorem G1:Tryz.prog.underlying 43=some (.slice 58):=by kernel_rfl
theorem G2:dV Tryz.prog 2 58=some [some .u64]:=by kernel_rfl
theorem G3:aU Tryz.prog 58=some [some IntKind.u64].length:=by kernel_rfl
theorem JR:∀{vs:List Value},aA [some .u64] vs=true→(∀y∈vs,Cb y=true)→∃n:Int,vs=[.int .u64 n]∧0≤n∧n<18446744073709551616
 |[],h,_=>by cases h
 |[v0],h,hr=>by
  simp only[aA,Bool.and_true] at h
  cases v0<;>simp[gn] at h
  subst h
  rename_i n
  have:=hr _ (List.Mem.head _)
  refine⟨n,rfl,?_⟩
  have h2:IntKind.u64.min≤n∧n≤IntKind.u64.max:=by simpa[Cb,Lit.wf] using this
  have h3:(0:Int)≤n∧n≤18446744073709551615:=h2
  omega
 |_::_::_,h,_=>by simp[aA] at h
theorem AB:∀{L:List (List Value)},(∀vs∈L,aA [some .u64] vs=true∧∀y∈vs,Cb y=true)→∃l:List Int,L.map sI=aJ l∧∀z∈l,0≤z∧z<18446744073709551616
 |[],_=>⟨[],rfl,by simp⟩
 |v::L,hL=>by
  obtain⟨n,rfl,hn⟩:=JR (hL v (by simp)).1 (hL v (by simp)).2
  obtain⟨l,hl,hr⟩:=AB (L:=L) (fun vs Ay=>hL vs (by simp[Ay]))
  refine⟨n::l,by simp[aJ,hl,sI],fun z hz=>?_⟩
  rcases List.mem_cons.1 hz with rfl|h
  ·exact hn
  ·exact hr z h
theorem JS:Tryz.prog.underlying 87=some (.slice 3):=by kernel_rfl
theorem JT:dV Tryz.prog 2 3=some [some .i64]:=by kernel_rfl
theorem JU:aU Tryz.prog 3=some [some IntKind.i64].length:=by kernel_rfl
theorem Na:∀{vs:List Value},aA [some .i64] vs=true→∃n:Int,vs=[.int .i64 n]
 |[],h=>by cases h
 |[v0],h=>by
  simp only[aA,Bool.and_true] at h
  cases v0<;>simp[gn] at h
  subst h
  exact⟨_,rfl⟩
 |_::_::_,h=>by simp[aA] at h
theorem Dj:∀{L:List (List Value)},(∀vs∈L,aA [some .i64] vs=true)→∃l:List Int,L.map sI=ints l
 |[],_=>⟨[],rfl⟩
 |v::L,hL=>by
  obtain⟨n,rfl⟩:=Na (hL v (by simp))
  obtain⟨l,hl⟩:=Dj (L:=L) (fun vs Ay=>hL vs (by simp[Ay]))
  exact⟨n::l,by simp[ints,hl,sI]⟩
def JV:List (Option IntKind):=[some .i64,some .i64,some .i64,some .i64]
def Tk.vs (x:cX.Tk):List Value:=[.int .i64 x.kind,.int .i64 x.prio,.int .i64 x.every,.int .i64 x.first]
theorem G4:Tryz.prog.underlying 40=some (.slice 208):=by kernel_rfl
theorem G5:dV Tryz.prog 2 208=some JV:=by kernel_rfl
theorem G6:aU Tryz.prog 208=some JV.length:=by kernel_rfl
theorem Rx:∀{vs:List Value},aA JV vs=true→∃x:cX.Tk,vs=Tk.vs x
 |[],h=>by cases h
 |[_],h=>by simp[JV,aA] at h
 |[_,_],h=>by simp[JV,aA] at h
 |[_,_,_],h=>by simp[JV,aA] at h
 |[v0,v1,v2,v3],h=>by
  simp only[JV,aA,Bool.and_eq_true,Bool.and_true] at h
  obtain⟨h0,h1,h2,h3⟩:=h
  cases v0<;>simp[gn] at h0
  cases v1<;>simp[gn] at h1
  cases v2<;>simp[gn] at h2
  cases v3<;>simp[gn] at h3
  subst h0 h1 h2 h3
  exact⟨⟨_,_,_,_⟩,rfl⟩
 |_::_::_::_::_::_,h=>by simp[JV,aA] at h
theorem G7:∀{L:List (List Value)},(∀vs∈L,aA JV vs=true)→∃l:List cX.Tk,L.map sI=cX.dm l
 |[],_=>⟨[],rfl⟩
 |v::L,hL=>by
  obtain⟨x,rfl⟩:=Rx (hL v (by simp))
  obtain⟨l,hl⟩:=G7 (L:=L) (fun vs Ay=>hL vs (by simp[Ay]))
  exact⟨x::l,by simp only[List.map_cons,hl];rfl⟩
def I4:List (Option IntKind):=[some .i64,some .i64,some .i64,some .i64,some .i64]
def Ry (x:JW):List Value:=[.int .i64 x.core,.int .i64 x.what,.int .i64 x.t,.int .i64 x.now,.int .i64 x.high]
theorem JX:Tryz.prog.underlying 44=some (.slice 62):=by kernel_rfl
theorem JY:dV Tryz.prog 2 62=some I4:=by kernel_rfl
theorem JZ:aU Tryz.prog 62=some I4.length:=by kernel_rfl
theorem Rz:∀{vs:List Value},aA I4 vs=true→∃x:JW,vs=Ry x
 |[],h=>by cases h
 |[_],h=>by simp[I4,aA] at h
 |[_,_],h=>by simp[I4,aA] at h
 |[_,_,_],h=>by simp[I4,aA] at h
 |[_,_,_,_],h=>by simp[I4,aA] at h
 |[v0,v1,v2,v3,v4],h=>by
  simp only[I4,aA,Bool.and_eq_true,Bool.and_true] at h
  obtain⟨h0,h1,h2,h3,h4⟩:=h
  cases v0<;>simp[gn] at h0
  cases v1<;>simp[gn] at h1
  cases v2<;>simp[gn] at h2
  cases v3<;>simp[gn] at h3
  cases v4<;>simp[gn] at h4
  subst h0 h1 h2 h3 h4
  exact⟨⟨_,_,_,_,_⟩,rfl⟩
 |_::_::_::_::_::_::_,h=>by simp[I4,aA] at h
theorem G8:∀{L:List (List Value)},(∀vs∈L,aA I4 vs=true)→∃l:List JW,L.map sI=rN l
 |[],_=>⟨[],rfl⟩
 |v::L,hL=>by
  obtain⟨x,rfl⟩:=Rz (hL v (by simp))
  obtain⟨l,hl⟩:=G8 (L:=L) (fun vs Ay=>hL vs (by simp[Ay]))
  exact⟨x::l,by simp only[List.map_cons,hl];rfl⟩
theorem Nb:Tryz.prog.cellsOf 40=1:=by kernel_rfl
theorem Xe:G0 Tryz.prog 78 40 6 6=true:=by kernel_rfl
theorem RA:Tryz.prog.cellsOf 78=7:=by kernel_rfl
theorem RB {ns:List Int} (h:ns.length=6) (hr:∀a∈ns,IntKind.i64.has a):∃s:X.Su,(∀v,ns.map (fun n=>AV.sc (.int .i64 n))++[v]=s.cs v):=by
 obtain⟨a0,r0,rfl,h0⟩:=nR (n:=5) h
 obtain⟨a1,r1,rfl,h1⟩:=nR (n:=4) h0
 obtain⟨a2,r2,rfl,h2⟩:=nR (n:=3) h1
 obtain⟨a3,r3,rfl,h3⟩:=nR (n:=2) h2
 obtain⟨a4,r4,rfl,h4⟩:=nR (n:=1) h3
 obtain⟨a5,r5,rfl,h5⟩:=nR (n:=0) h4
 obtain rfl:=M_ h5
 exact⟨⟨a0,a1,a2,a3,a4,a5⟩,fun v=>rfl⟩
end Go.Proofs.YtdfgboafnklioaaGreat
