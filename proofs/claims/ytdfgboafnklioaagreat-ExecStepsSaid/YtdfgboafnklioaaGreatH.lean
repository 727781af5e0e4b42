/- What the statement needs: the closed call is known, what is handed in is opened. Conditions: stated in each theorem. -/
import Derived.Test.YtdfgboafnklioaaGreatM89
import Derived.Test.YtdfgboafnklioaaGreatJ
import Derived.Test.YtdfgboafnklioaaGreatRows
set_option linter.all false
namespace Go.Proofs.YtdfgboafnklioaaGreat
open Go.cG
set_option maxRecDepth 1000000
theorem own:ownKnob Tryz.prog.godebug=none:=by kernel_rfl
theorem Xq:isTrue (cn Tryz.prog Tryz.iT Nq 4000000 (.fn (.func 11) [] []) [] ⟨.e,0⟩)=true:=by kernel_rfl
theorem known [km]:GP Tryz.prog EM.kn:=⟨GW Tryz.Ma Ds (fun x hx=>by
 simp only[List.mem_cons,List.not_mem_nil,or_false] at hx
 subst hx
 obtain⟨S',h⟩:=sU Xq
 exact⟨⟨4000000,S',h⟩,fun w=>GV Tryz.func11 (by kernel_rfl) (by kernel_rfl) _ w⟩),Ds.x⟩
theorem ND:Tryz.prog.underlying 3=some (.int .i64):=by kernel_rfl
theorem Hv:Tryz.prog.underlying 43=some (.slice 58):=by kernel_rfl
theorem Hw:eL Tryz.prog 2 58=some [some .u64]:=by kernel_rfl
theorem Hy:aU Tryz.prog 58=some [some IntKind.u64].length:=by kernel_rfl
theorem Kq:∀{vs:List Value},aE [some .u64] vs=true→(∀y∈vs,Ce y=true)→∃n:Int,vs=[.int .u64 n]∧0≤n∧n<18446744073709551616
 |[],h,_=>by cases h
 |[v0],h,hr=>by
  simp only[aE,Bool.and_true] at h
  cases v0<;>simp[h_] at h
  subst h
  rename_i n
  have:=hr _ (List.Mem.head _)
  refine⟨n,rfl,?_⟩
  have h2:IntKind.u64.min≤n∧n≤IntKind.u64.max:=by simpa[Ce,Lit.wf] using this
  have h3:(0:Int)≤n∧n≤18446744073709551615:=h2
  omega
 |_::_::_,h,_=>by simp[aE] at h
theorem Ay:∀{L:List (List Value)},(∀vs∈L,aE [some .u64] vs=true∧∀y∈vs,Ce y=true)→∃l:List Int,L.map ub=aW l∧∀z∈l,0≤z∧z<18446744073709551616
 |[],_=>⟨[],rfl,by simp⟩
 |v::L,hL=>by
  obtain⟨n,rfl,hn⟩:=Kq (hL v (by simp)).1 (hL v (by simp)).2
  obtain⟨l,hl,hr⟩:=Ay (L:=L) (fun vs EO=>hL vs (by simp[EO]))
  refine⟨n::l,by simp[aW,hl,ub],fun z hz=>?_⟩
  rcases List.mem_cons.1 hz with rfl|h
  ·exact hn
  ·exact hr z h
def Kr:List (Option IntKind):=[some .i64,some .i64,some .i64,some .i64]
def Tk.vs (x:dA.Tk):List Value:=[.int .i64 x.kind,.int .i64 x.prio,.int .i64 x.every,.int .i64 x.first]
theorem Hz:Tryz.prog.underlying 40=some (.slice 208):=by kernel_rfl
theorem HA:eL Tryz.prog 2 208=some Kr:=by kernel_rfl
theorem HB:aU Tryz.prog 208=some Kr.length:=by kernel_rfl
theorem R3:∀{vs:List Value},aE Kr vs=true→∃x:dA.Tk,vs=Tk.vs x
 |[],h=>by cases h
 |[_],h=>by simp[Kr,aE] at h
 |[_,_],h=>by simp[Kr,aE] at h
 |[_,_,_],h=>by simp[Kr,aE] at h
 |[v0,v1,v2,v3],h=>by
  simp only[Kr,aE,Bool.and_eq_true,Bool.and_true] at h
  obtain⟨h0,h1,h2,h3⟩:=h
  cases v0<;>simp[h_] at h0
  cases v1<;>simp[h_] at h1
  cases v2<;>simp[h_] at h2
  cases v3<;>simp[h_] at h3
  subst h0 h1 h2 h3
  exact⟨⟨_,_,_,_⟩,rfl⟩
 |_::_::_::_::_::_,h=>by simp[Kr,aE] at h
theorem HC:∀{L:List (List Value)},(∀vs∈L,aE Kr vs=true)→∃l:List dA.Tk,L.map ub=dA.gK l
 |[],_=>⟨[],rfl⟩
 |v::L,hL=>by
  obtain⟨x,rfl⟩:=R3 (hL v (by simp))
  obtain⟨l,hl⟩:=HC (L:=L) (fun vs EO=>hL vs (by simp[EO]))
  exact⟨x::l,by simp only[List.map_cons,hl];rfl⟩
def Jw:List (Option IntKind):=[some .i64,some .i64,some .i64,some .i64,some .i64]
def R4 (x:Ks):List Value:=[.int .i64 x.core,.int .i64 x.what,.int .i64 x.t,.int .i64 x.now,.int .i64 x.high]
theorem Km:Tryz.prog.underlying 44=some (.slice 62):=by kernel_rfl
theorem Kn:eL Tryz.prog 2 62=some Jw:=by kernel_rfl
theorem Ko:aU Tryz.prog 62=some Jw.length:=by kernel_rfl
theorem R5:∀{vs:List Value},aE Jw vs=true→∃x:Ks,vs=R4 x
 |[],h=>by cases h
 |[_],h=>by simp[Jw,aE] at h
 |[_,_],h=>by simp[Jw,aE] at h
 |[_,_,_],h=>by simp[Jw,aE] at h
 |[_,_,_,_],h=>by simp[Jw,aE] at h
 |[v0,v1,v2,v3,v4],h=>by
  simp only[Jw,aE,Bool.and_eq_true,Bool.and_true] at h
  obtain⟨h0,h1,h2,h3,h4⟩:=h
  cases v0<;>simp[h_] at h0
  cases v1<;>simp[h_] at h1
  cases v2<;>simp[h_] at h2
  cases v3<;>simp[h_] at h3
  cases v4<;>simp[h_] at h4
  subst h0 h1 h2 h3 h4
  exact⟨⟨_,_,_,_,_⟩,rfl⟩
 |_::_::_::_::_::_::_,h=>by simp[Jw,aE] at h
theorem Hu:∀{L:List (List Value)},(∀vs∈L,aE Jw vs=true)→∃l:List Ks,L.map ub=vD l
 |[],_=>⟨[],rfl⟩
 |v::L,hL=>by
  obtain⟨x,rfl⟩:=R5 (hL v (by simp))
  obtain⟨l,hl⟩:=Hu (L:=L) (fun vs EO=>hL vs (by simp[EO]))
  exact⟨x::l,by simp only[List.map_cons,hl];rfl⟩
theorem NF:Tryz.prog.cellsOf 40=1:=by kernel_rfl
theorem Xp:Ht Tryz.prog 42 40 28 7=true:=by kernel_rfl
theorem RX:Tryz.prog.cellsOf 42=29:=by kernel_rfl
theorem RZ {ns:List Int} (h:ns.length=28) (hr:∀a∈ns,IntKind.i64.has a):∃x:Xc,(∀v,ns.map (fun n=>AV.sc (.int .i64 n))++[v]=x.cs++[v])∧Az x.t.l.a.an=x.t.l.a.an∧-9223372036854775808≤x.t.l.a.an:=by
 obtain⟨a0,r0,rfl,h0⟩:=bR (n:=27) h
 obtain⟨a1,r1,rfl,h1⟩:=bR (n:=26) h0
 obtain⟨a2,r2,rfl,h2⟩:=bR (n:=25) h1
 obtain⟨a3,r3,rfl,h3⟩:=bR (n:=24) h2
 obtain⟨a4,r4,rfl,h4⟩:=bR (n:=23) h3
 obtain⟨a5,r5,rfl,h5⟩:=bR (n:=22) h4
 obtain⟨a6,r6,rfl,h6⟩:=bR (n:=21) h5
 obtain⟨a7,r7,rfl,h7⟩:=bR (n:=20) h6
 obtain⟨a8,r8,rfl,h8⟩:=bR (n:=19) h7
 obtain⟨a9,r9,rfl,h9⟩:=bR (n:=18) h8
 obtain⟨a10,r10,rfl,Vk⟩:=bR (n:=17) h9
 obtain⟨a11,r11,rfl,h11⟩:=bR (n:=16) Vk
 obtain⟨a12,r12,rfl,h12⟩:=bR (n:=15) h11
 obtain⟨a13,r13,rfl,h13⟩:=bR (n:=14) h12
 obtain⟨a14,r14,rfl,Xr⟩:=bR (n:=13) h13
 obtain⟨a15,r15,rfl,h15⟩:=bR (n:=12) Xr
 obtain⟨a16,r16,rfl,h16⟩:=bR (n:=11) h15
 obtain⟨a17,r17,rfl,h17⟩:=bR (n:=10) h16
 obtain⟨a18,r18,rfl,h18⟩:=bR (n:=9) h17
 obtain⟨a19,r19,rfl,h19⟩:=bR (n:=8) h18
 obtain⟨a20,r20,rfl,h20⟩:=bR (n:=7) h19
 obtain⟨a21,r21,rfl,h21⟩:=bR (n:=6) h20
 obtain⟨a22,r22,rfl,h22⟩:=bR (n:=5) h21
 obtain⟨a23,r23,rfl,h23⟩:=bR (n:=4) h22
 obtain⟨a24,r24,rfl,h24⟩:=bR (n:=3) h23
 obtain⟨a25,r25,rfl,h25⟩:=bR (n:=2) h24
 obtain⟨a26,r26,rfl,h26⟩:=bR (n:=1) h25
 obtain⟨a27,r27,rfl,h27⟩:=bR (n:=0) h26
 obtain rfl:=NB h27
 have h:=hr a6 (by simp)
 have h:-9223372036854775808≤a6∧a6≤9223372036854775807:=h
 exact⟨Xc.of ⟨⟨a0,a1,a2,a3,a4,a5,a6,a7,a8,a9,a10,a11,a12⟩,a13,a14,a15,a16,a17,a18,a19,a20,a21,a22,a23,a24,a25,a26,a27⟩,fun v=>rfl,yI h.1 h.2,h.1⟩
end Go.Proofs.YtdfgboafnklioaaGreat
