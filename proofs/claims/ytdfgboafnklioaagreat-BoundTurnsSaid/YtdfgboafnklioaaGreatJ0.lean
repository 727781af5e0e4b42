/- What is asked of the whole program: its rows of types and of parameters. No condition. -/
import Derived.Test.YtdfgboafnklioaaGreatChecked
import Derived.JoinedOf
import Derived.RangeFuncIn
import Derived.ProofKit
import Derived.KernelRfl
set_option linter.all false
namespace Go.Proofs.YtdfgboafnklioaaGreat.oW
set_option maxRecDepth 1000000
theorem chunks (p:Nat→Bool) (k m n:Nat) (hk:0<k) (hn:n≤m*k) (h:∀j,j<m→((List.range k).all fun i=>p (j*k+i))=true):(List.range n).all p=true:=by
 rw[List.all_eq_true]
 intro x hx
 have uD:=List.mem_range.1 hx
 have h1:=h (x/k) (Nat.div_lt_of_lt_mul (by rw[Nat.mul_comm];omega))
 rw[List.all_eq_true] at h1
 have h2:=h1 (x%k) (List.mem_range.2 (Nat.mod_lt _ hk))
 rwa[Nat.mul_comm,Nat.div_add_mod] at h2
theorem size:Tryz.checked.prog.types.size=808:=by kernel_rfl
theorem t0:((List.range 50).all fun i=>rowFine Tryz.checked.prog (0*50+i))=true:=by kernel_rfl
theorem t1:((List.range 50).all fun i=>rowFine Tryz.checked.prog (1*50+i))=true:=by kernel_rfl
theorem t2:((List.range 50).all fun i=>rowFine Tryz.checked.prog (2*50+i))=true:=by kernel_rfl
theorem t3:((List.range 50).all fun i=>rowFine Tryz.checked.prog (3*50+i))=true:=by kernel_rfl
theorem t4:((List.range 50).all fun i=>rowFine Tryz.checked.prog (4*50+i))=true:=by kernel_rfl
theorem t5:((List.range 50).all fun i=>rowFine Tryz.checked.prog (5*50+i))=true:=by kernel_rfl
theorem t6:((List.range 50).all fun i=>rowFine Tryz.checked.prog (6*50+i))=true:=by kernel_rfl
theorem t7:((List.range 50).all fun i=>rowFine Tryz.checked.prog (7*50+i))=true:=by kernel_rfl
theorem t8:((List.range 50).all fun i=>rowFine Tryz.checked.prog (8*50+i))=true:=by kernel_rfl
theorem t9:((List.range 50).all fun i=>rowFine Tryz.checked.prog (9*50+i))=true:=by kernel_rfl
theorem t10:((List.range 50).all fun i=>rowFine Tryz.checked.prog (10*50+i))=true:=by kernel_rfl
theorem t11:((List.range 50).all fun i=>rowFine Tryz.checked.prog (11*50+i))=true:=by kernel_rfl
theorem t12:((List.range 50).all fun i=>rowFine Tryz.checked.prog (12*50+i))=true:=by kernel_rfl
theorem t13:((List.range 50).all fun i=>rowFine Tryz.checked.prog (13*50+i))=true:=by kernel_rfl
theorem t14:((List.range 50).all fun i=>rowFine Tryz.checked.prog (14*50+i))=true:=by kernel_rfl
theorem t15:((List.range 50).all fun i=>rowFine Tryz.checked.prog (15*50+i))=true:=by kernel_rfl
theorem t16:((List.range 50).all fun i=>rowFine Tryz.checked.prog (16*50+i))=true:=by kernel_rfl
theorem types:(List.range Tryz.checked.prog.types.size).all (rowFine Tryz.checked.prog)=true:=by
 rw[size]
 refine chunks _ 50 17 _ (by decide) (by decide) fun j hj=>?_
 match j,hj with
 |0,_=>exact t0
 |1,_=>exact t1
 |2,_=>exact t2
 |3,_=>exact t3
 |4,_=>exact t4
 |5,_=>exact t5
 |6,_=>exact t6
 |7,_=>exact t7
 |8,_=>exact t8
 |9,_=>exact t9
 |10,_=>exact t10
 |11,_=>exact t11
 |12,_=>exact t12
 |13,_=>exact t13
 |14,_=>exact t14
 |15,_=>exact t15
 |16,_=>exact t16
 |j+17,h=>exact absurd h (by omega)
theorem globals:(Tryz.checked.prog.globals.all fun g=>decide (g.type<Tryz.checked.prog.types.size))=true:=by kernel_rfl
theorem params:(Tryz.checked.prog.funcs.all fun f=>f.params.all fun t=>decide (t<Tryz.checked.prog.types.size))=true:=by kernel_rfl
theorem laidOut:laidOutB Tryz.checked.prog=true:=by
 unfold laidOutB
 rw[types,globals,params]
 rfl
end Go.Proofs.YtdfgboafnklioaaGreat.oW
