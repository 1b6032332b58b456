/-
  What is proved: lemmas for the laws. No condition.
-/
import Derived.Test.YtbghjecopkbhlaaGreatRh
import Derived.Test.YtbghjecopkbhlaaGreatProg
import Derived.ProofKit
import Derived.KernelRfl
set_option linter.unusedVariables false
set_option linter.unusedSimpArgs false
namespace Go.Wr
open Go.Proofs Go.RowKit
set_option maxHeartbeats 4000000
set_option maxRecDepth 100000
theorem Zi8 (A:Option Addr) (n cap:Nat) (W:World) (Q:Ending->World->Prop) (R1:Option Addr->Nat->Nat->World->Prop) (R2:Option Addr->Nat->Nat->World->Bool->World->Prop)
  (hC:Calls Tryz.prog 178 #[.agg #[.slice A n cap]] (((W.alloc (Obj.cells #[.slice A n cap] 167)).alloc (Obj.cells #[.int .i64 0,.int .i64 0,.slice none 0 0,.int .i64 0,.int .i64 0,.int .i64 0,.int .i64 0,.slice none 0 0,.slice none 0 0,.slice none 0 0] 85)).alloc (Obj.cells #[.slice none 0 0] 167)) fun e w1=>∃B m c,e=.returned (.agg #[.slice B m c])/\R1 B m c w1)
  (h1:∀B m c w1,R1 B m c w1->∀o,(w1.alloc o).cell? ⟨W.heap.size,0,none⟩=some (.slice A n cap))
  (hO:∀B m c w1,R1 B m c w1->Calls Tryz.prog 226 #[.agg #[.slice A n cap]] (w1.alloc (Obj.cells #[Value.slice B m c] 167)) fun e w2=>∃t,e=.returned (.bool t)/\w2.cell? ⟨W.heap.size,0,none⟩=some (.slice A n cap)/\
   w2.heap[w1.heap.size]?=some (.cells #[.slice B m c] 167 (0,0))/\
   w2.heap[W.heap.size+1]?=some (.cells #[.int .i64 0,.int .i64 0,.slice none 0 0,.int .i64 0,.int .i64 0,.int .i64 0,.int .i64 0,.slice none 0 0,.slice none 0 0,.slice none 0 0] 85 (0,0))/\
   w2.heap[W.heap.size+1+1]?=some (.cells #[.slice none 0 0] 167 (0,0))/\W.heap.size+1+1<w1.heap.size/\
   (t=true->0<n->0<m/\m<=c/\∃aO off,B=some ⟨aO,off,none⟩/\aO≠W.heap.size+1/\aO≠W.heap.size+1+1/\∃(a0:Int) (a1:Int) (A2:Option Addr) (n2 c2:Nat) (a3:Int) (a4:Int) (a5:Int) (a6:Int) (A7:Option Addr) (n7 c7:Nat) (A8:Option Addr) (n8 c8:Nat) (A9:Option Addr) (n9 c9:Nat),w2.cell? ⟨aO,off,none⟩=some (.int .i64 a0)/\w2.cell? ⟨aO,off+1,none⟩=some (.int .i64 a1)/\w2.cell? ⟨aO,off+2,none⟩=some (.slice A2 n2 c2)/\w2.cell? ⟨aO,off+3,none⟩=some (.int .i64 a3)/\w2.cell? ⟨aO,off+4,none⟩=some (.int .i64 a4)/\w2.cell? ⟨aO,off+5,none⟩=some (.int .i64 a5)/\w2.cell? ⟨aO,off+6,none⟩=some (.int .i64 a6)/\w2.cell? ⟨aO,off+7,none⟩=some (.slice A7 n7 c7)/\w2.cell? ⟨aO,off+8,none⟩=some (.slice A8 n8 c8)/\w2.cell? ⟨aO,off+9,none⟩=some (.slice A9 n9 c9))/\R2 B m c w1 t w2)
  (hF:∀B m c w1 t w2 w',R1 B m c w1->R2 B m c w1 t w2->(t=false\/n=0)->fO (W.heap.size+1) (W.heap.size+1+1) w2 w'->
   Q (.returned (.tuple #[.agg #[.int .i64 0,.int .i64 0,.slice none 0 0,.int .i64 0,.int .i64 0,.int .i64 0,.int .i64 0,.slice none 0 0,.slice none 0 0,.slice none 0 0],.agg #[.slice B m c],.bool false])) w')
  (hT:∀aO off m c w1 w2 w' nK c',R1 (some ⟨aO,off,none⟩) m c w1->R2 (some ⟨aO,off,none⟩) m c w1 true w2->0<n->fO (W.heap.size+1) (W.heap.size+1+1) w2 w'->(c=1/\nK=off/\c'=0\/nK=off+10/\c'=c-1)->∀(a0:Int) (a1:Int) (A2:Option Addr) (n2 c2:Nat) (a3:Int) (a4:Int) (a5:Int) (a6:Int) (A7:Option Addr) (n7 c7:Nat) (A8:Option Addr) (n8 c8:Nat) (A9:Option Addr) (n9 c9:Nat),w2.cell? ⟨aO,off,none⟩=some (.int .i64 a0)->w2.cell? ⟨aO,off+1,none⟩=some (.int .i64 a1)->w2.cell? ⟨aO,off+2,none⟩=some (.slice A2 n2 c2)->w2.cell? ⟨aO,off+3,none⟩=some (.int .i64 a3)->w2.cell? ⟨aO,off+4,none⟩=some (.int .i64 a4)->w2.cell? ⟨aO,off+5,none⟩=some (.int .i64 a5)->w2.cell? ⟨aO,off+6,none⟩=some (.int .i64 a6)->w2.cell? ⟨aO,off+7,none⟩=some (.slice A7 n7 c7)->w2.cell? ⟨aO,off+8,none⟩=some (.slice A8 n8 c8)->w2.cell? ⟨aO,off+9,none⟩=some (.slice A9 n9 c9)->
   Q (.returned (.tuple #[.agg #[.int .i64 a0,.int .i64 a1,.slice A2 n2 c2,.int .i64 a3,.int .i64 a4,.int .i64 a5,.int .i64 a6,.slice A7 n7 c7,.slice A8 n8 c8,.slice A9 n9 c9],.agg #[.slice (some ⟨aO,nK,none⟩) (m-1) c'],.bool true])) w')
  :Calls Tryz.prog 209 #[.agg #[.slice A n cap]] W Q:=by
 go_enter Tryz.func209,Tryz.ntmps209
 go_wp2_with (first|(go_at_call 178;refine hC.mono ?_;rintro e w1 ⟨B,m,c,rfl,hR⟩;have h2:=h1 _ _ _ _ hR)|(go_at_call 226;refine(hO _ _ _ _ hR).mono ?_;rintro e w2 ⟨t,rfl,h3,h4,h5,h6,h7,hP,mV⟩))
 all_goals (have h8:W.heap.size+1≠w1.heap.size:=by omega)
 all_goals (have h9:W.heap.size+1+1≠w1.heap.size:=by omega)
 all_goals (have c5:w2.cell? ⟨w1.heap.size,0,none⟩=some (.slice B m c):=by simp[World.cell?,h4])
 all_goals (have c3:w2.cell? ⟨W.heap.size+1+1,0,none⟩=some (.slice none 0 0):=by simp[World.cell?,h6])
 all_goals (have f3:w2.frozen? ⟨W.heap.size+1+1,0,none⟩=false:=by simp[World.frozen?,h6])
 all_goals (have J5:w2.cell? ⟨W.heap.size+1,0,none⟩=some (.int .i64 0):=by simp[World.cell?,h5])
 all_goals (have f20:w2.frozen? ⟨W.heap.size+1,0,none⟩=false:=by simp[World.frozen?,h5])
 all_goals (have ZX:w2.cell? ⟨W.heap.size+1,1,none⟩=some (.int .i64 0):=by simp[World.cell?,h5])
 all_goals (have f21:w2.frozen? ⟨W.heap.size+1,1,none⟩=false:=by simp[World.frozen?,h5])
 all_goals (have ZY:w2.cell? ⟨W.heap.size+1,2,none⟩=some (.slice none 0 0):=by simp[World.cell?,h5])
 all_goals (have f22:w2.frozen? ⟨W.heap.size+1,2,none⟩=false:=by simp[World.frozen?,h5])
 all_goals (have ZZ:w2.cell? ⟨W.heap.size+1,3,none⟩=some (.int .i64 0):=by simp[World.cell?,h5])
 all_goals (have f23:w2.frozen? ⟨W.heap.size+1,3,none⟩=false:=by simp[World.frozen?,h5])
 all_goals (have c24:w2.cell? ⟨W.heap.size+1,4,none⟩=some (.int .i64 0):=by simp[World.cell?,h5])
 all_goals (have f24:w2.frozen? ⟨W.heap.size+1,4,none⟩=false:=by simp[World.frozen?,h5])
 all_goals (have c25:w2.cell? ⟨W.heap.size+1,5,none⟩=some (.int .i64 0):=by simp[World.cell?,h5])
 all_goals (have f25:w2.frozen? ⟨W.heap.size+1,5,none⟩=false:=by simp[World.frozen?,h5])
 all_goals (have c26:w2.cell? ⟨W.heap.size+1,6,none⟩=some (.int .i64 0):=by simp[World.cell?,h5])
 all_goals (have f26:w2.frozen? ⟨W.heap.size+1,6,none⟩=false:=by simp[World.frozen?,h5])
 all_goals (have c27:w2.cell? ⟨W.heap.size+1,7,none⟩=some (.slice none 0 0):=by simp[World.cell?,h5])
 all_goals (have f27:w2.frozen? ⟨W.heap.size+1,7,none⟩=false:=by simp[World.frozen?,h5])
 all_goals (have c28:w2.cell? ⟨W.heap.size+1,8,none⟩=some (.slice none 0 0):=by simp[World.cell?,h5])
 all_goals (have f28:w2.frozen? ⟨W.heap.size+1,8,none⟩=false:=by simp[World.frozen?,h5])
 all_goals (have c29:w2.cell? ⟨W.heap.size+1,9,none⟩=some (.slice none 0 0):=by simp[World.cell?,h5])
 all_goals (have f29:w2.frozen? ⟨W.heap.size+1,9,none⟩=false:=by simp[World.frozen?,h5])
 ·rename_i ht hn _ _;have hn:n=0:=by
   have:((n:Int)=0):=by simpa using hn
   omega
  go_region_with (fail)
  all_goals go_wp2
  all_goals (refine⟨rfl,_,(by unfold Go.results;go_simp;rfl),?_⟩)
  all_goals (refine hF _ _ _ _ _ _ _ hR mV (.inr hn) ?_;repeat' (first|(with_reducible apply fO.drew)|(with_reducible apply fO.ye)|(with_reducible apply fO.yb)|(with_reducible exact fO.refl)))
 ·have hn:0<n:=by
   rename_i h _ _;have:¬((n:Int)=0):=by simpa using h
   omega
  rename_i ht _ _ _;obtain⟨hm,SF,aO,off,rfl,eN,dt,a0,a1,A2,n2,c2,a3,a4,a5,a6,A7,n7,c7,A8,n8,c8,A9,n9,c9,e0,e1,e2,e3,e4,e5,e6,e7,e8,e9⟩:=hP ht hn;have hm0:(0:Int)<(m:Int):=by omega
  have mZ:(1:Int)<=(m:Int):=by omega
  have anA:(m:Int)<=(c:Int):=by omega
  subst ht
  go_region_with (fail)
  all_goals go_wp2
  all_goals (refine⟨rfl,_,(by unfold Go.results;go_simp;rfl),?_⟩)
  all_goals (refine hT _ _ _ _ _ _ _ _ _ hR mV hn ?_ ?_ a0 a1 A2 n2 c2 a3 a4 a5 a6 A7 n7 c7 A8 n8 c8 A9 n9 c9 e0 e1 e2 e3 e4 e5 e6 e7 e8 e9)
  all_goals (first|exact .inr ⟨rfl,rfl⟩|exact .inl ⟨by omega,rfl,rfl⟩|(repeat' (first|(with_reducible apply fO.drew)|(with_reducible apply fO.ye)|(with_reducible apply fO.yb)|(with_reducible exact fO.refl))))
 ·rename_i ht _ _;have bG:t=false:=by simpa using ht
  go_region_with (fail)
  all_goals go_wp2
  all_goals (refine⟨rfl,_,(by unfold Go.results;go_simp;rfl),?_⟩)
  all_goals (refine hF _ _ _ _ _ _ _ hR mV (.inl bG) ?_;repeat' (first|(with_reducible apply fO.drew)|(with_reducible apply fO.ye)|(with_reducible apply fO.yb)|(with_reducible exact fO.refl)))
end Go.Wr

