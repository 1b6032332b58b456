/-
  What is proved: lemmas for the laws. No condition.
-/
import Derived.Test.YtbghjecopkbhlaaGreatRh
import Derived.Test.YtbghjecopkbhlaaGreatProg
import Derived.ProofKit
import Derived.KernelRfl
set_option linter.unusedVariables false
set_option linter.unusedSimpArgs false
namespace Go.Wr
open Go.Proofs Go.RowKit
set_option maxHeartbeats 4000000
set_option maxRecDepth 100000
theorem Zi9 (A:Option Addr) (n cap:Nat) (W:World) (Q:Ending->World->Prop) (R1:Option Addr->Nat->Nat->World->Prop) (R2:Option Addr->Nat->Nat->World->Bool->World->Prop)
  (hC:Calls Tryz.prog 171 #[.agg #[.slice A n cap]] (((W.alloc (Obj.cells #[.slice A n cap] 167)).alloc (Obj.cells #[.int .i64 0,.int .i64 0,.slice none 0 0,.int .i64 0,.int .i64 0,.int .i64 0,.int .i64 0,.slice none 0 0,.slice none 0 0,.slice none 0 0] 85)).alloc (Obj.cells #[.slice none 0 0] 167)) fun e w1=>∃B m c,e=.returned (.agg #[.slice B m c])/\R1 B m c w1)
  (h1:∀B m c w1,R1 B m c w1->∀o,(w1.alloc o).cell? ⟨W.heap.size,0,none⟩=some (.slice A n cap))
  (hO:∀B m c w1,R1 B m c w1->Calls Tryz.prog 218 #[.agg #[.slice A n cap]] (w1.alloc (Obj.cells #[Value.slice B m c] 167)) fun e w2=>∃t,e=.returned (.bool t)/\w2.cell? ⟨W.heap.size,0,none⟩=some (.slice A n cap)/\
   w2.heap[w1.heap.size]?=some (.cells #[.slice B m c] 167 (0,0))/\
   w2.heap[W.heap.size+1]?=some (.cells #[.int .i64 0,.int .i64 0,.slice none 0 0,.int .i64 0,.int .i64 0,.int .i64 0,.int .i64 0,.slice none 0 0,.slice none 0 0,.slice none 0 0] 85 (0,0))/\
   w2.heap[W.heap.size+1+1]?=some (.cells #[.slice none 0 0] 167 (0,0))/\W.heap.size+1+1<w1.heap.size/\
   (t=true->0<n->0<m/\m<=c/\m<4294967296/\∃aO off,B=some ⟨aO,off,none⟩/\aO≠W.heap.size+1/\aO≠W.heap.size+1+1/\(∃news:List Value,news.length=(m-1)*10/\∀j u,news[j]?=some u->w2.cell? ⟨aO,off+10+j,none⟩=some u)/\∃(a0:Int) (a1:Int) (A2:Option Addr) (n2 c2:Nat) (a3:Int) (a4:Int) (a5:Int) (a6:Int) (A7:Option Addr) (n7 c7:Nat) (A8:Option Addr) (n8 c8:Nat) (A9:Option Addr) (n9 c9:Nat),w2.cell? ⟨aO,off,none⟩=some (.int .i64 a0)/\w2.cell? ⟨aO,off+1,none⟩=some (.int .i64 a1)/\w2.cell? ⟨aO,off+2,none⟩=some (.slice A2 n2 c2)/\w2.cell? ⟨aO,off+3,none⟩=some (.int .i64 a3)/\w2.cell? ⟨aO,off+4,none⟩=some (.int .i64 a4)/\w2.cell? ⟨aO,off+5,none⟩=some (.int .i64 a5)/\w2.cell? ⟨aO,off+6,none⟩=some (.int .i64 a6)/\w2.cell? ⟨aO,off+7,none⟩=some (.slice A7 n7 c7)/\w2.cell? ⟨aO,off+8,none⟩=some (.slice A8 n8 c8)/\w2.cell? ⟨aO,off+9,none⟩=some (.slice A9 n9 c9))/\R2 B m c w1 t w2)
  (hF:∀B m c w1 t w2 w',R1 B m c w1->R2 B m c w1 t w2->(t=false\/n=0)->fO (W.heap.size+1) (W.heap.size+1+1) w2 w'->
   Q (.returned (.tuple #[.agg #[.int .i64 0,.int .i64 0,.slice none 0 0,.int .i64 0,.int .i64 0,.int .i64 0,.int .i64 0,.slice none 0 0,.slice none 0 0,.slice none 0 0],.agg #[.slice B m c],.bool false])) w')
  (hT:∀aO off m c w1 w2 w' A' C' news,R1 (some ⟨aO,off,none⟩) m c w1->R2 (some ⟨aO,off,none⟩) m c w1 true w2->0<n->0<m->Gr (W.heap.size+1) (W.heap.size+1+1) w2 w'->news.length=(m-1)*10->(∀j u,news[j]?=some u->w2.cell? ⟨aO,off+10+j,none⟩=some u)->BJ 85 w2 w' A' (m-1) C' news->∀(a0:Int) (a1:Int) (A2:Option Addr) (n2 c2:Nat) (a3:Int) (a4:Int) (a5:Int) (a6:Int) (A7:Option Addr) (n7 c7:Nat) (A8:Option Addr) (n8 c8:Nat) (A9:Option Addr) (n9 c9:Nat),w2.cell? ⟨aO,off,none⟩=some (.int .i64 a0)->w2.cell? ⟨aO,off+1,none⟩=some (.int .i64 a1)->w2.cell? ⟨aO,off+2,none⟩=some (.slice A2 n2 c2)->w2.cell? ⟨aO,off+3,none⟩=some (.int .i64 a3)->w2.cell? ⟨aO,off+4,none⟩=some (.int .i64 a4)->w2.cell? ⟨aO,off+5,none⟩=some (.int .i64 a5)->w2.cell? ⟨aO,off+6,none⟩=some (.int .i64 a6)->w2.cell? ⟨aO,off+7,none⟩=some (.slice A7 n7 c7)->w2.cell? ⟨aO,off+8,none⟩=some (.slice A8 n8 c8)->w2.cell? ⟨aO,off+9,none⟩=some (.slice A9 n9 c9)->
   Q (.returned (.tuple #[.agg #[.int .i64 a0,.int .i64 a1,.slice A2 n2 c2,.int .i64 a3,.int .i64 a4,.int .i64 a5,.int .i64 a6,.slice A7 n7 c7,.slice A8 n8 c8,.slice A9 n9 c9],.agg #[.slice A' (m-1) C'],.bool true])) w')
  :Calls Tryz.prog 204 #[.agg #[.slice A n cap]] W Q:=by
 go_enter Tryz.func204,Tryz.ntmps204
 go_wp2_with (first|(go_at_call 171;refine hC.mono ?_;rintro e w1 ⟨B,m,c,rfl,hR⟩;have h2:=h1 _ _ _ _ hR)|(go_at_call 218;refine(hO _ _ _ _ hR).mono ?_;rintro e w2 ⟨t,rfl,h3,h4,h5,h6,h7,hP,mV⟩))
 all_goals (have h8:W.heap.size+1≠w1.heap.size:=by omega)
 all_goals (have h9:W.heap.size+1+1≠w1.heap.size:=by omega)
 all_goals (have c5:w2.cell? ⟨w1.heap.size,0,none⟩=some (.slice B m c):=by simp[World.cell?,h4])
 all_goals (have c3:w2.cell? ⟨W.heap.size+1+1,0,none⟩=some (.slice none 0 0):=by simp[World.cell?,h6])
 all_goals (have f3:w2.frozen? ⟨W.heap.size+1+1,0,none⟩=false:=by simp[World.frozen?,h6])
 all_goals (have J5:w2.cell? ⟨W.heap.size+1,0,none⟩=some (.int .i64 0):=by simp[World.cell?,h5])
 all_goals (have f20:w2.frozen? ⟨W.heap.size+1,0,none⟩=false:=by simp[World.frozen?,h5])
 all_goals (have ZX:w2.cell? ⟨W.heap.size+1,1,none⟩=some (.int .i64 0):=by simp[World.cell?,h5])
 all_goals (have f21:w2.frozen? ⟨W.heap.size+1,1,none⟩=false:=by simp[World.frozen?,h5])
 all_goals (have ZY:w2.cell? ⟨W.heap.size+1,2,none⟩=some (.slice none 0 0):=by simp[World.cell?,h5])
 all_goals (have f22:w2.frozen? ⟨W.heap.size+1,2,none⟩=false:=by simp[World.frozen?,h5])
 all_goals (have ZZ:w2.cell? ⟨W.heap.size+1,3,none⟩=some (.int .i64 0):=by simp[World.cell?,h5])
 all_goals (have f23:w2.frozen? ⟨W.heap.size+1,3,none⟩=false:=by simp[World.frozen?,h5])
 all_goals (have c24:w2.cell? ⟨W.heap.size+1,4,none⟩=some (.int .i64 0):=by simp[World.cell?,h5])
 all_goals (have f24:w2.frozen? ⟨W.heap.size+1,4,none⟩=false:=by simp[World.frozen?,h5])
 all_goals (have c25:w2.cell? ⟨W.heap.size+1,5,none⟩=some (.int .i64 0):=by simp[World.cell?,h5])
 all_goals (have f25:w2.frozen? ⟨W.heap.size+1,5,none⟩=false:=by simp[World.frozen?,h5])
 all_goals (have c26:w2.cell? ⟨W.heap.size+1,6,none⟩=some (.int .i64 0):=by simp[World.cell?,h5])
 all_goals (have f26:w2.frozen? ⟨W.heap.size+1,6,none⟩=false:=by simp[World.frozen?,h5])
 all_goals (have c27:w2.cell? ⟨W.heap.size+1,7,none⟩=some (.slice none 0 0):=by simp[World.cell?,h5])
 all_goals (have f27:w2.frozen? ⟨W.heap.size+1,7,none⟩=false:=by simp[World.frozen?,h5])
 all_goals (have c28:w2.cell? ⟨W.heap.size+1,8,none⟩=some (.slice none 0 0):=by simp[World.cell?,h5])
 all_goals (have f28:w2.frozen? ⟨W.heap.size+1,8,none⟩=false:=by simp[World.frozen?,h5])
 all_goals (have c29:w2.cell? ⟨W.heap.size+1,9,none⟩=some (.slice none 0 0):=by simp[World.cell?,h5])
 all_goals (have f29:w2.frozen? ⟨W.heap.size+1,9,none⟩=false:=by simp[World.frozen?,h5])
 ·rename_i ht hn _ _;have hn:n=0:=by
   have:((n:Int)=0):=by simpa using hn
   omega
  go_region_with (fail)
  all_goals go_wp2
  all_goals (refine⟨rfl,_,(by unfold Go.results;go_simp;rfl),?_⟩)
  all_goals (refine hF _ _ _ _ _ _ _ hR mV (.inr hn) ?_;repeat' (first|(with_reducible apply fO.drew)|(with_reducible apply fO.ye)|(with_reducible apply fO.yb)|(with_reducible exact fO.refl)))
 ·have hn:0<n:=by
   rename_i h _ _;have:¬((n:Int)=0):=by simpa using h
   omega
  rename_i ht _ _ _;obtain⟨hm,SF,vK,aO,off,rfl,eN,dt,⟨news,qw,KT⟩,a0,a1,A2,n2,c2,a3,a4,a5,a6,A7,n7,c7,A8,n8,c8,A9,n9,c9,e0,e1,e2,e3,e4,e5,e6,e7,e8,e9⟩:=hP ht hn;have hm0:(0:Int)<(m:Int):=by omega
  have mZ:(1:Int)<=(m:Int):=by omega
  have anA:(m:Int)<=(c:Int):=by omega
  subst ht;have l5:=World.block_lt_of_cell? w2 _ c5;have le:=World.block_lt_of_cell? w2 _ e0;have l2:=World.block_lt_of_cell? w2 _ J5;have l3:=World.block_lt_of_cell? w2 _ c3;have d5:∀o,(w2.alloc o).cell? ⟨w1.heap.size,0,none⟩=some (.slice (some ⟨aO,off,none⟩) m c):=fun o=>(World.cell?_alloc_lt w2 o ⟨w1.heap.size,0,none⟩ l5).trans c5;have de0:∀o,(w2.alloc o).cell? ⟨aO,off,none⟩=some (.int .i64 a0):=fun o=>(World.cell?_alloc_lt w2 o ⟨aO,off,none⟩ le).trans e0;have de1:∀o,(w2.alloc o).cell? ⟨aO,off+1,none⟩=some (.int .i64 a1):=fun o=>(World.cell?_alloc_lt w2 o ⟨aO,off+1,none⟩ le).trans e1;have de2:∀o,(w2.alloc o).cell? ⟨aO,off+2,none⟩=some (.slice A2 n2 c2):=fun o=>(World.cell?_alloc_lt w2 o ⟨aO,off+2,none⟩ le).trans e2;have de3:∀o,(w2.alloc o).cell? ⟨aO,off+3,none⟩=some (.int .i64 a3):=fun o=>(World.cell?_alloc_lt w2 o ⟨aO,off+3,none⟩ le).trans e3;have de4:∀o,(w2.alloc o).cell? ⟨aO,off+4,none⟩=some (.int .i64 a4):=fun o=>(World.cell?_alloc_lt w2 o ⟨aO,off+4,none⟩ le).trans e4;have de5:∀o,(w2.alloc o).cell? ⟨aO,off+5,none⟩=some (.int .i64 a5):=fun o=>(World.cell?_alloc_lt w2 o ⟨aO,off+5,none⟩ le).trans e5;have de6:∀o,(w2.alloc o).cell? ⟨aO,off+6,none⟩=some (.int .i64 a6):=fun o=>(World.cell?_alloc_lt w2 o ⟨aO,off+6,none⟩ le).trans e6;have de7:∀o,(w2.alloc o).cell? ⟨aO,off+7,none⟩=some (.slice A7 n7 c7):=fun o=>(World.cell?_alloc_lt w2 o ⟨aO,off+7,none⟩ le).trans e7;have de8:∀o,(w2.alloc o).cell? ⟨aO,off+8,none⟩=some (.slice A8 n8 c8):=fun o=>(World.cell?_alloc_lt w2 o ⟨aO,off+8,none⟩ le).trans e8;have de9:∀o,(w2.alloc o).cell? ⟨aO,off+9,none⟩=some (.slice A9 n9 c9):=fun o=>(World.cell?_alloc_lt w2 o ⟨aO,off+9,none⟩ le).trans e9
  go_region_law (refine Zqc w2 (W.heap.size+1) (W.heap.size+1+1) aO off m c rfl _ _ _ rfl 85 Tryz.t85 (.agg #[.int .i64 0,.int .i64 0,.slice none 0 0,.int .i64 0,.int .i64 0,.int .i64 0,.int .i64 0,.slice none 0 0,.slice none 0 0,.slice none 0 0]) (by kernel_rfl) (by kernel_rfl) (by kernel_rfl) rfl rfl (by decide) (by(repeat' (first|(with_reducible exact Gr.refl)|(with_reducible apply Gr.drew)|(with_reducible apply Gr.alloc)|(with_reducible apply Gr.yb)|(with_reducible apply Gr.ye)))) eN dt le w2.heap.size (Nat.le_refl _) (Zer _ _) (Zes _ _) rfl rfl hm SF vK news qw KT ?_;intro A' C' w3 hG hG2 hP3;have x5:w3.cell? ⟨w1.heap.size,0,none⟩=some (.slice (some ⟨aO,off,none⟩) m c):=(hG.cell ⟨w1.heap.size,0,none⟩ l5 (Ne.symm h8) (Ne.symm h9)).trans c5;have x10:w3.cell? ⟨aO,off,none⟩=some (.int .i64 a0):=(hG.cell ⟨aO,off,none⟩ le eN dt).trans e0;have x11:w3.cell? ⟨aO,off+1,none⟩=some (.int .i64 a1):=(hG.cell ⟨aO,off+1,none⟩ le eN dt).trans e1;have x12:w3.cell? ⟨aO,off+2,none⟩=some (.slice A2 n2 c2):=(hG.cell ⟨aO,off+2,none⟩ le eN dt).trans e2;have x13:w3.cell? ⟨aO,off+3,none⟩=some (.int .i64 a3):=(hG.cell ⟨aO,off+3,none⟩ le eN dt).trans e3;have x14:w3.cell? ⟨aO,off+4,none⟩=some (.int .i64 a4):=(hG.cell ⟨aO,off+4,none⟩ le eN dt).trans e4;have x15:w3.cell? ⟨aO,off+5,none⟩=some (.int .i64 a5):=(hG.cell ⟨aO,off+5,none⟩ le eN dt).trans e5;have x16:w3.cell? ⟨aO,off+6,none⟩=some (.int .i64 a6):=(hG.cell ⟨aO,off+6,none⟩ le eN dt).trans e6;have x17:w3.cell? ⟨aO,off+7,none⟩=some (.slice A7 n7 c7):=(hG.cell ⟨aO,off+7,none⟩ le eN dt).trans e7;have x18:w3.cell? ⟨aO,off+8,none⟩=some (.slice A8 n8 c8):=(hG.cell ⟨aO,off+8,none⟩ le eN dt).trans e8;have x19:w3.cell? ⟨aO,off+9,none⟩=some (.slice A9 n9 c9):=(hG.cell ⟨aO,off+9,none⟩ le eN dt).trans e9;have hM:∀x:Addr,x.block<w2.heap.size->w3.cell? x=w2.cell? x/\w3.frozen? x=w2.frozen? x:=hG2;have y0:w3.cell? ⟨W.heap.size+1,0,none⟩=some (.int .i64 0):=(hM ⟨W.heap.size+1,0,none⟩ l2).1.trans J5;have z0:w3.frozen? ⟨W.heap.size+1,0,none⟩=false:=(hM ⟨W.heap.size+1,0,none⟩ l2).2.trans f20;have y1:w3.cell? ⟨W.heap.size+1,1,none⟩=some (.int .i64 0):=(hM ⟨W.heap.size+1,1,none⟩ l2).1.trans ZX;have z1:w3.frozen? ⟨W.heap.size+1,1,none⟩=false:=(hM ⟨W.heap.size+1,1,none⟩ l2).2.trans f21;have y2:w3.cell? ⟨W.heap.size+1,2,none⟩=some (.slice none 0 0):=(hM ⟨W.heap.size+1,2,none⟩ l2).1.trans ZY;have z2:w3.frozen? ⟨W.heap.size+1,2,none⟩=false:=(hM ⟨W.heap.size+1,2,none⟩ l2).2.trans f22;have y3:w3.cell? ⟨W.heap.size+1,3,none⟩=some (.int .i64 0):=(hM ⟨W.heap.size+1,3,none⟩ l2).1.trans ZZ;have z3:w3.frozen? ⟨W.heap.size+1,3,none⟩=false:=(hM ⟨W.heap.size+1,3,none⟩ l2).2.trans f23;have y4:w3.cell? ⟨W.heap.size+1,4,none⟩=some (.int .i64 0):=(hM ⟨W.heap.size+1,4,none⟩ l2).1.trans c24;have z4:w3.frozen? ⟨W.heap.size+1,4,none⟩=false:=(hM ⟨W.heap.size+1,4,none⟩ l2).2.trans f24;have y5:w3.cell? ⟨W.heap.size+1,5,none⟩=some (.int .i64 0):=(hM ⟨W.heap.size+1,5,none⟩ l2).1.trans c25;have z5:w3.frozen? ⟨W.heap.size+1,5,none⟩=false:=(hM ⟨W.heap.size+1,5,none⟩ l2).2.trans f25;have y6:w3.cell? ⟨W.heap.size+1,6,none⟩=some (.int .i64 0):=(hM ⟨W.heap.size+1,6,none⟩ l2).1.trans c26;have z6:w3.frozen? ⟨W.heap.size+1,6,none⟩=false:=(hM ⟨W.heap.size+1,6,none⟩ l2).2.trans f26;have y7:w3.cell? ⟨W.heap.size+1,7,none⟩=some (.slice none 0 0):=(hM ⟨W.heap.size+1,7,none⟩ l2).1.trans c27;have z7:w3.frozen? ⟨W.heap.size+1,7,none⟩=false:=(hM ⟨W.heap.size+1,7,none⟩ l2).2.trans f27;have y8:w3.cell? ⟨W.heap.size+1,8,none⟩=some (.slice none 0 0):=(hM ⟨W.heap.size+1,8,none⟩ l2).1.trans c28;have z8:w3.frozen? ⟨W.heap.size+1,8,none⟩=false:=(hM ⟨W.heap.size+1,8,none⟩ l2).2.trans f28;have y9:w3.cell? ⟨W.heap.size+1,9,none⟩=some (.slice none 0 0):=(hM ⟨W.heap.size+1,9,none⟩ l2).1.trans c29;have z9:w3.frozen? ⟨W.heap.size+1,9,none⟩=false:=(hM ⟨W.heap.size+1,9,none⟩ l2).2.trans f29;have y10:w3.cell? ⟨W.heap.size+1+1,0,none⟩=some (.slice none 0 0):=(hM ⟨W.heap.size+1+1,0,none⟩ l3).1.trans c3;have z10:w3.frozen? ⟨W.heap.size+1+1,0,none⟩=false:=(hM ⟨W.heap.size+1+1,0,none⟩ l3).2.trans f3)
  all_goals go_wp2
  all_goals (refine⟨rfl,_,(by unfold Go.results;go_simp;rfl),?_⟩)
  all_goals (refine hT _ _ _ _ _ _ _ _ _ _ hR mV hn hm ?_ qw KT ?_ a0 a1 A2 n2 c2 a3 a4 a5 a6 A7 n7 c7 A8 n8 c8 A9 n9 c9 e0 e1 e2 e3 e4 e5 e6 e7 e8 e9)
  all_goals (first|(with_reducible refine BJ.mono hP3 ?_ l2 l3)|(with_reducible refine Gr.trans hG ?_))
  all_goals (repeat' (first|(with_reducible exact Gr.refl)|(with_reducible apply Gr.drew)|(with_reducible apply Gr.alloc)|(with_reducible apply Gr.yb)|(with_reducible apply Gr.ye)))
 ·rename_i ht _ _;have bG:t=false:=by simpa using ht
  go_region_with (fail)
  all_goals go_wp2
  all_goals (refine⟨rfl,_,(by unfold Go.results;go_simp;rfl),?_⟩)
  all_goals (refine hF _ _ _ _ _ _ _ hR mV (.inl bG) ?_;repeat' (first|(with_reducible apply fO.drew)|(with_reducible apply fO.ye)|(with_reducible apply fO.yb)|(with_reducible exact fO.refl)))
end Go.Wr

