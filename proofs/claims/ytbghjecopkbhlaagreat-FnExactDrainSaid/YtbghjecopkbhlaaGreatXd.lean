/-
  What is proved: lemmas for the laws. No condition.
-/
import Derived.Test.YtbghjecopkbhlaaGreatRh
import Derived.Test.YtbghjecopkbhlaaGreatProg
import Derived.Shelf.Spec.SlicesInsert
import Derived.Lib.AppendZerosOnto
import Derived.Laws.NewBlocks
import Derived.ProofKit
import Derived.KernelRfl
set_option linter.unusedVariables false
set_option linter.unusedSimpArgs false
namespace Go.Wr
open Go.Proofs Go.RowKit Go.Lib
theorem tu:Tryz.prog.underlying 42=some (.slice 85):=by kernel_rfl
theorem OR:Tryz.prog.info? 85=some Tryz.t85:=by kernel_rfl
theorem EB:(Tryz.prog.info? 85).map (·.size)=some 10:=by kernel_rfl
theorem Zc2:Tryz.prog.underlying 3=some (.int .i64):=by kernel_rfl
set_option maxHeartbeats 4000000 in
set_option maxRecDepth 100000 in
theorem Zc5 (b off n c i vb gE m vc:Nat) (cs vs:List Value) (w:World) (hi:i<n) (hm:0<m) (mw:n+m<=c) (amJ:n+m<=9223372036854775807) (ud:vb≠b)
  (dV:cs.length=n*10) (dC:vs.length=m*10)
  (fX:∀j v,cs[j]?=some v->w.cell? ⟨b,off+j,none⟩=some v) (dg:∀j,j<(n+m)*10->(w.cell? ⟨b,off+j,none⟩).isSome=true) (pw:∀j,j<(n+m)*10->w.frozen? ⟨b,off+j,none⟩=false)
  (bP:∀j v,vs[j]?=some v->w.cell? ⟨vb,gE+j,none⟩=some v) (CZ:∀v∈cs,v.oneCell'=true) (qo:∀v∈vs,v.oneCell'=true)
  (tA tB:TypeId) (kA kB:Nat) (vT:w.shape? vb=some (tA,kA)) (nc:w.shape? b=some (tB,kB)) (hkB:kB≠0) (Sl:w.frozen? ⟨vb,gE,none⟩=false) (Sn:w.frozen? ⟨vb,kA,none⟩=false):
  Calls Tryz.prog 267 #[.slice (some ⟨b,off,none⟩) n c,.int .i64 i,.slice (some ⟨vb,gE,none⟩) m vc] w fun e w'=>
   e=.returned (.slice (some ⟨b,off,none⟩) (n+m) c)/\w'=(w.drew.setCells b (off+(i+m)*10) (cs.drop (i*10))).setCells b (off+i*10) vs:=by
 have Ti:¬((m:Int)=0):=by omega
 have Tj:¬((i:Int)=(n:Int)):=by omega
 have hov:∀lb cb,(callFunc 290 #[.slice (some ⟨vb,gE,none⟩) m vc,.slice (some ⟨b,off+(i+m)*10,none⟩) lb cb]).run Tryz.prog w=.ok (.value (.bool false)) w:=fun lb cb=>by
  rw[run_callFunc_extern (fn:=Tryz.f290) (by kernel_rfl) (by kernel_rfl) (by kernel_rfl) (by kernel_rfl) (e:=Extern.SlicesOverlaps.overlaps #[42,42] #[4]) (by kernel_rfl),
   Lib.run_overlaps_apart w 42 4 85 tu 10 (fun w=>Znd EB w) ⟨vb,gE,none⟩ ⟨b,off+(i+m)*10,none⟩ m vc lb cb ud tA tB kA kB vT nc hkB Sl Sn]
  rfl
 have Ar:(cs.drop (i*10)).length=(n-i)*10:=by rw[wP,dV];omega
 have lm:IntKind.i64.wrap ((i:Int)+(m:Int))=(i:Int)+(m:Int):=by rw[IntKind.wrap_i64];omega
 have eN:(0:Int)<=(i:Int)+(m:Int):=by omega
 have kq:i<=n:=by omega
 have htn:((i:Int)+(m:Int)).toNat=i+m:=by omega
 have dt:¬(c=i+m):=by omega
 have lQ:(i:Int)<=(n:Int)+(m:Int):=by omega
 have Am:¬(c=i):=by omega
 have aaU:∀ty dc sc,(Builtin.copy_ #[42,42] ty #[.slice (some ⟨b,off+(i+m)*10,none⟩) (n+m-(i+m)) dc,.slice (some ⟨b,off+i*10,none⟩) (n+m-i) sc]).run Tryz.prog w.drew=.ok (goInt ((n+m-(i+m):Nat):Int)) (w.drew.setCells b (off+(i+m)*10) (cs.drop (i*10))):=fun ty dc sc=>
  JB w.drew _ _ ty 85 b (off+(i+m)*10) (n+m-(i+m)) dc ⟨b,off+i*10,none⟩ (n+m-i) sc (cs.drop (i*10)) 10 (n+m-(i+m)) tu EB (by simp only[Nat.min_def];split<;>omega) (by rw[Ar];omega)
   (fun j v hj=>by rw[Addr.add_lit,fK];exact fX (i*10+j) v (by rwa [rT]at hj))
   (fun j hj=>by rw[fK];exact dg _ (by omega)) (fun j hj=>by rw[fK];exact pw _ (by omega)) (fun v hv=>CZ v (List.mem_of_mem_drop hv))
 obtain⟨W1,rl⟩:∃W1,W1=w.drew.setCells b (off+(i+m)*10) (cs.drop (i*10)):=⟨_,rfl⟩
 have aoq:∀k,k<(n+m)*10->(W1.cell? ⟨b,off+k,none⟩).isSome=true:=fun k hk=>by
  rw[rl];exact isSome_setCells b _ _ _ (fun j hj=>by rw[fK];exact dg _ (by omega)) _ (dg k hk)
 have amQ:∀(W:World),(∀x,W.cell? x=W1.cell? x)->(∀x,W.frozen? x=W1.frozen? x)->∀ty dc,(Builtin.copy_ #[42,42] ty #[.slice (some ⟨b,off+i*10,none⟩) (n+m-i) dc,.slice (some ⟨vb,gE,none⟩) m vc]).run Tryz.prog W=.ok (goInt (m:Int)) (W.setCells b (off+i*10) vs):=fun W xC Ge ty dc=>
  JB W _ _ ty 85 b (off+i*10) (n+m-i) dc ⟨vb,gE,none⟩ m vc vs 10 m tu EB (by simp only[Nat.min_def];split<;>omega) dC
   (fun j v hj=>by
    rw[Addr.add_lit,xC,rl,World.cell?_setCells_out b _ _ _ _ (fun h _=>absurd h ud)];exact bP j v hj)
   (fun j hj=>by rw[xC,fK];exact aoq _ (by omega)) (fun j hj=>by rw[Ge,rl,World.frozen?_setCells,fK];exact pw _ (by omega)) qo
 rw[<-rl]at aaU;have mixed:Tryz.prog.follows .mixedOrders=true:=by kernel_rfl
 go_enter Tryz.func267,Tryz.ntmps267
 go_wp2_with (simp only[hov])
 go_region_law_o (refine step_copy_runI rfl _ _ 42 42 rfl _ _ (by simp[Act.eval,Act.put]) (by simp[Act.eval,Act.put]) (aaU _ _ _) ?_)
 go_wp2_with (at_builtin;refine wpList_copy_runI _ rfl _ _ 42 42 rfl _ _ rfl rfl (amQ _ (fun _=>rfl) (fun _=>rfl) _ _) ?_)
 go_ret
 first|exact⟨rfl,rfl⟩|exact⟨rfl,by rw[rl]⟩
set_option maxHeartbeats 4000000 in
set_option maxRecDepth 100000 in
theorem Zbz (b off n c vb gE m vc:Nat) (vs:List Value) (w:World) (hm:0<m) (mw:n+m<=c) (amJ:n+m<=9223372036854775807)
  (dC:vs.length=m*10) (dg:∀j,j<m*10->(w.cell? ⟨b,off+n*10+j,none⟩).isSome=true) (pw:∀j,j<m*10->w.frozen? ⟨b,off+n*10+j,none⟩=false)
  (bP:∀j v,vs[j]?=some v->w.cell? ⟨vb,gE+j,none⟩=some v) (qo:∀v∈vs,v.oneCell'=true):
  Calls Tryz.prog 267 #[.slice (some ⟨b,off,none⟩) n c,.int .i64 n,.slice (some ⟨vb,gE,none⟩) m vc] w fun e w'=>
   e=.returned (.slice (some ⟨b,off,none⟩) (n+m) c)/\w'=w.setCells b (off+n*10) vs:=by
 have Ti:¬((m:Int)=0):=by omega
 have GH:Src Tryz.prog Tryz.t85.size 42 (.slice (some ⟨vb,gE,none⟩) m vc) m vs w:=Src.ofSlice w tu ⟨vb,gE,none⟩ m vc vs dC (fun j u hj=>by rw[Addr.add_lit];exact bP j u hj) qo;have aq:∀ty,(Builtin.append_ #[42,42] ty #[.slice (some ⟨b,off,none⟩) n c,.slice (some ⟨vb,gE,none⟩) m vc]).run Tryz.prog w=_:=fun ty=>
  run_append_room_src w 42 42 ty 85 Tryz.t85 tu OR b off n c _ m vs GH mw (by rw[dC];exact dg) (by rw[dC];exact pw)
 go_enter Tryz.func267,Tryz.ntmps267
 go_wp2_with (at_builtin;refine Lib.wpList_append_run _ rfl _ _ _ _ rfl _ _ rfl rfl _ _ (aq _) ?_)
 go_ret
 exact⟨rfl,rfl⟩
set_option maxHeartbeats 4000000 in
set_option maxRecDepth 100000 in
theorem Wv (base:Option Addr) (n c vb gE m vc:Nat) (cs vs:List Value) (w:World) (hm:0<m) (vL:n<=c) (mw:c<n+m) (vx:(n+m)*144<=140737488355328)
  (dV:cs.length=n*10) (dC:vs.length=m*10) (sF:base=none->n=0)
  (fX:∀a,base=some a->∀j v,cs[j]?=some v->w.cell? (a.add j)=some v)
  (bP:∀j v,vs[j]?=some v->w.cell? ⟨vb,gE+j,none⟩=some v) (qo:∀v∈vs,v.oneCell'=true):
  Calls Tryz.prog 267 #[.slice base n c,.int .i64 n,.slice (some ⟨vb,gE,none⟩) m vc] w fun e w'=>
   e=.returned (.slice (some ⟨w.heap.size,0,none⟩) (n+m) (grownCap w (n+m) c 85))/\
   w'=w.drew.alloc (.cells ((cs++vs).toArray++Builtin.zeroCells (Value.agg #[.int .i64 0,.int .i64 0,.slice none 0 0,.int .i64 0,.int .i64 0,.int .i64 0,.int .i64 0,.slice none 0 0,.slice none 0 0,.slice none 0 0]).cells (grownCap w (n+m) c 85-(n+m))) 85):=by
 have Ti:¬((m:Int)=0):=by omega
 have GH:Src Tryz.prog Tryz.t85.size 42 (.slice (some ⟨vb,gE,none⟩) m vc) m vs w:=Src.ofSlice w tu ⟨vb,gE,none⟩ m vc vs dC (fun j u hj=>by rw[Addr.add_lit];exact bP j u hj) qo;have hold:(Builtin.firstCells Tryz.t85.size n (.slice base n c)).run Tryz.prog w.drew=.ok cs.toArray w.drew:=by
  show(Builtin.firstCells 10 n (.slice base n c)).run Tryz.prog w.drew=.ok cs.toArray w.drew;cases base with
  |none=>
   have h0:=sF rfl;subst h0;have amS:cs=[]:=iY.1 (by simpa using dV);subst amS;exact run_firstCells_none w.drew 10 0 0 c
  |some a=>exact run_firstCells_some w.drew 10 n a n c cs dV (fun j v hj=>fX a rfl j v hj)
 have aq:∀ty,(Builtin.append_ #[42,42] ty #[.slice base n c,.slice (some ⟨vb,gE,none⟩) m vc]).run Tryz.prog w=_:=fun ty=>
  run_append_grow_src w 42 42 ty 85 Tryz.t85 (Value.agg #[.int .i64 0,.int .i64 0,.slice none 0 0,.int .i64 0,.int .i64 0,.int .i64 0,.int .i64 0,.slice none 0 0,.slice none 0 0,.slice none 0 0]) tu OR rfl base n c cs hold _ m vs GH mw (by omega) (growslice_fits mw vx)
 go_enter Tryz.func267,Tryz.ntmps267
 cases base with
 |none=>
  have h0:=sF rfl;subst h0
  go_wp2_with (at_builtin;refine Lib.wpList_append_run _ rfl _ _ _ _ rfl _ _ rfl rfl _ _ (aq _) ?_)
  go_ret
  exact⟨rfl,rfl⟩
 |some a=>
  obtain⟨ab,ao,asp⟩:=a
  go_wp2_with (at_builtin;refine Lib.wpList_append_run _ rfl _ _ _ _ rfl _ _ rfl rfl _ _ (aq _) ?_)
  all_goals (go_ret;exact⟨rfl,rfl⟩)
set_option maxHeartbeats 4000000 in
set_option maxRecDepth 100000 in
theorem Zc0 (b off n c i vb gE m vc:Nat) (cs vs:List Value) (w:World) (hi:i<n) (hm:0<m) (vL:n<=c) (mw:c<n+m) (vx:(n+m)*144<=140737488355328)
  (dV:cs.length=n*10) (dC:vs.length=m*10)
  (fX:∀j v,cs[j]?=some v->w.cell? ⟨b,off+j,none⟩=some v)
  (bP:∀j v,vs[j]?=some v->w.cell? ⟨vb,gE+j,none⟩=some v) (CZ:∀v∈cs,v.oneCell'=true) (qo:∀v∈vs,v.oneCell'=true):
  Calls Tryz.prog 267 #[.slice (some ⟨b,off,none⟩) n c,.int .i64 i,.slice (some ⟨vb,gE,none⟩) m vc] w fun e w'=>
   e=.returned (.slice (some ⟨w.heap.size,0,none⟩) (n+m) (grownCap w (n+m) c 85))/\
   w'=(((w.alloc (.cells ((cs.take (i*10)).toArray++Builtin.zeroCells (Value.agg #[.int .i64 0,.int .i64 0,.slice none 0 0,.int .i64 0,.int .i64 0,.int .i64 0,.int .i64 0,.slice none 0 0,.slice none 0 0,.slice none 0 0]).cells (n+m-i)++Builtin.zeroCells (Value.agg #[.int .i64 0,.int .i64 0,.slice none 0 0,.int .i64 0,.int .i64 0,.int .i64 0,.int .i64 0,.slice none 0 0,.slice none 0 0,.slice none 0 0]).cells (grownCap w (n+m) c 85-(n+m))) 85)).drew.setCells w.heap.size (i*10) vs).drew).setCells w.heap.size ((i+m)*10) (cs.drop (i*10)):=by
 have Ti:¬((m:Int)=0):=by omega
 have Tj:¬((i:Int)=(n:Int)):=by omega
 have K9:(c:Int)<(n:Int)+(m:Int):=by omega
 have Gi:b<w.heap.size:=World.block_lt_of_cell? w _ (fX 0 _ (bF (by omega)));have Tc:vb<w.heap.size:=World.block_lt_of_cell? w _ (bP 0 _ (bF (by omega)));have oH:(n:Int)+(m:Int)-(i:Int)=((n+m-i:Nat):Int):=by omega
 have SA:i+(n+m-i)=n+m:=by omega
 have hold:(Builtin.firstCells Tryz.t85.size i (.slice (some ⟨b,off,none⟩) i c)).run Tryz.prog w.drew=.ok (cs.take (i*10)).toArray w.drew:=by
  show(Builtin.firstCells 10 i (.slice (some ⟨b,off,none⟩) i c)).run Tryz.prog w.drew=_;exact run_firstCells_some w.drew 10 i ⟨b,off,none⟩ i c (cs.take (i*10)) (by rw[fU];omega) (fun j v hj=>by
   rw[Addr.add_lit];rw[List.getElem?_take]at hj;split at hj
   ·exact fX j v hj
   ·cases hj)
 have KX:∀ty,(Builtin.append_ #[42,3] ty #[.slice (some ⟨b,off,none⟩) i c,.int .i64 ((n:Int)+(m:Int)-(i:Int))]).run Tryz.prog w=
   .ok (.slice (some ⟨w.heap.size,0,none⟩) (n+m) (grownCap w (n+m) c 85)) (w.drew.alloc (.cells ((cs.take (i*10)).toArray++Builtin.zeroCells (Value.agg #[.int .i64 0,.int .i64 0,.slice none 0 0,.int .i64 0,.int .i64 0,.int .i64 0,.int .i64 0,.slice none 0 0,.slice none 0 0,.slice none 0 0]).cells (n+m-i)++Builtin.zeroCells (Value.agg #[.int .i64 0,.int .i64 0,.slice none 0 0,.int .i64 0,.int .i64 0,.int .i64 0,.int .i64 0,.slice none 0 0,.slice none 0 0,.slice none 0 0]).cells (grownCap w (n+m) c 85-(n+m))) 85)):=fun ty=>by
  have h:=Lib.run_append_grow_zeros w 42 3 ty 85 Tryz.t85 (Value.agg #[.int .i64 0,.int .i64 0,.slice none 0 0,.int .i64 0,.int .i64 0,.int .i64 0,.int .i64 0,.slice none 0 0,.slice none 0 0,.slice none 0 0]) .i64 .i64 tu Zc2 OR rfl (some ⟨b,off,none⟩) i c (cs.take (i*10)) hold (n+m-i) (by omega) (by decide) (by omega) (by omega) (by show(n+m-i)*144<=_;omega) (by rw[SA];exact growslice_fits mw vx);rw[SA]at h;rw[oH];exact h
 obtain⟨G,hG⟩:∃G,G=grownCap w (n+m) c 85:=⟨_,rfl⟩
 obtain⟨o9,R0⟩:∃o9:Array Value,o9=(cs.take (i*10)).toArray++Builtin.zeroCells (Value.agg #[.int .i64 0,.int .i64 0,.slice none 0 0,.int .i64 0,.int .i64 0,.int .i64 0,.int .i64 0,.slice none 0 0,.slice none 0 0,.slice none 0 0]).cells (n+m-i)++Builtin.zeroCells (Value.agg #[.int .i64 0,.int .i64 0,.slice none 0 0,.int .i64 0,.int .i64 0,.int .i64 0,.int .i64 0,.slice none 0 0,.slice none 0 0,.slice none 0 0]).cells (G-(n+m)):=⟨_,rfl⟩
 rw[<-hG]at KX⊢;rw[<-R0]at KX⊢;have hGn:n+m<=G:=by rw[hG];exact grownCap_ge w _ _ _
 have hRl:(n+m)*10<=o9.size:=by
  rw[R0];simp[Builtin.zeroCells,Value.cells];omega
 obtain⟨W1,rl⟩:∃W1,W1=w.drew.alloc (.cells o9 85):=⟨_,rfl⟩
 rw[<-rl]at KX;have hN:∀j,j<(n+m)*10->(W1.cell? ⟨w.heap.size,j,none⟩).isSome=true:=fun j hj=>by
  rw[rl,World.cell?_alloc_at (w:=w.drew) o9 _ w.heap.size j rfl,Y1 (by omega)];rfl
 have hNf:∀j,W1.frozen? ⟨w.heap.size,j,none⟩=false:=fun j=>by rw[rl];exact World.frozen?_alloc_at (w:=w.drew) o9 _ w.heap.size j rfl
 have hOb:∀j v,w.cell? ⟨b,j,none⟩=some v->W1.cell? ⟨b,j,none⟩=some v:=fun j v h=>by rw[rl,World.cell?_alloc_past (w:=w.drew) _ b j Gi];exact h
 have hOv:∀j v,w.cell? ⟨vb,j,none⟩=some v->W1.cell? ⟨vb,j,none⟩=some v:=fun j v h=>by rw[rl,World.cell?_alloc_past (w:=w.drew) _ vb j Tc];exact h
 have amR:∀(W:World),(∀x,W.cell? x=W1.cell? x)->(∀x,W.frozen? x=W1.frozen? x)->∀ty dc,(Builtin.copy_ #[42,42] ty #[.slice (some ⟨w.heap.size,i*10,none⟩) (n+m-i) dc,.slice (some ⟨vb,gE,none⟩) m vc]).run Tryz.prog W=.ok (goInt (m:Int)) (W.setCells w.heap.size (i*10) vs):=fun W xC Ge ty dc=>
  JB W _ _ ty 85 w.heap.size (i*10) (n+m-i) dc ⟨vb,gE,none⟩ m vc vs 10 m tu EB (by simp only[Nat.min_def];split<;>omega) dC
   (fun j v hj=>by rw[Addr.add_lit,xC];exact hOv _ v (bP j v hj))
   (fun j hj=>by rw[xC];exact hN _ (by omega)) (fun j hj=>by rw[Ge];exact hNf _) qo
 have aui:G<=9223372036854775807:=by
  have:=grownCap_le_maxLen w (n+m) c 85 (by unfold maxLen;omega);rw[<-hG]at this;unfold maxLen at this;omega
 have hGi:¬(G=i):=by omega
 have auk:¬(G=i+m):=by omega
 have hci:¬(c=i):=by omega
 have hbN:b≠w.heap.size:=by omega
 have Ar:(cs.drop (i*10)).length=(n-i)*10:=by rw[wP,dV];omega
 have aaV:∀(W:World),(∀x,W.cell? x=(W1.setCells w.heap.size (i*10) vs).cell? x)->(∀x,W.frozen? x=(W1.setCells w.heap.size (i*10) vs).frozen? x)->∀ty dc sc,(Builtin.copy_ #[42,42] ty #[.slice (some ⟨w.heap.size,(i+m)*10,none⟩) (n+m-(i+m)) dc,.slice (some ⟨b,off+i*10,none⟩) (n-i) sc]).run Tryz.prog W=.ok (goInt ((n-i:Nat):Int)) (W.setCells w.heap.size ((i+m)*10) (cs.drop (i*10))):=fun W xC Ge ty dc sc=>
  JB W _ _ ty 85 w.heap.size ((i+m)*10) (n+m-(i+m)) dc ⟨b,off+i*10,none⟩ (n-i) sc (cs.drop (i*10)) 10 (n-i) tu EB (by simp only[Nat.min_def];split<;>omega) Ar
   (fun j v hj=>by
    rw[Addr.add_lit,xC,World.cell?_setCells_out _ _ _ _ _ (fun h _=>absurd h hbN),fK];exact hOb _ v (fX (i*10+j) v (by rwa [rT]at hj)))
   (fun j hj=>by rw[xC];exact isSome_setCells _ _ _ _ (fun t ht=>hN _ (by omega)) _ (hN _ (by omega)))
   (fun j hj=>by rw[Ge,World.frozen?_setCells];exact hNf _) (fun v hv=>CZ v (List.mem_of_mem_drop hv))
 subst rl;have hE1:∀x,((w.alloc (.cells o9 85)).drew).cell? x=(w.drew.alloc (.cells o9 85)).cell? x:=fun x=>rfl;have RX:∀x,((w.alloc (.cells o9 85)).drew).frozen? x=(w.drew.alloc (.cells o9 85)).frozen? x:=fun x=>rfl;have Aj:∀x,(((w.alloc (.cells o9 85)).drew.setCells w.heap.size (i*10) vs).drew).cell? x=((w.drew.alloc (.cells o9 85)).setCells w.heap.size (i*10) vs).cell? x:=fun x=>rfl;have hF2:∀x,(((w.alloc (.cells o9 85)).drew.setCells w.heap.size (i*10) vs).drew).frozen? x=((w.drew.alloc (.cells o9 85)).setCells w.heap.size (i*10) vs).frozen? x:=fun x=>rfl;have lm:IntKind.i64.wrap ((i:Int)+(m:Int))=(i:Int)+(m:Int):=by rw[IntKind.wrap_i64];omega
 have eN:(0:Int)<=(i:Int)+(m:Int):=by omega
 have kq:i<=n:=by omega
 have htn:((i:Int)+(m:Int)).toNat=i+m:=by omega
 have lQ:(i:Int)<=(n:Int):=by omega
 clear oH SA hold R0 hG hRl;have mixed:Tryz.prog.follows .mixedOrders=true:=by kernel_rfl
 go_enter Tryz.func267,Tryz.ntmps267
 go_wp2_with (first
  |(at_builtin;refine Lib.wpList_append_run _ rfl _ _ _ _ rfl _ _ rfl rfl _ _ (KX _) ?_)
  |(at_builtin;refine wpList_copy_runI _ rfl _ _ 42 42 rfl _ _ rfl rfl (amR _ hE1 RX _ _) ?_)
  |(at_builtin;refine wpList_copy_runI _ rfl _ _ 42 42 rfl _ _ rfl rfl (aaV _ (fun _=>rfl) (fun _=>rfl) _ _ _) ?_))
 go_region_law_o (refine step_copy_runI rfl _ _ 42 42 rfl (.slice (some ⟨w.heap.size,(i+m)*10,none⟩) (n+m-(i+m)) (G-(i+m))) (.slice (some ⟨b,off+i*10,none⟩) (n-i) (c-i)) (by simp[Act.eval,Act.put]) (by simp[Act.eval,Act.put]) (aaV _ Aj hF2 3 (G-(i+m)) (c-i)) ?_)
 go_wp2
 go_ret
 exact⟨rfl,rfl⟩
end Go.Wr

