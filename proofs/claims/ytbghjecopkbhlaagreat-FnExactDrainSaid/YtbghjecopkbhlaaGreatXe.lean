/-
  What is proved: lemmas for the laws. No condition.
-/
import Derived.Test.YtbghjecopkbhlaaGreatXd
import Derived.Test.YtbghjecopkbhlaaGreatRh
set_option linter.unusedVariables false
set_option linter.unusedSimpArgs false
namespace Go.Wr
open Go.Proofs
theorem Zc9 {ae:Nat->FuncId}{gs:Nat} (hs:ae gs=267):ik Tryz.prog ae gs AW:=by
 intro xs vs w ow out hF hl hA dl j3 _;obtain⟨es,i,e,rfl,hi,hn,rfl⟩:=Zc8 hF
 match vs,hl with
 |[v0,v1,v2],_=>
 have h0:=hA 0 _ v0 rfl rfl;have h1:=hA 1 _ v1 rfl rfl;have h2:=hA 2 _ v2 rfl rfl;simp only[oZ,ay,fq,and_true]at h1;subst h1;have tP:ay ae eZ w ow (some (.ar 2,[])) (.l .y 10 [e]) [v2]:=h2;obtain⟨ad2,vc,gQ,_,gP,dt,zH,ty2,fr2,ek,lS,Ax,rD,nC⟩:=oo tP (by simp);obtain⟨vb,gE,sp2⟩:=ad2;simp only at gP dt lS Ax rD;subst gP;have dy:Ob.loc .y (some (aJ.ar 2,([]:List Nat)))=some (.ar 2,[]):=rfl;rw[dy]at nC;have aaN:ow vb=.own (.ar 2) []:=by simpa[Ob.loc,Ob.own,Loc.ow]using dt
 simp only[fq,and_true,dH,p7]at gQ;subst gQ;have dC:ek.length=10:=by simpa using qW nC
 have qo:∀v∈ek,v.oneCell'=true:=fun v hv=>Xn (eJ.1 (Jv nC) v hv);have GK:∀(j:Nat) u,ek[j]?=some u->w.cell? ⟨vb,gE+j,none⟩=some u:=fun j u hj=>by rw[nY lS];exact rD j u hj
 have auP:=(Ax rfl).2;have abE:=(Ax rfl).1;have Ku:ay ae eZ w ow (some (.ar 0,[])) (.l .y 10 es) [v0]:=h0;have vQ:∀b r q,ow b=.own r q->∃i,r=.ar i/\i<3:=j3;simp only[ay]at Ku;obtain⟨_,A,cap,uc,hQ,_,rj⟩:=Ku;simp only[fq,and_true]at uc;subst uc;rw[hs];show Calls Tryz.prog 267 #[.slice A es.length cap,.int .i64 (i:Nat),.slice (some ⟨vb,gE,none⟩) 1 vc] w _;have vx:(es.length+1)*144<=140737488355328:=by omega
 have lW:∀k,(Builtin.zeroCells (Value.agg #[.int .i64 0,.int .i64 0,.slice none 0 0,.int .i64 0,.int .i64 0,.int .i64 0,.int .i64 0,.slice none 0 0,.slice none 0 0,.slice none 0 0]).cells k).size=k*10:=fun k=>by rw[PX];rfl
 have eU:Ob.loc .y (some (aJ.ar 0,([]:List Nat)))=some (.ar 0,[]):=rfl;by_cases Ah:A=none
 ·subst Ah;simp only at rj;subst rj;have KF:es=[]:=iY.1 (by omega);subst KF;have Sy:i=0:=by simpa using hi
  subst Sy;refine Calls.mono (Wv none 0 0 vb gE 1 vc [] ek w (by omega) (Nat.le_refl _) (by omega) vx rfl (by rw[dC]) (fun _=>rfl) (fun a ha=>by cases ha) GK qo) fun e' w' vy=>?_;obtain⟨rfl,rfl⟩:=vy;exact EA (aO:=none) (jM:=[]) dl vQ hi (by simp only[cw]) nC (fun b hb=>by cases hb) (Wt (cs:=[]) (n:=0) (Go.grownCap_ge _ _ _ _) rfl dC (lW _))
 ·obtain⟨ad,rfl⟩:=Option.ne_none_iff_exists'.1 Ah;obtain⟨dg,dq,aG,ty,fr,jM,hh,eA,bP,cg⟩:=rj (.inl rfl);obtain⟨Gp,Dd⟩:=eA rfl;obtain⟨aO,off,sp⟩:=ad;simp only at dg dq hh Dd bP;subst dg;rw[eU]at cg;have abf:ow aO=.own (.ar 0) []:=by simpa[Ob.loc,Ob.own,Loc.ow]using dq
  have dV:jM.length=es.length*10:=qW cg;have CZ:∀v∈jM,v.oneCell'=true:=fun v hv=>Xn (eJ.1 (Jv cg) v hv);have kZ:∀(j:Nat) u,jM[j]?=some u->w.cell? ⟨aO,off+j,none⟩=some u:=fun j u hj=>by rw[nY hh];exact bP j u hj
  have bC:vb≠aO:=fun e=>by rw[e,abf]at aaN;cases aaN
  have S6:sV 10 aG fr:=Gp;have hblk:∀b,some aO=some b->ow b=.own (.ar 0) []:=fun b hb=>by cases hb;exact abf
  by_cases mw:es.length+1<=cap
  ·have dg:∀j,j<(es.length+1)*10->(w.cell? ⟨aO,off+j,none⟩).isSome=true:=fun j hj=>by
    have:(es.length+1)*10<=cap*10:=kC _ mw;rw[nY hh,Y1 (by omega)];rfl
   have pw:∀j,j<(es.length+1)*10->w.frozen? ⟨aO,off+j,none⟩=false:=fun j hj=>by
    have:(es.length+1)*10<=cap*10:=kC _ mw;exact Wc hh S6.un (by omega)
   by_cases kq:i=es.length
   ·subst kq;refine Calls.mono (Zbz aO off es.length cap vb gE 1 vc ek w (by omega) mw (by omega) (by rw[dC]) (fun j hj=>by rw[fK];exact dg _ (by omega)) (fun j hj=>by rw[fK];exact pw _ (by omega)) GK qo) fun e' w' vy=>?_;obtain⟨rfl,rfl⟩:=vy;have hR:=Wu (w0:=w) (i:=es.length) rfl rfl rfl hh S6 Dd mw (Nat.le_refl _) dV dC bP;rw[List.drop_of_length_le (by omega:jM.length<=es.length*10)]at hR;have RZ:Ea w (w.setCells aO (off+es.length*10) ek) (some aO) (es.length+1) (jM.take (es.length*10)++(ek++jM.drop (es.length*10))) (some ⟨aO,off,none⟩) cap:=by
     rw[List.drop_of_length_le (by omega:jM.length<=es.length*10)];exact hR
    exact EA dl vQ hi cg nC hblk RZ
   ·have KL:zH.size≠0:=by
     have:=(bt.1 (show ek[0]?=some ek[0] from bF (by omega))).1;have h3:=rD 0 ek[0] (bF (by omega));intro h4;rw[Y2 (by omega)]at h3;cases h3
    have hk1:aG.size≠0:=by
     have:(es.length+1)*10<=cap*10:=kC _ mw;omega
    have Sn:w.frozen? ⟨vb,zH.size,none⟩=false:=by
     rcases abE with h|⟨h,_⟩
     ·simp[World.frozen?,lS];omega
     ·cases h
    have Sl:w.frozen? ⟨vb,gE,none⟩=false:=by
     rcases abE with h|⟨h,_⟩
     ·simp[World.frozen?,lS];omega
     ·cases h
    refine Calls.mono (Zc5 aO off es.length cap i vb gE 1 vc jM ek w (by omega) (by omega) mw (by omega) bC dV (by rw[dC]) kZ dg pw GK CZ qo ty2 ty zH.size aG.size (by simp[World.shape?,lS]) (by simp[World.shape?,hh]) hk1 Sl Sn) fun e' w' vy=>?_;obtain⟨rfl,rfl⟩:=vy;exact EA dl vQ hi cg nC hblk (Wu (w0:=w.drew) rfl rfl rfl hh S6 Dd mw hi dV dC bP)
  ·by_cases kq:i=es.length
   ·subst kq;refine Calls.mono (Wv (some ⟨aO,off,none⟩) es.length cap vb gE 1 vc jM ek w (by omega) hQ (by omega) vx dV (by rw[dC]) (fun h=>by cases h) (fun a ha j v hj=>by cases ha;rw[Addr.add_lit];exact kZ j v hj) GK qo) fun e' w' vy=>?_;obtain⟨rfl,rfl⟩:=vy;exact EA (aO:=some aO) dl vQ hi cg nC hblk (Wt (Go.grownCap_ge _ _ _ _) dV dC (lW _))
   ·refine Calls.mono (Zc0 aO off es.length cap i vb gE 1 vc jM ek w (by omega) (by omega) hQ (by omega) vx dV (by rw[dC]) kZ GK CZ qo) fun e' w' vy=>?_;obtain⟨rfl,rfl⟩:=vy;have hR:=Zbv (w:=w) (aO:=some aO) (n:=es.length) (G:=Go.grownCap w (es.length+1) cap 85) (te:=85) (i:=i) (cs:=jM) (vs:=ek) (zc:=Builtin.zeroCells (Value.agg #[.int .i64 0,.int .i64 0,.slice none 0 0,.int .i64 0,.int .i64 0,.int .i64 0,.int .i64 0,.slice none 0 0,.slice none 0 0,.slice none 0 0]).cells (es.length+1-i)++Builtin.zeroCells (Value.agg #[.int .i64 0,.int .i64 0,.slice none 0 0,.int .i64 0,.int .i64 0,.int .i64 0,.int .i64 0,.slice none 0 0,.slice none 0 0,.slice none 0 0]).cells (Go.grownCap w (es.length+1) cap 85-(es.length+1))) hi (Go.grownCap_ge _ _ _ _) dV dC (by
     have:=Go.grownCap_ge w (es.length+1) cap 85;rw[Array.size_append,lW,lW];omega)
    rw[<-Array.append_assoc]at hR;exact EA (aO:=some aO) dl vQ hi cg nC hblk hR
end Go.Wr

