/-
  What is proved: lemmas for the laws. No condition.
-/
import Derived.Test.YtbghjecopkbhlaaGreatQh
import Derived.Test.YtbghjecopkbhlaaGreatQj
import Derived.Test.YtbghjecopkbhlaaGreatPc
set_option linter.unusedVariables false
set_option linter.unusedSimpArgs false
namespace Go.Wr
set_option maxRecDepth 20000
theorem Vr {hs:List Hand}{cs xm:List T}{b:Bool} (hc:cP cs=true) (dx:cP xm=true) (ha:apart hs=true):jV hs ⟨[.st cs,.st xm,.one (.b b)],[]⟩=true:=by
 simp only[jV,ha,nV,s6,RV.closed,hc,dx,RV.lO,T.closed,T.loose,gX,wJ]
theorem WZ (s:aD) (dI n:Int):(mD s dI n).1.al=s.al:=by
 unfold mD;split
 ·split<;>rfl
 ·rfl
theorem YB {h:aA} (hp:ly h):∃a b c,h.bp=[a,b,c]:=by
 match hT:h.bp,hp.ni with
 |[a,b,c],_=>exact⟨a,b,c,rfl⟩
set_option maxHeartbeats 8000000 in
theorem Zq5 (h:aA) (hh:fu h=true) (hl:h.al<=4000000) (hn:¬(eM h 0=false/\eM h 1=false)):D3 [.st (h.cs .n)]=some ⟨[.st ((pN h).1.cs .y),.one (.b (pN h).2)],[]⟩:=by
 have hp:=th hh;obtain⟨x,hx,bf,h1⟩:=Zq3 h hp hl hn;obtain⟨e,l,gO⟩:∃e l,rowOf h x=e::l:=List.exists_cons_of_ne_nil bf.row;have bD:pN h=(lq h x e l,true):=by
  unfold pN stepG;simp only[hx,gO]
 rw[bD];clear bD hx;have hi:=bF (show x.gp<h.Rows.length by rw[hp.rows];exact bf.gp);generalize h.Rows[x.gp]'_=rs at hi;have h2:=hp.two rs (cS hi);have hj:=bF (show x.lK<rs.length by rw[h2];exact bf.lK);generalize rs[x.lK]'_=r at hj;obtain rfl:r=⟨e::l⟩:=by
  unfold rowOf at gO;rw[hi]at gO;simp only[hj]at gO;obtain⟨L⟩:=r;simp only at gO;rw[gO]
 obtain⟨Hh,kb⟩:=OP hh hi (cS hj);have qq:=ES hl hi hj;have vz:=kb e (by simp);have Gm:=Eu hh;have Av:=Gm e (pf _ vz);have Gl:=A6 Av;have j3:∀y∈h.aJ,y.ok=true:=fun y hy=>hp.root y hy;have GF:aS aa.al h.aJ<=4000000:=by simp only[aA.al]at hl;omega
 have q1:=atg e l Hh qq;have q2:=atm h.aJ e j3 Av hp.ord GF;have q3:=Ud e.aH (by unfold aa.al at Gl;omega);obtain⟨s0,s1,s2,hS⟩:=YB hp;obtain⟨r0,r1,r2,r3,r4,r5,hR⟩:=ET hp;have nc:∀s∈h.bp,s.al<=4000000:=fun s hs=>by
  obtain⟨i,hi⟩:=gZ.1 hs;exact zB hl hi
 rw[hS]at nc;have b0:=nc s0 (by simp);have b1:=nc s1 (by simp);have b2:=nc s2 (by simp);have q4:=fun s hs=>ati s h.aT.fm (gi e.aH) hs;have q5:=fun s (hs:s.al<=4000000)=>ath (mD s h.aT.fm (gi e.aH)).1 h.aT.fm (by rw[WZ];exact hs);have ha:=bf.gp;have hc:=bf.lK;clear bf j3 GF Gm vz kb Hh qq hp hh hn nc;obtain⟨ag,cl,sn,tn⟩:=x;generalize hL:e::l=L at hj q1;simp only at ha hc hi hj h1 gO;obtain⟨cf,ck,cd,ss,rows,ts,si,ro,ou⟩:=h;simp only at hS hR hi q4 q5;subst hS hR;have eT:Hl ⟨cf,ck,cd,[s0,s1,s2],[[r0,r1],[r2,r3],[r4,r5]],ts,si,ro,ou⟩ ⟨ag,cl,sn,tn⟩=⟨cf,ck,cd,[s0,s1,s2],[[r0,r1],[r2,r3],[r4,r5]],ts.set cl tn,sn,ro,ou⟩:=rfl;rw[eT]at h1;rcases(by omega:ag=0\/ag=1\/ag=2) with rfl|rfl|rfl<;>rcases(by omega:cl=0\/cl=1) with rfl|rfl;all_goals
  obtain rfl:=Option.some.inj hi;obtain rfl:=Option.some.inj hj
  (refine aP rfl ?_;show Ev GX.code _ _ _)
  repeat' (first|refine yk Ko (h1) ?_|refine yw RF (q1) (Vr (aa.cl _) (au.cl _) rfl) ?_|(apply zk RJ;exact Jo (JN rfl rfl rfl rfl rfl) rfl rfl;simp only[List.map,iw];exact rfl;exact q2;exact tc rfl (cm aa.ep _);exact rfl;exact rfl)|refine yv zZ (q3) ?_|(apply zk RH;exact rfl;simp only[List.map,iw];exact rfl;exact(q4 _ (by assumption));exact(uJ (aD.cl _) rfl);exact rfl;exact rfl)|(apply zk RG;exact rfl;simp only[List.map,iw];exact rfl;exact(q5 _ (by assumption));exact(wW (aD.cl _) rfl);exact rfl;exact rfl)|refine ai ?_ (ht:=rfl)|refine ak ?_|refine ai ?_|refine yt ?_ ?_|refine yo ?_|apply zn|refine yc ?_|intro _)
  all_goals
   rename_i R8;show ∃l',(leave GX).ev _=some (_,l');refine fin rfl ?_;simp only[bN];cases cd;all_goals first|(cases R8;done)|rfl
end Go.Wr

