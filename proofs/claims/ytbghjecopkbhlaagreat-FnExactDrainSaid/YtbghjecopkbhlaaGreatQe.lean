/-
  What is proved: lemmas for the laws. No condition.
-/
import Derived.Test.YtbghjecopkbhlaaGreatQd
import Derived.Test.YtbghjecopkbhlaaGreatPc
import Derived.Test.YtbghjecopkbhlaaGreatTa
set_option linter.unusedVariables false
set_option linter.unusedSimpArgs false
namespace Go.Wr
set_option maxRecDepth 20000
theorem afL (a b:Bool) (s q:Int):NP [.x (.b a),.x (.b b),.x (iT s),.x (iT q)]=some ⟨[.one (iT (um a b s q).1),.one (iT (um a b s q).2)],[]⟩:=by
 cases a<;>cases b;all_goals
  (refine aP rfl ?_;show Ev aeb.code _ _ _)
  repeat' (first|refine yy ?_|refine ym ?_|(apply ze;iterate 5 exact rfl)|(apply zf;iterate 5 exact rfl)|refine yp ?_|refine yk eS (pI _ _ _) ?_|refine ym ?_ (ht:=rfl)|refine yy ?_ (ht:=rfl)|refine yp ?_ (ht:=rfl)|refine ak ?_ (ht:=rfl)|refine ai ?_ (ht:=rfl)|refine ak ?_|refine ai ?_|refine yt ?_ ?_|refine yo ?_|apply zn|refine yc ?_|exact rfl|intro _)
  all_goals (refine fin rfl ?_;simp_all [um];try (rw[if_neg (by omega)];exact⟨rfl,rfl⟩))
theorem as3 (a b:Bool) (s q:Int):Nz [.x (.b a),.x (.b b),.x (iT s),.x (iT q)]=some ⟨[.one (iT (um a b s q).1),.one (iT (um a b s q).2)],[]⟩:=by
 cases a<;>cases b;all_goals
  (refine aP rfl ?_;show Ev adV.code _ _ _)
  repeat' (first|refine yy ?_|refine ym ?_|(apply ze;iterate 5 exact rfl)|(apply zf;iterate 5 exact rfl)|refine yp ?_|refine yk eL (oV _ _ _) ?_|refine ym ?_ (ht:=rfl)|refine yy ?_ (ht:=rfl)|refine yp ?_ (ht:=rfl)|refine ak ?_ (ht:=rfl)|refine ai ?_ (ht:=rfl)|refine ak ?_|refine ai ?_|refine yt ?_ ?_|refine yo ?_|apply zn|refine yc ?_|exact rfl|intro _)
  all_goals (refine fin rfl ?_;simp_all [um];try (rw[if_neg (by omega)];exact⟨rfl,rfl⟩))
theorem ate (s:aD) (dI n:Int) (hl:s.al<=4000000):NL [.st (s.cs .n),.x (iT dI),.x (iT n)]=some ⟨[.st ((mD s dI n).1.cs .y),.one (.b (mD s dI n).2)],[]⟩:=by
 have dy:({s with dM:=IntKind.i64.wrap (s.dM+n)}:aD).al<=4000000:=hl
 (refine aP rfl ?_;show Ev ad7.code _ _ _)
 repeat' (first|refine yy ?_|refine ym ?_|(apply zf;iterate 5 exact rfl)|refine yp ?_|refine yk xw (Uh s hl) ?_|refine yk vl (LU s dI hl) ?_|refine yk eL (oV _ _ _) ?_|refine yv vl (LU {s with dM:=IntKind.i64.wrap (s.dM+n)} dI dy) ?_|refine ak ?_|refine ai ?_|refine yt ?_ ?_|refine yo ?_|apply zn|refine yc ?_|exact rfl|intro _)
 all_goals (refine fin rfl ?_;try simp only[bN])
 all_goals (first|(rw[Yx (by assumption)];rfl)|(rw[Yz (by assumption) (by assumption)];rfl)|(rw[Yy (by assumption) (by assumption)];rfl))
theorem ati (s:aD) (dI n:Int) (hl:s.al<=4000000):NN [.st (s.cs .n),.x (iT dI),.x (iT n)]=some ⟨[.st ((mD s dI n).1.cs .y),.one (.b (mD s dI n).2)],[]⟩:=by
 have dy:({s with dM:=IntKind.i64.wrap (s.dM+n)}:aD).al<=4000000:=hl
 (refine aP rfl ?_;show Ev ad9.code _ _ _)
 repeat' (first|refine yy ?_|refine ym ?_|(apply zf;iterate 5 exact rfl)|refine yp ?_|refine yk xx (Uj s hl) ?_|refine yk vf (LK s dI hl) ?_|refine yk eS (pI _ _ _) ?_|refine yv vf (LK {s with dM:=IntKind.i64.wrap (s.dM+n)} dI dy) ?_|refine ak ?_|refine ai ?_|refine yt ?_ ?_|refine yo ?_|apply zn|refine yc ?_|exact rfl|intro _)
 all_goals (refine fin rfl ?_;try simp only[bN])
 all_goals (first|(rw[Yx (by assumption)];rfl)|(rw[Yz (by assumption) (by assumption)];rfl)|(rw[Yy (by assumption) (by assumption)];rfl))
theorem Bl (t:aK):HY [.os (t.cs .y)]=some ⟨[.st ((jB t).cs .y)],[]⟩:=by
 (refine aP rfl ?_;show Ev aea.code _ _ _)
 repeat' (first|refine yo ?_|apply zn|refine yc ?_|intro _)
 refine fin rfl ?_
 try simp only[bN]
 try rfl
theorem LN (l:List Int) (hl:l.length<=4194304):BF [.x (ints .n l)]=some ⟨[.one (iT (kO l))],[]⟩:=by
 (refine aP rfl ?_;show Ev aec.code _ _ _)
 repeat' (first|refine ak ?_|refine ai ?_|refine yt ?_ ?_|refine yo ?_|apply zn|refine yc ?_|intro _)
 refine cF iT l (fun i (n:Nat)=>[(0,.x (ints .n l)),(3,.x (iT n)),(4,.x (iT i))]) (fun i n=>n=kO (l.take i)) 0 rfl rfl ?_ ?_
 ·rintro i n x hx aF hc _ hinv ih;have hn:=Cg (l.take i);rw[fU]at hn
  repeat' (first|refine yi (iT x) (bH hx) ?_|refine yk FJ (afA _) ?_|refine ak ?_|refine ai ?_|refine yt ?_ ?_|refine yo ?_|apply zn|refine yc ?_|intro _)
  refine ih (n+if decide (0<x)=true then 1 else 0) ?_ _ _ ?_
  ·rw[hinv,Pd hx]
  ·have:IntKind.i64.wrap (n+if decide (x>0)=true then 1 else 0)=((n+if decide (0<x)=true then 1 else 0:Nat):Int):=by
    rw[dQ (by split<;>omega)];split<;>simp
   rw[bU (by omega),<-this];rfl
 ·rintro n hc _ hinv;rw[eD]at hinv;subst hinv
  repeat' (first|refine ak ?_|refine ai ?_|refine yt ?_ ?_|refine yo ?_|apply zn|refine yc ?_|intro _)
  exact fin rfl rfl
theorem Dz (e:aa) (hl:e.al<=4000000):NQ [.st (e.cs .n)]=some ⟨[.one (iT (qm e))],[]⟩:=by
 have vA:=He e hl;cases hk:e.ok with
 |false=>
  rw[hk]at vA;have ez:qm e=0:=by unfold qm;rw[hk];rfl
  (refine aP rfl ?_;show Ev TC.code _ _ _)
  repeat' (first|refine yk sr (vA) ?_|refine ak ?_ (ht:=rfl)|refine ak ?_|refine ai ?_|refine yt ?_ ?_|refine yo ?_|apply zn|refine yc ?_|intro _)
  refine fin rfl ?_;rw[ez]
 |true=>
  rw[hk]at vA;have sk:=(r7 _).1 (ul hk);have hb:=Ct sk;have dt:=tE (jj hk);obtain⟨k,wn,ids,ac,az,an,ax,ah,ar,aw⟩:=e;have AT:aw.length=2:=sk.rows.1;obtain⟨r1,r2,rfl⟩:∃r1 r2,aw=[r1,r2]:=by
   match aw,AT with
   |[a,b],_=>exact⟨a,b,rfl⟩
  simp only[bm.al,aS,List.map,im,List.sum_nil,dH,p7]at hb;have p1:=Cg ah;have p2:=Cg ar;have p3:=Cg r1;have p4:=Cg r2;have dt:ids.length<=10000:=dt
  (refine aP rfl ?_;show Ev TC.code _ _ _)
  repeat' (first|refine yk sr (vA) ?_|refine yv vi (LN ah (by omega)) ?_|refine yv vi (LN ar (by omega)) ?_|refine yv vi (LN r1 (by omega)) ?_|refine yv vi (LN r2 (by omega)) ?_|refine yj (ints .n r1) (Int.le_refl _) (rfl) ?_|(apply zi (ints .n r2);exact rfl;exact rfl;exact((by decide));exact(rfl);exact rfl;exact rfl)|refine ai ?_ (ht:=rfl)|refine ak ?_|refine ai ?_|refine yt ?_ ?_|refine yo ?_|apply zn|refine yc ?_|intro _)
  refine fin rfl (mC ?_);unfold qm;rw[hk,if_pos rfl];simp only[Zia,pd,List.flatten_nil,nW,cL];rw[dQ (n:=4+(kO ah:Int)) (by omega),dQ (n:=4+(kO ah:Int)+kO ar) (by omega),dQ (n:=4+(kO ah:Int)+kO ar+kO r1) (by omega),dQ (n:=4+(kO ah:Int)+kO ar+kO r1+kO r2) (by omega),dQ (n:=2*(ids.length:Int)) (by omega),dQ (by omega)];omega
theorem Dy (e:aa) (hl:e.al<=4000000):NA [.st (e.cs .n)]=some ⟨[.one (iT (qm e))],[]⟩:=by
 have vA:=DB e hl;cases hk:e.ok with
 |false=>
  rw[hk]at vA;have ez:qm e=0:=by unfold qm;rw[hk];rfl
  (refine aP rfl ?_;show Ev TA.code _ _ _)
  repeat' (first|refine yk nw (vA) ?_|refine ak ?_ (ht:=rfl)|refine ak ?_|refine ai ?_|refine yt ?_ ?_|refine yo ?_|apply zn|refine yc ?_|intro _)
  refine fin rfl ?_;rw[ez]
 |true=>
  rw[hk]at vA;have sk:=(r7 _).1 (ul hk);have hb:=Ct sk;have dt:=tE (jj hk);have hc:=afM e.aN (by omega);have dV:(e.aN.ca++e.aN.bX++e.aN.Rows.flatten).length<=4000:=by
   have gq:∀l:List (List Int),l.flatten.length<=aS List.length l:=fun l=>by
    unfold aS
    induction l with
    |nil=>simp
    |cons x l ih=>simp only[pd,jR,dH,fc,im];omega
   have:=gq e.aN.Rows;simp only[bm.al]at hb;simp only[jR];omega
  generalize hL:e.aN.ca++e.aN.bX++e.aN.Rows.flatten=L at hc dV
  (refine aP rfl ?_;show Ev TA.code _ _ _)
  repeat' (first|refine yk nw (vA) ?_|refine yv F0 (hc) ?_|refine ai ?_ (ht:=rfl)|refine ak ?_|refine ai ?_|refine yt ?_ ?_|refine yo ?_|apply zn|refine yc ?_|intro _)
  refine cF iT L (fun i (n:Nat)=>[(3,.x (iT (4+2*e.aH.length+n))),(16,.own ⟨0,0,0⟩ (ints .y L)),(17,.x (iT (L.map iT).length)),(18,.x (iT i))]) (fun i n=>n=kO (L.take i)) 0 rfl ?_ ?_ ?_
  ·have e1:IntKind.i64.wrap (4+IntKind.i64.wrap (2*((e.aH.map (af.el .n)).length:Int)))=4+2*e.aH.length+(0:Nat):=by
    rw[cL,dQ (n:=2*(e.aH.length:Int)) (by omega),dQ (by omega)];omega
   rw[<-e1];rfl
  ·rintro i n x hx aF hc _ hinv ih;have hn:=Cg (L.take i);rw[fU]at hn
   repeat' (first|refine yx (qV aF) ?_|refine yl (iT x) (EJ (bH hx)) ?_|refine ak ?_|refine ai ?_|refine yt ?_ ?_|refine yo ?_|apply zn|refine yc ?_|intro _)
   ·rename_i h;refine ih (n+1) ?_ _ _ ?_
    ·rw[hinv,Pd hx,if_pos h]
    ·rw[bU (by omega),dQ (by omega),show(4:Int)+2*e.aH.length+n+1=4+2*e.aH.length+((n+1:Nat):Int) by omega];rfl
   ·rename_i h;refine ih n ?_ _ _ ?_
    ·rw[hinv,Pd hx,if_neg (by rw[show decide (0<x)=false from h];simp)];rfl
    ·rw[bU (by omega)];rfl
  ·rintro n hc _ hinv;rw[eD]at hinv;subst hinv
   repeat' (first|refine ak ?_|refine ai ?_|refine yt ?_ ?_|refine yo ?_|apply zn|refine yc ?_|intro _)
   refine fin rfl (mC ?_);unfold qm;rw[hk,if_pos rfl,hL];omega
theorem Z9a (a b:List T):bO (a++b)=bO a++bO b:=by simp[Er]
theorem as5 (a b:List af) (ha:dv a) (hb:dv b):NC [.x (af.ls .n a),.x (af.ls .n b)]=some ⟨[.one (af.ls .y (jA a b)),.one (.b true)],[]⟩:=by
 have la:=tE ha;have lb:=tE hb;have oa:=(tD a).2 ha;have ob:=(tD b).2 hb;have c1:=Bk a (by omega);have c2:=Bk b (by omega);rw[oa]at c1;rw[ob]at c2;have hu:=Um (a++b) (by rw[jR];omega) (fun x hx=>(kF.1 hx).elim (Cr oa x) (Cr ob x));rw[Zct ha hb]at hu;rw[af.ls,kh]at hu;have kX:(a.map (af.el .y)).length+(b.map (af.el .n)).length<cQ:=UW (by omega)
 (refine aP rfl ?_;show Ev adW.code _ _ _)
 repeat' (first|refine yy ?_|refine ym ?_|(apply zf;iterate 5 exact rfl)|refine yp ?_|refine yk mT (c1) ?_|refine yk mT (c2) ?_|refine yk vj (LP a (by omega)) ?_|(apply za;(iterate 3 exact rfl);exact(kX);exact(rV (fun _=>rfl) _);exact rfl;exact rfl)|(apply zk Ad;exact rfl;(simp only[List.map,Z9a,iw];exact rfl);exact hu;exact tc rfl (cm (fun _=>rfl) _);exact rfl;exact rfl)|refine yy ?_ (ht:=rfl)|refine ym ?_ (ht:=rfl)|refine yp ?_ (ht:=rfl)|refine ai ?_ (ht:=rfl)|refine ak ?_|refine ai ?_|refine yt ?_ ?_|refine yo ?_|apply zn|refine yc ?_|exact rfl|intro _)
 refine fin rfl ?_
 try simp only[bN]
 try rfl
theorem atk (a b:aa) (ha:a.ok=true) (hb:b.ok=true):NR [.st (a.cs .n),.st (b.cs .n)]=some ⟨[.st ((kU a b).cs .y)],[]⟩:=by
 have la:=tE (jj ha);have lb:=tE (jj hb);have hj:=Uc a.aH b.aH (by omega) (Cr (GZ ha)) (Cr (GZ hb));have hm:=asJ a.aN b.aN ((r7 _).1 (ul ha)) ((r7 _).1 (ul hb))
 (refine aP rfl ?_;show Ev aed.code _ _ _)
 repeat' (first|refine yv zY (hj) ?_|refine yv Rf (hm) ?_|refine yo ?_|apply zn|refine yc ?_|intro _)
 refine fin rfl ?_
 try simp only[bN]
 try rfl
theorem as6 (a b:aa) (ha:a.ok=true) (hb:b.ok=true):ND [.st (a.cs .n),.st (b.cs .n)]=some ⟨[.st ((xp a b).1.cs .y),.one (.b (xp a b).2)],[]⟩:=by
 have la:=tE (jj ha);have lb:=tE (jj hb);have ba:=A6 ha;have bb:=A6 hb;have hj:=as5 a.aH b.aH (jj ha) (jj hb);have hm:=arG a.aN b.aN ((r7 _).1 (ul ha)) ((r7 _).1 (ul hb))
 (refine aP rfl ?_;show Ev adX.code _ _ _)
 repeat' (first|refine yy ?_|refine ym ?_|(apply zf;iterate 5 exact rfl)|refine yp ?_|refine yk nw (DB a (by omega)) ?_|refine yk nw (DB b (by omega)) ?_|refine yv F1 (afN a.aH b.aH (by omega) (by omega)) ?_|refine yv Ry (hj) ?_|refine yv Qj (hm) ?_|refine ak ?_|refine ai ?_|refine yt ?_ ?_|refine yo ?_|apply zn|refine yc ?_|exact rfl|intro _)
 all_goals (refine fin rfl ?_;try simp only[bN])
 ·rw[Z5b (by assumption)];rfl
 ·rw[Z5c (by assumption)];rfl
theorem as1 (a b c:Int):Nx [.x (ints .n [a,b,c])]=some ⟨[.one (iT (max (max a b) c))],[]⟩:=by
 (refine aP rfl ?_;show Ev adU.code _ _ _)
 repeat' (first|refine DM ?_|refine ai ?_ (ht:=rfl)|refine ak ?_ (ht:=rfl)|refine ak ?_|refine ai ?_|refine yt ?_ ?_|refine yo ?_|apply zn|refine yc ?_|intro _)
 refine fin rfl ?_;have e:∀x y:Int,(if y>x then y else x)=max x y:=fun x y=>by split<;>omega
 simp only[List.foldl,e]
set_option maxHeartbeats 4000000 in
theorem atj (s w:List Int) (q:Int) (t:aK) (hs:ie s 0 200=true) (hw:ie w 1 4=true) (hq:bq q 1 60=true) (ht:t.ok=true) (hz:ie s 0 0=false) {n:Nat}{r:Int×aK} (hp:ka n s w q t=some r):
  NO [.x (ints .n s),.x (ints .n w),.x (iT q),.st (t.cs .n)]=some ⟨[.one (iT r.1),.st (r.2.cs .y)],[]⟩:=by
 have h1:=we s 0 200 (by rw[(kH.1 hs).1];decide);have h2:=we w 1 4 (by rw[(kH.1 hw).1];decide);have h3:=we s 0 0 (by rw[(kH.1 hs).1];decide);have h4:=pI q 1 60;have hb:t.al<=4000000:=by have:=(uU.1 ht).len;simp only[aK.al];omega
 have h5:=afz t hb;have h6:=afI t hb;rw[hs]at h1;rw[hw]at h2;rw[hz]at h3;rw[hq]at h4;have qz:=ht;have SY:1<=q/\q<=60:=by simpa[bq]using hq
 rw[ht]at h5
 (refine aP rfl ?_;show Ev GW.code _ _ _)
 repeat' (first|refine yy ?_|refine ym ?_|(apply zf;iterate 5 exact rfl)|refine yp ?_|refine yk FP (h6) ?_|refine yk lM (h1) ?_|refine yk lM (h2) ?_|refine yk eS (h4) ?_|refine yk FI (h5) ?_|refine yk lM (h3) ?_|refine yy ?_ (ht:=rfl)|refine ym ?_ (ht:=rfl)|refine yp ?_ (ht:=rfl)|refine ai ?_ (ht:=rfl)|refine ak ?_|refine ai ?_|refine yt ?_ ?_|refine yo ?_|apply zn|refine yc ?_|exact rfl|intro _)
 obtain⟨s0,s1,s2,rfl⟩:∃a b c,s=[a,b,c]:=by
  match s,(kH.1 hs).1 with
  |[a,b,c],_=>exact⟨a,b,c,rfl⟩
 obtain⟨w0,w1,w2,rfl⟩:∃a b c,w=[a,b,c]:=by
  match w,(kH.1 hw).1 with
  |[a,b,c],_=>exact⟨a,b,c,rfl⟩
 show Ev (.loop _ _) _ _ _;refine jS (fun i (t:aK)=>[(0,.x (ints .n [s0,s1,s2])),(1,.x (ints .n [w0,w1,w2])),(2,.x (iT q)),(9,.box ⟨0,0,0⟩ [iT 0,.b false,.l .y 1 []]),(10,.box ⟨0,0,0⟩ (t.cs .y))]) (fun i t=>ky t/\ka (n-i) [s0,s1,s2] [w0,w1,w2] q t=some r) n t ⟨uU.1 qz,hp⟩ rfl ?_;rintro i ⟨at_,fr,left⟩ hi ⟨hR,fk⟩ ih;obtain⟨m,hm⟩:∃m,n-i=m+1:=by
  cases hm:n-i with
  |zero=>rw[hm]at fk;simp[ka]at fk
  |succ m=>exact⟨m,rfl⟩
 rw[hm]at fk;have aF:i<n:=by omega
 have mZ:n-(i+1)=m:=by omega
 obtain⟨f1,f2,f3,f4,f5,f6⟩:=IG hR (kH.1 hw).2 rfl SY;have RQ:(cM [s0,s1,s2] at_==0)=true->_:=fun hz=>ih (jB ⟨at_,fr,left.set at_.toNat 0⟩) aF ⟨w7 (Cs hR ⟨by omega,by omega⟩),by rw[mZ];exact(Jm (t:=⟨at_,fr,left⟩) hz).symm.trans fk⟩;have Ks:(cM [s0,s1,s2] at_==0)=false->decide (cM [s0,s1,s2] at_<=cM (fW [w0,w1,w2] q ⟨at_,fr,left⟩).Left at_)=false->_:=fun hz h2=>ih (jB (fW [w0,w1,w2] q ⟨at_,fr,left⟩)) aF ⟨w7 f1,by rw[mZ];exact(Jk (t:=⟨at_,fr,left⟩) hz h2).symm.trans fk⟩;have Kt:(cM [s0,s1,s2] at_==0)=false->decide (cM [s0,s1,s2] at_<=cM (fW [w0,w1,w2] q ⟨at_,fr,left⟩).Left at_)=true->r=(at_,Hk [s0,s1,s2] (fW [w0,w1,w2] q ⟨at_,fr,left⟩)):=fun hz h2=>by
  rw[Jl hz h2]at fk;exact(Option.some.inj fk).symm
 obtain⟨l0,l1,l2,rfl⟩:∃a b c,left=[a,b,c]:=by
  match left,hR.len with
  |[a,b,c],_=>exact⟨a,b,c,rfl⟩
 clear fk ih h1 h2 h3 h4 h5 h6 hb hs hw hq hz hp f1 f2 f3 f4 f5 f6;obtain⟨hx,-,-⟩:=hR;simp only at hx;rcases hx with rfl|rfl|rfl<;>cases fr;all_goals
  repeat' (first|refine yy ?_|refine ym ?_|(apply zf;iterate 5 exact rfl)|refine yp ?_|refine yk tN (Bl ⟨_,_,[_,_,_]⟩) ?_|refine yk tN (Bl ⟨_,_,[0,l1,l2]⟩) ?_|refine yk tN (Bl ⟨_,_,[l0,0,l2]⟩) ?_|refine yk tN (Bl ⟨_,_,[l0,l1,0]⟩) ?_|refine yk tN (Bl ⟨_,_,[min (IntKind.i64.wrap (l0+IntKind.i64.wrap (q*w0))) 1000,l1,l2]⟩) ?_|refine yk tN (Bl ⟨_,_,[l0,min (IntKind.i64.wrap (l1+IntKind.i64.wrap (q*w1))) 1000,l2]⟩) ?_|refine yk tN (Bl ⟨_,_,[l0,l1,min (IntKind.i64.wrap (l2+IntKind.i64.wrap (q*w2))) 1000]⟩) ?_|refine yk ko (qG _ _) ?_|refine ak ?_ (ht:=rfl)|refine ai ?_ (ht:=rfl)|refine ak ?_|refine ai ?_|refine yt ?_ ?_|refine yo ?_|apply zn|refine yc ?_|exact rfl|intro _)
 all_goals first
  |exact RQ (by assumption) _ _ rfl
  |exact Ks (by assumption) (by assumption) _ _ rfl
  |(show ∃l',(leave GW).ev _=some (_,l');refine fin rfl ?_;rw[Kt (by assumption) (by assumption)];rfl)
theorem alT (w:List Int) (q a:Int) (l:List Int):fW w q ⟨a,true,l⟩=⟨a,false,l.set a.toNat (List.foldl (fun a b=>if b<a then b else a) 1000 [IntKind.i64.wrap (cM l a+IntKind.i64.wrap (q*cM w a))])⟩:=by
 have e:∀x y:Int,(if y<x then y else x)=min y x:=fun x y=>by split<;>omega
 simp only[List.foldl,e,fW,if_true]
set_option maxHeartbeats 4000000 in
theorem as2 (s w:List Int) (q:Int) (t:aK) (hs:ie s 0 200=true) (hw:ie w 1 4=true) (hq:bq q 1 60=true) (ht:t.ok=true) (hz:ie s 0 0=false) {n:Nat}{r:Int×aK} (hp:ka n s w q t=some r):
  Ny [.x (ints .n s),.x (ints .n w),.x (iT q),.st (t.cs .n)]=some ⟨[.one (iT r.1),.st (r.2.cs .y)],[]⟩:=by
 have h1:wB [.x (ints .n s),.x (iT 3),.x (iT 0),.x (iT 200)]=some ⟨[.one (.b true)],[]⟩:=by
  rw[LQ s 3 0 200 (by rw[(kH.1 hs).1];decide)];have e:=(kH.1 hs).1;simp only[ie,Y8]at hs;simp[e,hs.2]
 have h2:wB [.x (ints .n w),.x (iT 3),.x (iT 1),.x (iT 4)]=some ⟨[.one (.b true)],[]⟩:=by
  rw[LQ w 3 1 4 (by rw[(kH.1 hw).1];decide)];have e:=(kH.1 hw).1;simp only[ie,Y8]at hw;simp[e,hw.2]
 have h4:=oV q 1 60;have hb:t.al<=4000000:=by have:=(uU.1 ht).len;simp only[aK.al];omega
 have h5:=afR t hb;have h6:=afF t hb;rw[hq]at h4;have qz:=ht;have SY:1<=q/\q<=60:=by simpa[bq]using hq
 rw[ht]at h5;obtain⟨s0,s1,s2,rfl⟩:∃a b c,s=[a,b,c]:=by
  match s,(kH.1 hs).1 with
  |[a,b,c],_=>exact⟨a,b,c,rfl⟩
 obtain⟨w0,w1,w2,rfl⟩:∃a b c,w=[a,b,c]:=by
  match w,(kH.1 hw).1 with
  |[a,b,c],_=>exact⟨a,b,c,rfl⟩
 have h3:=as1 s0 s1 s2;have hm:(max (max s0 s1) s2==0)=false:=by
  have:=(kH.1 hs).2;simp only[iG,uF,or_false,forall_eq_or_imp,forall_eq]at this;simp only[beq_eq_false_iff_ne];intro h;have Tj:ie [s0,s1,s2] 0 0=true:=by
   rw[kH];refine⟨rfl,?_⟩;simp only[iG,uF,or_false,forall_eq_or_imp,forall_eq];omega
  rw[Tj]at hz;cases hz
 (refine aP rfl ?_;show Ev Tz.code _ _ _)
 repeat' (first|refine yy ?_|refine ym ?_|(apply zf;iterate 5 exact rfl)|refine yp ?_|refine yk FL (h6) ?_|refine yk vk (h1) ?_|refine yk vk (h2) ?_|refine yk eL (h4) ?_|refine yk F6 (h5) ?_|refine yk Rx (h3) ?_|refine yy ?_ (ht:=rfl)|refine ym ?_ (ht:=rfl)|refine yp ?_ (ht:=rfl)|refine ai ?_ (ht:=rfl)|refine ak ?_|refine ai ?_|refine yt ?_ ?_|refine yo ?_|apply zn|refine yc ?_|exact rfl|intro _)
 show Ev (.loop _ _) _ _ _;refine jS (fun i (t:aK)=>[(0,.x (ints .n [s0,s1,s2])),(1,.x (ints .n [w0,w1,w2])),(2,.x (iT q)),(9,.box ⟨0,0,0⟩ [iT 0,.b false,.l .y 1 []]),(10,.box ⟨0,0,0⟩ (t.cs .y))]) (fun i t=>ky t/\ka (n-i) [s0,s1,s2] [w0,w1,w2] q t=some r) n t ⟨uU.1 qz,hp⟩ rfl ?_;rintro i ⟨at_,fr,left⟩ hi ⟨hR,fk⟩ ih;obtain⟨m,hm⟩:∃m,n-i=m+1:=by
  cases hm:n-i with
  |zero=>rw[hm]at fk;simp[ka]at fk
  |succ m=>exact⟨m,rfl⟩
 rw[hm]at fk;have aF:i<n:=by omega
 have mZ:n-(i+1)=m:=by omega
 obtain⟨f1,f2,f3,f4,f5,f6⟩:=IG hR (kH.1 hw).2 rfl SY;have RQ:(cM [s0,s1,s2] at_==0)=true->_:=fun hz=>ih (jB ⟨at_,fr,left.set at_.toNat 0⟩) aF ⟨w7 (Cs hR ⟨by omega,by omega⟩),by rw[mZ];exact(Jm (t:=⟨at_,fr,left⟩) hz).symm.trans fk⟩;have Ks:(cM [s0,s1,s2] at_==0)=false->decide (cM [s0,s1,s2] at_<=cM (fW [w0,w1,w2] q ⟨at_,fr,left⟩).Left at_)=false->_:=fun hz h2=>ih (jB (fW [w0,w1,w2] q ⟨at_,fr,left⟩)) aF ⟨w7 f1,by rw[mZ];exact(Jk (t:=⟨at_,fr,left⟩) hz h2).symm.trans fk⟩;have Kt:(cM [s0,s1,s2] at_==0)=false->decide (cM [s0,s1,s2] at_<=cM (fW [w0,w1,w2] q ⟨at_,fr,left⟩).Left at_)=true->r=(at_,Hk [s0,s1,s2] (fW [w0,w1,w2] q ⟨at_,fr,left⟩)):=fun hz h2=>by
  rw[Jl hz h2]at fk;exact(Option.some.inj fk).symm
 obtain⟨l0,l1,l2,rfl⟩:∃a b c,left=[a,b,c]:=by
  match left,hR.len with
  |[a,b,c],_=>exact⟨a,b,c,rfl⟩
 clear fk ih h1 h2 h3 h4 h5 h6 hm hb hs hw hq hz hp f1 f2 f3 f4 f5 f6;obtain⟨hx,-,-⟩:=hR;simp only at hx;rcases hx with rfl|rfl|rfl<;>cases fr;all_goals (try rw[alT]at Ks Kt)
 all_goals
  repeat' (first|refine yy ?_|refine ym ?_|(apply zf;iterate 5 exact rfl)|refine yp ?_|refine ak ?_ (ht:=rfl)|refine ai ?_ (ht:=rfl)|refine ak ?_|refine ai ?_|refine yt ?_ ?_|refine yo ?_|apply zn|refine yc ?_|exact rfl|intro _)
 all_goals first
  |exact RQ (by assumption) _ _ rfl
  |exact Ks (by assumption) (by assumption) _ _ rfl
  |(show ∃l',(leave Tz).ev _=some (_,l');refine fin rfl ?_;rw[Kt (by assumption) (by assumption)];rfl)
end Go.Wr

