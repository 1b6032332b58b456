/-
  What is proved: lemmas for the laws. No condition.
-/
import Derived.Test.YtbghjecopkbhlaaGreatQn
import Derived.Test.YtbghjecopkbhlaaGreatMa
set_option linter.unusedVariables false
set_option linter.unusedSimpArgs false
namespace Go.Wr
set_option maxRecDepth 20000
def aA.fX (h:aA) (es:List T):List T:=[iT h.aT.fm,iT h.aT.kx,iT h.aT.iV,ints .y h.aT.dX,iT h.aT.mK,iT h.aT.mL,iT h.aT.mJ,iT h.aT.Still,iT h.kR,.b h.gT,.l .y 5 es,au.lss .y h.Rows,aK.ls .y h.cI,iT h.fT,aa.ls .y h.aJ,aC.ls .y h.bz]
def c6 (c:bR) (k:Int) (s:aD):T:=if aw c k s then aD.el .y {ao s c.fm with yK:=k} else aD.el .n s
def dc (h:aA):List T:=if h.gT then h.bp.map (aD.el .y) else h.bp.map (c6 h.aT h.kR)
def bh (h:aA):List T:=if fu h&& !(h.kR==100000) then(cb (ab h)).fX (dc (ab h)) else h.cs .y
theorem hI {c:bR}{k:Int}{s:aD} (h:aw c k s=true):c6 c k s=aD.el .y {ao s c.fm with yK:=k}:=if_pos h
theorem hG {c:bR}{k:Int}{s:aD} (h:aw c k s=false):c6 c k s=aD.el .n s:=if_neg (by rw[h];simp)
theorem bn (l:List af):sub (bO (l.map (af.el .y))) 0 (l.map (af.el .y)).length=l.map (af.el .n):=by
 rw[lD,af.ef];unfold sub;rw[ax,p8 (by simp)]
set_option maxHeartbeats 8000000 in
theorem akx (h:aA) (hl:h.al<=4000000):gb [.os (h.cs .y)]=some ⟨[.st (bh h)],[]⟩:=by
 have h1:=afC h hl;have h2:=Dx h hl;have gq:=Ztj (ab h) hl;cases hh:fu h with
 |false=>
  rw[hh]at h1;rw[show bh h=h.cs .y by unfold bh;rw[hh];rfl];clear gq
  (refine aP rfl ?_;show Ev ba.code _ _ _)
  repeat' (first|refine yy ?_|refine ym ?_|(apply ze;iterate 5 exact rfl)|(apply zf;iterate 5 exact rfl)|refine yp ?_|refine yv su (h1) ?_|refine yw mh (h2) (wW (aA.cl _) rfl) ?_|refine ak ?_ (ht:=rfl)|refine ai ?_ (ht:=rfl)|refine ym ?_ (ht:=rfl)|refine yy ?_ (ht:=rfl)|refine yp ?_ (ht:=rfl)|refine ak ?_|refine ai ?_|refine yt ?_ ?_|refine yo ?_|apply zn|refine yc ?_|exact rfl|intro _)
  show ∃l',(leave ba).ev _=some (_,l');exact fin rfl (by(try simp only[bN]);rfl)
 |true=>
  rw[hh]at h1;cases hk:h.kR==100000 with
  |true=>
   rw[show bh h=h.cs .y by unfold bh;rw[hh,hk];rfl];clear gq
   (refine aP rfl ?_;show Ev ba.code _ _ _)
   repeat' (first|refine yy ?_|refine ym ?_|(apply ze;iterate 5 exact rfl)|(apply zf;iterate 5 exact rfl)|refine yp ?_|refine yv su (h1) ?_|refine yw mh (h2) (wW (aA.cl _) rfl) ?_|refine ak ?_ (ht:=hk)|refine ym ?_ (ht:=rfl)|refine yy ?_ (ht:=rfl)|refine yp ?_ (ht:=rfl)|refine ak ?_|refine ai ?_|refine yt ?_ ?_|refine yo ?_|apply zn|refine yc ?_|exact rfl|intro _)
   show ∃l',(leave ba).ev _=some (_,l');exact fin rfl (by(try simp only[bN]);rfl)
  |false=>
   rw[show bh h=(cb (ab h)).fX (dc (ab h)) by unfold bh;rw[hh,hk];rfl];obtain⟨s0,s1,s2,h3⟩:=abS (Wl hh).1;have fg:=YC hl;have nc:∀s∈h.bp,s.al<=4000000:=fun s hs=>by
    obtain⟨i,hi⟩:=gZ.1 hs;exact zB hl hi
   obtain⟨rf,clock,closed,ni,rows,turns,since,root,outs⟩:=h;simp only at h3 hk;subst h3;have t0:=fg s0 (by simp);have t1:=fg s1 (by simp);have t2:=fg s2 (by simp);have b0:=nc s0 (by simp);have b1:=nc s1 (by simp);have b2:=nc s2 (by simp);clear fg nc hl hh;unfold ab at gq;unfold cb ab dc;unfold kJ at gq⊢;simp only at gq⊢;generalize sh (ag rf (IntKind.i64.wrap (clock+1))) root outs=p at gq⊢;obtain⟨left,akp⟩:=p;simp only at gq⊢;cases closed with
   |true=>
    (refine aP rfl ?_;show Ev ba.code _ _ _)
    repeat' (first|refine yy ?_|refine ym ?_|(apply ze;iterate 5 exact rfl)|(apply zf;iterate 5 exact rfl)|refine yp ?_|(apply zk su;exact rfl;(simp only[List.map,iw,sub,ax,eD,bO,aD.el,T.fz,aD.fz];exact rfl);exact h1;exact rfl;exact rfl;exact rfl)|(apply zk mh;exact rfl;(simp only[List.map,iw,sub,ax,eD,bO,aD.el,T.fz,aD.fz];exact rfl);exact h2;exact wW (aA.cl _) rfl;exact rfl;exact rfl)|(apply zk FQ;exact rfl;(simp only[List.map,bn];exact rfl);exact Uk s0.bK t0;exact rfl;exact rfl;exact rfl)|(apply zk FQ;exact rfl;(simp only[List.map,bn];exact rfl);exact Uk s1.bK t1;exact rfl;exact rfl;exact rfl)|(apply zk FQ;exact rfl;(simp only[List.map,bn];exact rfl);exact Uk s2.bK t2;exact rfl;exact rfl;exact rfl)|refine ai ?_ (ht:=hk)|(apply zk Rw;exact rfl;(simp only[List.map,iw,sub,ax,eD,bO,aD.el,T.fz,aD.fz];exact rfl);exact gq;exact wW (aA.cl _) rfl;exact rfl;exact rfl)|refine DM ?_|refine ak ?_ (ht:=rfl)|refine ai ?_ (ht:=rfl)|refine ym ?_ (ht:=rfl)|refine yy ?_ (ht:=rfl)|refine yp ?_ (ht:=rfl)|refine ak ?_|refine ai ?_|refine yt ?_ ?_|refine yo ?_|apply zn|refine yc ?_|exact rfl|intro _)
    show ∃l',(leave ba).ev _=some (_,l');exact fin rfl (by(try simp only[bN]);rfl)
   |false=>
    have q3:=fun s hs=>akw s rf.fm hs
    (refine aP rfl ?_;show Ev ba.code _ _ _)
    repeat' (first|refine yy ?_|refine ym ?_|(apply ze;iterate 5 exact rfl)|(apply zf;iterate 5 exact rfl)|refine yp ?_|(apply zk su;exact rfl;(simp only[List.map,iw,sub,ax,eD,bO,aD.el,T.fz,aD.fz];exact rfl);exact h1;exact rfl;exact rfl;exact rfl)|(apply zk mh;exact rfl;(simp only[List.map,iw,sub,ax,eD,bO,aD.el,T.fz,aD.fz];exact rfl);exact h2;exact wW (aA.cl _) rfl;exact rfl;exact rfl)|(apply zk FQ;exact rfl;(simp only[List.map,bn];exact rfl);exact Uk s0.bK t0;exact rfl;exact rfl;exact rfl)|(apply zk FQ;exact rfl;(simp only[List.map,bn];exact rfl);exact Uk s1.bK t1;exact rfl;exact rfl;exact rfl)|(apply zk FQ;exact rfl;(simp only[List.map,bn];exact rfl);exact Uk s2.bK t2;exact rfl;exact rfl;exact rfl)|refine ai ?_ (ht:=hk)|(apply zk Rw;exact rfl;(simp only[List.map,iw,sub,ax,eD,bO,aD.el,T.fz,aD.fz];exact rfl);exact gq;exact wW (aA.cl _) rfl;exact rfl;exact rfl)|(apply zk hT;exact rfl;(simp only[List.map,bn];exact rfl);exact q3 _ (by assumption);exact wW (aD.cl _) rfl;exact rfl;exact rfl)|refine DM ?_|refine ak ?_ (ht:=rfl)|refine ai ?_ (ht:=rfl)|refine ym ?_ (ht:=rfl)|refine yy ?_ (ht:=rfl)|refine yp ?_ (ht:=rfl)|refine ak ?_|refine ai ?_|refine yt ?_ ?_|refine yo ?_|apply zn|refine yc ?_|exact rfl|intro _)
    all_goals
     rename_i c0 c1 c2;have e0:aw rf (IntKind.i64.wrap (clock+1)) s0=_:=c0;have e1:aw rf (IntKind.i64.wrap (clock+1)) s1=_:=c1;have e2:aw rf (IntKind.i64.wrap (clock+1)) s2=_:=c2;show ∃l',(leave ba).ev _=some (_,l');refine fin rfl ?_
     try simp only[bN]
     try simp only[bn,lD,af.ef]
     simp only[fc,s8,cX,if_false]
     first|rw[hI e0]|rw[hG e0]
     first|rw[hI e1]|rw[hG e1]
     first|rw[hI e2]|rw[hG e2]
     rfl
theorem Ztg (c:bR) (k:Int) (s:aD):(bw c k s).al=s.al:=by
 unfold bw;split
 ·show(ao s c.fm).al=s.al;unfold ao;split<;>rfl
 ·rfl
theorem Zto (h:aA):(ah h).al=h.al:=by
 unfold ah;split
 ·have h1:=Zta (ag (ab h).aT (ab h).kR) (ab h);have h2:aS aD.al (cf (ab h))=aS aD.al h.bp:=by
   unfold cf;split
   ·rfl
   ·exact Oh (fun s=>Ztg _ _ s) _
  have h3:(ab h).al=h.al:=rfl;rw[h3]at h1;unfold cb;have h4:(kJ (ag (ab h).aT (ab h).kR) (ab h)).bp=h.bp:=rfl;unfold aA.al at h1⊢;simp only[h4]at h1;simp only[h2];exact h1
 ·rfl
end Go.Wr

