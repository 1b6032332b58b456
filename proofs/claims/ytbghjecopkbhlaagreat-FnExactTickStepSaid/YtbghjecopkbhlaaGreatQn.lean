/-
  What is proved: lemmas for the laws. No condition.
-/
import Derived.Test.YtbghjecopkbhlaaGreatQm
set_option linter.unusedVariables false
set_option linter.unusedSimpArgs false
namespace Go.Wr
set_option maxRecDepth 20000
def aw (c:bR) (k:Int) (s:aD):Bool:=decide (IntKind.i64.wrap (k-s.yK)>c.Still)&&decide (s.jO>F9 s.bK)
def bw (c:bR) (k:Int) (s:aD):aD:=if aw c k s then{ao s c.fm with yK:=k} else s
def ab (h:aA):aA:={h with kR:=IntKind.i64.wrap (h.kR+1)}
def cf (h:aA):List aD:=if h.gT then h.bp else h.bp.map (bw h.aT h.kR)
def cb (h:aA):aA:={kJ (ag h.aT h.kR) h with bp:=cf h}
def ah (h:aA):aA:=if fu h&& !(h.kR==100000) then cb (ab h) else h
theorem gz {c:bR}{k:Int}{s:aD} (h:aw c k s=true):bw c k s={ao s c.fm with yK:=k}:=if_pos h
theorem gx {c:bR}{k:Int}{s:aD} (h:aw c k s=false):bw c k s=s:=if_neg (by rw[h];simp)
set_option maxHeartbeats 8000000 in
theorem akv (h:aA) (hl:h.al<=4000000):dT [.st (h.cs .n)]=some ⟨[.st ((ah h).cs .y)],[]⟩:=by
 have h1:=DC h hl;rw[qU]at h1;have h2:=Hf h hl;have gq:=Ztb (ab h) hl;cases hh:fu h with
 |false=>
  rw[hh]at h1;rw[show ah h=h by unfold ah;rw[hh];rfl];clear gq
  (refine aP rfl ?_;show Ev az.code _ _ _)
  repeat' (first|refine yy ?_|refine ym ?_|(apply ze;iterate 5 exact rfl)|(apply zf;iterate 5 exact rfl)|refine yp ?_|refine yk lN (h1) ?_|refine yk oE (h2) ?_|refine ak ?_ (ht:=rfl)|refine ai ?_ (ht:=rfl)|refine ym ?_ (ht:=rfl)|refine yy ?_ (ht:=rfl)|refine yp ?_ (ht:=rfl)|refine ak ?_|refine ai ?_|refine yt ?_ ?_|refine yo ?_|apply zn|refine yc ?_|exact rfl|intro _)
  show ∃l',(leave az).ev _=some (_,l');exact fin rfl (by(try simp only[bN]);rfl)
 |true=>
  rw[hh]at h1;cases hk:h.kR==100000 with
  |true=>
   rw[show ah h=h by unfold ah;rw[hh,hk];rfl];clear gq
   (refine aP rfl ?_;show Ev az.code _ _ _)
   repeat' (first|refine yy ?_|refine ym ?_|(apply ze;iterate 5 exact rfl)|(apply zf;iterate 5 exact rfl)|refine yp ?_|refine yk lN (h1) ?_|refine yk oE (h2) ?_|refine ak ?_ (ht:=hk)|refine ym ?_ (ht:=rfl)|refine yy ?_ (ht:=rfl)|refine yp ?_ (ht:=rfl)|refine ak ?_|refine ai ?_|refine yt ?_ ?_|refine yo ?_|apply zn|refine yc ?_|exact rfl|intro _)
   show ∃l',(leave az).ev _=some (_,l');exact fin rfl (by(try simp only[bN]);rfl)
  |false=>
   rw[show ah h=cb (ab h) by unfold ah;rw[hh,hk];rfl];obtain⟨s0,s1,s2,h3⟩:=abS (Wl hh).1;have fg:=YC hl;have nc:∀s∈h.bp,s.al<=4000000:=fun s hs=>by
    obtain⟨i,hi⟩:=gZ.1 hs;exact zB hl hi
   obtain⟨rf,clock,closed,ni,rows,turns,since,root,outs⟩:=h;simp only at h3 hk;subst h3;have t0:=fg s0 (by simp);have t1:=fg s1 (by simp);have t2:=fg s2 (by simp);have b0:=nc s0 (by simp);have b1:=nc s1 (by simp);have b2:=nc s2 (by simp);clear fg nc hl hh;unfold ab at gq;unfold cb ab cf;unfold kJ at gq⊢;simp only at gq⊢;generalize sh (ag rf (IntKind.i64.wrap (clock+1))) root outs=p at gq⊢;obtain⟨left,akp⟩:=p;simp only at gq⊢;generalize r5:IntKind.i64.wrap (clock+1)=ck at gq⊢;cases closed with
   |true=>
    (refine aP rfl ?_;show Ev az.code _ _ _)
    repeat' (first|refine yy ?_|refine ym ?_|(apply ze;iterate 5 exact rfl)|(apply zf;iterate 5 exact rfl)|refine yp ?_|refine yk lN (h1) ?_|refine yk oE (h2) ?_|refine yv FM (Ui s0.bK t0) ?_|refine yv FM (Ui s1.bK t1) ?_|refine yv FM (Ui s2.bK t2) ?_|refine ai ?_ (ht:=hk)|(apply zk Ru;exact rfl;(simp only[r5];exact rfl);exact gq;exact rfl;exact rfl;exact rfl)|refine DM ?_|refine ak ?_ (ht:=rfl)|refine ai ?_ (ht:=rfl)|refine ym ?_ (ht:=rfl)|refine yy ?_ (ht:=rfl)|refine yp ?_ (ht:=rfl)|refine ak ?_|refine ai ?_|refine yt ?_ ?_|refine yo ?_|apply zn|refine yc ?_|exact rfl|intro _)
    show ∃l',(leave az).ev _=some (_,l');exact fin rfl (by(try simp only[bN]);rfl)
   |false=>
    have q3:=fun s hs=>aku s rf.fm hs
    (refine aP rfl ?_;show Ev az.code _ _ _)
    repeat' (first|refine yy ?_|refine ym ?_|(apply ze;iterate 5 exact rfl)|(apply zf;iterate 5 exact rfl)|refine yp ?_|refine yk lN (h1) ?_|refine yk oE (h2) ?_|refine yv FM (Ui s0.bK t0) ?_|refine yv FM (Ui s1.bK t1) ?_|refine yv FM (Ui s2.bK t2) ?_|refine ai ?_ (ht:=hk)|(apply zk Ru;exact rfl;(simp only[r5];exact rfl);exact gq;exact rfl;exact rfl;exact rfl)|(apply zk hP;exact rfl;simp only[List.map,iw];exact rfl;exact(q3 _ (by assumption));exact(wW (aD.cl _) rfl);exact rfl;exact rfl)|refine DM ?_|refine ak ?_ (ht:=rfl)|refine ai ?_ (ht:=rfl)|refine ym ?_ (ht:=rfl)|refine yy ?_ (ht:=rfl)|refine yp ?_ (ht:=rfl)|refine ak ?_|refine ai ?_|refine yt ?_ ?_|refine yo ?_|apply zn|refine yc ?_|exact rfl|intro _)
    all_goals
     rename_i c0 c1 c2;have e0:aw rf ck s0=_:=c0;have e1:aw rf ck s1=_:=c1;have e2:aw rf ck s2=_:=c2;show ∃l',(leave az).ev _=some (_,l');refine fin rfl ?_
     try simp only[bN]
     simp only[fc,s8,cX,if_false]
     first|rw[gz e0]|rw[gx e0]
     first|rw[gz e1]|rw[gx e1]
     first|rw[gz e2]|rw[gx e2]
     rfl
end Go.Wr

