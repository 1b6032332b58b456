/-
  What is proved: lemmas for the laws. No condition.
-/
import Derived.Test.YtbghjecopkbhlaaGreatQa
import Derived.Test.YtbghjecopkbhlaaGreatRe
set_option linter.unusedVariables false
set_option linter.unusedSimpArgs false
namespace Go.Wr
set_option maxRecDepth 20000
theorem afS (a b:aa):H7 [.st (a.cs .n),.st (b.cs .n)]=some ⟨[.one (.b (eK a b))],[]⟩:=by
 (refine aP rfl ?_;show Ev aes.code _ _ _)
 repeat' (first|refine yy ?_|refine ym ?_|(apply ze;iterate 5 exact rfl)|(apply zf;iterate 5 exact rfl)|refine yp ?_|refine yo ?_|apply zn|refine yc ?_|exact rfl|intro _)
 exact fin rfl rfl
theorem afR (t:aK) (hl:t.al<=4000000):H6 [.st (t.cs .n)]=some ⟨[.one (.b t.ok)],[]⟩:=by
 have dy:t.Left.length<=4194304:=by simp only[aK.al]at hl;omega
 (refine aP rfl ?_;show Ev aer.code _ _ _)
 repeat' (first|refine yy ?_|refine ym ?_|(apply ze;iterate 5 exact rfl)|refine yp ?_|refine yk eL (oV _ _ _) ?_|refine yk vk (LQ t.Left _ _ _ dy) ?_|refine yo ?_|apply zn|refine yc ?_|exact rfl|intro _)
 refine fin rfl (du ?_);have e:decide ((t.Left.length:Int)=3)=decide (t.Left.length=3):=iN3 _;rw[aK.ok,ie,<-e]
theorem afz (t:aK) (hl:t.al<=4000000):HJ [.st (t.cs .n)]=some ⟨[.one (.b t.ok)],[]⟩:=by
 have dy:t.Left.length<=4194304:=by simp only[aK.al]at hl;omega
 (refine aP rfl ?_;show Ev ade.code _ _ _)
 repeat' (first|refine yy ?_|refine ym ?_|(apply ze;iterate 5 exact rfl)|refine yp ?_|refine yk Q8 (asD _) ?_|refine yk lM (we t.Left _ _ dy) ?_|refine yo ?_|apply zn|refine yc ?_|exact rfl|intro _)
 exact fin rfl rfl
theorem YA {s:aD}{dI:Int} (h1:bq dI 1 8=true) (h2:bq s.dM 0 (gi s.bK)=true) (hl:s.al<=4000000):IntKind.i64.wrap (s.dM+dI)=s.dM+dI:=by
 simp only[bq,Y8,decide_eq_true_eq]at h1 h2;have h3:gi s.bK<=10000*4000000:=by
  unfold gi;split
  ·rename_i h;have:=JK fun x hx=>Cq h hx;simp only[aD.al]at hl;omega
  ·omega
 rw[dQ (by omega)]
theorem LU (s:aD) (dI:Int) (hl:s.al<=4000000):BH [.st (s.cs .n),.x (iT dI)]=some ⟨[.one (.b (s.ok dI))],[]⟩:=by
 have dy:s.bK.length<=4194304:=by simp only[aD.al]at hl;omega
 (refine aP rfl ?_;show Ev aeq.code _ _ _)
 repeat' (first|refine yy ?_|refine ym ?_|(apply ze;iterate 5 exact rfl)|refine yp ?_|refine yk eL (oV _ _ _) ?_|refine yk F5 (afQ s.bK _ _ dy) ?_|refine yk F4 (afP s.bK dy) ?_|refine yo ?_|apply zn|refine yc ?_|exact rfl|intro _)
 refine fin rfl (du ?_);rw[aD.ok];cases h1:bq dI 1 8
 ·simp
 ·cases h2:bq s.dM 0 (gi s.bK)
  ·simp
  ·rw[YA h1 h2 hl]
theorem LK (s:aD) (dI:Int) (hl:s.al<=4000000):Bz [.st (s.cs .n),.x (iT dI)]=some ⟨[.one (.b (s.ok dI))],[]⟩:=by
 have dy:s.bK.length<=4194304:=by simp only[aD.al]at hl;omega
 (refine aP rfl ?_;show Ev ada.code _ _ _)
 repeat' (first|refine yy ?_|refine ym ?_|(apply ze;iterate 5 exact rfl)|refine yp ?_|refine yk eS (pI _ _ _) ?_|refine yk Q7 (asC s.bK _ dy) ?_|refine yk zZ (Ud s.bK dy) ?_|refine yo ?_|apply zn|refine yc ?_|exact rfl|intro _)
 refine fin rfl (du ?_);rw[aD.ok];cases h1:bq dI 1 8
 ·simp
 ·cases h2:bq s.dM 0 (gi s.bK)
  ·simp
  ·rw[YA h1 h2 hl]
theorem PQ {l:List aC}{i:Nat}{x:aC}{k w:Int} (h:l[i]?=some x):nR (l.take (i+1)) k w=nR (l.take i) k w+(if x.bg.Key==k&&x.bg.eo==w then 1 else 0):=by
 unfold nR;rw[mb,h];simp[List.countP_cons]
theorem ZG (l:List aC) (i:Nat) (k w:Int):nR (l.take i) k w<=i:=eQ List.countP_le_length (by rw[fU];omega)
theorem afT (l:List aC) (k w:Int) (hl:l.length<=4194304):H8 [.x (aC.ls .n l),.x (iT k),.x (iT w)]=some ⟨[.one (iT (nR l k w))],[]⟩:=by
 (refine aP rfl ?_;show Ev aev.code _ _ _)
 repeat' (first|refine yy ?_|refine ym ?_|(apply ze;iterate 5 exact rfl)|refine yp ?_|refine ak ?_|refine ai ?_|refine yt ?_ ?_|refine yo ?_|apply zn|refine yc ?_|exact rfl|intro _)
 refine cF (aC.el .n) l (fun i (n:Nat)=>[(1,.x (iT k)),(2,.x (iT w)),(7,.x (iT n)),(10,.x (aC.ls .n l)),(11,.x (iT (l.map (aC.el .n)).length)),(12,.x (iT i))]) (fun i n=>n=nR (l.take i) k w) 0 rfl rfl ?_ ?_
 ·rintro i n x hx aF hc _ hinv ih;have hn:=ZG l i k w
  repeat' (first|refine yy ?_|refine ym ?_|(apply ze;iterate 5 exact rfl)|refine yp ?_|refine yi (aC.el .n x) (bH hx) ?_|refine ak ?_|refine ai ?_|refine yt ?_ ?_|refine yo ?_|apply zn|refine yc ?_|exact rfl|intro _)
  ·rename_i h;refine ih (n+1) ?_ _ _ ?_
   ·rw[hinv,PQ hx,h];rfl
   ·rw[bU (by omega),bU (by omega)];rfl
  ·rename_i h;refine ih n ?_ _ _ ?_
   ·rw[hinv,PQ hx,h];rfl
   ·rw[bU (by omega)];rfl
 ·rintro n hc _ hinv;rw[eD]at hinv;subst hinv
  repeat' (first|refine yy ?_|refine ym ?_|(apply ze;iterate 5 exact rfl)|refine yp ?_|refine ak ?_|refine ai ?_|refine yt ?_ ?_|refine yo ?_|apply zn|refine yc ?_|exact rfl|intro _)
  exact fin rfl rfl
theorem afB (l:List aC) (k w:Int) (hl:l.length<=4194304):HL [.x (aC.ls .n l),.x (iT k),.x (iT w)]=some ⟨[.one (iT (nR l k w))],[]⟩:=by
 (refine aP rfl ?_;show Ev adh.code _ _ _)
 repeat' (first|refine yy ?_|refine ym ?_|(apply ze;iterate 5 exact rfl)|refine yp ?_|refine ak ?_|refine ai ?_|refine yt ?_ ?_|refine yo ?_|apply zn|refine yc ?_|exact rfl|intro _)
 refine cF (aC.el .n) l (fun i (n:Nat)=>[(0,.x (aC.ls .n l)),(1,.x (iT k)),(2,.x (iT w)),(7,.x (iT n)),(8,.x (iT i))]) (fun i n=>n=nR (l.take i) k w) 0 rfl rfl ?_ ?_
 ·rintro i n x hx aF hc _ hinv ih;have hn:=ZG l i k w
  repeat' (first|refine yy ?_|refine ym ?_|(apply ze;iterate 5 exact rfl)|refine yp ?_|refine yi (aC.el .n x) (bH hx) ?_|refine yk FJ (afA _) ?_|refine ak ?_|refine ai ?_|refine yt ?_ ?_|refine yo ?_|apply zn|refine yc ?_|exact rfl|intro _)
  refine ih (n+if x.bg.Key==k&&x.bg.eo==w then 1 else 0) ?_ _ _ ?_
  ·rw[hinv,PQ hx]
  ·have:IntKind.i64.wrap (n+if(x.bg.Key==k&&x.bg.eo==w)=true then 1 else 0)=((n+if(x.bg.Key==k&&x.bg.eo==w)=true then 1 else 0:Nat):Int):=by
    rw[dQ (by split<;>omega)];split<;>simp
   rw[bU (by omega),<-this];rfl
 ·rintro n hc _ hinv;rw[eD]at hinv;subst hinv
  repeat' (first|refine yy ?_|refine ym ?_|(apply ze;iterate 5 exact rfl)|refine yp ?_|refine ak ?_|refine ai ?_|refine yt ?_ ?_|refine yo ?_|apply zn|refine yc ?_|exact rfl|intro _)
  exact fin rfl rfl
theorem asH (a b:List af) (hl:a.length<=4194304):M6 [.x (af.ls .n a),.x (af.ls .n b)]=some ⟨[.one (.b (decide (a=b)))],[]⟩:=by
 (refine aP rfl ?_;show Ev adk.code _ _ _)
 repeat' (first|refine ak ?_|refine ai ?_|refine yt ?_ ?_|refine yo ?_|apply zn|refine yc ?_|intro _)
 ·refine fin rfl (du ?_);rename_i h;have h2:a≠b:=Cf h;simp[h2]
 ·have hlen:a.length=b.length:=by rename_i h;exact B1 h
  refine cF (af.el .n) a (fun i (_:Unit)=>[(0,.x (af.ls .n a)),(1,.x (af.ls .n b)),(5,.x (iT i))]) (fun i _=>a.take i=b.take i) () (by simp) rfl ?_ ?_
  ·rintro i _ x hx aF hc _ hinv ih;have hy:=bF (show i<b.length by omega);generalize b[i]'(by omega)=y at hy
   repeat' (first|refine yi (af.el .n x) (bH hx) ?_|refine yi (af.el .n y) (bH hy) ?_|refine ak ?_|refine ai ?_|refine yt ?_ ?_|refine yo ?_|apply zn|refine yc ?_|intro _)
   ·rename_i h;have h2:a≠b:=Ce hx hy (by intro e;subst e;simp at h);exact fin rfl (du (by simp[h2]))
   ·rename_i h;have oR:x=y:=by rcases x with⟨x1,x2⟩;rcases y with⟨y1,y2⟩;simpa using h
    refine ih () (B3 hinv hx (oR▸hy)) _ _ ?_;rw[bU (by omega)];rfl
  ·rintro _ hc _ hinv
   repeat' (first|refine ak ?_|refine ai ?_|refine yt ?_ ?_|refine yo ?_|apply zn|refine yc ?_|intro _)
   refine fin rfl (du ?_);simp[B0 hinv hlen (Nat.le_refl _)]
theorem atx (a b:List af) (hl:a.length<=4194304):N6 [.x (af.ls .n a),.x (af.ls .n b)]=some ⟨[.one (.b (decide (a=b)))],[]⟩:=by
 (refine aP rfl ?_;show Ev aew.code _ _ _)
 repeat' (first|refine ak ?_|refine ai ?_|refine yt ?_ ?_|refine yo ?_|apply zn|refine yc ?_|intro _)
 ·refine fin rfl (du ?_);rename_i h;have h2:a≠b:=Cf h;simp[h2]
 ·have hlen:a.length=b.length:=by rename_i h;exact B1 h
  refine cF (af.el .n) a (fun i (_:Unit)=>[(0,.x (af.ls .n a)),(1,.x (af.ls .n b)),(12,.x (iT (a.map (af.el .n)).length)),(13,.x (iT i))]) (fun i _=>a.take i=b.take i) () (by simp) rfl ?_ ?_
  ·rintro i _ x hx aF hc _ hinv ih;have hy:=bF (show i<b.length by omega);generalize b[i]'(by omega)=y at hy
   repeat' (first|refine yi (af.el .n x) (bH hx) ?_|refine yi (af.el .n y) (bH hy) ?_|refine ak ?_|refine ai ?_|refine yt ?_ ?_|refine yo ?_|apply zn|refine yc ?_|intro _)
   ·rename_i h;have h2:a≠b:=Ce hx hy (by intro e;subst e;simp at h);exact fin rfl (du (by simp[h2]))
   ·rename_i h;have oR:x=y:=by rcases x with⟨x1,x2⟩;rcases y with⟨y1,y2⟩;simpa using h
    refine ih () (B3 hinv hx (oR▸hy)) _ _ ?_;rw[bU (by omega)];rfl
  ·rintro _ hc _ hinv
   repeat' (first|refine ak ?_|refine ai ?_|refine yt ?_ ?_|refine yo ?_|apply zn|refine yc ?_|intro _)
   refine fin rfl (du ?_);simp[B0 hinv hlen (Nat.le_refl _)]
theorem Zu {l:List aa}{i:Nat}{e:aa} (hx:l[i]?=some e) (h:e.ok=false):qZ l i=false:=by simp[qZ,hx,h]
theorem afO (l:List aa) (hl:aS aa.al l<=4000000):D5 [.x (aa.ls .n l)]=some ⟨[.one (.b (kI l))],[]⟩:=by
 have hlen:=dA aa.al l
 (refine aP rfl ?_;show Ev aei.code _ _ _)
 repeat' (first|refine ak ?_|refine ai ?_|refine yt ?_ ?_|refine yo ?_|apply zn|refine yc ?_|intro _)
 refine cF (aa.el .n) l (fun i (_:Unit)=>[(0,.x (aa.ls .n l)),(7,.x (aa.ls .n l)),(8,.x (iT (l.map (aa.el .n)).length)),(9,.x (iT i))]) (fun i _=>∀j,j<i->qZ l j=true) () (by omega) rfl ?_ ?_
 ·rintro i _ e hx aF hc _ hinv ih;have rm:e.al<=4000000:=eQ (gk hx) hl;have R6:e.aH.length<=4194304:=by have:e.aH.length<=e.al:=by{unfold aa.al;omega};omega
  have fg:0<=i/\i<=(l.map (aa.el .n)).length:=by rw[cL];omega
  repeat' (first|refine yi (aa.el .n e) (bH hx) ?_|refine yk nw (DB e rm) ?_|(apply zu;exact rfl;exact Eg rfl rfl;exact rfl;exact(fg);exact rfl;exact JJ;exact rfl;exact rfl)|refine ak ?_|refine ai ?_|refine yt ?_ ?_|refine yo ?_|apply zn|refine yc ?_|intro _)
  ·refine fin rfl (du ?_);rename_i h;have h2:e.ok=false:=by simpa using h
   rw[kI,Zn aF (Zu hx h2)]
  ·rename_i h;have h2:e.ok=true:=by simpa using h
   refine cF (aa.el .n) (l.take i) (fun k (_:Unit)=>[(0,.x (aa.ls .n l)),(4,.box ⟨0,0,0⟩ (e.cs .n)),(7,.x (aa.ls .n l)),(8,.x (iT (l.map (aa.el .n)).length)),(9,.x (iT i)),(19,.x (aa.ls .n (l.take i))),(20,.x (iT ((l.take i).map (aa.el .n)).length)),(21,.x (iT k))]) (fun k _=>((l.take i).take k).all (fun o=>jq e.aH o.aH)=true) () (by simp) rfl ?_ ?_
   ·rintro k _ o hy kN dx _ cG fZ;have eF:o.aH.length<=4194304:=by
     have h3:=cS hy;obtain⟨j,hj⟩:=gZ.1 (s9 h3);have:=gk (f:=aa.al) hj;unfold aa.al at this;unfold aa.al at hl;omega
    repeat' (first|refine yi (aa.el .n o) (bH hy) ?_|refine yk F1 (afN e.aH o.aH R6 eF) ?_|refine ak ?_|refine ai ?_|refine yt ?_ ?_|refine yo ?_|apply zn|refine yc ?_|intro _)
    ·refine fin rfl (du ?_);rename_i h;have h3:jq e.aH o.aH=false:=by simpa using h
     rw[kI,Zn aF];rw[qZ,hx];simp only[np (p:=fun o=>jq e.aH o.aH) hy h3,Y9]
    ·rename_i h;have h3:jq e.aH o.aH=true:=by simpa using h
     refine fZ () (nq (p:=fun o=>jq e.aH o.aH) cG hy h3) _ _ ?_;rw[bU (by rw[fU]at kN;omega)];rfl
   ·rintro _ dx _ cG
    repeat' (first|refine ak ?_|refine ai ?_|refine yt ?_ ?_|refine yo ?_|apply zn|refine yc ?_|intro _)
    refine ih () (mP hinv ?_) _ _ ?_
    ·rw[qZ,hx];simp only[h2,nr cG,gX]
    ·rw[bU (by omega)];rfl
 ·rintro _ hc _ hinv
  repeat' (first|refine ak ?_|refine ai ?_|refine yt ?_ ?_|refine yo ?_|apply zn|refine yc ?_|intro _)
  refine fin rfl (du ?_);rw[kI,Zo hinv]
theorem LR (r:au) (hl:r.al<=4000000):D8 [.st (r.cs .n)]=some ⟨[.one (.b r.ok)],[]⟩:=by
 simp only[au.al]at hl
 (refine aP rfl ?_;show Ev aeo.code _ _ _)
 repeat' (first|refine yy ?_|refine ym ?_|(apply ze;iterate 5 exact rfl)|refine yp ?_|refine yk F2 (afO r.bV hl) ?_|refine yo ?_|apply zn|refine yc ?_|exact rfl|intro _)
 refine fin rfl (du ?_);have e:decide (((r.bV.map (aa.el .n)).length:Int)<=24)=decide (r.bV.length<=24):=by rw[cL,ma];simp;omega
 rw[au.ok,e]
theorem Ua (r:au) (hl:r.al<=4000000):DR [.st (r.cs .n)]=some ⟨[.one (.b r.ok)],[]⟩:=by
 simp only[au.al]at hl;have hlen:=dA aa.al r.bV
 (refine aP rfl ?_;show Ev ac4.code _ _ _)
 repeat' (first|refine ak ?_|refine ai ?_|refine yt ?_ ?_|refine yo ?_|apply zn|refine yc ?_|intro _)
 ·refine fin rfl (du ?_);rename_i h;have:¬r.bV.length<=24:=by simp at h;omega
  simp[au.ok,this]
 ·rename_i h;have h24:decide (r.bV.length<=24)=true:=by simp at h⊢;omega
  rw[au.ok,h24,pX];refine cF (aa.el .n) r.bV (fun i (_:Unit)=>[(1,.box ⟨0,0,0⟩ (r.cs .n)),(3,.x (iT i))]) (fun i _=>∀j,j<i->qZ r.bV j=true) () (by omega) rfl ?_ ?_
  ·rintro i _ e hx aF hc _ hinv ih;have rm:e.al<=4000000:=eQ (gk hx) hl;have R6:e.aH.length<=4194304:=by have:e.aH.length<=e.al:=by{unfold aa.al;omega};omega
   repeat' (first|refine yi (aa.el .n e) (bH hx) ?_|refine yk sr (He e rm) ?_|refine ak ?_|refine ai ?_|refine yt ?_ ?_|refine yo ?_|apply zn|refine yc ?_|intro _)
   ·refine fin rfl (du ?_);rename_i h;have h2:e.ok=false:=by simpa using h
    rw[kI,Zn aF (Zu hx h2)]
   ·rename_i h;have h2:e.ok=true:=by simpa using h
    refine cF (aa.el .n) (r.bV.take i) (fun k (_:Unit)=>[(1,.box ⟨0,0,0⟩ (r.cs .n)),(3,.x (iT i)),(4,.x (iT k))]) (fun k _=>((r.bV.take i).take k).all (fun o=>jq e.aH o.aH)=true) () (by simp) rfl ?_ ?_
    ·rintro k _ o hy kN _ _ cG fZ;rw[fU]at kN;have dx:decide ((k:Int)<(i:Int))=true:=by simp;omega
     have y4:r.bV[k]?=some o:=by rwa [wO (by omega)]at hy
     have eF:o.aH.length<=4194304:=by
      have:=gk (f:=aa.al) y4;unfold aa.al at this;unfold aa.al at hl;omega
     repeat' (first|refine yi (aa.el .n o) (bH y4) ?_|refine yi (aa.el .n e) (bH hx) ?_|refine yk FG (afx e.aH o.aH R6 eF) ?_|refine ak ?_|refine ai ?_|refine yt ?_ ?_|refine yo ?_|apply zn|refine yc ?_|intro _)
     ·refine fin rfl (du ?_);rename_i h;have h3:jq e.aH o.aH=false:=by simpa using h
      rw[kI,Zn aF];rw[qZ,hx];simp only[np (p:=fun o=>jq e.aH o.aH) hy h3,Y9]
     ·rename_i h;have h3:jq e.aH o.aH=true:=by simpa using h
      refine fZ () (nq (p:=fun o=>jq e.aH o.aH) cG hy h3) _ _ ?_;rw[bU (by omega)];rfl
    ·rintro _ _ _ cG;have dx:decide (((r.bV.take i).length:Int)<(i:Int))=false:=by rw[fU];simp;omega
     repeat' (first|refine ak ?_|refine ai ?_|refine yt ?_ ?_|refine yo ?_|apply zn|refine yc ?_|intro _)
     refine ih () (mP hinv ?_) _ _ ?_
     ·rw[qZ,hx];simp only[h2,nr cG,gX]
     ·rw[bU (by omega)];rfl
  ·rintro _ hc _ hinv
   repeat' (first|refine ak ?_|refine ai ?_|refine yt ?_ ?_|refine yo ?_|apply zn|refine yc ?_|intro _)
   refine fin rfl (du ?_);rw[kI,Zo hinv]
theorem ar3 (x:af) (n:Int):Mo [.st (x.cs .n),.x (.p (iT n))]=some ⟨[.one (.b (bq n x.Lo x.Hi))],[]⟩:=by
 (refine aP rfl ?_;show Ev acm.code _ _ _)
 repeat' (first|refine yk eL (oV _ _ _) ?_|refine yo ?_|apply zn|refine yc ?_|intro _)
 exact fin rfl rfl
theorem asx (s:List af) (n:Int) (hl:s.length<=4194304) (k:Int) (hk:k=match s.findIdx? (fun x=>bq n x.Lo x.Hi) with|some i=>(i:Int)|none=>-1):MP [.x (af.ls .n s),.x (.f CQ [.p (iT n)])]=some ⟨[.one (iT k)],[]⟩:=by
 (refine aP rfl ?_;show Ev acO.code _ _ _)
 repeat' (first|refine ak ?_|refine ai ?_|refine yt ?_ ?_|refine yo ?_|apply zn|refine yc ?_|intro _)
 refine cF (af.el .n) s (fun i (_:Unit)=>[(0,.x (af.ls .n s)),(1,.x (.f CQ [.p (iT n)])),(7,.x (iT (s.map (af.el .n)).length)),(8,.x (iT i))]) (fun i _=>∀j x,j<i->s[j]?=some x->bq n x.Lo x.Hi=false) () (by omega) rfl ?_ ?_
 ·rintro i _ x hx aF hc _ hinv ih
  repeat' (first|refine yi (af.el .n x) (bH hx) ?_|refine yd (ar3 x n) ?_|refine ak ?_|refine ai ?_|refine yt ?_ ?_|refine yo ?_|apply zn|refine yc ?_|intro _)
  ·refine fin rfl (mC ?_);rename_i h;have h3:s.findIdx? (fun x=>bq n x.Lo x.Hi)=some i:=by
    rw[List.findIdx?_eq_some_iff_getElem];refine⟨aF,?_,fun j hj=>?_⟩
    ·rw[(bt.1 hx).2];exact h
    ·rw[hinv j _ hj (bF (by omega))];simp
   rw[hk,h3]
  ·rename_i h;refine ih () ?_ _ _ ?_
   ·intro j y hj hy;rcases Nat.lt_succ_iff_lt_or_eq.1 hj with h1|rfl
    ·exact hinv j y h1 hy
    ·rw[hx]at hy;cases hy;exact h
   ·rw[bU (by omega)];rfl
 ·rintro _ hc _ hinv
  repeat' (first|refine ak ?_|refine ai ?_|refine yt ?_ ?_|refine yo ?_|apply zn|refine yc ?_|intro _)
  refine fin rfl (mC ?_);have h3:s.findIdx? (fun x=>bq n x.Lo x.Hi)=none:=by
   rw[List.findIdx?_eq_none_iff];intro x hx;obtain⟨j,hj⟩:=gZ.1 hx;exact hinv j x (bt.1 hj).1 hj
  rw[hk,h3]
theorem asK (s:List af) (n:Int) (hl:s.length<=4194304):M7 [.x (af.ls .n s),.x (.f CQ [.p (iT n)])]=some ⟨[.one (.b (uo s n))],[]⟩:=by
 (refine aP rfl ?_;show Ev adm.code _ _ _)
 repeat' (first|refine yk QX (asx s n hl _ rfl) ?_|refine yo ?_|apply zn|refine yc ?_|intro _)
 refine fin rfl (du ?_);unfold uo;cases h:s.findIdx? (fun x=>bq n x.Lo x.Hi) with
 |none=>
  rw[List.findIdx?_eq_none_iff]at h;rw[eq_comm];show _=false;rw[List.any_eq_false];intro x hx;rw[h x hx];simp
 |some i=>
  rw[List.findIdx?_eq_some_iff_getElem]at h;obtain⟨hi,h,_⟩:=h;rw[eq_comm,qN.2 ⟨_,pZ hi,h⟩];simp
theorem as0 (s:List af) (n:Int) (hl:s.length<=4194304):Nq [.x (af.ls .n s),.x (iT n)]=some ⟨[.one (.b (uo s n))],[]⟩:=by
 (refine aP rfl ?_;show Ev adO.code _ _ _)
 repeat' (first|refine yk Re (asK s n hl) ?_|refine yo ?_|apply zn|refine yc ?_|intro _)
 exact fin rfl rfl
theorem YM (s:List af):(mF s).length=s.length:=by rw[mF,cL,JG,cL]
theorem att (s:List af) (hl:s.length<=4194304):D6 [.mu (af.ls .y s),.x (.f F3 [])]=some ⟨[],[[af.ls .y (mF s)]]⟩:=by
 have h:=Zpl (gc:=F3) (s.map fun x=>(x.Lo,x.Hi)) (by rw[cL];omega);rw[yW]at h;rw[D6,rX];refine h.trans ?_;rw[mF,af.ls,yW];rfl
theorem PL (s:List af):∀x∈mF s,x∈s:=fun x hx=>by
 obtain⟨p,hp,rfl⟩:=jt.1 hx;have:=(JH (s.map fun x=>(x.Lo,x.Hi))).1.mem_iff.1 hp;obtain⟨y,hy,rfl⟩:=jt.1 this;exact hy
theorem EI {ob:Ob} (l:List af) (x:af):af.ls ob (l++[x])=.l ob 2 (l.map (af.el ob)++[af.el ob x]):=by rw[af.ls,kh];rfl
theorem Um (s:List af) (hl:s.length<=4194304) (hb:∀x∈s,dz x):D7 [.x (af.ls .n s)]=some ⟨[.one (af.ls .y (pQ s))],[]⟩:=by
 have hls:=YM s;have C8:∀x∈mF s,dz x:=fun x hx=>hb x (PL s x hx)
 (refine aP rfl ?_;show Ev aek.code _ _ _)
 repeat' (first|refine yy ?_|refine ym ?_|(apply ze;iterate 5 exact rfl)|refine yp ?_|refine yk vj (LP s hl) ?_|(apply zkM RN;(iterate 6 exact rfl);exact(att s hl);iterate 3 exact rfl)|refine ak ?_|refine ai ?_|refine yt ?_ ?_|refine yo ?_|apply zn|refine yc ?_|exact rfl|intro _)
 refine cF (af.el .n) (mF s) (fun i (out:List af)=>[(3,.own ⟨0,0,0⟩ (af.ls .y (mF s))),(4,.own ⟨0,0,0⟩ (af.ls .y out)),(12,.w 3 ⟨0,0,0⟩ [] 2 0 ((mF s).map (af.el .n)).length),(13,.x (iT ((mF s).map (af.el .n)).length)),(14,.x (iT i))]) (fun i out=>out=((mF s).take i).foldl lZ []/\(∀x∈out,dz x)/\out.length<=i) [] (by simp) rfl ?_ ?_
 ·rintro i out x hx aF hc _ ⟨hinv,eF,iC⟩ ih;have rq:=C8 x (cS hx);have vM:lZ out x=((mF s).take (i+1)).foldl lZ []/\(∀y∈lZ out x,dz y)/\(lZ out x).length<=i+1:=⟨by rw[hinv,B4 hx],Ziv eF rq,eQ (XK _ _) (by omega)⟩
  rcases List.eq_nil_or_concat out with rfl|⟨o,p,rfl⟩
  ·have h0:decide (((([]:List af).map (af.el .y)).length:Int)>0)= !true:=rfl;have h1:decide (((([]:List af).map (af.el .y)).length:Int)>0)=false:=rfl;have h2:false=false:=rfl
   repeat' (first|refine yy ?_|refine ym ?_|(apply ze;iterate 5 exact rfl)|refine yp ?_|refine yx (qV aF) ?_|refine yL (af.cs .n x) (EJ (bH hx)) ?_|(apply zv;(iterate 7 exact rfl);exact(wT (f:=af.el .n) (l:=[x]) (es:=[]) (by simp));exact(rfl);exact rfl;exact rfl)|refine ak ?_|refine ai ?_|refine yt ?_ ?_|refine yo ?_|apply zn|refine yc ?_|exact rfl|intro _)
   refine ih _ vM _ _ ?_;rw[bU (by omega)];rfl
  ·rw[List.concat_eq_append]at hinv eF iC vM⊢;have hbp:=eF p (by simp);have h0:decide ((((o++[p]).map (af.el .y)).length:Int)>0)=true:=by simp
   have hk:IntKind.i64.wrap ((((o++[p]).map (af.el .y)).length:Int)-1)=(o.length:Int):=by
    rw[jR]at iC;rw[cL,jR,dQ (by simp at iC⊢;omega)];simp
   have kM:0<=IntKind.i64.wrap ((((o++[p]).map (af.el .y)).length:Int)-1):=by rw[hk];omega
   have tV:IntKind.i64.wrap ((((o++[p]).map (af.el .y)).length:Int)-1)<(((o++[p]).map (af.el .y)).length:Nat):=by rw[hk];simp;omega
   have dJ:((o++[p]).map (af.el .y)).length+([x].map (af.el .n)).length<cQ:=by simp[cQ];simp at iC;omega
   have vK:(if x.Hi>p.Hi then x.Hi else p.Hi)=max p.Hi x.Hi:=by split<;>omega
   have hw:IntKind.i64.wrap (p.Hi+1)=p.Hi+1:=dQ (by unfold dz at hbp;omega)
   repeat' (first|refine yy ?_|refine ym ?_|(apply ze;iterate 5 exact rfl)|refine yp ?_|refine yz (kM) (tV) ?_|refine yx (qV aF) ?_|refine yL (af.cs .n x) (EJ (bH hx)) ?_|refine yl (af.el .n p) (WL o p hk) ?_|refine yS (af.el .n p) (af.ls .y (o++[⟨p.Lo,if x.Hi>p.Hi then x.Hi else p.Hi⟩])) (WL o p hk) (Zde o p hk) (Zdf o p ⟨p.Lo,if x.Hi>p.Hi then x.Hi else p.Hi⟩ hk rfl) ?_|(apply zv;(iterate 7 exact rfl);exact(dJ);exact(rfl);exact rfl;exact rfl)|refine ak ?_|refine ai ?_|refine yt ?_ ?_|refine yo ?_|apply zn|refine yc ?_|exact rfl|intro _)
   ·rename_i h;rw[hw]at h;have hn:=vM;rw[EN,if_pos (of_decide_eq_true h)]at hn;refine ih _ hn _ _ ?_;rw[<-vK,bU (by omega)];rfl
   ·rename_i h;rw[hw]at h;have hn:=vM;rw[EN,if_neg (of_decide_eq_false h)]at hn;refine ih _ hn _ _ ?_;rw[bU (by omega),EI];rfl
 ·rintro out hc _ ⟨hinv,_,_⟩;rw[eD]at hinv
  repeat' (first|refine yy ?_|refine ym ?_|(apply ze;iterate 5 exact rfl)|refine yp ?_|refine ak ?_|refine ai ?_|refine yt ?_ ?_|refine yo ?_|apply zn|refine yc ?_|exact rfl|intro _)
  refine fin rfl ?_;simp only[bN,hinv];rfl
theorem Un (l:List aa) (hl:aS aa.al l<=4000000) (hb:∀e∈l,∀x∈e.aH,dz x):yI [.x (aa.ls .n l)]=some ⟨[.one (af.ls .y (j6 l))],[]⟩:=by
 have hlen:=dA aa.al l;have gq:(l.flatMap aa.aH).length<=4000000:=by
  rw[List.flatMap_def];exact eQ (IH (g:=aa.al) (fun e=>by unfold aa.al;omega) l) hl
 have sx:∀x∈l.flatMap aa.aH,dz x:=fun x hx=>by
  obtain⟨e,he,hx⟩:=uE.1 hx;exact hb e he x hx
 (refine aP rfl ?_;show Ev ael.code _ _ _)
 repeat' (first|refine ak ?_|refine ai ?_|refine yt ?_ ?_|refine yo ?_|apply zn|refine yc ?_|intro _)
 refine cF (aa.el .n) l (fun i (out:List af)=>[(3,.own ⟨0,0,0⟩ (af.ls .y out)),(6,.x (aa.ls .n l)),(7,.x (iT (l.map (aa.el .n)).length)),(8,.x (iT i))]) (fun i out=>out=((l.take i).map aa.aH).flatten) [] (by simp) rfl ?_ ?_
 ·rintro i out e hx aF hc _ hinv ih;have eN:=En (f:=aa.aH) hx;rw[<-List.flatMap_def]at eN;have dJ:(out.map (af.el .y)).length+(e.aH.map (af.el .n)).length<cQ:=by
   rw[cL,cL,hinv];unfold cQ;rw[<-List.flatMap_def]at eN⊢;omega
  repeat' (first|refine yi (aa.el .n e) (bH hx) ?_|(apply L8;(iterate 8 exact rfl);exact(dJ);exact rfl;exact rfl)|refine ak ?_|refine ai ?_|refine yt ?_ ?_|refine yo ?_|apply zn|refine yc ?_|intro _)
  refine ih (out++e.aH) (by rw[hinv,Eo hx]) _ _ ?_;rw[bU (by omega),af.ls,kh];rfl
 ·rintro out hc _ hinv;rw[eD,<-List.flatMap_def]at hinv;have iC:out.length<=4194304:=by rw[hinv];omega
  repeat' (first|refine yw Ad (Um out iC (hinv▸sx)) (tc rfl (cm (fun _=>rfl) _)) ?_|refine ak ?_|refine ai ?_|refine yt ?_ ?_|refine yo ?_|apply zn|refine yc ?_|intro _)
  exact fin rfl (by rw[j6,<-hinv])
def qH (r:au):List af:=if r.ok then j6 r.bV else[]
theorem BX {l:List aa} (h:kI l=true) {e:aa} (he:e∈l):e.ok=true:=by
 obtain⟨i,hi⟩:=gZ.1 he;have:=Zm.1 h i (bt.1 hi).1;simp only[qZ,hi,Y8]at this;exact this.1
theorem GZ {e:aa} (h:e.ok=true):fB e.aH=true:=by
 simp only[aa.ok,Y8]at h;exact h.1.1.2
theorem Cr {s:List af} (h:fB s=true):∀x∈s,dz x:=fun x hx=>by
 have:=Cq h hx;unfold dz;omega
theorem Ov {l:List aa} (h:kI l=true):∀e∈l,∀x∈e.aH,dz x:=fun e he=>Cr (GZ (BX h he))
theorem Cm {r:au} (h:r.ok=true):kI r.bV=true:=by
 simp only[au.ok,Y8]at h;exact h.2
theorem atv (r:au) (hl:r.al<=4000000):N4 [.st (r.cs .n)]=some ⟨[.one (af.ls .y (qH r))],[]⟩:=by
 have hb:r.ok=true->∀e∈r.bV,∀x∈e.aH,dz x:=fun h=>Ov (Cm h);have dy:aS aa.al r.bV<=4000000:=hl;cases h:r.ok with
 |false=>
  have hr:=LR r hl;rw[h]at hr;have h1:(!false)=true:=rfl
  (refine aP rfl ?_;show Ev TH.code _ _ _)
  repeat' (first|refine yk CW (hr) ?_|refine ak ?_|refine ai ?_|refine yt ?_ ?_|refine yo ?_|apply zn|refine yc ?_|intro _)
  exact fin rfl (by rw[qH,h];rfl)
 |true=>
  have hr:=LR r hl;rw[h]at hr;have h1:(!true)=false:=rfl
  (refine aP rfl ?_;show Ev TH.code _ _ _)
  repeat' (first|refine yk CW (hr) ?_|refine yk Ae (Un r.bV dy (hb h)) ?_|refine ak ?_|refine ai ?_|refine yt ?_ ?_|refine yo ?_|apply zn|refine yc ?_|intro _)
  exact fin rfl (by rw[qH,h];rfl)
structure Ig (i:Nat) (p:kS):Prop where
 len:p.out.length<=2*i
 hi:dz p.x
theorem Zj7 {i:Nat}{p:kS}{y:af} (h:Ig i p) (hy:dz y):Ig (i+1) (iS p y):=by
 have h1:=h.len;have h2:=h.hi;unfold iS dz at*;split
 ·exact⟨by simp;omega,h2⟩
 ·split
  ·split
   ·exact⟨by simp;omega,h2⟩
   ·exact⟨by simp;omega,h2⟩
  ·refine⟨by simp only;omega,?_⟩;unfold dz;simp only;omega
theorem Zem {ob:Ob} (l:List af) (x y:af):af.ls ob (l++[x,y])=.l ob 2 (l.map (af.el ob)++[af.el ob x]++[af.el ob y]):=by rw[af.ls,kh,gY];rfl
theorem afy (s:List af) (x:af) (hl:s.length<=4194304) (hb:∀y∈s,dz y) (hx:dz x):DT [.x (af.ls .n s),.st (x.cs .n)]=some ⟨[.one (af.ls .y (gh s x))],[]⟩:=by
 (refine aP rfl ?_;show Ev ac6.code _ _ _)
 repeat' (first|refine ak ?_|refine ai ?_|refine yt ?_ ?_|refine yo ?_|apply zn|refine yc ?_|intro _)
 refine cF (af.el .n) s (fun i (p:kS)=>[(0,.x (af.ls .n s)),(3,.box ⟨0,0,0⟩ (p.x.cs .n)),(5,.own ⟨0,0,0⟩ (af.ls .y p.out)),(6,.x (.b p.done)),(7,.x (iT i))]) (fun i p=>p=(s.take i).foldl iS ⟨[],false,x⟩/\Ig i p) ⟨[],false,x⟩ ⟨rfl,by simp,hx⟩ rfl ?_ ?_
 ·rintro i p y hy aF hc _ ⟨hinv,hr⟩ ih;have KD:=hb y (cS hy);have vM:iS p y=(s.take (i+1)).foldl iS ⟨[],false,x⟩/\Ig (i+1) (iS p y):=⟨by rw[hinv,B4 hy],Zj7 hr KD⟩
  have iC:=hr.len;have fQ:=hr.hi;have lm:IntKind.i64.wrap (y.Hi+1)=y.Hi+1:=dQ (by unfold dz at KD;omega);have AT:IntKind.i64.wrap (p.x.Hi+1)=p.x.Hi+1:=dQ (by unfold dz at fQ;omega);have dJ:∀z:af,(p.out.map (af.el .y)).length+([z].map (af.el .n)).length<cQ:=fun z=>by simp[cQ];omega
  have vw:(p.out.map (af.el .y)++[af.el .y p.x]).length+([y].map (af.el .n)).length<cQ:=by simp[cQ];omega
  repeat' (first|refine yi (af.el .n y) (bH hy) ?_|refine yk ko (qG _ _) ?_|refine yk ri (Hd _ _) ?_|(apply zv;(iterate 7 exact rfl);exact(dJ _);exact(rfl);exact rfl;exact rfl)|(apply zv;(iterate 7 exact rfl);exact(vw);exact(rfl);exact rfl;exact rfl)|refine ak ?_|refine ai ?_|refine yt ?_ ?_|refine yo ?_|apply zn|refine yc ?_|intro _)
  ·rename_i h;rw[lm]at h;have hn:=vM;rw[iS,if_pos (of_decide_eq_true h)]at hn;refine ih _ hn _ _ ?_;rw[bU (by omega),EI];rfl
  ·rename_i h h2 h3;rw[lm]at h;rw[AT]at h2;have Kw:p.done=false:=by simpa using h3
   have hn:=vM;rw[iS,if_neg (of_decide_eq_false h),if_pos (of_decide_eq_true h2),Kw]at hn;refine ih _ hn _ _ ?_;rw[bU (by omega),if_neg (by simp),Zem];rfl
  ·rename_i h h2 h3;rw[lm]at h;rw[AT]at h2;have Kw:p.done=true:=by simpa using h3
   have hn:=vM;rw[iS,if_neg (of_decide_eq_false h),if_pos (of_decide_eq_true h2),Kw]at hn;refine ih _ hn _ _ ?_;rw[bU (by omega),if_pos rfl,EI,Kw];rfl
  ·rename_i h h2;rw[lm]at h;rw[AT]at h2;have hn:=vM;rw[iS,if_neg (of_decide_eq_false h),if_neg (of_decide_eq_false h2)]at hn;refine ih _ hn _ _ ?_;rw[bU (by omega)];rfl
 ·rintro p hc _ ⟨hinv,hr⟩;rw[eD]at hinv;have iC:=hr.len;have dJ:∀z:af,(p.out.map (af.el .y)).length+([z].map (af.el .n)).length<cQ:=fun z=>by simp[cQ];omega
  have mo:gh s x=if p.done then p.out else p.out++[p.x]:=by rw[hinv];rfl
  repeat' (first|(apply zv;(iterate 7 exact rfl);exact(dJ _);exact(rfl);exact rfl;exact rfl)|refine ak ?_|refine ai ?_|refine yt ?_ ?_|refine yo ?_|apply zn|refine yc ?_|intro _)
  ·rename_i h;have h':p.done=false:=by simpa using h
   rw[mo,h',if_neg (by simp),EI];exact fin rfl (by simp only[bN];rfl)
  ·rename_i h;have h':p.done=true:=by simpa using h
   rw[mo,h',if_pos rfl];exact fin rfl (by simp only[bN])
theorem Zj4 {p:kS}{y:af} (ho:∀z∈p.out,dz z) (hx:dz p.x) (hy:dz y):(∀z∈(iS p y).out,dz z)/\dz (iS p y).x:=by
 unfold iS;split
 ·exact⟨by simpa[or_imp,forall_and]using⟨ho,hy⟩,hx⟩
 ·split
  ·split
   ·exact⟨by simpa[or_imp,forall_and]using⟨ho,hy⟩,hx⟩
   ·exact⟨by simpa[or_imp,forall_and]using⟨ho,hx,hy⟩,hx⟩
  ·refine⟨ho,?_⟩;unfold dz at*;simp only;omega
theorem XG:∀{s:List af}{p:kS},(∀y∈s,dz y)->(∀z∈p.out,dz z)->dz p.x->(∀z∈(s.foldl iS p).out,dz z)/\dz (s.foldl iS p).x
 |[],p,_,ho,hx=>⟨ho,hx⟩
 |y::s,p,hs,ho,hx=>by
  have h:=Zj4 ho hx (hs y fe);exact XG (s:=s) (fun z hz=>hs z (fJ _ hz)) h.1 h.2
theorem XI {s:List af}{x:af} (hs:∀y∈s,dz y) (hx:dz x):∀z∈gh s x,dz z:=by
 have h:=XG (p:=⟨[],false,x⟩) hs (by simp) hx;unfold gh;simp only;split
 ·exact h.1
 ·simpa[or_imp,forall_and]using h
theorem Zj5 (p:kS) (y:af):(iS p y).out.length+(bif (iS p y).done then 0 else 1)<=p.out.length+(bif p.done then 0 else 1)+1:=by
 unfold iS;split
 ·simp;omega
 ·split
  ·split
   ·rename_i h;simp[h]
   ·rename_i h;simp[h]
  ·simp
theorem Zip:∀(s:List af) (p:kS),(s.foldl iS p).out.length+(bif (s.foldl iS p).done then 0 else 1)<=p.out.length+(bif p.done then 0 else 1)+s.length
 |[],p=>by simp
 |y::s,p=>by
  have h:=Zip s (iS p y);have h2:=Zj5 p y;simp only[qP,dH];omega
theorem XJ (s:List af) (x:af):(gh s x).length<=s.length+1:=by
 have h:=Zip s ⟨[],false,x⟩;simp only[p7,cond_false]at h;unfold gh;simp only;split
 ·rename_i h2;rw[h2,cond_true]at h;omega
 ·rename_i h2;rw[yR.2 h2,cond_false]at h;rw[jR,List.length_singleton];omega
theorem OT:∀{b a:List af},(∀y∈a,dz y)->(∀y∈b,dz y)->∀z∈jA a b,dz z
 |[],a,ha,_=>ha
 |x::b,a,ha,hb=>OT (b:=b) (a:=gh a x) (XI ha (hb x fe)) fun y hy=>hb y (fJ _ hy)
theorem OU:∀(b a:List af),(jA a b).length<=a.length+b.length
 |[],a=>by simp[jA]
 |x::b,a=>by
  have h1:=OU b (gh a x);have h2:=XJ a x;simp only[jA,qP,dH]at h1⊢;omega
theorem Uc (a b:List af) (hl:a.length+b.length<=4194304) (ha:∀y∈a,dz y) (hb:∀y∈b,dz y):DU [.x (af.ls .n a),.x (af.ls .n b)]=some ⟨[.one (af.ls .y (jA a b))],[]⟩:=by
 (refine aP rfl ?_;show Ev ac7.code _ _ _)
 repeat' (first|refine yk zX (Ub a (by omega)) ?_|refine ak ?_|refine ai ?_|refine yt ?_ ?_|refine yo ?_|apply zn|refine yc ?_|intro _)
 refine cF (af.el .n) b (fun i (o:List af)=>[(1,.x (af.ls .n b)),(5,.own ⟨0,0,0⟩ (af.ls .y o)),(6,.x (iT i))]) (fun i o=>o=jA a (b.take i)) a rfl rfl ?_ ?_
 ·rintro i o y hy aF hc _ hinv ih;have dp:=OU (b.take i) a;rw[<-hinv,fU]at dp;have jx:∀z∈o,dz z:=hinv▸OT ha fun z hz=>hb z (s9 hz)
  repeat' (first|refine yi (af.el .n y) (bH hy) ?_|refine yw FH (afy o y (by omega) jx (hb y (cS hy))) (tc rfl (cm (fun _=>rfl) _)) ?_|refine ak ?_|refine ai ?_|refine yt ?_ ?_|refine yo ?_|apply zn|refine yc ?_|intro _)
  refine ih (gh o y) ?_ _ _ ?_
  ·rw[hinv,jA,jA,B4 hy]
  ·rw[bU (by omega)];rfl
 ·rintro o hc _ hinv;rw[eD]at hinv
  repeat' (first|refine ak ?_|refine ai ?_|refine yt ?_ ?_|refine yo ?_|apply zn|refine yc ?_|intro _)
  exact fin rfl (by simp only[bN,hinv])
def qI (r:au):List af:=if r.ok then r.bV.foldl (fun o e=>jA o e.aH) [] else[]
theorem OV:∀{l:List aa}{a:List af},(∀e∈l,∀x∈e.aH,dz x)->(∀y∈a,dz y)->∀z∈l.foldl (fun o e=>jA o e.aH) a,dz z
 |[],a,_,ha=>ha
 |e::l,a,hl,ha=>OV (l:=l) (fun e he=>hl e (fJ _ he)) (OT ha (hl e fe))
theorem EC:∀(l:List aa) (a:List af),(l.foldl (fun o e=>jA o e.aH) a).length<=a.length+(l.map fun e=>e.aH.length).sum
 |[],a=>by simp
 |e::l,a=>by
  have h1:=EC l (jA a e.aH);have h2:=OU e.aH a;simp only[qP,fc,im];omega
theorem IQ (l:List aa):(l.map fun e=>e.aH.length).sum<=aS aa.al l:=by
 unfold aS
 induction l with
 |nil=>simp
 |cons e l ih=>have:e.aH.length<=e.al:=by{unfold aa.al;omega};simp only[fc,im,dH];omega
theorem asB (r:au) (hl:r.al<=4000000):MY [.st (r.cs .n)]=some ⟨[.one (af.ls .y (qI r))],[]⟩:=by
 have mr:=Ua r hl;have dy:aS aa.al r.bV<=4000000:=hl;have hlen:=dA aa.al r.bV;have my:=IQ r.bV;cases h:r.ok with
 |false=>
  rw[h]at mr;have h1:(!false)=true:=rfl
  (refine aP rfl ?_;show Ev Tu.code _ _ _)
  repeat' (first|refine yk CS (mr) ?_|refine ak ?_|refine ai ?_|refine yt ?_ ?_|refine yo ?_|apply zn|refine yc ?_|intro _)
  exact fin rfl (by rw[qI,h];rfl)
 |true=>
  rw[h]at mr;have h1:(!true)=false:=rfl;have hb:=Ov (Cm h)
  (refine aP rfl ?_;show Ev Tu.code _ _ _)
  repeat' (first|refine yk CS (mr) ?_|refine ak ?_|refine ai ?_|refine yt ?_ ?_|refine yo ?_|apply zn|refine yc ?_|intro _)
  refine cF (aa.el .n) r.bV (fun i (o:List af)=>[(1,.box ⟨0,0,0⟩ (r.cs .n)),(3,.own ⟨0,0,0⟩ (af.ls .y o)),(4,.x (iT i))]) (fun i o=>o=(r.bV.take i).foldl (fun o e=>jA o e.aH) []) [] rfl rfl ?_ ?_
  ·rintro i o e hx aF hc _ hinv ih;have dp:=EC (r.bV.take i) [];have Gv:=uP (f:=fun e:aa=>e.aH.length) hx;have Gw:=w8 (f:=fun e:aa=>e.aH.length) (l:=r.bV) (i:=i+1);have SD:o.length+e.aH.length<=4194304:=by
    unfold aS at Gw;rw[<-hinv]at dp;simp only[pre,p7]at dp Gv Gw;omega
   have jx:∀z∈o,dz z:=hinv▸OV (fun e he=>hb e (s9 he)) (by simp)
   repeat' (first|refine yi (aa.el .n e) (bH hx) ?_|refine yw zY (Uc o e.aH SD jx (hb e (cS hx))) (tc rfl (cm (fun _=>rfl) _)) ?_|refine ak ?_|refine ai ?_|refine yt ?_ ?_|refine yo ?_|apply zn|refine yc ?_|intro _)
   refine ih (jA o e.aH) ?_ _ _ ?_
   ·rw[hinv,B4 (f:=fun o (e:aa)=>jA o e.aH) hx]
   ·rw[bU (by omega)];rfl
  ·rintro o hc _ hinv;rw[eD]at hinv
   repeat' (first|refine ak ?_|refine ai ?_|refine yt ?_ ?_|refine yo ?_|apply zn|refine yc ?_|intro _)
   exact fin rfl (by simp only[bN,hinv,qI,h,if_true])
def fo (x:af):Prop:=0<=x.Lo/\x.Lo<=x.Hi/\x.Hi<=9999
def sO (x:af) (a:Int):Int:=max (min x.Hi (100*a+60)-max x.Lo (100*a+1)+1) 0
theorem Jb (s:List af) (a:Int):jK s a=(s.map fun x=>sO x a).sum:=rfl
theorem Xg (x:af) (a:Int):0<=sO x a/\sO x a<=60:=by unfold sO;omega
theorem EL:∀(s:List af) (a:Int),0<=jK s a/\jK s a<=60*s.length
 |[],a=>by simp[jK]
 |x::s,a=>by
  have h1:=EL s a;have h2:=Xg x a;rw[Jb]at h1⊢;simp only[fc,im,dH];omega
theorem Zgk {s:List af}{i:Nat}{x:af}{a:Int} (h:s[i]?=some x):jK (s.take (i+1)) a=jK (s.take i) a+sO x a:=by
 rw[Jb,Jb,mb,h];simp
theorem T9 (s:List af) (a:Int) (hl:s.length<=4194304) (ha:0<=a/\a<=2) (hb:∀x∈s,fo x):DQ [.x (af.ls .n s),.x (iT a)]=some ⟨[.one (iT (jK s a))],[]⟩:=by
 have w1:IntKind.i64.wrap (100*a)=100*a:=dQ (by omega);have w2:IntKind.i64.wrap (100*a+1)=100*a+1:=dQ (by omega);have w3:IntKind.i64.wrap (100*a+60)=100*a+60:=dQ (by omega)
 (refine aP rfl ?_;show Ev ac1.code _ _ _)
 repeat' (first|refine ak ?_|refine ai ?_|refine yt ?_ ?_|refine yo ?_|apply zn|refine yc ?_|intro _)
 refine cF (af.el .n) s (fun i (n:Int)=>[(0,.x (af.ls .n s)),(1,.x (iT a)),(5,.x (iT n)),(6,.x (iT i))]) (fun i n=>n=jK (s.take i) a) 0 rfl rfl ?_ ?_
 ·rintro i n x hx aF hc _ hinv ih;have rq:=hb x (cS hx);have h1:=EL (s.take i) a;have h2:=Xg x a;rw[fU]at h1
  repeat' (first|refine yi (af.el .n x) (bH hx) ?_|refine yk ko (qG _ _) ?_|refine yk ri (Hd _ _) ?_|refine ak ?_|refine ai ?_|refine yt ?_ ?_|refine yo ?_|apply zn|refine yc ?_|intro _)
  refine ih _ rfl _ _ ?_;have w4:IntKind.i64.wrap (min x.Hi (100*a+60)-max x.Lo (100*a+1))=min x.Hi (100*a+60)-max x.Lo (100*a+1):=dQ (by unfold fo at rq;omega);have w5:IntKind.i64.wrap (min x.Hi (100*a+60)-max x.Lo (100*a+1)+1)=min x.Hi (100*a+60)-max x.Lo (100*a+1)+1:=dQ (by unfold fo at rq;omega);have w6:IntKind.i64.wrap (n+max (min x.Hi (100*a+60)-max x.Lo (100*a+1)+1) 0)=jK (s.take (i+1)) a:=by
   rw[Zgk hx,hinv,dQ (by unfold sO at h2;omega)];rfl
  rw[w1,w2,w3,w4,w5,w6,bU (by omega)];rfl
 ·rintro n hc _ hinv;rw[eD]at hinv
  repeat' (first|refine ak ?_|refine ai ?_|refine yt ?_ ?_|refine yo ?_|apply zn|refine yc ?_|intro _)
  exact fin rfl (by rw[hinv])
def mE (a:Int) (x:af):af:=⟨100*a+x.Lo,100*a+x.Hi⟩
def fH (l:List aD) (a:Nat):List af:=match l with
 |[]=>[]
 |s::l=>s.bK.map (mE a)++fH l (a+1)
theorem ZC:∀(l:List aD) (a:Nat) (s:aD),fH (l++[s]) a=fH l a++s.bK.map (mE ((a+l.length:Nat):Int))
 |[],a,s=>by simp[fH]
 |t::l,a,s=>by
  simp only[gf,fH,ZC l (a+1) s,gY,dH];rw[show a+1+l.length=a+(l.length+1) by omega]
theorem ZD {l:List aD}{i:Nat}{s:aD} (h:l[i]?=some s):fH (l.take (i+1)) 0=fH (l.take i) 0++s.bK.map (mE i):=by
 have hi:=(bt.1 h).1;rw[mb,h,Option.toList_some,ZC,fU,Nat.min_eq_left (by omega)];simp
theorem Cv:∀(l:List aD) (a:Nat),(fH l a).length<=aS aD.al l
 |[],a=>by simp[fH]
 |s::l,a=>by
  have:=Cv l (a+1);unfold aS at this⊢;simp only[fH,jR,cL,fc,im,dH,aD.al]at this⊢;omega
def N9 (l:List aD):Prop:=l.length=3/\∀s∈l,∀x∈s.bK,1<=x.Lo/\x.Lo<=x.Hi/\x.Hi<=60
theorem Cw:∀{l:List aD}{a:Nat},(∀s∈l,∀x∈s.bK,1<=x.Lo/\x.Lo<=x.Hi/\x.Hi<=60)->a+l.length<=3->∀x∈fH l a,fo x
 |[],a,_,_=>by simp[fH]
 |s::l,a,h,ha=>fun x hx=>by
  simp only[fH,kF,jt]at hx;simp only[dH]at ha;rcases hx with⟨y,hy,rfl⟩|hx
  ·have:=h s fe y hy;unfold fo mE;simp only;omega
  ·exact Cw (l:=l) (fun s hs=>h s (fJ _ hs)) (by omega) x hx
theorem fo.hi {x:af} (h:fo x):dz x:=by unfold fo dz at*;omega
theorem Pk:∀{l o:List af},(∀y∈o,dz y)->(∀y∈l,dz y)->∀z∈l.foldl gh o,dz z
 |[],o,ho,_=>ho
 |x::l,o,ho,hl=>Pk (l:=l) (o:=gh o x) (XI ho (hl x fe)) fun y hy=>hl y (fJ _ hy)
theorem Js:∀(l o:List af),(l.foldl gh o).length<=o.length+l.length
 |[],o=>by simp
 |x::l,o=>by
  have h1:=Js l (gh o x);have h2:=XJ o x;simp only[qP,dH];omega
theorem asG (h:aA) (hl:h.al<=4000000) (hs:N9 h.bp):M5 [.st (h.cs .n)]=some ⟨[.one (af.ls .y ((fH h.bp 0).foldl gh []))],[]⟩:=by
 have jd:aS aD.al h.bp<=4000000:=by unfold aA.al at hl;omega
 have K5:=Cv h.bp 0;have oO:∀i,∀x∈fH (h.bp.take i) 0,fo x:=fun i=>Cw (fun s h2=>hs.2 s (s9 h2)) (by rw[fU,hs.1];omega)
 (refine aP rfl ?_;show Ev adj.code _ _ _)
 repeat' (first|refine ak ?_|refine ai ?_|refine yt ?_ ?_|refine yo ?_|apply zn|refine yc ?_|intro _)
 refine cF (aD.el .n) h.bp (fun i (o:List af)=>[(1,.box ⟨0,0,0⟩ (h.cs .n)),(3,.own ⟨0,0,0⟩ (af.ls .y o)),(4,.x (iT i))]) (fun i o=>o=(fH (h.bp.take i) 0).foldl gh []) [] rfl rfl ?_ ?_
 ·rintro i o s hx aF hc _ hinv ih;have hr:=hs.2 s (cS hx);have tU:(i:Int)<=2:=by have:=hs.1;omega
  have fg:s.bK.length<=4000000:=eQ (gk (f:=aD.al) hx) jd;have hol:o.length<=4000000:=by
   rw[hinv];refine eQ (Js _ _) ?_;have:=Cv (h.bp.take i) 0;have h4:=w8 (f:=aD.al) (l:=h.bp) (i:=i);unfold aS at this;unfold pre at h4;rw[fU]at this;simp only[p7];omega
  have hoh:∀y∈o,dz y:=hinv▸Pk (by simp) fun y hy=>(oO i y hy).hi;have w1:IntKind.i64.wrap (100*(i:Int))=100*i:=dQ (by omega);have jZ:0<=(i:Int):=pY i
  repeat' (first|refine yi (aD.el .n s) (bH hx) ?_|refine ak ?_|refine ai ?_|refine yt ?_ ?_|refine yo ?_|apply zn|refine yc ?_|intro _)
  refine cF (af.el .n) s.bK (fun k (o:List af)=>[(1,.box ⟨0,0,0⟩ (h.cs .n)),(3,.own ⟨0,0,0⟩ (af.ls .y o)),(4,.x (iT i)),(5,.x (iT k))]) (fun k o'=>o'=((s.bK.take k).map (mE i)).foldl gh o) o rfl rfl ?_ ?_
  ·rintro k o' x hy kN dx _ cG fZ;have fQ:=hr x (cS hy);have anW:o'.length<=4194304:=by
    have h1:=Js ((s.bK.take k).map (mE i)) o;have h2:=Js (fH (h.bp.take i) 0) [];have h3:=Cv (h.bp.take i) 0;have h4:=w8 (f:=aD.al) (l:=h.bp) (i:=i+1);have h5:=uP (f:=aD.al) hx;rw[<-cG,cL,fU]at h1;rw[<-hinv]at h2;unfold aS at h3;unfold pre at h4 h5;unfold aD.al at h5;rw[fU]at h3;simp only[p7]at h2;unfold aD.al at h3 h4 jd;omega
   have anV:∀y∈o',dz y:=by
    rw[cG];refine Pk hoh fun y hy=>?_;obtain⟨z,hz,rfl⟩:=jt.1 hy;have:=hr z (s9 hz);unfold dz mE;simp only;omega
   have AP:dz (mE i x):=by unfold dz mE;simp only;omega
   have w2:IntKind.i64.wrap (100*(i:Int)+x.Lo)=100*i+x.Lo:=dQ (by omega);have w3:IntKind.i64.wrap (100*(i:Int)+x.Hi)=100*i+x.Hi:=dQ (by omega);have mo:DT [.x (af.ls .n o'),.st [iT (IntKind.i64.wrap (IntKind.i64.wrap (100*(i:Int))+x.Lo)),iT (IntKind.i64.wrap (IntKind.i64.wrap (100*(i:Int))+x.Hi))]]=some ⟨[.one (af.ls .y (gh o' (mE i x)))],[]⟩:=by
    rw[w1,w2,w3];exact afy o' (mE i x) anW anV AP
   repeat' (first|refine yi (aD.el .n s) (bH hx) ?_|refine yi (af.el .n x) (bH hy) ?_|refine yw FH (mo) (tc rfl (cm (fun _=>rfl) _)) ?_|refine ak ?_|refine ai ?_|refine yt ?_ ?_|refine yo ?_|apply zn|refine yc ?_|intro _)
   refine fZ (gh o' (mE i x)) ?_ _ _ ?_
   ·rw[cG,km hy,List.foldl_append];rfl
   ·rw[bU (by omega)];rfl
  ·rintro o' dx _ cG;rw[eD]at cG
   repeat' (first|refine yi (aD.el .n s) (bH hx) ?_|refine ak ?_|refine ai ?_|refine yt ?_ ?_|refine yo ?_|apply zn|refine yc ?_|intro _)
   refine ih o' ?_ _ _ ?_
   ·rw[cG,hinv,ZD hx,List.foldl_append]
   ·rw[bU (by omega)];rfl
 ·rintro o hc _ hinv;rw[eD]at hinv
  repeat' (first|refine ak ?_|refine ai ?_|refine yt ?_ ?_|refine yo ?_|apply zn|refine yc ?_|intro _)
  exact fin rfl (by simp only[bN,hinv])
end Go.Wr

