/-
  What is proved: lemmas for the laws. No condition.
-/
import Derived.Test.YtbghjecopkbhlaaGreatQc
import Derived.Test.YtbghjecopkbhlaaGreatPb
import Derived.Test.YtbghjecopkbhlaaGreatTa
set_option linter.unusedVariables false
set_option linter.unusedSimpArgs false
namespace Go.Wr
set_option maxRecDepth 20000
theorem kA {b:Bool} (h:(!b)=true):b=false:=by cases b with|false=>rfl|true=>cases h
theorem ew {b:Bool} (h:(!b)=false):b=true:=by cases b with|false=>cases h|true=>rfl
theorem Zo6 {s:aD} (hl:s.al<=4000000):s.bK.length<=4194304:=by unfold aD.al at hl;omega
theorem Ui (s:List af) (hl:s.length<=4194304):Nb [.x (af.ls .n s)]=some ⟨[.one (iT (F9 s))],[]⟩:=by
 rcases Nat.eq_zero_or_pos s.length with h0|h0
 ·obtain rfl:=List.eq_nil_of_length_eq_zero h0;have h3:(((([]:List af).map (af.el .n)).length:Int)==0)=true:=rfl
  (refine aP rfl ?_;show Ev Tv.code _ _ _)
  repeat' (first|refine ak ?_|refine ai ?_|refine yt ?_ ?_|refine yo ?_|apply zn|refine yc ?_|intro _)
  exact fin rfl rfl
 ·have h2:(((s.map (af.el .n)).length:Int)==0)=false:=by
   have:((s.length:Int)==0)=false:=by rw[beq_eq_false_iff_ne];omega
   rwa [cL]
  have hb:=bF (show s.length-1<s.length by omega);generalize s[s.length-1]'_=b at hb;have hk:IntKind.i64.wrap (((s.map (af.el .n)).length:Int)-1)=((s.length-1:Nat):Int):=by rw[cL,dQ (by omega)];omega
  have kM:0<=IntKind.i64.wrap (((s.map (af.el .n)).length:Int)-1):=by rw[hk];omega
  have mX:(s.map (af.el .n))[(IntKind.i64.wrap (((s.map (af.el .n)).length:Int)-1)).toNat]?=some (af.el .n b):=by rw[hk];exact bH hb
  (refine aP rfl ?_;show Ev Tv.code _ _ _)
  repeat' (first|refine yj (af.el .n b) (kM) (mX) ?_|refine ak ?_|refine ai ?_|refine yt ?_ ?_|refine yo ?_|apply zn|refine yc ?_|intro _)
  refine fin rfl (mC ?_);rw[F9,List.getLast?_eq_getElem?,hb]
theorem YJ {x:bm} (h:x.al<=4194304):x.ca.length<=4194304/\x.bX.length<=4194304/\x.Rows.length<=4194304/\∀(i:Nat) r,x.Rows[i]?=some r->r.length<=4194304:=by
 have h1:=dA List.length x.Rows;unfold bm.al at h;refine⟨by omega,by omega,by omega,fun i r hr=>?_⟩;have:=gk (f:=List.length) hr;omega
theorem afj (x:bm) (hl:x.al<=4194304):Ht [.st (x.cs .n)]=some ⟨[.st (x.cs .y)],[]⟩:=by
 obtain⟨h1,h2,h3,h4⟩:=YJ hl
 (refine aP rfl ?_;show Ev abY.code _ _ _)
 repeat' (first|refine yk qn (DA x.ca h1) ?_|refine yk qn (DA x.bX h2) ?_|refine ak ?_|refine ai ?_|refine yt ?_ ?_|refine yo ?_|apply zn|refine yc ?_|intro _)
 refine cF (ints .n) x.Rows (fun i (es:List T)=>[(1,.box ⟨0,0,0⟩ (x.cs .n)),(2,.box ⟨0,0,0⟩ [iT 0,iT 0,iT 0,iT 0,.l .y 1 [],.l .y 1 [],.l .y 1 []]),(3,.box ⟨0,0,0⟩ [iT x.Count,iT x.Sum,iT x.Min,iT x.Max,ints .y x.ca,ints .y x.bX,.l .y 1 es]),(17,.x (kg.lss .n x.Rows)),(18,.x (iT (x.Rows.map (ints .n)).length)),(19,.x (iT i))]) (fun i es=>es=(x.Rows.take i).map (ints .y)) [] rfl rfl ?_ ?_
 ·rintro i es r hx aF hc _ hinv ih;have iD:=h4 i r hx;have dJ:es.length+1<cQ:=by
   rw[hinv,cL,fU];unfold cQ;omega
  repeat' (first|refine yi (ints .n r) (bH hx) ?_|refine yk qn (DA r iD) ?_|(apply zV;(iterate 8 exact rfl);exact(dJ);exact(rfl);exact(dJ);exact rfl;exact rfl)|refine ak ?_|refine ai ?_|refine yt ?_ ?_|refine yo ?_|apply zn|refine yc ?_|intro _)
  refine ih (es++[ints .y r]) ?_ _ _ ?_
  ·rw[hinv,km hx]
  ·rw[bU (by omega)];rfl
 ·rintro es hc _ hinv;rw[eD]at hinv;subst hinv
  repeat' (first|refine ak ?_|refine ai ?_|refine yt ?_ ?_|refine yo ?_|apply zn|refine yc ?_|intro _)
  refine fin rfl ?_
  try simp only[bN]
  try rfl
theorem T6 (e:aa) (hl:e.al<=4194304):DO [.st (e.cs .n)]=some ⟨[.st (e.cs .y)],[]⟩:=by
 have h1:e.aH.length<=4194304:=by unfold aa.al at hl;omega
 have h2:e.aN.al<=4194304:=by unfold aa.al at hl;omega
 (refine aP rfl ?_;show Ev ab0.code _ _ _)
 repeat' (first|refine yk vj (LP e.aH h1) ?_|refine yk Fm (afj e.aN h2) ?_|refine yo ?_|apply zn|refine yc ?_|intro _)
 refine fin rfl ?_
 try simp only[bN]
 try rfl
theorem Uh (s:aD) (hl:s.al<=4000000):BA [.st (s.cs .n)]=some ⟨[.st (s.cs .y)],[]⟩:=by
 have dy:s.bK.length<=4194304:=by simp only[aD.al]at hl;omega
 (refine aP rfl ?_;show Ev adw.code _ _ _)
 repeat' (first|refine yk vj (LP s.bK dy) ?_|refine yo ?_|apply zn|refine yc ?_|intro _)
 refine fin rfl ?_;simp only[bN];rfl
theorem Uj (s:aD) (hl:s.al<=4000000):BE [.st (s.cs .n)]=some ⟨[.st (s.cs .y)],[]⟩:=by
 have dy:s.bK.length<=4194304:=by simp only[aD.al]at hl;omega
 (refine aP rfl ?_;show Ev adM.code _ _ _)
 repeat' (first|refine yk zX (Ub s.bK dy) ?_|refine yo ?_|apply zn|refine yc ?_|intro _)
 refine fin rfl ?_;simp only[bN];rfl
theorem asL (c:bR) (hl:c.dX.length<=4194304):M9 [.st (c.cs .n)]=some ⟨[.st (c.cs .y)],[]⟩:=by
 (refine aP rfl ?_;show Ev ads.code _ _ _)
 repeat' (first|refine yk qn (DA c.dX hl) ?_|refine yo ?_|apply zn|refine yc ?_|intro _)
 refine fin rfl ?_;simp only[bN];rfl
theorem asW (c:bR) (hl:c.dX.length<=4194304):Nl [.st (c.cs .n)]=some ⟨[.st (c.cs .y)],[]⟩:=by
 (refine aP rfl ?_;show Ev adL.code _ _ _)
 repeat' (first|(apply za;(iterate 3 exact rfl);exact(uH hl);exact(rV (fun _=>rfl) _);exact rfl;exact rfl)|refine yo ?_|apply zn|refine yc ?_|intro _)
 refine fin rfl ?_;simp only[bN];rfl
theorem zK:4000000<=4194304:=qM rfl
theorem uN {α:Type}{f:α->Nat}{l:List α}{i n:Nat}{x:α} (hl:aS f l<=n) (h:l[i]?=some x):f x<=n:=eQ (gk h) hl
theorem p9 {α:Type}{f:α->T}{g:α->Nat}{l:List α}{i:Nat}{es:List T} (hl:aS g l<=4000000) (h:es=(l.take i).map f):es.length+1<cQ:=by
 have:=dA g l;rw[h,cL,fU];unfold cQ;omega
theorem Ug (l:List aa) (hl:aS aa.al l<=4000000):DZ [.x (aa.ls .n l)]=some ⟨[.one (aa.ls .y l)],[]⟩:=by
 (refine aP rfl ?_;show Ev adt.code _ _ _)
 repeat' (first|refine ak ?_|refine ai ?_|refine yt ?_ ?_|refine yo ?_|apply zn|refine yc ?_|intro _)
 refine cF (aa.el .n) l (fun i (es:List T)=>[(3,.own ⟨0,0,0⟩ (.l .y 10 es)),(6,.x (aa.ls .n l)),(7,.x (iT (l.map (aa.el .n)).length)),(8,.x (iT i))]) (fun i es=>es=(l.take i).map (aa.el .y)) [] rfl rfl ?_ ?_
 ·rintro i es x hx aF hc _ hinv ih;have hb:=uN hl hx;have dt:=eQ hb zK;have n1:=dA aa.al l;have dJ:=p9 hl hinv
  repeat' (first|refine yi (aa.el .n x) (bH hx) ?_|refine yk xu (T6 x dt) ?_|(apply zV;(iterate 8 exact rfl);exact(dJ);exact(rfl);exact(dJ);exact rfl;exact rfl)|refine ak ?_|refine ai ?_|refine yt ?_ ?_|refine yo ?_|apply zn|refine yc ?_|intro _)
  refine ih (es++[aa.el .y x]) ?_ _ _ ?_
  ·rw[hinv,km hx]
  ·rw[bU (by omega)]
   first|rfl|(simp only[oq];rfl)|(simp only[bN];rfl)
 ·rintro es hc _ hinv;rw[eD]at hinv;subst hinv
  repeat' (first|refine ak ?_|refine ai ?_|refine yt ?_ ?_|refine yo ?_|apply zn|refine yc ?_|intro _)
  refine fin rfl ?_
  try simp only[bN]
  try rfl
theorem asM (l:List aC) (hl:aS aC.al l<=4000000):Na [.x (aC.ls .n l)]=some ⟨[.one (aC.ls .y l)],[]⟩:=by
 (refine aP rfl ?_;show Ev adu.code _ _ _)
 repeat' (first|refine ak ?_|refine ai ?_|refine yt ?_ ?_|refine yo ?_|apply zn|refine yc ?_|intro _)
 refine cF (aC.el .n) l (fun i (es:List T)=>[(3,.own ⟨0,0,0⟩ (.l .y 11 es)),(6,.x (aC.ls .n l)),(7,.x (iT (l.map (aC.el .n)).length)),(8,.x (iT i))]) (fun i es=>es=(l.take i).map (aC.el .y)) [] rfl rfl ?_ ?_
 ·rintro i es x hx aF hc _ hinv ih;have hb:=uN hl hx;have dt:=eQ hb zK;have n1:=dA aC.al l;have dJ:=p9 hl hinv
  repeat' (first|refine yi (aC.el .n x) (bH hx) ?_|refine yk xu (T6 x.bg dt) ?_|(apply zV;(iterate 8 exact rfl);exact(dJ);exact(rfl);exact(dJ);exact rfl;exact rfl)|refine ak ?_|refine ai ?_|refine yt ?_ ?_|refine yo ?_|apply zn|refine yc ?_|intro _)
  refine ih (es++[aC.el .y x]) ?_ _ _ ?_
  ·rw[hinv,km hx]
  ·rw[bU (by omega)]
   first|rfl|(simp only[oq];rfl)|(simp only[bN];rfl)
 ·rintro es hc _ hinv;rw[eD]at hinv;subst hinv
  repeat' (first|refine ak ?_|refine ai ?_|refine yt ?_ ?_|refine yo ?_|apply zn|refine yc ?_|intro _)
  refine fin rfl ?_
  try simp only[bN]
  try rfl
theorem afE (r:au) (hl:r.al<=4000000):HO [.st (r.cs .n)]=some ⟨[.st (r.cs .y)],[]⟩:=by
 (refine aP rfl ?_;show Ev adv.code _ _ _)
 repeat' (first|refine yk vg (Ug r.bV hl) ?_|refine yo ?_|apply zn|refine yc ?_|intro _)
 refine fin rfl ?_
 try simp only[bN]
 try rfl
theorem afF (t:aK) (hl:t.al<=4000000):HP [.st (t.cs .n)]=some ⟨[.st (t.cs .y)],[]⟩:=by
 (refine aP rfl ?_;show Ev adx.code _ _ _)
 repeat' (first|refine yk qn (DA t.Left (eQ hl zK)) ?_|refine yo ?_|apply zn|refine yc ?_|intro _)
 refine fin rfl ?_
 try simp only[bN]
 try rfl
theorem IP {h:aA} (hl:h.al<=4000000):aS aD.al h.bp<=4000000/\aS (aS au.al) h.Rows<=4000000/\aS aK.al h.cI<=4000000/\aS aa.al h.aJ<=4000000/\aS aC.al h.bz<=4000000:=by
 unfold aA.al at hl;omega
set_option maxHeartbeats 1000000 in
theorem Hf (h:aA) (hl:h.al<=4000000):BC [.st (h.cs .n)]=some ⟨[.st (h.cs .y)],[]⟩:=by
 obtain⟨eN,dt,lQ,Am,C7⟩:=IP hl;have n1:=dA aD.al h.bp;have n2:=dA (aS au.al) h.Rows;have n3:=dA aK.al h.cI
 (refine aP rfl ?_;show Ev ady.code _ _ _)
 repeat' (first|refine yk Rg (asL h.aT (Is hl)) ?_|refine yk vg (Ug h.aJ Am) ?_|refine yk Rh (asM h.bz C7) ?_|refine ak ?_|refine ai ?_|refine yt ?_ ?_|refine yo ?_|apply zn|refine yc ?_|intro _)
 refine cF (aD.el .n) h.bp (fun i (es:List T)=>[(1,.box ⟨0,0,0⟩ (h.cs .n)),(2,.box ⟨0,0,0⟩ (aA.zero.cs .y)),(3,.box ⟨0,0,0⟩ [iT h.aT.fm,iT h.aT.kx,iT h.aT.iV,ints .y h.aT.dX,iT h.aT.mK,iT h.aT.mL,iT h.aT.mJ,iT h.aT.Still,iT h.kR,.b h.gT,.l .y 5 es,.l .y 1 [],.l .y 3 [],iT h.fT,aa.ls .y h.aJ,aC.ls .y h.bz]),(30,.x (aD.ls .n h.bp)),(31,.x (iT (h.bp.map (aD.el .n)).length)),(32,.x (iT i))]) (fun i es=>es=(h.bp.take i).map (aD.el .y)) [] rfl ?_ ?_ ?_
 ·simp only[bN];rfl
 ·rintro i es x hx aF hc _ hinv ih;have dJ:=p9 eN hinv;have hb:=zB hl hx
  repeat' (first|refine yi (aD.el .n x) (bH hx) ?_|refine yk xw (Uh x hb) ?_|(apply zV;(iterate 8 exact rfl);exact(dJ);exact(rfl);exact(dJ);exact rfl;exact rfl)|refine ak ?_|refine ai ?_|refine yt ?_ ?_|refine yo ?_|apply zn|refine yc ?_|intro _)
  refine ih (es++[aD.el .y x]) ?_ _ _ ?_
  ·rw[hinv,km hx]
  ·rw[bU (by omega)]
   first|rfl|(simp only[oq];rfl)|(simp only[bN];rfl)
 rintro es hc _ hinv;rw[eD]at hinv;subst hinv
 repeat' (first|refine ak ?_|refine ai ?_|refine yt ?_ ?_|refine yo ?_|apply zn|refine yc ?_|intro _)
 refine cF (fun l=>au.ls .n l) h.Rows (fun i (es:List T)=>[(1,.box ⟨0,0,0⟩ (h.cs .n)),(2,.box ⟨0,0,0⟩ (aA.zero.cs .y)),(3,.box ⟨0,0,0⟩ [iT h.aT.fm,iT h.aT.kx,iT h.aT.iV,ints .y h.aT.dX,iT h.aT.mK,iT h.aT.mL,iT h.aT.mJ,iT h.aT.Still,iT h.kR,.b h.gT,aD.ls .y h.bp,.l .y 1 es,.l .y 3 [],iT h.fT,aa.ls .y h.aJ,aC.ls .y h.bz]),(45,.x (au.lss .n h.Rows)),(46,.x (iT (h.Rows.map (fun l=>au.ls .n l)).length)),(47,.x (iT i))]) (fun i es=>es=(h.Rows.take i).map (fun l=>au.ls .y l)) [] rfl rfl ?_ ?_
 ·rintro i es rs hx aF hc _ hinv ih;have dJ:=p9 dt hinv;have dY:=uN dt hx;have n4:=dA au.al rs
  repeat' (first|refine yi (au.ls .n rs) (bH hx) ?_|refine ak ?_|refine ai ?_|refine yt ?_ ?_|refine yo ?_|apply zn|refine yc ?_|intro _)
  refine cF (au.el .n) rs (fun j (fs:List T)=>[(1,.box ⟨0,0,0⟩ (h.cs .n)),(2,.box ⟨0,0,0⟩ (aA.zero.cs .y)),(3,.box ⟨0,0,0⟩ [iT h.aT.fm,iT h.aT.kx,iT h.aT.iV,ints .y h.aT.dX,iT h.aT.mK,iT h.aT.mL,iT h.aT.mJ,iT h.aT.Still,iT h.kR,.b h.gT,aD.ls .y h.bp,.l .y 1 es,.l .y 3 [],iT h.fT,aa.ls .y h.aJ,aC.ls .y h.bz]),(7,.x (au.ls .n rs)),(8,.own ⟨0,0,0⟩ (.l .y 1 fs)),(45,.x (au.lss .n h.Rows)),(46,.x (iT (h.Rows.map (fun l=>au.ls .n l)).length)),(47,.x (iT i)),(51,.x (au.ls .n rs)),(52,.x (iT (rs.map (au.el .n)).length)),(53,.x (iT j))]) (fun j fs=>fs=(rs.take j).map (au.el .y)) [] rfl rfl ?_ ?_
  ·rintro j fs x hy kN dx _ cG fZ;have vw:=p9 dY cG;have hb:=uN dY hy
   repeat' (first|refine yi (au.el .n x) (bH hy) ?_|refine yk Ri (afE x hb) ?_|(apply zV;(iterate 8 exact rfl);exact(vw);exact(rfl);exact(vw);exact rfl;exact rfl)|refine ak ?_|refine ai ?_|refine yt ?_ ?_|refine yo ?_|apply zn|refine yc ?_|intro _)
   refine fZ (fs++[au.el .y x]) ?_ _ _ ?_
   ·rw[cG,km hy]
   ·rw[bU (by omega)]
    first|rfl|(simp only[oq];rfl)|(simp only[bN];rfl)
  ·rintro fs dx _ cG;rw[eD]at cG;subst cG
   repeat' (first|(apply zV;(iterate 8 exact rfl);exact(dJ);exact(rfl);exact(dJ);exact rfl;exact rfl)|refine ak ?_|refine ai ?_|refine yt ?_ ?_|refine yo ?_|apply zn|refine yc ?_|intro _)
   refine ih (es++[au.ls .y rs]) ?_ _ _ ?_
   ·rw[hinv,km hx]
   ·rw[bU (by omega)]
    first|rfl|(simp only[oq];rfl)|(simp only[bN];rfl)
 rintro es hc _ hinv;rw[eD]at hinv;subst hinv
 repeat' (first|refine ak ?_|refine ai ?_|refine yt ?_ ?_|refine yo ?_|apply zn|refine yc ?_|intro _)
 refine cF (aK.el .n) h.cI (fun i (es:List T)=>[(1,.box ⟨0,0,0⟩ (h.cs .n)),(2,.box ⟨0,0,0⟩ (aA.zero.cs .y)),(3,.box ⟨0,0,0⟩ [iT h.aT.fm,iT h.aT.kx,iT h.aT.iV,ints .y h.aT.dX,iT h.aT.mK,iT h.aT.mL,iT h.aT.mJ,iT h.aT.Still,iT h.kR,.b h.gT,aD.ls .y h.bp,au.lss .y h.Rows,.l .y 3 es,iT h.fT,aa.ls .y h.aJ,aC.ls .y h.bz]),(71,.x (aK.ls .n h.cI)),(72,.x (iT (h.cI.map (aK.el .n)).length)),(73,.x (iT i))]) (fun i es=>es=(h.cI.take i).map (aK.el .y)) [] rfl rfl ?_ ?_
 ·rintro i es x hx aF hc _ hinv ih;have dJ:=p9 lQ hinv;have hb:=JP hl hx
  repeat' (first|refine yi (aK.el .n x) (bH hx) ?_|refine yk FL (afF x hb) ?_|(apply zV;(iterate 8 exact rfl);exact(dJ);exact(rfl);exact(dJ);exact rfl;exact rfl)|refine ak ?_|refine ai ?_|refine yt ?_ ?_|refine yo ?_|apply zn|refine yc ?_|intro _)
  refine ih (es++[aK.el .y x]) ?_ _ _ ?_
  ·rw[hinv,km hx]
  ·rw[bU (by omega)]
   first|rfl|(simp only[oq];rfl)|(simp only[bN];rfl)
 rintro es hc _ hinv;rw[eD]at hinv;subst hinv
 repeat' (first|refine ak ?_|refine ai ?_|refine yt ?_ ?_|refine yo ?_|apply zn|refine yc ?_|intro _)
 refine fin rfl ?_
 try simp only[bN]
 try rfl
theorem asV (x:bm) (hl:x.al<=4194304):Nk [.st (x.cs .n)]=some ⟨[.st (x.cs .y)],[]⟩:=by
 obtain⟨h1,h2,h3,h4⟩:=YJ hl
 (refine aP rfl ?_;show Ev adH.code _ _ _)
 repeat' (first|(apply za;(iterate 3 exact rfl);exact(uH h1);exact(rV (fun _=>rfl) _);exact rfl;exact rfl)|(apply za;(iterate 3 exact rfl);exact(uH h2);exact(rV (fun _=>rfl) _);exact rfl;exact rfl)|refine ak ?_|refine ai ?_|refine yt ?_ ?_|refine yo ?_|apply zn|refine yc ?_|intro _)
 refine cF (ints .n) x.Rows (fun i (es:List T)=>[(1,.box ⟨0,0,0⟩ (x.cs .n)),(2,.box ⟨0,0,0⟩ [iT 0,iT 0,iT 0,iT 0,.l .y 1 [],.l .y 1 [],.l .y 1 []]),(3,.box ⟨0,0,0⟩ [iT x.Count,iT x.Sum,iT x.Min,iT x.Max,ints .y x.ca,ints .y x.bX,.l .y 1 es]),(4,.x (iT i))]) (fun i es=>es=(x.Rows.take i).map (ints .y)) [] rfl rfl ?_ ?_
 ·rintro i es r hx aF hc _ hinv ih;have iD:=h4 i r hx;have dJ:es.length+1<cQ:=by
   rw[hinv,cL,fU];unfold cQ;omega
  repeat' (first|refine yi (ints .n r) (bH hx) ?_|(apply za;(iterate 3 exact rfl);exact(uH iD);exact(rV (fun _=>rfl) _);exact rfl;exact rfl)|(apply zV;(iterate 8 exact rfl);exact(dJ);exact(rfl);exact(dJ);exact rfl;exact rfl)|refine ak ?_|refine ai ?_|refine yt ?_ ?_|refine yo ?_|apply zn|refine yc ?_|intro _)
  refine ih (es++[ints .y r]) ?_ _ _ ?_
  ·rw[hinv,km hx]
  ·rw[bU (by omega)];rfl
 ·rintro es hc _ hinv;rw[eD]at hinv;subst hinv
  repeat' (first|refine ak ?_|refine ai ?_|refine yt ?_ ?_|refine yo ?_|apply zn|refine yc ?_|intro _)
  refine fin rfl ?_
  try simp only[bN]
  try rfl
theorem LM (e:aa) (hl:e.al<=4194304):BD [.st (e.cs .n)]=some ⟨[.st (e.cs .y)],[]⟩:=by
 have h1:e.aH.length<=4194304:=by unfold aa.al at hl;omega
 have h2:e.aN.al<=4194304:=by unfold aa.al at hl;omega
 (refine aP rfl ?_;show Ev adI.code _ _ _)
 repeat' (first|refine yk zX (Ub e.aH h1) ?_|refine yk Rp (asV e.aN h2) ?_|refine yo ?_|apply zn|refine yc ?_|intro _)
 refine fin rfl ?_
 try simp only[bN]
 try rfl
theorem afH (r:au) (hl:r.al<=4000000):HS [.st (r.cs .n)]=some ⟨[.st (r.cs .y)],[]⟩:=by
 have hl:aS aa.al r.bV<=4000000:=hl;have n1:=dA aa.al r.bV
 (refine aP rfl ?_;show Ev adJ.code _ _ _)
 repeat' (first|refine ak ?_|refine ai ?_|refine yt ?_ ?_|refine yo ?_|apply zn|refine yc ?_|intro _)
 refine cF (aa.el .n) r.bV (fun i (es:List T)=>[(1,.box ⟨0,0,0⟩ (r.cs .n)),(2,.box ⟨0,0,0⟩ [.l .y 10 []]),(3,.box ⟨0,0,0⟩ [.l .y 10 es]),(4,.x (iT i))]) (fun i es=>es=(r.bV.take i).map (aa.el .y)) [] rfl rfl ?_ ?_
 ·rintro i es x hx aF hc _ hinv ih;have dt:=eQ (uN hl hx) zK;have dJ:=p9 hl hinv
  repeat' (first|refine yi (aa.el .n x) (bH hx) ?_|refine yk vh (LM x dt) ?_|(apply zV;(iterate 8 exact rfl);exact(dJ);exact(rfl);exact(dJ);exact rfl;exact rfl)|refine ak ?_|refine ai ?_|refine yt ?_ ?_|refine yo ?_|apply zn|refine yc ?_|intro _)
  refine ih (es++[aa.el .y x]) ?_ _ _ ?_
  ·rw[hinv,km hx]
  ·rw[bU (by omega)]
   first|rfl|(simp only[oq];rfl)|(simp only[bN];rfl)
 ·rintro es hc _ hinv;rw[eD]at hinv;subst hinv
  repeat' (first|refine ak ?_|refine ai ?_|refine yt ?_ ?_|refine yo ?_|apply zn|refine yc ?_|intro _)
  refine fin rfl ?_
  try simp only[bN]
  try rfl
theorem afI (t:aK) (hl:t.al<=4000000):HT [.st (t.cs .n)]=some ⟨[.st (t.cs .y)],[]⟩:=by
 (refine aP rfl ?_;show Ev adK.code _ _ _)
 repeat' (first|(apply za;(iterate 3 exact rfl);exact(uH (eQ hl zK));exact(rV (fun _=>rfl) _);exact rfl;exact rfl)|refine yo ?_|apply zn|refine yc ?_|intro _)
 refine fin rfl ?_
 try simp only[bN]
 try rfl
set_option maxHeartbeats 1000000 in
theorem Dx (h:aA) (hl:h.al<=4000000):wy [.st (h.cs .n)]=some ⟨[.st (h.cs .y)],[]⟩:=by
 obtain⟨eN,dt,lQ,Am,C7⟩:=IP hl;have n1:=dA aD.al h.bp;have n2:=dA (aS au.al) h.Rows;have n3:=dA aK.al h.cI;have n4:=dA aa.al h.aJ;have n5:=dA aC.al h.bz
 (refine aP rfl ?_;show Ev adN.code _ _ _)
 repeat' (first|refine yk Rr (asW h.aT (Is hl)) ?_|refine ak ?_|refine ai ?_|refine yt ?_ ?_|refine yo ?_|apply zn|refine yc ?_|intro _)
 refine cF (aD.el .n) h.bp (fun i (es:List T)=>[(1,.box ⟨0,0,0⟩ (h.cs .n)),(2,.box ⟨0,0,0⟩ (aA.zero.cs .y)),(3,.box ⟨0,0,0⟩ [iT h.aT.fm,iT h.aT.kx,iT h.aT.iV,ints .y h.aT.dX,iT h.aT.mK,iT h.aT.mL,iT h.aT.mJ,iT h.aT.Still,iT h.kR,.b h.gT,.l .y 5 es,.l .y 1 [],.l .y 3 [],iT h.fT,.l .y 10 [],.l .y 11 []]),(4,.x (iT i))]) (fun i es=>es=(h.bp.take i).map (aD.el .y)) [] rfl ?_ ?_ ?_
 ·first|rfl|(simp only[bN];rfl)
 ·rintro i es x hx aF hc _ hinv ih;have dJ:=p9 eN hinv;have hb:=zB hl hx
  repeat' (first|refine yi (aD.el .n x) (bH hx) ?_|refine yk xx (Uj x hb) ?_|(apply zV;(iterate 8 exact rfl);exact(dJ);exact(rfl);exact(dJ);exact rfl;exact rfl)|refine ak ?_|refine ai ?_|refine yt ?_ ?_|refine yo ?_|apply zn|refine yc ?_|intro _)
  refine ih (es++[aD.el .y x]) ?_ _ _ ?_
  ·rw[hinv,km hx]
  ·rw[bU (by omega)]
   first|rfl|(simp only[oq];rfl)|(simp only[bN];rfl)
 rintro es hc _ hinv;rw[eD]at hinv;subst hinv
 repeat' (first|refine ak ?_|refine ai ?_|refine yt ?_ ?_|refine yo ?_|apply zn|refine yc ?_|intro _)
 refine cF (fun l=>au.ls .n l) h.Rows (fun i (es:List T)=>[(1,.box ⟨0,0,0⟩ (h.cs .n)),(2,.box ⟨0,0,0⟩ (aA.zero.cs .y)),(3,.box ⟨0,0,0⟩ [iT h.aT.fm,iT h.aT.kx,iT h.aT.iV,ints .y h.aT.dX,iT h.aT.mK,iT h.aT.mL,iT h.aT.mJ,iT h.aT.Still,iT h.kR,.b h.gT,aD.ls .y h.bp,.l .y 1 es,.l .y 3 [],iT h.fT,.l .y 10 [],.l .y 11 []]),(5,.x (iT i))]) (fun i es=>es=(h.Rows.take i).map (fun l=>au.ls .y l)) [] rfl rfl ?_ ?_
 ·rintro i es rs hx aF hc _ hinv ih;have dJ:=p9 dt hinv;have dY:=uN dt hx;have n6:=dA au.al rs
  repeat' (first|refine yi (au.ls .n rs) (bH hx) ?_|refine ak ?_|refine ai ?_|refine yt ?_ ?_|refine yo ?_|apply zn|refine yc ?_|intro _)
  refine jS (fun j (fs:List T)=>[(1,.box ⟨0,0,0⟩ (h.cs .n)),(2,.box ⟨0,0,0⟩ (aA.zero.cs .y)),(3,.box ⟨0,0,0⟩ [iT h.aT.fm,iT h.aT.kx,iT h.aT.iV,ints .y h.aT.dX,iT h.aT.mK,iT h.aT.mL,iT h.aT.mJ,iT h.aT.Still,iT h.kR,.b h.gT,aD.ls .y h.bp,.l .y 1 es,.l .y 3 [],iT h.fT,.l .y 10 [],.l .y 11 []]),(5,.x (iT i)),(6,.own ⟨0,0,0⟩ (.l .y 1 fs)),(7,.x (iT j))]) (fun j fs=>fs=(rs.take j).map (au.el .y)) rs.length [] rfl rfl fun j fs hj cG fZ=>?_;cases kN:decide ((j:Int)<(rs.map (au.el .n)).length) with
  |true=>
   have fP:j<rs.length:=by simpa using kN
   have hy:=bF fP;generalize rs[j]'_=x at hy;have vw:=p9 dY cG;have hb:=uN dY hy
   repeat' (first|refine yi (au.ls .n rs) (bH hx) ?_|refine yi (au.el .n x) (bH hy) ?_|refine yk Rq (afH x hb) ?_|(apply zV;(iterate 8 exact rfl);exact(vw);exact(rfl);exact(vw);exact rfl;exact rfl)|refine ak ?_|refine ai ?_|refine yt ?_ ?_|refine yo ?_|apply zn|refine yc ?_|intro _)
   refine fZ (fs++[au.el .y x]) fP ?_ _ _ ?_
   ·rw[cG,km hy]
   ·rw[bU (by omega)]
    first|rfl|(simp only[oq];rfl)|(simp only[bN];rfl)
  |false=>
   have fP:j=rs.length:=by
    have:¬j<rs.length:=by simpa using kN
    omega
   rw[fP,eD]at cG;subst cG
   repeat' (first|refine yi (au.ls .n rs) (bH hx) ?_|(apply zV;(iterate 8 exact rfl);exact(dJ);exact(rfl);exact(dJ);exact rfl;exact rfl)|refine ak ?_|refine ai ?_|refine yt ?_ ?_|refine yo ?_|apply zn|refine yc ?_|intro _)
   refine ih (es++[au.ls .y rs]) ?_ _ _ ?_
   ·rw[hinv,km hx]
   ·rw[bU (by omega)]
    first|rfl|(simp only[oq];rfl)|(simp only[bN];rfl)
 rintro es hc _ hinv;rw[eD]at hinv;subst hinv
 repeat' (first|refine ak ?_|refine ai ?_|refine yt ?_ ?_|refine yo ?_|apply zn|refine yc ?_|intro _)
 refine cF (aK.el .n) h.cI (fun i (es:List T)=>[(1,.box ⟨0,0,0⟩ (h.cs .n)),(2,.box ⟨0,0,0⟩ (aA.zero.cs .y)),(3,.box ⟨0,0,0⟩ [iT h.aT.fm,iT h.aT.kx,iT h.aT.iV,ints .y h.aT.dX,iT h.aT.mK,iT h.aT.mL,iT h.aT.mJ,iT h.aT.Still,iT h.kR,.b h.gT,aD.ls .y h.bp,au.lss .y h.Rows,.l .y 3 es,iT h.fT,.l .y 10 [],.l .y 11 []]),(8,.x (iT i))]) (fun i es=>es=(h.cI.take i).map (aK.el .y)) [] rfl rfl ?_ ?_
 ·rintro i es x hx aF hc _ hinv ih;have dJ:=p9 lQ hinv;have hb:=JP hl hx
  repeat' (first|refine yi (aK.el .n x) (bH hx) ?_|refine yk FP (afI x hb) ?_|(apply zV;(iterate 8 exact rfl);exact(dJ);exact(rfl);exact(dJ);exact rfl;exact rfl)|refine ak ?_|refine ai ?_|refine yt ?_ ?_|refine yo ?_|apply zn|refine yc ?_|intro _)
  refine ih (es++[aK.el .y x]) ?_ _ _ ?_
  ·rw[hinv,km hx]
  ·rw[bU (by omega)]
   first|rfl|(simp only[oq];rfl)|(simp only[bN];rfl)
 rintro es hc _ hinv;rw[eD]at hinv;subst hinv
 repeat' (first|refine ak ?_|refine ai ?_|refine yt ?_ ?_|refine yo ?_|apply zn|refine yc ?_|intro _)
 refine cF (aa.el .n) h.aJ (fun i (es:List T)=>[(1,.box ⟨0,0,0⟩ (h.cs .n)),(2,.box ⟨0,0,0⟩ (aA.zero.cs .y)),(3,.box ⟨0,0,0⟩ [iT h.aT.fm,iT h.aT.kx,iT h.aT.iV,ints .y h.aT.dX,iT h.aT.mK,iT h.aT.mL,iT h.aT.mJ,iT h.aT.Still,iT h.kR,.b h.gT,aD.ls .y h.bp,au.lss .y h.Rows,aK.ls .y h.cI,iT h.fT,.l .y 10 es,.l .y 11 []]),(9,.x (iT i))]) (fun i es=>es=(h.aJ.take i).map (aa.el .y)) [] rfl rfl ?_ ?_
 ·rintro i es x hx aF hc _ hinv ih;have dJ:=p9 Am hinv;have hb:=eQ (uN Am hx) zK
  repeat' (first|refine yi (aa.el .n x) (bH hx) ?_|refine yk vh (LM x hb) ?_|(apply zV;(iterate 8 exact rfl);exact(dJ);exact(rfl);exact(dJ);exact rfl;exact rfl)|refine ak ?_|refine ai ?_|refine yt ?_ ?_|refine yo ?_|apply zn|refine yc ?_|intro _)
  refine ih (es++[aa.el .y x]) ?_ _ _ ?_
  ·rw[hinv,km hx]
  ·rw[bU (by omega)]
   first|rfl|(simp only[oq];rfl)|(simp only[bN];rfl)
 rintro es hc _ hinv;rw[eD]at hinv;subst hinv
 repeat' (first|refine ak ?_|refine ai ?_|refine yt ?_ ?_|refine yo ?_|apply zn|refine yc ?_|intro _)
 refine cF (aC.el .n) h.bz (fun i (es:List T)=>[(1,.box ⟨0,0,0⟩ (h.cs .n)),(2,.box ⟨0,0,0⟩ (aA.zero.cs .y)),(3,.box ⟨0,0,0⟩ [iT h.aT.fm,iT h.aT.kx,iT h.aT.iV,ints .y h.aT.dX,iT h.aT.mK,iT h.aT.mL,iT h.aT.mJ,iT h.aT.Still,iT h.kR,.b h.gT,aD.ls .y h.bp,au.lss .y h.Rows,aK.ls .y h.cI,iT h.fT,aa.ls .y h.aJ,.l .y 11 es]),(10,.x (iT i))]) (fun i es=>es=(h.bz.take i).map (aC.el .y)) [] rfl rfl ?_ ?_
 ·rintro i es x hx aF hc _ hinv ih;have dJ:=p9 C7 hinv;have hb:=eQ (uN C7 hx) zK
  repeat' (first|refine yi (aC.el .n x) (bH hx) ?_|refine yk vh (LM x.bg hb) ?_|(apply zV;(iterate 8 exact rfl);exact(dJ);exact(rfl);exact(dJ);exact rfl;exact rfl)|refine ak ?_|refine ai ?_|refine yt ?_ ?_|refine yo ?_|apply zn|refine yc ?_|intro _)
  refine ih (es++[aC.el .y x]) ?_ _ _ ?_
  ·rw[hinv,km hx]
  ·rw[bU (by omega)]
   first|rfl|(simp only[oq];rfl)|(simp only[bN];rfl)
 rintro es hc _ hinv;rw[eD]at hinv;subst hinv
 repeat' (first|refine ak ?_|refine ai ?_|refine yt ?_ ?_|refine yo ?_|apply zn|refine yc ?_|intro _)
 refine fin rfl ?_
 try simp only[bN]
 try rfl
theorem Uk (s:List af) (hl:s.length<=4194304):Nn [.x (af.ls .n s)]=some ⟨[.one (iT (F9 s))],[]⟩:=by
 rcases Nat.eq_zero_or_pos s.length with h0|h0
 ·obtain rfl:=List.eq_nil_of_length_eq_zero h0;have h3:(((([]:List af).map (af.el .n)).length:Int)==0)=true:=rfl
  (refine aP rfl ?_;show Ev Tw.code _ _ _)
  repeat' (first|refine ak ?_|refine ai ?_|refine yt ?_ ?_|refine yo ?_|apply zn|refine yc ?_|intro _)
  exact fin rfl rfl
 ·have h2:(((s.map (af.el .n)).length:Int)==0)=false:=by
   have:((s.length:Int)==0)=false:=by rw[beq_eq_false_iff_ne];omega
   rwa [cL]
  have hb:=bF (show s.length-1<s.length by omega);generalize s[s.length-1]'_=b at hb;have hk:IntKind.i64.wrap (((s.map (af.el .n)).length:Int)-1)=((s.length-1:Nat):Int):=by rw[cL,dQ (by omega)];omega
  have kM:0<=IntKind.i64.wrap (((s.map (af.el .n)).length:Int)-1):=by rw[hk];omega
  have mX:(s.map (af.el .n))[(IntKind.i64.wrap (((s.map (af.el .n)).length:Int)-1)).toNat]?=some (af.el .n b):=by rw[hk];exact bH hb
  (refine aP rfl ?_;show Ev Tw.code _ _ _)
  repeat' (first|refine yj (af.el .n b) (kM) (mX) ?_|refine ak ?_|refine ai ?_|refine yt ?_ ?_|refine yo ?_|apply zn|refine yc ?_|intro _)
  refine fin rfl (mC ?_);rw[F9,List.getLast?_eq_getElem?,hb]
theorem abS {α:Type}{l:List α} (h:l.length=3):∃a b c,l=[a,b,c]:=by
 match l,h with
 |[a,b,c],_=>exact⟨a,b,c,rfl⟩
theorem YC {h:aA} (hl:h.al<=4000000):∀s∈h.bp,s.bK.length<=4194304:=fun s hs=>by
 obtain⟨i,hi⟩:=gZ.1 hs;exact Zo6 (zB hl hi)
theorem ec {c:bR}{n:Int}:(!c.ok|| !bq n 0 20)= !(c.ok&&bq n 0 20):=by cases c.ok<;>simp
theorem kt {c:bR}{n:Int} (h:(c.ok&&bq n 0 20)=true):IntKind.i64.wrap (IntKind.i64.wrap (c.mL*IntKind.i64.wrap (n+1))+c.mJ)=c.mL*(n+1)+c.mJ:=by
 simp only[bR.ok,Y8,bq,decide_eq_true_eq]at h;have h1:0<=c.mL*(n+1):=Int.mul_nonneg (by omega) (by omega);have h2:c.mL*(n+1)<=20*21:=Int.mul_le_mul (by omega) (by omega) (by omega) (by omega);rw[dQ (n:=n+1) (by omega),dQ (n:=c.mL*(n+1)) (by omega),dQ (by omega)]
theorem akr (c:bR) (n:Int) (hl:c.dX.length<=4194304):Ns [.st (c.cs .n),.x (iT n)]=some ⟨[.one (iT (br c n))],[]⟩:=by
 (refine aP rfl ?_;show Ev apj.code _ _ _)
 repeat' (first|refine yy ?_|refine ym ?_|(apply zf;iterate 5 exact rfl)|refine yp ?_|refine yk Kq (atu c hl) ?_|refine yk eL (oV _ _ _) ?_|refine ak ?_|refine ai ?_|refine yt ?_ ?_|refine yo ?_|apply zn|refine yc ?_|exact rfl|intro _)
 ·refine fin rfl (mC ?_);rename_i h;rw[ec]at h;rw[br,if_neg (by rw[kA h];simp)]
 ·rename_i h;rw[ec]at h;refine fin rfl (mC ?_);rw[kt (ew h),br,if_pos (ew h)]
theorem akt (c:bR) (n:Int) (hl:c.dX.length<=4194304):UE [.st (c.cs .n),.x (iT n)]=some ⟨[.one (iT (br c n))],[]⟩:=by
 (refine aP rfl ?_;show Ev apm.code _ _ _)
 repeat' (first|refine yy ?_|refine ym ?_|(apply zf;iterate 5 exact rfl)|refine yp ?_|refine yk Ke (asw c hl) ?_|refine yk eS (pI _ _ _) ?_|refine ak ?_|refine ai ?_|refine yt ?_ ?_|refine yo ?_|apply zn|refine yc ?_|exact rfl|intro _)
 ·refine fin rfl (mC ?_);rename_i h;rw[ec]at h;rw[br,if_neg (by rw[kA h];simp)]
 ·rename_i h;rw[ec]at h;refine fin rfl (mC ?_);rw[kt (ew h),br,if_pos (ew h)]
def ag (c:bR) (clock:Int):aa->Bool:=fun e=>decide (br c e.eo<=clock)
def SL (e:aa):T:=.a [iT e.Key,iT e.eo,.u,iT e.aN.Count,iT e.aN.Sum,iT e.aN.Min,iT e.aN.Max,.u,.u,.u]
structure pU (t:aa->Bool) (h:aA) (i:Nat) (p:List T×List aa×List aC):Prop where
 len:p.1.length=h.aJ.length
 nth:∀j x,i<=j->h.aJ[j]?=some x->p.1[j]?=some (aa.el .y x)
 dG:p.2=sh t (h.aJ.take i) h.bz
theorem pU.init (t:aa->Bool) (h:aA):pU t h 0 (h.aJ.map (aa.el .y),[],h.bz):=⟨cL _,fun j x _ hx=>by rw[iX,hx];rfl,rfl⟩
section
variable {t:aa->Bool}{h:aA}{i:Nat}{es:List T}{left:List aa}{outs:List aC}{x:aa}
theorem pU.z6 (f:pU t h i (es,left,outs)) (hx:h.aJ[i]?=some x):∃E:List T,es=E.set i (aa.el .y x)/\i<E.length:=by
 have h1:=f.nth i x (Nat.le_refl _) hx;exact⟨es,(Zp4 h1).symm,(bt.1 h1).1⟩
theorem pU.next {E:List T}{c:T} (f:pU t h i (E.set i (aa.el .y x),left,outs)) (hx:h.aJ[i]?=some x) {q:List aa×List aC} (hq:q=mS t (left,outs) x):pU t h (i+1) (E.set i c,q):=by
 refine⟨?_,fun j y hj hy=>?_,?_⟩
 ·have:=f.len;simp only[List.length_set]at this⊢;exact this
 ·have:=f.nth j y (by omega) hy;simp only at this⊢;rw[jQ (by omega)]at this⊢;exact this
 ·have:=f.dG;simp only at this⊢;rw[hq,Z86 hx,<-this]
theorem pU.small (f:pU t h i (es,left,outs)) (hl:h.al<=4000000):left.length+outs.length<=4000000:=by
 have h1:=V7 t (h.aJ.take i) ([],h.bz);have h2:=f.dG;have h3:=Ei aa.al h.aJ i;have h4:aS aa.al []=0:=rfl;unfold sh at h2;simp only at h1 h2;rw[<-h2]at h1;simp only at h1;have h5:=dA aa.al left;have h6:=dA aC.al outs;unfold aA.al at hl;omega
end
theorem UX {left:List aa}{outs:List aC} (h:left.length+outs.length<=4000000):(outs.map (aC.el .y)).length+1<cQ/\(left.map (aa.el .y)).length+1<cQ:=by
 rw[cL,cL];unfold cQ;omega
set_option maxHeartbeats 2000000 in
theorem Ztj (h:aA) (hl:h.al<=4000000):Nv [.st (h.cs .n),.x (.b false)]=some ⟨[.st ((kJ (ag h.aT h.kR) h).cs .y)],[]⟩:=by
 have n4:=dA aa.al h.aJ;have Am:=(IP hl).2.2.2.1;have pu:=Dx h hl;have g1:false=false:=rfl
 (refine aP rfl ?_;show Ev adR.code _ _ _)
 repeat' (first|refine yy ?_|refine ym ?_|(apply zf;iterate 5 exact rfl)|refine yp ?_|refine yk mh (pu) ?_|refine ak ?_|refine ai ?_|refine yt ?_ ?_|refine yo ?_|apply zn|refine yc ?_|exact rfl|intro _)
 refine jS (fun i (p:List T×List aa×List aC)=>[(1,.x (.b false)),(2,.box ⟨0,0,0⟩ (h.cs .n)),(4,.box ⟨0,0,0⟩ (aA.zero.cs .y)),(5,.box ⟨0,0,0⟩ [iT h.aT.fm,iT h.aT.kx,iT h.aT.iV,ints .y h.aT.dX,iT h.aT.mK,iT h.aT.mL,iT h.aT.mJ,iT h.aT.Still,iT h.kR,.b h.gT,aD.ls .y h.bp,au.lss .y h.Rows,aK.ls .y h.cI,iT h.fT,.l .y 10 p.1,aC.ls .y p.2.2]),(6,.own ⟨0,0,0⟩ (.l .y 10 (p.2.1.map (aa.el .y)))),(7,.x (iT i))]) (pU (ag h.aT h.kR) h) h.aJ.length _ (pU.init _ h) ?_ ?_
 ·first|rfl|(simp only[bN];rfl)
 ·rintro i ⟨es,left,outs⟩ lT hinv ih;have hlen:=hinv.len;have my:=hinv.small hl;obtain⟨xD,eV⟩:=UX my;have ho:outs.length<=4194304:=by omega
  simp only at hlen;rcases js i h.aJ.length with aF|fL
  ·have hx:=bF aF;generalize h.aJ[i]'_=x at hx;obtain⟨E,rfl,hi⟩:=hinv.z6 hx;have hc:decide ((i:Int)<((E.set i (aa.el .y x)).length:Nat))=true:=by simp only[List.length_set,decide_eq_true_eq];omega
   repeat' (first|refine yy ?_|refine ym ?_|(apply zf;iterate 5 exact rfl)|refine yp ?_|refine yx (rY hi) ?_|refine yL (aa.cs .y x) (Vl rfl (jT hi rfl)) ?_|(apply zS;exact Wi rfl rfl (by repeat (first|exact pV.nil _|apply pV.x|(apply pV.w;exact rfl;exact Vl rfl (jT (by assumption) rfl);exact rfl;exact Y1 rfl (qf (by assumption) rfl) rfl;exact rfl)));exact rfl;exact rfl;exact rfl;exact rfl;exact rfl;exact rfl;exact rfl;exact rfl;exact rfl;exact rfl)|refine yv FK (afB outs x.Key x.eo ho) ?_|(apply zV;(iterate 8 exact rfl);exact(xD);exact(rfl);exact(xD);exact rfl;exact rfl)|(apply zV;(iterate 8 exact rfl);exact(eV);exact(rfl);exact(eV);exact rfl;exact rfl)|refine yy ?_ (ht:=rfl)|refine yp ?_ (ht:=rfl)|refine yk aas (akt h.aT x.eo (Is hl)) ?_|refine ak ?_|refine ai ?_|refine yt ?_ ?_|refine yo ?_|apply zn|refine yc ?_|exact rfl|intro _)
   ·rename_i hb;refine ih (E.set i (SL x),left,outs++[⟨nR outs x.Key x.eo,x⟩]) aF ?_ _ _ ?_
    ·exact hinv.next hx (by rw[mS,show ag h.aT h.kR x=true from hb];rfl)
    ·rw[bU (by omega)];simp only[bN,aC.ls,kh];rfl
   ·rename_i hb;refine ih (E.set i (SL x),left++[x],outs) aF ?_ _ _ ?_
    ·exact hinv.next hx (by rw[mS,show ag h.aT h.kR x=false from hb];rfl)
    ·rw[bU (by omega)];simp only[bN,aC.ls,kh];rfl
  ·have hie:i=h.aJ.length:=by omega
   have hc:decide ((i:Int)<(es.length:Nat))=false:=by simp only[decide_eq_false_iff_not];omega
   have h2:=hinv.dG;rw[hie,eD]at h2;simp only at h2;have e:kJ (ag h.aT h.kR) h={h with aJ:=left,bz:=outs}:=by rw[kJ,<-h2]
   rw[e]
   repeat' (first|refine yy ?_|refine ym ?_|(apply zf;iterate 5 exact rfl)|refine yp ?_|refine ak ?_|refine ai ?_|refine yt ?_ ?_|refine yo ?_|apply zn|refine yc ?_|exact rfl|intro _)
   refine fin rfl ?_
   try simp only[bN]
   try rfl
end Go.Wr

