/-
  What is proved: lemmas for the laws. No condition.
-/
import Derived.Test.YtbghjecopkbhlaaGreatMa
import Derived.Test.YtbghjecopkbhlaaGreatTa
set_option linter.unusedVariables false
set_option linter.unusedSimpArgs false
namespace Go.Wr
set_option maxRecDepth 20000
set_option maxHeartbeats 2000000 in
theorem Bj (l:List Int) (k:Int) (h0:0<=k) (h1:k+(wL bj l:Int)<=fv):uw [.mu (ints .y l),.x (iT k)]=some ⟨[.one (iT (bd iM l k).2)],[[ints .y (bd iM l k).1]]⟩:=by
 (refine rW rfl ?_;show Ev acg.code _ _ _)
 repeat' (first|refine ak ?_|refine ai ?_|refine yt ?_ ?_|refine yo ?_|apply zn|refine yc ?_|intro _)
 show Ev _ _ _ _;refine wv (iT) gm h0 h1 rfl ?_ ?_
 ·intro i E x k hi h0 h1 hc ih
  repeat' (first|refine yx (rY hi) ?_|(apply zS;exact rfl;exact rfl;exact rfl;exact rfl;exact jT hi rfl;exact tz hi rfl;exact rfl;exact qf hi rfl;exact rfl;exact rfl;exact rfl)|(apply zl;exact rfl;exact rfl;exact jT hi rfl;exact rfl;exact rfl;exact rfl)|refine ak ?_|refine ai ?_|refine yt ?_ ?_|refine yo ?_|apply zn|refine yc ?_|intro _)
  exact ih _ _ rfl
 ·intro k E hc hk hE
  repeat' (first|refine ak ?_|refine ai ?_|refine yt ?_ ?_|refine yo ?_|apply zn|refine yc ?_|intro _)
  subst hk hE;exact sg rfl rfl
set_option maxHeartbeats 2000000 in
theorem arV (x:bR) (k:Int) (h0:0<=k) (h1:k+(bR.wS x:Int)<=fv):Mn [.ms (x.cs .y),.x (iT k)]=some ⟨[.one (iT (x.dZ k).2)],[(x.dZ k).1.cs .y]⟩:=by
 unfold bR.wS at h1;have a0:=cq gm x.dX _ (0) h0 (by omega);have b0:=a0.2
 (refine rW rfl ?_;show Ev ach.code _ _ _)
 repeat' (first|refine yM oD (Bj x.dX _ h0 (by omega)) ?_|refine yo ?_|apply zn|refine yc ?_|intro _)
 refine sg rfl ?_;simp only[bR.dZ,YW];rfl
set_option maxHeartbeats 2000000 in
theorem afo (l:List (List Int)) (k:Int) (h0:0<=k) (h1:k+(wL (wL bj) l:Int)<=fv):Hy [.mu (kg.lss .y l),.x (iT k)]=some ⟨[.one (iT (bd (bd iM) l k).2)],[[kg.lss .y (bd (bd iM) l k).1]]⟩:=by
 (refine rW rfl ?_;show Ev aci.code _ _ _)
 repeat' (first|refine ak ?_|refine ai ?_|refine yt ?_ ?_|refine yo ?_|apply zn|refine yc ?_|intro _)
 show Ev _ _ _ _;refine wv ((ints .y)) (cq gm) h0 h1 rfl ?_ ?_
 ·intro i E x k hi h0 h1 hc ih
  repeat' (first|refine yx (rY hi) ?_|(apply zS;exact rfl;exact rfl;exact rfl;exact rfl;exact jT hi rfl;exact tz hi rfl;exact rfl;exact qf hi rfl;exact rfl;exact rfl;exact rfl)|(apply zl;exact rfl;exact rfl;exact jT hi rfl;exact rfl;exact rfl;exact rfl)|refine yM oD (Bj x _ h0 (by omega)) ?_|refine ak ?_|refine ai ?_|refine yt ?_ ?_|refine yo ?_|apply zn|refine yc ?_|intro _)
  exact ih _ _ rfl
 ·intro k E hc hk hE
  repeat' (first|refine ak ?_|refine ai ?_|refine yt ?_ ?_|refine yo ?_|apply zn|refine yc ?_|intro _)
  subst hk hE;exact sg rfl rfl
set_option maxHeartbeats 2000000 in
theorem T8 (l:List af) (k:Int) (h0:0<=k) (h1:k+(wL af.w1 l:Int)<=fv):DP [.mu (af.ls .y l),.x (iT k)]=some ⟨[.one (iT (bd af.bI l k).2)],[[af.ls .y (bd af.bI l k).1]]⟩:=by
 (refine rW rfl ?_;show Ev acj.code _ _ _)
 repeat' (first|refine ak ?_|refine ai ?_|refine yt ?_ ?_|refine yo ?_|apply zn|refine yc ?_|intro _)
 show Ev _ _ _ _;refine wv ((af.el .y)) af.cH h0 h1 rfl ?_ ?_
 ·intro i E x k hi h0 h1 hc ih;simp only[af.w1]at h1;have a0:=cv (r:=1+0) h0 (by omega);have b0:=a0.2;have a1:=cv (r:=0) a0.1 (by omega);have b1:=a1.2
  repeat' (first|refine yx (rY hi) ?_|(apply zS;exact rfl;exact rfl;exact rfl;exact rfl;exact jT hi rfl;exact tz hi rfl;exact rfl;exact qf hi rfl;exact rfl;exact rfl;exact rfl)|(apply zl;exact rfl;exact rfl;exact jT hi rfl;exact rfl;exact rfl;exact rfl)|refine ak ?_|refine ai ?_|refine yt ?_ ?_|refine yo ?_|apply zn|refine yc ?_|intro _)
  exact ih _ _ rfl
 ·intro k E hc hk hE
  repeat' (first|refine ak ?_|refine ai ?_|refine yt ?_ ?_|refine yo ?_|apply zn|refine yc ?_|intro _)
  subst hk hE;exact sg rfl rfl
set_option maxHeartbeats 2000000 in
theorem afp (l:List aa) (k:Int) (h0:0<=k) (h1:k+(wL aa.w1 l:Int)<=fv):Hz [.mu (aa.ls .y l),.x (iT k)]=some ⟨[.one (iT (bd aa.bI l k).2)],[[aa.ls .y (bd aa.bI l k).1]]⟩:=by
 (refine rW rfl ?_;show Ev ack.code _ _ _)
 repeat' (first|refine ak ?_|refine ai ?_|refine yt ?_ ?_|refine yo ?_|apply zn|refine yc ?_|intro _)
 show Ev _ _ _ _;refine wv ((aa.el .y)) aa.cH h0 h1 rfl ?_ ?_
 ·intro i E x k hi h0 h1 hc ih;simp only[aa.w1,bm.w1]at h1;have a0:=cv (r:=1+wL af.w1 x.aH+1+1+1+1+wL bj x.aN.ca+wL bj x.aN.bX+wL (wL bj) x.aN.Rows+0) h0 (by omega);have b0:=a0.2;have a1:=cv (r:=wL af.w1 x.aH+1+1+1+1+wL bj x.aN.ca+wL bj x.aN.bX+wL (wL bj) x.aN.Rows+0) a0.1 (by omega);have b1:=a1.2;have a2:=cq af.cH x.aH _ (1+1+1+1+wL bj x.aN.ca+wL bj x.aN.bX+wL (wL bj) x.aN.Rows+0) a1.1 (by omega);have b2:=a2.2;have a3:=cv (r:=1+1+1+wL bj x.aN.ca+wL bj x.aN.bX+wL (wL bj) x.aN.Rows+0) a2.1 (by omega);have b3:=a3.2;have a4:=cv (r:=1+1+wL bj x.aN.ca+wL bj x.aN.bX+wL (wL bj) x.aN.Rows+0) a3.1 (by omega);have b4:=a4.2;have a5:=cv (r:=1+wL bj x.aN.ca+wL bj x.aN.bX+wL (wL bj) x.aN.Rows+0) a4.1 (by omega);have b5:=a5.2;have a6:=cv (r:=wL bj x.aN.ca+wL bj x.aN.bX+wL (wL bj) x.aN.Rows+0) a5.1 (by omega);have b6:=a6.2;have a7:=cq gm x.aN.ca _ (wL bj x.aN.bX+wL (wL bj) x.aN.Rows+0) a6.1 (by omega);have b7:=a7.2;have a8:=cq gm x.aN.bX _ (wL (wL bj) x.aN.Rows+0) a7.1 (by omega);have b8:=a8.2;have a9:=cq (cq gm) x.aN.Rows _ (0) a8.1 (by omega);have b9:=a9.2
  repeat' (first|refine yx (rY hi) ?_|(apply zS;exact rfl;exact rfl;exact rfl;exact rfl;exact jT hi rfl;exact tz hi rfl;exact rfl;exact qf hi rfl;exact rfl;exact rfl;exact rfl)|(apply zl;exact rfl;exact rfl;exact jT hi rfl;exact rfl;exact rfl;exact rfl)|refine yM zU (T8 x.aH _ a1.1 (by omega)) ?_|refine yM oD (Bj x.aN.ca _ a6.1 (by omega)) ?_|refine yM oD (Bj x.aN.bX _ a7.1 (by omega)) ?_|refine yM Fu (afo x.aN.Rows _ a8.1 (by omega)) ?_|refine ak ?_|refine ai ?_|refine yt ?_ ?_|refine yo ?_|apply zn|refine yc ?_|intro _)
  exact ih _ _ rfl
 ·intro k E hc hk hE
  repeat' (first|refine ak ?_|refine ai ?_|refine yt ?_ ?_|refine yo ?_|apply zn|refine yc ?_|intro _)
  subst hk hE;exact sg rfl rfl
set_option maxHeartbeats 2000000 in
theorem arW (l:List aC) (k:Int) (h0:0<=k) (h1:k+(wL aC.w1 l:Int)<=fv):Mp [.mu (aC.ls .y l),.x (iT k)]=some ⟨[.one (iT (bd aC.bI l k).2)],[[aC.ls .y (bd aC.bI l k).1]]⟩:=by
 (refine rW rfl ?_;show Ev acn.code _ _ _)
 repeat' (first|refine ak ?_|refine ai ?_|refine yt ?_ ?_|refine yo ?_|apply zn|refine yc ?_|intro _)
 show Ev _ _ _ _;refine wv ((aC.el .y)) aC.cH h0 h1 rfl ?_ ?_
 ·intro i E x k hi h0 h1 hc ih;simp only[aC.w1,aa.w1,bm.w1]at h1;have a0:=cv (r:=1+1+wL af.w1 x.bg.aH+1+1+1+1+wL bj x.bg.aN.ca+wL bj x.bg.aN.bX+wL (wL bj) x.bg.aN.Rows+0) h0 (by omega);have b0:=a0.2;have a1:=cv (r:=1+wL af.w1 x.bg.aH+1+1+1+1+wL bj x.bg.aN.ca+wL bj x.bg.aN.bX+wL (wL bj) x.bg.aN.Rows+0) a0.1 (by omega);have b1:=a1.2;have a2:=cv (r:=wL af.w1 x.bg.aH+1+1+1+1+wL bj x.bg.aN.ca+wL bj x.bg.aN.bX+wL (wL bj) x.bg.aN.Rows+0) a1.1 (by omega);have b2:=a2.2;have a3:=cq af.cH x.bg.aH _ (1+1+1+1+wL bj x.bg.aN.ca+wL bj x.bg.aN.bX+wL (wL bj) x.bg.aN.Rows+0) a2.1 (by omega);have b3:=a3.2;have a4:=cv (r:=1+1+1+wL bj x.bg.aN.ca+wL bj x.bg.aN.bX+wL (wL bj) x.bg.aN.Rows+0) a3.1 (by omega);have b4:=a4.2;have a5:=cv (r:=1+1+wL bj x.bg.aN.ca+wL bj x.bg.aN.bX+wL (wL bj) x.bg.aN.Rows+0) a4.1 (by omega);have b5:=a5.2;have a6:=cv (r:=1+wL bj x.bg.aN.ca+wL bj x.bg.aN.bX+wL (wL bj) x.bg.aN.Rows+0) a5.1 (by omega);have b6:=a6.2;have a7:=cv (r:=wL bj x.bg.aN.ca+wL bj x.bg.aN.bX+wL (wL bj) x.bg.aN.Rows+0) a6.1 (by omega);have b7:=a7.2;have a8:=cq gm x.bg.aN.ca _ (wL bj x.bg.aN.bX+wL (wL bj) x.bg.aN.Rows+0) a7.1 (by omega);have b8:=a8.2;have a9:=cq gm x.bg.aN.bX _ (wL (wL bj) x.bg.aN.Rows+0) a8.1 (by omega);have b9:=a9.2;have JX:=cq (cq gm) x.bg.aN.Rows _ (0) a9.1 (by omega);have b10:=JX.2
  repeat' (first|refine yx (rY hi) ?_|(apply zS;exact rfl;exact rfl;exact rfl;exact rfl;exact jT hi rfl;exact tz hi rfl;exact rfl;exact qf hi rfl;exact rfl;exact rfl;exact rfl)|(apply zl;exact rfl;exact rfl;exact jT hi rfl;exact rfl;exact rfl;exact rfl)|refine yM zU (T8 x.bg.aH _ a2.1 (by omega)) ?_|refine yM oD (Bj x.bg.aN.ca _ a7.1 (by omega)) ?_|refine yM oD (Bj x.bg.aN.bX _ a8.1 (by omega)) ?_|refine yM Fu (afo x.bg.aN.Rows _ a9.1 (by omega)) ?_|refine ak ?_|refine ai ?_|refine yt ?_ ?_|refine yo ?_|apply zn|refine yc ?_|intro _)
  exact ih _ _ rfl
 ·intro k E hc hk hE
  repeat' (first|refine ak ?_|refine ai ?_|refine yt ?_ ?_|refine yo ?_|apply zn|refine yc ?_|intro _)
  subst hk hE;exact sg rfl rfl
set_option maxHeartbeats 2000000 in
theorem arX (l:List au) (k:Int) (h0:0<=k) (h1:k+(wL au.w1 l:Int)<=fv):Mq [.mu (au.ls .y l),.x (iT k)]=some ⟨[.one (iT (bd au.bI l k).2)],[[au.ls .y (bd au.bI l k).1]]⟩:=by
 (refine rW rfl ?_;show Ev aco.code _ _ _)
 repeat' (first|refine ak ?_|refine ai ?_|refine yt ?_ ?_|refine yo ?_|apply zn|refine yc ?_|intro _)
 show Ev _ _ _ _;refine wv ((au.el .y)) au.cH h0 h1 rfl ?_ ?_
 ·intro i E x k hi h0 h1 hc ih;simp only[au.w1]at h1;have a0:=cq aa.cH x.bV _ (0) h0 (by omega);have b0:=a0.2
  repeat' (first|refine yx (rY hi) ?_|(apply zS;exact rfl;exact rfl;exact rfl;exact rfl;exact jT hi rfl;exact tz hi rfl;exact rfl;exact qf hi rfl;exact rfl;exact rfl;exact rfl)|(apply zl;exact rfl;exact rfl;exact jT hi rfl;exact rfl;exact rfl;exact rfl)|refine yM Fv (afp x.bV _ h0 (by omega)) ?_|refine ak ?_|refine ai ?_|refine yt ?_ ?_|refine yo ?_|apply zn|refine yc ?_|intro _)
  exact ih _ _ rfl
 ·intro k E hc hk hE
  repeat' (first|refine ak ?_|refine ai ?_|refine yt ?_ ?_|refine yo ?_|apply zn|refine yc ?_|intro _)
  subst hk hE;exact sg rfl rfl
set_option maxHeartbeats 2000000 in
theorem arY (l:List (List au)) (k:Int) (h0:0<=k) (h1:k+(wL (wL au.w1) l:Int)<=fv):Mr [.mu (au.lss .y l),.x (iT k)]=some ⟨[.one (iT (bd (bd au.bI) l k).2)],[[au.lss .y (bd (bd au.bI) l k).1]]⟩:=by
 (refine rW rfl ?_;show Ev acp.code _ _ _)
 repeat' (first|refine ak ?_|refine ai ?_|refine yt ?_ ?_|refine yo ?_|apply zn|refine yc ?_|intro _)
 show Ev _ _ _ _;refine wv ((au.ls .y)) (cq au.cH) h0 h1 rfl ?_ ?_
 ·intro i E x k hi h0 h1 hc ih
  repeat' (first|refine yx (rY hi) ?_|(apply zS;exact rfl;exact rfl;exact rfl;exact rfl;exact jT hi rfl;exact tz hi rfl;exact rfl;exact qf hi rfl;exact rfl;exact rfl;exact rfl)|(apply zl;exact rfl;exact rfl;exact jT hi rfl;exact rfl;exact rfl;exact rfl)|refine yM Qz (arX x _ h0 (by omega)) ?_|refine ak ?_|refine ai ?_|refine yt ?_ ?_|refine yo ?_|apply zn|refine yc ?_|intro _)
  exact ih _ _ rfl
 ·intro k E hc hk hE
  repeat' (first|refine ak ?_|refine ai ?_|refine yt ?_ ?_|refine yo ?_|apply zn|refine yc ?_|intro _)
  subst hk hE;exact sg rfl rfl
set_option maxHeartbeats 2000000 in
theorem arZ (l:List aD) (k:Int) (h0:0<=k) (h1:k+(wL aD.w1 l:Int)<=fv):Ms [.mu (aD.ls .y l),.x (iT k)]=some ⟨[.one (iT (bd aD.bI l k).2)],[[aD.ls .y (bd aD.bI l k).1]]⟩:=by
 (refine rW rfl ?_;show Ev acq.code _ _ _)
 repeat' (first|refine ak ?_|refine ai ?_|refine yt ?_ ?_|refine yo ?_|apply zn|refine yc ?_|intro _)
 show Ev _ _ _ _;refine wv ((aD.el .y)) aD.cH h0 h1 rfl ?_ ?_
 ·intro i E x k hi h0 h1 hc ih;simp only[aD.w1]at h1;have a0:=cv (r:=1+wL af.w1 x.bK+1+1+0) h0 (by omega);have b0:=a0.2;have a1:=cv (r:=wL af.w1 x.bK+1+1+0) a0.1 (by omega);have b1:=a1.2;have a2:=cq af.cH x.bK _ (1+1+0) a1.1 (by omega);have b2:=a2.2;have a3:=cv (r:=1+0) a2.1 (by omega);have b3:=a3.2;have a4:=cv (r:=0) a3.1 (by omega);have b4:=a4.2
  repeat' (first|refine yx (rY hi) ?_|(apply zS;exact rfl;exact rfl;exact rfl;exact rfl;exact jT hi rfl;exact tz hi rfl;exact rfl;exact qf hi rfl;exact rfl;exact rfl;exact rfl)|(apply zl;exact rfl;exact rfl;exact jT hi rfl;exact rfl;exact rfl;exact rfl)|refine yM zU (T8 x.bK _ a1.1 (by omega)) ?_|refine ak ?_|refine ai ?_|refine yt ?_ ?_|refine yo ?_|apply zn|refine yc ?_|intro _)
  exact ih _ _ rfl
 ·intro k E hc hk hE
  repeat' (first|refine ak ?_|refine ai ?_|refine yt ?_ ?_|refine yo ?_|apply zn|refine yc ?_|intro _)
  subst hk hE;exact sg rfl rfl
set_option maxHeartbeats 2000000 in
theorem ar0 (l:List aK) (k:Int) (h0:0<=k) (h1:k+(wL aK.w1 l:Int)<=fv):Mt [.mu (aK.ls .y l),.x (iT k)]=some ⟨[.one (iT (bd aK.bI l k).2)],[[aK.ls .y (bd aK.bI l k).1]]⟩:=by
 (refine rW rfl ?_;show Ev acr.code _ _ _)
 repeat' (first|refine ak ?_|refine ai ?_|refine yt ?_ ?_|refine yo ?_|apply zn|refine yc ?_|intro _)
 show Ev _ _ _ _;refine wv ((aK.el .y)) aK.cH h0 h1 rfl ?_ ?_
 ·intro i E x k hi h0 h1 hc ih;simp only[aK.w1]at h1;have a0:=cv (r:=1+wL bj x.Left+0) h0 (by omega);have b0:=a0.2;have a1:=cv (r:=wL bj x.Left+0) a0.1 (by omega);have b1:=a1.2;have a2:=cq gm x.Left _ (0) a1.1 (by omega);have b2:=a2.2
  repeat' (first|refine yx (rY hi) ?_|(apply zS;exact rfl;exact rfl;exact rfl;exact rfl;exact jT hi rfl;exact tz hi rfl;exact rfl;exact qf hi rfl;exact rfl;exact rfl;exact rfl)|(apply zl;exact rfl;exact rfl;exact jT hi rfl;exact rfl;exact rfl;exact rfl)|refine yM oD (Bj x.Left _ a1.1 (by omega)) ?_|refine ak ?_|refine ai ?_|refine yt ?_ ?_|refine yo ?_|apply zn|refine yc ?_|intro _)
  exact ih _ _ rfl
 ·intro k E hc hk hE
  repeat' (first|refine ak ?_|refine ai ?_|refine yt ?_ ?_|refine yo ?_|apply zn|refine yc ?_|intro _)
  subst hk hE;exact sg rfl rfl
set_option maxHeartbeats 2000000 in
theorem afq (x:aA) (k:Int) (h0:0<=k) (h1:k+(aA.wS x:Int)<=fv):HA [.ms (x.cs .y),.x (iT k)]=some ⟨[.one (iT (x.dZ k).2)],[(x.dZ k).1.cs .y]⟩:=by
 unfold aA.wS at h1;have a0:=bR.jL x.aT _ (wL aD.w1 x.bp+wL (wL au.w1) x.Rows+wL aK.w1 x.cI+wL aa.w1 x.aJ+wL aC.w1 x.bz+0) h0 (by omega);have b0:=a0.2;have a1:=cq aD.cH x.bp _ (wL (wL au.w1) x.Rows+wL aK.w1 x.cI+wL aa.w1 x.aJ+wL aC.w1 x.bz+0) a0.1 (by omega);have b1:=a1.2;have a2:=cq (cq au.cH) x.Rows _ (wL aK.w1 x.cI+wL aa.w1 x.aJ+wL aC.w1 x.bz+0) a1.1 (by omega);have b2:=a2.2;have a3:=cq aK.cH x.cI _ (wL aa.w1 x.aJ+wL aC.w1 x.bz+0) a2.1 (by omega);have b3:=a3.2;have a4:=cq aa.cH x.aJ _ (wL aC.w1 x.bz+0) a3.1 (by omega);have b4:=a4.2;have a5:=cq aC.cH x.bz _ (0) a4.1 (by omega);have b5:=a5.2
 (refine rW rfl ?_;show Ev acs.code _ _ _)
 repeat' (first|refine yN Qx (arV x.aT _ h0 (by omega)) ?_|refine yM QB (arZ x.bp _ a0.1 (by omega)) ?_|refine yM QA (arY x.Rows _ a1.1 (by omega)) ?_|refine yM QC (ar0 x.cI _ a2.1 (by omega)) ?_|refine yM Fv (afp x.aJ _ a3.1 (by omega)) ?_|refine yM Qy (arW x.bz _ a4.1 (by omega)) ?_|refine yo ?_|apply zn|refine yc ?_|intro _)
 refine sg rfl ?_;simp only[aA.dZ,bR.dZ,YW];rfl
theorem Bi (l:List Int) (k:Int) (h0:0<=k) (h1:k+(wL bj l:Int)<=fv):uv [.x (ints .n (bd iM l k).1),.x (iT k)]=some ⟨[.one (iT (bd iM l k).2)],[]⟩:=by
 (refine aP rfl ?_;show Ev ace.code _ _ _)
 repeat' (first|refine ak ?_|refine ai ?_|refine yt ?_ ?_|refine yo ?_|apply zn|refine yc ?_|intro _)
 show Ev _ _ _ _;refine wu (iT) gm h0 h1 rfl ?_ ?_
 ·intro i E x k hE h0 h1 hc ih
  repeat' (first|refine yi _ hE ?_|refine ai ?_ (ht:=uk _)|refine ai ?_ (ht:=uj _)|refine ak ?_|refine ai ?_|refine yt ?_ ?_|refine yo ?_|apply zn|refine yc ?_|intro _)
  exact ih _ _ rfl
 ·intro k E hc hk
  repeat' (first|refine ak ?_|refine ai ?_|refine yt ?_ ?_|refine yo ?_|apply zn|refine yc ?_|intro _)
  subst hk;exact fin rfl rfl
theorem afn (l:List (List Int)) (k:Int) (h0:0<=k) (h1:k+(wL (wL bj) l:Int)<=fv):Hx [.x (kg.lss .n (bd (bd iM) l k).1),.x (iT k)]=some ⟨[.one (iT (bd (bd iM) l k).2)],[]⟩:=by
 (refine aP rfl ?_;show Ev acf.code _ _ _)
 repeat' (first|refine ak ?_|refine ai ?_|refine yt ?_ ?_|refine yo ?_|apply zn|refine yc ?_|intro _)
 show Ev _ _ _ _;refine wu ((ints .n)) (cq gm) h0 h1 rfl ?_ ?_
 ·intro i E x k hE h0 h1 hc ih;have a0:=(cq gm) x _ 0 h0 (by omega);have c0:=ku a0.1
  repeat' (first|refine yi _ hE ?_|refine ai ?_ (ht:=uk _)|refine ai ?_ (ht:=uj _)|refine yv oC (Bi x _ h0 (by omega)) ?_|refine ak ?_|refine ai ?_|refine yt ?_ ?_|refine yo ?_|apply zn|refine yc ?_|intro _)
  exact ih _ _ rfl
 ·intro k E hc hk
  repeat' (first|refine ak ?_|refine ai ?_|refine yt ?_ ?_|refine yo ?_|apply zn|refine yc ?_|intro _)
  subst hk;exact fin rfl rfl
set_option maxHeartbeats 2000000 in
theorem Uf (l:List af) (k:Int) (h0:0<=k) (h1:k+(wL af.w1 l:Int)<=fv):DY [.x (af.ls .n (bd af.bI l k).1),.x (iT k)]=some ⟨[.one (iT (bd af.bI l k).2)],[]⟩:=by
 (refine aP rfl ?_;show Ev adr.code _ _ _)
 repeat' (first|refine ak ?_|refine ai ?_|refine yt ?_ ?_|refine yo ?_|apply zn|refine yc ?_|intro _)
 show Ev _ _ _ _;refine wu ((af.el .n)) af.cH h0 h1 rfl ?_ ?_
 ·intro i E x k hE h0 h1 hc ih;simp only[af.w1]at h1;have a0:=cv (r:=1+0) h0 (by omega);have b0:=a0.2;have a1:=cv (r:=0) a0.1 (by omega);have b1:=a1.2
  repeat' (first|refine yi _ hE ?_|refine ai ?_ (ht:=uk _)|refine ai ?_ (ht:=uj _)|refine ak ?_|refine ai ?_|refine yt ?_ ?_|refine yo ?_|apply zn|refine yc ?_|intro _)
  exact ih _ _ rfl
 ·intro k E hc hk
  repeat' (first|refine ak ?_|refine ai ?_|refine yt ?_ ?_|refine yo ?_|apply zn|refine yc ?_|intro _)
  subst hk;exact fin rfl rfl
set_option maxHeartbeats 2000000 in
theorem asO (x:bR) (k:Int) (h0:0<=k) (h1:k+(bR.wS x:Int)<=fv):Nd [.st ((x.dZ k).1.cs .n),.x (iT k)]=some ⟨[.one (iT (x.dZ k).2)],[]⟩:=by
 unfold bR.wS at h1;have a0:=cq gm x.dX _ (0) h0 (by omega);have b0:=a0.2;have c0:=ku a0.1
 (refine aP rfl ?_;show Ev adz.code _ _ _)
 repeat' (first|refine yv oC (Bi x.dX _ h0 (by omega)) ?_|refine ak ?_|refine ai ?_|refine yt ?_ ?_|refine yo ?_|apply zn|refine yc ?_|intro _)
 exact fin rfl rfl
set_option maxHeartbeats 2000000 in
theorem afG (l:List aa) (k:Int) (h0:0<=k) (h1:k+(wL aa.w1 l:Int)<=fv):HQ [.x (aa.ls .n (bd aa.bI l k).1),.x (iT k)]=some ⟨[.one (iT (bd aa.bI l k).2)],[]⟩:=by
 (refine aP rfl ?_;show Ev adA.code _ _ _)
 repeat' (first|refine ak ?_|refine ai ?_|refine yt ?_ ?_|refine yo ?_|apply zn|refine yc ?_|intro _)
 show Ev _ _ _ _;refine wu ((aa.el .n)) aa.cH h0 h1 rfl ?_ ?_
 ·intro i E x k hE h0 h1 hc ih;simp only[aa.w1,bm.w1]at h1;have a0:=cv (r:=1+wL af.w1 x.aH+1+1+1+1+wL bj x.aN.ca+wL bj x.aN.bX+wL (wL bj) x.aN.Rows+0) h0 (by omega);have b0:=a0.2;have a1:=cv (r:=wL af.w1 x.aH+1+1+1+1+wL bj x.aN.ca+wL bj x.aN.bX+wL (wL bj) x.aN.Rows+0) a0.1 (by omega);have b1:=a1.2;have a2:=cq af.cH x.aH _ (1+1+1+1+wL bj x.aN.ca+wL bj x.aN.bX+wL (wL bj) x.aN.Rows+0) a1.1 (by omega);have b2:=a2.2;have a3:=cv (r:=1+1+1+wL bj x.aN.ca+wL bj x.aN.bX+wL (wL bj) x.aN.Rows+0) a2.1 (by omega);have b3:=a3.2;have a4:=cv (r:=1+1+wL bj x.aN.ca+wL bj x.aN.bX+wL (wL bj) x.aN.Rows+0) a3.1 (by omega);have b4:=a4.2;have a5:=cv (r:=1+wL bj x.aN.ca+wL bj x.aN.bX+wL (wL bj) x.aN.Rows+0) a4.1 (by omega);have b5:=a5.2;have a6:=cv (r:=wL bj x.aN.ca+wL bj x.aN.bX+wL (wL bj) x.aN.Rows+0) a5.1 (by omega);have b6:=a6.2;have a7:=cq gm x.aN.ca _ (wL bj x.aN.bX+wL (wL bj) x.aN.Rows+0) a6.1 (by omega);have b7:=a7.2;have a8:=cq gm x.aN.bX _ (wL (wL bj) x.aN.Rows+0) a7.1 (by omega);have b8:=a8.2;have a9:=cq (cq gm) x.aN.Rows _ (0) a8.1 (by omega);have b9:=a9.2;have c2:=ku a2.1;have c7:=ku a7.1;have c8:=ku a8.1;have c9:=ku a9.1
  repeat' (first|refine yi _ hE ?_|refine ai ?_ (ht:=uk _)|refine ai ?_ (ht:=uj _)|refine yv Ab (Uf x.aH _ a1.1 (by omega)) ?_|refine yv oC (Bi x.aN.ca _ a6.1 (by omega)) ?_|refine yv oC (Bi x.aN.bX _ a7.1 (by omega)) ?_|refine yv Ft (afn x.aN.Rows _ a8.1 (by omega)) ?_|refine ak ?_|refine ai ?_|refine yt ?_ ?_|refine yo ?_|apply zn|refine yc ?_|intro _)
  exact ih _ _ rfl
 ·intro k E hc hk
  repeat' (first|refine ak ?_|refine ai ?_|refine yt ?_ ?_|refine yo ?_|apply zn|refine yc ?_|intro _)
  subst hk;exact fin rfl rfl
set_option maxHeartbeats 2000000 in
theorem asP (l:List aC) (k:Int) (h0:0<=k) (h1:k+(wL aC.w1 l:Int)<=fv):Nf [.x (aC.ls .n (bd aC.bI l k).1),.x (iT k)]=some ⟨[.one (iT (bd aC.bI l k).2)],[]⟩:=by
 (refine aP rfl ?_;show Ev adB.code _ _ _)
 repeat' (first|refine ak ?_|refine ai ?_|refine yt ?_ ?_|refine yo ?_|apply zn|refine yc ?_|intro _)
 show Ev _ _ _ _;refine wu ((aC.el .n)) aC.cH h0 h1 rfl ?_ ?_
 ·intro i E x k hE h0 h1 hc ih;simp only[aC.w1,aa.w1,bm.w1]at h1;have a0:=cv (r:=1+1+wL af.w1 x.bg.aH+1+1+1+1+wL bj x.bg.aN.ca+wL bj x.bg.aN.bX+wL (wL bj) x.bg.aN.Rows+0) h0 (by omega);have b0:=a0.2;have a1:=cv (r:=1+wL af.w1 x.bg.aH+1+1+1+1+wL bj x.bg.aN.ca+wL bj x.bg.aN.bX+wL (wL bj) x.bg.aN.Rows+0) a0.1 (by omega);have b1:=a1.2;have a2:=cv (r:=wL af.w1 x.bg.aH+1+1+1+1+wL bj x.bg.aN.ca+wL bj x.bg.aN.bX+wL (wL bj) x.bg.aN.Rows+0) a1.1 (by omega);have b2:=a2.2;have a3:=cq af.cH x.bg.aH _ (1+1+1+1+wL bj x.bg.aN.ca+wL bj x.bg.aN.bX+wL (wL bj) x.bg.aN.Rows+0) a2.1 (by omega);have b3:=a3.2;have a4:=cv (r:=1+1+1+wL bj x.bg.aN.ca+wL bj x.bg.aN.bX+wL (wL bj) x.bg.aN.Rows+0) a3.1 (by omega);have b4:=a4.2;have a5:=cv (r:=1+1+wL bj x.bg.aN.ca+wL bj x.bg.aN.bX+wL (wL bj) x.bg.aN.Rows+0) a4.1 (by omega);have b5:=a5.2;have a6:=cv (r:=1+wL bj x.bg.aN.ca+wL bj x.bg.aN.bX+wL (wL bj) x.bg.aN.Rows+0) a5.1 (by omega);have b6:=a6.2;have a7:=cv (r:=wL bj x.bg.aN.ca+wL bj x.bg.aN.bX+wL (wL bj) x.bg.aN.Rows+0) a6.1 (by omega);have b7:=a7.2;have a8:=cq gm x.bg.aN.ca _ (wL bj x.bg.aN.bX+wL (wL bj) x.bg.aN.Rows+0) a7.1 (by omega);have b8:=a8.2;have a9:=cq gm x.bg.aN.bX _ (wL (wL bj) x.bg.aN.Rows+0) a8.1 (by omega);have b9:=a9.2;have JX:=cq (cq gm) x.bg.aN.Rows _ (0) a9.1 (by omega);have b10:=JX.2;have c3:=ku a3.1;have c8:=ku a8.1;have c9:=ku a9.1;have c10:=ku JX.1
  repeat' (first|refine yi _ hE ?_|refine ai ?_ (ht:=uk _)|refine ai ?_ (ht:=uj _)|refine yv Ab (Uf x.bg.aH _ a2.1 (by omega)) ?_|refine yv oC (Bi x.bg.aN.ca _ a7.1 (by omega)) ?_|refine yv oC (Bi x.bg.aN.bX _ a8.1 (by omega)) ?_|refine yv Ft (afn x.bg.aN.Rows _ a9.1 (by omega)) ?_|refine ak ?_|refine ai ?_|refine yt ?_ ?_|refine yo ?_|apply zn|refine yc ?_|intro _)
  exact ih _ _ rfl
 ·intro k E hc hk
  repeat' (first|refine ak ?_|refine ai ?_|refine yt ?_ ?_|refine yo ?_|apply zn|refine yc ?_|intro _)
  subst hk;exact fin rfl rfl
set_option maxHeartbeats 2000000 in
theorem asQ (l:List au) (k:Int) (h0:0<=k) (h1:k+(wL au.w1 l:Int)<=fv):Ng [.x (au.ls .n (bd au.bI l k).1),.x (iT k)]=some ⟨[.one (iT (bd au.bI l k).2)],[]⟩:=by
 (refine aP rfl ?_;show Ev adC.code _ _ _)
 repeat' (first|refine ak ?_|refine ai ?_|refine yt ?_ ?_|refine yo ?_|apply zn|refine yc ?_|intro _)
 show Ev _ _ _ _;refine wu ((au.el .n)) au.cH h0 h1 rfl ?_ ?_
 ·intro i E x k hE h0 h1 hc ih;simp only[au.w1]at h1;have a0:=cq aa.cH x.bV _ (0) h0 (by omega);have b0:=a0.2;have c0:=ku a0.1
  repeat' (first|refine yi _ hE ?_|refine ai ?_ (ht:=uk _)|refine ai ?_ (ht:=uj _)|refine yv FN (afG x.bV _ h0 (by omega)) ?_|refine ak ?_|refine ai ?_|refine yt ?_ ?_|refine yo ?_|apply zn|refine yc ?_|intro _)
  exact ih _ _ rfl
 ·intro k E hc hk
  repeat' (first|refine ak ?_|refine ai ?_|refine yt ?_ ?_|refine yo ?_|apply zn|refine yc ?_|intro _)
  subst hk;exact fin rfl rfl
theorem asR (l:List (List au)) (k:Int) (h0:0<=k) (h1:k+(wL (wL au.w1) l:Int)<=fv):Nh [.x (au.lss .n (bd (bd au.bI) l k).1),.x (iT k)]=some ⟨[.one (iT (bd (bd au.bI) l k).2)],[]⟩:=by
 (refine aP rfl ?_;show Ev adD.code _ _ _)
 repeat' (first|refine ak ?_|refine ai ?_|refine yt ?_ ?_|refine yo ?_|apply zn|refine yc ?_|intro _)
 show Ev _ _ _ _;refine wu ((au.ls .n)) (cq au.cH) h0 h1 rfl ?_ ?_
 ·intro i E x k hE h0 h1 hc ih;have a0:=(cq au.cH) x _ 0 h0 (by omega);have c0:=ku a0.1
  repeat' (first|refine yi _ hE ?_|refine ai ?_ (ht:=uk _)|refine ai ?_ (ht:=uj _)|refine yv Rl (asQ x _ h0 (by omega)) ?_|refine ak ?_|refine ai ?_|refine yt ?_ ?_|refine yo ?_|apply zn|refine yc ?_|intro _)
  exact ih _ _ rfl
 ·intro k E hc hk
  repeat' (first|refine ak ?_|refine ai ?_|refine yt ?_ ?_|refine yo ?_|apply zn|refine yc ?_|intro _)
  subst hk;exact fin rfl rfl
set_option maxHeartbeats 2000000 in
theorem asS (l:List aD) (k:Int) (h0:0<=k) (h1:k+(wL aD.w1 l:Int)<=fv):Ni [.x (aD.ls .n (bd aD.bI l k).1),.x (iT k)]=some ⟨[.one (iT (bd aD.bI l k).2)],[]⟩:=by
 (refine aP rfl ?_;show Ev adE.code _ _ _)
 repeat' (first|refine ak ?_|refine ai ?_|refine yt ?_ ?_|refine yo ?_|apply zn|refine yc ?_|intro _)
 show Ev _ _ _ _;refine wu ((aD.el .n)) aD.cH h0 h1 rfl ?_ ?_
 ·intro i E x k hE h0 h1 hc ih;simp only[aD.w1]at h1;have a0:=cv (r:=1+wL af.w1 x.bK+1+1+0) h0 (by omega);have b0:=a0.2;have a1:=cv (r:=wL af.w1 x.bK+1+1+0) a0.1 (by omega);have b1:=a1.2;have a2:=cq af.cH x.bK _ (1+1+0) a1.1 (by omega);have b2:=a2.2;have a3:=cv (r:=1+0) a2.1 (by omega);have b3:=a3.2;have a4:=cv (r:=0) a3.1 (by omega);have b4:=a4.2;have c2:=ku a2.1
  repeat' (first|refine yi _ hE ?_|refine ai ?_ (ht:=uk _)|refine ai ?_ (ht:=uj _)|refine yv Ab (Uf x.bK _ a1.1 (by omega)) ?_|refine ak ?_|refine ai ?_|refine yt ?_ ?_|refine yo ?_|apply zn|refine yc ?_|intro _)
  exact ih _ _ rfl
 ·intro k E hc hk
  repeat' (first|refine ak ?_|refine ai ?_|refine yt ?_ ?_|refine yo ?_|apply zn|refine yc ?_|intro _)
  subst hk;exact fin rfl rfl
set_option maxHeartbeats 2000000 in
theorem asT (l:List aK) (k:Int) (h0:0<=k) (h1:k+(wL aK.w1 l:Int)<=fv):Nj [.x (aK.ls .n (bd aK.bI l k).1),.x (iT k)]=some ⟨[.one (iT (bd aK.bI l k).2)],[]⟩:=by
 (refine aP rfl ?_;show Ev adF.code _ _ _)
 repeat' (first|refine ak ?_|refine ai ?_|refine yt ?_ ?_|refine yo ?_|apply zn|refine yc ?_|intro _)
 show Ev _ _ _ _;refine wu ((aK.el .n)) aK.cH h0 h1 rfl ?_ ?_
 ·intro i E x k hE h0 h1 hc ih;simp only[aK.w1]at h1;have a0:=cv (r:=1+wL bj x.Left+0) h0 (by omega);have b0:=a0.2;have a1:=cv (r:=wL bj x.Left+0) a0.1 (by omega);have b1:=a1.2;have a2:=cq gm x.Left _ (0) a1.1 (by omega);have b2:=a2.2;have c2:=ku a2.1
  repeat' (first|refine yi _ hE ?_|refine ai ?_ (ht:=uk _)|refine ai ?_ (ht:=uj _)|refine yv oC (Bi x.Left _ a1.1 (by omega)) ?_|refine ak ?_|refine ai ?_|refine yt ?_ ?_|refine yo ?_|apply zn|refine yc ?_|intro _)
  exact ih _ _ rfl
 ·intro k E hc hk
  repeat' (first|refine ak ?_|refine ai ?_|refine yt ?_ ?_|refine yo ?_|apply zn|refine yc ?_|intro _)
  subst hk;exact fin rfl rfl
set_option maxHeartbeats 2000000 in
theorem asU (x:aA) (k:Int) (h0:0<=k) (h1:k+(aA.wS x:Int)<=fv):HR [.st ((x.dZ k).1.cs .n),.x (iT k)]=some ⟨[.one (iT (x.dZ k).2)],[]⟩:=by
 unfold aA.wS at h1;have a0:=bR.jL x.aT _ (wL aD.w1 x.bp+wL (wL au.w1) x.Rows+wL aK.w1 x.cI+wL aa.w1 x.aJ+wL aC.w1 x.bz+0) h0 (by omega);have b0:=a0.2;have a1:=cq aD.cH x.bp _ (wL (wL au.w1) x.Rows+wL aK.w1 x.cI+wL aa.w1 x.aJ+wL aC.w1 x.bz+0) a0.1 (by omega);have b1:=a1.2;have a2:=cq (cq au.cH) x.Rows _ (wL aK.w1 x.cI+wL aa.w1 x.aJ+wL aC.w1 x.bz+0) a1.1 (by omega);have b2:=a2.2;have a3:=cq aK.cH x.cI _ (wL aa.w1 x.aJ+wL aC.w1 x.bz+0) a2.1 (by omega);have b3:=a3.2;have a4:=cq aa.cH x.aJ _ (wL aC.w1 x.bz+0) a3.1 (by omega);have b4:=a4.2;have a5:=cq aC.cH x.bz _ (0) a4.1 (by omega);have b5:=a5.2;have c0:=ku a0.1;have c1:=ku a1.1;have c2:=ku a2.1;have c3:=ku a3.1;have c4:=ku a4.1;have c5:=ku a5.1
 (refine aP rfl ?_;show Ev adG.code _ _ _)
 repeat' (first|refine yv Rj (asO x.aT _ h0 (by omega)) ?_|refine yv Rn (asS x.bp _ a0.1 (by omega)) ?_|refine yv Rm (asR x.Rows _ a1.1 (by omega)) ?_|refine yv Ro (asT x.cI _ a2.1 (by omega)) ?_|refine yv FN (afG x.aJ _ a3.1 (by omega)) ?_|refine yv Rk (asP x.bz _ a4.1 (by omega)) ?_|refine ak ?_|refine ai ?_|refine yt ?_ ?_|refine yo ?_|apply zn|refine yc ?_|intro _)
 exact fin rfl rfl
end Go.Wr

