/-
  What is proved: lemmas on the way to the laws of this seat. No condition.
-/
import Derived.Test.YtbghjecopkbhlaaGreatMa
import Derived.Test.YtbghjecopkbhlaaGreatTa
set_option linter.unusedVariables false
set_option linter.unusedSimpArgs false
namespace Go.Wr
set_option maxRecDepth 20000
set_option maxHeartbeats 2000000 in
theorem fE (l : List Int) (k : Int) (h0 : 0 <= k) (h1 : k + (wL aI l : Int) <= bL) : fT [.mu (ints .y l), .x (iT k)] = some ⟨[.one (iT (mkL iM l k).2)], [[ints .y (mkL iM l k).1]]⟩ := by
 (refine Z6h rfl ?_; show Ev uw.code _ _ _)
 repeat' (first | refine yt1 ?_ | refine yt0 ?_ | refine yt ?_ ?_ | refine yo ?_ | apply zn | refine yc ?_ | intro _)
 show Ev _ _ _ _
 refine fQ (iT) Z86 h0 h1 rfl ?_ ?_
 ·intro i E x k hi h0 h1 hc ih
  repeat' (first | refine yx (Zav hi) ?_ | (apply zS;exact rfl;exact rfl;exact rfl;exact rfl;exact Zax hi rfl;exact Zaw hi rfl;exact rfl;exact Zay hi rfl;exact rfl;exact rfl;exact rfl) | (apply zl;exact rfl;exact rfl;exact Zax hi rfl;exact rfl;exact rfl;exact rfl) | refine yt1 ?_ | refine yt0 ?_ | refine yt ?_ ?_ | refine yo ?_ | apply zn | refine yc ?_ | intro _)
  exact ih _ _ rfl
 ·intro k E hc hk hE
  repeat' (first | refine yt1 ?_ | refine yt0 ?_ | refine yt ?_ ?_ | refine yo ?_ | apply zn | refine yc ?_ | intro _)
  subst hk hE
  exact fD rfl rfl
set_option maxHeartbeats 2000000 in
theorem GD (x : aN) (k : Int) (h0 : 0 <= k) (h1 : k + (aN.wS x : Int) <= bL) : uy [.ms (x.cs .y), .x (iT k)] = some ⟨[.one (iT (x.mkS k).2)], [(x.mkS k).1.cs .y]⟩ := by
 unfold aN.wS at h1
 have a0 := Zb6 Z86 x.bY _ (0) h0 (by omega)
 have b0 := a0.2
 (refine Z6h rfl ?_; show Ev ux.code _ _ _)
 repeat' (first | refine yM dv (fE x.bY _ h0 (by omega)) ?_ | refine yo ?_ | apply zn | refine yc ?_ | intro _)
 refine fD rfl ?_
 simp only [aN.mkS, Zk4]
 rfl
set_option maxHeartbeats 2000000 in
theorem nm (l : List (List Int)) (k : Int) (h0 : 0 <= k) (h1 : k + (wL (wL aI) l : Int) <= bL) : lH [.mu (dE.lss .y l), .x (iT k)] = some ⟨[.one (iT (mkL (mkL iM) l k).2)], [[dE.lss .y (mkL (mkL iM) l k).1]]⟩ := by
 (refine Z6h rfl ?_; show Ev uz.code _ _ _)
 repeat' (first | refine yt1 ?_ | refine yt0 ?_ | refine yt ?_ ?_ | refine yo ?_ | apply zn | refine yc ?_ | intro _)
 show Ev _ _ _ _
 refine fQ ((ints .y)) (Zb6 Z86) h0 h1 rfl ?_ ?_
 ·intro i E x k hi h0 h1 hc ih
  repeat' (first | refine yx (Zav hi) ?_ | (apply zS;exact rfl;exact rfl;exact rfl;exact rfl;exact Zax hi rfl;exact Zaw hi rfl;exact rfl;exact Zay hi rfl;exact rfl;exact rfl;exact rfl) | (apply zl;exact rfl;exact rfl;exact Zax hi rfl;exact rfl;exact rfl;exact rfl) | refine yM dv (fE x _ h0 (by omega)) ?_ | refine yt1 ?_ | refine yt0 ?_ | refine yt ?_ ?_ | refine yo ?_ | apply zn | refine yc ?_ | intro _)
  exact ih _ _ rfl
 ·intro k E hc hk hE
  repeat' (first | refine yt1 ?_ | refine yt0 ?_ | refine yt ?_ ?_ | refine yo ?_ | apply zn | refine yc ?_ | intro _)
  subst hk hE
  exact fD rfl rfl
set_option maxHeartbeats 2000000 in
theorem jN (l : List aa) (k : Int) (h0 : 0 <= k) (h1 : k + (wL aa.w1 l : Int) <= bL) : jz [.mu (aa.ls .y l), .x (iT k)] = some ⟨[.one (iT (mkL aa.mk1 l k).2)], [[aa.ls .y (mkL aa.mk1 l k).1]]⟩ := by
 (refine Z6h rfl ?_; show Ev uA.code _ _ _)
 repeat' (first | refine yt1 ?_ | refine yt0 ?_ | refine yt ?_ ?_ | refine yo ?_ | apply zn | refine yc ?_ | intro _)
 show Ev _ _ _ _
 refine fQ ((aa.el .y)) aa.ok1 h0 h1 rfl ?_ ?_
 ·intro i E x k hi h0 h1 hc ih
  simp only [aa.w1] at h1
  have a0 := Zi4 (r := 1 + 0) h0 (by omega)
  have b0 := a0.2
  have a1 := Zi4 (r := 0) a0.1 (by omega)
  have b1 := a1.2
  repeat' (first | refine yx (Zav hi) ?_ | (apply zS;exact rfl;exact rfl;exact rfl;exact rfl;exact Zax hi rfl;exact Zaw hi rfl;exact rfl;exact Zay hi rfl;exact rfl;exact rfl;exact rfl) | (apply zl;exact rfl;exact rfl;exact Zax hi rfl;exact rfl;exact rfl;exact rfl) | refine yt1 ?_ | refine yt0 ?_ | refine yt ?_ ?_ | refine yo ?_ | apply zn | refine yc ?_ | intro _)
  exact ih _ _ rfl
 ·intro k E hc hk hE
  repeat' (first | refine yt1 ?_ | refine yt0 ?_ | refine yt ?_ ?_ | refine yo ?_ | apply zn | refine yc ?_ | intro _)
  subst hk hE
  exact fD rfl rfl
set_option maxHeartbeats 2000000 in
theorem zx (l : List ab) (k : Int) (h0 : 0 <= k) (h1 : k + (wL ab.w1 l : Int) <= bL) : oy [.mu (ab.ls .y l), .x (iT k)] = some ⟨[.one (iT (mkL ab.mk1 l k).2)], [[ab.ls .y (mkL ab.mk1 l k).1]]⟩ := by
 (refine Z6h rfl ?_; show Ev uB.code _ _ _)
 repeat' (first | refine yt1 ?_ | refine yt0 ?_ | refine yt ?_ ?_ | refine yo ?_ | apply zn | refine yc ?_ | intro _)
 show Ev _ _ _ _
 refine fQ ((ab.el .y)) ab.ok1 h0 h1 rfl ?_ ?_
 ·intro i E x k hi h0 h1 hc ih
  simp only [ab.w1, ag.w1] at h1
  have a0 := Zi4 (r := 1 + wL aa.w1 x.Ids + 1 + 1 + 1 + 1 + wL aI x.aj.aW + wL aI x.aj.aT + wL (wL aI) x.aj.Rows + 0) h0 (by omega)
  have b0 := a0.2
  have a1 := Zi4 (r := wL aa.w1 x.Ids + 1 + 1 + 1 + 1 + wL aI x.aj.aW + wL aI x.aj.aT + wL (wL aI) x.aj.Rows + 0) a0.1 (by omega)
  have b1 := a1.2
  have a2 := Zb6 aa.ok1 x.Ids _ (1 + 1 + 1 + 1 + wL aI x.aj.aW + wL aI x.aj.aT + wL (wL aI) x.aj.Rows + 0) a1.1 (by omega)
  have b2 := a2.2
  have a3 := Zi4 (r := 1 + 1 + 1 + wL aI x.aj.aW + wL aI x.aj.aT + wL (wL aI) x.aj.Rows + 0) a2.1 (by omega)
  have b3 := a3.2
  have a4 := Zi4 (r := 1 + 1 + wL aI x.aj.aW + wL aI x.aj.aT + wL (wL aI) x.aj.Rows + 0) a3.1 (by omega)
  have b4 := a4.2
  have a5 := Zi4 (r := 1 + wL aI x.aj.aW + wL aI x.aj.aT + wL (wL aI) x.aj.Rows + 0) a4.1 (by omega)
  have b5 := a5.2
  have a6 := Zi4 (r := wL aI x.aj.aW + wL aI x.aj.aT + wL (wL aI) x.aj.Rows + 0) a5.1 (by omega)
  have b6 := a6.2
  have a7 := Zb6 Z86 x.aj.aW _ (wL aI x.aj.aT + wL (wL aI) x.aj.Rows + 0) a6.1 (by omega)
  have b7 := a7.2
  have a8 := Zb6 Z86 x.aj.aT _ (wL (wL aI) x.aj.Rows + 0) a7.1 (by omega)
  have b8 := a8.2
  have a9 := Zb6 (Zb6 Z86) x.aj.Rows _ (0) a8.1 (by omega)
  have b9 := a9.2
  repeat' (first | refine yx (Zav hi) ?_ | (apply zS;exact rfl;exact rfl;exact rfl;exact rfl;exact Zax hi rfl;exact Zaw hi rfl;exact rfl;exact Zay hi rfl;exact rfl;exact rfl;exact rfl) | (apply zl;exact rfl;exact rfl;exact Zax hi rfl;exact rfl;exact rfl;exact rfl) | refine yM fR (jN x.Ids _ a1.1 (by omega)) ?_ | refine yM dv (fE x.aj.aW _ a6.1 (by omega)) ?_ | refine yM dv (fE x.aj.aT _ a7.1 (by omega)) ?_ | refine yM iO (nm x.aj.Rows _ a8.1 (by omega)) ?_ | refine yt1 ?_ | refine yt0 ?_ | refine yt ?_ ?_ | refine yo ?_ | apply zn | refine yc ?_ | intro _)
  exact ih _ _ rfl
 ·intro k E hc hk hE
  repeat' (first | refine yt1 ?_ | refine yt0 ?_ | refine yt ?_ ?_ | refine yo ?_ | apply zn | refine yc ?_ | intro _)
  subst hk hE
  exact fD rfl rfl
set_option maxHeartbeats 2000000 in
theorem GF (l : List ay) (k : Int) (h0 : 0 <= k) (h1 : k + (wL ay.w1 l : Int) <= bL) : uD [.mu (ay.ls .y l), .x (iT k)] = some ⟨[.one (iT (mkL ay.mk1 l k).2)], [[ay.ls .y (mkL ay.mk1 l k).1]]⟩ := by
 (refine Z6h rfl ?_; show Ev uC.code _ _ _)
 repeat' (first | refine yt1 ?_ | refine yt0 ?_ | refine yt ?_ ?_ | refine yo ?_ | apply zn | refine yc ?_ | intro _)
 show Ev _ _ _ _
 refine fQ ((ay.el .y)) ay.ok1 h0 h1 rfl ?_ ?_
 ·intro i E x k hi h0 h1 hc ih
  simp only [ay.w1, ab.w1, ag.w1] at h1
  have a0 := Zi4 (r := 1 + 1 + wL aa.w1 x.aL.Ids + 1 + 1 + 1 + 1 + wL aI x.aL.aj.aW + wL aI x.aL.aj.aT + wL (wL aI) x.aL.aj.Rows + 0) h0 (by omega)
  have b0 := a0.2
  have a1 := Zi4 (r := 1 + wL aa.w1 x.aL.Ids + 1 + 1 + 1 + 1 + wL aI x.aL.aj.aW + wL aI x.aL.aj.aT + wL (wL aI) x.aL.aj.Rows + 0) a0.1 (by omega)
  have b1 := a1.2
  have a2 := Zi4 (r := wL aa.w1 x.aL.Ids + 1 + 1 + 1 + 1 + wL aI x.aL.aj.aW + wL aI x.aL.aj.aT + wL (wL aI) x.aL.aj.Rows + 0) a1.1 (by omega)
  have b2 := a2.2
  have a3 := Zb6 aa.ok1 x.aL.Ids _ (1 + 1 + 1 + 1 + wL aI x.aL.aj.aW + wL aI x.aL.aj.aT + wL (wL aI) x.aL.aj.Rows + 0) a2.1 (by omega)
  have b3 := a3.2
  have a4 := Zi4 (r := 1 + 1 + 1 + wL aI x.aL.aj.aW + wL aI x.aL.aj.aT + wL (wL aI) x.aL.aj.Rows + 0) a3.1 (by omega)
  have b4 := a4.2
  have a5 := Zi4 (r := 1 + 1 + wL aI x.aL.aj.aW + wL aI x.aL.aj.aT + wL (wL aI) x.aL.aj.Rows + 0) a4.1 (by omega)
  have b5 := a5.2
  have a6 := Zi4 (r := 1 + wL aI x.aL.aj.aW + wL aI x.aL.aj.aT + wL (wL aI) x.aL.aj.Rows + 0) a5.1 (by omega)
  have b6 := a6.2
  have a7 := Zi4 (r := wL aI x.aL.aj.aW + wL aI x.aL.aj.aT + wL (wL aI) x.aL.aj.Rows + 0) a6.1 (by omega)
  have b7 := a7.2
  have a8 := Zb6 Z86 x.aL.aj.aW _ (wL aI x.aL.aj.aT + wL (wL aI) x.aL.aj.Rows + 0) a7.1 (by omega)
  have b8 := a8.2
  have a9 := Zb6 Z86 x.aL.aj.aT _ (wL (wL aI) x.aL.aj.Rows + 0) a8.1 (by omega)
  have b9 := a9.2
  have a10 := Zb6 (Zb6 Z86) x.aL.aj.Rows _ (0) a9.1 (by omega)
  have b10 := a10.2
  repeat' (first | refine yx (Zav hi) ?_ | (apply zS;exact rfl;exact rfl;exact rfl;exact rfl;exact Zax hi rfl;exact Zaw hi rfl;exact rfl;exact Zay hi rfl;exact rfl;exact rfl;exact rfl) | (apply zl;exact rfl;exact rfl;exact Zax hi rfl;exact rfl;exact rfl;exact rfl) | refine yM fR (jN x.aL.Ids _ a2.1 (by omega)) ?_ | refine yM dv (fE x.aL.aj.aW _ a7.1 (by omega)) ?_ | refine yM dv (fE x.aL.aj.aT _ a8.1 (by omega)) ?_ | refine yM iO (nm x.aL.aj.Rows _ a9.1 (by omega)) ?_ | refine yt1 ?_ | refine yt0 ?_ | refine yt ?_ ?_ | refine yo ?_ | apply zn | refine yc ?_ | intro _)
  exact ih _ _ rfl
 ·intro k E hc hk hE
  repeat' (first | refine yt1 ?_ | refine yt0 ?_ | refine yt ?_ ?_ | refine yo ?_ | apply zn | refine yc ?_ | intro _)
  subst hk hE
  exact fD rfl rfl
set_option maxHeartbeats 2000000 in
theorem GG (l : List ai) (k : Int) (h0 : 0 <= k) (h1 : k + (wL ai.w1 l : Int) <= bL) : uF [.mu (ai.ls .y l), .x (iT k)] = some ⟨[.one (iT (mkL ai.mk1 l k).2)], [[ai.ls .y (mkL ai.mk1 l k).1]]⟩ := by
 (refine Z6h rfl ?_; show Ev uE.code _ _ _)
 repeat' (first | refine yt1 ?_ | refine yt0 ?_ | refine yt ?_ ?_ | refine yo ?_ | apply zn | refine yc ?_ | intro _)
 show Ev _ _ _ _
 refine fQ ((ai.el .y)) ai.ok1 h0 h1 rfl ?_ ?_
 ·intro i E x k hi h0 h1 hc ih
  simp only [ai.w1] at h1
  have a0 := Zb6 ab.ok1 x.Lst _ (0) h0 (by omega)
  have b0 := a0.2
  repeat' (first | refine yx (Zav hi) ?_ | (apply zS;exact rfl;exact rfl;exact rfl;exact rfl;exact Zax hi rfl;exact Zaw hi rfl;exact rfl;exact Zay hi rfl;exact rfl;exact rfl;exact rfl) | (apply zl;exact rfl;exact rfl;exact Zax hi rfl;exact rfl;exact rfl;exact rfl) | refine yM mA (zx x.Lst _ h0 (by omega)) ?_ | refine yt1 ?_ | refine yt0 ?_ | refine yt ?_ ?_ | refine yo ?_ | apply zn | refine yc ?_ | intro _)
  exact ih _ _ rfl
 ·intro k E hc hk hE
  repeat' (first | refine yt1 ?_ | refine yt0 ?_ | refine yt ?_ ?_ | refine yo ?_ | apply zn | refine yc ?_ | intro _)
  subst hk hE
  exact fD rfl rfl
set_option maxHeartbeats 2000000 in
theorem GH (l : List (List ai)) (k : Int) (h0 : 0 <= k) (h1 : k + (wL (wL ai.w1) l : Int) <= bL) : uH [.mu (ai.lss .y l), .x (iT k)] = some ⟨[.one (iT (mkL (mkL ai.mk1) l k).2)], [[ai.lss .y (mkL (mkL ai.mk1) l k).1]]⟩ := by
 (refine Z6h rfl ?_; show Ev uG.code _ _ _)
 repeat' (first | refine yt1 ?_ | refine yt0 ?_ | refine yt ?_ ?_ | refine yo ?_ | apply zn | refine yc ?_ | intro _)
 show Ev _ _ _ _
 refine fQ ((ai.ls .y)) (Zb6 ai.ok1) h0 h1 rfl ?_ ?_
 ·intro i E x k hi h0 h1 hc ih
  repeat' (first | refine yx (Zav hi) ?_ | (apply zS;exact rfl;exact rfl;exact rfl;exact rfl;exact Zax hi rfl;exact Zaw hi rfl;exact rfl;exact Zay hi rfl;exact rfl;exact rfl;exact rfl) | (apply zl;exact rfl;exact rfl;exact Zax hi rfl;exact rfl;exact rfl;exact rfl) | refine yM rI (GG x _ h0 (by omega)) ?_ | refine yt1 ?_ | refine yt0 ?_ | refine yt ?_ ?_ | refine yo ?_ | apply zn | refine yc ?_ | intro _)
  exact ih _ _ rfl
 ·intro k E hc hk hE
  repeat' (first | refine yt1 ?_ | refine yt0 ?_ | refine yt ?_ ?_ | refine yo ?_ | apply zn | refine yc ?_ | intro _)
  subst hk hE
  exact fD rfl rfl
set_option maxHeartbeats 2000000 in
theorem GI (l : List al) (k : Int) (h0 : 0 <= k) (h1 : k + (wL al.w1 l : Int) <= bL) : uJ [.mu (al.ls .y l), .x (iT k)] = some ⟨[.one (iT (mkL al.mk1 l k).2)], [[al.ls .y (mkL al.mk1 l k).1]]⟩ := by
 (refine Z6h rfl ?_; show Ev uI.code _ _ _)
 repeat' (first | refine yt1 ?_ | refine yt0 ?_ | refine yt ?_ ?_ | refine yo ?_ | apply zn | refine yc ?_ | intro _)
 show Ev _ _ _ _
 refine fQ ((al.el .y)) al.ok1 h0 h1 rfl ?_ ?_
 ·intro i E x k hi h0 h1 hc ih
  simp only [al.w1] at h1
  have a0 := Zi4 (r := 1 + wL aa.w1 x.aJ + 1 + 1 + 0) h0 (by omega)
  have b0 := a0.2
  have a1 := Zi4 (r := wL aa.w1 x.aJ + 1 + 1 + 0) a0.1 (by omega)
  have b1 := a1.2
  have a2 := Zb6 aa.ok1 x.aJ _ (1 + 1 + 0) a1.1 (by omega)
  have b2 := a2.2
  have a3 := Zi4 (r := 1 + 0) a2.1 (by omega)
  have b3 := a3.2
  have a4 := Zi4 (r := 0) a3.1 (by omega)
  have b4 := a4.2
  repeat' (first | refine yx (Zav hi) ?_ | (apply zS;exact rfl;exact rfl;exact rfl;exact rfl;exact Zax hi rfl;exact Zaw hi rfl;exact rfl;exact Zay hi rfl;exact rfl;exact rfl;exact rfl) | (apply zl;exact rfl;exact rfl;exact Zax hi rfl;exact rfl;exact rfl;exact rfl) | refine yM fR (jN x.aJ _ a1.1 (by omega)) ?_ | refine yt1 ?_ | refine yt0 ?_ | refine yt ?_ ?_ | refine yo ?_ | apply zn | refine yc ?_ | intro _)
  exact ih _ _ rfl
 ·intro k E hc hk hE
  repeat' (first | refine yt1 ?_ | refine yt0 ?_ | refine yt ?_ ?_ | refine yo ?_ | apply zn | refine yc ?_ | intro _)
  subst hk hE
  exact fD rfl rfl
set_option maxHeartbeats 2000000 in
theorem GJ (l : List au) (k : Int) (h0 : 0 <= k) (h1 : k + (wL au.w1 l : Int) <= bL) : uL [.mu (au.ls .y l), .x (iT k)] = some ⟨[.one (iT (mkL au.mk1 l k).2)], [[au.ls .y (mkL au.mk1 l k).1]]⟩ := by
 (refine Z6h rfl ?_; show Ev uK.code _ _ _)
 repeat' (first | refine yt1 ?_ | refine yt0 ?_ | refine yt ?_ ?_ | refine yo ?_ | apply zn | refine yc ?_ | intro _)
 show Ev _ _ _ _
 refine fQ ((au.el .y)) au.ok1 h0 h1 rfl ?_ ?_
 ·intro i E x k hi h0 h1 hc ih
  simp only [au.w1] at h1
  have a0 := Zi4 (r := 1 + wL aI x.Left + 0) h0 (by omega)
  have b0 := a0.2
  have a1 := Zi4 (r := wL aI x.Left + 0) a0.1 (by omega)
  have b1 := a1.2
  have a2 := Zb6 Z86 x.Left _ (0) a1.1 (by omega)
  have b2 := a2.2
  repeat' (first | refine yx (Zav hi) ?_ | (apply zS;exact rfl;exact rfl;exact rfl;exact rfl;exact Zax hi rfl;exact Zaw hi rfl;exact rfl;exact Zay hi rfl;exact rfl;exact rfl;exact rfl) | (apply zl;exact rfl;exact rfl;exact Zax hi rfl;exact rfl;exact rfl;exact rfl) | refine yM dv (fE x.Left _ a1.1 (by omega)) ?_ | refine yt1 ?_ | refine yt0 ?_ | refine yt ?_ ?_ | refine yo ?_ | apply zn | refine yc ?_ | intro _)
  exact ih _ _ rfl
 ·intro k E hc hk hE
  repeat' (first | refine yt1 ?_ | refine yt0 ?_ | refine yt ?_ ?_ | refine yo ?_ | apply zn | refine yc ?_ | intro _)
  subst hk hE
  exact fD rfl rfl
set_option maxHeartbeats 2000000 in
theorem pR (x : ao) (k : Int) (h0 : 0 <= k) (h1 : k + (ao.wS x : Int) <= bL) : mT [.ms (x.cs .y), .x (iT k)] = some ⟨[.one (iT (x.mkS k).2)], [(x.mkS k).1.cs .y]⟩ := by
 unfold ao.wS at h1
 have a0 := aN.okS x.bP _ (wL al.w1 x.aO + wL (wL ai.w1) x.Rows + wL au.w1 x.bX + wL ab.w1 x.aH + wL ay.w1 x.aY + 0) h0 (by omega)
 have b0 := a0.2
 have a1 := Zb6 al.ok1 x.aO _ (wL (wL ai.w1) x.Rows + wL au.w1 x.bX + wL ab.w1 x.aH + wL ay.w1 x.aY + 0) a0.1 (by omega)
 have b1 := a1.2
 have a2 := Zb6 (Zb6 ai.ok1) x.Rows _ (wL au.w1 x.bX + wL ab.w1 x.aH + wL ay.w1 x.aY + 0) a1.1 (by omega)
 have b2 := a2.2
 have a3 := Zb6 au.ok1 x.bX _ (wL ab.w1 x.aH + wL ay.w1 x.aY + 0) a2.1 (by omega)
 have b3 := a3.2
 have a4 := Zb6 ab.ok1 x.aH _ (wL ay.w1 x.aY + 0) a3.1 (by omega)
 have b4 := a4.2
 have a5 := Zb6 ay.ok1 x.aY _ (0) a4.1 (by omega)
 have b5 := a5.2
 (refine Z6h rfl ?_; show Ev uM.code _ _ _)
 repeat' (first | refine yN rG (GD x.bP _ h0 (by omega)) ?_ | refine yM rK (GI x.aO _ a0.1 (by omega)) ?_ | refine yM rJ (GH x.Rows _ a1.1 (by omega)) ?_ | refine yM rL (GJ x.bX _ a2.1 (by omega)) ?_ | refine yM mA (zx x.aH _ a3.1 (by omega)) ?_ | refine yM rH (GF x.aY _ a4.1 (by omega)) ?_ | refine yo ?_ | apply zn | refine yc ?_ | intro _)
 refine fD rfl ?_
 simp only [ao.mkS, aN.mkS, Zk4]
 rfl
end Go.Wr
namespace Go.Wr
set_option maxRecDepth 20000
theorem pT (l : List Int) (k : Int) (h0 : 0 <= k) (h1 : k + (wL aI l : Int) <= bL) : mS [.x (ints .n (mkL iM l k).1), .x (iT k)] = some ⟨[.one (iT (mkL iM l k).2)], []⟩ := by
 (refine Z6j rfl ?_; show Ev uo.code _ _ _)
 repeat' (first | refine yt1 ?_ | refine yt0 ?_ | refine yt ?_ ?_ | refine yo ?_ | apply zn | refine yc ?_ | intro _)
 show Ev _ _ _ _
 refine rb (iT) Z86 h0 h1 rfl ?_ ?_
 ·intro i E x k hE h0 h1 hc ih
  repeat' (first | refine yi _ hE ?_ | refine yt0 ?_ (ht := neI _) | refine yt0 ?_ (ht := neB _) | refine yt1 ?_ | refine yt0 ?_ | refine yt ?_ ?_ | refine yo ?_ | apply zn | refine yc ?_ | intro _)
  exact ih _ _ rfl
 ·intro k E hc hk
  repeat' (first | refine yt1 ?_ | refine yt0 ?_ | refine yt ?_ ?_ | refine yo ?_ | apply zn | refine yc ?_ | intro _)
  subst hk
  exact fin rfl rfl
theorem GP (l : List (List Int)) (k : Int) (h0 : 0 <= k) (h1 : k + (wL (wL aI) l : Int) <= bL) : ur [.x (dE.lss .n (mkL (mkL iM) l k).1), .x (iT k)] = some ⟨[.one (iT (mkL (mkL iM) l k).2)], []⟩ := by
 (refine Z6j rfl ?_; show Ev uq.code _ _ _)
 repeat' (first | refine yt1 ?_ | refine yt0 ?_ | refine yt ?_ ?_ | refine yo ?_ | apply zn | refine yc ?_ | intro _)
 show Ev _ _ _ _
 refine rb ((ints .n)) (Zb6 Z86) h0 h1 rfl ?_ ?_
 ·intro i E x k hE h0 h1 hc ih
  have a0 := (Zb6 Z86) x _ 0 h0 (by omega)
  have c0 := nnd a0.1
  repeat' (first | refine yi _ hE ?_ | refine yt0 ?_ (ht := neI _) | refine yt0 ?_ (ht := neB _) | refine yv kg (pT x _ h0 (by omega)) ?_ | refine yt1 ?_ | refine yt0 ?_ | refine yt ?_ ?_ | refine yo ?_ | apply zn | refine yc ?_ | intro _)
  exact ih _ _ rfl
 ·intro k E hc hk
  repeat' (first | refine yt1 ?_ | refine yt0 ?_ | refine yt ?_ ?_ | refine yo ?_ | apply zn | refine yc ?_ | intro _)
  subst hk
  exact fin rfl rfl
set_option maxHeartbeats 2000000 in
theorem zB (l : List aa) (k : Int) (h0 : 0 <= k) (h1 : k + (wL aa.w1 l : Int) <= bL) : lK [.x (aa.ls .n (mkL aa.mk1 l k).1), .x (iT k)] = some ⟨[.one (iT (mkL aa.mk1 l k).2)], []⟩ := by
 (refine Z6j rfl ?_; show Ev wQ.code _ _ _)
 repeat' (first | refine yt1 ?_ | refine yt0 ?_ | refine yt ?_ ?_ | refine yo ?_ | apply zn | refine yc ?_ | intro _)
 show Ev _ _ _ _
 refine rb ((aa.el .n)) aa.ok1 h0 h1 rfl ?_ ?_
 ·intro i E x k hE h0 h1 hc ih
  simp only [aa.w1] at h1
  have a0 := Zi4 (r := 1 + 0) h0 (by omega)
  have b0 := a0.2
  have a1 := Zi4 (r := 0) a0.1 (by omega)
  have b1 := a1.2
  repeat' (first | refine yi _ hE ?_ | refine yt0 ?_ (ht := neI _) | refine yt0 ?_ (ht := neB _) | refine yt1 ?_ | refine yt0 ?_ | refine yt ?_ ?_ | refine yo ?_ | apply zn | refine yc ?_ | intro _)
  exact ih _ _ rfl
 ·intro k E hc hk
  repeat' (first | refine yt1 ?_ | refine yt0 ?_ | refine yt ?_ ?_ | refine yo ?_ | apply zn | refine yc ?_ | intro _)
  subst hk
  exact fin rfl rfl
set_option maxHeartbeats 2000000 in
theorem PK (x : aN) (k : Int) (h0 : 0 <= k) (h1 : k + (aN.wS x : Int) <= bL) : On [.st ((x.mkS k).1.cs .n), .x (iT k)] = some ⟨[.one (iT (x.mkS k).2)], []⟩ := by
 unfold aN.wS at h1
 have a0 := Zb6 Z86 x.bY _ (0) h0 (by omega)
 have b0 := a0.2
 have c0 := nnd a0.1
 (refine Z6j rfl ?_; show Ev Om.code _ _ _)
 repeat' (first | refine yv kg (pT x.bY _ h0 (by omega)) ?_ | refine yt1 ?_ | refine yt0 ?_ | refine yt ?_ ?_ | refine yo ?_ | apply zn | refine yc ?_ | intro _)
 exact fin rfl rfl
set_option maxHeartbeats 2000000 in
theorem O1 (l : List ab) (k : Int) (h0 : 0 <= k) (h1 : k + (wL ab.w1 l : Int) <= bL) : Np [.x (ab.ls .n (mkL ab.mk1 l k).1), .x (iT k)] = some ⟨[.one (iT (mkL ab.mk1 l k).2)], []⟩ := by
 (refine Z6j rfl ?_; show Ev Oo.code _ _ _)
 repeat' (first | refine yt1 ?_ | refine yt0 ?_ | refine yt ?_ ?_ | refine yo ?_ | apply zn | refine yc ?_ | intro _)
 show Ev _ _ _ _
 refine rb ((ab.el .n)) ab.ok1 h0 h1 rfl ?_ ?_
 ·intro i E x k hE h0 h1 hc ih
  simp only [ab.w1, ag.w1] at h1
  have a0 := Zi4 (r := 1 + wL aa.w1 x.Ids + 1 + 1 + 1 + 1 + wL aI x.aj.aW + wL aI x.aj.aT + wL (wL aI) x.aj.Rows + 0) h0 (by omega)
  have b0 := a0.2
  have a1 := Zi4 (r := wL aa.w1 x.Ids + 1 + 1 + 1 + 1 + wL aI x.aj.aW + wL aI x.aj.aT + wL (wL aI) x.aj.Rows + 0) a0.1 (by omega)
  have b1 := a1.2
  have a2 := Zb6 aa.ok1 x.Ids _ (1 + 1 + 1 + 1 + wL aI x.aj.aW + wL aI x.aj.aT + wL (wL aI) x.aj.Rows + 0) a1.1 (by omega)
  have b2 := a2.2
  have a3 := Zi4 (r := 1 + 1 + 1 + wL aI x.aj.aW + wL aI x.aj.aT + wL (wL aI) x.aj.Rows + 0) a2.1 (by omega)
  have b3 := a3.2
  have a4 := Zi4 (r := 1 + 1 + wL aI x.aj.aW + wL aI x.aj.aT + wL (wL aI) x.aj.Rows + 0) a3.1 (by omega)
  have b4 := a4.2
  have a5 := Zi4 (r := 1 + wL aI x.aj.aW + wL aI x.aj.aT + wL (wL aI) x.aj.Rows + 0) a4.1 (by omega)
  have b5 := a5.2
  have a6 := Zi4 (r := wL aI x.aj.aW + wL aI x.aj.aT + wL (wL aI) x.aj.Rows + 0) a5.1 (by omega)
  have b6 := a6.2
  have a7 := Zb6 Z86 x.aj.aW _ (wL aI x.aj.aT + wL (wL aI) x.aj.Rows + 0) a6.1 (by omega)
  have b7 := a7.2
  have a8 := Zb6 Z86 x.aj.aT _ (wL (wL aI) x.aj.Rows + 0) a7.1 (by omega)
  have b8 := a8.2
  have a9 := Zb6 (Zb6 Z86) x.aj.Rows _ (0) a8.1 (by omega)
  have b9 := a9.2
  have c2 := nnd a2.1
  have c7 := nnd a7.1
  have c8 := nnd a8.1
  have c9 := nnd a9.1
  repeat' (first | refine yi _ hE ?_ | refine yt0 ?_ (ht := neI _) | refine yt0 ?_ (ht := neB _) | refine yv kw (zB x.Ids _ a1.1 (by omega)) ?_ | refine yv kg (pT x.aj.aW _ a6.1 (by omega)) ?_ | refine yv kg (pT x.aj.aT _ a7.1 (by omega)) ?_ | refine yv rF (GP x.aj.Rows _ a8.1 (by omega)) ?_ | refine yt1 ?_ | refine yt0 ?_ | refine yt ?_ ?_ | refine yo ?_ | apply zn | refine yc ?_ | intro _)
  exact ih _ _ rfl
 ·intro k E hc hk
  repeat' (first | refine yt1 ?_ | refine yt0 ?_ | refine yt ?_ ?_ | refine yo ?_ | apply zn | refine yc ?_ | intro _)
  subst hk
  exact fin rfl rfl
set_option maxHeartbeats 2000000 in
theorem PL (l : List ay) (k : Int) (h0 : 0 <= k) (h1 : k + (wL ay.w1 l : Int) <= bL) : Ot [.x (ay.ls .n (mkL ay.mk1 l k).1), .x (iT k)] = some ⟨[.one (iT (mkL ay.mk1 l k).2)], []⟩ := by
 (refine Z6j rfl ?_; show Ev Oq.code _ _ _)
 repeat' (first | refine yt1 ?_ | refine yt0 ?_ | refine yt ?_ ?_ | refine yo ?_ | apply zn | refine yc ?_ | intro _)
 show Ev _ _ _ _
 refine rb ((ay.el .n)) ay.ok1 h0 h1 rfl ?_ ?_
 ·intro i E x k hE h0 h1 hc ih
  simp only [ay.w1, ab.w1, ag.w1] at h1
  have a0 := Zi4 (r := 1 + 1 + wL aa.w1 x.aL.Ids + 1 + 1 + 1 + 1 + wL aI x.aL.aj.aW + wL aI x.aL.aj.aT + wL (wL aI) x.aL.aj.Rows + 0) h0 (by omega)
  have b0 := a0.2
  have a1 := Zi4 (r := 1 + wL aa.w1 x.aL.Ids + 1 + 1 + 1 + 1 + wL aI x.aL.aj.aW + wL aI x.aL.aj.aT + wL (wL aI) x.aL.aj.Rows + 0) a0.1 (by omega)
  have b1 := a1.2
  have a2 := Zi4 (r := wL aa.w1 x.aL.Ids + 1 + 1 + 1 + 1 + wL aI x.aL.aj.aW + wL aI x.aL.aj.aT + wL (wL aI) x.aL.aj.Rows + 0) a1.1 (by omega)
  have b2 := a2.2
  have a3 := Zb6 aa.ok1 x.aL.Ids _ (1 + 1 + 1 + 1 + wL aI x.aL.aj.aW + wL aI x.aL.aj.aT + wL (wL aI) x.aL.aj.Rows + 0) a2.1 (by omega)
  have b3 := a3.2
  have a4 := Zi4 (r := 1 + 1 + 1 + wL aI x.aL.aj.aW + wL aI x.aL.aj.aT + wL (wL aI) x.aL.aj.Rows + 0) a3.1 (by omega)
  have b4 := a4.2
  have a5 := Zi4 (r := 1 + 1 + wL aI x.aL.aj.aW + wL aI x.aL.aj.aT + wL (wL aI) x.aL.aj.Rows + 0) a4.1 (by omega)
  have b5 := a5.2
  have a6 := Zi4 (r := 1 + wL aI x.aL.aj.aW + wL aI x.aL.aj.aT + wL (wL aI) x.aL.aj.Rows + 0) a5.1 (by omega)
  have b6 := a6.2
  have a7 := Zi4 (r := wL aI x.aL.aj.aW + wL aI x.aL.aj.aT + wL (wL aI) x.aL.aj.Rows + 0) a6.1 (by omega)
  have b7 := a7.2
  have a8 := Zb6 Z86 x.aL.aj.aW _ (wL aI x.aL.aj.aT + wL (wL aI) x.aL.aj.Rows + 0) a7.1 (by omega)
  have b8 := a8.2
  have a9 := Zb6 Z86 x.aL.aj.aT _ (wL (wL aI) x.aL.aj.Rows + 0) a8.1 (by omega)
  have b9 := a9.2
  have a10 := Zb6 (Zb6 Z86) x.aL.aj.Rows _ (0) a9.1 (by omega)
  have b10 := a10.2
  have c3 := nnd a3.1
  have c8 := nnd a8.1
  have c9 := nnd a9.1
  have c10 := nnd a10.1
  repeat' (first | refine yi _ hE ?_ | refine yt0 ?_ (ht := neI _) | refine yt0 ?_ (ht := neB _) | refine yv kw (zB x.aL.Ids _ a2.1 (by omega)) ?_ | refine yv kg (pT x.aL.aj.aW _ a7.1 (by omega)) ?_ | refine yv kg (pT x.aL.aj.aT _ a8.1 (by omega)) ?_ | refine yv rF (GP x.aL.aj.Rows _ a9.1 (by omega)) ?_ | refine yt1 ?_ | refine yt0 ?_ | refine yt ?_ ?_ | refine yo ?_ | apply zn | refine yc ?_ | intro _)
  exact ih _ _ rfl
 ·intro k E hc hk
  repeat' (first | refine yt1 ?_ | refine yt0 ?_ | refine yt ?_ ?_ | refine yo ?_ | apply zn | refine yc ?_ | intro _)
  subst hk
  exact fin rfl rfl
set_option maxHeartbeats 2000000 in
theorem PM (l : List ai) (k : Int) (h0 : 0 <= k) (h1 : k + (wL ai.w1 l : Int) <= bL) : Ov [.x (ai.ls .n (mkL ai.mk1 l k).1), .x (iT k)] = some ⟨[.one (iT (mkL ai.mk1 l k).2)], []⟩ := by
 (refine Z6j rfl ?_; show Ev Ou.code _ _ _)
 repeat' (first | refine yt1 ?_ | refine yt0 ?_ | refine yt ?_ ?_ | refine yo ?_ | apply zn | refine yc ?_ | intro _)
 show Ev _ _ _ _
 refine rb ((ai.el .n)) ai.ok1 h0 h1 rfl ?_ ?_
 ·intro i E x k hE h0 h1 hc ih
  simp only [ai.w1] at h1
  have a0 := Zb6 ab.ok1 x.Lst _ (0) h0 (by omega)
  have b0 := a0.2
  have c0 := nnd a0.1
  repeat' (first | refine yi _ hE ?_ | refine yt0 ?_ (ht := neI _) | refine yt0 ?_ (ht := neB _) | refine yv M8 (O1 x.Lst _ h0 (by omega)) ?_ | refine yt1 ?_ | refine yt0 ?_ | refine yt ?_ ?_ | refine yo ?_ | apply zn | refine yc ?_ | intro _)
  exact ih _ _ rfl
 ·intro k E hc hk
  repeat' (first | refine yt1 ?_ | refine yt0 ?_ | refine yt ?_ ?_ | refine yo ?_ | apply zn | refine yc ?_ | intro _)
  subst hk
  exact fin rfl rfl
theorem PN (l : List (List ai)) (k : Int) (h0 : 0 <= k) (h1 : k + (wL (wL ai.w1) l : Int) <= bL) : Oy [.x (ai.lss .n (mkL (mkL ai.mk1) l k).1), .x (iT k)] = some ⟨[.one (iT (mkL (mkL ai.mk1) l k).2)], []⟩ := by
 (refine Z6j rfl ?_; show Ev Ox.code _ _ _)
 repeat' (first | refine yt1 ?_ | refine yt0 ?_ | refine yt ?_ ?_ | refine yo ?_ | apply zn | refine yc ?_ | intro _)
 show Ev _ _ _ _
 refine rb ((ai.ls .n)) (Zb6 ai.ok1) h0 h1 rfl ?_ ?_
 ·intro i E x k hE h0 h1 hc ih
  have a0 := (Zb6 ai.ok1) x _ 0 h0 (by omega)
  have c0 := nnd a0.1
  repeat' (first | refine yi _ hE ?_ | refine yt0 ?_ (ht := neI _) | refine yt0 ?_ (ht := neB _) | refine yv NQ (PM x _ h0 (by omega)) ?_ | refine yt1 ?_ | refine yt0 ?_ | refine yt ?_ ?_ | refine yo ?_ | apply zn | refine yc ?_ | intro _)
  exact ih _ _ rfl
 ·intro k E hc hk
  repeat' (first | refine yt1 ?_ | refine yt0 ?_ | refine yt ?_ ?_ | refine yo ?_ | apply zn | refine yc ?_ | intro _)
  subst hk
  exact fin rfl rfl
set_option maxHeartbeats 2000000 in
theorem PO (l : List al) (k : Int) (h0 : 0 <= k) (h1 : k + (wL al.w1 l : Int) <= bL) : OA [.x (al.ls .n (mkL al.mk1 l k).1), .x (iT k)] = some ⟨[.one (iT (mkL al.mk1 l k).2)], []⟩ := by
 (refine Z6j rfl ?_; show Ev Oz.code _ _ _)
 repeat' (first | refine yt1 ?_ | refine yt0 ?_ | refine yt ?_ ?_ | refine yo ?_ | apply zn | refine yc ?_ | intro _)
 show Ev _ _ _ _
 refine rb ((al.el .n)) al.ok1 h0 h1 rfl ?_ ?_
 ·intro i E x k hE h0 h1 hc ih
  simp only [al.w1] at h1
  have a0 := Zi4 (r := 1 + wL aa.w1 x.aJ + 1 + 1 + 0) h0 (by omega)
  have b0 := a0.2
  have a1 := Zi4 (r := wL aa.w1 x.aJ + 1 + 1 + 0) a0.1 (by omega)
  have b1 := a1.2
  have a2 := Zb6 aa.ok1 x.aJ _ (1 + 1 + 0) a1.1 (by omega)
  have b2 := a2.2
  have a3 := Zi4 (r := 1 + 0) a2.1 (by omega)
  have b3 := a3.2
  have a4 := Zi4 (r := 0) a3.1 (by omega)
  have b4 := a4.2
  have c2 := nnd a2.1
  repeat' (first | refine yi _ hE ?_ | refine yt0 ?_ (ht := neI _) | refine yt0 ?_ (ht := neB _) | refine yv kw (zB x.aJ _ a1.1 (by omega)) ?_ | refine yt1 ?_ | refine yt0 ?_ | refine yt ?_ ?_ | refine yo ?_ | apply zn | refine yc ?_ | intro _)
  exact ih _ _ rfl
 ·intro k E hc hk
  repeat' (first | refine yt1 ?_ | refine yt0 ?_ | refine yt ?_ ?_ | refine yo ?_ | apply zn | refine yc ?_ | intro _)
  subst hk
  exact fin rfl rfl
set_option maxHeartbeats 2000000 in
theorem PP (l : List au) (k : Int) (h0 : 0 <= k) (h1 : k + (wL au.w1 l : Int) <= bL) : OC [.x (au.ls .n (mkL au.mk1 l k).1), .x (iT k)] = some ⟨[.one (iT (mkL au.mk1 l k).2)], []⟩ := by
 (refine Z6j rfl ?_; show Ev OB.code _ _ _)
 repeat' (first | refine yt1 ?_ | refine yt0 ?_ | refine yt ?_ ?_ | refine yo ?_ | apply zn | refine yc ?_ | intro _)
 show Ev _ _ _ _
 refine rb ((au.el .n)) au.ok1 h0 h1 rfl ?_ ?_
 ·intro i E x k hE h0 h1 hc ih
  simp only [au.w1] at h1
  have a0 := Zi4 (r := 1 + wL aI x.Left + 0) h0 (by omega)
  have b0 := a0.2
  have a1 := Zi4 (r := wL aI x.Left + 0) a0.1 (by omega)
  have b1 := a1.2
  have a2 := Zb6 Z86 x.Left _ (0) a1.1 (by omega)
  have b2 := a2.2
  have c2 := nnd a2.1
  repeat' (first | refine yi _ hE ?_ | refine yt0 ?_ (ht := neI _) | refine yt0 ?_ (ht := neB _) | refine yv kg (pT x.Left _ a1.1 (by omega)) ?_ | refine yt1 ?_ | refine yt0 ?_ | refine yt ?_ ?_ | refine yo ?_ | apply zn | refine yc ?_ | intro _)
  exact ih _ _ rfl
 ·intro k E hc hk
  repeat' (first | refine yt1 ?_ | refine yt0 ?_ | refine yt ?_ ?_ | refine yo ?_ | apply zn | refine yc ?_ | intro _)
  subst hk
  exact fin rfl rfl
set_option maxHeartbeats 2000000 in
theorem NC (x : ao) (k : Int) (h0 : 0 <= k) (h1 : k + (ao.wS x : Int) <= bL) : MX [.st ((x.mkS k).1.cs .n), .x (iT k)] = some ⟨[.one (iT (x.mkS k).2)], []⟩ := by
 unfold ao.wS at h1
 have a0 := aN.okS x.bP _ (wL al.w1 x.aO + wL (wL ai.w1) x.Rows + wL au.w1 x.bX + wL ab.w1 x.aH + wL ay.w1 x.aY + 0) h0 (by omega)
 have b0 := a0.2
 have a1 := Zb6 al.ok1 x.aO _ (wL (wL ai.w1) x.Rows + wL au.w1 x.bX + wL ab.w1 x.aH + wL ay.w1 x.aY + 0) a0.1 (by omega)
 have b1 := a1.2
 have a2 := Zb6 (Zb6 ai.ok1) x.Rows _ (wL au.w1 x.bX + wL ab.w1 x.aH + wL ay.w1 x.aY + 0) a1.1 (by omega)
 have b2 := a2.2
 have a3 := Zb6 au.ok1 x.bX _ (wL ab.w1 x.aH + wL ay.w1 x.aY + 0) a2.1 (by omega)
 have b3 := a3.2
 have a4 := Zb6 ab.ok1 x.aH _ (wL ay.w1 x.aY + 0) a3.1 (by omega)
 have b4 := a4.2
 have a5 := Zb6 ay.ok1 x.aY _ (0) a4.1 (by omega)
 have b5 := a5.2
 have c0 := nnd a0.1
 have c1 := nnd a1.1
 have c2 := nnd a2.1
 have c3 := nnd a3.1
 have c4 := nnd a4.1
 have c5 := nnd a5.1
 (refine Z6j rfl ?_; show Ev OD.code _ _ _)
 repeat' (first | refine yv NO (PK x.bP _ h0 (by omega)) ?_ | refine yv NS (PO x.aO _ a0.1 (by omega)) ?_ | refine yv NR (PN x.Rows _ a1.1 (by omega)) ?_ | refine yv NT (PP x.bX _ a2.1 (by omega)) ?_ | refine yv M8 (O1 x.aH _ a3.1 (by omega)) ?_ | refine yv NP (PL x.aY _ a4.1 (by omega)) ?_ | refine yt1 ?_ | refine yt0 ?_ | refine yt ?_ ?_ | refine yo ?_ | apply zn | refine yc ?_ | intro _)
 exact fin rfl rfl
end Go.Wr

