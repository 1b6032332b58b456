/-
  What is proved: lemmas on the way to the laws of this seat. No condition.
-/
import Derived.Test.YtbghjecopkbhlaaGreatMa
import Derived.Test.YtbghjecopkbhlaaGreatTa
set_option linter.unusedVariables false
set_option linter.unusedSimpArgs false
namespace Go.Wr
set_option maxRecDepth 20000
set_option maxHeartbeats 2000000 in
theorem q1v_eq (l : List Int) (k : Int) (h0 : 0 <= k) (h1 : k + (wL one1 l : Int) <= top62) : F_q1v [.mu (ints .y l), .x (iT k)] = some ⟨[.one (iT (mkL iM l k).2)], [[ints .y (mkL iM l k).1]]⟩ := by
 (refine Z6h rfl ?_; show Ev m_q1v.code _ _ _)
 repeat' (first | refine yt1 ?_ | refine yt0 ?_ | refine yt ?_ ?_ | refine yo ?_ | apply zn | refine yc ?_ | intro _)
 show Ev _ _ _ _
 refine zmark (iT) Z86 h0 h1 rfl ?_ ?_
 ·intro i E x k hi h0 h1 hc ih
  repeat' (first | refine yx (Zav hi) ?_ | (apply zS;exact rfl;exact rfl;exact rfl;exact rfl;exact Zax hi rfl;exact Zaw hi rfl;exact rfl;exact Zay hi rfl;exact rfl;exact rfl;exact rfl) | (apply zl;exact rfl;exact rfl;exact Zax hi rfl;exact rfl;exact rfl;exact rfl) | refine yt1 ?_ | refine yt0 ?_ | refine yt ?_ ?_ | refine yo ?_ | apply zn | refine yc ?_ | intro _)
  exact ih _ _ rfl
 ·intro k E hc hk hE
  repeat' (first | refine yt1 ?_ | refine yt0 ?_ | refine yt ?_ ?_ | refine yo ?_ | apply zn | refine yc ?_ | intro _)
  subst hk hE
  exact finM rfl rfl
set_option maxHeartbeats 2000000 in
theorem q1w_eq (x : GConf) (k : Int) (h0 : 0 <= k) (h1 : k + (GConf.wS x : Int) <= top62) : F_q1w [.ms (x.cs .y), .x (iT k)] = some ⟨[.one (iT (x.mkS k).2)], [(x.mkS k).1.cs .y]⟩ := by
 unfold GConf.wS at h1
 have a0 := Zb6 Z86 x.Weights _ (0) h0 (by omega)
 have b0 := a0.2
 (refine Z6h rfl ?_; show Ev m_q1w.code _ _ _)
 repeat' (first | refine yM g_q1v (q1v_eq x.Weights _ h0 (by omega)) ?_ | refine yo ?_ | apply zn | refine yc ?_ | intro _)
 refine finM rfl ?_
 simp only [GConf.mkS, Zk4]
 rfl
set_option maxHeartbeats 2000000 in
theorem q1x_eq (l : List (List Int)) (k : Int) (h0 : 0 <= k) (h1 : k + (wL (wL one1) l : Int) <= top62) : F_q1x [.mu (GInt.lss .y l), .x (iT k)] = some ⟨[.one (iT (mkL (mkL iM) l k).2)], [[GInt.lss .y (mkL (mkL iM) l k).1]]⟩ := by
 (refine Z6h rfl ?_; show Ev m_q1x.code _ _ _)
 repeat' (first | refine yt1 ?_ | refine yt0 ?_ | refine yt ?_ ?_ | refine yo ?_ | apply zn | refine yc ?_ | intro _)
 show Ev _ _ _ _
 refine zmark ((ints .y)) (Zb6 Z86) h0 h1 rfl ?_ ?_
 ·intro i E x k hi h0 h1 hc ih
  repeat' (first | refine yx (Zav hi) ?_ | (apply zS;exact rfl;exact rfl;exact rfl;exact rfl;exact Zax hi rfl;exact Zaw hi rfl;exact rfl;exact Zay hi rfl;exact rfl;exact rfl;exact rfl) | (apply zl;exact rfl;exact rfl;exact Zax hi rfl;exact rfl;exact rfl;exact rfl) | refine yM g_q1v (q1v_eq x _ h0 (by omega)) ?_ | refine yt1 ?_ | refine yt0 ?_ | refine yt ?_ ?_ | refine yo ?_ | apply zn | refine yc ?_ | intro _)
  exact ih _ _ rfl
 ·intro k E hc hk hE
  repeat' (first | refine yt1 ?_ | refine yt0 ?_ | refine yt ?_ ?_ | refine yo ?_ | apply zn | refine yc ?_ | intro _)
  subst hk hE
  exact finM rfl rfl
set_option maxHeartbeats 2000000 in
theorem q1y_eq (l : List GSpan) (k : Int) (h0 : 0 <= k) (h1 : k + (wL GSpan.w1 l : Int) <= top62) : F_q1y [.mu (GSpan.ls .y l), .x (iT k)] = some ⟨[.one (iT (mkL GSpan.mk1 l k).2)], [[GSpan.ls .y (mkL GSpan.mk1 l k).1]]⟩ := by
 (refine Z6h rfl ?_; show Ev m_q1y.code _ _ _)
 repeat' (first | refine yt1 ?_ | refine yt0 ?_ | refine yt ?_ ?_ | refine yo ?_ | apply zn | refine yc ?_ | intro _)
 show Ev _ _ _ _
 refine zmark ((GSpan.el .y)) GSpan.ok1 h0 h1 rfl ?_ ?_
 ·intro i E x k hi h0 h1 hc ih
  simp only [GSpan.w1] at h1
  have a0 := Zi4 (r := 1 + 0) h0 (by omega)
  have b0 := a0.2
  have a1 := Zi4 (r := 0) a0.1 (by omega)
  have b1 := a1.2
  repeat' (first | refine yx (Zav hi) ?_ | (apply zS;exact rfl;exact rfl;exact rfl;exact rfl;exact Zax hi rfl;exact Zaw hi rfl;exact rfl;exact Zay hi rfl;exact rfl;exact rfl;exact rfl) | (apply zl;exact rfl;exact rfl;exact Zax hi rfl;exact rfl;exact rfl;exact rfl) | refine yt1 ?_ | refine yt0 ?_ | refine yt ?_ ?_ | refine yo ?_ | apply zn | refine yc ?_ | intro _)
  exact ih _ _ rfl
 ·intro k E hc hk hE
  repeat' (first | refine yt1 ?_ | refine yt0 ?_ | refine yt ?_ ?_ | refine yo ?_ | apply zn | refine yc ?_ | intro _)
  subst hk hE
  exact finM rfl rfl
set_option maxHeartbeats 2000000 in
theorem q1z_eq (l : List GEntry) (k : Int) (h0 : 0 <= k) (h1 : k + (wL GEntry.w1 l : Int) <= top62) : F_q1z [.mu (GEntry.ls .y l), .x (iT k)] = some ⟨[.one (iT (mkL GEntry.mk1 l k).2)], [[GEntry.ls .y (mkL GEntry.mk1 l k).1]]⟩ := by
 (refine Z6h rfl ?_; show Ev m_q1z.code _ _ _)
 repeat' (first | refine yt1 ?_ | refine yt0 ?_ | refine yt ?_ ?_ | refine yo ?_ | apply zn | refine yc ?_ | intro _)
 show Ev _ _ _ _
 refine zmark ((GEntry.el .y)) GEntry.ok1 h0 h1 rfl ?_ ?_
 ·intro i E x k hi h0 h1 hc ih
  simp only [GEntry.w1, GSketch.w1] at h1
  have a0 := Zi4 (r := 1 + wL GSpan.w1 x.Ids + 1 + 1 + 1 + 1 + wL one1 x.Sketch.Hist + wL one1 x.Sketch.Regs + wL (wL one1) x.Sketch.Rows + 0) h0 (by omega)
  have b0 := a0.2
  have a1 := Zi4 (r := wL GSpan.w1 x.Ids + 1 + 1 + 1 + 1 + wL one1 x.Sketch.Hist + wL one1 x.Sketch.Regs + wL (wL one1) x.Sketch.Rows + 0) a0.1 (by omega)
  have b1 := a1.2
  have a2 := Zb6 GSpan.ok1 x.Ids _ (1 + 1 + 1 + 1 + wL one1 x.Sketch.Hist + wL one1 x.Sketch.Regs + wL (wL one1) x.Sketch.Rows + 0) a1.1 (by omega)
  have b2 := a2.2
  have a3 := Zi4 (r := 1 + 1 + 1 + wL one1 x.Sketch.Hist + wL one1 x.Sketch.Regs + wL (wL one1) x.Sketch.Rows + 0) a2.1 (by omega)
  have b3 := a3.2
  have a4 := Zi4 (r := 1 + 1 + wL one1 x.Sketch.Hist + wL one1 x.Sketch.Regs + wL (wL one1) x.Sketch.Rows + 0) a3.1 (by omega)
  have b4 := a4.2
  have a5 := Zi4 (r := 1 + wL one1 x.Sketch.Hist + wL one1 x.Sketch.Regs + wL (wL one1) x.Sketch.Rows + 0) a4.1 (by omega)
  have b5 := a5.2
  have a6 := Zi4 (r := wL one1 x.Sketch.Hist + wL one1 x.Sketch.Regs + wL (wL one1) x.Sketch.Rows + 0) a5.1 (by omega)
  have b6 := a6.2
  have a7 := Zb6 Z86 x.Sketch.Hist _ (wL one1 x.Sketch.Regs + wL (wL one1) x.Sketch.Rows + 0) a6.1 (by omega)
  have b7 := a7.2
  have a8 := Zb6 Z86 x.Sketch.Regs _ (wL (wL one1) x.Sketch.Rows + 0) a7.1 (by omega)
  have b8 := a8.2
  have a9 := Zb6 (Zb6 Z86) x.Sketch.Rows _ (0) a8.1 (by omega)
  have b9 := a9.2
  repeat' (first | refine yx (Zav hi) ?_ | (apply zS;exact rfl;exact rfl;exact rfl;exact rfl;exact Zax hi rfl;exact Zaw hi rfl;exact rfl;exact Zay hi rfl;exact rfl;exact rfl;exact rfl) | (apply zl;exact rfl;exact rfl;exact Zax hi rfl;exact rfl;exact rfl;exact rfl) | refine yM g_q1y (q1y_eq x.Ids _ a1.1 (by omega)) ?_ | refine yM g_q1v (q1v_eq x.Sketch.Hist _ a6.1 (by omega)) ?_ | refine yM g_q1v (q1v_eq x.Sketch.Regs _ a7.1 (by omega)) ?_ | refine yM g_q1x (q1x_eq x.Sketch.Rows _ a8.1 (by omega)) ?_ | refine yt1 ?_ | refine yt0 ?_ | refine yt ?_ ?_ | refine yo ?_ | apply zn | refine yc ?_ | intro _)
  exact ih _ _ rfl
 ·intro k E hc hk hE
  repeat' (first | refine yt1 ?_ | refine yt0 ?_ | refine yt ?_ ?_ | refine yo ?_ | apply zn | refine yc ?_ | intro _)
  subst hk hE
  exact finM rfl rfl
set_option maxHeartbeats 2000000 in
theorem q20_eq (l : List GOut) (k : Int) (h0 : 0 <= k) (h1 : k + (wL GOut.w1 l : Int) <= top62) : F_q20 [.mu (GOut.ls .y l), .x (iT k)] = some ⟨[.one (iT (mkL GOut.mk1 l k).2)], [[GOut.ls .y (mkL GOut.mk1 l k).1]]⟩ := by
 (refine Z6h rfl ?_; show Ev m_q20.code _ _ _)
 repeat' (first | refine yt1 ?_ | refine yt0 ?_ | refine yt ?_ ?_ | refine yo ?_ | apply zn | refine yc ?_ | intro _)
 show Ev _ _ _ _
 refine zmark ((GOut.el .y)) GOut.ok1 h0 h1 rfl ?_ ?_
 ·intro i E x k hi h0 h1 hc ih
  simp only [GOut.w1, GEntry.w1, GSketch.w1] at h1
  have a0 := Zi4 (r := 1 + 1 + wL GSpan.w1 x.Entry.Ids + 1 + 1 + 1 + 1 + wL one1 x.Entry.Sketch.Hist + wL one1 x.Entry.Sketch.Regs + wL (wL one1) x.Entry.Sketch.Rows + 0) h0 (by omega)
  have b0 := a0.2
  have a1 := Zi4 (r := 1 + wL GSpan.w1 x.Entry.Ids + 1 + 1 + 1 + 1 + wL one1 x.Entry.Sketch.Hist + wL one1 x.Entry.Sketch.Regs + wL (wL one1) x.Entry.Sketch.Rows + 0) a0.1 (by omega)
  have b1 := a1.2
  have a2 := Zi4 (r := wL GSpan.w1 x.Entry.Ids + 1 + 1 + 1 + 1 + wL one1 x.Entry.Sketch.Hist + wL one1 x.Entry.Sketch.Regs + wL (wL one1) x.Entry.Sketch.Rows + 0) a1.1 (by omega)
  have b2 := a2.2
  have a3 := Zb6 GSpan.ok1 x.Entry.Ids _ (1 + 1 + 1 + 1 + wL one1 x.Entry.Sketch.Hist + wL one1 x.Entry.Sketch.Regs + wL (wL one1) x.Entry.Sketch.Rows + 0) a2.1 (by omega)
  have b3 := a3.2
  have a4 := Zi4 (r := 1 + 1 + 1 + wL one1 x.Entry.Sketch.Hist + wL one1 x.Entry.Sketch.Regs + wL (wL one1) x.Entry.Sketch.Rows + 0) a3.1 (by omega)
  have b4 := a4.2
  have a5 := Zi4 (r := 1 + 1 + wL one1 x.Entry.Sketch.Hist + wL one1 x.Entry.Sketch.Regs + wL (wL one1) x.Entry.Sketch.Rows + 0) a4.1 (by omega)
  have b5 := a5.2
  have a6 := Zi4 (r := 1 + wL one1 x.Entry.Sketch.Hist + wL one1 x.Entry.Sketch.Regs + wL (wL one1) x.Entry.Sketch.Rows + 0) a5.1 (by omega)
  have b6 := a6.2
  have a7 := Zi4 (r := wL one1 x.Entry.Sketch.Hist + wL one1 x.Entry.Sketch.Regs + wL (wL one1) x.Entry.Sketch.Rows + 0) a6.1 (by omega)
  have b7 := a7.2
  have a8 := Zb6 Z86 x.Entry.Sketch.Hist _ (wL one1 x.Entry.Sketch.Regs + wL (wL one1) x.Entry.Sketch.Rows + 0) a7.1 (by omega)
  have b8 := a8.2
  have a9 := Zb6 Z86 x.Entry.Sketch.Regs _ (wL (wL one1) x.Entry.Sketch.Rows + 0) a8.1 (by omega)
  have b9 := a9.2
  have a10 := Zb6 (Zb6 Z86) x.Entry.Sketch.Rows _ (0) a9.1 (by omega)
  have b10 := a10.2
  repeat' (first | refine yx (Zav hi) ?_ | (apply zS;exact rfl;exact rfl;exact rfl;exact rfl;exact Zax hi rfl;exact Zaw hi rfl;exact rfl;exact Zay hi rfl;exact rfl;exact rfl;exact rfl) | (apply zl;exact rfl;exact rfl;exact Zax hi rfl;exact rfl;exact rfl;exact rfl) | refine yM g_q1y (q1y_eq x.Entry.Ids _ a2.1 (by omega)) ?_ | refine yM g_q1v (q1v_eq x.Entry.Sketch.Hist _ a7.1 (by omega)) ?_ | refine yM g_q1v (q1v_eq x.Entry.Sketch.Regs _ a8.1 (by omega)) ?_ | refine yM g_q1x (q1x_eq x.Entry.Sketch.Rows _ a9.1 (by omega)) ?_ | refine yt1 ?_ | refine yt0 ?_ | refine yt ?_ ?_ | refine yo ?_ | apply zn | refine yc ?_ | intro _)
  exact ih _ _ rfl
 ·intro k E hc hk hE
  repeat' (first | refine yt1 ?_ | refine yt0 ?_ | refine yt ?_ ?_ | refine yo ?_ | apply zn | refine yc ?_ | intro _)
  subst hk hE
  exact finM rfl rfl
set_option maxHeartbeats 2000000 in
theorem q21_eq (l : List GRow) (k : Int) (h0 : 0 <= k) (h1 : k + (wL GRow.w1 l : Int) <= top62) : F_q21 [.mu (GRow.ls .y l), .x (iT k)] = some ⟨[.one (iT (mkL GRow.mk1 l k).2)], [[GRow.ls .y (mkL GRow.mk1 l k).1]]⟩ := by
 (refine Z6h rfl ?_; show Ev m_q21.code _ _ _)
 repeat' (first | refine yt1 ?_ | refine yt0 ?_ | refine yt ?_ ?_ | refine yo ?_ | apply zn | refine yc ?_ | intro _)
 show Ev _ _ _ _
 refine zmark ((GRow.el .y)) GRow.ok1 h0 h1 rfl ?_ ?_
 ·intro i E x k hi h0 h1 hc ih
  simp only [GRow.w1] at h1
  have a0 := Zb6 GEntry.ok1 x.Lst _ (0) h0 (by omega)
  have b0 := a0.2
  repeat' (first | refine yx (Zav hi) ?_ | (apply zS;exact rfl;exact rfl;exact rfl;exact rfl;exact Zax hi rfl;exact Zaw hi rfl;exact rfl;exact Zay hi rfl;exact rfl;exact rfl;exact rfl) | (apply zl;exact rfl;exact rfl;exact Zax hi rfl;exact rfl;exact rfl;exact rfl) | refine yM g_q1z (q1z_eq x.Lst _ h0 (by omega)) ?_ | refine yt1 ?_ | refine yt0 ?_ | refine yt ?_ ?_ | refine yo ?_ | apply zn | refine yc ?_ | intro _)
  exact ih _ _ rfl
 ·intro k E hc hk hE
  repeat' (first | refine yt1 ?_ | refine yt0 ?_ | refine yt ?_ ?_ | refine yo ?_ | apply zn | refine yc ?_ | intro _)
  subst hk hE
  exact finM rfl rfl
set_option maxHeartbeats 2000000 in
theorem q22_eq (l : List (List GRow)) (k : Int) (h0 : 0 <= k) (h1 : k + (wL (wL GRow.w1) l : Int) <= top62) : F_q22 [.mu (GRow.lss .y l), .x (iT k)] = some ⟨[.one (iT (mkL (mkL GRow.mk1) l k).2)], [[GRow.lss .y (mkL (mkL GRow.mk1) l k).1]]⟩ := by
 (refine Z6h rfl ?_; show Ev m_q22.code _ _ _)
 repeat' (first | refine yt1 ?_ | refine yt0 ?_ | refine yt ?_ ?_ | refine yo ?_ | apply zn | refine yc ?_ | intro _)
 show Ev _ _ _ _
 refine zmark ((GRow.ls .y)) (Zb6 GRow.ok1) h0 h1 rfl ?_ ?_
 ·intro i E x k hi h0 h1 hc ih
  repeat' (first | refine yx (Zav hi) ?_ | (apply zS;exact rfl;exact rfl;exact rfl;exact rfl;exact Zax hi rfl;exact Zaw hi rfl;exact rfl;exact Zay hi rfl;exact rfl;exact rfl;exact rfl) | (apply zl;exact rfl;exact rfl;exact Zax hi rfl;exact rfl;exact rfl;exact rfl) | refine yM g_q21 (q21_eq x _ h0 (by omega)) ?_ | refine yt1 ?_ | refine yt0 ?_ | refine yt ?_ ?_ | refine yo ?_ | apply zn | refine yc ?_ | intro _)
  exact ih _ _ rfl
 ·intro k E hc hk hE
  repeat' (first | refine yt1 ?_ | refine yt0 ?_ | refine yt ?_ ?_ | refine yo ?_ | apply zn | refine yc ?_ | intro _)
  subst hk hE
  exact finM rfl rfl
set_option maxHeartbeats 2000000 in
theorem q23_eq (l : List GSeat) (k : Int) (h0 : 0 <= k) (h1 : k + (wL GSeat.w1 l : Int) <= top62) : F_q23 [.mu (GSeat.ls .y l), .x (iT k)] = some ⟨[.one (iT (mkL GSeat.mk1 l k).2)], [[GSeat.ls .y (mkL GSeat.mk1 l k).1]]⟩ := by
 (refine Z6h rfl ?_; show Ev m_q23.code _ _ _)
 repeat' (first | refine yt1 ?_ | refine yt0 ?_ | refine yt ?_ ?_ | refine yo ?_ | apply zn | refine yc ?_ | intro _)
 show Ev _ _ _ _
 refine zmark ((GSeat.el .y)) GSeat.ok1 h0 h1 rfl ?_ ?_
 ·intro i E x k hi h0 h1 hc ih
  simp only [GSeat.w1] at h1
  have a0 := Zi4 (r := 1 + wL GSpan.w1 x.Taken + 1 + 1 + 0) h0 (by omega)
  have b0 := a0.2
  have a1 := Zi4 (r := wL GSpan.w1 x.Taken + 1 + 1 + 0) a0.1 (by omega)
  have b1 := a1.2
  have a2 := Zb6 GSpan.ok1 x.Taken _ (1 + 1 + 0) a1.1 (by omega)
  have b2 := a2.2
  have a3 := Zi4 (r := 1 + 0) a2.1 (by omega)
  have b3 := a3.2
  have a4 := Zi4 (r := 0) a3.1 (by omega)
  have b4 := a4.2
  repeat' (first | refine yx (Zav hi) ?_ | (apply zS;exact rfl;exact rfl;exact rfl;exact rfl;exact Zax hi rfl;exact Zaw hi rfl;exact rfl;exact Zay hi rfl;exact rfl;exact rfl;exact rfl) | (apply zl;exact rfl;exact rfl;exact Zax hi rfl;exact rfl;exact rfl;exact rfl) | refine yM g_q1y (q1y_eq x.Taken _ a1.1 (by omega)) ?_ | refine yt1 ?_ | refine yt0 ?_ | refine yt ?_ ?_ | refine yo ?_ | apply zn | refine yc ?_ | intro _)
  exact ih _ _ rfl
 ·intro k E hc hk hE
  repeat' (first | refine yt1 ?_ | refine yt0 ?_ | refine yt ?_ ?_ | refine yo ?_ | apply zn | refine yc ?_ | intro _)
  subst hk hE
  exact finM rfl rfl
set_option maxHeartbeats 2000000 in
theorem q24_eq (l : List GTurn) (k : Int) (h0 : 0 <= k) (h1 : k + (wL GTurn.w1 l : Int) <= top62) : F_q24 [.mu (GTurn.ls .y l), .x (iT k)] = some ⟨[.one (iT (mkL GTurn.mk1 l k).2)], [[GTurn.ls .y (mkL GTurn.mk1 l k).1]]⟩ := by
 (refine Z6h rfl ?_; show Ev m_q24.code _ _ _)
 repeat' (first | refine yt1 ?_ | refine yt0 ?_ | refine yt ?_ ?_ | refine yo ?_ | apply zn | refine yc ?_ | intro _)
 show Ev _ _ _ _
 refine zmark ((GTurn.el .y)) GTurn.ok1 h0 h1 rfl ?_ ?_
 ·intro i E x k hi h0 h1 hc ih
  simp only [GTurn.w1] at h1
  have a0 := Zi4 (r := 1 + wL one1 x.Left + 0) h0 (by omega)
  have b0 := a0.2
  have a1 := Zi4 (r := wL one1 x.Left + 0) a0.1 (by omega)
  have b1 := a1.2
  have a2 := Zb6 Z86 x.Left _ (0) a1.1 (by omega)
  have b2 := a2.2
  repeat' (first | refine yx (Zav hi) ?_ | (apply zS;exact rfl;exact rfl;exact rfl;exact rfl;exact Zax hi rfl;exact Zaw hi rfl;exact rfl;exact Zay hi rfl;exact rfl;exact rfl;exact rfl) | (apply zl;exact rfl;exact rfl;exact Zax hi rfl;exact rfl;exact rfl;exact rfl) | refine yM g_q1v (q1v_eq x.Left _ a1.1 (by omega)) ?_ | refine yt1 ?_ | refine yt0 ?_ | refine yt ?_ ?_ | refine yo ?_ | apply zn | refine yc ?_ | intro _)
  exact ih _ _ rfl
 ·intro k E hc hk hE
  repeat' (first | refine yt1 ?_ | refine yt0 ?_ | refine yt ?_ ?_ | refine yo ?_ | apply zn | refine yc ?_ | intro _)
  subst hk hE
  exact finM rfl rfl
set_option maxHeartbeats 2000000 in
theorem q25_eq (x : GHouse) (k : Int) (h0 : 0 <= k) (h1 : k + (GHouse.wS x : Int) <= top62) : F_q25 [.ms (x.cs .y), .x (iT k)] = some ⟨[.one (iT (x.mkS k).2)], [(x.mkS k).1.cs .y]⟩ := by
 unfold GHouse.wS at h1
 have a0 := GConf.okS x.Conf _ (wL GSeat.w1 x.Seats + wL (wL GRow.w1) x.Rows + wL GTurn.w1 x.Turns + wL GEntry.w1 x.Root + wL GOut.w1 x.Outs + 0) h0 (by omega)
 have b0 := a0.2
 have a1 := Zb6 GSeat.ok1 x.Seats _ (wL (wL GRow.w1) x.Rows + wL GTurn.w1 x.Turns + wL GEntry.w1 x.Root + wL GOut.w1 x.Outs + 0) a0.1 (by omega)
 have b1 := a1.2
 have a2 := Zb6 (Zb6 GRow.ok1) x.Rows _ (wL GTurn.w1 x.Turns + wL GEntry.w1 x.Root + wL GOut.w1 x.Outs + 0) a1.1 (by omega)
 have b2 := a2.2
 have a3 := Zb6 GTurn.ok1 x.Turns _ (wL GEntry.w1 x.Root + wL GOut.w1 x.Outs + 0) a2.1 (by omega)
 have b3 := a3.2
 have a4 := Zb6 GEntry.ok1 x.Root _ (wL GOut.w1 x.Outs + 0) a3.1 (by omega)
 have b4 := a4.2
 have a5 := Zb6 GOut.ok1 x.Outs _ (0) a4.1 (by omega)
 have b5 := a5.2
 (refine Z6h rfl ?_; show Ev m_q25.code _ _ _)
 repeat' (first | refine yN g_q1w (q1w_eq x.Conf _ h0 (by omega)) ?_ | refine yM g_q23 (q23_eq x.Seats _ a0.1 (by omega)) ?_ | refine yM g_q22 (q22_eq x.Rows _ a1.1 (by omega)) ?_ | refine yM g_q24 (q24_eq x.Turns _ a2.1 (by omega)) ?_ | refine yM g_q1z (q1z_eq x.Root _ a3.1 (by omega)) ?_ | refine yM g_q20 (q20_eq x.Outs _ a4.1 (by omega)) ?_ | refine yo ?_ | apply zn | refine yc ?_ | intro _)
 refine finM rfl ?_
 simp only [GHouse.mkS, GConf.mkS, Zk4]
 rfl
set_option maxHeartbeats 2000000 in
theorem q26_eq (x : GSketch) (k : Int) (h0 : 0 <= k) (h1 : k + (GSketch.wS x : Int) <= top62) : F_q26 [.ms (x.cs .y), .x (iT k)] = some ⟨[.one (iT (x.mkS k).2)], [(x.mkS k).1.cs .y]⟩ := by
 unfold GSketch.wS at h1
 have a0 := Zb6 Z86 x.Hist _ (wL one1 x.Regs + wL (wL one1) x.Rows + 0) h0 (by omega)
 have b0 := a0.2
 have a1 := Zb6 Z86 x.Regs _ (wL (wL one1) x.Rows + 0) a0.1 (by omega)
 have b1 := a1.2
 have a2 := Zb6 (Zb6 Z86) x.Rows _ (0) a1.1 (by omega)
 have b2 := a2.2
 (refine Z6h rfl ?_; show Ev m_q26.code _ _ _)
 repeat' (first | refine yM g_q1v (q1v_eq x.Hist _ h0 (by omega)) ?_ | refine yM g_q1v (q1v_eq x.Regs _ a0.1 (by omega)) ?_ | refine yM g_q1x (q1x_eq x.Rows _ a1.1 (by omega)) ?_ | refine yo ?_ | apply zn | refine yc ?_ | intro _)
 refine finM rfl ?_
 simp only [GSketch.mkS, Zk4]
 rfl
end Go.Wr
namespace Go.Wr
set_option maxRecDepth 20000
theorem q1s_eq (l : List Int) (k : Int) (h0 : 0 <= k) (h1 : k + (wL one1 l : Int) <= top62) : F_q1s [.x (ints .n (mkL iM l k).1), .x (iT k)] = some ⟨[.one (iT (mkL iM l k).2)], []⟩ := by
 (refine Z6j rfl ?_; show Ev m_q1s.code _ _ _)
 repeat' (first | refine yt1 ?_ | refine yt0 ?_ | refine yt ?_ ?_ | refine yo ?_ | apply zn | refine yc ?_ | intro _)
 show Ev _ _ _ _
 refine zheld (iT) Z86 h0 h1 rfl ?_ ?_
 ·intro i E x k hE h0 h1 hc ih
  repeat' (first | refine yi _ hE ?_ | refine yt0 ?_ (ht := neI _) | refine yt0 ?_ (ht := neB _) | refine yt1 ?_ | refine yt0 ?_ | refine yt ?_ ?_ | refine yo ?_ | apply zn | refine yc ?_ | intro _)
  exact ih _ _ rfl
 ·intro k E hc hk
  repeat' (first | refine yt1 ?_ | refine yt0 ?_ | refine yt ?_ ?_ | refine yo ?_ | apply zn | refine yc ?_ | intro _)
  subst hk
  exact fin rfl rfl
theorem q1t_eq (l : List (List Int)) (k : Int) (h0 : 0 <= k) (h1 : k + (wL (wL one1) l : Int) <= top62) : F_q1t [.x (GInt.lss .n (mkL (mkL iM) l k).1), .x (iT k)] = some ⟨[.one (iT (mkL (mkL iM) l k).2)], []⟩ := by
 (refine Z6j rfl ?_; show Ev m_q1t.code _ _ _)
 repeat' (first | refine yt1 ?_ | refine yt0 ?_ | refine yt ?_ ?_ | refine yo ?_ | apply zn | refine yc ?_ | intro _)
 show Ev _ _ _ _
 refine zheld ((ints .n)) (Zb6 Z86) h0 h1 rfl ?_ ?_
 ·intro i E x k hE h0 h1 hc ih
  have a0 := (Zb6 Z86) x _ 0 h0 (by omega)
  have c0 := nnd a0.1
  repeat' (first | refine yi _ hE ?_ | refine yt0 ?_ (ht := neI _) | refine yt0 ?_ (ht := neB _) | refine yv g_q1s (q1s_eq x _ h0 (by omega)) ?_ | refine yt1 ?_ | refine yt0 ?_ | refine yt ?_ ?_ | refine yo ?_ | apply zn | refine yc ?_ | intro _)
  exact ih _ _ rfl
 ·intro k E hc hk
  repeat' (first | refine yt1 ?_ | refine yt0 ?_ | refine yt ?_ ?_ | refine yo ?_ | apply zn | refine yc ?_ | intro _)
  subst hk
  exact fin rfl rfl
set_option maxHeartbeats 2000000 in
theorem q1u_eq (x : GSketch) (k : Int) (h0 : 0 <= k) (h1 : k + (GSketch.wS x : Int) <= top62) : F_q1u [.st ((x.mkS k).1.cs .n), .x (iT k)] = some ⟨[.one (iT (x.mkS k).2)], []⟩ := by
 unfold GSketch.wS at h1
 have a0 := Zb6 Z86 x.Hist _ (wL one1 x.Regs + wL (wL one1) x.Rows + 0) h0 (by omega)
 have b0 := a0.2
 have a1 := Zb6 Z86 x.Regs _ (wL (wL one1) x.Rows + 0) a0.1 (by omega)
 have b1 := a1.2
 have a2 := Zb6 (Zb6 Z86) x.Rows _ (0) a1.1 (by omega)
 have b2 := a2.2
 have c0 := nnd a0.1
 have c1 := nnd a1.1
 have c2 := nnd a2.1
 (refine Z6j rfl ?_; show Ev m_q1u.code _ _ _)
 repeat' (first | refine yv g_q1s (q1s_eq x.Hist _ h0 (by omega)) ?_ | refine yv g_q1s (q1s_eq x.Regs _ a0.1 (by omega)) ?_ | refine yv g_q1t (q1t_eq x.Rows _ a1.1 (by omega)) ?_ | refine yt1 ?_ | refine yt0 ?_ | refine yt ?_ ?_ | refine yo ?_ | apply zn | refine yc ?_ | intro _)
 exact fin rfl rfl
set_option maxHeartbeats 2000000 in
theorem q47_eq (l : List GSpan) (k : Int) (h0 : 0 <= k) (h1 : k + (wL GSpan.w1 l : Int) <= top62) : F_q47 [.x (GSpan.ls .n (mkL GSpan.mk1 l k).1), .x (iT k)] = some ⟨[.one (iT (mkL GSpan.mk1 l k).2)], []⟩ := by
 (refine Z6j rfl ?_; show Ev m_q47.code _ _ _)
 repeat' (first | refine yt1 ?_ | refine yt0 ?_ | refine yt ?_ ?_ | refine yo ?_ | apply zn | refine yc ?_ | intro _)
 show Ev _ _ _ _
 refine zheld ((GSpan.el .n)) GSpan.ok1 h0 h1 rfl ?_ ?_
 ·intro i E x k hE h0 h1 hc ih
  simp only [GSpan.w1] at h1
  have a0 := Zi4 (r := 1 + 0) h0 (by omega)
  have b0 := a0.2
  have a1 := Zi4 (r := 0) a0.1 (by omega)
  have b1 := a1.2
  repeat' (first | refine yi _ hE ?_ | refine yt0 ?_ (ht := neI _) | refine yt0 ?_ (ht := neB _) | refine yt1 ?_ | refine yt0 ?_ | refine yt ?_ ?_ | refine yo ?_ | apply zn | refine yc ?_ | intro _)
  exact ih _ _ rfl
 ·intro k E hc hk
  repeat' (first | refine yt1 ?_ | refine yt0 ?_ | refine yt ?_ ?_ | refine yo ?_ | apply zn | refine yc ?_ | intro _)
  subst hk
  exact fin rfl rfl
end Go.Wr

