/-
  What is proved: lemmas on the way to the laws of this seat. No condition.
-/
import Derived.Test.YtjnfhlmfdchepaaGreatMa
import Derived.Test.YtjnfhlmfdchepaaGreatTa
set_option linter.unusedVariables false
set_option linter.unusedSimpArgs false
namespace Go.Wr
set_option maxRecDepth 20000
set_option maxHeartbeats 2000000 in
theorem q1q_eq (l : List Int) (k : Int) (h0 : 0 <= k) (h1 : k + (wL one1 l : Int) <= top62) : F_q1q [.mu (ints .y l), .x (iT k)] = some ⟨[.one (iT (mkL iM l k).2)], [[ints .y (mkL iM l k).1]]⟩ := by
 (refine funM_ev rfl ?_; show Ev m_q1q.code _ _ _)
 repeat' (first | refine yt1 ?_ | refine yt0 ?_ | refine yt ?_ ?_ | refine yo ?_ | apply zn | refine yc ?_ | intro _)
 show Ev _ _ _ _
 refine zmark (iT) iM_ok h0 h1 rfl ?_ ?_
 ·intro i E x k hi h0 h1 hc ih
  repeat' (first | refine yx (mid_lt hi) ?_ | (apply zS;exact rfl;exact rfl;exact rfl;exact rfl;exact mid_nav hi rfl;exact mid_mine hi rfl;exact rfl;exact mid_put hi rfl;exact rfl;exact rfl;exact rfl) | (apply zl;exact rfl;exact rfl;exact mid_nav hi rfl;exact rfl;exact rfl;exact rfl) | refine yt1 ?_ | refine yt0 ?_ | refine yt ?_ ?_ | refine yo ?_ | apply zn | refine yc ?_ | intro _)
  exact ih _ _ rfl
 ·intro k E hc hk hE
  repeat' (first | refine yt1 ?_ | refine yt0 ?_ | refine yt ?_ ?_ | refine yo ?_ | apply zn | refine yc ?_ | intro _)
  subst hk hE
  exact finM rfl rfl
set_option maxHeartbeats 2000000 in
theorem q1r_eq (x : GConf) (k : Int) (h0 : 0 <= k) (h1 : k + (GConf.wS x : Int) <= top62) : F_q1r [.ms (x.cs .y), .x (iT k)] = some ⟨[.one (iT (x.mkS k).2)], [(x.mkS k).1.cs .y]⟩ := by
 unfold GConf.wS at h1
 have a0 := mkL_ok iM_ok x.Weights _ (0) h0 (by omega)
 have b0 := a0.2
 (refine funM_ev rfl ?_; show Ev m_q1r.code _ _ _)
 repeat' (first | refine yM g_q1q (q1q_eq x.Weights _ h0 (by omega)) ?_ | refine yo ?_ | apply zn | refine yc ?_ | intro _)
 refine finM rfl ?_
 simp only [GConf.mkS, sub_mk]
 rfl
set_option maxHeartbeats 2000000 in
theorem q1s_eq (l : List (List Int)) (k : Int) (h0 : 0 <= k) (h1 : k + (wL (wL one1) l : Int) <= top62) : F_q1s [.mu (GInt.lss .y l), .x (iT k)] = some ⟨[.one (iT (mkL (mkL iM) l k).2)], [[GInt.lss .y (mkL (mkL iM) l k).1]]⟩ := by
 (refine funM_ev rfl ?_; show Ev m_q1s.code _ _ _)
 repeat' (first | refine yt1 ?_ | refine yt0 ?_ | refine yt ?_ ?_ | refine yo ?_ | apply zn | refine yc ?_ | intro _)
 show Ev _ _ _ _
 refine zmark ((ints .y)) (mkL_ok iM_ok) h0 h1 rfl ?_ ?_
 ·intro i E x k hi h0 h1 hc ih
  repeat' (first | refine yx (mid_lt hi) ?_ | (apply zS;exact rfl;exact rfl;exact rfl;exact rfl;exact mid_nav hi rfl;exact mid_mine hi rfl;exact rfl;exact mid_put hi rfl;exact rfl;exact rfl;exact rfl) | (apply zl;exact rfl;exact rfl;exact mid_nav hi rfl;exact rfl;exact rfl;exact rfl) | refine yM g_q1q (q1q_eq x _ h0 (by omega)) ?_ | refine yt1 ?_ | refine yt0 ?_ | refine yt ?_ ?_ | refine yo ?_ | apply zn | refine yc ?_ | intro _)
  exact ih _ _ rfl
 ·intro k E hc hk hE
  repeat' (first | refine yt1 ?_ | refine yt0 ?_ | refine yt ?_ ?_ | refine yo ?_ | apply zn | refine yc ?_ | intro _)
  subst hk hE
  exact finM rfl rfl
set_option maxHeartbeats 2000000 in
theorem q1t_eq (l : List GItem) (k : Int) (h0 : 0 <= k) (h1 : k + (wL GItem.w1 l : Int) <= top62) : F_q1t [.mu (GItem.ls .y l), .x (iT k)] = some ⟨[.one (iT (mkL GItem.mk1 l k).2)], [[GItem.ls .y (mkL GItem.mk1 l k).1]]⟩ := by
 (refine funM_ev rfl ?_; show Ev m_q1t.code _ _ _)
 repeat' (first | refine yt1 ?_ | refine yt0 ?_ | refine yt ?_ ?_ | refine yo ?_ | apply zn | refine yc ?_ | intro _)
 show Ev _ _ _ _
 refine zmark ((GItem.el .y)) GItem.ok1 h0 h1 rfl ?_ ?_
 ·intro i E x k hi h0 h1 hc ih
  simp only [GItem.w1, GSketch.w1] at h1
  have a0 := sc_ok (r := 1 + 1 + 1 + 1 + 1 + 1 + 1 + wL one1 x.Sketch.Hist + wL one1 x.Sketch.Regs + wL (wL one1) x.Sketch.Rows + 0) h0 (by omega)
  have b0 := a0.2
  have a1 := sc_ok (r := 1 + 1 + 1 + 1 + 1 + 1 + wL one1 x.Sketch.Hist + wL one1 x.Sketch.Regs + wL (wL one1) x.Sketch.Rows + 0) a0.1 (by omega)
  have b1 := a1.2
  have a2 := sc_ok (r := 1 + 1 + 1 + 1 + 1 + wL one1 x.Sketch.Hist + wL one1 x.Sketch.Regs + wL (wL one1) x.Sketch.Rows + 0) a1.1 (by omega)
  have b2 := a2.2
  have a3 := sc_ok (r := 1 + 1 + 1 + 1 + wL one1 x.Sketch.Hist + wL one1 x.Sketch.Regs + wL (wL one1) x.Sketch.Rows + 0) a2.1 (by omega)
  have b3 := a3.2
  have a4 := sc_ok (r := 1 + 1 + 1 + wL one1 x.Sketch.Hist + wL one1 x.Sketch.Regs + wL (wL one1) x.Sketch.Rows + 0) a3.1 (by omega)
  have b4 := a4.2
  have a5 := sc_ok (r := 1 + 1 + wL one1 x.Sketch.Hist + wL one1 x.Sketch.Regs + wL (wL one1) x.Sketch.Rows + 0) a4.1 (by omega)
  have b5 := a5.2
  have a6 := sc_ok (r := 1 + wL one1 x.Sketch.Hist + wL one1 x.Sketch.Regs + wL (wL one1) x.Sketch.Rows + 0) a5.1 (by omega)
  have b6 := a6.2
  have a7 := sc_ok (r := wL one1 x.Sketch.Hist + wL one1 x.Sketch.Regs + wL (wL one1) x.Sketch.Rows + 0) a6.1 (by omega)
  have b7 := a7.2
  have a8 := mkL_ok iM_ok x.Sketch.Hist _ (wL one1 x.Sketch.Regs + wL (wL one1) x.Sketch.Rows + 0) a7.1 (by omega)
  have b8 := a8.2
  have a9 := mkL_ok iM_ok x.Sketch.Regs _ (wL (wL one1) x.Sketch.Rows + 0) a8.1 (by omega)
  have b9 := a9.2
  have a10 := mkL_ok (mkL_ok iM_ok) x.Sketch.Rows _ (0) a9.1 (by omega)
  have b10 := a10.2
  repeat' (first | refine yx (mid_lt hi) ?_ | (apply zS;exact rfl;exact rfl;exact rfl;exact rfl;exact mid_nav hi rfl;exact mid_mine hi rfl;exact rfl;exact mid_put hi rfl;exact rfl;exact rfl;exact rfl) | (apply zl;exact rfl;exact rfl;exact mid_nav hi rfl;exact rfl;exact rfl;exact rfl) | refine yM g_q1q (q1q_eq x.Sketch.Hist _ a7.1 (by omega)) ?_ | refine yM g_q1q (q1q_eq x.Sketch.Regs _ a8.1 (by omega)) ?_ | refine yM g_q1s (q1s_eq x.Sketch.Rows _ a9.1 (by omega)) ?_ | refine yt1 ?_ | refine yt0 ?_ | refine yt ?_ ?_ | refine yo ?_ | apply zn | refine yc ?_ | intro _)
  exact ih _ _ rfl
 ·intro k E hc hk hE
  repeat' (first | refine yt1 ?_ | refine yt0 ?_ | refine yt ?_ ?_ | refine yo ?_ | apply zn | refine yc ?_ | intro _)
  subst hk hE
  exact finM rfl rfl
set_option maxHeartbeats 2000000 in
theorem q1u_eq (l : List GSpan) (k : Int) (h0 : 0 <= k) (h1 : k + (wL GSpan.w1 l : Int) <= top62) : F_q1u [.mu (GSpan.ls .y l), .x (iT k)] = some ⟨[.one (iT (mkL GSpan.mk1 l k).2)], [[GSpan.ls .y (mkL GSpan.mk1 l k).1]]⟩ := by
 (refine funM_ev rfl ?_; show Ev m_q1u.code _ _ _)
 repeat' (first | refine yt1 ?_ | refine yt0 ?_ | refine yt ?_ ?_ | refine yo ?_ | apply zn | refine yc ?_ | intro _)
 show Ev _ _ _ _
 refine zmark ((GSpan.el .y)) GSpan.ok1 h0 h1 rfl ?_ ?_
 ·intro i E x k hi h0 h1 hc ih
  simp only [GSpan.w1] at h1
  have a0 := sc_ok (r := 1 + 0) h0 (by omega)
  have b0 := a0.2
  have a1 := sc_ok (r := 0) a0.1 (by omega)
  have b1 := a1.2
  repeat' (first | refine yx (mid_lt hi) ?_ | (apply zS;exact rfl;exact rfl;exact rfl;exact rfl;exact mid_nav hi rfl;exact mid_mine hi rfl;exact rfl;exact mid_put hi rfl;exact rfl;exact rfl;exact rfl) | (apply zl;exact rfl;exact rfl;exact mid_nav hi rfl;exact rfl;exact rfl;exact rfl) | refine yt1 ?_ | refine yt0 ?_ | refine yt ?_ ?_ | refine yo ?_ | apply zn | refine yc ?_ | intro _)
  exact ih _ _ rfl
 ·intro k E hc hk hE
  repeat' (first | refine yt1 ?_ | refine yt0 ?_ | refine yt ?_ ?_ | refine yo ?_ | apply zn | refine yc ?_ | intro _)
  subst hk hE
  exact finM rfl rfl
set_option maxHeartbeats 2000000 in
theorem q1v_eq (l : List GAgent) (k : Int) (h0 : 0 <= k) (h1 : k + (wL GAgent.w1 l : Int) <= top62) : F_q1v [.mu (GAgent.ls .y l), .x (iT k)] = some ⟨[.one (iT (mkL GAgent.mk1 l k).2)], [[GAgent.ls .y (mkL GAgent.mk1 l k).1]]⟩ := by
 (refine funM_ev rfl ?_; show Ev m_q1v.code _ _ _)
 repeat' (first | refine yt1 ?_ | refine yt0 ?_ | refine yt ?_ ?_ | refine yo ?_ | apply zn | refine yc ?_ | intro _)
 show Ev _ _ _ _
 refine zmark ((GAgent.el .y)) GAgent.ok1 h0 h1 rfl ?_ ?_
 ·intro i E x k hi h0 h1 hc ih
  simp only [GAgent.w1] at h1
  have a0 := sc_ok (r := 1 + 1 + 1 + wL GItem.w1 x.Sealed + wL GSpan.w1 x.Taken + 1 + 0) h0 (by omega)
  have b0 := a0.2
  have a1 := sc_ok (r := 1 + 1 + wL GItem.w1 x.Sealed + wL GSpan.w1 x.Taken + 1 + 0) a0.1 (by omega)
  have b1 := a1.2
  have a2 := sc_ok (r := 1 + wL GItem.w1 x.Sealed + wL GSpan.w1 x.Taken + 1 + 0) a1.1 (by omega)
  have b2 := a2.2
  have a3 := sc_ok (r := wL GItem.w1 x.Sealed + wL GSpan.w1 x.Taken + 1 + 0) a2.1 (by omega)
  have b3 := a3.2
  have a4 := mkL_ok GItem.ok1 x.Sealed _ (wL GSpan.w1 x.Taken + 1 + 0) a3.1 (by omega)
  have b4 := a4.2
  have a5 := mkL_ok GSpan.ok1 x.Taken _ (1 + 0) a4.1 (by omega)
  have b5 := a5.2
  have a6 := sc_ok (r := 0) a5.1 (by omega)
  have b6 := a6.2
  repeat' (first | refine yx (mid_lt hi) ?_ | (apply zS;exact rfl;exact rfl;exact rfl;exact rfl;exact mid_nav hi rfl;exact mid_mine hi rfl;exact rfl;exact mid_put hi rfl;exact rfl;exact rfl;exact rfl) | (apply zl;exact rfl;exact rfl;exact mid_nav hi rfl;exact rfl;exact rfl;exact rfl) | refine yM g_q1t (q1t_eq x.Sealed _ a3.1 (by omega)) ?_ | refine yM g_q1u (q1u_eq x.Taken _ a4.1 (by omega)) ?_ | refine yt1 ?_ | refine yt0 ?_ | refine yt ?_ ?_ | refine yo ?_ | apply zn | refine yc ?_ | intro _)
  exact ih _ _ rfl
 ·intro k E hc hk hE
  repeat' (first | refine yt1 ?_ | refine yt0 ?_ | refine yt ?_ ?_ | refine yo ?_ | apply zn | refine yc ?_ | intro _)
  subst hk hE
  exact finM rfl rfl
set_option maxHeartbeats 2000000 in
theorem q1w_eq (l : List GEntry) (k : Int) (h0 : 0 <= k) (h1 : k + (wL GEntry.w1 l : Int) <= top62) : F_q1w [.mu (GEntry.ls .y l), .x (iT k)] = some ⟨[.one (iT (mkL GEntry.mk1 l k).2)], [[GEntry.ls .y (mkL GEntry.mk1 l k).1]]⟩ := by
 (refine funM_ev rfl ?_; show Ev m_q1w.code _ _ _)
 repeat' (first | refine yt1 ?_ | refine yt0 ?_ | refine yt ?_ ?_ | refine yo ?_ | apply zn | refine yc ?_ | intro _)
 show Ev _ _ _ _
 refine zmark ((GEntry.el .y)) GEntry.ok1 h0 h1 rfl ?_ ?_
 ·intro i E x k hi h0 h1 hc ih
  simp only [GEntry.w1, GSketch.w1] at h1
  have a0 := sc_ok (r := 1 + wL GSpan.w1 x.Ids + 1 + 1 + 1 + 1 + wL one1 x.Sketch.Hist + wL one1 x.Sketch.Regs + wL (wL one1) x.Sketch.Rows + 0) h0 (by omega)
  have b0 := a0.2
  have a1 := sc_ok (r := wL GSpan.w1 x.Ids + 1 + 1 + 1 + 1 + wL one1 x.Sketch.Hist + wL one1 x.Sketch.Regs + wL (wL one1) x.Sketch.Rows + 0) a0.1 (by omega)
  have b1 := a1.2
  have a2 := mkL_ok GSpan.ok1 x.Ids _ (1 + 1 + 1 + 1 + wL one1 x.Sketch.Hist + wL one1 x.Sketch.Regs + wL (wL one1) x.Sketch.Rows + 0) a1.1 (by omega)
  have b2 := a2.2
  have a3 := sc_ok (r := 1 + 1 + 1 + wL one1 x.Sketch.Hist + wL one1 x.Sketch.Regs + wL (wL one1) x.Sketch.Rows + 0) a2.1 (by omega)
  have b3 := a3.2
  have a4 := sc_ok (r := 1 + 1 + wL one1 x.Sketch.Hist + wL one1 x.Sketch.Regs + wL (wL one1) x.Sketch.Rows + 0) a3.1 (by omega)
  have b4 := a4.2
  have a5 := sc_ok (r := 1 + wL one1 x.Sketch.Hist + wL one1 x.Sketch.Regs + wL (wL one1) x.Sketch.Rows + 0) a4.1 (by omega)
  have b5 := a5.2
  have a6 := sc_ok (r := wL one1 x.Sketch.Hist + wL one1 x.Sketch.Regs + wL (wL one1) x.Sketch.Rows + 0) a5.1 (by omega)
  have b6 := a6.2
  have a7 := mkL_ok iM_ok x.Sketch.Hist _ (wL one1 x.Sketch.Regs + wL (wL one1) x.Sketch.Rows + 0) a6.1 (by omega)
  have b7 := a7.2
  have a8 := mkL_ok iM_ok x.Sketch.Regs _ (wL (wL one1) x.Sketch.Rows + 0) a7.1 (by omega)
  have b8 := a8.2
  have a9 := mkL_ok (mkL_ok iM_ok) x.Sketch.Rows _ (0) a8.1 (by omega)
  have b9 := a9.2
  repeat' (first | refine yx (mid_lt hi) ?_ | (apply zS;exact rfl;exact rfl;exact rfl;exact rfl;exact mid_nav hi rfl;exact mid_mine hi rfl;exact rfl;exact mid_put hi rfl;exact rfl;exact rfl;exact rfl) | (apply zl;exact rfl;exact rfl;exact mid_nav hi rfl;exact rfl;exact rfl;exact rfl) | refine yM g_q1u (q1u_eq x.Ids _ a1.1 (by omega)) ?_ | refine yM g_q1q (q1q_eq x.Sketch.Hist _ a6.1 (by omega)) ?_ | refine yM g_q1q (q1q_eq x.Sketch.Regs _ a7.1 (by omega)) ?_ | refine yM g_q1s (q1s_eq x.Sketch.Rows _ a8.1 (by omega)) ?_ | refine yt1 ?_ | refine yt0 ?_ | refine yt ?_ ?_ | refine yo ?_ | apply zn | refine yc ?_ | intro _)
  exact ih _ _ rfl
 ·intro k E hc hk hE
  repeat' (first | refine yt1 ?_ | refine yt0 ?_ | refine yt ?_ ?_ | refine yo ?_ | apply zn | refine yc ?_ | intro _)
  subst hk hE
  exact finM rfl rfl
set_option maxHeartbeats 2000000 in
theorem q1x_eq (l : List GOut) (k : Int) (h0 : 0 <= k) (h1 : k + (wL GOut.w1 l : Int) <= top62) : F_q1x [.mu (GOut.ls .y l), .x (iT k)] = some ⟨[.one (iT (mkL GOut.mk1 l k).2)], [[GOut.ls .y (mkL GOut.mk1 l k).1]]⟩ := by
 (refine funM_ev rfl ?_; show Ev m_q1x.code _ _ _)
 repeat' (first | refine yt1 ?_ | refine yt0 ?_ | refine yt ?_ ?_ | refine yo ?_ | apply zn | refine yc ?_ | intro _)
 show Ev _ _ _ _
 refine zmark ((GOut.el .y)) GOut.ok1 h0 h1 rfl ?_ ?_
 ·intro i E x k hi h0 h1 hc ih
  simp only [GOut.w1, GEntry.w1, GSketch.w1] at h1
  have a0 := sc_ok (r := 1 + 1 + wL GSpan.w1 x.Entry.Ids + 1 + 1 + 1 + 1 + wL one1 x.Entry.Sketch.Hist + wL one1 x.Entry.Sketch.Regs + wL (wL one1) x.Entry.Sketch.Rows + 0) h0 (by omega)
  have b0 := a0.2
  have a1 := sc_ok (r := 1 + wL GSpan.w1 x.Entry.Ids + 1 + 1 + 1 + 1 + wL one1 x.Entry.Sketch.Hist + wL one1 x.Entry.Sketch.Regs + wL (wL one1) x.Entry.Sketch.Rows + 0) a0.1 (by omega)
  have b1 := a1.2
  have a2 := sc_ok (r := wL GSpan.w1 x.Entry.Ids + 1 + 1 + 1 + 1 + wL one1 x.Entry.Sketch.Hist + wL one1 x.Entry.Sketch.Regs + wL (wL one1) x.Entry.Sketch.Rows + 0) a1.1 (by omega)
  have b2 := a2.2
  have a3 := mkL_ok GSpan.ok1 x.Entry.Ids _ (1 + 1 + 1 + 1 + wL one1 x.Entry.Sketch.Hist + wL one1 x.Entry.Sketch.Regs + wL (wL one1) x.Entry.Sketch.Rows + 0) a2.1 (by omega)
  have b3 := a3.2
  have a4 := sc_ok (r := 1 + 1 + 1 + wL one1 x.Entry.Sketch.Hist + wL one1 x.Entry.Sketch.Regs + wL (wL one1) x.Entry.Sketch.Rows + 0) a3.1 (by omega)
  have b4 := a4.2
  have a5 := sc_ok (r := 1 + 1 + wL one1 x.Entry.Sketch.Hist + wL one1 x.Entry.Sketch.Regs + wL (wL one1) x.Entry.Sketch.Rows + 0) a4.1 (by omega)
  have b5 := a5.2
  have a6 := sc_ok (r := 1 + wL one1 x.Entry.Sketch.Hist + wL one1 x.Entry.Sketch.Regs + wL (wL one1) x.Entry.Sketch.Rows + 0) a5.1 (by omega)
  have b6 := a6.2
  have a7 := sc_ok (r := wL one1 x.Entry.Sketch.Hist + wL one1 x.Entry.Sketch.Regs + wL (wL one1) x.Entry.Sketch.Rows + 0) a6.1 (by omega)
  have b7 := a7.2
  have a8 := mkL_ok iM_ok x.Entry.Sketch.Hist _ (wL one1 x.Entry.Sketch.Regs + wL (wL one1) x.Entry.Sketch.Rows + 0) a7.1 (by omega)
  have b8 := a8.2
  have a9 := mkL_ok iM_ok x.Entry.Sketch.Regs _ (wL (wL one1) x.Entry.Sketch.Rows + 0) a8.1 (by omega)
  have b9 := a9.2
  have a10 := mkL_ok (mkL_ok iM_ok) x.Entry.Sketch.Rows _ (0) a9.1 (by omega)
  have b10 := a10.2
  repeat' (first | refine yx (mid_lt hi) ?_ | (apply zS;exact rfl;exact rfl;exact rfl;exact rfl;exact mid_nav hi rfl;exact mid_mine hi rfl;exact rfl;exact mid_put hi rfl;exact rfl;exact rfl;exact rfl) | (apply zl;exact rfl;exact rfl;exact mid_nav hi rfl;exact rfl;exact rfl;exact rfl) | refine yM g_q1u (q1u_eq x.Entry.Ids _ a2.1 (by omega)) ?_ | refine yM g_q1q (q1q_eq x.Entry.Sketch.Hist _ a7.1 (by omega)) ?_ | refine yM g_q1q (q1q_eq x.Entry.Sketch.Regs _ a8.1 (by omega)) ?_ | refine yM g_q1s (q1s_eq x.Entry.Sketch.Rows _ a9.1 (by omega)) ?_ | refine yt1 ?_ | refine yt0 ?_ | refine yt ?_ ?_ | refine yo ?_ | apply zn | refine yc ?_ | intro _)
  exact ih _ _ rfl
 ·intro k E hc hk hE
  repeat' (first | refine yt1 ?_ | refine yt0 ?_ | refine yt ?_ ?_ | refine yo ?_ | apply zn | refine yc ?_ | intro _)
  subst hk hE
  exact finM rfl rfl
set_option maxHeartbeats 2000000 in
theorem q1y_eq (l : List GRow) (k : Int) (h0 : 0 <= k) (h1 : k + (wL GRow.w1 l : Int) <= top62) : F_q1y [.mu (GRow.ls .y l), .x (iT k)] = some ⟨[.one (iT (mkL GRow.mk1 l k).2)], [[GRow.ls .y (mkL GRow.mk1 l k).1]]⟩ := by
 (refine funM_ev rfl ?_; show Ev m_q1y.code _ _ _)
 repeat' (first | refine yt1 ?_ | refine yt0 ?_ | refine yt ?_ ?_ | refine yo ?_ | apply zn | refine yc ?_ | intro _)
 show Ev _ _ _ _
 refine zmark ((GRow.el .y)) GRow.ok1 h0 h1 rfl ?_ ?_
 ·intro i E x k hi h0 h1 hc ih
  simp only [GRow.w1] at h1
  have a0 := mkL_ok GEntry.ok1 x.Lst _ (0) h0 (by omega)
  have b0 := a0.2
  repeat' (first | refine yx (mid_lt hi) ?_ | (apply zS;exact rfl;exact rfl;exact rfl;exact rfl;exact mid_nav hi rfl;exact mid_mine hi rfl;exact rfl;exact mid_put hi rfl;exact rfl;exact rfl;exact rfl) | (apply zl;exact rfl;exact rfl;exact mid_nav hi rfl;exact rfl;exact rfl;exact rfl) | refine yM g_q1w (q1w_eq x.Lst _ h0 (by omega)) ?_ | refine yt1 ?_ | refine yt0 ?_ | refine yt ?_ ?_ | refine yo ?_ | apply zn | refine yc ?_ | intro _)
  exact ih _ _ rfl
 ·intro k E hc hk hE
  repeat' (first | refine yt1 ?_ | refine yt0 ?_ | refine yt ?_ ?_ | refine yo ?_ | apply zn | refine yc ?_ | intro _)
  subst hk hE
  exact finM rfl rfl
set_option maxHeartbeats 2000000 in
theorem q1z_eq (l : List (List GRow)) (k : Int) (h0 : 0 <= k) (h1 : k + (wL (wL GRow.w1) l : Int) <= top62) : F_q1z [.mu (GRow.lss .y l), .x (iT k)] = some ⟨[.one (iT (mkL (mkL GRow.mk1) l k).2)], [[GRow.lss .y (mkL (mkL GRow.mk1) l k).1]]⟩ := by
 (refine funM_ev rfl ?_; show Ev m_q1z.code _ _ _)
 repeat' (first | refine yt1 ?_ | refine yt0 ?_ | refine yt ?_ ?_ | refine yo ?_ | apply zn | refine yc ?_ | intro _)
 show Ev _ _ _ _
 refine zmark ((GRow.ls .y)) (mkL_ok GRow.ok1) h0 h1 rfl ?_ ?_
 ·intro i E x k hi h0 h1 hc ih
  repeat' (first | refine yx (mid_lt hi) ?_ | (apply zS;exact rfl;exact rfl;exact rfl;exact rfl;exact mid_nav hi rfl;exact mid_mine hi rfl;exact rfl;exact mid_put hi rfl;exact rfl;exact rfl;exact rfl) | (apply zl;exact rfl;exact rfl;exact mid_nav hi rfl;exact rfl;exact rfl;exact rfl) | refine yM g_q1y (q1y_eq x _ h0 (by omega)) ?_ | refine yt1 ?_ | refine yt0 ?_ | refine yt ?_ ?_ | refine yo ?_ | apply zn | refine yc ?_ | intro _)
  exact ih _ _ rfl
 ·intro k E hc hk hE
  repeat' (first | refine yt1 ?_ | refine yt0 ?_ | refine yt ?_ ?_ | refine yo ?_ | apply zn | refine yc ?_ | intro _)
  subst hk hE
  exact finM rfl rfl
set_option maxHeartbeats 2000000 in
theorem q20_eq (l : List GSeat) (k : Int) (h0 : 0 <= k) (h1 : k + (wL GSeat.w1 l : Int) <= top62) : F_q20 [.mu (GSeat.ls .y l), .x (iT k)] = some ⟨[.one (iT (mkL GSeat.mk1 l k).2)], [[GSeat.ls .y (mkL GSeat.mk1 l k).1]]⟩ := by
 (refine funM_ev rfl ?_; show Ev m_q20.code _ _ _)
 repeat' (first | refine yt1 ?_ | refine yt0 ?_ | refine yt ?_ ?_ | refine yo ?_ | apply zn | refine yc ?_ | intro _)
 show Ev _ _ _ _
 refine zmark ((GSeat.el .y)) GSeat.ok1 h0 h1 rfl ?_ ?_
 ·intro i E x k hi h0 h1 hc ih
  simp only [GSeat.w1] at h1
  have a0 := sc_ok (r := 1 + wL GSpan.w1 x.Taken + 1 + 1 + 0) h0 (by omega)
  have b0 := a0.2
  have a1 := sc_ok (r := wL GSpan.w1 x.Taken + 1 + 1 + 0) a0.1 (by omega)
  have b1 := a1.2
  have a2 := mkL_ok GSpan.ok1 x.Taken _ (1 + 1 + 0) a1.1 (by omega)
  have b2 := a2.2
  have a3 := sc_ok (r := 1 + 0) a2.1 (by omega)
  have b3 := a3.2
  have a4 := sc_ok (r := 0) a3.1 (by omega)
  have b4 := a4.2
  repeat' (first | refine yx (mid_lt hi) ?_ | (apply zS;exact rfl;exact rfl;exact rfl;exact rfl;exact mid_nav hi rfl;exact mid_mine hi rfl;exact rfl;exact mid_put hi rfl;exact rfl;exact rfl;exact rfl) | (apply zl;exact rfl;exact rfl;exact mid_nav hi rfl;exact rfl;exact rfl;exact rfl) | refine yM g_q1u (q1u_eq x.Taken _ a1.1 (by omega)) ?_ | refine yt1 ?_ | refine yt0 ?_ | refine yt ?_ ?_ | refine yo ?_ | apply zn | refine yc ?_ | intro _)
  exact ih _ _ rfl
 ·intro k E hc hk hE
  repeat' (first | refine yt1 ?_ | refine yt0 ?_ | refine yt ?_ ?_ | refine yo ?_ | apply zn | refine yc ?_ | intro _)
  subst hk hE
  exact finM rfl rfl
set_option maxHeartbeats 2000000 in
theorem q21_eq (l : List GTurn) (k : Int) (h0 : 0 <= k) (h1 : k + (wL GTurn.w1 l : Int) <= top62) : F_q21 [.mu (GTurn.ls .y l), .x (iT k)] = some ⟨[.one (iT (mkL GTurn.mk1 l k).2)], [[GTurn.ls .y (mkL GTurn.mk1 l k).1]]⟩ := by
 (refine funM_ev rfl ?_; show Ev m_q21.code _ _ _)
 repeat' (first | refine yt1 ?_ | refine yt0 ?_ | refine yt ?_ ?_ | refine yo ?_ | apply zn | refine yc ?_ | intro _)
 show Ev _ _ _ _
 refine zmark ((GTurn.el .y)) GTurn.ok1 h0 h1 rfl ?_ ?_
 ·intro i E x k hi h0 h1 hc ih
  simp only [GTurn.w1] at h1
  have a0 := sc_ok (r := 1 + wL one1 x.Left + 0) h0 (by omega)
  have b0 := a0.2
  have a1 := sc_ok (r := wL one1 x.Left + 0) a0.1 (by omega)
  have b1 := a1.2
  have a2 := mkL_ok iM_ok x.Left _ (0) a1.1 (by omega)
  have b2 := a2.2
  repeat' (first | refine yx (mid_lt hi) ?_ | (apply zS;exact rfl;exact rfl;exact rfl;exact rfl;exact mid_nav hi rfl;exact mid_mine hi rfl;exact rfl;exact mid_put hi rfl;exact rfl;exact rfl;exact rfl) | (apply zl;exact rfl;exact rfl;exact mid_nav hi rfl;exact rfl;exact rfl;exact rfl) | refine yM g_q1q (q1q_eq x.Left _ a1.1 (by omega)) ?_ | refine yt1 ?_ | refine yt0 ?_ | refine yt ?_ ?_ | refine yo ?_ | apply zn | refine yc ?_ | intro _)
  exact ih _ _ rfl
 ·intro k E hc hk hE
  repeat' (first | refine yt1 ?_ | refine yt0 ?_ | refine yt ?_ ?_ | refine yo ?_ | apply zn | refine yc ?_ | intro _)
  subst hk hE
  exact finM rfl rfl
set_option maxHeartbeats 2000000 in
theorem q22_eq (x : GHouse) (k : Int) (h0 : 0 <= k) (h1 : k + (GHouse.wS x : Int) <= top62) : F_q22 [.ms (x.cs .y), .x (iT k)] = some ⟨[.one (iT (x.mkS k).2)], [(x.mkS k).1.cs .y]⟩ := by
 unfold GHouse.wS at h1
 have a0 := GConf.okS x.Conf _ (wL GSeat.w1 x.Seats + wL (wL GRow.w1) x.Rows + wL GTurn.w1 x.Turns + wL GEntry.w1 x.Root + wL GOut.w1 x.Outs + 0) h0 (by omega)
 have b0 := a0.2
 have a1 := mkL_ok GSeat.ok1 x.Seats _ (wL (wL GRow.w1) x.Rows + wL GTurn.w1 x.Turns + wL GEntry.w1 x.Root + wL GOut.w1 x.Outs + 0) a0.1 (by omega)
 have b1 := a1.2
 have a2 := mkL_ok (mkL_ok GRow.ok1) x.Rows _ (wL GTurn.w1 x.Turns + wL GEntry.w1 x.Root + wL GOut.w1 x.Outs + 0) a1.1 (by omega)
 have b2 := a2.2
 have a3 := mkL_ok GTurn.ok1 x.Turns _ (wL GEntry.w1 x.Root + wL GOut.w1 x.Outs + 0) a2.1 (by omega)
 have b3 := a3.2
 have a4 := mkL_ok GEntry.ok1 x.Root _ (wL GOut.w1 x.Outs + 0) a3.1 (by omega)
 have b4 := a4.2
 have a5 := mkL_ok GOut.ok1 x.Outs _ (0) a4.1 (by omega)
 have b5 := a5.2
 (refine funM_ev rfl ?_; show Ev m_q22.code _ _ _)
 repeat' (first | refine yN g_q1r (q1r_eq x.Conf _ h0 (by omega)) ?_ | refine yM g_q20 (q20_eq x.Seats _ a0.1 (by omega)) ?_ | refine yM g_q1z (q1z_eq x.Rows _ a1.1 (by omega)) ?_ | refine yM g_q21 (q21_eq x.Turns _ a2.1 (by omega)) ?_ | refine yM g_q1w (q1w_eq x.Root _ a3.1 (by omega)) ?_ | refine yM g_q1x (q1x_eq x.Outs _ a4.1 (by omega)) ?_ | refine yo ?_ | apply zn | refine yc ?_ | intro _)
 refine finM rfl ?_
 simp only [GHouse.mkS, GConf.mkS, sub_mk]
 rfl
set_option maxHeartbeats 2000000 in
theorem q23_eq (l : List UInt8) (k : Int) (h0 : 0 <= k) (h1 : k + (wL one1 l : Int) <= top62) : F_q23 [.mu (bytes .y l), .x (iT k)] = some ⟨[.one (iT (mkL bM l k).2)], [[bytes .y (mkL bM l k).1]]⟩ := by
 (refine funM_ev rfl ?_; show Ev m_q23.code _ _ _)
 repeat' (first | refine yt1 ?_ | refine yt0 ?_ | refine yt ?_ ?_ | refine yo ?_ | apply zn | refine yc ?_ | intro _)
 show Ev _ _ _ _
 refine zmark (iB) bM_ok h0 h1 rfl ?_ ?_
 ·intro i E x k hi h0 h1 hc ih
  repeat' (first | refine yx (mid_lt hi) ?_ | (apply zS;exact rfl;exact rfl;exact rfl;exact rfl;exact mid_nav hi rfl;exact mid_mine hi rfl;exact rfl;exact mid_put hi rfl;exact rfl;exact rfl;exact rfl) | (apply zl;exact rfl;exact rfl;exact mid_nav hi rfl;exact rfl;exact rfl;exact rfl) | refine yt1 ?_ | refine yt0 ?_ | refine yt ?_ ?_ | refine yo ?_ | apply zn | refine yc ?_ | intro _)
  refine ih _ _ ?_
  rw [bM_T]
  rfl
 ·intro k E hc hk hE
  repeat' (first | refine yt1 ?_ | refine yt0 ?_ | refine yt ?_ ?_ | refine yo ?_ | apply zn | refine yc ?_ | intro _)
  subst hk hE
  exact finM rfl rfl
set_option maxHeartbeats 2000000 in
theorem q24_eq (l : List GPack) (k : Int) (h0 : 0 <= k) (h1 : k + (wL GPack.w1 l : Int) <= top62) : F_q24 [.mu (GPack.ls .y l), .x (iT k)] = some ⟨[.one (iT (mkL GPack.mk1 l k).2)], [[GPack.ls .y (mkL GPack.mk1 l k).1]]⟩ := by
 (refine funM_ev rfl ?_; show Ev m_q24.code _ _ _)
 repeat' (first | refine yt1 ?_ | refine yt0 ?_ | refine yt ?_ ?_ | refine yo ?_ | apply zn | refine yc ?_ | intro _)
 show Ev _ _ _ _
 refine zmark ((GPack.el .y)) GPack.ok1 h0 h1 rfl ?_ ?_
 ·intro i E x k hi h0 h1 hc ih
  simp only [GPack.w1] at h1
  have a0 := sc_ok (r := wL one1 x.Bytes + 1 + 0) h0 (by omega)
  have b0 := a0.2
  have a1 := mkL_ok bM_ok x.Bytes _ (1 + 0) a0.1 (by omega)
  have b1 := a1.2
  have a2 := sc_ok (r := 0) a1.1 (by omega)
  have b2 := a2.2
  repeat' (first | refine yx (mid_lt hi) ?_ | (apply zS;exact rfl;exact rfl;exact rfl;exact rfl;exact mid_nav hi rfl;exact mid_mine hi rfl;exact rfl;exact mid_put hi rfl;exact rfl;exact rfl;exact rfl) | (apply zl;exact rfl;exact rfl;exact mid_nav hi rfl;exact rfl;exact rfl;exact rfl) | refine yM g_q23 (q23_eq x.Bytes _ a0.1 (by omega)) ?_ | refine yt1 ?_ | refine yt0 ?_ | refine yt ?_ ?_ | refine yo ?_ | apply zn | refine yc ?_ | intro _)
  exact ih _ _ rfl
 ·intro k E hc hk hE
  repeat' (first | refine yt1 ?_ | refine yt0 ?_ | refine yt ?_ ?_ | refine yo ?_ | apply zn | refine yc ?_ | intro _)
  subst hk hE
  exact finM rfl rfl
set_option maxHeartbeats 2000000 in
theorem q25_eq (x : GWorld) (k : Int) (h0 : 0 <= k) (h1 : k + (GWorld.wS x : Int) <= top62) : F_q25 [.ms (x.cs .y), .x (iT k)] = some ⟨[.one (iT (x.mkS k).2)], [(x.mkS k).1.cs .y]⟩ := by
 unfold GWorld.wS at h1
 have a0 := mkL_ok GAgent.ok1 x.Agents _ (GHouse.wS x.House + wL GPack.w1 x.Net + 0) h0 (by omega)
 have b0 := a0.2
 have a1 := GHouse.okS x.House _ (wL GPack.w1 x.Net + 0) a0.1 (by omega)
 have b1 := a1.2
 have a2 := mkL_ok GPack.ok1 x.Net _ (0) a1.1 (by omega)
 have b2 := a2.2
 (refine funM_ev rfl ?_; show Ev m_q25.code _ _ _)
 repeat' (first | refine yM g_q1v (q1v_eq x.Agents _ h0 (by omega)) ?_ | refine yN g_q22 (q22_eq x.House _ a0.1 (by omega)) ?_ | refine yM g_q24 (q24_eq x.Net _ a1.1 (by omega)) ?_ | refine yo ?_ | apply zn | refine yc ?_ | intro _)
 refine finM rfl ?_
 simp only [GWorld.mkS, GHouse.mkS, GConf.mkS, sub_mk]
 rfl
end Go.Wr
namespace Go.Wr
set_option maxRecDepth 20000
theorem q1a_eq (l : List Int) (k : Int) (h0 : 0 <= k) (h1 : k + (wL one1 l : Int) <= top62) : F_q1a [.x (ints .n (mkL iM l k).1), .x (iT k)] = some ⟨[.one (iT (mkL iM l k).2)], []⟩ := by
 (refine fun_ev rfl ?_; show Ev m_q1a.code _ _ _)
 repeat' (first | refine yt1 ?_ | refine yt0 ?_ | refine yt ?_ ?_ | refine yo ?_ | apply zn | refine yc ?_ | intro _)
 show Ev _ _ _ _
 refine zheld (iT) iM_ok h0 h1 rfl ?_ ?_
 ·intro i E x k hE h0 h1 hc ih
  repeat' (first | refine yi _ hE ?_ | refine yt0 ?_ (ht := neI _) | refine yt0 ?_ (ht := neB _) | refine yt1 ?_ | refine yt0 ?_ | refine yt ?_ ?_ | refine yo ?_ | apply zn | refine yc ?_ | intro _)
  exact ih _ _ rfl
 ·intro k E hc hk
  repeat' (first | refine yt1 ?_ | refine yt0 ?_ | refine yt ?_ ?_ | refine yo ?_ | apply zn | refine yc ?_ | intro _)
  subst hk
  exact fin rfl rfl
theorem q1b_eq (l : List (List Int)) (k : Int) (h0 : 0 <= k) (h1 : k + (wL (wL one1) l : Int) <= top62) : F_q1b [.x (GInt.lss .n (mkL (mkL iM) l k).1), .x (iT k)] = some ⟨[.one (iT (mkL (mkL iM) l k).2)], []⟩ := by
 (refine fun_ev rfl ?_; show Ev m_q1b.code _ _ _)
 repeat' (first | refine yt1 ?_ | refine yt0 ?_ | refine yt ?_ ?_ | refine yo ?_ | apply zn | refine yc ?_ | intro _)
 show Ev _ _ _ _
 refine zheld ((ints .n)) (mkL_ok iM_ok) h0 h1 rfl ?_ ?_
 ·intro i E x k hE h0 h1 hc ih
  have a0 := (mkL_ok iM_ok) x _ 0 h0 (by omega)
  have c0 := nnd a0.1
  repeat' (first | refine yi _ hE ?_ | refine yt0 ?_ (ht := neI _) | refine yt0 ?_ (ht := neB _) | refine yv g_q1a (q1a_eq x _ h0 (by omega)) ?_ | refine yt1 ?_ | refine yt0 ?_ | refine yt ?_ ?_ | refine yo ?_ | apply zn | refine yc ?_ | intro _)
  exact ih _ _ rfl
 ·intro k E hc hk
  repeat' (first | refine yt1 ?_ | refine yt0 ?_ | refine yt ?_ ?_ | refine yo ?_ | apply zn | refine yc ?_ | intro _)
  subst hk
  exact fin rfl rfl
set_option maxHeartbeats 2000000 in
theorem q1c_eq (l : List GItem) (k : Int) (h0 : 0 <= k) (h1 : k + (wL GItem.w1 l : Int) <= top62) : F_q1c [.x (GItem.ls .n (mkL GItem.mk1 l k).1), .x (iT k)] = some ⟨[.one (iT (mkL GItem.mk1 l k).2)], []⟩ := by
 (refine fun_ev rfl ?_; show Ev m_q1c.code _ _ _)
 repeat' (first | refine yt1 ?_ | refine yt0 ?_ | refine yt ?_ ?_ | refine yo ?_ | apply zn | refine yc ?_ | intro _)
 show Ev _ _ _ _
 refine zheld ((GItem.el .n)) GItem.ok1 h0 h1 rfl ?_ ?_
 ·intro i E x k hE h0 h1 hc ih
  simp only [GItem.w1, GSketch.w1] at h1
  have a0 := sc_ok (r := 1 + 1 + 1 + 1 + 1 + 1 + 1 + wL one1 x.Sketch.Hist + wL one1 x.Sketch.Regs + wL (wL one1) x.Sketch.Rows + 0) h0 (by omega)
  have b0 := a0.2
  have a1 := sc_ok (r := 1 + 1 + 1 + 1 + 1 + 1 + wL one1 x.Sketch.Hist + wL one1 x.Sketch.Regs + wL (wL one1) x.Sketch.Rows + 0) a0.1 (by omega)
  have b1 := a1.2
  have a2 := sc_ok (r := 1 + 1 + 1 + 1 + 1 + wL one1 x.Sketch.Hist + wL one1 x.Sketch.Regs + wL (wL one1) x.Sketch.Rows + 0) a1.1 (by omega)
  have b2 := a2.2
  have a3 := sc_ok (r := 1 + 1 + 1 + 1 + wL one1 x.Sketch.Hist + wL one1 x.Sketch.Regs + wL (wL one1) x.Sketch.Rows + 0) a2.1 (by omega)
  have b3 := a3.2
  have a4 := sc_ok (r := 1 + 1 + 1 + wL one1 x.Sketch.Hist + wL one1 x.Sketch.Regs + wL (wL one1) x.Sketch.Rows + 0) a3.1 (by omega)
  have b4 := a4.2
  have a5 := sc_ok (r := 1 + 1 + wL one1 x.Sketch.Hist + wL one1 x.Sketch.Regs + wL (wL one1) x.Sketch.Rows + 0) a4.1 (by omega)
  have b5 := a5.2
  have a6 := sc_ok (r := 1 + wL one1 x.Sketch.Hist + wL one1 x.Sketch.Regs + wL (wL one1) x.Sketch.Rows + 0) a5.1 (by omega)
  have b6 := a6.2
  have a7 := sc_ok (r := wL one1 x.Sketch.Hist + wL one1 x.Sketch.Regs + wL (wL one1) x.Sketch.Rows + 0) a6.1 (by omega)
  have b7 := a7.2
  have a8 := mkL_ok iM_ok x.Sketch.Hist _ (wL one1 x.Sketch.Regs + wL (wL one1) x.Sketch.Rows + 0) a7.1 (by omega)
  have b8 := a8.2
  have a9 := mkL_ok iM_ok x.Sketch.Regs _ (wL (wL one1) x.Sketch.Rows + 0) a8.1 (by omega)
  have b9 := a9.2
  have a10 := mkL_ok (mkL_ok iM_ok) x.Sketch.Rows _ (0) a9.1 (by omega)
  have b10 := a10.2
  have c8 := nnd a8.1
  have c9 := nnd a9.1
  have c10 := nnd a10.1
  repeat' (first | refine yi _ hE ?_ | refine yt0 ?_ (ht := neI _) | refine yt0 ?_ (ht := neB _) | refine yv g_q1a (q1a_eq x.Sketch.Hist _ a7.1 (by omega)) ?_ | refine yv g_q1a (q1a_eq x.Sketch.Regs _ a8.1 (by omega)) ?_ | refine yv g_q1b (q1b_eq x.Sketch.Rows _ a9.1 (by omega)) ?_ | refine yt1 ?_ | refine yt0 ?_ | refine yt ?_ ?_ | refine yo ?_ | apply zn | refine yc ?_ | intro _)
  exact ih _ _ rfl
 ·intro k E hc hk
  repeat' (first | refine yt1 ?_ | refine yt0 ?_ | refine yt ?_ ?_ | refine yo ?_ | apply zn | refine yc ?_ | intro _)
  subst hk
  exact fin rfl rfl
theorem q1d_eq (l : List GSpan) (k : Int) (h0 : 0 <= k) (h1 : k + (wL GSpan.w1 l : Int) <= top62) : F_q1d [.x (GSpan.ls .n (mkL GSpan.mk1 l k).1), .x (iT k)] = some ⟨[.one (iT (mkL GSpan.mk1 l k).2)], []⟩ := by
 (refine fun_ev rfl ?_; show Ev m_q1d.code _ _ _)
 repeat' (first | refine yt1 ?_ | refine yt0 ?_ | refine yt ?_ ?_ | refine yo ?_ | apply zn | refine yc ?_ | intro _)
 show Ev _ _ _ _
 refine zheld ((GSpan.el .n)) GSpan.ok1 h0 h1 rfl ?_ ?_
 ·intro i E x k hE h0 h1 hc ih
  simp only [GSpan.w1] at h1
  have a0 := sc_ok (r := 1 + 0) h0 (by omega)
  have b0 := a0.2
  have a1 := sc_ok (r := 0) a0.1 (by omega)
  have b1 := a1.2
  repeat' (first | refine yi _ hE ?_ | refine yt0 ?_ (ht := neI _) | refine yt0 ?_ (ht := neB _) | refine yt1 ?_ | refine yt0 ?_ | refine yt ?_ ?_ | refine yo ?_ | apply zn | refine yc ?_ | intro _)
  exact ih _ _ rfl
 ·intro k E hc hk
  repeat' (first | refine yt1 ?_ | refine yt0 ?_ | refine yt ?_ ?_ | refine yo ?_ | apply zn | refine yc ?_ | intro _)
  subst hk
  exact fin rfl rfl
set_option maxHeartbeats 2000000 in
theorem q1e_eq (l : List GAgent) (k : Int) (h0 : 0 <= k) (h1 : k + (wL GAgent.w1 l : Int) <= top62) : F_q1e [.x (GAgent.ls .n (mkL GAgent.mk1 l k).1), .x (iT k)] = some ⟨[.one (iT (mkL GAgent.mk1 l k).2)], []⟩ := by
 (refine fun_ev rfl ?_; show Ev m_q1e.code _ _ _)
 repeat' (first | refine yt1 ?_ | refine yt0 ?_ | refine yt ?_ ?_ | refine yo ?_ | apply zn | refine yc ?_ | intro _)
 show Ev _ _ _ _
 refine zheld ((GAgent.el .n)) GAgent.ok1 h0 h1 rfl ?_ ?_
 ·intro i E x k hE h0 h1 hc ih
  simp only [GAgent.w1] at h1
  have a0 := sc_ok (r := 1 + 1 + 1 + wL GItem.w1 x.Sealed + wL GSpan.w1 x.Taken + 1 + 0) h0 (by omega)
  have b0 := a0.2
  have a1 := sc_ok (r := 1 + 1 + wL GItem.w1 x.Sealed + wL GSpan.w1 x.Taken + 1 + 0) a0.1 (by omega)
  have b1 := a1.2
  have a2 := sc_ok (r := 1 + wL GItem.w1 x.Sealed + wL GSpan.w1 x.Taken + 1 + 0) a1.1 (by omega)
  have b2 := a2.2
  have a3 := sc_ok (r := wL GItem.w1 x.Sealed + wL GSpan.w1 x.Taken + 1 + 0) a2.1 (by omega)
  have b3 := a3.2
  have a4 := mkL_ok GItem.ok1 x.Sealed _ (wL GSpan.w1 x.Taken + 1 + 0) a3.1 (by omega)
  have b4 := a4.2
  have a5 := mkL_ok GSpan.ok1 x.Taken _ (1 + 0) a4.1 (by omega)
  have b5 := a5.2
  have a6 := sc_ok (r := 0) a5.1 (by omega)
  have b6 := a6.2
  have c4 := nnd a4.1
  have c5 := nnd a5.1
  repeat' (first | refine yi _ hE ?_ | refine yt0 ?_ (ht := neI _) | refine yt0 ?_ (ht := neB _) | refine yv g_q1c (q1c_eq x.Sealed _ a3.1 (by omega)) ?_ | refine yv g_q1d (q1d_eq x.Taken _ a4.1 (by omega)) ?_ | refine yt1 ?_ | refine yt0 ?_ | refine yt ?_ ?_ | refine yo ?_ | apply zn | refine yc ?_ | intro _)
  exact ih _ _ rfl
 ·intro k E hc hk
  repeat' (first | refine yt1 ?_ | refine yt0 ?_ | refine yt ?_ ?_ | refine yo ?_ | apply zn | refine yc ?_ | intro _)
  subst hk
  exact fin rfl rfl
set_option maxHeartbeats 2000000 in
theorem q1f_eq (x : GConf) (k : Int) (h0 : 0 <= k) (h1 : k + (GConf.wS x : Int) <= top62) : F_q1f [.st ((x.mkS k).1.cs .n), .x (iT k)] = some ⟨[.one (iT (x.mkS k).2)], []⟩ := by
 unfold GConf.wS at h1
 have a0 := mkL_ok iM_ok x.Weights _ (0) h0 (by omega)
 have b0 := a0.2
 have c0 := nnd a0.1
 (refine fun_ev rfl ?_; show Ev m_q1f.code _ _ _)
 repeat' (first | refine yv g_q1a (q1a_eq x.Weights _ h0 (by omega)) ?_ | refine yt1 ?_ | refine yt0 ?_ | refine yt ?_ ?_ | refine yo ?_ | apply zn | refine yc ?_ | intro _)
 exact fin rfl rfl
set_option maxHeartbeats 2000000 in
theorem q1g_eq (l : List GEntry) (k : Int) (h0 : 0 <= k) (h1 : k + (wL GEntry.w1 l : Int) <= top62) : F_q1g [.x (GEntry.ls .n (mkL GEntry.mk1 l k).1), .x (iT k)] = some ⟨[.one (iT (mkL GEntry.mk1 l k).2)], []⟩ := by
 (refine fun_ev rfl ?_; show Ev m_q1g.code _ _ _)
 repeat' (first | refine yt1 ?_ | refine yt0 ?_ | refine yt ?_ ?_ | refine yo ?_ | apply zn | refine yc ?_ | intro _)
 show Ev _ _ _ _
 refine zheld ((GEntry.el .n)) GEntry.ok1 h0 h1 rfl ?_ ?_
 ·intro i E x k hE h0 h1 hc ih
  simp only [GEntry.w1, GSketch.w1] at h1
  have a0 := sc_ok (r := 1 + wL GSpan.w1 x.Ids + 1 + 1 + 1 + 1 + wL one1 x.Sketch.Hist + wL one1 x.Sketch.Regs + wL (wL one1) x.Sketch.Rows + 0) h0 (by omega)
  have b0 := a0.2
  have a1 := sc_ok (r := wL GSpan.w1 x.Ids + 1 + 1 + 1 + 1 + wL one1 x.Sketch.Hist + wL one1 x.Sketch.Regs + wL (wL one1) x.Sketch.Rows + 0) a0.1 (by omega)
  have b1 := a1.2
  have a2 := mkL_ok GSpan.ok1 x.Ids _ (1 + 1 + 1 + 1 + wL one1 x.Sketch.Hist + wL one1 x.Sketch.Regs + wL (wL one1) x.Sketch.Rows + 0) a1.1 (by omega)
  have b2 := a2.2
  have a3 := sc_ok (r := 1 + 1 + 1 + wL one1 x.Sketch.Hist + wL one1 x.Sketch.Regs + wL (wL one1) x.Sketch.Rows + 0) a2.1 (by omega)
  have b3 := a3.2
  have a4 := sc_ok (r := 1 + 1 + wL one1 x.Sketch.Hist + wL one1 x.Sketch.Regs + wL (wL one1) x.Sketch.Rows + 0) a3.1 (by omega)
  have b4 := a4.2
  have a5 := sc_ok (r := 1 + wL one1 x.Sketch.Hist + wL one1 x.Sketch.Regs + wL (wL one1) x.Sketch.Rows + 0) a4.1 (by omega)
  have b5 := a5.2
  have a6 := sc_ok (r := wL one1 x.Sketch.Hist + wL one1 x.Sketch.Regs + wL (wL one1) x.Sketch.Rows + 0) a5.1 (by omega)
  have b6 := a6.2
  have a7 := mkL_ok iM_ok x.Sketch.Hist _ (wL one1 x.Sketch.Regs + wL (wL one1) x.Sketch.Rows + 0) a6.1 (by omega)
  have b7 := a7.2
  have a8 := mkL_ok iM_ok x.Sketch.Regs _ (wL (wL one1) x.Sketch.Rows + 0) a7.1 (by omega)
  have b8 := a8.2
  have a9 := mkL_ok (mkL_ok iM_ok) x.Sketch.Rows _ (0) a8.1 (by omega)
  have b9 := a9.2
  have c2 := nnd a2.1
  have c7 := nnd a7.1
  have c8 := nnd a8.1
  have c9 := nnd a9.1
  repeat' (first | refine yi _ hE ?_ | refine yt0 ?_ (ht := neI _) | refine yt0 ?_ (ht := neB _) | refine yv g_q1d (q1d_eq x.Ids _ a1.1 (by omega)) ?_ | refine yv g_q1a (q1a_eq x.Sketch.Hist _ a6.1 (by omega)) ?_ | refine yv g_q1a (q1a_eq x.Sketch.Regs _ a7.1 (by omega)) ?_ | refine yv g_q1b (q1b_eq x.Sketch.Rows _ a8.1 (by omega)) ?_ | refine yt1 ?_ | refine yt0 ?_ | refine yt ?_ ?_ | refine yo ?_ | apply zn | refine yc ?_ | intro _)
  exact ih _ _ rfl
 ·intro k E hc hk
  repeat' (first | refine yt1 ?_ | refine yt0 ?_ | refine yt ?_ ?_ | refine yo ?_ | apply zn | refine yc ?_ | intro _)
  subst hk
  exact fin rfl rfl
set_option maxHeartbeats 2000000 in
theorem q1h_eq (l : List GOut) (k : Int) (h0 : 0 <= k) (h1 : k + (wL GOut.w1 l : Int) <= top62) : F_q1h [.x (GOut.ls .n (mkL GOut.mk1 l k).1), .x (iT k)] = some ⟨[.one (iT (mkL GOut.mk1 l k).2)], []⟩ := by
 (refine fun_ev rfl ?_; show Ev m_q1h.code _ _ _)
 repeat' (first | refine yt1 ?_ | refine yt0 ?_ | refine yt ?_ ?_ | refine yo ?_ | apply zn | refine yc ?_ | intro _)
 show Ev _ _ _ _
 refine zheld ((GOut.el .n)) GOut.ok1 h0 h1 rfl ?_ ?_
 ·intro i E x k hE h0 h1 hc ih
  simp only [GOut.w1, GEntry.w1, GSketch.w1] at h1
  have a0 := sc_ok (r := 1 + 1 + wL GSpan.w1 x.Entry.Ids + 1 + 1 + 1 + 1 + wL one1 x.Entry.Sketch.Hist + wL one1 x.Entry.Sketch.Regs + wL (wL one1) x.Entry.Sketch.Rows + 0) h0 (by omega)
  have b0 := a0.2
  have a1 := sc_ok (r := 1 + wL GSpan.w1 x.Entry.Ids + 1 + 1 + 1 + 1 + wL one1 x.Entry.Sketch.Hist + wL one1 x.Entry.Sketch.Regs + wL (wL one1) x.Entry.Sketch.Rows + 0) a0.1 (by omega)
  have b1 := a1.2
  have a2 := sc_ok (r := wL GSpan.w1 x.Entry.Ids + 1 + 1 + 1 + 1 + wL one1 x.Entry.Sketch.Hist + wL one1 x.Entry.Sketch.Regs + wL (wL one1) x.Entry.Sketch.Rows + 0) a1.1 (by omega)
  have b2 := a2.2
  have a3 := mkL_ok GSpan.ok1 x.Entry.Ids _ (1 + 1 + 1 + 1 + wL one1 x.Entry.Sketch.Hist + wL one1 x.Entry.Sketch.Regs + wL (wL one1) x.Entry.Sketch.Rows + 0) a2.1 (by omega)
  have b3 := a3.2
  have a4 := sc_ok (r := 1 + 1 + 1 + wL one1 x.Entry.Sketch.Hist + wL one1 x.Entry.Sketch.Regs + wL (wL one1) x.Entry.Sketch.Rows + 0) a3.1 (by omega)
  have b4 := a4.2
  have a5 := sc_ok (r := 1 + 1 + wL one1 x.Entry.Sketch.Hist + wL one1 x.Entry.Sketch.Regs + wL (wL one1) x.Entry.Sketch.Rows + 0) a4.1 (by omega)
  have b5 := a5.2
  have a6 := sc_ok (r := 1 + wL one1 x.Entry.Sketch.Hist + wL one1 x.Entry.Sketch.Regs + wL (wL one1) x.Entry.Sketch.Rows + 0) a5.1 (by omega)
  have b6 := a6.2
  have a7 := sc_ok (r := wL one1 x.Entry.Sketch.Hist + wL one1 x.Entry.Sketch.Regs + wL (wL one1) x.Entry.Sketch.Rows + 0) a6.1 (by omega)
  have b7 := a7.2
  have a8 := mkL_ok iM_ok x.Entry.Sketch.Hist _ (wL one1 x.Entry.Sketch.Regs + wL (wL one1) x.Entry.Sketch.Rows + 0) a7.1 (by omega)
  have b8 := a8.2
  have a9 := mkL_ok iM_ok x.Entry.Sketch.Regs _ (wL (wL one1) x.Entry.Sketch.Rows + 0) a8.1 (by omega)
  have b9 := a9.2
  have a10 := mkL_ok (mkL_ok iM_ok) x.Entry.Sketch.Rows _ (0) a9.1 (by omega)
  have b10 := a10.2
  have c3 := nnd a3.1
  have c8 := nnd a8.1
  have c9 := nnd a9.1
  have c10 := nnd a10.1
  repeat' (first | refine yi _ hE ?_ | refine yt0 ?_ (ht := neI _) | refine yt0 ?_ (ht := neB _) | refine yv g_q1d (q1d_eq x.Entry.Ids _ a2.1 (by omega)) ?_ | refine yv g_q1a (q1a_eq x.Entry.Sketch.Hist _ a7.1 (by omega)) ?_ | refine yv g_q1a (q1a_eq x.Entry.Sketch.Regs _ a8.1 (by omega)) ?_ | refine yv g_q1b (q1b_eq x.Entry.Sketch.Rows _ a9.1 (by omega)) ?_ | refine yt1 ?_ | refine yt0 ?_ | refine yt ?_ ?_ | refine yo ?_ | apply zn | refine yc ?_ | intro _)
  exact ih _ _ rfl
 ·intro k E hc hk
  repeat' (first | refine yt1 ?_ | refine yt0 ?_ | refine yt ?_ ?_ | refine yo ?_ | apply zn | refine yc ?_ | intro _)
  subst hk
  exact fin rfl rfl
theorem q1i_eq (l : List GRow) (k : Int) (h0 : 0 <= k) (h1 : k + (wL GRow.w1 l : Int) <= top62) : F_q1i [.x (GRow.ls .n (mkL GRow.mk1 l k).1), .x (iT k)] = some ⟨[.one (iT (mkL GRow.mk1 l k).2)], []⟩ := by
 (refine fun_ev rfl ?_; show Ev m_q1i.code _ _ _)
 repeat' (first | refine yt1 ?_ | refine yt0 ?_ | refine yt ?_ ?_ | refine yo ?_ | apply zn | refine yc ?_ | intro _)
 show Ev _ _ _ _
 refine zheld ((GRow.el .n)) GRow.ok1 h0 h1 rfl ?_ ?_
 ·intro i E x k hE h0 h1 hc ih
  simp only [GRow.w1] at h1
  have a0 := mkL_ok GEntry.ok1 x.Lst _ (0) h0 (by omega)
  have b0 := a0.2
  have c0 := nnd a0.1
  repeat' (first | refine yi _ hE ?_ | refine yt0 ?_ (ht := neI _) | refine yt0 ?_ (ht := neB _) | refine yv g_q1g (q1g_eq x.Lst _ h0 (by omega)) ?_ | refine yt1 ?_ | refine yt0 ?_ | refine yt ?_ ?_ | refine yo ?_ | apply zn | refine yc ?_ | intro _)
  exact ih _ _ rfl
 ·intro k E hc hk
  repeat' (first | refine yt1 ?_ | refine yt0 ?_ | refine yt ?_ ?_ | refine yo ?_ | apply zn | refine yc ?_ | intro _)
  subst hk
  exact fin rfl rfl
theorem q1j_eq (l : List (List GRow)) (k : Int) (h0 : 0 <= k) (h1 : k + (wL (wL GRow.w1) l : Int) <= top62) : F_q1j [.x (GRow.lss .n (mkL (mkL GRow.mk1) l k).1), .x (iT k)] = some ⟨[.one (iT (mkL (mkL GRow.mk1) l k).2)], []⟩ := by
 (refine fun_ev rfl ?_; show Ev m_q1j.code _ _ _)
 repeat' (first | refine yt1 ?_ | refine yt0 ?_ | refine yt ?_ ?_ | refine yo ?_ | apply zn | refine yc ?_ | intro _)
 show Ev _ _ _ _
 refine zheld ((GRow.ls .n)) (mkL_ok GRow.ok1) h0 h1 rfl ?_ ?_
 ·intro i E x k hE h0 h1 hc ih
  have a0 := (mkL_ok GRow.ok1) x _ 0 h0 (by omega)
  have c0 := nnd a0.1
  repeat' (first | refine yi _ hE ?_ | refine yt0 ?_ (ht := neI _) | refine yt0 ?_ (ht := neB _) | refine yv g_q1i (q1i_eq x _ h0 (by omega)) ?_ | refine yt1 ?_ | refine yt0 ?_ | refine yt ?_ ?_ | refine yo ?_ | apply zn | refine yc ?_ | intro _)
  exact ih _ _ rfl
 ·intro k E hc hk
  repeat' (first | refine yt1 ?_ | refine yt0 ?_ | refine yt ?_ ?_ | refine yo ?_ | apply zn | refine yc ?_ | intro _)
  subst hk
  exact fin rfl rfl
set_option maxHeartbeats 2000000 in
theorem q1k_eq (l : List GSeat) (k : Int) (h0 : 0 <= k) (h1 : k + (wL GSeat.w1 l : Int) <= top62) : F_q1k [.x (GSeat.ls .n (mkL GSeat.mk1 l k).1), .x (iT k)] = some ⟨[.one (iT (mkL GSeat.mk1 l k).2)], []⟩ := by
 (refine fun_ev rfl ?_; show Ev m_q1k.code _ _ _)
 repeat' (first | refine yt1 ?_ | refine yt0 ?_ | refine yt ?_ ?_ | refine yo ?_ | apply zn | refine yc ?_ | intro _)
 show Ev _ _ _ _
 refine zheld ((GSeat.el .n)) GSeat.ok1 h0 h1 rfl ?_ ?_
 ·intro i E x k hE h0 h1 hc ih
  simp only [GSeat.w1] at h1
  have a0 := sc_ok (r := 1 + wL GSpan.w1 x.Taken + 1 + 1 + 0) h0 (by omega)
  have b0 := a0.2
  have a1 := sc_ok (r := wL GSpan.w1 x.Taken + 1 + 1 + 0) a0.1 (by omega)
  have b1 := a1.2
  have a2 := mkL_ok GSpan.ok1 x.Taken _ (1 + 1 + 0) a1.1 (by omega)
  have b2 := a2.2
  have a3 := sc_ok (r := 1 + 0) a2.1 (by omega)
  have b3 := a3.2
  have a4 := sc_ok (r := 0) a3.1 (by omega)
  have b4 := a4.2
  have c2 := nnd a2.1
  repeat' (first | refine yi _ hE ?_ | refine yt0 ?_ (ht := neI _) | refine yt0 ?_ (ht := neB _) | refine yv g_q1d (q1d_eq x.Taken _ a1.1 (by omega)) ?_ | refine yt1 ?_ | refine yt0 ?_ | refine yt ?_ ?_ | refine yo ?_ | apply zn | refine yc ?_ | intro _)
  exact ih _ _ rfl
 ·intro k E hc hk
  repeat' (first | refine yt1 ?_ | refine yt0 ?_ | refine yt ?_ ?_ | refine yo ?_ | apply zn | refine yc ?_ | intro _)
  subst hk
  exact fin rfl rfl
theorem q1l_eq (l : List GTurn) (k : Int) (h0 : 0 <= k) (h1 : k + (wL GTurn.w1 l : Int) <= top62) : F_q1l [.x (GTurn.ls .n (mkL GTurn.mk1 l k).1), .x (iT k)] = some ⟨[.one (iT (mkL GTurn.mk1 l k).2)], []⟩ := by
 (refine fun_ev rfl ?_; show Ev m_q1l.code _ _ _)
 repeat' (first | refine yt1 ?_ | refine yt0 ?_ | refine yt ?_ ?_ | refine yo ?_ | apply zn | refine yc ?_ | intro _)
 show Ev _ _ _ _
 refine zheld ((GTurn.el .n)) GTurn.ok1 h0 h1 rfl ?_ ?_
 ·intro i E x k hE h0 h1 hc ih
  simp only [GTurn.w1] at h1
  have a0 := sc_ok (r := 1 + wL one1 x.Left + 0) h0 (by omega)
  have b0 := a0.2
  have a1 := sc_ok (r := wL one1 x.Left + 0) a0.1 (by omega)
  have b1 := a1.2
  have a2 := mkL_ok iM_ok x.Left _ (0) a1.1 (by omega)
  have b2 := a2.2
  have c2 := nnd a2.1
  repeat' (first | refine yi _ hE ?_ | refine yt0 ?_ (ht := neI _) | refine yt0 ?_ (ht := neB _) | refine yv g_q1a (q1a_eq x.Left _ a1.1 (by omega)) ?_ | refine yt1 ?_ | refine yt0 ?_ | refine yt ?_ ?_ | refine yo ?_ | apply zn | refine yc ?_ | intro _)
  exact ih _ _ rfl
 ·intro k E hc hk
  repeat' (first | refine yt1 ?_ | refine yt0 ?_ | refine yt ?_ ?_ | refine yo ?_ | apply zn | refine yc ?_ | intro _)
  subst hk
  exact fin rfl rfl
set_option maxHeartbeats 2000000 in
theorem q1m_eq (x : GHouse) (k : Int) (h0 : 0 <= k) (h1 : k + (GHouse.wS x : Int) <= top62) : F_q1m [.st ((x.mkS k).1.cs .n), .x (iT k)] = some ⟨[.one (iT (x.mkS k).2)], []⟩ := by
 unfold GHouse.wS at h1
 have a0 := GConf.okS x.Conf _ (wL GSeat.w1 x.Seats + wL (wL GRow.w1) x.Rows + wL GTurn.w1 x.Turns + wL GEntry.w1 x.Root + wL GOut.w1 x.Outs + 0) h0 (by omega)
 have b0 := a0.2
 have a1 := mkL_ok GSeat.ok1 x.Seats _ (wL (wL GRow.w1) x.Rows + wL GTurn.w1 x.Turns + wL GEntry.w1 x.Root + wL GOut.w1 x.Outs + 0) a0.1 (by omega)
 have b1 := a1.2
 have a2 := mkL_ok (mkL_ok GRow.ok1) x.Rows _ (wL GTurn.w1 x.Turns + wL GEntry.w1 x.Root + wL GOut.w1 x.Outs + 0) a1.1 (by omega)
 have b2 := a2.2
 have a3 := mkL_ok GTurn.ok1 x.Turns _ (wL GEntry.w1 x.Root + wL GOut.w1 x.Outs + 0) a2.1 (by omega)
 have b3 := a3.2
 have a4 := mkL_ok GEntry.ok1 x.Root _ (wL GOut.w1 x.Outs + 0) a3.1 (by omega)
 have b4 := a4.2
 have a5 := mkL_ok GOut.ok1 x.Outs _ (0) a4.1 (by omega)
 have b5 := a5.2
 have c0 := nnd a0.1
 have c1 := nnd a1.1
 have c2 := nnd a2.1
 have c3 := nnd a3.1
 have c4 := nnd a4.1
 have c5 := nnd a5.1
 (refine fun_ev rfl ?_; show Ev m_q1m.code _ _ _)
 repeat' (first | refine yv g_q1f (q1f_eq x.Conf _ h0 (by omega)) ?_ | refine yv g_q1k (q1k_eq x.Seats _ a0.1 (by omega)) ?_ | refine yv g_q1j (q1j_eq x.Rows _ a1.1 (by omega)) ?_ | refine yv g_q1l (q1l_eq x.Turns _ a2.1 (by omega)) ?_ | refine yv g_q1g (q1g_eq x.Root _ a3.1 (by omega)) ?_ | refine yv g_q1h (q1h_eq x.Outs _ a4.1 (by omega)) ?_ | refine yt1 ?_ | refine yt0 ?_ | refine yt ?_ ?_ | refine yo ?_ | apply zn | refine yc ?_ | intro _)
 exact fin rfl rfl
theorem q1n_eq (l : List UInt8) (k : Int) (h0 : 0 <= k) (h1 : k + (wL one1 l : Int) <= top62) : F_q1n [.x (bytes .n (mkL bM l k).1), .x (iT k)] = some ⟨[.one (iT (mkL bM l k).2)], []⟩ := by
 (refine fun_ev rfl ?_; show Ev m_q1n.code _ _ _)
 repeat' (first | refine yt1 ?_ | refine yt0 ?_ | refine yt ?_ ?_ | refine yo ?_ | apply zn | refine yc ?_ | intro _)
 show Ev _ _ _ _
 refine zheld (iB) bM_ok h0 h1 rfl ?_ ?_
 ·intro i E x k hE h0 h1 hc ih
  repeat' (first | refine yi _ hE ?_ | refine yt0 ?_ (ht := neI _) | refine yt0 ?_ (ht := neB _) | refine yt0 ?_ (ht := neU _) | refine yt1 ?_ | refine yt0 ?_ | refine yt ?_ ?_ | refine yo ?_ | apply zn | refine yc ?_ | intro _)
  exact ih _ _ rfl
 ·intro k E hc hk
  repeat' (first | refine yt1 ?_ | refine yt0 ?_ | refine yt ?_ ?_ | refine yo ?_ | apply zn | refine yc ?_ | intro _)
  subst hk
  exact fin rfl rfl
theorem q1o_eq (l : List GPack) (k : Int) (h0 : 0 <= k) (h1 : k + (wL GPack.w1 l : Int) <= top62) : F_q1o [.x (GPack.ls .n (mkL GPack.mk1 l k).1), .x (iT k)] = some ⟨[.one (iT (mkL GPack.mk1 l k).2)], []⟩ := by
 (refine fun_ev rfl ?_; show Ev m_q1o.code _ _ _)
 repeat' (first | refine yt1 ?_ | refine yt0 ?_ | refine yt ?_ ?_ | refine yo ?_ | apply zn | refine yc ?_ | intro _)
 show Ev _ _ _ _
 refine zheld ((GPack.el .n)) GPack.ok1 h0 h1 rfl ?_ ?_
 ·intro i E x k hE h0 h1 hc ih
  simp only [GPack.w1] at h1
  have a0 := sc_ok (r := wL one1 x.Bytes + 1 + 0) h0 (by omega)
  have b0 := a0.2
  have a1 := mkL_ok bM_ok x.Bytes _ (1 + 0) a0.1 (by omega)
  have b1 := a1.2
  have a2 := sc_ok (r := 0) a1.1 (by omega)
  have b2 := a2.2
  have c1 := nnd a1.1
  repeat' (first | refine yi _ hE ?_ | refine yt0 ?_ (ht := neI _) | refine yt0 ?_ (ht := neB _) | refine yv g_q1n (q1n_eq x.Bytes _ a0.1 (by omega)) ?_ | refine yt1 ?_ | refine yt0 ?_ | refine yt ?_ ?_ | refine yo ?_ | apply zn | refine yc ?_ | intro _)
  exact ih _ _ rfl
 ·intro k E hc hk
  repeat' (first | refine yt1 ?_ | refine yt0 ?_ | refine yt ?_ ?_ | refine yo ?_ | apply zn | refine yc ?_ | intro _)
  subst hk
  exact fin rfl rfl
set_option maxHeartbeats 2000000 in
theorem q1p_eq (x : GWorld) (k : Int) (h0 : 0 <= k) (h1 : k + (GWorld.wS x : Int) <= top62) : F_q1p [.st ((x.mkS k).1.cs .n), .x (iT k)] = some ⟨[.one (iT (x.mkS k).2)], []⟩ := by
 unfold GWorld.wS at h1
 have a0 := mkL_ok GAgent.ok1 x.Agents _ (GHouse.wS x.House + wL GPack.w1 x.Net + 0) h0 (by omega)
 have b0 := a0.2
 have a1 := GHouse.okS x.House _ (wL GPack.w1 x.Net + 0) a0.1 (by omega)
 have b1 := a1.2
 have a2 := mkL_ok GPack.ok1 x.Net _ (0) a1.1 (by omega)
 have b2 := a2.2
 have c0 := nnd a0.1
 have c1 := nnd a1.1
 have c2 := nnd a2.1
 (refine fun_ev rfl ?_; show Ev m_q1p.code _ _ _)
 repeat' (first | refine yv g_q1e (q1e_eq x.Agents _ h0 (by omega)) ?_ | refine yv g_q1m (q1m_eq x.House _ a0.1 (by omega)) ?_ | refine yv g_q1o (q1o_eq x.Net _ a1.1 (by omega)) ?_ | refine yt1 ?_ | refine yt0 ?_ | refine yt ?_ ?_ | refine yo ?_ | apply zn | refine yc ?_ | intro _)
 exact fin rfl rfl
end Go.Wr

