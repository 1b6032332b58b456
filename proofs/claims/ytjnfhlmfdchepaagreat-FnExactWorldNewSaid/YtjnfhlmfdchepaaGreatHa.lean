/-
  What is proved: lemmas on the way to the laws of this seat. No condition.
-/
import Derived.Test.YtjnfhlmfdchepaaGreatMa
import Derived.Test.YtjnfhlmfdchepaaGreatRd
import Derived.Test.YtjnfhlmfdchepaaGreatTa
set_option linter.unusedVariables false
set_option linter.unusedSimpArgs false
namespace Go.Wr
set_option maxRecDepth 20000
theorem q26_eq (l : List Int) (n : Int) (hn : Rng n) (hl : l.length <= maxLen) : F_q26 [.x (ints .n l), .x (iT n)] = some ⟨[.one (iT (left n (l.length)))], []⟩ := by
 have e := wrap_len (f := iT) hn hl
 (refine fun_ev rfl ?_; show Ev m_q26.code _ _ _)
 repeat' (first | refine yt1 ?_ | refine yt0 ?_ | refine yt ?_ ?_ | refine yo ?_ | apply zn | refine yc ?_ | intro _)
 all_goals (refine fin rfl ?_; rename_i h; rw [e] at h; simp only [e, decide_eq_true_eq, decide_eq_false_iff_not] at h ⊢)
 ·rw [left, if_pos (by omega)]
 ·rw [left, if_neg (by omega)]
theorem q27_eq (x : GConf) (n : Int) (hn : Rng n) (hl : x.fit) : F_q27 [.st (x.cs .n), .x (iT n)] = some ⟨[.one (iT (left n x.bulk))], []⟩ := by
 have f0 := hl
 (refine fun_ev rfl ?_; show Ev m_q27.code _ _ _)
 repeat' (first | (apply zk g_q26;exact rfl;simp only [List.map,fzl];exact rfl;exact (q26_eq x.Weights _ (by repeat (first | assumption | apply left_rng)) f0);exact rfl;exact rfl;exact rfl) | refine yt1 ?_ | refine yt0 ?_ | refine yt ?_ ?_ | refine yo ?_ | apply zn | refine yc ?_ | intro _)
 all_goals (refine fin rfl ?_; unfold GConf.bulk; grind [left, Rng])
end Go.Wr
namespace Go.Wr
set_option maxRecDepth 20000
theorem q28_eq (l : List Int) (hl : l.length <= 1048576) : F_q28 [.x (ints .n l)] = some ⟨[.one (ints .y l)], []⟩ := by
 have hl1 := Nat.le_refl l.length
 (refine fun_ev rfl ?_; show Ev m_q28.code _ _ _)
 repeat' (first | (apply zs;(iterate 3 exact rfl);exact (Int.natCast_nonneg _);exact (by simp [lenMax] <;> omega);exact rfl;exact rfl) | refine yt1 ?_ | refine yt0 ?_ | refine yt ?_ ?_ | refine yo ?_ | apply zn | refine yc ?_ | intro _)
 show Ev _ _ _ _
 refine ev_for (fun i (_ : Unit) => [(0, .x (ints .n l)), (3, .own ⟨0, 0, 0⟩ (.l .y 1 (fil iT (iT 0) l i))), (4, .x (iT i))]) (fun i _ => True) l.length () trivial (by rw [fil_zero, <- List.length_map iT]; rfl) ?_
 intro i _ hi1 _ ih
 rcases Nat.lt_or_ge i l.length with hlt | hge
 ·have hx := List.getElem?_eq_getElem hlt
  generalize l[i] = x at hx
  have hc : decide ((i : Int) < (l.map iT).length) = true := by simpa using hlt
  have hg := fil_get iT (iT 0) l hlt
  repeat' (first | refine yi (iT x) (map_at hx) ?_ | (apply zw;exact rfl;exact rfl;exact Int.natCast_nonneg _;exact (by rw [fil_len iT (iT 0) l hi1]; omega);exact rfl;exact rfl) | (apply zS ((iT 0)) (.l .y 1 (fil iT (iT 0) l (i + 1)));(iterate 4 exact rfl);exact (by simp [T.nav, T.kid, hg]);exact (by simp [T.mine, Ob.own, hg]);exact rfl;exact (by simp [T.put, T.kid, T.setKid, T.cells, T.ofCells, splice, hg, <- fil_set iT (iT 0) l hx]);(iterate 3 exact rfl)) | refine yt1 ?_ | refine yt0 ?_ | refine yt ?_ ?_ | refine yo ?_ | apply zn | refine yc ?_ | intro _)
  refine ih () hlt trivial _ _ ?_
  rw [<- w64s (by omega)]; rfl
 ·have hc : decide ((i : Int) < (l.map iT).length) = false := by simpa using hge
  repeat' (first | refine yt1 ?_ | refine yt0 ?_ | refine yt ?_ ?_ | refine yo ?_ | apply zn | refine yc ?_ | intro _)
  refine fin rfl ?_
  simp only [sub_all, fil_end _ _ _ hge]
theorem q29_eq (x : GConf) (hl : x.bulk <= 1048576) : F_q29 [.st (x.cs .n)] = some ⟨[.st (x.cs .y)], []⟩ := by
 simp only [GConf.bulk] at hl
 (refine fun_ev rfl ?_; show Ev m_q29.code _ _ _)
 repeat' (first | refine yv g_q28 (q28_eq x.Weights (by omega)) ?_ | refine yo ?_ | apply zn | refine yc ?_ | intro _)
 refine fin rfl ?_
 try simp only [sub_all]
 rfl
end Go.Wr
namespace Go.Wr
set_option maxRecDepth 20000
theorem qk_eq (a b : List Int) (hl : a.length <= 1048576) : F_qk [.x (ints .n a), .x (ints .n b)] = some ⟨[.one (.b (decide (a = b)))], []⟩ := by
 have hl1 := Nat.le_refl a.length
 (refine fun_ev rfl ?_; show Ev m_qk.code _ _ _)
 repeat' (first | refine yt1 ?_ | refine yt0 ?_ | refine yt ?_ ?_ | refine yo ?_ | apply zn | refine yc ?_ | intro _)
 ·refine fin rfl ?_
  rename_i h
  have h2 : a ≠ b := ne_len h
  simp [h2]
 ·have hlen : a.length = b.length := by rename_i h; exact eq_len h
  show Ev _ _ _ _
  refine ev_for (fun i (_ : Unit) => [(0, .x (ints .n a)), (1, .x (ints .n b)), (5, .x (iT i))]) (fun i _ => a.take i = b.take i) a.length () (by simp) rfl ?_
  intro i _ hi1 hinv ih
  rcases Nat.lt_or_ge i a.length with hlt | hge
  ·have hx := List.getElem?_eq_getElem hlt
   have hy := List.getElem?_eq_getElem (show i < b.length by omega)
   generalize a[i] = x at hx
   generalize b[i]'(by omega) = y at hy
   have hc : decide ((i : Int) < (a.map iT).length) = true := by simpa using hlt
   repeat' (first | refine yi (iT x) (map_at hx) ?_ | refine yi (iT y) (map_at hy) ?_ | refine yt1 ?_ | refine yt0 ?_ | refine yt ?_ ?_ | refine yo ?_ | apply zn | refine yc ?_ | intro _)
   ·refine fin rfl ?_
    rename_i h
    have h2 : a ≠ b := ne_at hx hy (by simpa using h)
    simp [h2]
   ·rename_i h
    have hxy : x = y := by simpa using h
    refine ih () hlt (eq_step hinv hx (hxy ▸ hy)) _ _ ?_
    rw [<- w64s (by omega)]; rfl
  ·have hc : decide ((i : Int) < (a.map iT).length) = false := by simpa using hge
   repeat' (first | refine yt1 ?_ | refine yt0 ?_ | refine yt ?_ ?_ | refine yo ?_ | apply zn | refine yc ?_ | intro _)
   refine fin rfl ?_
   simp [eq_end hinv hlen hge]
theorem ql_eq (a b : GConf) (hl : a.bulk <= 1048576) : F_ql [.st (a.cs .n), .st (b.cs .n)] = some ⟨[.one (.b (decide (a = b)))], []⟩ := by
 simp only [GConf.bulk] at hl
 (refine fun_ev rfl ?_; show Ev m_ql.code _ _ _)
 repeat' (first | refine yv g_qk (qk_eq a.Weights b.Weights (by omega)) ?_ | refine yt1 ?_ | refine yt0 ?_ | refine yt ?_ ?_ | refine yo ?_ | apply zn | refine yc ?_ | intro _)
 all_goals (refine fin rfl ?_; simp only [Out.mk.injEq, List.cons.injEq, RV.one.injEq, T.b.injEq, and_true])
 all_goals (rcases a with ⟨a0, a1, a2, a3, a4, a5, a6, a7⟩; rcases b with ⟨b0, b1, b2, b3, b4, b5, b6, b7⟩; simp only [GConf.mk.injEq] at *; simp_all)
theorem qm_eq (a b : List (List Int)) (hl : bulks List.length a <= 1048576) : F_qm [.x (GInt.lss .n a), .x (GInt.lss .n b)] = some ⟨[.one (.b (decide (a = b)))], []⟩ := by
 have hl1 := bulks_len List.length a
 (refine fun_ev rfl ?_; show Ev m_qm.code _ _ _)
 repeat' (first | refine yt1 ?_ | refine yt0 ?_ | refine yt ?_ ?_ | refine yo ?_ | apply zn | refine yc ?_ | intro _)
 ·refine fin rfl ?_
  rename_i h
  have h2 : a ≠ b := ne_len h
  simp [h2]
 ·have hlen : a.length = b.length := by rename_i h; exact eq_len h
  show Ev _ _ _ _
  refine ev_for (fun i (_ : Unit) => [(0, .x (GInt.lss .n a)), (1, .x (GInt.lss .n b)), (5, .x (iT i))]) (fun i _ => a.take i = b.take i) a.length () (by simp) rfl ?_
  intro i _ hi1 hinv ih
  rcases Nat.lt_or_ge i a.length with hlt | hge
  ·have hx := List.getElem?_eq_getElem hlt
   have hy := List.getElem?_eq_getElem (show i < b.length by omega)
   generalize a[i] = x at hx
   generalize b[i]'(by omega) = y at hy
   have hc : decide ((i : Int) < (a.map (ints .n)).length) = true := by simpa using hlt
   repeat' (first | refine yi ((ints .n) x) (map_at hx) ?_ | refine yi ((ints .n) y) (map_at hy) ?_ | refine yv g_qk (qk_eq x y (by have := bulks_mem (f := List.length) hx; omega)) ?_ | refine yt1 ?_ | refine yt0 ?_ | refine yt ?_ ?_ | refine yo ?_ | apply zn | refine yc ?_ | intro _)
   ·refine fin rfl ?_
    rename_i h
    have h2 : a ≠ b := ne_at hx hy (by simpa using h)
    simp [h2]
   ·rename_i h
    have hxy : x = y := by simpa using h
    refine ih () hlt (eq_step hinv hx (hxy ▸ hy)) _ _ ?_
    rw [<- w64s (by omega)]; rfl
  ·have hc : decide ((i : Int) < (a.map (ints .n)).length) = false := by simpa using hge
   repeat' (first | refine yt1 ?_ | refine yt0 ?_ | refine yt ?_ ?_ | refine yo ?_ | apply zn | refine yc ?_ | intro _)
   refine fin rfl ?_
   simp [eq_end hinv hlen hge]
theorem qn_eq (a b : GSketch) (hl : a.bulk <= 1048576) : F_qn [.st (a.cs .n), .st (b.cs .n)] = some ⟨[.one (.b (decide (a = b)))], []⟩ := by
 simp only [GSketch.bulk] at hl
 (refine fun_ev rfl ?_; show Ev m_qn.code _ _ _)
 repeat' (first | refine yv g_qk (qk_eq a.Hist b.Hist (by omega)) ?_ | refine yv g_qk (qk_eq a.Regs b.Regs (by omega)) ?_ | refine yv g_qm (qm_eq a.Rows b.Rows (by omega)) ?_ | refine yt1 ?_ | refine yt0 ?_ | refine yt ?_ ?_ | refine yo ?_ | apply zn | refine yc ?_ | intro _)
 all_goals (refine fin rfl ?_; simp only [Out.mk.injEq, List.cons.injEq, RV.one.injEq, T.b.injEq, and_true])
 all_goals (rcases a with ⟨a0, a1, a2, a3, a4, a5, a6⟩; rcases b with ⟨b0, b1, b2, b3, b4, b5, b6⟩; simp only [GSketch.mk.injEq] at *; simp_all)
theorem qo_eq (a b : GItem) (hl : a.bulk <= 1048576) : F_qo [.st (a.cs .n), .st (b.cs .n)] = some ⟨[.one (.b (decide (a = b)))], []⟩ := by
 simp only [GItem.bulk] at hl
 (refine fun_ev rfl ?_; show Ev m_qo.code _ _ _)
 repeat' (first | refine yv g_qn (qn_eq a.Sketch b.Sketch (by omega)) ?_ | refine yt1 ?_ | refine yt0 ?_ | refine yt ?_ ?_ | refine yo ?_ | apply zn | refine yc ?_ | intro _)
 all_goals (refine fin rfl ?_; simp only [Out.mk.injEq, List.cons.injEq, RV.one.injEq, T.b.injEq, and_true])
 all_goals (rcases a with ⟨a0, a1, a2, a3, a4⟩; rcases b with ⟨b0, b1, b2, b3, b4⟩; simp only [GItem.mk.injEq] at *; simp_all)
theorem qp_eq (a b : List GItem) (hl : bulks GItem.bulk a <= 1048576) : F_qp [.x (GItem.ls .n a), .x (GItem.ls .n b)] = some ⟨[.one (.b (decide (a = b)))], []⟩ := by
 have hl1 := bulks_len GItem.bulk a
 (refine fun_ev rfl ?_; show Ev m_qp.code _ _ _)
 repeat' (first | refine yt1 ?_ | refine yt0 ?_ | refine yt ?_ ?_ | refine yo ?_ | apply zn | refine yc ?_ | intro _)
 ·refine fin rfl ?_
  rename_i h
  have h2 : a ≠ b := ne_len h
  simp [h2]
 ·have hlen : a.length = b.length := by rename_i h; exact eq_len h
  show Ev _ _ _ _
  refine ev_for (fun i (_ : Unit) => [(0, .x (GItem.ls .n a)), (1, .x (GItem.ls .n b)), (5, .x (iT i))]) (fun i _ => a.take i = b.take i) a.length () (by simp) rfl ?_
  intro i _ hi1 hinv ih
  rcases Nat.lt_or_ge i a.length with hlt | hge
  ·have hx := List.getElem?_eq_getElem hlt
   have hy := List.getElem?_eq_getElem (show i < b.length by omega)
   generalize a[i] = x at hx
   generalize b[i]'(by omega) = y at hy
   have hc : decide ((i : Int) < (a.map (GItem.el .n)).length) = true := by simpa using hlt
   repeat' (first | refine yi ((GItem.el .n) x) (map_at hx) ?_ | refine yi ((GItem.el .n) y) (map_at hy) ?_ | refine yv g_qo (qo_eq x y (by have := bulks_mem (f := GItem.bulk) hx; omega)) ?_ | refine yt1 ?_ | refine yt0 ?_ | refine yt ?_ ?_ | refine yo ?_ | apply zn | refine yc ?_ | intro _)
   ·refine fin rfl ?_
    rename_i h
    have h2 : a ≠ b := ne_at hx hy (by simpa using h)
    simp [h2]
   ·rename_i h
    have hxy : x = y := by simpa using h
    refine ih () hlt (eq_step hinv hx (hxy ▸ hy)) _ _ ?_
    rw [<- w64s (by omega)]; rfl
  ·have hc : decide ((i : Int) < (a.map (GItem.el .n)).length) = false := by simpa using hge
   repeat' (first | refine yt1 ?_ | refine yt0 ?_ | refine yt ?_ ?_ | refine yo ?_ | apply zn | refine yc ?_ | intro _)
   refine fin rfl ?_
   simp [eq_end hinv hlen hge]
theorem qq_eq (a b : GSpan) : F_qq [.st (a.cs .n), .st (b.cs .n)] = some ⟨[.one (.b (decide (a = b)))], []⟩ := by
 (refine fun_ev rfl ?_; show Ev m_qq.code _ _ _)
 repeat' (first | refine yt1 ?_ | refine yt0 ?_ | refine yt ?_ ?_ | refine yo ?_ | apply zn | refine yc ?_ | intro _)
 all_goals (refine fin rfl ?_; simp only [Out.mk.injEq, List.cons.injEq, RV.one.injEq, T.b.injEq, and_true])
 all_goals (rcases a with ⟨a0, a1⟩; rcases b with ⟨b0, b1⟩; simp only [GSpan.mk.injEq] at *; simp_all)
theorem qr_eq (a b : List GSpan) (hl : a.length <= 1048576) : F_qr [.x (GSpan.ls .n a), .x (GSpan.ls .n b)] = some ⟨[.one (.b (decide (a = b)))], []⟩ := by
 have hl1 := Nat.le_refl a.length
 (refine fun_ev rfl ?_; show Ev m_qr.code _ _ _)
 repeat' (first | refine yt1 ?_ | refine yt0 ?_ | refine yt ?_ ?_ | refine yo ?_ | apply zn | refine yc ?_ | intro _)
 ·refine fin rfl ?_
  rename_i h
  have h2 : a ≠ b := ne_len h
  simp [h2]
 ·have hlen : a.length = b.length := by rename_i h; exact eq_len h
  show Ev _ _ _ _
  refine ev_for (fun i (_ : Unit) => [(0, .x (GSpan.ls .n a)), (1, .x (GSpan.ls .n b)), (5, .x (iT i))]) (fun i _ => a.take i = b.take i) a.length () (by simp) rfl ?_
  intro i _ hi1 hinv ih
  rcases Nat.lt_or_ge i a.length with hlt | hge
  ·have hx := List.getElem?_eq_getElem hlt
   have hy := List.getElem?_eq_getElem (show i < b.length by omega)
   generalize a[i] = x at hx
   generalize b[i]'(by omega) = y at hy
   have hc : decide ((i : Int) < (a.map (GSpan.el .n)).length) = true := by simpa using hlt
   repeat' (first | refine yi ((GSpan.el .n) x) (map_at hx) ?_ | refine yi ((GSpan.el .n) y) (map_at hy) ?_ | refine yv g_qq (qq_eq x y) ?_ | refine yt1 ?_ | refine yt0 ?_ | refine yt ?_ ?_ | refine yo ?_ | apply zn | refine yc ?_ | intro _)
   ·refine fin rfl ?_
    rename_i h
    have h2 : a ≠ b := ne_at hx hy (by simpa using h)
    simp [h2]
   ·rename_i h
    have hxy : x = y := by simpa using h
    refine ih () hlt (eq_step hinv hx (hxy ▸ hy)) _ _ ?_
    rw [<- w64s (by omega)]; rfl
  ·have hc : decide ((i : Int) < (a.map (GSpan.el .n)).length) = false := by simpa using hge
   repeat' (first | refine yt1 ?_ | refine yt0 ?_ | refine yt ?_ ?_ | refine yo ?_ | apply zn | refine yc ?_ | intro _)
   refine fin rfl ?_
   simp [eq_end hinv hlen hge]
theorem qs_eq (a b : GAgent) (hl : a.bulk <= 1048576) : F_qs [.st (a.cs .n), .st (b.cs .n)] = some ⟨[.one (.b (decide (a = b)))], []⟩ := by
 simp only [GAgent.bulk] at hl
 (refine fun_ev rfl ?_; show Ev m_qs.code _ _ _)
 repeat' (first | refine yv g_qp (qp_eq a.Sealed b.Sealed (by omega)) ?_ | refine yv g_qr (qr_eq a.Taken b.Taken (by omega)) ?_ | refine yt1 ?_ | refine yt0 ?_ | refine yt ?_ ?_ | refine yo ?_ | apply zn | refine yc ?_ | intro _)
 all_goals (refine fin rfl ?_; simp only [Out.mk.injEq, List.cons.injEq, RV.one.injEq, T.b.injEq, and_true])
 all_goals (rcases a with ⟨a0, a1, a2, a3, a4, a5, a6⟩; rcases b with ⟨b0, b1, b2, b3, b4, b5, b6⟩; simp only [GAgent.mk.injEq] at *; simp_all)
theorem qt_eq (a b : List GAgent) (hl : bulks GAgent.bulk a <= 1048576) : F_qt [.x (GAgent.ls .n a), .x (GAgent.ls .n b)] = some ⟨[.one (.b (decide (a = b)))], []⟩ := by
 have hl1 := bulks_len GAgent.bulk a
 (refine fun_ev rfl ?_; show Ev m_qt.code _ _ _)
 repeat' (first | refine yt1 ?_ | refine yt0 ?_ | refine yt ?_ ?_ | refine yo ?_ | apply zn | refine yc ?_ | intro _)
 ·refine fin rfl ?_
  rename_i h
  have h2 : a ≠ b := ne_len h
  simp [h2]
 ·have hlen : a.length = b.length := by rename_i h; exact eq_len h
  show Ev _ _ _ _
  refine ev_for (fun i (_ : Unit) => [(0, .x (GAgent.ls .n a)), (1, .x (GAgent.ls .n b)), (5, .x (iT i))]) (fun i _ => a.take i = b.take i) a.length () (by simp) rfl ?_
  intro i _ hi1 hinv ih
  rcases Nat.lt_or_ge i a.length with hlt | hge
  ·have hx := List.getElem?_eq_getElem hlt
   have hy := List.getElem?_eq_getElem (show i < b.length by omega)
   generalize a[i] = x at hx
   generalize b[i]'(by omega) = y at hy
   have hc : decide ((i : Int) < (a.map (GAgent.el .n)).length) = true := by simpa using hlt
   repeat' (first | refine yi ((GAgent.el .n) x) (map_at hx) ?_ | refine yi ((GAgent.el .n) y) (map_at hy) ?_ | refine yv g_qs (qs_eq x y (by have := bulks_mem (f := GAgent.bulk) hx; omega)) ?_ | refine yt1 ?_ | refine yt0 ?_ | refine yt ?_ ?_ | refine yo ?_ | apply zn | refine yc ?_ | intro _)
   ·refine fin rfl ?_
    rename_i h
    have h2 : a ≠ b := ne_at hx hy (by simpa using h)
    simp [h2]
   ·rename_i h
    have hxy : x = y := by simpa using h
    refine ih () hlt (eq_step hinv hx (hxy ▸ hy)) _ _ ?_
    rw [<- w64s (by omega)]; rfl
  ·have hc : decide ((i : Int) < (a.map (GAgent.el .n)).length) = false := by simpa using hge
   repeat' (first | refine yt1 ?_ | refine yt0 ?_ | refine yt ?_ ?_ | refine yo ?_ | apply zn | refine yc ?_ | intro _)
   refine fin rfl ?_
   simp [eq_end hinv hlen hge]
theorem qu_eq (a b : GEntry) (hl : a.bulk <= 1048576) : F_qu [.st (a.cs .n), .st (b.cs .n)] = some ⟨[.one (.b (decide (a = b)))], []⟩ := by
 simp only [GEntry.bulk] at hl
 (refine fun_ev rfl ?_; show Ev m_qu.code _ _ _)
 repeat' (first | refine yv g_qr (qr_eq a.Ids b.Ids (by omega)) ?_ | refine yv g_qn (qn_eq a.Sketch b.Sketch (by omega)) ?_ | refine yt1 ?_ | refine yt0 ?_ | refine yt ?_ ?_ | refine yo ?_ | apply zn | refine yc ?_ | intro _)
 all_goals (refine fin rfl ?_; simp only [Out.mk.injEq, List.cons.injEq, RV.one.injEq, T.b.injEq, and_true])
 all_goals (rcases a with ⟨a0, a1, a2, a3⟩; rcases b with ⟨b0, b1, b2, b3⟩; simp only [GEntry.mk.injEq] at *; simp_all)
theorem qv_eq (a b : List GEntry) (hl : bulks GEntry.bulk a <= 1048576) : F_qv [.x (GEntry.ls .n a), .x (GEntry.ls .n b)] = some ⟨[.one (.b (decide (a = b)))], []⟩ := by
 have hl1 := bulks_len GEntry.bulk a
 (refine fun_ev rfl ?_; show Ev m_qv.code _ _ _)
 repeat' (first | refine yt1 ?_ | refine yt0 ?_ | refine yt ?_ ?_ | refine yo ?_ | apply zn | refine yc ?_ | intro _)
 ·refine fin rfl ?_
  rename_i h
  have h2 : a ≠ b := ne_len h
  simp [h2]
 ·have hlen : a.length = b.length := by rename_i h; exact eq_len h
  show Ev _ _ _ _
  refine ev_for (fun i (_ : Unit) => [(0, .x (GEntry.ls .n a)), (1, .x (GEntry.ls .n b)), (5, .x (iT i))]) (fun i _ => a.take i = b.take i) a.length () (by simp) rfl ?_
  intro i _ hi1 hinv ih
  rcases Nat.lt_or_ge i a.length with hlt | hge
  ·have hx := List.getElem?_eq_getElem hlt
   have hy := List.getElem?_eq_getElem (show i < b.length by omega)
   generalize a[i] = x at hx
   generalize b[i]'(by omega) = y at hy
   have hc : decide ((i : Int) < (a.map (GEntry.el .n)).length) = true := by simpa using hlt
   repeat' (first | refine yi ((GEntry.el .n) x) (map_at hx) ?_ | refine yi ((GEntry.el .n) y) (map_at hy) ?_ | refine yv g_qu (qu_eq x y (by have := bulks_mem (f := GEntry.bulk) hx; omega)) ?_ | refine yt1 ?_ | refine yt0 ?_ | refine yt ?_ ?_ | refine yo ?_ | apply zn | refine yc ?_ | intro _)
   ·refine fin rfl ?_
    rename_i h
    have h2 : a ≠ b := ne_at hx hy (by simpa using h)
    simp [h2]
   ·rename_i h
    have hxy : x = y := by simpa using h
    refine ih () hlt (eq_step hinv hx (hxy ▸ hy)) _ _ ?_
    rw [<- w64s (by omega)]; rfl
  ·have hc : decide ((i : Int) < (a.map (GEntry.el .n)).length) = false := by simpa using hge
   repeat' (first | refine yt1 ?_ | refine yt0 ?_ | refine yt ?_ ?_ | refine yo ?_ | apply zn | refine yc ?_ | intro _)
   refine fin rfl ?_
   simp [eq_end hinv hlen hge]
theorem qw_eq (a b : GOut) (hl : a.bulk <= 1048576) : F_qw [.st (a.cs .n), .st (b.cs .n)] = some ⟨[.one (.b (decide (a = b)))], []⟩ := by
 simp only [GOut.bulk] at hl
 (refine fun_ev rfl ?_; show Ev m_qw.code _ _ _)
 repeat' (first | refine yv g_qu (qu_eq a.Entry b.Entry (by omega)) ?_ | refine yt1 ?_ | refine yt0 ?_ | refine yt ?_ ?_ | refine yo ?_ | apply zn | refine yc ?_ | intro _)
 all_goals (refine fin rfl ?_; simp only [Out.mk.injEq, List.cons.injEq, RV.one.injEq, T.b.injEq, and_true])
 all_goals (rcases a with ⟨a0, a1⟩; rcases b with ⟨b0, b1⟩; simp only [GOut.mk.injEq] at *; simp_all)
theorem qx_eq (a b : List GOut) (hl : bulks GOut.bulk a <= 1048576) : F_qx [.x (GOut.ls .n a), .x (GOut.ls .n b)] = some ⟨[.one (.b (decide (a = b)))], []⟩ := by
 have hl1 := bulks_len GOut.bulk a
 (refine fun_ev rfl ?_; show Ev m_qx.code _ _ _)
 repeat' (first | refine yt1 ?_ | refine yt0 ?_ | refine yt ?_ ?_ | refine yo ?_ | apply zn | refine yc ?_ | intro _)
 ·refine fin rfl ?_
  rename_i h
  have h2 : a ≠ b := ne_len h
  simp [h2]
 ·have hlen : a.length = b.length := by rename_i h; exact eq_len h
  show Ev _ _ _ _
  refine ev_for (fun i (_ : Unit) => [(0, .x (GOut.ls .n a)), (1, .x (GOut.ls .n b)), (5, .x (iT i))]) (fun i _ => a.take i = b.take i) a.length () (by simp) rfl ?_
  intro i _ hi1 hinv ih
  rcases Nat.lt_or_ge i a.length with hlt | hge
  ·have hx := List.getElem?_eq_getElem hlt
   have hy := List.getElem?_eq_getElem (show i < b.length by omega)
   generalize a[i] = x at hx
   generalize b[i]'(by omega) = y at hy
   have hc : decide ((i : Int) < (a.map (GOut.el .n)).length) = true := by simpa using hlt
   repeat' (first | refine yi ((GOut.el .n) x) (map_at hx) ?_ | refine yi ((GOut.el .n) y) (map_at hy) ?_ | refine yv g_qw (qw_eq x y (by have := bulks_mem (f := GOut.bulk) hx; omega)) ?_ | refine yt1 ?_ | refine yt0 ?_ | refine yt ?_ ?_ | refine yo ?_ | apply zn | refine yc ?_ | intro _)
   ·refine fin rfl ?_
    rename_i h
    have h2 : a ≠ b := ne_at hx hy (by simpa using h)
    simp [h2]
   ·rename_i h
    have hxy : x = y := by simpa using h
    refine ih () hlt (eq_step hinv hx (hxy ▸ hy)) _ _ ?_
    rw [<- w64s (by omega)]; rfl
  ·have hc : decide ((i : Int) < (a.map (GOut.el .n)).length) = false := by simpa using hge
   repeat' (first | refine yt1 ?_ | refine yt0 ?_ | refine yt ?_ ?_ | refine yo ?_ | apply zn | refine yc ?_ | intro _)
   refine fin rfl ?_
   simp [eq_end hinv hlen hge]
theorem qy_eq (a b : GRow) (hl : a.bulk <= 1048576) : F_qy [.st (a.cs .n), .st (b.cs .n)] = some ⟨[.one (.b (decide (a = b)))], []⟩ := by
 simp only [GRow.bulk] at hl
 (refine fun_ev rfl ?_; show Ev m_qy.code _ _ _)
 repeat' (first | refine yv g_qv (qv_eq a.Lst b.Lst (by omega)) ?_ | refine yt1 ?_ | refine yt0 ?_ | refine yt ?_ ?_ | refine yo ?_ | apply zn | refine yc ?_ | intro _)
 all_goals (refine fin rfl ?_; simp only [Out.mk.injEq, List.cons.injEq, RV.one.injEq, T.b.injEq, and_true])
 all_goals (rcases a with ⟨a0⟩; rcases b with ⟨b0⟩; simp only [GRow.mk.injEq] at *; simp_all)
theorem qz_eq (a b : List GRow) (hl : bulks GRow.bulk a <= 1048576) : F_qz [.x (GRow.ls .n a), .x (GRow.ls .n b)] = some ⟨[.one (.b (decide (a = b)))], []⟩ := by
 have hl1 := bulks_len GRow.bulk a
 (refine fun_ev rfl ?_; show Ev m_qz.code _ _ _)
 repeat' (first | refine yt1 ?_ | refine yt0 ?_ | refine yt ?_ ?_ | refine yo ?_ | apply zn | refine yc ?_ | intro _)
 ·refine fin rfl ?_
  rename_i h
  have h2 : a ≠ b := ne_len h
  simp [h2]
 ·have hlen : a.length = b.length := by rename_i h; exact eq_len h
  show Ev _ _ _ _
  refine ev_for (fun i (_ : Unit) => [(0, .x (GRow.ls .n a)), (1, .x (GRow.ls .n b)), (5, .x (iT i))]) (fun i _ => a.take i = b.take i) a.length () (by simp) rfl ?_
  intro i _ hi1 hinv ih
  rcases Nat.lt_or_ge i a.length with hlt | hge
  ·have hx := List.getElem?_eq_getElem hlt
   have hy := List.getElem?_eq_getElem (show i < b.length by omega)
   generalize a[i] = x at hx
   generalize b[i]'(by omega) = y at hy
   have hc : decide ((i : Int) < (a.map (GRow.el .n)).length) = true := by simpa using hlt
   repeat' (first | refine yi ((GRow.el .n) x) (map_at hx) ?_ | refine yi ((GRow.el .n) y) (map_at hy) ?_ | refine yv g_qy (qy_eq x y (by have := bulks_mem (f := GRow.bulk) hx; omega)) ?_ | refine yt1 ?_ | refine yt0 ?_ | refine yt ?_ ?_ | refine yo ?_ | apply zn | refine yc ?_ | intro _)
   ·refine fin rfl ?_
    rename_i h
    have h2 : a ≠ b := ne_at hx hy (by simpa using h)
    simp [h2]
   ·rename_i h
    have hxy : x = y := by simpa using h
    refine ih () hlt (eq_step hinv hx (hxy ▸ hy)) _ _ ?_
    rw [<- w64s (by omega)]; rfl
  ·have hc : decide ((i : Int) < (a.map (GRow.el .n)).length) = false := by simpa using hge
   repeat' (first | refine yt1 ?_ | refine yt0 ?_ | refine yt ?_ ?_ | refine yo ?_ | apply zn | refine yc ?_ | intro _)
   refine fin rfl ?_
   simp [eq_end hinv hlen hge]
theorem q10_eq (a b : List (List GRow)) (hl : bulks (bulks GRow.bulk) a <= 1048576) : F_q10 [.x (GRow.lss .n a), .x (GRow.lss .n b)] = some ⟨[.one (.b (decide (a = b)))], []⟩ := by
 have hl1 := bulks_len (bulks GRow.bulk) a
 (refine fun_ev rfl ?_; show Ev m_q10.code _ _ _)
 repeat' (first | refine yt1 ?_ | refine yt0 ?_ | refine yt ?_ ?_ | refine yo ?_ | apply zn | refine yc ?_ | intro _)
 ·refine fin rfl ?_
  rename_i h
  have h2 : a ≠ b := ne_len h
  simp [h2]
 ·have hlen : a.length = b.length := by rename_i h; exact eq_len h
  show Ev _ _ _ _
  refine ev_for (fun i (_ : Unit) => [(0, .x (GRow.lss .n a)), (1, .x (GRow.lss .n b)), (5, .x (iT i))]) (fun i _ => a.take i = b.take i) a.length () (by simp) rfl ?_
  intro i _ hi1 hinv ih
  rcases Nat.lt_or_ge i a.length with hlt | hge
  ·have hx := List.getElem?_eq_getElem hlt
   have hy := List.getElem?_eq_getElem (show i < b.length by omega)
   generalize a[i] = x at hx
   generalize b[i]'(by omega) = y at hy
   have hc : decide ((i : Int) < (a.map (GRow.ls .n)).length) = true := by simpa using hlt
   repeat' (first | refine yi ((GRow.ls .n) x) (map_at hx) ?_ | refine yi ((GRow.ls .n) y) (map_at hy) ?_ | refine yv g_qz (qz_eq x y (by have := bulks_mem (f := (bulks GRow.bulk)) hx; omega)) ?_ | refine yt1 ?_ | refine yt0 ?_ | refine yt ?_ ?_ | refine yo ?_ | apply zn | refine yc ?_ | intro _)
   ·refine fin rfl ?_
    rename_i h
    have h2 : a ≠ b := ne_at hx hy (by simpa using h)
    simp [h2]
   ·rename_i h
    have hxy : x = y := by simpa using h
    refine ih () hlt (eq_step hinv hx (hxy ▸ hy)) _ _ ?_
    rw [<- w64s (by omega)]; rfl
  ·have hc : decide ((i : Int) < (a.map (GRow.ls .n)).length) = false := by simpa using hge
   repeat' (first | refine yt1 ?_ | refine yt0 ?_ | refine yt ?_ ?_ | refine yo ?_ | apply zn | refine yc ?_ | intro _)
   refine fin rfl ?_
   simp [eq_end hinv hlen hge]
theorem q11_eq (a b : GSeat) (hl : a.bulk <= 1048576) : F_q11 [.st (a.cs .n), .st (b.cs .n)] = some ⟨[.one (.b (decide (a = b)))], []⟩ := by
 simp only [GSeat.bulk] at hl
 (refine fun_ev rfl ?_; show Ev m_q11.code _ _ _)
 repeat' (first | refine yv g_qr (qr_eq a.Taken b.Taken (by omega)) ?_ | refine yt1 ?_ | refine yt0 ?_ | refine yt ?_ ?_ | refine yo ?_ | apply zn | refine yc ?_ | intro _)
 all_goals (refine fin rfl ?_; simp only [Out.mk.injEq, List.cons.injEq, RV.one.injEq, T.b.injEq, and_true])
 all_goals (rcases a with ⟨a0, a1, a2, a3, a4⟩; rcases b with ⟨b0, b1, b2, b3, b4⟩; simp only [GSeat.mk.injEq] at *; simp_all)
theorem q12_eq (a b : List GSeat) (hl : bulks GSeat.bulk a <= 1048576) : F_q12 [.x (GSeat.ls .n a), .x (GSeat.ls .n b)] = some ⟨[.one (.b (decide (a = b)))], []⟩ := by
 have hl1 := bulks_len GSeat.bulk a
 (refine fun_ev rfl ?_; show Ev m_q12.code _ _ _)
 repeat' (first | refine yt1 ?_ | refine yt0 ?_ | refine yt ?_ ?_ | refine yo ?_ | apply zn | refine yc ?_ | intro _)
 ·refine fin rfl ?_
  rename_i h
  have h2 : a ≠ b := ne_len h
  simp [h2]
 ·have hlen : a.length = b.length := by rename_i h; exact eq_len h
  show Ev _ _ _ _
  refine ev_for (fun i (_ : Unit) => [(0, .x (GSeat.ls .n a)), (1, .x (GSeat.ls .n b)), (5, .x (iT i))]) (fun i _ => a.take i = b.take i) a.length () (by simp) rfl ?_
  intro i _ hi1 hinv ih
  rcases Nat.lt_or_ge i a.length with hlt | hge
  ·have hx := List.getElem?_eq_getElem hlt
   have hy := List.getElem?_eq_getElem (show i < b.length by omega)
   generalize a[i] = x at hx
   generalize b[i]'(by omega) = y at hy
   have hc : decide ((i : Int) < (a.map (GSeat.el .n)).length) = true := by simpa using hlt
   repeat' (first | refine yi ((GSeat.el .n) x) (map_at hx) ?_ | refine yi ((GSeat.el .n) y) (map_at hy) ?_ | refine yv g_q11 (q11_eq x y (by have := bulks_mem (f := GSeat.bulk) hx; omega)) ?_ | refine yt1 ?_ | refine yt0 ?_ | refine yt ?_ ?_ | refine yo ?_ | apply zn | refine yc ?_ | intro _)
   ·refine fin rfl ?_
    rename_i h
    have h2 : a ≠ b := ne_at hx hy (by simpa using h)
    simp [h2]
   ·rename_i h
    have hxy : x = y := by simpa using h
    refine ih () hlt (eq_step hinv hx (hxy ▸ hy)) _ _ ?_
    rw [<- w64s (by omega)]; rfl
  ·have hc : decide ((i : Int) < (a.map (GSeat.el .n)).length) = false := by simpa using hge
   repeat' (first | refine yt1 ?_ | refine yt0 ?_ | refine yt ?_ ?_ | refine yo ?_ | apply zn | refine yc ?_ | intro _)
   refine fin rfl ?_
   simp [eq_end hinv hlen hge]
theorem q13_eq (a b : GTurn) (hl : a.bulk <= 1048576) : F_q13 [.st (a.cs .n), .st (b.cs .n)] = some ⟨[.one (.b (decide (a = b)))], []⟩ := by
 simp only [GTurn.bulk] at hl
 (refine fun_ev rfl ?_; show Ev m_q13.code _ _ _)
 repeat' (first | refine yv g_qk (qk_eq a.Left b.Left (by omega)) ?_ | refine yt1 ?_ | refine yt0 ?_ | refine yt ?_ ?_ | refine yo ?_ | apply zn | refine yc ?_ | intro _)
 all_goals (refine fin rfl ?_; simp only [Out.mk.injEq, List.cons.injEq, RV.one.injEq, T.b.injEq, and_true])
 all_goals (rcases a with ⟨a0, a1, a2⟩; rcases b with ⟨b0, b1, b2⟩; simp only [GTurn.mk.injEq] at *; simp_all)
theorem q14_eq (a b : List GTurn) (hl : bulks GTurn.bulk a <= 1048576) : F_q14 [.x (GTurn.ls .n a), .x (GTurn.ls .n b)] = some ⟨[.one (.b (decide (a = b)))], []⟩ := by
 have hl1 := bulks_len GTurn.bulk a
 (refine fun_ev rfl ?_; show Ev m_q14.code _ _ _)
 repeat' (first | refine yt1 ?_ | refine yt0 ?_ | refine yt ?_ ?_ | refine yo ?_ | apply zn | refine yc ?_ | intro _)
 ·refine fin rfl ?_
  rename_i h
  have h2 : a ≠ b := ne_len h
  simp [h2]
 ·have hlen : a.length = b.length := by rename_i h; exact eq_len h
  show Ev _ _ _ _
  refine ev_for (fun i (_ : Unit) => [(0, .x (GTurn.ls .n a)), (1, .x (GTurn.ls .n b)), (5, .x (iT i))]) (fun i _ => a.take i = b.take i) a.length () (by simp) rfl ?_
  intro i _ hi1 hinv ih
  rcases Nat.lt_or_ge i a.length with hlt | hge
  ·have hx := List.getElem?_eq_getElem hlt
   have hy := List.getElem?_eq_getElem (show i < b.length by omega)
   generalize a[i] = x at hx
   generalize b[i]'(by omega) = y at hy
   have hc : decide ((i : Int) < (a.map (GTurn.el .n)).length) = true := by simpa using hlt
   repeat' (first | refine yi ((GTurn.el .n) x) (map_at hx) ?_ | refine yi ((GTurn.el .n) y) (map_at hy) ?_ | refine yv g_q13 (q13_eq x y (by have := bulks_mem (f := GTurn.bulk) hx; omega)) ?_ | refine yt1 ?_ | refine yt0 ?_ | refine yt ?_ ?_ | refine yo ?_ | apply zn | refine yc ?_ | intro _)
   ·refine fin rfl ?_
    rename_i h
    have h2 : a ≠ b := ne_at hx hy (by simpa using h)
    simp [h2]
   ·rename_i h
    have hxy : x = y := by simpa using h
    refine ih () hlt (eq_step hinv hx (hxy ▸ hy)) _ _ ?_
    rw [<- w64s (by omega)]; rfl
  ·have hc : decide ((i : Int) < (a.map (GTurn.el .n)).length) = false := by simpa using hge
   repeat' (first | refine yt1 ?_ | refine yt0 ?_ | refine yt ?_ ?_ | refine yo ?_ | apply zn | refine yc ?_ | intro _)
   refine fin rfl ?_
   simp [eq_end hinv hlen hge]
theorem q15_eq (a b : GHouse) (hl : a.bulk <= 1048576) : F_q15 [.st (a.cs .n), .st (b.cs .n)] = some ⟨[.one (.b (decide (a = b)))], []⟩ := by
 simp only [GHouse.bulk] at hl
 (refine fun_ev rfl ?_; show Ev m_q15.code _ _ _)
 repeat' (first | refine yv g_ql (ql_eq a.Conf b.Conf (by omega)) ?_ | refine yv g_q12 (q12_eq a.Seats b.Seats (by omega)) ?_ | refine yv g_q10 (q10_eq a.Rows b.Rows (by omega)) ?_ | refine yv g_q14 (q14_eq a.Turns b.Turns (by omega)) ?_ | refine yv g_qv (qv_eq a.Root b.Root (by omega)) ?_ | refine yv g_qx (qx_eq a.Outs b.Outs (by omega)) ?_ | refine yt1 ?_ | refine yt0 ?_ | refine yt ?_ ?_ | refine yo ?_ | apply zn | refine yc ?_ | intro _)
 all_goals (refine fin rfl ?_; simp only [Out.mk.injEq, List.cons.injEq, RV.one.injEq, T.b.injEq, and_true])
 all_goals (rcases a with ⟨a0, a1, a2, a3, a4, a5, a6, a7, a8⟩; rcases b with ⟨b0, b1, b2, b3, b4, b5, b6, b7, b8⟩; simp only [GHouse.mk.injEq] at *; simp_all)
theorem q16_eq (a b : List UInt8) (hl : a.length <= 1048576) : F_q16 [.x (bytes .n a), .x (bytes .n b)] = some ⟨[.one (.b (decide (a = b)))], []⟩ := by
 have hl1 := Nat.le_refl a.length
 (refine fun_ev rfl ?_; show Ev m_q16.code _ _ _)
 repeat' (first | refine yt1 ?_ | refine yt0 ?_ | refine yt ?_ ?_ | refine yo ?_ | apply zn | refine yc ?_ | intro _)
 ·refine fin rfl ?_
  rename_i h
  have h2 : a ≠ b := ne_len h
  simp [h2]
 ·have hlen : a.length = b.length := by rename_i h; exact eq_len h
  show Ev _ _ _ _
  refine ev_for (fun i (_ : Unit) => [(0, .x (bytes .n a)), (1, .x (bytes .n b)), (5, .x (iT i))]) (fun i _ => a.take i = b.take i) a.length () (by simp) rfl ?_
  intro i _ hi1 hinv ih
  rcases Nat.lt_or_ge i a.length with hlt | hge
  ·have hx := List.getElem?_eq_getElem hlt
   have hy := List.getElem?_eq_getElem (show i < b.length by omega)
   generalize a[i] = x at hx
   generalize b[i]'(by omega) = y at hy
   have hc : decide ((i : Int) < (a.map iB).length) = true := by simpa using hlt
   repeat' (first | refine yi (iB x) (map_at hx) ?_ | refine yi (iB y) (map_at hy) ?_ | refine yt1 ?_ | refine yt0 ?_ | refine yt ?_ ?_ | refine yo ?_ | apply zn | refine yc ?_ | intro _)
   ·refine fin rfl ?_
    rename_i h
    have h2 : a ≠ b := ne_at hx hy (by simpa [iB_eq] using h)
    simp [h2]
   ·rename_i h
    have hxy : x = y := by simpa [iB_eq] using h
    refine ih () hlt (eq_step hinv hx (hxy ▸ hy)) _ _ ?_
    rw [<- w64s (by omega)]; rfl
  ·have hc : decide ((i : Int) < (a.map iB).length) = false := by simpa using hge
   repeat' (first | refine yt1 ?_ | refine yt0 ?_ | refine yt ?_ ?_ | refine yo ?_ | apply zn | refine yc ?_ | intro _)
   refine fin rfl ?_
   simp [eq_end hinv hlen hge]
theorem q17_eq (a b : GPack) (hl : a.bulk <= 1048576) : F_q17 [.st (a.cs .n), .st (b.cs .n)] = some ⟨[.one (.b (decide (a = b)))], []⟩ := by
 simp only [GPack.bulk] at hl
 (refine fun_ev rfl ?_; show Ev m_q17.code _ _ _)
 repeat' (first | refine yv g_q16 (q16_eq a.Bytes b.Bytes (by omega)) ?_ | refine yt1 ?_ | refine yt0 ?_ | refine yt ?_ ?_ | refine yo ?_ | apply zn | refine yc ?_ | intro _)
 all_goals (refine fin rfl ?_; simp only [Out.mk.injEq, List.cons.injEq, RV.one.injEq, T.b.injEq, and_true])
 all_goals (rcases a with ⟨a0, a1, a2⟩; rcases b with ⟨b0, b1, b2⟩; simp only [GPack.mk.injEq] at *; simp_all)
theorem q18_eq (a b : List GPack) (hl : bulks GPack.bulk a <= 1048576) : F_q18 [.x (GPack.ls .n a), .x (GPack.ls .n b)] = some ⟨[.one (.b (decide (a = b)))], []⟩ := by
 have hl1 := bulks_len GPack.bulk a
 (refine fun_ev rfl ?_; show Ev m_q18.code _ _ _)
 repeat' (first | refine yt1 ?_ | refine yt0 ?_ | refine yt ?_ ?_ | refine yo ?_ | apply zn | refine yc ?_ | intro _)
 ·refine fin rfl ?_
  rename_i h
  have h2 : a ≠ b := ne_len h
  simp [h2]
 ·have hlen : a.length = b.length := by rename_i h; exact eq_len h
  show Ev _ _ _ _
  refine ev_for (fun i (_ : Unit) => [(0, .x (GPack.ls .n a)), (1, .x (GPack.ls .n b)), (5, .x (iT i))]) (fun i _ => a.take i = b.take i) a.length () (by simp) rfl ?_
  intro i _ hi1 hinv ih
  rcases Nat.lt_or_ge i a.length with hlt | hge
  ·have hx := List.getElem?_eq_getElem hlt
   have hy := List.getElem?_eq_getElem (show i < b.length by omega)
   generalize a[i] = x at hx
   generalize b[i]'(by omega) = y at hy
   have hc : decide ((i : Int) < (a.map (GPack.el .n)).length) = true := by simpa using hlt
   repeat' (first | refine yi ((GPack.el .n) x) (map_at hx) ?_ | refine yi ((GPack.el .n) y) (map_at hy) ?_ | refine yv g_q17 (q17_eq x y (by have := bulks_mem (f := GPack.bulk) hx; omega)) ?_ | refine yt1 ?_ | refine yt0 ?_ | refine yt ?_ ?_ | refine yo ?_ | apply zn | refine yc ?_ | intro _)
   ·refine fin rfl ?_
    rename_i h
    have h2 : a ≠ b := ne_at hx hy (by simpa using h)
    simp [h2]
   ·rename_i h
    have hxy : x = y := by simpa using h
    refine ih () hlt (eq_step hinv hx (hxy ▸ hy)) _ _ ?_
    rw [<- w64s (by omega)]; rfl
  ·have hc : decide ((i : Int) < (a.map (GPack.el .n)).length) = false := by simpa using hge
   repeat' (first | refine yt1 ?_ | refine yt0 ?_ | refine yt ?_ ?_ | refine yo ?_ | apply zn | refine yc ?_ | intro _)
   refine fin rfl ?_
   simp [eq_end hinv hlen hge]
theorem q19_eq (a b : GWorld) (hl : a.bulk <= 1048576) : F_q19 [.st (a.cs .n), .st (b.cs .n)] = some ⟨[.one (.b (decide (a = b)))], []⟩ := by
 simp only [GWorld.bulk] at hl
 (refine fun_ev rfl ?_; show Ev m_q19.code _ _ _)
 repeat' (first | refine yv g_qt (qt_eq a.Agents b.Agents (by omega)) ?_ | refine yv g_q15 (q15_eq a.House b.House (by omega)) ?_ | refine yv g_q18 (q18_eq a.Net b.Net (by omega)) ?_ | refine yt1 ?_ | refine yt0 ?_ | refine yt ?_ ?_ | refine yo ?_ | apply zn | refine yc ?_ | intro _)
 all_goals (refine fin rfl ?_; simp only [Out.mk.injEq, List.cons.injEq, RV.one.injEq, T.b.injEq, and_true])
 all_goals (rcases a with ⟨a0, a1, a2⟩; rcases b with ⟨b0, b1, b2⟩; simp only [GWorld.mk.injEq] at *; simp_all)
end Go.Wr

