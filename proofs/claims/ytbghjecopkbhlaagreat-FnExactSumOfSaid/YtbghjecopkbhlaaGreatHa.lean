/-
  What is proved: lemmas on the way to the laws of this seat. No condition.
-/
import Derived.Test.YtbghjecopkbhlaaGreatMa
import Derived.Test.YtbghjecopkbhlaaGreatTa
set_option linter.unusedVariables false
set_option linter.unusedSimpArgs false
namespace Go.Wr
set_option maxRecDepth 20000
theorem q27_eq (l : List Int) (n : Int) (hn : Rng n) (hl : l.length <= maxLen) : F_q27 [.x (ints .n l), .x (iT n)] = some ⟨[.one (iT (left n (l.length)))], []⟩ := by
 have e := Zlx (f := iT) hn hl
 (refine Z6j rfl ?_; show Ev m_q27.code _ _ _)
 repeat' (first | refine yt1 ?_ | refine yt0 ?_ | refine yt ?_ ?_ | refine yo ?_ | apply zn | refine yc ?_ | intro _)
 all_goals (refine fin rfl ?_; rename_i h; rw [e] at h; simp only [e, decide_eq_true_eq, decide_eq_false_iff_not] at h ⊢)
 ·rw [left, if_pos (by omega)]
 ·rw [left, if_neg (by omega)]
theorem q28_eq (x : GConf) (n : Int) (hn : Rng n) (hl : x.fit) : F_q28 [.st (x.cs .n), .x (iT n)] = some ⟨[.one (iT (left n x.bulk))], []⟩ := by
 have f0 := hl
 (refine Z6j rfl ?_; show Ev m_q28.code _ _ _)
 repeat' (first | (apply zk g_q27;exact rfl;simp only [List.map,fzl];exact rfl;exact (q27_eq x.Weights _ (by repeat (first | assumption | apply Z9r)) f0);exact rfl;exact rfl;exact rfl) | refine yt1 ?_ | refine yt0 ?_ | refine yt ?_ ?_ | refine yo ?_ | apply zn | refine yc ?_ | intro _)
 all_goals (refine fin rfl ?_; unfold GConf.bulk; grind [left, Rng])
theorem q29_eq (l : List (List Int)) (n : Int) (hn : Rng n) (hl : fits (fun l => l.length <= maxLen) l) : F_q29 [.x (GInt.lss .n l), .x (iT n)] = some ⟨[.one (iT (left n (bulks List.length l)))], []⟩ := by
 have hl1 := hl.1
 have e := Zlx (f := (ints .n)) hn hl.1
 (refine Z6j rfl ?_; show Ev m_q29.code _ _ _)
 repeat' (first | refine yt1 ?_ | refine yt0 ?_ | refine yt ?_ ?_ | refine yo ?_ | apply zn | refine yc ?_ | intro _)
 ·refine fin rfl ?_
  rename_i h
  have h2 := Z1t List.length l
  rw [e] at h
  simp only [decide_eq_true_eq] at h
  rw [left, if_pos (by omega)]
 ·rename_i h
  rw [e] at h
  simp only [decide_eq_false_iff_not] at h
  show Ev _ _ _ _
  refine Z3v (fun i (x : Int) => [(0, .x (GInt.lss .n l)), (1, .x (iT x)), (5, .x (iT i))]) (fun i x => x = n - l.length - pre List.length l i /\ 0 <= x) l.length (n - l.length) ⟨by rw [Zda]; omega, by omega⟩ (by rw [e]; rfl) ?_
  intro i x hi1 hinv ih
  obtain ⟨hx0, hx1⟩ := hinv
  rcases Y79 i l.length with hlt | hge
  ·have hx := Y34 hlt
   generalize l[i] = y at hx
   have hc : decide ((i : Int) < (l.map (ints .n)).length) = true := by simpa using hlt
   repeat' (first | refine yi ((ints .n) y) (Zar hx) ?_ | refine yv g_q27 (q27_eq y x (by unfold Rng at *; omega) (hl.2 y (Y62 hx))) ?_ | refine yt1 ?_ | refine yt0 ?_ | refine yt ?_ ?_ | refine yo ?_ | apply zn | refine yc ?_ | intro _)
   ·refine fin rfl ?_
    rename_i h3
    have h4 := Zd8 (f := List.length) (l := l) (i := i + 1)
    rw [Zd9 hx] at h4
    have h5 := Z9p (by unfold Rng at *; omega) h3 (Nat.le_refl _)
    unfold left at h5 ⊢
    split at h5 <;> first | (rw [if_pos (by omega)]; done) | omega
   ·rename_i h3
    have h4 := Z9q (by unfold Rng at *; omega) h3
    refine ih (x - y.length) hlt ⟨?_, ?_⟩ _ _ ?_
    ·rw [Zd9 hx]; omega
    ·omega
    ·rw [<- w64s (by unfold maxLen at hl1; omega), <- h4.1]; rfl
  ·have hc : decide ((i : Int) < (l.map (ints .n)).length) = false := by simpa using hge
   repeat' (first | refine yt1 ?_ | refine yt0 ?_ | refine yt ?_ ?_ | refine yo ?_ | apply zn | refine yc ?_ | intro _)
   refine fin rfl ?_
   have h4 := Zd7 (f := List.length) hge
   rw [left, if_neg (by omega)]
   simp only [hx0, RV.one.injEq, Out.mk.injEq, Y23, T.i.injEq, and_true, true_and]
   omega
theorem q2a_eq (x : GSketch) (n : Int) (hn : Rng n) (hl : x.fit) : F_q2a [.st (x.cs .n), .x (iT n)] = some ⟨[.one (iT (left n x.bulk))], []⟩ := by
 obtain ⟨f0, f1, f2⟩ := hl
 (refine Z6j rfl ?_; show Ev m_q2a.code _ _ _)
 repeat' (first | (apply zk g_q27;exact rfl;simp only [List.map,fzl];exact rfl;exact (q27_eq x.Hist _ (by repeat (first | assumption | apply Z9r)) f0);exact rfl;exact rfl;exact rfl) | (apply zk g_q27;exact rfl;simp only [List.map,fzl];exact rfl;exact (q27_eq x.Regs _ (by repeat (first | assumption | apply Z9r)) f1);exact rfl;exact rfl;exact rfl) | (apply zk g_q29;exact rfl;simp only [List.map,fzl];exact rfl;exact (q29_eq x.Rows _ (by repeat (first | assumption | apply Z9r)) f2);exact rfl;exact rfl;exact rfl) | refine yt1 ?_ | refine yt0 ?_ | refine yt ?_ ?_ | refine yo ?_ | apply zn | refine yc ?_ | intro _)
 all_goals (refine fin rfl ?_; unfold GSketch.bulk; grind [left, Rng])
theorem q2b_eq (l : List GSpan) (n : Int) (hn : Rng n) (hl : fits GSpan.fit l) : F_q2b [.x (GSpan.ls .n l), .x (iT n)] = some ⟨[.one (iT (left n (l.length)))], []⟩ := by
 have e := Zlx (f := (GSpan.el .n)) hn hl.1
 (refine Z6j rfl ?_; show Ev m_q2b.code _ _ _)
 repeat' (first | refine yt1 ?_ | refine yt0 ?_ | refine yt ?_ ?_ | refine yo ?_ | apply zn | refine yc ?_ | intro _)
 all_goals (refine fin rfl ?_; rename_i h; rw [e] at h; simp only [e, decide_eq_true_eq, decide_eq_false_iff_not] at h ⊢)
 ·rw [left, if_pos (by omega)]
 ·rw [left, if_neg (by omega)]
theorem q2c_eq (x : GEntry) (n : Int) (hn : Rng n) (hl : x.fit) : F_q2c [.st (x.cs .n), .x (iT n)] = some ⟨[.one (iT (left n x.bulk))], []⟩ := by
 obtain ⟨f0, f1⟩ := hl
 (refine Z6j rfl ?_; show Ev m_q2c.code _ _ _)
 repeat' (first | (apply zk g_q2b;exact rfl;simp only [List.map,fzl];exact rfl;exact (q2b_eq x.Ids _ (by repeat (first | assumption | apply Z9r)) f0);exact rfl;exact rfl;exact rfl) | (apply zk g_q2a;exact rfl;simp only [List.map,fzl];exact rfl;exact (q2a_eq x.Sketch _ (by repeat (first | assumption | apply Z9r)) f1);exact rfl;exact rfl;exact rfl) | refine yt1 ?_ | refine yt0 ?_ | refine yt ?_ ?_ | refine yo ?_ | apply zn | refine yc ?_ | intro _)
 all_goals (refine fin rfl ?_; unfold GEntry.bulk; grind [left, Rng])
theorem q2d_eq (l : List GEntry) (n : Int) (hn : Rng n) (hl : fits GEntry.fit l) : F_q2d [.x (GEntry.ls .n l), .x (iT n)] = some ⟨[.one (iT (left n (bulks GEntry.bulk l)))], []⟩ := by
 have hl1 := hl.1
 have e := Zlx (f := (GEntry.el .n)) hn hl.1
 (refine Z6j rfl ?_; show Ev m_q2d.code _ _ _)
 repeat' (first | refine yt1 ?_ | refine yt0 ?_ | refine yt ?_ ?_ | refine yo ?_ | apply zn | refine yc ?_ | intro _)
 ·refine fin rfl ?_
  rename_i h
  have h2 := Z1t GEntry.bulk l
  rw [e] at h
  simp only [decide_eq_true_eq] at h
  rw [left, if_pos (by omega)]
 ·rename_i h
  rw [e] at h
  simp only [decide_eq_false_iff_not] at h
  show Ev _ _ _ _
  refine Z3v (fun i (x : Int) => [(0, .x (GEntry.ls .n l)), (1, .x (iT x)), (5, .x (iT i))]) (fun i x => x = n - l.length - pre GEntry.bulk l i /\ 0 <= x) l.length (n - l.length) ⟨by rw [Zda]; omega, by omega⟩ (by rw [e]; rfl) ?_
  intro i x hi1 hinv ih
  obtain ⟨hx0, hx1⟩ := hinv
  rcases Y79 i l.length with hlt | hge
  ·have hx := Y34 hlt
   generalize l[i] = y at hx
   have hc : decide ((i : Int) < (l.map (GEntry.el .n)).length) = true := by simpa using hlt
   repeat' (first | refine yi ((GEntry.el .n) y) (Zar hx) ?_ | refine yv g_q2c (q2c_eq y x (by unfold Rng at *; omega) (hl.2 y (Y62 hx))) ?_ | refine yt1 ?_ | refine yt0 ?_ | refine yt ?_ ?_ | refine yo ?_ | apply zn | refine yc ?_ | intro _)
   ·refine fin rfl ?_
    rename_i h3
    have h4 := Zd8 (f := GEntry.bulk) (l := l) (i := i + 1)
    rw [Zd9 hx] at h4
    have h5 := Z9p (by unfold Rng at *; omega) h3 (Nat.le_refl _)
    unfold left at h5 ⊢
    split at h5 <;> first | (rw [if_pos (by omega)]; done) | omega
   ·rename_i h3
    have h4 := Z9q (by unfold Rng at *; omega) h3
    refine ih (x - y.bulk) hlt ⟨?_, ?_⟩ _ _ ?_
    ·rw [Zd9 hx]; omega
    ·omega
    ·rw [<- w64s (by unfold maxLen at hl1; omega), <- h4.1]; rfl
  ·have hc : decide ((i : Int) < (l.map (GEntry.el .n)).length) = false := by simpa using hge
   repeat' (first | refine yt1 ?_ | refine yt0 ?_ | refine yt ?_ ?_ | refine yo ?_ | apply zn | refine yc ?_ | intro _)
   refine fin rfl ?_
   have h4 := Zd7 (f := GEntry.bulk) hge
   rw [left, if_neg (by omega)]
   simp only [hx0, RV.one.injEq, Out.mk.injEq, Y23, T.i.injEq, and_true, true_and]
   omega
theorem q2e_eq (x : GOut) (n : Int) (hn : Rng n) (hl : x.fit) : F_q2e [.st (x.cs .n), .x (iT n)] = some ⟨[.one (iT (left n x.bulk))], []⟩ := by
 have f0 := hl
 (refine Z6j rfl ?_; show Ev m_q2e.code _ _ _)
 repeat' (first | (apply zk g_q2c;exact rfl;simp only [List.map,fzl];exact rfl;exact (q2c_eq x.Entry _ (by repeat (first | assumption | apply Z9r)) f0);exact rfl;exact rfl;exact rfl) | refine yt1 ?_ | refine yt0 ?_ | refine yt ?_ ?_ | refine yo ?_ | apply zn | refine yc ?_ | intro _)
 all_goals (refine fin rfl ?_; unfold GOut.bulk; grind [left, Rng])
theorem q2f_eq (l : List GOut) (n : Int) (hn : Rng n) (hl : fits GOut.fit l) : F_q2f [.x (GOut.ls .n l), .x (iT n)] = some ⟨[.one (iT (left n (bulks GOut.bulk l)))], []⟩ := by
 have hl1 := hl.1
 have e := Zlx (f := (GOut.el .n)) hn hl.1
 (refine Z6j rfl ?_; show Ev m_q2f.code _ _ _)
 repeat' (first | refine yt1 ?_ | refine yt0 ?_ | refine yt ?_ ?_ | refine yo ?_ | apply zn | refine yc ?_ | intro _)
 ·refine fin rfl ?_
  rename_i h
  have h2 := Z1t GOut.bulk l
  rw [e] at h
  simp only [decide_eq_true_eq] at h
  rw [left, if_pos (by omega)]
 ·rename_i h
  rw [e] at h
  simp only [decide_eq_false_iff_not] at h
  show Ev _ _ _ _
  refine Z3v (fun i (x : Int) => [(0, .x (GOut.ls .n l)), (1, .x (iT x)), (5, .x (iT i))]) (fun i x => x = n - l.length - pre GOut.bulk l i /\ 0 <= x) l.length (n - l.length) ⟨by rw [Zda]; omega, by omega⟩ (by rw [e]; rfl) ?_
  intro i x hi1 hinv ih
  obtain ⟨hx0, hx1⟩ := hinv
  rcases Y79 i l.length with hlt | hge
  ·have hx := Y34 hlt
   generalize l[i] = y at hx
   have hc : decide ((i : Int) < (l.map (GOut.el .n)).length) = true := by simpa using hlt
   repeat' (first | refine yi ((GOut.el .n) y) (Zar hx) ?_ | refine yv g_q2e (q2e_eq y x (by unfold Rng at *; omega) (hl.2 y (Y62 hx))) ?_ | refine yt1 ?_ | refine yt0 ?_ | refine yt ?_ ?_ | refine yo ?_ | apply zn | refine yc ?_ | intro _)
   ·refine fin rfl ?_
    rename_i h3
    have h4 := Zd8 (f := GOut.bulk) (l := l) (i := i + 1)
    rw [Zd9 hx] at h4
    have h5 := Z9p (by unfold Rng at *; omega) h3 (Nat.le_refl _)
    unfold left at h5 ⊢
    split at h5 <;> first | (rw [if_pos (by omega)]; done) | omega
   ·rename_i h3
    have h4 := Z9q (by unfold Rng at *; omega) h3
    refine ih (x - y.bulk) hlt ⟨?_, ?_⟩ _ _ ?_
    ·rw [Zd9 hx]; omega
    ·omega
    ·rw [<- w64s (by unfold maxLen at hl1; omega), <- h4.1]; rfl
  ·have hc : decide ((i : Int) < (l.map (GOut.el .n)).length) = false := by simpa using hge
   repeat' (first | refine yt1 ?_ | refine yt0 ?_ | refine yt ?_ ?_ | refine yo ?_ | apply zn | refine yc ?_ | intro _)
   refine fin rfl ?_
   have h4 := Zd7 (f := GOut.bulk) hge
   rw [left, if_neg (by omega)]
   simp only [hx0, RV.one.injEq, Out.mk.injEq, Y23, T.i.injEq, and_true, true_and]
   omega
theorem q2g_eq (x : GRow) (n : Int) (hn : Rng n) (hl : x.fit) : F_q2g [.st (x.cs .n), .x (iT n)] = some ⟨[.one (iT (left n x.bulk))], []⟩ := by
 have f0 := hl
 (refine Z6j rfl ?_; show Ev m_q2g.code _ _ _)
 repeat' (first | (apply zk g_q2d;exact rfl;simp only [List.map,fzl];exact rfl;exact (q2d_eq x.Lst _ (by repeat (first | assumption | apply Z9r)) f0);exact rfl;exact rfl;exact rfl) | refine yt1 ?_ | refine yt0 ?_ | refine yt ?_ ?_ | refine yo ?_ | apply zn | refine yc ?_ | intro _)
 all_goals (refine fin rfl ?_; unfold GRow.bulk; grind [left, Rng])
theorem q2h_eq (l : List GRow) (n : Int) (hn : Rng n) (hl : fits GRow.fit l) : F_q2h [.x (GRow.ls .n l), .x (iT n)] = some ⟨[.one (iT (left n (bulks GRow.bulk l)))], []⟩ := by
 have hl1 := hl.1
 have e := Zlx (f := (GRow.el .n)) hn hl.1
 (refine Z6j rfl ?_; show Ev m_q2h.code _ _ _)
 repeat' (first | refine yt1 ?_ | refine yt0 ?_ | refine yt ?_ ?_ | refine yo ?_ | apply zn | refine yc ?_ | intro _)
 ·refine fin rfl ?_
  rename_i h
  have h2 := Z1t GRow.bulk l
  rw [e] at h
  simp only [decide_eq_true_eq] at h
  rw [left, if_pos (by omega)]
 ·rename_i h
  rw [e] at h
  simp only [decide_eq_false_iff_not] at h
  show Ev _ _ _ _
  refine Z3v (fun i (x : Int) => [(0, .x (GRow.ls .n l)), (1, .x (iT x)), (5, .x (iT i))]) (fun i x => x = n - l.length - pre GRow.bulk l i /\ 0 <= x) l.length (n - l.length) ⟨by rw [Zda]; omega, by omega⟩ (by rw [e]; rfl) ?_
  intro i x hi1 hinv ih
  obtain ⟨hx0, hx1⟩ := hinv
  rcases Y79 i l.length with hlt | hge
  ·have hx := Y34 hlt
   generalize l[i] = y at hx
   have hc : decide ((i : Int) < (l.map (GRow.el .n)).length) = true := by simpa using hlt
   repeat' (first | refine yi ((GRow.el .n) y) (Zar hx) ?_ | refine yv g_q2g (q2g_eq y x (by unfold Rng at *; omega) (hl.2 y (Y62 hx))) ?_ | refine yt1 ?_ | refine yt0 ?_ | refine yt ?_ ?_ | refine yo ?_ | apply zn | refine yc ?_ | intro _)
   ·refine fin rfl ?_
    rename_i h3
    have h4 := Zd8 (f := GRow.bulk) (l := l) (i := i + 1)
    rw [Zd9 hx] at h4
    have h5 := Z9p (by unfold Rng at *; omega) h3 (Nat.le_refl _)
    unfold left at h5 ⊢
    split at h5 <;> first | (rw [if_pos (by omega)]; done) | omega
   ·rename_i h3
    have h4 := Z9q (by unfold Rng at *; omega) h3
    refine ih (x - y.bulk) hlt ⟨?_, ?_⟩ _ _ ?_
    ·rw [Zd9 hx]; omega
    ·omega
    ·rw [<- w64s (by unfold maxLen at hl1; omega), <- h4.1]; rfl
  ·have hc : decide ((i : Int) < (l.map (GRow.el .n)).length) = false := by simpa using hge
   repeat' (first | refine yt1 ?_ | refine yt0 ?_ | refine yt ?_ ?_ | refine yo ?_ | apply zn | refine yc ?_ | intro _)
   refine fin rfl ?_
   have h4 := Zd7 (f := GRow.bulk) hge
   rw [left, if_neg (by omega)]
   simp only [hx0, RV.one.injEq, Out.mk.injEq, Y23, T.i.injEq, and_true, true_and]
   omega
theorem q2i_eq (l : List (List GRow)) (n : Int) (hn : Rng n) (hl : fits (fits GRow.fit) l) : F_q2i [.x (GRow.lss .n l), .x (iT n)] = some ⟨[.one (iT (left n (bulks (bulks GRow.bulk) l)))], []⟩ := by
 have hl1 := hl.1
 have e := Zlx (f := (GRow.ls .n)) hn hl.1
 (refine Z6j rfl ?_; show Ev m_q2i.code _ _ _)
 repeat' (first | refine yt1 ?_ | refine yt0 ?_ | refine yt ?_ ?_ | refine yo ?_ | apply zn | refine yc ?_ | intro _)
 ·refine fin rfl ?_
  rename_i h
  have h2 := Z1t (bulks GRow.bulk) l
  rw [e] at h
  simp only [decide_eq_true_eq] at h
  rw [left, if_pos (by omega)]
 ·rename_i h
  rw [e] at h
  simp only [decide_eq_false_iff_not] at h
  show Ev _ _ _ _
  refine Z3v (fun i (x : Int) => [(0, .x (GRow.lss .n l)), (1, .x (iT x)), (5, .x (iT i))]) (fun i x => x = n - l.length - pre (bulks GRow.bulk) l i /\ 0 <= x) l.length (n - l.length) ⟨by rw [Zda]; omega, by omega⟩ (by rw [e]; rfl) ?_
  intro i x hi1 hinv ih
  obtain ⟨hx0, hx1⟩ := hinv
  rcases Y79 i l.length with hlt | hge
  ·have hx := Y34 hlt
   generalize l[i] = y at hx
   have hc : decide ((i : Int) < (l.map (GRow.ls .n)).length) = true := by simpa using hlt
   repeat' (first | refine yi ((GRow.ls .n) y) (Zar hx) ?_ | refine yv g_q2h (q2h_eq y x (by unfold Rng at *; omega) (hl.2 y (Y62 hx))) ?_ | refine yt1 ?_ | refine yt0 ?_ | refine yt ?_ ?_ | refine yo ?_ | apply zn | refine yc ?_ | intro _)
   ·refine fin rfl ?_
    rename_i h3
    have h4 := Zd8 (f := (bulks GRow.bulk)) (l := l) (i := i + 1)
    rw [Zd9 hx] at h4
    have h5 := Z9p (by unfold Rng at *; omega) h3 (Nat.le_refl _)
    unfold left at h5 ⊢
    split at h5 <;> first | (rw [if_pos (by omega)]; done) | omega
   ·rename_i h3
    have h4 := Z9q (by unfold Rng at *; omega) h3
    refine ih (x - bulks GRow.bulk y) hlt ⟨?_, ?_⟩ _ _ ?_
    ·rw [Zd9 hx]; omega
    ·omega
    ·rw [<- w64s (by unfold maxLen at hl1; omega), <- h4.1]; rfl
  ·have hc : decide ((i : Int) < (l.map (GRow.ls .n)).length) = false := by simpa using hge
   repeat' (first | refine yt1 ?_ | refine yt0 ?_ | refine yt ?_ ?_ | refine yo ?_ | apply zn | refine yc ?_ | intro _)
   refine fin rfl ?_
   have h4 := Zd7 (f := (bulks GRow.bulk)) hge
   rw [left, if_neg (by omega)]
   simp only [hx0, RV.one.injEq, Out.mk.injEq, Y23, T.i.injEq, and_true, true_and]
   omega
theorem q2j_eq (x : GSeat) (n : Int) (hn : Rng n) (hl : x.fit) : F_q2j [.st (x.cs .n), .x (iT n)] = some ⟨[.one (iT (left n x.bulk))], []⟩ := by
 have f0 := hl
 (refine Z6j rfl ?_; show Ev m_q2j.code _ _ _)
 repeat' (first | (apply zk g_q2b;exact rfl;simp only [List.map,fzl];exact rfl;exact (q2b_eq x.Taken _ (by repeat (first | assumption | apply Z9r)) f0);exact rfl;exact rfl;exact rfl) | refine yt1 ?_ | refine yt0 ?_ | refine yt ?_ ?_ | refine yo ?_ | apply zn | refine yc ?_ | intro _)
 all_goals (refine fin rfl ?_; unfold GSeat.bulk; grind [left, Rng])
theorem q2k_eq (l : List GSeat) (n : Int) (hn : Rng n) (hl : fits GSeat.fit l) : F_q2k [.x (GSeat.ls .n l), .x (iT n)] = some ⟨[.one (iT (left n (bulks GSeat.bulk l)))], []⟩ := by
 have hl1 := hl.1
 have e := Zlx (f := (GSeat.el .n)) hn hl.1
 (refine Z6j rfl ?_; show Ev m_q2k.code _ _ _)
 repeat' (first | refine yt1 ?_ | refine yt0 ?_ | refine yt ?_ ?_ | refine yo ?_ | apply zn | refine yc ?_ | intro _)
 ·refine fin rfl ?_
  rename_i h
  have h2 := Z1t GSeat.bulk l
  rw [e] at h
  simp only [decide_eq_true_eq] at h
  rw [left, if_pos (by omega)]
 ·rename_i h
  rw [e] at h
  simp only [decide_eq_false_iff_not] at h
  show Ev _ _ _ _
  refine Z3v (fun i (x : Int) => [(0, .x (GSeat.ls .n l)), (1, .x (iT x)), (5, .x (iT i))]) (fun i x => x = n - l.length - pre GSeat.bulk l i /\ 0 <= x) l.length (n - l.length) ⟨by rw [Zda]; omega, by omega⟩ (by rw [e]; rfl) ?_
  intro i x hi1 hinv ih
  obtain ⟨hx0, hx1⟩ := hinv
  rcases Y79 i l.length with hlt | hge
  ·have hx := Y34 hlt
   generalize l[i] = y at hx
   have hc : decide ((i : Int) < (l.map (GSeat.el .n)).length) = true := by simpa using hlt
   repeat' (first | refine yi ((GSeat.el .n) y) (Zar hx) ?_ | refine yv g_q2j (q2j_eq y x (by unfold Rng at *; omega) (hl.2 y (Y62 hx))) ?_ | refine yt1 ?_ | refine yt0 ?_ | refine yt ?_ ?_ | refine yo ?_ | apply zn | refine yc ?_ | intro _)
   ·refine fin rfl ?_
    rename_i h3
    have h4 := Zd8 (f := GSeat.bulk) (l := l) (i := i + 1)
    rw [Zd9 hx] at h4
    have h5 := Z9p (by unfold Rng at *; omega) h3 (Nat.le_refl _)
    unfold left at h5 ⊢
    split at h5 <;> first | (rw [if_pos (by omega)]; done) | omega
   ·rename_i h3
    have h4 := Z9q (by unfold Rng at *; omega) h3
    refine ih (x - y.bulk) hlt ⟨?_, ?_⟩ _ _ ?_
    ·rw [Zd9 hx]; omega
    ·omega
    ·rw [<- w64s (by unfold maxLen at hl1; omega), <- h4.1]; rfl
  ·have hc : decide ((i : Int) < (l.map (GSeat.el .n)).length) = false := by simpa using hge
   repeat' (first | refine yt1 ?_ | refine yt0 ?_ | refine yt ?_ ?_ | refine yo ?_ | apply zn | refine yc ?_ | intro _)
   refine fin rfl ?_
   have h4 := Zd7 (f := GSeat.bulk) hge
   rw [left, if_neg (by omega)]
   simp only [hx0, RV.one.injEq, Out.mk.injEq, Y23, T.i.injEq, and_true, true_and]
   omega
theorem q2l_eq (x : GTurn) (n : Int) (hn : Rng n) (hl : x.fit) : F_q2l [.st (x.cs .n), .x (iT n)] = some ⟨[.one (iT (left n x.bulk))], []⟩ := by
 have f0 := hl
 (refine Z6j rfl ?_; show Ev m_q2l.code _ _ _)
 repeat' (first | (apply zk g_q27;exact rfl;simp only [List.map,fzl];exact rfl;exact (q27_eq x.Left _ (by repeat (first | assumption | apply Z9r)) f0);exact rfl;exact rfl;exact rfl) | refine yt1 ?_ | refine yt0 ?_ | refine yt ?_ ?_ | refine yo ?_ | apply zn | refine yc ?_ | intro _)
 all_goals (refine fin rfl ?_; unfold GTurn.bulk; grind [left, Rng])
theorem q2m_eq (l : List GTurn) (n : Int) (hn : Rng n) (hl : fits GTurn.fit l) : F_q2m [.x (GTurn.ls .n l), .x (iT n)] = some ⟨[.one (iT (left n (bulks GTurn.bulk l)))], []⟩ := by
 have hl1 := hl.1
 have e := Zlx (f := (GTurn.el .n)) hn hl.1
 (refine Z6j rfl ?_; show Ev m_q2m.code _ _ _)
 repeat' (first | refine yt1 ?_ | refine yt0 ?_ | refine yt ?_ ?_ | refine yo ?_ | apply zn | refine yc ?_ | intro _)
 ·refine fin rfl ?_
  rename_i h
  have h2 := Z1t GTurn.bulk l
  rw [e] at h
  simp only [decide_eq_true_eq] at h
  rw [left, if_pos (by omega)]
 ·rename_i h
  rw [e] at h
  simp only [decide_eq_false_iff_not] at h
  show Ev _ _ _ _
  refine Z3v (fun i (x : Int) => [(0, .x (GTurn.ls .n l)), (1, .x (iT x)), (5, .x (iT i))]) (fun i x => x = n - l.length - pre GTurn.bulk l i /\ 0 <= x) l.length (n - l.length) ⟨by rw [Zda]; omega, by omega⟩ (by rw [e]; rfl) ?_
  intro i x hi1 hinv ih
  obtain ⟨hx0, hx1⟩ := hinv
  rcases Y79 i l.length with hlt | hge
  ·have hx := Y34 hlt
   generalize l[i] = y at hx
   have hc : decide ((i : Int) < (l.map (GTurn.el .n)).length) = true := by simpa using hlt
   repeat' (first | refine yi ((GTurn.el .n) y) (Zar hx) ?_ | refine yv g_q2l (q2l_eq y x (by unfold Rng at *; omega) (hl.2 y (Y62 hx))) ?_ | refine yt1 ?_ | refine yt0 ?_ | refine yt ?_ ?_ | refine yo ?_ | apply zn | refine yc ?_ | intro _)
   ·refine fin rfl ?_
    rename_i h3
    have h4 := Zd8 (f := GTurn.bulk) (l := l) (i := i + 1)
    rw [Zd9 hx] at h4
    have h5 := Z9p (by unfold Rng at *; omega) h3 (Nat.le_refl _)
    unfold left at h5 ⊢
    split at h5 <;> first | (rw [if_pos (by omega)]; done) | omega
   ·rename_i h3
    have h4 := Z9q (by unfold Rng at *; omega) h3
    refine ih (x - y.bulk) hlt ⟨?_, ?_⟩ _ _ ?_
    ·rw [Zd9 hx]; omega
    ·omega
    ·rw [<- w64s (by unfold maxLen at hl1; omega), <- h4.1]; rfl
  ·have hc : decide ((i : Int) < (l.map (GTurn.el .n)).length) = false := by simpa using hge
   repeat' (first | refine yt1 ?_ | refine yt0 ?_ | refine yt ?_ ?_ | refine yo ?_ | apply zn | refine yc ?_ | intro _)
   refine fin rfl ?_
   have h4 := Zd7 (f := GTurn.bulk) hge
   rw [left, if_neg (by omega)]
   simp only [hx0, RV.one.injEq, Out.mk.injEq, Y23, T.i.injEq, and_true, true_and]
   omega
theorem q2n_eq (x : GHouse) (n : Int) (hn : Rng n) (hl : x.fit) : F_q2n [.st (x.cs .n), .x (iT n)] = some ⟨[.one (iT (left n x.bulk))], []⟩ := by
 obtain ⟨f0, f1, f2, f3, f4, f5⟩ := hl
 (refine Z6j rfl ?_; show Ev m_q2n.code _ _ _)
 repeat' (first | (apply zk g_q28;exact rfl;simp only [List.map,fzl];exact rfl;exact (q28_eq x.Conf _ (by repeat (first | assumption | apply Z9r)) f0);exact rfl;exact rfl;exact rfl) | (apply zk g_q2k;exact rfl;simp only [List.map,fzl];exact rfl;exact (q2k_eq x.Seats _ (by repeat (first | assumption | apply Z9r)) f1);exact rfl;exact rfl;exact rfl) | (apply zk g_q2i;exact rfl;simp only [List.map,fzl];exact rfl;exact (q2i_eq x.Rows _ (by repeat (first | assumption | apply Z9r)) f2);exact rfl;exact rfl;exact rfl) | (apply zk g_q2m;exact rfl;simp only [List.map,fzl];exact rfl;exact (q2m_eq x.Turns _ (by repeat (first | assumption | apply Z9r)) f3);exact rfl;exact rfl;exact rfl) | (apply zk g_q2d;exact rfl;simp only [List.map,fzl];exact rfl;exact (q2d_eq x.Root _ (by repeat (first | assumption | apply Z9r)) f4);exact rfl;exact rfl;exact rfl) | (apply zk g_q2f;exact rfl;simp only [List.map,fzl];exact rfl;exact (q2f_eq x.Outs _ (by repeat (first | assumption | apply Z9r)) f5);exact rfl;exact rfl;exact rfl) | refine yt1 ?_ | refine yt0 ?_ | refine yt ?_ ?_ | refine yo ?_ | apply zn | refine yc ?_ | intro _)
 all_goals (refine fin rfl ?_; unfold GHouse.bulk; grind [left, Rng])
end Go.Wr
namespace Go.Wr
set_option maxRecDepth 20000
theorem q2o_eq (l : List Int) (hl : l.length <= 1048576) : F_q2o [.x (ints .n l)] = some ⟨[.one (ints .y l)], []⟩ := by
 have hl1 := Nat.le_refl l.length
 (refine Z6j rfl ?_; show Ev m_q2o.code _ _ _)
 repeat' (first | (apply zs;(iterate 3 exact rfl);exact (Y16 _);exact (by simp [lenMax] <;> omega);exact rfl;exact rfl) | refine yt1 ?_ | refine yt0 ?_ | refine yt ?_ ?_ | refine yo ?_ | apply zn | refine yc ?_ | intro _)
 show Ev _ _ _ _
 refine Z3v (fun i (_ : Unit) => [(0, .x (ints .n l)), (3, .own ⟨0, 0, 0⟩ (.l .y 1 (fil iT (iT 0) l i))), (4, .x (iT i))]) (fun i _ => True) l.length () trivial (by rw [Z5h, <- Y45 iT]; rfl) ?_
 intro i _ hi1 _ ih
 rcases Y79 i l.length with hlt | hge
 ·have hx := Y34 hlt
  generalize l[i] = x at hx
  have hc : decide ((i : Int) < (l.map iT).length) = true := by simpa using hlt
  have hg := Z5e iT (iT 0) l hlt
  repeat' (first | refine yi (iT x) (Zar hx) ?_ | (apply zw;exact rfl;exact rfl;exact Y16 _;exact (by rw [Z5f iT (iT 0) l hi1]; omega);exact rfl;exact rfl) | (apply zS ((iT 0)) (.l .y 1 (fil iT (iT 0) l (i + 1)));(iterate 4 exact rfl);exact (by simp [T.nav, T.kid, hg]);exact (by simp [T.mine, Ob.own, hg]);exact rfl;exact (by simp [T.put, T.kid, T.setKid, T.cells, T.ofCells, splice, hg, <- Z5g iT (iT 0) l hx]);(iterate 3 exact rfl)) | refine yt1 ?_ | refine yt0 ?_ | refine yt ?_ ?_ | refine yo ?_ | apply zn | refine yc ?_ | intro _)
  refine ih () hlt trivial _ _ ?_
  rw [<- w64s (by omega)]; rfl
 ·have hc : decide ((i : Int) < (l.map iT).length) = false := by simpa using hge
  repeat' (first | refine yt1 ?_ | refine yt0 ?_ | refine yt ?_ ?_ | refine yo ?_ | apply zn | refine yc ?_ | intro _)
  refine fin rfl ?_
  simp only [Zk0, Z5d _ _ _ hge]
theorem q2p_eq (x : GConf) (hl : x.bulk <= 1048576) : F_q2p [.st (x.cs .n)] = some ⟨[.st (x.cs .y)], []⟩ := by
 simp only [GConf.bulk] at hl
 (refine Z6j rfl ?_; show Ev m_q2p.code _ _ _)
 repeat' (first | refine yv g_q2o (q2o_eq x.Weights (by omega)) ?_ | refine yo ?_ | apply zn | refine yc ?_ | intro _)
 refine fin rfl ?_
 try simp only [Zk0]
 rfl
theorem q2q_eq (l : List (List Int)) (hl : bulks List.length l <= 1048576) : F_q2q [.x (GInt.lss .n l)] = some ⟨[.one (GInt.lss .y l)], []⟩ := by
 have hl1 := Z1t List.length l
 (refine Z6j rfl ?_; show Ev m_q2q.code _ _ _)
 repeat' (first | (apply zs;(iterate 3 exact rfl);exact (Y16 _);exact (by simp [lenMax] <;> omega);exact rfl;exact rfl) | refine yt1 ?_ | refine yt0 ?_ | refine yt ?_ ?_ | refine yo ?_ | apply zn | refine yc ?_ | intro _)
 show Ev _ _ _ _
 refine Z3v (fun i (_ : Unit) => [(0, .x (GInt.lss .n l)), (3, .own ⟨0, 0, 0⟩ (.l .y 1 (fil (ints .y) (.l .y 1 []) l i))), (4, .x (iT i))]) (fun i _ => True) l.length () trivial (by rw [Z5h, <- Y45 (ints .n)]; rfl) ?_
 intro i _ hi1 _ ih
 rcases Y79 i l.length with hlt | hge
 ·have hx := Y34 hlt
  generalize l[i] = x at hx
  have hc : decide ((i : Int) < (l.map (ints .n)).length) = true := by simpa using hlt
  have hg := Z5e (ints .y) (.l .y 1 []) l hlt
  repeat' (first | refine yi ((ints .n) x) (Zar hx) ?_ | (apply zw;exact rfl;exact rfl;exact Y16 _;exact (by rw [Z5f (ints .y) (.l .y 1 []) l hi1]; omega);exact rfl;exact rfl) | refine yv g_q2o (q2o_eq x (by have := Z1v (f := List.length) hx; omega)) ?_ | (apply zS ((.l .y 1 [])) (.l .y 1 (fil (ints .y) (.l .y 1 []) l (i + 1)));(iterate 4 exact rfl);exact (by simp [T.nav, T.kid, hg]);exact (by simp [T.mine, Ob.own, hg]);exact rfl;exact (by simp [T.put, T.kid, T.setKid, T.cells, T.ofCells, splice, hg, <- Z5g (ints .y) (.l .y 1 []) l hx]);(iterate 3 exact rfl)) | refine yt1 ?_ | refine yt0 ?_ | refine yt ?_ ?_ | refine yo ?_ | apply zn | refine yc ?_ | intro _)
  refine ih () hlt trivial _ _ ?_
  rw [<- w64s (by omega)]; rfl
 ·have hc : decide ((i : Int) < (l.map (ints .n)).length) = false := by simpa using hge
  repeat' (first | refine yt1 ?_ | refine yt0 ?_ | refine yt ?_ ?_ | refine yo ?_ | apply zn | refine yc ?_ | intro _)
  refine fin rfl ?_
  simp only [Zk0, Z5d _ _ _ hge]
theorem q2r_eq (x : GSketch) (hl : x.bulk <= 1048576) : F_q2r [.st (x.cs .n)] = some ⟨[.st (x.cs .y)], []⟩ := by
 simp only [GSketch.bulk] at hl
 (refine Z6j rfl ?_; show Ev m_q2r.code _ _ _)
 repeat' (first | refine yv g_q2o (q2o_eq x.Hist (by omega)) ?_ | refine yv g_q2o (q2o_eq x.Regs (by omega)) ?_ | refine yv g_q2q (q2q_eq x.Rows (by omega)) ?_ | refine yo ?_ | apply zn | refine yc ?_ | intro _)
 refine fin rfl ?_
 try simp only [Zk0]
 rfl
theorem q2s_eq (x : GSpan) : F_q2s [.st (x.cs .n)] = some ⟨[.st (x.cs .y)], []⟩ := by
 (refine Z6j rfl ?_; show Ev m_q2s.code _ _ _)
 repeat' (first | refine yo ?_ | apply zn | refine yc ?_ | intro _)
 refine fin rfl ?_
 try simp only [Zk0]
 rfl
theorem q2t_eq (l : List GSpan) (hl : l.length <= 1048576) : F_q2t [.x (GSpan.ls .n l)] = some ⟨[.one (GSpan.ls .y l)], []⟩ := by
 have hl1 := Nat.le_refl l.length
 (refine Z6j rfl ?_; show Ev m_q2t.code _ _ _)
 repeat' (first | (apply zs;(iterate 3 exact rfl);exact (Y16 _);exact (by simp [lenMax] <;> omega);exact rfl;exact rfl) | refine yt1 ?_ | refine yt0 ?_ | refine yt ?_ ?_ | refine yo ?_ | apply zn | refine yc ?_ | intro _)
 show Ev _ _ _ _
 refine Z3v (fun i (_ : Unit) => [(0, .x (GSpan.ls .n l)), (3, .own ⟨0, 0, 0⟩ (.l .y 2 (fil (GSpan.el .y) (.a [(iT 0), (iT 0)]) l i))), (4, .x (iT i))]) (fun i _ => True) l.length () trivial (by rw [Z5h, <- Y45 (GSpan.el .n)]; rfl) ?_
 intro i _ hi1 _ ih
 rcases Y79 i l.length with hlt | hge
 ·have hx := Y34 hlt
  generalize l[i] = x at hx
  have hc : decide ((i : Int) < (l.map (GSpan.el .n)).length) = true := by simpa using hlt
  have hg := Z5e (GSpan.el .y) (.a [(iT 0), (iT 0)]) l hlt
  repeat' (first | refine yi ((GSpan.el .n) x) (Zar hx) ?_ | (apply zw;exact rfl;exact rfl;exact Y16 _;exact (by rw [Z5f (GSpan.el .y) (.a [(iT 0), (iT 0)]) l hi1]; omega);exact rfl;exact rfl) | refine yv g_q2s (q2s_eq x) ?_ | (apply zS ((.a [(iT 0), (iT 0)])) (.l .y 2 (fil (GSpan.el .y) (.a [(iT 0), (iT 0)]) l (i + 1)));(iterate 4 exact rfl);exact (by simp [T.nav, T.kid, hg]);exact (by simp [T.mine, Ob.own, hg]);exact rfl;exact (by simp [T.put, T.kid, T.setKid, T.cells, T.ofCells, splice, hg, <- Z5g (GSpan.el .y) (.a [(iT 0), (iT 0)]) l hx, GSpan.el, GSpan.cs]);(iterate 3 exact rfl)) | refine yt1 ?_ | refine yt0 ?_ | refine yt ?_ ?_ | refine yo ?_ | apply zn | refine yc ?_ | intro _)
  refine ih () hlt trivial _ _ ?_
  rw [<- w64s (by omega)]; rfl
 ·have hc : decide ((i : Int) < (l.map (GSpan.el .n)).length) = false := by simpa using hge
  repeat' (first | refine yt1 ?_ | refine yt0 ?_ | refine yt ?_ ?_ | refine yo ?_ | apply zn | refine yc ?_ | intro _)
  refine fin rfl ?_
  simp only [Zk0, Z5d _ _ _ hge]
theorem q2u_eq (x : GEntry) (hl : x.bulk <= 1048576) : F_q2u [.st (x.cs .n)] = some ⟨[.st (x.cs .y)], []⟩ := by
 simp only [GEntry.bulk] at hl
 (refine Z6j rfl ?_; show Ev m_q2u.code _ _ _)
 repeat' (first | refine yv g_q2t (q2t_eq x.Ids (by omega)) ?_ | refine yv g_q2r (q2r_eq x.Sketch (by omega)) ?_ | refine yo ?_ | apply zn | refine yc ?_ | intro _)
 refine fin rfl ?_
 try simp only [Zk0]
 rfl
theorem q2v_eq (l : List GEntry) (hl : bulks GEntry.bulk l <= 1048576) : F_q2v [.x (GEntry.ls .n l)] = some ⟨[.one (GEntry.ls .y l)], []⟩ := by
 have hl1 := Z1t GEntry.bulk l
 (refine Z6j rfl ?_; show Ev m_q2v.code _ _ _)
 repeat' (first | (apply zs;(iterate 3 exact rfl);exact (Y16 _);exact (by simp [lenMax] <;> omega);exact rfl;exact rfl) | refine yt1 ?_ | refine yt0 ?_ | refine yt ?_ ?_ | refine yo ?_ | apply zn | refine yc ?_ | intro _)
 show Ev _ _ _ _
 refine Z3v (fun i (_ : Unit) => [(0, .x (GEntry.ls .n l)), (3, .own ⟨0, 0, 0⟩ (.l .y 10 (fil (GEntry.el .y) (.a [(iT 0), (iT 0), (.l .y 2 []), (iT 0), (iT 0), (iT 0), (iT 0), (.l .y 1 []), (.l .y 1 []), (.l .y 1 [])]) l i))), (4, .x (iT i))]) (fun i _ => True) l.length () trivial (by rw [Z5h, <- Y45 (GEntry.el .n)]; rfl) ?_
 intro i _ hi1 _ ih
 rcases Y79 i l.length with hlt | hge
 ·have hx := Y34 hlt
  generalize l[i] = x at hx
  have hc : decide ((i : Int) < (l.map (GEntry.el .n)).length) = true := by simpa using hlt
  have hg := Z5e (GEntry.el .y) (.a [(iT 0), (iT 0), (.l .y 2 []), (iT 0), (iT 0), (iT 0), (iT 0), (.l .y 1 []), (.l .y 1 []), (.l .y 1 [])]) l hlt
  repeat' (first | refine yi ((GEntry.el .n) x) (Zar hx) ?_ | (apply zw;exact rfl;exact rfl;exact Y16 _;exact (by rw [Z5f (GEntry.el .y) (.a [(iT 0), (iT 0), (.l .y 2 []), (iT 0), (iT 0), (iT 0), (iT 0), (.l .y 1 []), (.l .y 1 []), (.l .y 1 [])]) l hi1]; omega);exact rfl;exact rfl) | refine yv g_q2u (q2u_eq x (by have := Z1v (f := GEntry.bulk) hx; omega)) ?_ | (apply zS ((.a [(iT 0), (iT 0), (.l .y 2 []), (iT 0), (iT 0), (iT 0), (iT 0), (.l .y 1 []), (.l .y 1 []), (.l .y 1 [])])) (.l .y 10 (fil (GEntry.el .y) (.a [(iT 0), (iT 0), (.l .y 2 []), (iT 0), (iT 0), (iT 0), (iT 0), (.l .y 1 []), (.l .y 1 []), (.l .y 1 [])]) l (i + 1)));(iterate 4 exact rfl);exact (by simp [T.nav, T.kid, hg]);exact (by simp [T.mine, Ob.own, hg]);exact rfl;exact (by simp [T.put, T.kid, T.setKid, T.cells, T.ofCells, splice, hg, <- Z5g (GEntry.el .y) (.a [(iT 0), (iT 0), (.l .y 2 []), (iT 0), (iT 0), (iT 0), (iT 0), (.l .y 1 []), (.l .y 1 []), (.l .y 1 [])]) l hx, GEntry.el, GEntry.cs]);(iterate 3 exact rfl)) | refine yt1 ?_ | refine yt0 ?_ | refine yt ?_ ?_ | refine yo ?_ | apply zn | refine yc ?_ | intro _)
  refine ih () hlt trivial _ _ ?_
  rw [<- w64s (by omega)]; rfl
 ·have hc : decide ((i : Int) < (l.map (GEntry.el .n)).length) = false := by simpa using hge
  repeat' (first | refine yt1 ?_ | refine yt0 ?_ | refine yt ?_ ?_ | refine yo ?_ | apply zn | refine yc ?_ | intro _)
  refine fin rfl ?_
  simp only [Zk0, Z5d _ _ _ hge]
theorem q2w_eq (x : GOut) (hl : x.bulk <= 1048576) : F_q2w [.st (x.cs .n)] = some ⟨[.st (x.cs .y)], []⟩ := by
 simp only [GOut.bulk] at hl
 (refine Z6j rfl ?_; show Ev m_q2w.code _ _ _)
 repeat' (first | refine yv g_q2u (q2u_eq x.Entry (by omega)) ?_ | refine yo ?_ | apply zn | refine yc ?_ | intro _)
 refine fin rfl ?_
 try simp only [Zk0]
 rfl
theorem q2x_eq (l : List GOut) (hl : bulks GOut.bulk l <= 1048576) : F_q2x [.x (GOut.ls .n l)] = some ⟨[.one (GOut.ls .y l)], []⟩ := by
 have hl1 := Z1t GOut.bulk l
 (refine Z6j rfl ?_; show Ev m_q2x.code _ _ _)
 repeat' (first | (apply zs;(iterate 3 exact rfl);exact (Y16 _);exact (by simp [lenMax] <;> omega);exact rfl;exact rfl) | refine yt1 ?_ | refine yt0 ?_ | refine yt ?_ ?_ | refine yo ?_ | apply zn | refine yc ?_ | intro _)
 show Ev _ _ _ _
 refine Z3v (fun i (_ : Unit) => [(0, .x (GOut.ls .n l)), (3, .own ⟨0, 0, 0⟩ (.l .y 11 (fil (GOut.el .y) (.a [(iT 0), (iT 0), (iT 0), (.l .y 2 []), (iT 0), (iT 0), (iT 0), (iT 0), (.l .y 1 []), (.l .y 1 []), (.l .y 1 [])]) l i))), (4, .x (iT i))]) (fun i _ => True) l.length () trivial (by rw [Z5h, <- Y45 (GOut.el .n)]; rfl) ?_
 intro i _ hi1 _ ih
 rcases Y79 i l.length with hlt | hge
 ·have hx := Y34 hlt
  generalize l[i] = x at hx
  have hc : decide ((i : Int) < (l.map (GOut.el .n)).length) = true := by simpa using hlt
  have hg := Z5e (GOut.el .y) (.a [(iT 0), (iT 0), (iT 0), (.l .y 2 []), (iT 0), (iT 0), (iT 0), (iT 0), (.l .y 1 []), (.l .y 1 []), (.l .y 1 [])]) l hlt
  repeat' (first | refine yi ((GOut.el .n) x) (Zar hx) ?_ | (apply zw;exact rfl;exact rfl;exact Y16 _;exact (by rw [Z5f (GOut.el .y) (.a [(iT 0), (iT 0), (iT 0), (.l .y 2 []), (iT 0), (iT 0), (iT 0), (iT 0), (.l .y 1 []), (.l .y 1 []), (.l .y 1 [])]) l hi1]; omega);exact rfl;exact rfl) | refine yv g_q2w (q2w_eq x (by have := Z1v (f := GOut.bulk) hx; omega)) ?_ | (apply zS ((.a [(iT 0), (iT 0), (iT 0), (.l .y 2 []), (iT 0), (iT 0), (iT 0), (iT 0), (.l .y 1 []), (.l .y 1 []), (.l .y 1 [])])) (.l .y 11 (fil (GOut.el .y) (.a [(iT 0), (iT 0), (iT 0), (.l .y 2 []), (iT 0), (iT 0), (iT 0), (iT 0), (.l .y 1 []), (.l .y 1 []), (.l .y 1 [])]) l (i + 1)));(iterate 4 exact rfl);exact (by simp [T.nav, T.kid, hg]);exact (by simp [T.mine, Ob.own, hg]);exact rfl;exact (by simp [T.put, T.kid, T.setKid, T.cells, T.ofCells, splice, hg, <- Z5g (GOut.el .y) (.a [(iT 0), (iT 0), (iT 0), (.l .y 2 []), (iT 0), (iT 0), (iT 0), (iT 0), (.l .y 1 []), (.l .y 1 []), (.l .y 1 [])]) l hx, GOut.el, GOut.cs]);(iterate 3 exact rfl)) | refine yt1 ?_ | refine yt0 ?_ | refine yt ?_ ?_ | refine yo ?_ | apply zn | refine yc ?_ | intro _)
  refine ih () hlt trivial _ _ ?_
  rw [<- w64s (by omega)]; rfl
 ·have hc : decide ((i : Int) < (l.map (GOut.el .n)).length) = false := by simpa using hge
  repeat' (first | refine yt1 ?_ | refine yt0 ?_ | refine yt ?_ ?_ | refine yo ?_ | apply zn | refine yc ?_ | intro _)
  refine fin rfl ?_
  simp only [Zk0, Z5d _ _ _ hge]
theorem q2y_eq (x : GRow) (hl : x.bulk <= 1048576) : F_q2y [.st (x.cs .n)] = some ⟨[.st (x.cs .y)], []⟩ := by
 simp only [GRow.bulk] at hl
 (refine Z6j rfl ?_; show Ev m_q2y.code _ _ _)
 repeat' (first | refine yv g_q2v (q2v_eq x.Lst (by omega)) ?_ | refine yo ?_ | apply zn | refine yc ?_ | intro _)
 refine fin rfl ?_
 try simp only [Zk0]
 rfl
theorem q2z_eq (l : List GRow) (hl : bulks GRow.bulk l <= 1048576) : F_q2z [.x (GRow.ls .n l)] = some ⟨[.one (GRow.ls .y l)], []⟩ := by
 have hl1 := Z1t GRow.bulk l
 (refine Z6j rfl ?_; show Ev m_q2z.code _ _ _)
 repeat' (first | (apply zs;(iterate 3 exact rfl);exact (Y16 _);exact (by simp [lenMax] <;> omega);exact rfl;exact rfl) | refine yt1 ?_ | refine yt0 ?_ | refine yt ?_ ?_ | refine yo ?_ | apply zn | refine yc ?_ | intro _)
 show Ev _ _ _ _
 refine Z3v (fun i (_ : Unit) => [(0, .x (GRow.ls .n l)), (3, .own ⟨0, 0, 0⟩ (.l .y 1 (fil (GRow.el .y) (.a [(.l .y 10 [])]) l i))), (4, .x (iT i))]) (fun i _ => True) l.length () trivial (by rw [Z5h, <- Y45 (GRow.el .n)]; rfl) ?_
 intro i _ hi1 _ ih
 rcases Y79 i l.length with hlt | hge
 ·have hx := Y34 hlt
  generalize l[i] = x at hx
  have hc : decide ((i : Int) < (l.map (GRow.el .n)).length) = true := by simpa using hlt
  have hg := Z5e (GRow.el .y) (.a [(.l .y 10 [])]) l hlt
  repeat' (first | refine yi ((GRow.el .n) x) (Zar hx) ?_ | (apply zw;exact rfl;exact rfl;exact Y16 _;exact (by rw [Z5f (GRow.el .y) (.a [(.l .y 10 [])]) l hi1]; omega);exact rfl;exact rfl) | refine yv g_q2y (q2y_eq x (by have := Z1v (f := GRow.bulk) hx; omega)) ?_ | (apply zS ((.a [(.l .y 10 [])])) (.l .y 1 (fil (GRow.el .y) (.a [(.l .y 10 [])]) l (i + 1)));(iterate 4 exact rfl);exact (by simp [T.nav, T.kid, hg]);exact (by simp [T.mine, Ob.own, hg]);exact rfl;exact (by simp [T.put, T.kid, T.setKid, T.cells, T.ofCells, splice, hg, <- Z5g (GRow.el .y) (.a [(.l .y 10 [])]) l hx, GRow.el, GRow.cs]);(iterate 3 exact rfl)) | refine yt1 ?_ | refine yt0 ?_ | refine yt ?_ ?_ | refine yo ?_ | apply zn | refine yc ?_ | intro _)
  refine ih () hlt trivial _ _ ?_
  rw [<- w64s (by omega)]; rfl
 ·have hc : decide ((i : Int) < (l.map (GRow.el .n)).length) = false := by simpa using hge
  repeat' (first | refine yt1 ?_ | refine yt0 ?_ | refine yt ?_ ?_ | refine yo ?_ | apply zn | refine yc ?_ | intro _)
  refine fin rfl ?_
  simp only [Zk0, Z5d _ _ _ hge]
theorem q30_eq (l : List (List GRow)) (hl : bulks (bulks GRow.bulk) l <= 1048576) : F_q30 [.x (GRow.lss .n l)] = some ⟨[.one (GRow.lss .y l)], []⟩ := by
 have hl1 := Z1t (bulks GRow.bulk) l
 (refine Z6j rfl ?_; show Ev m_q30.code _ _ _)
 repeat' (first | (apply zs;(iterate 3 exact rfl);exact (Y16 _);exact (by simp [lenMax] <;> omega);exact rfl;exact rfl) | refine yt1 ?_ | refine yt0 ?_ | refine yt ?_ ?_ | refine yo ?_ | apply zn | refine yc ?_ | intro _)
 show Ev _ _ _ _
 refine Z3v (fun i (_ : Unit) => [(0, .x (GRow.lss .n l)), (3, .own ⟨0, 0, 0⟩ (.l .y 1 (fil (GRow.ls .y) (.l .y 1 []) l i))), (4, .x (iT i))]) (fun i _ => True) l.length () trivial (by rw [Z5h, <- Y45 (GRow.ls .n)]; rfl) ?_
 intro i _ hi1 _ ih
 rcases Y79 i l.length with hlt | hge
 ·have hx := Y34 hlt
  generalize l[i] = x at hx
  have hc : decide ((i : Int) < (l.map (GRow.ls .n)).length) = true := by simpa using hlt
  have hg := Z5e (GRow.ls .y) (.l .y 1 []) l hlt
  repeat' (first | refine yi ((GRow.ls .n) x) (Zar hx) ?_ | (apply zw;exact rfl;exact rfl;exact Y16 _;exact (by rw [Z5f (GRow.ls .y) (.l .y 1 []) l hi1]; omega);exact rfl;exact rfl) | refine yv g_q2z (q2z_eq x (by have := Z1v (f := (bulks GRow.bulk)) hx; omega)) ?_ | (apply zS ((.l .y 1 [])) (.l .y 1 (fil (GRow.ls .y) (.l .y 1 []) l (i + 1)));(iterate 4 exact rfl);exact (by simp [T.nav, T.kid, hg]);exact (by simp [T.mine, Ob.own, hg]);exact rfl;exact (by simp [T.put, T.kid, T.setKid, T.cells, T.ofCells, splice, hg, <- Z5g (GRow.ls .y) (.l .y 1 []) l hx]);(iterate 3 exact rfl)) | refine yt1 ?_ | refine yt0 ?_ | refine yt ?_ ?_ | refine yo ?_ | apply zn | refine yc ?_ | intro _)
  refine ih () hlt trivial _ _ ?_
  rw [<- w64s (by omega)]; rfl
 ·have hc : decide ((i : Int) < (l.map (GRow.ls .n)).length) = false := by simpa using hge
  repeat' (first | refine yt1 ?_ | refine yt0 ?_ | refine yt ?_ ?_ | refine yo ?_ | apply zn | refine yc ?_ | intro _)
  refine fin rfl ?_
  simp only [Zk0, Z5d _ _ _ hge]
theorem q31_eq (x : GSeat) (hl : x.bulk <= 1048576) : F_q31 [.st (x.cs .n)] = some ⟨[.st (x.cs .y)], []⟩ := by
 simp only [GSeat.bulk] at hl
 (refine Z6j rfl ?_; show Ev m_q31.code _ _ _)
 repeat' (first | refine yv g_q2t (q2t_eq x.Taken (by omega)) ?_ | refine yo ?_ | apply zn | refine yc ?_ | intro _)
 refine fin rfl ?_
 try simp only [Zk0]
 rfl
theorem q32_eq (l : List GSeat) (hl : bulks GSeat.bulk l <= 1048576) : F_q32 [.x (GSeat.ls .n l)] = some ⟨[.one (GSeat.ls .y l)], []⟩ := by
 have hl1 := Z1t GSeat.bulk l
 (refine Z6j rfl ?_; show Ev m_q32.code _ _ _)
 repeat' (first | (apply zs;(iterate 3 exact rfl);exact (Y16 _);exact (by simp [lenMax] <;> omega);exact rfl;exact rfl) | refine yt1 ?_ | refine yt0 ?_ | refine yt ?_ ?_ | refine yo ?_ | apply zn | refine yc ?_ | intro _)
 show Ev _ _ _ _
 refine Z3v (fun i (_ : Unit) => [(0, .x (GSeat.ls .n l)), (3, .own ⟨0, 0, 0⟩ (.l .y 5 (fil (GSeat.el .y) (.a [(iT 0), (iT 0), (.l .y 2 []), (iT 0), (iT 0)]) l i))), (4, .x (iT i))]) (fun i _ => True) l.length () trivial (by rw [Z5h, <- Y45 (GSeat.el .n)]; rfl) ?_
 intro i _ hi1 _ ih
 rcases Y79 i l.length with hlt | hge
 ·have hx := Y34 hlt
  generalize l[i] = x at hx
  have hc : decide ((i : Int) < (l.map (GSeat.el .n)).length) = true := by simpa using hlt
  have hg := Z5e (GSeat.el .y) (.a [(iT 0), (iT 0), (.l .y 2 []), (iT 0), (iT 0)]) l hlt
  repeat' (first | refine yi ((GSeat.el .n) x) (Zar hx) ?_ | (apply zw;exact rfl;exact rfl;exact Y16 _;exact (by rw [Z5f (GSeat.el .y) (.a [(iT 0), (iT 0), (.l .y 2 []), (iT 0), (iT 0)]) l hi1]; omega);exact rfl;exact rfl) | refine yv g_q31 (q31_eq x (by have := Z1v (f := GSeat.bulk) hx; omega)) ?_ | (apply zS ((.a [(iT 0), (iT 0), (.l .y 2 []), (iT 0), (iT 0)])) (.l .y 5 (fil (GSeat.el .y) (.a [(iT 0), (iT 0), (.l .y 2 []), (iT 0), (iT 0)]) l (i + 1)));(iterate 4 exact rfl);exact (by simp [T.nav, T.kid, hg]);exact (by simp [T.mine, Ob.own, hg]);exact rfl;exact (by simp [T.put, T.kid, T.setKid, T.cells, T.ofCells, splice, hg, <- Z5g (GSeat.el .y) (.a [(iT 0), (iT 0), (.l .y 2 []), (iT 0), (iT 0)]) l hx, GSeat.el, GSeat.cs]);(iterate 3 exact rfl)) | refine yt1 ?_ | refine yt0 ?_ | refine yt ?_ ?_ | refine yo ?_ | apply zn | refine yc ?_ | intro _)
  refine ih () hlt trivial _ _ ?_
  rw [<- w64s (by omega)]; rfl
 ·have hc : decide ((i : Int) < (l.map (GSeat.el .n)).length) = false := by simpa using hge
  repeat' (first | refine yt1 ?_ | refine yt0 ?_ | refine yt ?_ ?_ | refine yo ?_ | apply zn | refine yc ?_ | intro _)
  refine fin rfl ?_
  simp only [Zk0, Z5d _ _ _ hge]
theorem q33_eq (x : GTurn) (hl : x.bulk <= 1048576) : F_q33 [.st (x.cs .n)] = some ⟨[.st (x.cs .y)], []⟩ := by
 simp only [GTurn.bulk] at hl
 (refine Z6j rfl ?_; show Ev m_q33.code _ _ _)
 repeat' (first | refine yv g_q2o (q2o_eq x.Left (by omega)) ?_ | refine yo ?_ | apply zn | refine yc ?_ | intro _)
 refine fin rfl ?_
 try simp only [Zk0]
 rfl
theorem q34_eq (l : List GTurn) (hl : bulks GTurn.bulk l <= 1048576) : F_q34 [.x (GTurn.ls .n l)] = some ⟨[.one (GTurn.ls .y l)], []⟩ := by
 have hl1 := Z1t GTurn.bulk l
 (refine Z6j rfl ?_; show Ev m_q34.code _ _ _)
 repeat' (first | (apply zs;(iterate 3 exact rfl);exact (Y16 _);exact (by simp [lenMax] <;> omega);exact rfl;exact rfl) | refine yt1 ?_ | refine yt0 ?_ | refine yt ?_ ?_ | refine yo ?_ | apply zn | refine yc ?_ | intro _)
 show Ev _ _ _ _
 refine Z3v (fun i (_ : Unit) => [(0, .x (GTurn.ls .n l)), (3, .own ⟨0, 0, 0⟩ (.l .y 3 (fil (GTurn.el .y) (.a [(iT 0), (.b false), (.l .y 1 [])]) l i))), (4, .x (iT i))]) (fun i _ => True) l.length () trivial (by rw [Z5h, <- Y45 (GTurn.el .n)]; rfl) ?_
 intro i _ hi1 _ ih
 rcases Y79 i l.length with hlt | hge
 ·have hx := Y34 hlt
  generalize l[i] = x at hx
  have hc : decide ((i : Int) < (l.map (GTurn.el .n)).length) = true := by simpa using hlt
  have hg := Z5e (GTurn.el .y) (.a [(iT 0), (.b false), (.l .y 1 [])]) l hlt
  repeat' (first | refine yi ((GTurn.el .n) x) (Zar hx) ?_ | (apply zw;exact rfl;exact rfl;exact Y16 _;exact (by rw [Z5f (GTurn.el .y) (.a [(iT 0), (.b false), (.l .y 1 [])]) l hi1]; omega);exact rfl;exact rfl) | refine yv g_q33 (q33_eq x (by have := Z1v (f := GTurn.bulk) hx; omega)) ?_ | (apply zS ((.a [(iT 0), (.b false), (.l .y 1 [])])) (.l .y 3 (fil (GTurn.el .y) (.a [(iT 0), (.b false), (.l .y 1 [])]) l (i + 1)));(iterate 4 exact rfl);exact (by simp [T.nav, T.kid, hg]);exact (by simp [T.mine, Ob.own, hg]);exact rfl;exact (by simp [T.put, T.kid, T.setKid, T.cells, T.ofCells, splice, hg, <- Z5g (GTurn.el .y) (.a [(iT 0), (.b false), (.l .y 1 [])]) l hx, GTurn.el, GTurn.cs]);(iterate 3 exact rfl)) | refine yt1 ?_ | refine yt0 ?_ | refine yt ?_ ?_ | refine yo ?_ | apply zn | refine yc ?_ | intro _)
  refine ih () hlt trivial _ _ ?_
  rw [<- w64s (by omega)]; rfl
 ·have hc : decide ((i : Int) < (l.map (GTurn.el .n)).length) = false := by simpa using hge
  repeat' (first | refine yt1 ?_ | refine yt0 ?_ | refine yt ?_ ?_ | refine yo ?_ | apply zn | refine yc ?_ | intro _)
  refine fin rfl ?_
  simp only [Zk0, Z5d _ _ _ hge]
theorem q35_eq (x : GHouse) (hl : x.bulk <= 1048576) : F_q35 [.st (x.cs .n)] = some ⟨[.st (x.cs .y)], []⟩ := by
 simp only [GHouse.bulk] at hl
 (refine Z6j rfl ?_; show Ev m_q35.code _ _ _)
 repeat' (first | refine yv g_q2p (q2p_eq x.Conf (by omega)) ?_ | refine yv g_q32 (q32_eq x.Seats (by omega)) ?_ | refine yv g_q30 (q30_eq x.Rows (by omega)) ?_ | refine yv g_q34 (q34_eq x.Turns (by omega)) ?_ | refine yv g_q2v (q2v_eq x.Root (by omega)) ?_ | refine yv g_q2x (q2x_eq x.Outs (by omega)) ?_ | refine yo ?_ | apply zn | refine yc ?_ | intro _)
 refine fin rfl ?_
 try simp only [Zk0]
 rfl
end Go.Wr
namespace Go.Wr
set_option maxRecDepth 20000
theorem q1a_eq (a b : List Int) (hl : a.length <= 1048576) : F_q1a [.x (ints .n a), .x (ints .n b)] = some ⟨[.one (.b (decide (a = b)))], []⟩ := by
 have hl1 := Nat.le_refl a.length
 (refine Z6j rfl ?_; show Ev m_q1a.code _ _ _)
 repeat' (first | refine yt1 ?_ | refine yt0 ?_ | refine yt ?_ ?_ | refine yo ?_ | apply zn | refine yc ?_ | intro _)
 ·refine fin rfl ?_
  rename_i h
  have h2 : a ≠ b := Zbo h
  simp [h2]
 ·have hlen : a.length = b.length := by rename_i h; exact Z3m h
  show Ev _ _ _ _
  refine Z3v (fun i (_ : Unit) => [(0, .x (ints .n a)), (1, .x (ints .n b)), (5, .x (iT i))]) (fun i _ => a.take i = b.take i) a.length () (by simp) rfl ?_
  intro i _ hi1 hinv ih
  rcases Y79 i a.length with hlt | hge
  ·have hx := Y34 hlt
   have hy := Y34 (show i < b.length by omega)
   generalize a[i] = x at hx
   generalize b[i]'(by omega) = y at hy
   have hc : decide ((i : Int) < (a.map iT).length) = true := by simpa using hlt
   repeat' (first | refine yi (iT x) (Zar hx) ?_ | refine yi (iT y) (Zar hy) ?_ | refine yt1 ?_ | refine yt0 ?_ | refine yt ?_ ?_ | refine yo ?_ | apply zn | refine yc ?_ | intro _)
   ·refine fin rfl ?_
    rename_i h
    have h2 : a ≠ b := Zbn hx hy (by simpa using h)
    simp [h2]
   ·rename_i h
    have hxy : x = y := by simpa using h
    refine ih () hlt (Z3n hinv hx (hxy ▸ hy)) _ _ ?_
    rw [<- w64s (by omega)]; rfl
  ·have hc : decide ((i : Int) < (a.map iT).length) = false := by simpa using hge
   repeat' (first | refine yt1 ?_ | refine yt0 ?_ | refine yt ?_ ?_ | refine yo ?_ | apply zn | refine yc ?_ | intro _)
   refine fin rfl ?_
   simp [Z3l hinv hlen hge]
theorem q1b_eq (a b : GConf) (hl : a.bulk <= 1048576) : F_q1b [.st (a.cs .n), .st (b.cs .n)] = some ⟨[.one (.b (decide (a = b)))], []⟩ := by
 simp only [GConf.bulk] at hl
 (refine Z6j rfl ?_; show Ev m_q1b.code _ _ _)
 repeat' (first | refine yv g_q1a (q1a_eq a.Weights b.Weights (by omega)) ?_ | refine yt1 ?_ | refine yt0 ?_ | refine yt ?_ ?_ | refine yo ?_ | apply zn | refine yc ?_ | intro _)
 all_goals (refine fin rfl ?_; simp only [Out.mk.injEq, Y23, RV.one.injEq, T.b.injEq, and_true])
 all_goals (rcases a with ⟨a0, a1, a2, a3, a4, a5, a6, a7⟩; rcases b with ⟨b0, b1, b2, b3, b4, b5, b6, b7⟩; simp only [GConf.mk.injEq] at *; simp_all)
theorem q1c_eq (a b : List (List Int)) (hl : bulks List.length a <= 1048576) : F_q1c [.x (GInt.lss .n a), .x (GInt.lss .n b)] = some ⟨[.one (.b (decide (a = b)))], []⟩ := by
 have hl1 := Z1t List.length a
 (refine Z6j rfl ?_; show Ev m_q1c.code _ _ _)
 repeat' (first | refine yt1 ?_ | refine yt0 ?_ | refine yt ?_ ?_ | refine yo ?_ | apply zn | refine yc ?_ | intro _)
 ·refine fin rfl ?_
  rename_i h
  have h2 : a ≠ b := Zbo h
  simp [h2]
 ·have hlen : a.length = b.length := by rename_i h; exact Z3m h
  show Ev _ _ _ _
  refine Z3v (fun i (_ : Unit) => [(0, .x (GInt.lss .n a)), (1, .x (GInt.lss .n b)), (5, .x (iT i))]) (fun i _ => a.take i = b.take i) a.length () (by simp) rfl ?_
  intro i _ hi1 hinv ih
  rcases Y79 i a.length with hlt | hge
  ·have hx := Y34 hlt
   have hy := Y34 (show i < b.length by omega)
   generalize a[i] = x at hx
   generalize b[i]'(by omega) = y at hy
   have hc : decide ((i : Int) < (a.map (ints .n)).length) = true := by simpa using hlt
   repeat' (first | refine yi ((ints .n) x) (Zar hx) ?_ | refine yi ((ints .n) y) (Zar hy) ?_ | refine yv g_q1a (q1a_eq x y (by have := Z1v (f := List.length) hx; omega)) ?_ | refine yt1 ?_ | refine yt0 ?_ | refine yt ?_ ?_ | refine yo ?_ | apply zn | refine yc ?_ | intro _)
   ·refine fin rfl ?_
    rename_i h
    have h2 : a ≠ b := Zbn hx hy (by simpa using h)
    simp [h2]
   ·rename_i h
    have hxy : x = y := by simpa using h
    refine ih () hlt (Z3n hinv hx (hxy ▸ hy)) _ _ ?_
    rw [<- w64s (by omega)]; rfl
  ·have hc : decide ((i : Int) < (a.map (ints .n)).length) = false := by simpa using hge
   repeat' (first | refine yt1 ?_ | refine yt0 ?_ | refine yt ?_ ?_ | refine yo ?_ | apply zn | refine yc ?_ | intro _)
   refine fin rfl ?_
   simp [Z3l hinv hlen hge]
theorem q1d_eq (a b : GSketch) (hl : a.bulk <= 1048576) : F_q1d [.st (a.cs .n), .st (b.cs .n)] = some ⟨[.one (.b (decide (a = b)))], []⟩ := by
 simp only [GSketch.bulk] at hl
 (refine Z6j rfl ?_; show Ev m_q1d.code _ _ _)
 repeat' (first | refine yv g_q1a (q1a_eq a.Hist b.Hist (by omega)) ?_ | refine yv g_q1a (q1a_eq a.Regs b.Regs (by omega)) ?_ | refine yv g_q1c (q1c_eq a.Rows b.Rows (by omega)) ?_ | refine yt1 ?_ | refine yt0 ?_ | refine yt ?_ ?_ | refine yo ?_ | apply zn | refine yc ?_ | intro _)
 all_goals (refine fin rfl ?_; simp only [Out.mk.injEq, Y23, RV.one.injEq, T.b.injEq, and_true])
 all_goals (rcases a with ⟨a0, a1, a2, a3, a4, a5, a6⟩; rcases b with ⟨b0, b1, b2, b3, b4, b5, b6⟩; simp only [GSketch.mk.injEq] at *; simp_all)
theorem q1e_eq (a b : GSpan) : F_q1e [.st (a.cs .n), .st (b.cs .n)] = some ⟨[.one (.b (decide (a = b)))], []⟩ := by
 (refine Z6j rfl ?_; show Ev m_q1e.code _ _ _)
 repeat' (first | refine yt1 ?_ | refine yt0 ?_ | refine yt ?_ ?_ | refine yo ?_ | apply zn | refine yc ?_ | intro _)
 all_goals (refine fin rfl ?_; simp only [Out.mk.injEq, Y23, RV.one.injEq, T.b.injEq, and_true])
 all_goals (rcases a with ⟨a0, a1⟩; rcases b with ⟨b0, b1⟩; simp only [GSpan.mk.injEq] at *; simp_all)
theorem q1f_eq (a b : List GSpan) (hl : a.length <= 1048576) : F_q1f [.x (GSpan.ls .n a), .x (GSpan.ls .n b)] = some ⟨[.one (.b (decide (a = b)))], []⟩ := by
 have hl1 := Nat.le_refl a.length
 (refine Z6j rfl ?_; show Ev m_q1f.code _ _ _)
 repeat' (first | refine yt1 ?_ | refine yt0 ?_ | refine yt ?_ ?_ | refine yo ?_ | apply zn | refine yc ?_ | intro _)
 ·refine fin rfl ?_
  rename_i h
  have h2 : a ≠ b := Zbo h
  simp [h2]
 ·have hlen : a.length = b.length := by rename_i h; exact Z3m h
  show Ev _ _ _ _
  refine Z3v (fun i (_ : Unit) => [(0, .x (GSpan.ls .n a)), (1, .x (GSpan.ls .n b)), (5, .x (iT i))]) (fun i _ => a.take i = b.take i) a.length () (by simp) rfl ?_
  intro i _ hi1 hinv ih
  rcases Y79 i a.length with hlt | hge
  ·have hx := Y34 hlt
   have hy := Y34 (show i < b.length by omega)
   generalize a[i] = x at hx
   generalize b[i]'(by omega) = y at hy
   have hc : decide ((i : Int) < (a.map (GSpan.el .n)).length) = true := by simpa using hlt
   repeat' (first | refine yi ((GSpan.el .n) x) (Zar hx) ?_ | refine yi ((GSpan.el .n) y) (Zar hy) ?_ | refine yv g_q1e (q1e_eq x y) ?_ | refine yt1 ?_ | refine yt0 ?_ | refine yt ?_ ?_ | refine yo ?_ | apply zn | refine yc ?_ | intro _)
   ·refine fin rfl ?_
    rename_i h
    have h2 : a ≠ b := Zbn hx hy (by simpa using h)
    simp [h2]
   ·rename_i h
    have hxy : x = y := by simpa using h
    refine ih () hlt (Z3n hinv hx (hxy ▸ hy)) _ _ ?_
    rw [<- w64s (by omega)]; rfl
  ·have hc : decide ((i : Int) < (a.map (GSpan.el .n)).length) = false := by simpa using hge
   repeat' (first | refine yt1 ?_ | refine yt0 ?_ | refine yt ?_ ?_ | refine yo ?_ | apply zn | refine yc ?_ | intro _)
   refine fin rfl ?_
   simp [Z3l hinv hlen hge]
theorem q1g_eq (a b : GEntry) (hl : a.bulk <= 1048576) : F_q1g [.st (a.cs .n), .st (b.cs .n)] = some ⟨[.one (.b (decide (a = b)))], []⟩ := by
 simp only [GEntry.bulk] at hl
 (refine Z6j rfl ?_; show Ev m_q1g.code _ _ _)
 repeat' (first | refine yv g_q1f (q1f_eq a.Ids b.Ids (by omega)) ?_ | refine yv g_q1d (q1d_eq a.Sketch b.Sketch (by omega)) ?_ | refine yt1 ?_ | refine yt0 ?_ | refine yt ?_ ?_ | refine yo ?_ | apply zn | refine yc ?_ | intro _)
 all_goals (refine fin rfl ?_; simp only [Out.mk.injEq, Y23, RV.one.injEq, T.b.injEq, and_true])
 all_goals (rcases a with ⟨a0, a1, a2, a3⟩; rcases b with ⟨b0, b1, b2, b3⟩; simp only [GEntry.mk.injEq] at *; simp_all)
theorem q1h_eq (a b : List GEntry) (hl : bulks GEntry.bulk a <= 1048576) : F_q1h [.x (GEntry.ls .n a), .x (GEntry.ls .n b)] = some ⟨[.one (.b (decide (a = b)))], []⟩ := by
 have hl1 := Z1t GEntry.bulk a
 (refine Z6j rfl ?_; show Ev m_q1h.code _ _ _)
 repeat' (first | refine yt1 ?_ | refine yt0 ?_ | refine yt ?_ ?_ | refine yo ?_ | apply zn | refine yc ?_ | intro _)
 ·refine fin rfl ?_
  rename_i h
  have h2 : a ≠ b := Zbo h
  simp [h2]
 ·have hlen : a.length = b.length := by rename_i h; exact Z3m h
  show Ev _ _ _ _
  refine Z3v (fun i (_ : Unit) => [(0, .x (GEntry.ls .n a)), (1, .x (GEntry.ls .n b)), (5, .x (iT i))]) (fun i _ => a.take i = b.take i) a.length () (by simp) rfl ?_
  intro i _ hi1 hinv ih
  rcases Y79 i a.length with hlt | hge
  ·have hx := Y34 hlt
   have hy := Y34 (show i < b.length by omega)
   generalize a[i] = x at hx
   generalize b[i]'(by omega) = y at hy
   have hc : decide ((i : Int) < (a.map (GEntry.el .n)).length) = true := by simpa using hlt
   repeat' (first | refine yi ((GEntry.el .n) x) (Zar hx) ?_ | refine yi ((GEntry.el .n) y) (Zar hy) ?_ | refine yv g_q1g (q1g_eq x y (by have := Z1v (f := GEntry.bulk) hx; omega)) ?_ | refine yt1 ?_ | refine yt0 ?_ | refine yt ?_ ?_ | refine yo ?_ | apply zn | refine yc ?_ | intro _)
   ·refine fin rfl ?_
    rename_i h
    have h2 : a ≠ b := Zbn hx hy (by simpa using h)
    simp [h2]
   ·rename_i h
    have hxy : x = y := by simpa using h
    refine ih () hlt (Z3n hinv hx (hxy ▸ hy)) _ _ ?_
    rw [<- w64s (by omega)]; rfl
  ·have hc : decide ((i : Int) < (a.map (GEntry.el .n)).length) = false := by simpa using hge
   repeat' (first | refine yt1 ?_ | refine yt0 ?_ | refine yt ?_ ?_ | refine yo ?_ | apply zn | refine yc ?_ | intro _)
   refine fin rfl ?_
   simp [Z3l hinv hlen hge]
theorem q1i_eq (a b : GOut) (hl : a.bulk <= 1048576) : F_q1i [.st (a.cs .n), .st (b.cs .n)] = some ⟨[.one (.b (decide (a = b)))], []⟩ := by
 simp only [GOut.bulk] at hl
 (refine Z6j rfl ?_; show Ev m_q1i.code _ _ _)
 repeat' (first | refine yv g_q1g (q1g_eq a.Entry b.Entry (by omega)) ?_ | refine yt1 ?_ | refine yt0 ?_ | refine yt ?_ ?_ | refine yo ?_ | apply zn | refine yc ?_ | intro _)
 all_goals (refine fin rfl ?_; simp only [Out.mk.injEq, Y23, RV.one.injEq, T.b.injEq, and_true])
 all_goals (rcases a with ⟨a0, a1⟩; rcases b with ⟨b0, b1⟩; simp only [GOut.mk.injEq] at *; simp_all)
theorem q1j_eq (a b : List GOut) (hl : bulks GOut.bulk a <= 1048576) : F_q1j [.x (GOut.ls .n a), .x (GOut.ls .n b)] = some ⟨[.one (.b (decide (a = b)))], []⟩ := by
 have hl1 := Z1t GOut.bulk a
 (refine Z6j rfl ?_; show Ev m_q1j.code _ _ _)
 repeat' (first | refine yt1 ?_ | refine yt0 ?_ | refine yt ?_ ?_ | refine yo ?_ | apply zn | refine yc ?_ | intro _)
 ·refine fin rfl ?_
  rename_i h
  have h2 : a ≠ b := Zbo h
  simp [h2]
 ·have hlen : a.length = b.length := by rename_i h; exact Z3m h
  show Ev _ _ _ _
  refine Z3v (fun i (_ : Unit) => [(0, .x (GOut.ls .n a)), (1, .x (GOut.ls .n b)), (5, .x (iT i))]) (fun i _ => a.take i = b.take i) a.length () (by simp) rfl ?_
  intro i _ hi1 hinv ih
  rcases Y79 i a.length with hlt | hge
  ·have hx := Y34 hlt
   have hy := Y34 (show i < b.length by omega)
   generalize a[i] = x at hx
   generalize b[i]'(by omega) = y at hy
   have hc : decide ((i : Int) < (a.map (GOut.el .n)).length) = true := by simpa using hlt
   repeat' (first | refine yi ((GOut.el .n) x) (Zar hx) ?_ | refine yi ((GOut.el .n) y) (Zar hy) ?_ | refine yv g_q1i (q1i_eq x y (by have := Z1v (f := GOut.bulk) hx; omega)) ?_ | refine yt1 ?_ | refine yt0 ?_ | refine yt ?_ ?_ | refine yo ?_ | apply zn | refine yc ?_ | intro _)
   ·refine fin rfl ?_
    rename_i h
    have h2 : a ≠ b := Zbn hx hy (by simpa using h)
    simp [h2]
   ·rename_i h
    have hxy : x = y := by simpa using h
    refine ih () hlt (Z3n hinv hx (hxy ▸ hy)) _ _ ?_
    rw [<- w64s (by omega)]; rfl
  ·have hc : decide ((i : Int) < (a.map (GOut.el .n)).length) = false := by simpa using hge
   repeat' (first | refine yt1 ?_ | refine yt0 ?_ | refine yt ?_ ?_ | refine yo ?_ | apply zn | refine yc ?_ | intro _)
   refine fin rfl ?_
   simp [Z3l hinv hlen hge]
theorem q1k_eq (a b : GRow) (hl : a.bulk <= 1048576) : F_q1k [.st (a.cs .n), .st (b.cs .n)] = some ⟨[.one (.b (decide (a = b)))], []⟩ := by
 simp only [GRow.bulk] at hl
 (refine Z6j rfl ?_; show Ev m_q1k.code _ _ _)
 repeat' (first | refine yv g_q1h (q1h_eq a.Lst b.Lst (by omega)) ?_ | refine yt1 ?_ | refine yt0 ?_ | refine yt ?_ ?_ | refine yo ?_ | apply zn | refine yc ?_ | intro _)
 all_goals (refine fin rfl ?_; simp only [Out.mk.injEq, Y23, RV.one.injEq, T.b.injEq, and_true])
 all_goals (rcases a with ⟨a0⟩; rcases b with ⟨b0⟩; simp only [GRow.mk.injEq] at *; simp_all)
theorem q1l_eq (a b : List GRow) (hl : bulks GRow.bulk a <= 1048576) : F_q1l [.x (GRow.ls .n a), .x (GRow.ls .n b)] = some ⟨[.one (.b (decide (a = b)))], []⟩ := by
 have hl1 := Z1t GRow.bulk a
 (refine Z6j rfl ?_; show Ev m_q1l.code _ _ _)
 repeat' (first | refine yt1 ?_ | refine yt0 ?_ | refine yt ?_ ?_ | refine yo ?_ | apply zn | refine yc ?_ | intro _)
 ·refine fin rfl ?_
  rename_i h
  have h2 : a ≠ b := Zbo h
  simp [h2]
 ·have hlen : a.length = b.length := by rename_i h; exact Z3m h
  show Ev _ _ _ _
  refine Z3v (fun i (_ : Unit) => [(0, .x (GRow.ls .n a)), (1, .x (GRow.ls .n b)), (5, .x (iT i))]) (fun i _ => a.take i = b.take i) a.length () (by simp) rfl ?_
  intro i _ hi1 hinv ih
  rcases Y79 i a.length with hlt | hge
  ·have hx := Y34 hlt
   have hy := Y34 (show i < b.length by omega)
   generalize a[i] = x at hx
   generalize b[i]'(by omega) = y at hy
   have hc : decide ((i : Int) < (a.map (GRow.el .n)).length) = true := by simpa using hlt
   repeat' (first | refine yi ((GRow.el .n) x) (Zar hx) ?_ | refine yi ((GRow.el .n) y) (Zar hy) ?_ | refine yv g_q1k (q1k_eq x y (by have := Z1v (f := GRow.bulk) hx; omega)) ?_ | refine yt1 ?_ | refine yt0 ?_ | refine yt ?_ ?_ | refine yo ?_ | apply zn | refine yc ?_ | intro _)
   ·refine fin rfl ?_
    rename_i h
    have h2 : a ≠ b := Zbn hx hy (by simpa using h)
    simp [h2]
   ·rename_i h
    have hxy : x = y := by simpa using h
    refine ih () hlt (Z3n hinv hx (hxy ▸ hy)) _ _ ?_
    rw [<- w64s (by omega)]; rfl
  ·have hc : decide ((i : Int) < (a.map (GRow.el .n)).length) = false := by simpa using hge
   repeat' (first | refine yt1 ?_ | refine yt0 ?_ | refine yt ?_ ?_ | refine yo ?_ | apply zn | refine yc ?_ | intro _)
   refine fin rfl ?_
   simp [Z3l hinv hlen hge]
theorem q1m_eq (a b : List (List GRow)) (hl : bulks (bulks GRow.bulk) a <= 1048576) : F_q1m [.x (GRow.lss .n a), .x (GRow.lss .n b)] = some ⟨[.one (.b (decide (a = b)))], []⟩ := by
 have hl1 := Z1t (bulks GRow.bulk) a
 (refine Z6j rfl ?_; show Ev m_q1m.code _ _ _)
 repeat' (first | refine yt1 ?_ | refine yt0 ?_ | refine yt ?_ ?_ | refine yo ?_ | apply zn | refine yc ?_ | intro _)
 ·refine fin rfl ?_
  rename_i h
  have h2 : a ≠ b := Zbo h
  simp [h2]
 ·have hlen : a.length = b.length := by rename_i h; exact Z3m h
  show Ev _ _ _ _
  refine Z3v (fun i (_ : Unit) => [(0, .x (GRow.lss .n a)), (1, .x (GRow.lss .n b)), (5, .x (iT i))]) (fun i _ => a.take i = b.take i) a.length () (by simp) rfl ?_
  intro i _ hi1 hinv ih
  rcases Y79 i a.length with hlt | hge
  ·have hx := Y34 hlt
   have hy := Y34 (show i < b.length by omega)
   generalize a[i] = x at hx
   generalize b[i]'(by omega) = y at hy
   have hc : decide ((i : Int) < (a.map (GRow.ls .n)).length) = true := by simpa using hlt
   repeat' (first | refine yi ((GRow.ls .n) x) (Zar hx) ?_ | refine yi ((GRow.ls .n) y) (Zar hy) ?_ | refine yv g_q1l (q1l_eq x y (by have := Z1v (f := (bulks GRow.bulk)) hx; omega)) ?_ | refine yt1 ?_ | refine yt0 ?_ | refine yt ?_ ?_ | refine yo ?_ | apply zn | refine yc ?_ | intro _)
   ·refine fin rfl ?_
    rename_i h
    have h2 : a ≠ b := Zbn hx hy (by simpa using h)
    simp [h2]
   ·rename_i h
    have hxy : x = y := by simpa using h
    refine ih () hlt (Z3n hinv hx (hxy ▸ hy)) _ _ ?_
    rw [<- w64s (by omega)]; rfl
  ·have hc : decide ((i : Int) < (a.map (GRow.ls .n)).length) = false := by simpa using hge
   repeat' (first | refine yt1 ?_ | refine yt0 ?_ | refine yt ?_ ?_ | refine yo ?_ | apply zn | refine yc ?_ | intro _)
   refine fin rfl ?_
   simp [Z3l hinv hlen hge]
theorem q1n_eq (a b : GSeat) (hl : a.bulk <= 1048576) : F_q1n [.st (a.cs .n), .st (b.cs .n)] = some ⟨[.one (.b (decide (a = b)))], []⟩ := by
 simp only [GSeat.bulk] at hl
 (refine Z6j rfl ?_; show Ev m_q1n.code _ _ _)
 repeat' (first | refine yv g_q1f (q1f_eq a.Taken b.Taken (by omega)) ?_ | refine yt1 ?_ | refine yt0 ?_ | refine yt ?_ ?_ | refine yo ?_ | apply zn | refine yc ?_ | intro _)
 all_goals (refine fin rfl ?_; simp only [Out.mk.injEq, Y23, RV.one.injEq, T.b.injEq, and_true])
 all_goals (rcases a with ⟨a0, a1, a2, a3, a4⟩; rcases b with ⟨b0, b1, b2, b3, b4⟩; simp only [GSeat.mk.injEq] at *; simp_all)
theorem q1o_eq (a b : List GSeat) (hl : bulks GSeat.bulk a <= 1048576) : F_q1o [.x (GSeat.ls .n a), .x (GSeat.ls .n b)] = some ⟨[.one (.b (decide (a = b)))], []⟩ := by
 have hl1 := Z1t GSeat.bulk a
 (refine Z6j rfl ?_; show Ev m_q1o.code _ _ _)
 repeat' (first | refine yt1 ?_ | refine yt0 ?_ | refine yt ?_ ?_ | refine yo ?_ | apply zn | refine yc ?_ | intro _)
 ·refine fin rfl ?_
  rename_i h
  have h2 : a ≠ b := Zbo h
  simp [h2]
 ·have hlen : a.length = b.length := by rename_i h; exact Z3m h
  show Ev _ _ _ _
  refine Z3v (fun i (_ : Unit) => [(0, .x (GSeat.ls .n a)), (1, .x (GSeat.ls .n b)), (5, .x (iT i))]) (fun i _ => a.take i = b.take i) a.length () (by simp) rfl ?_
  intro i _ hi1 hinv ih
  rcases Y79 i a.length with hlt | hge
  ·have hx := Y34 hlt
   have hy := Y34 (show i < b.length by omega)
   generalize a[i] = x at hx
   generalize b[i]'(by omega) = y at hy
   have hc : decide ((i : Int) < (a.map (GSeat.el .n)).length) = true := by simpa using hlt
   repeat' (first | refine yi ((GSeat.el .n) x) (Zar hx) ?_ | refine yi ((GSeat.el .n) y) (Zar hy) ?_ | refine yv g_q1n (q1n_eq x y (by have := Z1v (f := GSeat.bulk) hx; omega)) ?_ | refine yt1 ?_ | refine yt0 ?_ | refine yt ?_ ?_ | refine yo ?_ | apply zn | refine yc ?_ | intro _)
   ·refine fin rfl ?_
    rename_i h
    have h2 : a ≠ b := Zbn hx hy (by simpa using h)
    simp [h2]
   ·rename_i h
    have hxy : x = y := by simpa using h
    refine ih () hlt (Z3n hinv hx (hxy ▸ hy)) _ _ ?_
    rw [<- w64s (by omega)]; rfl
  ·have hc : decide ((i : Int) < (a.map (GSeat.el .n)).length) = false := by simpa using hge
   repeat' (first | refine yt1 ?_ | refine yt0 ?_ | refine yt ?_ ?_ | refine yo ?_ | apply zn | refine yc ?_ | intro _)
   refine fin rfl ?_
   simp [Z3l hinv hlen hge]
theorem q1p_eq (a b : GTurn) (hl : a.bulk <= 1048576) : F_q1p [.st (a.cs .n), .st (b.cs .n)] = some ⟨[.one (.b (decide (a = b)))], []⟩ := by
 simp only [GTurn.bulk] at hl
 (refine Z6j rfl ?_; show Ev m_q1p.code _ _ _)
 repeat' (first | refine yv g_q1a (q1a_eq a.Left b.Left (by omega)) ?_ | refine yt1 ?_ | refine yt0 ?_ | refine yt ?_ ?_ | refine yo ?_ | apply zn | refine yc ?_ | intro _)
 all_goals (refine fin rfl ?_; simp only [Out.mk.injEq, Y23, RV.one.injEq, T.b.injEq, and_true])
 all_goals (rcases a with ⟨a0, a1, a2⟩; rcases b with ⟨b0, b1, b2⟩; simp only [GTurn.mk.injEq] at *; simp_all)
theorem q1q_eq (a b : List GTurn) (hl : bulks GTurn.bulk a <= 1048576) : F_q1q [.x (GTurn.ls .n a), .x (GTurn.ls .n b)] = some ⟨[.one (.b (decide (a = b)))], []⟩ := by
 have hl1 := Z1t GTurn.bulk a
 (refine Z6j rfl ?_; show Ev m_q1q.code _ _ _)
 repeat' (first | refine yt1 ?_ | refine yt0 ?_ | refine yt ?_ ?_ | refine yo ?_ | apply zn | refine yc ?_ | intro _)
 ·refine fin rfl ?_
  rename_i h
  have h2 : a ≠ b := Zbo h
  simp [h2]
 ·have hlen : a.length = b.length := by rename_i h; exact Z3m h
  show Ev _ _ _ _
  refine Z3v (fun i (_ : Unit) => [(0, .x (GTurn.ls .n a)), (1, .x (GTurn.ls .n b)), (5, .x (iT i))]) (fun i _ => a.take i = b.take i) a.length () (by simp) rfl ?_
  intro i _ hi1 hinv ih
  rcases Y79 i a.length with hlt | hge
  ·have hx := Y34 hlt
   have hy := Y34 (show i < b.length by omega)
   generalize a[i] = x at hx
   generalize b[i]'(by omega) = y at hy
   have hc : decide ((i : Int) < (a.map (GTurn.el .n)).length) = true := by simpa using hlt
   repeat' (first | refine yi ((GTurn.el .n) x) (Zar hx) ?_ | refine yi ((GTurn.el .n) y) (Zar hy) ?_ | refine yv g_q1p (q1p_eq x y (by have := Z1v (f := GTurn.bulk) hx; omega)) ?_ | refine yt1 ?_ | refine yt0 ?_ | refine yt ?_ ?_ | refine yo ?_ | apply zn | refine yc ?_ | intro _)
   ·refine fin rfl ?_
    rename_i h
    have h2 : a ≠ b := Zbn hx hy (by simpa using h)
    simp [h2]
   ·rename_i h
    have hxy : x = y := by simpa using h
    refine ih () hlt (Z3n hinv hx (hxy ▸ hy)) _ _ ?_
    rw [<- w64s (by omega)]; rfl
  ·have hc : decide ((i : Int) < (a.map (GTurn.el .n)).length) = false := by simpa using hge
   repeat' (first | refine yt1 ?_ | refine yt0 ?_ | refine yt ?_ ?_ | refine yo ?_ | apply zn | refine yc ?_ | intro _)
   refine fin rfl ?_
   simp [Z3l hinv hlen hge]
theorem q1r_eq (a b : GHouse) (hl : a.bulk <= 1048576) : F_q1r [.st (a.cs .n), .st (b.cs .n)] = some ⟨[.one (.b (decide (a = b)))], []⟩ := by
 simp only [GHouse.bulk] at hl
 (refine Z6j rfl ?_; show Ev m_q1r.code _ _ _)
 repeat' (first | refine yv g_q1b (q1b_eq a.Conf b.Conf (by omega)) ?_ | refine yv g_q1o (q1o_eq a.Seats b.Seats (by omega)) ?_ | refine yv g_q1m (q1m_eq a.Rows b.Rows (by omega)) ?_ | refine yv g_q1q (q1q_eq a.Turns b.Turns (by omega)) ?_ | refine yv g_q1h (q1h_eq a.Root b.Root (by omega)) ?_ | refine yv g_q1j (q1j_eq a.Outs b.Outs (by omega)) ?_ | refine yt1 ?_ | refine yt0 ?_ | refine yt ?_ ?_ | refine yo ?_ | apply zn | refine yc ?_ | intro _)
 all_goals (refine fin rfl ?_; simp only [Out.mk.injEq, Y23, RV.one.injEq, T.b.injEq, and_true])
 all_goals (rcases a with ⟨a0, a1, a2, a3, a4, a5, a6, a7, a8⟩; rcases b with ⟨b0, b1, b2, b3, b4, b5, b6, b7, b8⟩; simp only [GHouse.mk.injEq] at *; simp_all)
end Go.Wr

