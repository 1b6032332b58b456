/-
  What is proved: lemmas on the way to the laws of this seat. No condition.
-/
import Derived.Test.YtgckmfadalhddaaGreatMa
import Derived.Test.YtgckmfadalhddaaGreatRd
import Derived.Test.YtgckmfadalhddaaGreatTa
set_option linter.unusedVariables false
set_option linter.unusedSimpArgs false
namespace Go.Wr
set_option linter.unusedVariables false
set_option linter.unusedSimpArgs false
set_option linter.unnecessarySimpa false
set_option maxRecDepth 20000
theorem laws_szIntS_eq (l : List Int) (n : Int) (hn : Rng n) (hl : l.length <= maxLen) : F_laws_szIntS [.x (ints .n l), .x (iT n)] = some ⟨[.one (iT (left n (l.length)))], []⟩ := by
 have e := wrap_len (f := iT) hn hl
 (refine fun_ev rfl ?_; show Ev m_laws_szIntS.code _ _ _)
 repeat' (first | (apply zt1;exact rfl;(with_reducible assumption)) | (apply zt0;exact rfl;(with_reducible assumption)) | (apply zt;exact rfl) | (apply zo;exact rfl;exact rfl) | apply zn | (apply zc;exact rfl) | intro _)
 all_goals (refine fin rfl ?_; rename_i h; rw [e] at h; simp only [e, decide_eq_true_eq, decide_eq_false_iff_not] at h ⊢)
 ·rw [left, if_pos (by omega)]
 ·rw [left, if_neg (by omega)]
theorem laws_szIntSS_eq (l : List (List Int)) (n : Int) (hn : Rng n) (hl : fits (fun l => l.length <= maxLen) l) : F_laws_szIntSS [.x (GInt.lss .n l), .x (iT n)] = some ⟨[.one (iT (left n (bulks List.length l)))], []⟩ := by
 have hl1 := hl.1
 have e := wrap_len (f := (ints .n)) hn hl.1
 (refine fun_ev rfl ?_; show Ev m_laws_szIntSS.code _ _ _)
 repeat' (first | (apply zt1;exact rfl;(with_reducible assumption)) | (apply zt0;exact rfl;(with_reducible assumption)) | (apply zt;exact rfl) | (apply zo;exact rfl;exact rfl) | apply zn | (apply zc;exact rfl) | intro _)
 ·refine fin rfl ?_
  rename_i h
  have h2 := bulks_len List.length l
  rw [e] at h
  simp only [decide_eq_true_eq] at h
  rw [left, if_pos (by omega)]
 ·rename_i h
  rw [e] at h
  simp only [decide_eq_false_iff_not] at h
  show Ev _ _ _ _
  refine ev_for (fun i (x : Int) => [(0, .x (GInt.lss .n l)), (1, .x (iT x)), (5, .x (iT i))]) (fun i x => x = n - l.length - pre List.length l i /\ 0 <= x) l.length (n - l.length) ⟨by rw [pre_zero]; omega, by omega⟩ (by rw [e]; rfl) ?_
  intro i x hi1 hinv ih
  obtain ⟨hx0, hx1⟩ := hinv
  rcases Nat.lt_or_ge i l.length with hlt | hge
  ·have hx := List.getElem?_eq_getElem hlt
   generalize l[i] = y at hx
   have hc : decide ((i : Int) < (l.map (ints .n)).length) = true := by simpa using hlt
   repeat' (first | (apply zi ((ints .n) y);exact rfl;exact rfl;exact Int.natCast_nonneg _;exact (map_at hx);exact rfl;exact rfl) | (apply zk g_laws_szIntS;exact rfl;simp only [List.map,fzl];exact rfl;exact (laws_szIntS_eq y x (by unfold Rng at *; omega) (hl.2 y (List.mem_of_getElem? hx)));exact rfl;exact rfl;exact rfl) | (apply zt1;exact rfl;(with_reducible assumption)) | (apply zt0;exact rfl;(with_reducible assumption)) | (apply zt;exact rfl) | (apply zo;exact rfl;exact rfl) | apply zn | (apply zc;exact rfl) | intro _)
   ·refine fin rfl ?_
    rename_i h3
    have h4 := pre_le (f := List.length) (l := l) (i := i + 1)
    rw [pre_succ hx] at h4
    have h5 := left_fail (by unfold Rng at *; omega) h3 (Nat.le_refl _)
    unfold left at h5 ⊢
    split at h5 <;> first | (rw [if_pos (by omega)]; done) | omega
   ·rename_i h3
    have h4 := left_ok (by unfold Rng at *; omega) h3
    refine ih (x - y.length) hlt ⟨?_, ?_⟩ _ _ ?_
    ·rw [pre_succ hx]; omega
    ·omega
    ·rw [<- w64s (by unfold maxLen at hl1; omega), <- h4.1]; rfl
  ·have hc : decide ((i : Int) < (l.map (ints .n)).length) = false := by simpa using hge
   repeat' (first | (apply zt1;exact rfl;(with_reducible assumption)) | (apply zt0;exact rfl;(with_reducible assumption)) | (apply zt;exact rfl) | (apply zo;exact rfl;exact rfl) | apply zn | (apply zc;exact rfl) | intro _)
   refine fin rfl ?_
   have h4 := pre_end (f := List.length) hge
   rw [left, if_neg (by omega)]
   simp only [hx0, RV.one.injEq, Out.mk.injEq, List.cons.injEq, T.i.injEq, and_true, true_and]
   omega
theorem laws_szSketch_eq (x : GSketch) (n : Int) (hn : Rng n) (hl : x.fit) : F_laws_szSketch [.st (x.cs .n), .x (iT n)] = some ⟨[.one (iT (left n x.bulk))], []⟩ := by
 obtain ⟨f0, f1, f2⟩ := hl
 (refine fun_ev rfl ?_; show Ev m_laws_szSketch.code _ _ _)
 repeat' (first | (apply zk g_laws_szIntS;exact rfl;simp only [List.map,fzl];exact rfl;exact (laws_szIntS_eq x.Hist _ (by repeat (first | assumption | apply left_rng)) f0);exact rfl;exact rfl;exact rfl) | (apply zk g_laws_szIntS;exact rfl;simp only [List.map,fzl];exact rfl;exact (laws_szIntS_eq x.Regs _ (by repeat (first | assumption | apply left_rng)) f1);exact rfl;exact rfl;exact rfl) | (apply zk g_laws_szIntSS;exact rfl;simp only [List.map,fzl];exact rfl;exact (laws_szIntSS_eq x.Rows _ (by repeat (first | assumption | apply left_rng)) f2);exact rfl;exact rfl;exact rfl) | (apply zt1;exact rfl;(with_reducible assumption)) | (apply zt0;exact rfl;(with_reducible assumption)) | (apply zt;exact rfl) | (apply zo;exact rfl;exact rfl) | apply zn | (apply zc;exact rfl) | intro _)
 all_goals (refine fin rfl ?_; unfold GSketch.bulk; grind [left, Rng])
theorem laws_szItem_eq (x : GItem) (n : Int) (hn : Rng n) (hl : x.fit) : F_laws_szItem [.st (x.cs .n), .x (iT n)] = some ⟨[.one (iT (left n x.bulk))], []⟩ := by
 have f0 := hl
 (refine fun_ev rfl ?_; show Ev m_laws_szItem.code _ _ _)
 repeat' (first | (apply zk g_laws_szSketch;exact rfl;simp only [List.map,fzl];exact rfl;exact (laws_szSketch_eq x.Sketch _ (by repeat (first | assumption | apply left_rng)) f0);exact rfl;exact rfl;exact rfl) | (apply zt1;exact rfl;(with_reducible assumption)) | (apply zt0;exact rfl;(with_reducible assumption)) | (apply zt;exact rfl) | (apply zo;exact rfl;exact rfl) | apply zn | (apply zc;exact rfl) | intro _)
 all_goals (refine fin rfl ?_; unfold GItem.bulk; grind [left, Rng])
theorem laws_szItemS_eq (l : List GItem) (n : Int) (hn : Rng n) (hl : fits GItem.fit l) : F_laws_szItemS [.x (GItem.ls .n l), .x (iT n)] = some ⟨[.one (iT (left n (bulks GItem.bulk l)))], []⟩ := by
 have hl1 := hl.1
 have e := wrap_len (f := (GItem.el .n)) hn hl.1
 (refine fun_ev rfl ?_; show Ev m_laws_szItemS.code _ _ _)
 repeat' (first | (apply zt1;exact rfl;(with_reducible assumption)) | (apply zt0;exact rfl;(with_reducible assumption)) | (apply zt;exact rfl) | (apply zo;exact rfl;exact rfl) | apply zn | (apply zc;exact rfl) | intro _)
 ·refine fin rfl ?_
  rename_i h
  have h2 := bulks_len GItem.bulk l
  rw [e] at h
  simp only [decide_eq_true_eq] at h
  rw [left, if_pos (by omega)]
 ·rename_i h
  rw [e] at h
  simp only [decide_eq_false_iff_not] at h
  show Ev _ _ _ _
  refine ev_for (fun i (x : Int) => [(0, .x (GItem.ls .n l)), (1, .x (iT x)), (5, .x (iT i))]) (fun i x => x = n - l.length - pre GItem.bulk l i /\ 0 <= x) l.length (n - l.length) ⟨by rw [pre_zero]; omega, by omega⟩ (by rw [e]; rfl) ?_
  intro i x hi1 hinv ih
  obtain ⟨hx0, hx1⟩ := hinv
  rcases Nat.lt_or_ge i l.length with hlt | hge
  ·have hx := List.getElem?_eq_getElem hlt
   generalize l[i] = y at hx
   have hc : decide ((i : Int) < (l.map (GItem.el .n)).length) = true := by simpa using hlt
   repeat' (first | (apply zi ((GItem.el .n) y);exact rfl;exact rfl;exact Int.natCast_nonneg _;exact (map_at hx);exact rfl;exact rfl) | (apply zk g_laws_szItem;exact rfl;simp only [List.map,fzl];exact rfl;exact (laws_szItem_eq y x (by unfold Rng at *; omega) (hl.2 y (List.mem_of_getElem? hx)));exact rfl;exact rfl;exact rfl) | (apply zt1;exact rfl;(with_reducible assumption)) | (apply zt0;exact rfl;(with_reducible assumption)) | (apply zt;exact rfl) | (apply zo;exact rfl;exact rfl) | apply zn | (apply zc;exact rfl) | intro _)
   ·refine fin rfl ?_
    rename_i h3
    have h4 := pre_le (f := GItem.bulk) (l := l) (i := i + 1)
    rw [pre_succ hx] at h4
    have h5 := left_fail (by unfold Rng at *; omega) h3 (Nat.le_refl _)
    unfold left at h5 ⊢
    split at h5 <;> first | (rw [if_pos (by omega)]; done) | omega
   ·rename_i h3
    have h4 := left_ok (by unfold Rng at *; omega) h3
    refine ih (x - y.bulk) hlt ⟨?_, ?_⟩ _ _ ?_
    ·rw [pre_succ hx]; omega
    ·omega
    ·rw [<- w64s (by unfold maxLen at hl1; omega), <- h4.1]; rfl
  ·have hc : decide ((i : Int) < (l.map (GItem.el .n)).length) = false := by simpa using hge
   repeat' (first | (apply zt1;exact rfl;(with_reducible assumption)) | (apply zt0;exact rfl;(with_reducible assumption)) | (apply zt;exact rfl) | (apply zo;exact rfl;exact rfl) | apply zn | (apply zc;exact rfl) | intro _)
   refine fin rfl ?_
   have h4 := pre_end (f := GItem.bulk) hge
   rw [left, if_neg (by omega)]
   simp only [hx0, RV.one.injEq, Out.mk.injEq, List.cons.injEq, T.i.injEq, and_true, true_and]
   omega
theorem laws_szSpanS_eq (l : List GSpan) (n : Int) (hn : Rng n) (hl : fits GSpan.fit l) : F_laws_szSpanS [.x (GSpan.ls .n l), .x (iT n)] = some ⟨[.one (iT (left n (l.length)))], []⟩ := by
 have e := wrap_len (f := (GSpan.el .n)) hn hl.1
 (refine fun_ev rfl ?_; show Ev m_laws_szSpanS.code _ _ _)
 repeat' (first | (apply zt1;exact rfl;(with_reducible assumption)) | (apply zt0;exact rfl;(with_reducible assumption)) | (apply zt;exact rfl) | (apply zo;exact rfl;exact rfl) | apply zn | (apply zc;exact rfl) | intro _)
 all_goals (refine fin rfl ?_; rename_i h; rw [e] at h; simp only [e, decide_eq_true_eq, decide_eq_false_iff_not] at h ⊢)
 ·rw [left, if_pos (by omega)]
 ·rw [left, if_neg (by omega)]
theorem laws_szAgent_eq (x : GAgent) (n : Int) (hn : Rng n) (hl : x.fit) : F_laws_szAgent [.st (x.cs .n), .x (iT n)] = some ⟨[.one (iT (left n x.bulk))], []⟩ := by
 obtain ⟨f0, f1⟩ := hl
 (refine fun_ev rfl ?_; show Ev m_laws_szAgent.code _ _ _)
 repeat' (first | (apply zk g_laws_szItemS;exact rfl;simp only [List.map,fzl];exact rfl;exact (laws_szItemS_eq x.Sealed _ (by repeat (first | assumption | apply left_rng)) f0);exact rfl;exact rfl;exact rfl) | (apply zk g_laws_szSpanS;exact rfl;simp only [List.map,fzl];exact rfl;exact (laws_szSpanS_eq x.Taken _ (by repeat (first | assumption | apply left_rng)) f1);exact rfl;exact rfl;exact rfl) | (apply zt1;exact rfl;(with_reducible assumption)) | (apply zt0;exact rfl;(with_reducible assumption)) | (apply zt;exact rfl) | (apply zo;exact rfl;exact rfl) | apply zn | (apply zc;exact rfl) | intro _)
 all_goals (refine fin rfl ?_; unfold GAgent.bulk; grind [left, Rng])
theorem laws_szAgentS_eq (l : List GAgent) (n : Int) (hn : Rng n) (hl : fits GAgent.fit l) : F_laws_szAgentS [.x (GAgent.ls .n l), .x (iT n)] = some ⟨[.one (iT (left n (bulks GAgent.bulk l)))], []⟩ := by
 have hl1 := hl.1
 have e := wrap_len (f := (GAgent.el .n)) hn hl.1
 (refine fun_ev rfl ?_; show Ev m_laws_szAgentS.code _ _ _)
 repeat' (first | (apply zt1;exact rfl;(with_reducible assumption)) | (apply zt0;exact rfl;(with_reducible assumption)) | (apply zt;exact rfl) | (apply zo;exact rfl;exact rfl) | apply zn | (apply zc;exact rfl) | intro _)
 ·refine fin rfl ?_
  rename_i h
  have h2 := bulks_len GAgent.bulk l
  rw [e] at h
  simp only [decide_eq_true_eq] at h
  rw [left, if_pos (by omega)]
 ·rename_i h
  rw [e] at h
  simp only [decide_eq_false_iff_not] at h
  show Ev _ _ _ _
  refine ev_for (fun i (x : Int) => [(0, .x (GAgent.ls .n l)), (1, .x (iT x)), (5, .x (iT i))]) (fun i x => x = n - l.length - pre GAgent.bulk l i /\ 0 <= x) l.length (n - l.length) ⟨by rw [pre_zero]; omega, by omega⟩ (by rw [e]; rfl) ?_
  intro i x hi1 hinv ih
  obtain ⟨hx0, hx1⟩ := hinv
  rcases Nat.lt_or_ge i l.length with hlt | hge
  ·have hx := List.getElem?_eq_getElem hlt
   generalize l[i] = y at hx
   have hc : decide ((i : Int) < (l.map (GAgent.el .n)).length) = true := by simpa using hlt
   repeat' (first | (apply zi ((GAgent.el .n) y);exact rfl;exact rfl;exact Int.natCast_nonneg _;exact (map_at hx);exact rfl;exact rfl) | (apply zk g_laws_szAgent;exact rfl;simp only [List.map,fzl];exact rfl;exact (laws_szAgent_eq y x (by unfold Rng at *; omega) (hl.2 y (List.mem_of_getElem? hx)));exact rfl;exact rfl;exact rfl) | (apply zt1;exact rfl;(with_reducible assumption)) | (apply zt0;exact rfl;(with_reducible assumption)) | (apply zt;exact rfl) | (apply zo;exact rfl;exact rfl) | apply zn | (apply zc;exact rfl) | intro _)
   ·refine fin rfl ?_
    rename_i h3
    have h4 := pre_le (f := GAgent.bulk) (l := l) (i := i + 1)
    rw [pre_succ hx] at h4
    have h5 := left_fail (by unfold Rng at *; omega) h3 (Nat.le_refl _)
    unfold left at h5 ⊢
    split at h5 <;> first | (rw [if_pos (by omega)]; done) | omega
   ·rename_i h3
    have h4 := left_ok (by unfold Rng at *; omega) h3
    refine ih (x - y.bulk) hlt ⟨?_, ?_⟩ _ _ ?_
    ·rw [pre_succ hx]; omega
    ·omega
    ·rw [<- w64s (by unfold maxLen at hl1; omega), <- h4.1]; rfl
  ·have hc : decide ((i : Int) < (l.map (GAgent.el .n)).length) = false := by simpa using hge
   repeat' (first | (apply zt1;exact rfl;(with_reducible assumption)) | (apply zt0;exact rfl;(with_reducible assumption)) | (apply zt;exact rfl) | (apply zo;exact rfl;exact rfl) | apply zn | (apply zc;exact rfl) | intro _)
   refine fin rfl ?_
   have h4 := pre_end (f := GAgent.bulk) hge
   rw [left, if_neg (by omega)]
   simp only [hx0, RV.one.injEq, Out.mk.injEq, List.cons.injEq, T.i.injEq, and_true, true_and]
   omega
theorem laws_szConf_eq (x : GConf) (n : Int) (hn : Rng n) (hl : x.fit) : F_laws_szConf [.st (x.cs .n), .x (iT n)] = some ⟨[.one (iT (left n x.bulk))], []⟩ := by
 have f0 := hl
 (refine fun_ev rfl ?_; show Ev m_laws_szConf.code _ _ _)
 repeat' (first | (apply zk g_laws_szIntS;exact rfl;simp only [List.map,fzl];exact rfl;exact (laws_szIntS_eq x.Weights _ (by repeat (first | assumption | apply left_rng)) f0);exact rfl;exact rfl;exact rfl) | (apply zt1;exact rfl;(with_reducible assumption)) | (apply zt0;exact rfl;(with_reducible assumption)) | (apply zt;exact rfl) | (apply zo;exact rfl;exact rfl) | apply zn | (apply zc;exact rfl) | intro _)
 all_goals (refine fin rfl ?_; unfold GConf.bulk; grind [left, Rng])
theorem laws_szEntry_eq (x : GEntry) (n : Int) (hn : Rng n) (hl : x.fit) : F_laws_szEntry [.st (x.cs .n), .x (iT n)] = some ⟨[.one (iT (left n x.bulk))], []⟩ := by
 obtain ⟨f0, f1⟩ := hl
 (refine fun_ev rfl ?_; show Ev m_laws_szEntry.code _ _ _)
 repeat' (first | (apply zk g_laws_szSpanS;exact rfl;simp only [List.map,fzl];exact rfl;exact (laws_szSpanS_eq x.Ids _ (by repeat (first | assumption | apply left_rng)) f0);exact rfl;exact rfl;exact rfl) | (apply zk g_laws_szSketch;exact rfl;simp only [List.map,fzl];exact rfl;exact (laws_szSketch_eq x.Sketch _ (by repeat (first | assumption | apply left_rng)) f1);exact rfl;exact rfl;exact rfl) | (apply zt1;exact rfl;(with_reducible assumption)) | (apply zt0;exact rfl;(with_reducible assumption)) | (apply zt;exact rfl) | (apply zo;exact rfl;exact rfl) | apply zn | (apply zc;exact rfl) | intro _)
 all_goals (refine fin rfl ?_; unfold GEntry.bulk; grind [left, Rng])
theorem laws_szEntryS_eq (l : List GEntry) (n : Int) (hn : Rng n) (hl : fits GEntry.fit l) : F_laws_szEntryS [.x (GEntry.ls .n l), .x (iT n)] = some ⟨[.one (iT (left n (bulks GEntry.bulk l)))], []⟩ := by
 have hl1 := hl.1
 have e := wrap_len (f := (GEntry.el .n)) hn hl.1
 (refine fun_ev rfl ?_; show Ev m_laws_szEntryS.code _ _ _)
 repeat' (first | (apply zt1;exact rfl;(with_reducible assumption)) | (apply zt0;exact rfl;(with_reducible assumption)) | (apply zt;exact rfl) | (apply zo;exact rfl;exact rfl) | apply zn | (apply zc;exact rfl) | intro _)
 ·refine fin rfl ?_
  rename_i h
  have h2 := bulks_len GEntry.bulk l
  rw [e] at h
  simp only [decide_eq_true_eq] at h
  rw [left, if_pos (by omega)]
 ·rename_i h
  rw [e] at h
  simp only [decide_eq_false_iff_not] at h
  show Ev _ _ _ _
  refine ev_for (fun i (x : Int) => [(0, .x (GEntry.ls .n l)), (1, .x (iT x)), (5, .x (iT i))]) (fun i x => x = n - l.length - pre GEntry.bulk l i /\ 0 <= x) l.length (n - l.length) ⟨by rw [pre_zero]; omega, by omega⟩ (by rw [e]; rfl) ?_
  intro i x hi1 hinv ih
  obtain ⟨hx0, hx1⟩ := hinv
  rcases Nat.lt_or_ge i l.length with hlt | hge
  ·have hx := List.getElem?_eq_getElem hlt
   generalize l[i] = y at hx
   have hc : decide ((i : Int) < (l.map (GEntry.el .n)).length) = true := by simpa using hlt
   repeat' (first | (apply zi ((GEntry.el .n) y);exact rfl;exact rfl;exact Int.natCast_nonneg _;exact (map_at hx);exact rfl;exact rfl) | (apply zk g_laws_szEntry;exact rfl;simp only [List.map,fzl];exact rfl;exact (laws_szEntry_eq y x (by unfold Rng at *; omega) (hl.2 y (List.mem_of_getElem? hx)));exact rfl;exact rfl;exact rfl) | (apply zt1;exact rfl;(with_reducible assumption)) | (apply zt0;exact rfl;(with_reducible assumption)) | (apply zt;exact rfl) | (apply zo;exact rfl;exact rfl) | apply zn | (apply zc;exact rfl) | intro _)
   ·refine fin rfl ?_
    rename_i h3
    have h4 := pre_le (f := GEntry.bulk) (l := l) (i := i + 1)
    rw [pre_succ hx] at h4
    have h5 := left_fail (by unfold Rng at *; omega) h3 (Nat.le_refl _)
    unfold left at h5 ⊢
    split at h5 <;> first | (rw [if_pos (by omega)]; done) | omega
   ·rename_i h3
    have h4 := left_ok (by unfold Rng at *; omega) h3
    refine ih (x - y.bulk) hlt ⟨?_, ?_⟩ _ _ ?_
    ·rw [pre_succ hx]; omega
    ·omega
    ·rw [<- w64s (by unfold maxLen at hl1; omega), <- h4.1]; rfl
  ·have hc : decide ((i : Int) < (l.map (GEntry.el .n)).length) = false := by simpa using hge
   repeat' (first | (apply zt1;exact rfl;(with_reducible assumption)) | (apply zt0;exact rfl;(with_reducible assumption)) | (apply zt;exact rfl) | (apply zo;exact rfl;exact rfl) | apply zn | (apply zc;exact rfl) | intro _)
   refine fin rfl ?_
   have h4 := pre_end (f := GEntry.bulk) hge
   rw [left, if_neg (by omega)]
   simp only [hx0, RV.one.injEq, Out.mk.injEq, List.cons.injEq, T.i.injEq, and_true, true_and]
   omega
theorem laws_szOut_eq (x : GOut) (n : Int) (hn : Rng n) (hl : x.fit) : F_laws_szOut [.st (x.cs .n), .x (iT n)] = some ⟨[.one (iT (left n x.bulk))], []⟩ := by
 have f0 := hl
 (refine fun_ev rfl ?_; show Ev m_laws_szOut.code _ _ _)
 repeat' (first | (apply zk g_laws_szEntry;exact rfl;simp only [List.map,fzl];exact rfl;exact (laws_szEntry_eq x.Entry _ (by repeat (first | assumption | apply left_rng)) f0);exact rfl;exact rfl;exact rfl) | (apply zt1;exact rfl;(with_reducible assumption)) | (apply zt0;exact rfl;(with_reducible assumption)) | (apply zt;exact rfl) | (apply zo;exact rfl;exact rfl) | apply zn | (apply zc;exact rfl) | intro _)
 all_goals (refine fin rfl ?_; unfold GOut.bulk; grind [left, Rng])
theorem laws_szOutS_eq (l : List GOut) (n : Int) (hn : Rng n) (hl : fits GOut.fit l) : F_laws_szOutS [.x (GOut.ls .n l), .x (iT n)] = some ⟨[.one (iT (left n (bulks GOut.bulk l)))], []⟩ := by
 have hl1 := hl.1
 have e := wrap_len (f := (GOut.el .n)) hn hl.1
 (refine fun_ev rfl ?_; show Ev m_laws_szOutS.code _ _ _)
 repeat' (first | (apply zt1;exact rfl;(with_reducible assumption)) | (apply zt0;exact rfl;(with_reducible assumption)) | (apply zt;exact rfl) | (apply zo;exact rfl;exact rfl) | apply zn | (apply zc;exact rfl) | intro _)
 ·refine fin rfl ?_
  rename_i h
  have h2 := bulks_len GOut.bulk l
  rw [e] at h
  simp only [decide_eq_true_eq] at h
  rw [left, if_pos (by omega)]
 ·rename_i h
  rw [e] at h
  simp only [decide_eq_false_iff_not] at h
  show Ev _ _ _ _
  refine ev_for (fun i (x : Int) => [(0, .x (GOut.ls .n l)), (1, .x (iT x)), (5, .x (iT i))]) (fun i x => x = n - l.length - pre GOut.bulk l i /\ 0 <= x) l.length (n - l.length) ⟨by rw [pre_zero]; omega, by omega⟩ (by rw [e]; rfl) ?_
  intro i x hi1 hinv ih
  obtain ⟨hx0, hx1⟩ := hinv
  rcases Nat.lt_or_ge i l.length with hlt | hge
  ·have hx := List.getElem?_eq_getElem hlt
   generalize l[i] = y at hx
   have hc : decide ((i : Int) < (l.map (GOut.el .n)).length) = true := by simpa using hlt
   repeat' (first | (apply zi ((GOut.el .n) y);exact rfl;exact rfl;exact Int.natCast_nonneg _;exact (map_at hx);exact rfl;exact rfl) | (apply zk g_laws_szOut;exact rfl;simp only [List.map,fzl];exact rfl;exact (laws_szOut_eq y x (by unfold Rng at *; omega) (hl.2 y (List.mem_of_getElem? hx)));exact rfl;exact rfl;exact rfl) | (apply zt1;exact rfl;(with_reducible assumption)) | (apply zt0;exact rfl;(with_reducible assumption)) | (apply zt;exact rfl) | (apply zo;exact rfl;exact rfl) | apply zn | (apply zc;exact rfl) | intro _)
   ·refine fin rfl ?_
    rename_i h3
    have h4 := pre_le (f := GOut.bulk) (l := l) (i := i + 1)
    rw [pre_succ hx] at h4
    have h5 := left_fail (by unfold Rng at *; omega) h3 (Nat.le_refl _)
    unfold left at h5 ⊢
    split at h5 <;> first | (rw [if_pos (by omega)]; done) | omega
   ·rename_i h3
    have h4 := left_ok (by unfold Rng at *; omega) h3
    refine ih (x - y.bulk) hlt ⟨?_, ?_⟩ _ _ ?_
    ·rw [pre_succ hx]; omega
    ·omega
    ·rw [<- w64s (by unfold maxLen at hl1; omega), <- h4.1]; rfl
  ·have hc : decide ((i : Int) < (l.map (GOut.el .n)).length) = false := by simpa using hge
   repeat' (first | (apply zt1;exact rfl;(with_reducible assumption)) | (apply zt0;exact rfl;(with_reducible assumption)) | (apply zt;exact rfl) | (apply zo;exact rfl;exact rfl) | apply zn | (apply zc;exact rfl) | intro _)
   refine fin rfl ?_
   have h4 := pre_end (f := GOut.bulk) hge
   rw [left, if_neg (by omega)]
   simp only [hx0, RV.one.injEq, Out.mk.injEq, List.cons.injEq, T.i.injEq, and_true, true_and]
   omega
theorem laws_szRow_eq (x : GRow) (n : Int) (hn : Rng n) (hl : x.fit) : F_laws_szRow [.st (x.cs .n), .x (iT n)] = some ⟨[.one (iT (left n x.bulk))], []⟩ := by
 have f0 := hl
 (refine fun_ev rfl ?_; show Ev m_laws_szRow.code _ _ _)
 repeat' (first | (apply zk g_laws_szEntryS;exact rfl;simp only [List.map,fzl];exact rfl;exact (laws_szEntryS_eq x.Lst _ (by repeat (first | assumption | apply left_rng)) f0);exact rfl;exact rfl;exact rfl) | (apply zt1;exact rfl;(with_reducible assumption)) | (apply zt0;exact rfl;(with_reducible assumption)) | (apply zt;exact rfl) | (apply zo;exact rfl;exact rfl) | apply zn | (apply zc;exact rfl) | intro _)
 all_goals (refine fin rfl ?_; unfold GRow.bulk; grind [left, Rng])
theorem laws_szRowS_eq (l : List GRow) (n : Int) (hn : Rng n) (hl : fits GRow.fit l) : F_laws_szRowS [.x (GRow.ls .n l), .x (iT n)] = some ⟨[.one (iT (left n (bulks GRow.bulk l)))], []⟩ := by
 have hl1 := hl.1
 have e := wrap_len (f := (GRow.el .n)) hn hl.1
 (refine fun_ev rfl ?_; show Ev m_laws_szRowS.code _ _ _)
 repeat' (first | (apply zt1;exact rfl;(with_reducible assumption)) | (apply zt0;exact rfl;(with_reducible assumption)) | (apply zt;exact rfl) | (apply zo;exact rfl;exact rfl) | apply zn | (apply zc;exact rfl) | intro _)
 ·refine fin rfl ?_
  rename_i h
  have h2 := bulks_len GRow.bulk l
  rw [e] at h
  simp only [decide_eq_true_eq] at h
  rw [left, if_pos (by omega)]
 ·rename_i h
  rw [e] at h
  simp only [decide_eq_false_iff_not] at h
  show Ev _ _ _ _
  refine ev_for (fun i (x : Int) => [(0, .x (GRow.ls .n l)), (1, .x (iT x)), (5, .x (iT i))]) (fun i x => x = n - l.length - pre GRow.bulk l i /\ 0 <= x) l.length (n - l.length) ⟨by rw [pre_zero]; omega, by omega⟩ (by rw [e]; rfl) ?_
  intro i x hi1 hinv ih
  obtain ⟨hx0, hx1⟩ := hinv
  rcases Nat.lt_or_ge i l.length with hlt | hge
  ·have hx := List.getElem?_eq_getElem hlt
   generalize l[i] = y at hx
   have hc : decide ((i : Int) < (l.map (GRow.el .n)).length) = true := by simpa using hlt
   repeat' (first | (apply zi ((GRow.el .n) y);exact rfl;exact rfl;exact Int.natCast_nonneg _;exact (map_at hx);exact rfl;exact rfl) | (apply zk g_laws_szRow;exact rfl;simp only [List.map,fzl];exact rfl;exact (laws_szRow_eq y x (by unfold Rng at *; omega) (hl.2 y (List.mem_of_getElem? hx)));exact rfl;exact rfl;exact rfl) | (apply zt1;exact rfl;(with_reducible assumption)) | (apply zt0;exact rfl;(with_reducible assumption)) | (apply zt;exact rfl) | (apply zo;exact rfl;exact rfl) | apply zn | (apply zc;exact rfl) | intro _)
   ·refine fin rfl ?_
    rename_i h3
    have h4 := pre_le (f := GRow.bulk) (l := l) (i := i + 1)
    rw [pre_succ hx] at h4
    have h5 := left_fail (by unfold Rng at *; omega) h3 (Nat.le_refl _)
    unfold left at h5 ⊢
    split at h5 <;> first | (rw [if_pos (by omega)]; done) | omega
   ·rename_i h3
    have h4 := left_ok (by unfold Rng at *; omega) h3
    refine ih (x - y.bulk) hlt ⟨?_, ?_⟩ _ _ ?_
    ·rw [pre_succ hx]; omega
    ·omega
    ·rw [<- w64s (by unfold maxLen at hl1; omega), <- h4.1]; rfl
  ·have hc : decide ((i : Int) < (l.map (GRow.el .n)).length) = false := by simpa using hge
   repeat' (first | (apply zt1;exact rfl;(with_reducible assumption)) | (apply zt0;exact rfl;(with_reducible assumption)) | (apply zt;exact rfl) | (apply zo;exact rfl;exact rfl) | apply zn | (apply zc;exact rfl) | intro _)
   refine fin rfl ?_
   have h4 := pre_end (f := GRow.bulk) hge
   rw [left, if_neg (by omega)]
   simp only [hx0, RV.one.injEq, Out.mk.injEq, List.cons.injEq, T.i.injEq, and_true, true_and]
   omega
theorem laws_szRowSS_eq (l : List (List GRow)) (n : Int) (hn : Rng n) (hl : fits (fits GRow.fit) l) : F_laws_szRowSS [.x (GRow.lss .n l), .x (iT n)] = some ⟨[.one (iT (left n (bulks (bulks GRow.bulk) l)))], []⟩ := by
 have hl1 := hl.1
 have e := wrap_len (f := (GRow.ls .n)) hn hl.1
 (refine fun_ev rfl ?_; show Ev m_laws_szRowSS.code _ _ _)
 repeat' (first | (apply zt1;exact rfl;(with_reducible assumption)) | (apply zt0;exact rfl;(with_reducible assumption)) | (apply zt;exact rfl) | (apply zo;exact rfl;exact rfl) | apply zn | (apply zc;exact rfl) | intro _)
 ·refine fin rfl ?_
  rename_i h
  have h2 := bulks_len (bulks GRow.bulk) l
  rw [e] at h
  simp only [decide_eq_true_eq] at h
  rw [left, if_pos (by omega)]
 ·rename_i h
  rw [e] at h
  simp only [decide_eq_false_iff_not] at h
  show Ev _ _ _ _
  refine ev_for (fun i (x : Int) => [(0, .x (GRow.lss .n l)), (1, .x (iT x)), (5, .x (iT i))]) (fun i x => x = n - l.length - pre (bulks GRow.bulk) l i /\ 0 <= x) l.length (n - l.length) ⟨by rw [pre_zero]; omega, by omega⟩ (by rw [e]; rfl) ?_
  intro i x hi1 hinv ih
  obtain ⟨hx0, hx1⟩ := hinv
  rcases Nat.lt_or_ge i l.length with hlt | hge
  ·have hx := List.getElem?_eq_getElem hlt
   generalize l[i] = y at hx
   have hc : decide ((i : Int) < (l.map (GRow.ls .n)).length) = true := by simpa using hlt
   repeat' (first | (apply zi ((GRow.ls .n) y);exact rfl;exact rfl;exact Int.natCast_nonneg _;exact (map_at hx);exact rfl;exact rfl) | (apply zk g_laws_szRowS;exact rfl;simp only [List.map,fzl];exact rfl;exact (laws_szRowS_eq y x (by unfold Rng at *; omega) (hl.2 y (List.mem_of_getElem? hx)));exact rfl;exact rfl;exact rfl) | (apply zt1;exact rfl;(with_reducible assumption)) | (apply zt0;exact rfl;(with_reducible assumption)) | (apply zt;exact rfl) | (apply zo;exact rfl;exact rfl) | apply zn | (apply zc;exact rfl) | intro _)
   ·refine fin rfl ?_
    rename_i h3
    have h4 := pre_le (f := (bulks GRow.bulk)) (l := l) (i := i + 1)
    rw [pre_succ hx] at h4
    have h5 := left_fail (by unfold Rng at *; omega) h3 (Nat.le_refl _)
    unfold left at h5 ⊢
    split at h5 <;> first | (rw [if_pos (by omega)]; done) | omega
   ·rename_i h3
    have h4 := left_ok (by unfold Rng at *; omega) h3
    refine ih (x - bulks GRow.bulk y) hlt ⟨?_, ?_⟩ _ _ ?_
    ·rw [pre_succ hx]; omega
    ·omega
    ·rw [<- w64s (by unfold maxLen at hl1; omega), <- h4.1]; rfl
  ·have hc : decide ((i : Int) < (l.map (GRow.ls .n)).length) = false := by simpa using hge
   repeat' (first | (apply zt1;exact rfl;(with_reducible assumption)) | (apply zt0;exact rfl;(with_reducible assumption)) | (apply zt;exact rfl) | (apply zo;exact rfl;exact rfl) | apply zn | (apply zc;exact rfl) | intro _)
   refine fin rfl ?_
   have h4 := pre_end (f := (bulks GRow.bulk)) hge
   rw [left, if_neg (by omega)]
   simp only [hx0, RV.one.injEq, Out.mk.injEq, List.cons.injEq, T.i.injEq, and_true, true_and]
   omega
theorem laws_szSeat_eq (x : GSeat) (n : Int) (hn : Rng n) (hl : x.fit) : F_laws_szSeat [.st (x.cs .n), .x (iT n)] = some ⟨[.one (iT (left n x.bulk))], []⟩ := by
 have f0 := hl
 (refine fun_ev rfl ?_; show Ev m_laws_szSeat.code _ _ _)
 repeat' (first | (apply zk g_laws_szSpanS;exact rfl;simp only [List.map,fzl];exact rfl;exact (laws_szSpanS_eq x.Taken _ (by repeat (first | assumption | apply left_rng)) f0);exact rfl;exact rfl;exact rfl) | (apply zt1;exact rfl;(with_reducible assumption)) | (apply zt0;exact rfl;(with_reducible assumption)) | (apply zt;exact rfl) | (apply zo;exact rfl;exact rfl) | apply zn | (apply zc;exact rfl) | intro _)
 all_goals (refine fin rfl ?_; unfold GSeat.bulk; grind [left, Rng])
theorem laws_szSeatS_eq (l : List GSeat) (n : Int) (hn : Rng n) (hl : fits GSeat.fit l) : F_laws_szSeatS [.x (GSeat.ls .n l), .x (iT n)] = some ⟨[.one (iT (left n (bulks GSeat.bulk l)))], []⟩ := by
 have hl1 := hl.1
 have e := wrap_len (f := (GSeat.el .n)) hn hl.1
 (refine fun_ev rfl ?_; show Ev m_laws_szSeatS.code _ _ _)
 repeat' (first | (apply zt1;exact rfl;(with_reducible assumption)) | (apply zt0;exact rfl;(with_reducible assumption)) | (apply zt;exact rfl) | (apply zo;exact rfl;exact rfl) | apply zn | (apply zc;exact rfl) | intro _)
 ·refine fin rfl ?_
  rename_i h
  have h2 := bulks_len GSeat.bulk l
  rw [e] at h
  simp only [decide_eq_true_eq] at h
  rw [left, if_pos (by omega)]
 ·rename_i h
  rw [e] at h
  simp only [decide_eq_false_iff_not] at h
  show Ev _ _ _ _
  refine ev_for (fun i (x : Int) => [(0, .x (GSeat.ls .n l)), (1, .x (iT x)), (5, .x (iT i))]) (fun i x => x = n - l.length - pre GSeat.bulk l i /\ 0 <= x) l.length (n - l.length) ⟨by rw [pre_zero]; omega, by omega⟩ (by rw [e]; rfl) ?_
  intro i x hi1 hinv ih
  obtain ⟨hx0, hx1⟩ := hinv
  rcases Nat.lt_or_ge i l.length with hlt | hge
  ·have hx := List.getElem?_eq_getElem hlt
   generalize l[i] = y at hx
   have hc : decide ((i : Int) < (l.map (GSeat.el .n)).length) = true := by simpa using hlt
   repeat' (first | (apply zi ((GSeat.el .n) y);exact rfl;exact rfl;exact Int.natCast_nonneg _;exact (map_at hx);exact rfl;exact rfl) | (apply zk g_laws_szSeat;exact rfl;simp only [List.map,fzl];exact rfl;exact (laws_szSeat_eq y x (by unfold Rng at *; omega) (hl.2 y (List.mem_of_getElem? hx)));exact rfl;exact rfl;exact rfl) | (apply zt1;exact rfl;(with_reducible assumption)) | (apply zt0;exact rfl;(with_reducible assumption)) | (apply zt;exact rfl) | (apply zo;exact rfl;exact rfl) | apply zn | (apply zc;exact rfl) | intro _)
   ·refine fin rfl ?_
    rename_i h3
    have h4 := pre_le (f := GSeat.bulk) (l := l) (i := i + 1)
    rw [pre_succ hx] at h4
    have h5 := left_fail (by unfold Rng at *; omega) h3 (Nat.le_refl _)
    unfold left at h5 ⊢
    split at h5 <;> first | (rw [if_pos (by omega)]; done) | omega
   ·rename_i h3
    have h4 := left_ok (by unfold Rng at *; omega) h3
    refine ih (x - y.bulk) hlt ⟨?_, ?_⟩ _ _ ?_
    ·rw [pre_succ hx]; omega
    ·omega
    ·rw [<- w64s (by unfold maxLen at hl1; omega), <- h4.1]; rfl
  ·have hc : decide ((i : Int) < (l.map (GSeat.el .n)).length) = false := by simpa using hge
   repeat' (first | (apply zt1;exact rfl;(with_reducible assumption)) | (apply zt0;exact rfl;(with_reducible assumption)) | (apply zt;exact rfl) | (apply zo;exact rfl;exact rfl) | apply zn | (apply zc;exact rfl) | intro _)
   refine fin rfl ?_
   have h4 := pre_end (f := GSeat.bulk) hge
   rw [left, if_neg (by omega)]
   simp only [hx0, RV.one.injEq, Out.mk.injEq, List.cons.injEq, T.i.injEq, and_true, true_and]
   omega
theorem laws_szTurn_eq (x : GTurn) (n : Int) (hn : Rng n) (hl : x.fit) : F_laws_szTurn [.st (x.cs .n), .x (iT n)] = some ⟨[.one (iT (left n x.bulk))], []⟩ := by
 have f0 := hl
 (refine fun_ev rfl ?_; show Ev m_laws_szTurn.code _ _ _)
 repeat' (first | (apply zk g_laws_szIntS;exact rfl;simp only [List.map,fzl];exact rfl;exact (laws_szIntS_eq x.Left _ (by repeat (first | assumption | apply left_rng)) f0);exact rfl;exact rfl;exact rfl) | (apply zt1;exact rfl;(with_reducible assumption)) | (apply zt0;exact rfl;(with_reducible assumption)) | (apply zt;exact rfl) | (apply zo;exact rfl;exact rfl) | apply zn | (apply zc;exact rfl) | intro _)
 all_goals (refine fin rfl ?_; unfold GTurn.bulk; grind [left, Rng])
theorem laws_szTurnS_eq (l : List GTurn) (n : Int) (hn : Rng n) (hl : fits GTurn.fit l) : F_laws_szTurnS [.x (GTurn.ls .n l), .x (iT n)] = some ⟨[.one (iT (left n (bulks GTurn.bulk l)))], []⟩ := by
 have hl1 := hl.1
 have e := wrap_len (f := (GTurn.el .n)) hn hl.1
 (refine fun_ev rfl ?_; show Ev m_laws_szTurnS.code _ _ _)
 repeat' (first | (apply zt1;exact rfl;(with_reducible assumption)) | (apply zt0;exact rfl;(with_reducible assumption)) | (apply zt;exact rfl) | (apply zo;exact rfl;exact rfl) | apply zn | (apply zc;exact rfl) | intro _)
 ·refine fin rfl ?_
  rename_i h
  have h2 := bulks_len GTurn.bulk l
  rw [e] at h
  simp only [decide_eq_true_eq] at h
  rw [left, if_pos (by omega)]
 ·rename_i h
  rw [e] at h
  simp only [decide_eq_false_iff_not] at h
  show Ev _ _ _ _
  refine ev_for (fun i (x : Int) => [(0, .x (GTurn.ls .n l)), (1, .x (iT x)), (5, .x (iT i))]) (fun i x => x = n - l.length - pre GTurn.bulk l i /\ 0 <= x) l.length (n - l.length) ⟨by rw [pre_zero]; omega, by omega⟩ (by rw [e]; rfl) ?_
  intro i x hi1 hinv ih
  obtain ⟨hx0, hx1⟩ := hinv
  rcases Nat.lt_or_ge i l.length with hlt | hge
  ·have hx := List.getElem?_eq_getElem hlt
   generalize l[i] = y at hx
   have hc : decide ((i : Int) < (l.map (GTurn.el .n)).length) = true := by simpa using hlt
   repeat' (first | (apply zi ((GTurn.el .n) y);exact rfl;exact rfl;exact Int.natCast_nonneg _;exact (map_at hx);exact rfl;exact rfl) | (apply zk g_laws_szTurn;exact rfl;simp only [List.map,fzl];exact rfl;exact (laws_szTurn_eq y x (by unfold Rng at *; omega) (hl.2 y (List.mem_of_getElem? hx)));exact rfl;exact rfl;exact rfl) | (apply zt1;exact rfl;(with_reducible assumption)) | (apply zt0;exact rfl;(with_reducible assumption)) | (apply zt;exact rfl) | (apply zo;exact rfl;exact rfl) | apply zn | (apply zc;exact rfl) | intro _)
   ·refine fin rfl ?_
    rename_i h3
    have h4 := pre_le (f := GTurn.bulk) (l := l) (i := i + 1)
    rw [pre_succ hx] at h4
    have h5 := left_fail (by unfold Rng at *; omega) h3 (Nat.le_refl _)
    unfold left at h5 ⊢
    split at h5 <;> first | (rw [if_pos (by omega)]; done) | omega
   ·rename_i h3
    have h4 := left_ok (by unfold Rng at *; omega) h3
    refine ih (x - y.bulk) hlt ⟨?_, ?_⟩ _ _ ?_
    ·rw [pre_succ hx]; omega
    ·omega
    ·rw [<- w64s (by unfold maxLen at hl1; omega), <- h4.1]; rfl
  ·have hc : decide ((i : Int) < (l.map (GTurn.el .n)).length) = false := by simpa using hge
   repeat' (first | (apply zt1;exact rfl;(with_reducible assumption)) | (apply zt0;exact rfl;(with_reducible assumption)) | (apply zt;exact rfl) | (apply zo;exact rfl;exact rfl) | apply zn | (apply zc;exact rfl) | intro _)
   refine fin rfl ?_
   have h4 := pre_end (f := GTurn.bulk) hge
   rw [left, if_neg (by omega)]
   simp only [hx0, RV.one.injEq, Out.mk.injEq, List.cons.injEq, T.i.injEq, and_true, true_and]
   omega
theorem laws_szHouse_eq (x : GHouse) (n : Int) (hn : Rng n) (hl : x.fit) : F_laws_szHouse [.st (x.cs .n), .x (iT n)] = some ⟨[.one (iT (left n x.bulk))], []⟩ := by
 obtain ⟨f0, f1, f2, f3, f4, f5⟩ := hl
 (refine fun_ev rfl ?_; show Ev m_laws_szHouse.code _ _ _)
 repeat' (first | (apply zk g_laws_szConf;exact rfl;simp only [List.map,fzl];exact rfl;exact (laws_szConf_eq x.Conf _ (by repeat (first | assumption | apply left_rng)) f0);exact rfl;exact rfl;exact rfl) | (apply zk g_laws_szSeatS;exact rfl;simp only [List.map,fzl];exact rfl;exact (laws_szSeatS_eq x.Seats _ (by repeat (first | assumption | apply left_rng)) f1);exact rfl;exact rfl;exact rfl) | (apply zk g_laws_szRowSS;exact rfl;simp only [List.map,fzl];exact rfl;exact (laws_szRowSS_eq x.Rows _ (by repeat (first | assumption | apply left_rng)) f2);exact rfl;exact rfl;exact rfl) | (apply zk g_laws_szTurnS;exact rfl;simp only [List.map,fzl];exact rfl;exact (laws_szTurnS_eq x.Turns _ (by repeat (first | assumption | apply left_rng)) f3);exact rfl;exact rfl;exact rfl) | (apply zk g_laws_szEntryS;exact rfl;simp only [List.map,fzl];exact rfl;exact (laws_szEntryS_eq x.Root _ (by repeat (first | assumption | apply left_rng)) f4);exact rfl;exact rfl;exact rfl) | (apply zk g_laws_szOutS;exact rfl;simp only [List.map,fzl];exact rfl;exact (laws_szOutS_eq x.Outs _ (by repeat (first | assumption | apply left_rng)) f5);exact rfl;exact rfl;exact rfl) | (apply zt1;exact rfl;(with_reducible assumption)) | (apply zt0;exact rfl;(with_reducible assumption)) | (apply zt;exact rfl) | (apply zo;exact rfl;exact rfl) | apply zn | (apply zc;exact rfl) | intro _)
 all_goals (refine fin rfl ?_; unfold GHouse.bulk; grind [left, Rng])
theorem laws_szByteS_eq (l : List UInt8) (n : Int) (hn : Rng n) (hl : l.length <= maxLen) : F_laws_szByteS [.x (bytes .n l), .x (iT n)] = some ⟨[.one (iT (left n (l.length)))], []⟩ := by
 have e := wrap_len (f := iB) hn hl
 (refine fun_ev rfl ?_; show Ev m_laws_szByteS.code _ _ _)
 repeat' (first | (apply zt1;exact rfl;(with_reducible assumption)) | (apply zt0;exact rfl;(with_reducible assumption)) | (apply zt;exact rfl) | (apply zo;exact rfl;exact rfl) | apply zn | (apply zc;exact rfl) | intro _)
 all_goals (refine fin rfl ?_; rename_i h; rw [e] at h; simp only [e, decide_eq_true_eq, decide_eq_false_iff_not] at h ⊢)
 ·rw [left, if_pos (by omega)]
 ·rw [left, if_neg (by omega)]
theorem laws_szPack_eq (x : GPack) (n : Int) (hn : Rng n) (hl : x.fit) : F_laws_szPack [.st (x.cs .n), .x (iT n)] = some ⟨[.one (iT (left n x.bulk))], []⟩ := by
 have f0 := hl
 (refine fun_ev rfl ?_; show Ev m_laws_szPack.code _ _ _)
 repeat' (first | (apply zk g_laws_szByteS;exact rfl;simp only [List.map,fzl];exact rfl;exact (laws_szByteS_eq x.Bytes _ (by repeat (first | assumption | apply left_rng)) f0);exact rfl;exact rfl;exact rfl) | (apply zt1;exact rfl;(with_reducible assumption)) | (apply zt0;exact rfl;(with_reducible assumption)) | (apply zt;exact rfl) | (apply zo;exact rfl;exact rfl) | apply zn | (apply zc;exact rfl) | intro _)
 all_goals (refine fin rfl ?_; unfold GPack.bulk; grind [left, Rng])
theorem laws_szPackS_eq (l : List GPack) (n : Int) (hn : Rng n) (hl : fits GPack.fit l) : F_laws_szPackS [.x (GPack.ls .n l), .x (iT n)] = some ⟨[.one (iT (left n (bulks GPack.bulk l)))], []⟩ := by
 have hl1 := hl.1
 have e := wrap_len (f := (GPack.el .n)) hn hl.1
 (refine fun_ev rfl ?_; show Ev m_laws_szPackS.code _ _ _)
 repeat' (first | (apply zt1;exact rfl;(with_reducible assumption)) | (apply zt0;exact rfl;(with_reducible assumption)) | (apply zt;exact rfl) | (apply zo;exact rfl;exact rfl) | apply zn | (apply zc;exact rfl) | intro _)
 ·refine fin rfl ?_
  rename_i h
  have h2 := bulks_len GPack.bulk l
  rw [e] at h
  simp only [decide_eq_true_eq] at h
  rw [left, if_pos (by omega)]
 ·rename_i h
  rw [e] at h
  simp only [decide_eq_false_iff_not] at h
  show Ev _ _ _ _
  refine ev_for (fun i (x : Int) => [(0, .x (GPack.ls .n l)), (1, .x (iT x)), (5, .x (iT i))]) (fun i x => x = n - l.length - pre GPack.bulk l i /\ 0 <= x) l.length (n - l.length) ⟨by rw [pre_zero]; omega, by omega⟩ (by rw [e]; rfl) ?_
  intro i x hi1 hinv ih
  obtain ⟨hx0, hx1⟩ := hinv
  rcases Nat.lt_or_ge i l.length with hlt | hge
  ·have hx := List.getElem?_eq_getElem hlt
   generalize l[i] = y at hx
   have hc : decide ((i : Int) < (l.map (GPack.el .n)).length) = true := by simpa using hlt
   repeat' (first | (apply zi ((GPack.el .n) y);exact rfl;exact rfl;exact Int.natCast_nonneg _;exact (map_at hx);exact rfl;exact rfl) | (apply zk g_laws_szPack;exact rfl;simp only [List.map,fzl];exact rfl;exact (laws_szPack_eq y x (by unfold Rng at *; omega) (hl.2 y (List.mem_of_getElem? hx)));exact rfl;exact rfl;exact rfl) | (apply zt1;exact rfl;(with_reducible assumption)) | (apply zt0;exact rfl;(with_reducible assumption)) | (apply zt;exact rfl) | (apply zo;exact rfl;exact rfl) | apply zn | (apply zc;exact rfl) | intro _)
   ·refine fin rfl ?_
    rename_i h3
    have h4 := pre_le (f := GPack.bulk) (l := l) (i := i + 1)
    rw [pre_succ hx] at h4
    have h5 := left_fail (by unfold Rng at *; omega) h3 (Nat.le_refl _)
    unfold left at h5 ⊢
    split at h5 <;> first | (rw [if_pos (by omega)]; done) | omega
   ·rename_i h3
    have h4 := left_ok (by unfold Rng at *; omega) h3
    refine ih (x - y.bulk) hlt ⟨?_, ?_⟩ _ _ ?_
    ·rw [pre_succ hx]; omega
    ·omega
    ·rw [<- w64s (by unfold maxLen at hl1; omega), <- h4.1]; rfl
  ·have hc : decide ((i : Int) < (l.map (GPack.el .n)).length) = false := by simpa using hge
   repeat' (first | (apply zt1;exact rfl;(with_reducible assumption)) | (apply zt0;exact rfl;(with_reducible assumption)) | (apply zt;exact rfl) | (apply zo;exact rfl;exact rfl) | apply zn | (apply zc;exact rfl) | intro _)
   refine fin rfl ?_
   have h4 := pre_end (f := GPack.bulk) hge
   rw [left, if_neg (by omega)]
   simp only [hx0, RV.one.injEq, Out.mk.injEq, List.cons.injEq, T.i.injEq, and_true, true_and]
   omega
theorem laws_szWorld_eq (x : GWorld) (n : Int) (hn : Rng n) (hl : x.fit) : F_laws_szWorld [.st (x.cs .n), .x (iT n)] = some ⟨[.one (iT (left n x.bulk))], []⟩ := by
 obtain ⟨f0, f1, f2⟩ := hl
 (refine fun_ev rfl ?_; show Ev m_laws_szWorld.code _ _ _)
 repeat' (first | (apply zk g_laws_szAgentS;exact rfl;simp only [List.map,fzl];exact rfl;exact (laws_szAgentS_eq x.Agents _ (by repeat (first | assumption | apply left_rng)) f0);exact rfl;exact rfl;exact rfl) | (apply zk g_laws_szHouse;exact rfl;simp only [List.map,fzl];exact rfl;exact (laws_szHouse_eq x.House _ (by repeat (first | assumption | apply left_rng)) f1);exact rfl;exact rfl;exact rfl) | (apply zk g_laws_szPackS;exact rfl;simp only [List.map,fzl];exact rfl;exact (laws_szPackS_eq x.Net _ (by repeat (first | assumption | apply left_rng)) f2);exact rfl;exact rfl;exact rfl) | (apply zt1;exact rfl;(with_reducible assumption)) | (apply zt0;exact rfl;(with_reducible assumption)) | (apply zt;exact rfl) | (apply zo;exact rfl;exact rfl) | apply zn | (apply zc;exact rfl) | intro _)
 all_goals (refine fin rfl ?_; unfold GWorld.bulk; grind [left, Rng])
end Go.Wr
namespace Go.Wr
set_option linter.unusedVariables false
set_option linter.unusedSimpArgs false
set_option linter.unnecessarySimpa false
set_option maxRecDepth 20000
theorem laws_toIntS_eq (l : List Int) (hl : l.length <= 1048576) : F_laws_toIntS [.x (ints .n l)] = some ⟨[.one (ints .y l)], []⟩ := by
 have hl1 := Nat.le_refl l.length
 (refine fun_ev rfl ?_; show Ev m_laws_toIntS.code _ _ _)
 repeat' (first | (apply zs;(iterate 3 exact rfl);exact (Int.natCast_nonneg _);exact (by simp [lenMax] <;> omega);exact rfl;exact rfl) | (apply zt1;exact rfl;(with_reducible assumption)) | (apply zt0;exact rfl;(with_reducible assumption)) | (apply zt;exact rfl) | (apply zo;exact rfl;exact rfl) | apply zn | (apply zc;exact rfl) | intro _)
 show Ev _ _ _ _
 refine ev_for (fun i (_ : Unit) => [(0, .x (ints .n l)), (3, .own ⟨0, 0, 0⟩ (.l .y 1 (fil iT (iT 0) l i))), (4, .x (iT i))]) (fun i _ => True) l.length () trivial (by rw [fil_zero, <- List.length_map iT]; rfl) ?_
 intro i _ hi1 _ ih
 rcases Nat.lt_or_ge i l.length with hlt | hge
 ·have hx := List.getElem?_eq_getElem hlt
  generalize l[i] = x at hx
  have hc : decide ((i : Int) < (l.map iT).length) = true := by simpa using hlt
  have hg := fil_get iT (iT 0) l hlt
  repeat' (first | (apply zi (iT x);exact rfl;exact rfl;exact Int.natCast_nonneg _;exact (map_at hx);exact rfl;exact rfl) | (apply zw;exact rfl;exact rfl;exact Int.natCast_nonneg _;exact (by rw [fil_len iT (iT 0) l hi1]; omega);exact rfl;exact rfl) | (apply zS ((iT 0)) (.l .y 1 (fil iT (iT 0) l (i + 1)));(iterate 4 exact rfl);exact (by simp [T.nav, T.kid, hg]);exact (by simp [T.mine, Ob.own, hg]);exact rfl;exact (by simp [T.put, T.kid, T.setKid, T.cells, T.ofCells, splice, hg, <- fil_set iT (iT 0) l hx]);(iterate 3 exact rfl)) | (apply zt1;exact rfl;(with_reducible assumption)) | (apply zt0;exact rfl;(with_reducible assumption)) | (apply zt;exact rfl) | (apply zo;exact rfl;exact rfl) | apply zn | (apply zc;exact rfl) | intro _)
  refine ih () hlt trivial _ _ ?_
  rw [<- w64s (by omega)]; rfl
 ·have hc : decide ((i : Int) < (l.map iT).length) = false := by simpa using hge
  repeat' (first | (apply zt1;exact rfl;(with_reducible assumption)) | (apply zt0;exact rfl;(with_reducible assumption)) | (apply zt;exact rfl) | (apply zo;exact rfl;exact rfl) | apply zn | (apply zc;exact rfl) | intro _)
  refine fin rfl ?_
  simp only [sub_all, fil_end _ _ _ hge]
theorem laws_toIntSS_eq (l : List (List Int)) (hl : bulks List.length l <= 1048576) : F_laws_toIntSS [.x (GInt.lss .n l)] = some ⟨[.one (GInt.lss .y l)], []⟩ := by
 have hl1 := bulks_len List.length l
 (refine fun_ev rfl ?_; show Ev m_laws_toIntSS.code _ _ _)
 repeat' (first | (apply zs;(iterate 3 exact rfl);exact (Int.natCast_nonneg _);exact (by simp [lenMax] <;> omega);exact rfl;exact rfl) | (apply zt1;exact rfl;(with_reducible assumption)) | (apply zt0;exact rfl;(with_reducible assumption)) | (apply zt;exact rfl) | (apply zo;exact rfl;exact rfl) | apply zn | (apply zc;exact rfl) | intro _)
 show Ev _ _ _ _
 refine ev_for (fun i (_ : Unit) => [(0, .x (GInt.lss .n l)), (3, .own ⟨0, 0, 0⟩ (.l .y 1 (fil (ints .y) (.l .y 1 []) l i))), (4, .x (iT i))]) (fun i _ => True) l.length () trivial (by rw [fil_zero, <- List.length_map (ints .n)]; rfl) ?_
 intro i _ hi1 _ ih
 rcases Nat.lt_or_ge i l.length with hlt | hge
 ·have hx := List.getElem?_eq_getElem hlt
  generalize l[i] = x at hx
  have hc : decide ((i : Int) < (l.map (ints .n)).length) = true := by simpa using hlt
  have hg := fil_get (ints .y) (.l .y 1 []) l hlt
  repeat' (first | (apply zi ((ints .n) x);exact rfl;exact rfl;exact Int.natCast_nonneg _;exact (map_at hx);exact rfl;exact rfl) | (apply zw;exact rfl;exact rfl;exact Int.natCast_nonneg _;exact (by rw [fil_len (ints .y) (.l .y 1 []) l hi1]; omega);exact rfl;exact rfl) | (apply zk g_laws_toIntS;exact rfl;simp only [List.map,fzl];exact rfl;exact (laws_toIntS_eq x (by have := bulks_mem (f := List.length) hx; omega));exact rfl;exact rfl;exact rfl) | (apply zS ((.l .y 1 [])) (.l .y 1 (fil (ints .y) (.l .y 1 []) l (i + 1)));(iterate 4 exact rfl);exact (by simp [T.nav, T.kid, hg]);exact (by simp [T.mine, Ob.own, hg]);exact rfl;exact (by simp [T.put, T.kid, T.setKid, T.cells, T.ofCells, splice, hg, <- fil_set (ints .y) (.l .y 1 []) l hx]);(iterate 3 exact rfl)) | (apply zt1;exact rfl;(with_reducible assumption)) | (apply zt0;exact rfl;(with_reducible assumption)) | (apply zt;exact rfl) | (apply zo;exact rfl;exact rfl) | apply zn | (apply zc;exact rfl) | intro _)
  refine ih () hlt trivial _ _ ?_
  rw [<- w64s (by omega)]; rfl
 ·have hc : decide ((i : Int) < (l.map (ints .n)).length) = false := by simpa using hge
  repeat' (first | (apply zt1;exact rfl;(with_reducible assumption)) | (apply zt0;exact rfl;(with_reducible assumption)) | (apply zt;exact rfl) | (apply zo;exact rfl;exact rfl) | apply zn | (apply zc;exact rfl) | intro _)
  refine fin rfl ?_
  simp only [sub_all, fil_end _ _ _ hge]
theorem laws_toSketch_eq (x : GSketch) (hl : x.bulk <= 1048576) : F_laws_toSketch [.st (x.cs .n)] = some ⟨[.st (x.cs .y)], []⟩ := by
 simp only [GSketch.bulk] at hl
 (refine fun_ev rfl ?_; show Ev m_laws_toSketch.code _ _ _)
 repeat' (first | (apply zk g_laws_toIntS;exact rfl;simp only [List.map,fzl];exact rfl;exact (laws_toIntS_eq x.Hist (by omega));exact rfl;exact rfl;exact rfl) | (apply zk g_laws_toIntS;exact rfl;simp only [List.map,fzl];exact rfl;exact (laws_toIntS_eq x.Regs (by omega));exact rfl;exact rfl;exact rfl) | (apply zk g_laws_toIntSS;exact rfl;simp only [List.map,fzl];exact rfl;exact (laws_toIntSS_eq x.Rows (by omega));exact rfl;exact rfl;exact rfl) | (apply zo;exact rfl;exact rfl) | apply zn | (apply zc;exact rfl) | intro _)
 refine fin rfl ?_
 try simp only [sub_all]
 rfl
theorem laws_toItem_eq (x : GItem) (hl : x.bulk <= 1048576) : F_laws_toItem [.st (x.cs .n)] = some ⟨[.st (x.cs .y)], []⟩ := by
 simp only [GItem.bulk] at hl
 (refine fun_ev rfl ?_; show Ev m_laws_toItem.code _ _ _)
 repeat' (first | (apply zk g_laws_toSketch;exact rfl;simp only [List.map,fzl];exact rfl;exact (laws_toSketch_eq x.Sketch (by omega));exact rfl;exact rfl;exact rfl) | (apply zo;exact rfl;exact rfl) | apply zn | (apply zc;exact rfl) | intro _)
 refine fin rfl ?_
 try simp only [sub_all]
 rfl
theorem laws_toItemS_eq (l : List GItem) (hl : bulks GItem.bulk l <= 1048576) : F_laws_toItemS [.x (GItem.ls .n l)] = some ⟨[.one (GItem.ls .y l)], []⟩ := by
 have hl1 := bulks_len GItem.bulk l
 (refine fun_ev rfl ?_; show Ev m_laws_toItemS.code _ _ _)
 repeat' (first | (apply zs;(iterate 3 exact rfl);exact (Int.natCast_nonneg _);exact (by simp [lenMax] <;> omega);exact rfl;exact rfl) | (apply zt1;exact rfl;(with_reducible assumption)) | (apply zt0;exact rfl;(with_reducible assumption)) | (apply zt;exact rfl) | (apply zo;exact rfl;exact rfl) | apply zn | (apply zc;exact rfl) | intro _)
 show Ev _ _ _ _
 refine ev_for (fun i (_ : Unit) => [(0, .x (GItem.ls .n l)), (3, .own ⟨0, 0, 0⟩ (.l .y 11 (fil (GItem.el .y) (.a [(iT 0), (iT 0), (iT 0), (iT 0), (iT 0), (iT 0), (iT 0), (iT 0), (.l .y 1 []), (.l .y 1 []), (.l .y 1 [])]) l i))), (4, .x (iT i))]) (fun i _ => True) l.length () trivial (by rw [fil_zero, <- List.length_map (GItem.el .n)]; rfl) ?_
 intro i _ hi1 _ ih
 rcases Nat.lt_or_ge i l.length with hlt | hge
 ·have hx := List.getElem?_eq_getElem hlt
  generalize l[i] = x at hx
  have hc : decide ((i : Int) < (l.map (GItem.el .n)).length) = true := by simpa using hlt
  have hg := fil_get (GItem.el .y) (.a [(iT 0), (iT 0), (iT 0), (iT 0), (iT 0), (iT 0), (iT 0), (iT 0), (.l .y 1 []), (.l .y 1 []), (.l .y 1 [])]) l hlt
  repeat' (first | (apply zi ((GItem.el .n) x);exact rfl;exact rfl;exact Int.natCast_nonneg _;exact (map_at hx);exact rfl;exact rfl) | (apply zw;exact rfl;exact rfl;exact Int.natCast_nonneg _;exact (by rw [fil_len (GItem.el .y) (.a [(iT 0), (iT 0), (iT 0), (iT 0), (iT 0), (iT 0), (iT 0), (iT 0), (.l .y 1 []), (.l .y 1 []), (.l .y 1 [])]) l hi1]; omega);exact rfl;exact rfl) | (apply zk g_laws_toItem;exact rfl;simp only [List.map,fzl];exact rfl;exact (laws_toItem_eq x (by have := bulks_mem (f := GItem.bulk) hx; omega));exact rfl;exact rfl;exact rfl) | (apply zS ((.a [(iT 0), (iT 0), (iT 0), (iT 0), (iT 0), (iT 0), (iT 0), (iT 0), (.l .y 1 []), (.l .y 1 []), (.l .y 1 [])])) (.l .y 11 (fil (GItem.el .y) (.a [(iT 0), (iT 0), (iT 0), (iT 0), (iT 0), (iT 0), (iT 0), (iT 0), (.l .y 1 []), (.l .y 1 []), (.l .y 1 [])]) l (i + 1)));(iterate 4 exact rfl);exact (by simp [T.nav, T.kid, hg]);exact (by simp [T.mine, Ob.own, hg]);exact rfl;exact (by simp [T.put, T.kid, T.setKid, T.cells, T.ofCells, splice, hg, <- fil_set (GItem.el .y) (.a [(iT 0), (iT 0), (iT 0), (iT 0), (iT 0), (iT 0), (iT 0), (iT 0), (.l .y 1 []), (.l .y 1 []), (.l .y 1 [])]) l hx, GItem.el, GItem.cs]);(iterate 3 exact rfl)) | (apply zt1;exact rfl;(with_reducible assumption)) | (apply zt0;exact rfl;(with_reducible assumption)) | (apply zt;exact rfl) | (apply zo;exact rfl;exact rfl) | apply zn | (apply zc;exact rfl) | intro _)
  refine ih () hlt trivial _ _ ?_
  rw [<- w64s (by omega)]; rfl
 ·have hc : decide ((i : Int) < (l.map (GItem.el .n)).length) = false := by simpa using hge
  repeat' (first | (apply zt1;exact rfl;(with_reducible assumption)) | (apply zt0;exact rfl;(with_reducible assumption)) | (apply zt;exact rfl) | (apply zo;exact rfl;exact rfl) | apply zn | (apply zc;exact rfl) | intro _)
  refine fin rfl ?_
  simp only [sub_all, fil_end _ _ _ hge]
theorem laws_toSpan_eq (x : GSpan) : F_laws_toSpan [.st (x.cs .n)] = some ⟨[.st (x.cs .y)], []⟩ := by
 (refine fun_ev rfl ?_; show Ev m_laws_toSpan.code _ _ _)
 repeat' (first | (apply zo;exact rfl;exact rfl) | apply zn | (apply zc;exact rfl) | intro _)
 refine fin rfl ?_
 try simp only [sub_all]
 rfl
theorem laws_toSpanS_eq (l : List GSpan) (hl : l.length <= 1048576) : F_laws_toSpanS [.x (GSpan.ls .n l)] = some ⟨[.one (GSpan.ls .y l)], []⟩ := by
 have hl1 := Nat.le_refl l.length
 (refine fun_ev rfl ?_; show Ev m_laws_toSpanS.code _ _ _)
 repeat' (first | (apply zs;(iterate 3 exact rfl);exact (Int.natCast_nonneg _);exact (by simp [lenMax] <;> omega);exact rfl;exact rfl) | (apply zt1;exact rfl;(with_reducible assumption)) | (apply zt0;exact rfl;(with_reducible assumption)) | (apply zt;exact rfl) | (apply zo;exact rfl;exact rfl) | apply zn | (apply zc;exact rfl) | intro _)
 show Ev _ _ _ _
 refine ev_for (fun i (_ : Unit) => [(0, .x (GSpan.ls .n l)), (3, .own ⟨0, 0, 0⟩ (.l .y 2 (fil (GSpan.el .y) (.a [(iT 0), (iT 0)]) l i))), (4, .x (iT i))]) (fun i _ => True) l.length () trivial (by rw [fil_zero, <- List.length_map (GSpan.el .n)]; rfl) ?_
 intro i _ hi1 _ ih
 rcases Nat.lt_or_ge i l.length with hlt | hge
 ·have hx := List.getElem?_eq_getElem hlt
  generalize l[i] = x at hx
  have hc : decide ((i : Int) < (l.map (GSpan.el .n)).length) = true := by simpa using hlt
  have hg := fil_get (GSpan.el .y) (.a [(iT 0), (iT 0)]) l hlt
  repeat' (first | (apply zi ((GSpan.el .n) x);exact rfl;exact rfl;exact Int.natCast_nonneg _;exact (map_at hx);exact rfl;exact rfl) | (apply zw;exact rfl;exact rfl;exact Int.natCast_nonneg _;exact (by rw [fil_len (GSpan.el .y) (.a [(iT 0), (iT 0)]) l hi1]; omega);exact rfl;exact rfl) | (apply zk g_laws_toSpan;exact rfl;simp only [List.map,fzl];exact rfl;exact (laws_toSpan_eq x);exact rfl;exact rfl;exact rfl) | (apply zS ((.a [(iT 0), (iT 0)])) (.l .y 2 (fil (GSpan.el .y) (.a [(iT 0), (iT 0)]) l (i + 1)));(iterate 4 exact rfl);exact (by simp [T.nav, T.kid, hg]);exact (by simp [T.mine, Ob.own, hg]);exact rfl;exact (by simp [T.put, T.kid, T.setKid, T.cells, T.ofCells, splice, hg, <- fil_set (GSpan.el .y) (.a [(iT 0), (iT 0)]) l hx, GSpan.el, GSpan.cs]);(iterate 3 exact rfl)) | (apply zt1;exact rfl;(with_reducible assumption)) | (apply zt0;exact rfl;(with_reducible assumption)) | (apply zt;exact rfl) | (apply zo;exact rfl;exact rfl) | apply zn | (apply zc;exact rfl) | intro _)
  refine ih () hlt trivial _ _ ?_
  rw [<- w64s (by omega)]; rfl
 ·have hc : decide ((i : Int) < (l.map (GSpan.el .n)).length) = false := by simpa using hge
  repeat' (first | (apply zt1;exact rfl;(with_reducible assumption)) | (apply zt0;exact rfl;(with_reducible assumption)) | (apply zt;exact rfl) | (apply zo;exact rfl;exact rfl) | apply zn | (apply zc;exact rfl) | intro _)
  refine fin rfl ?_
  simp only [sub_all, fil_end _ _ _ hge]
theorem laws_toAgent_eq (x : GAgent) (hl : x.bulk <= 1048576) : F_laws_toAgent [.st (x.cs .n)] = some ⟨[.st (x.cs .y)], []⟩ := by
 simp only [GAgent.bulk] at hl
 (refine fun_ev rfl ?_; show Ev m_laws_toAgent.code _ _ _)
 repeat' (first | (apply zk g_laws_toItemS;exact rfl;simp only [List.map,fzl];exact rfl;exact (laws_toItemS_eq x.Sealed (by omega));exact rfl;exact rfl;exact rfl) | (apply zk g_laws_toSpanS;exact rfl;simp only [List.map,fzl];exact rfl;exact (laws_toSpanS_eq x.Taken (by omega));exact rfl;exact rfl;exact rfl) | (apply zo;exact rfl;exact rfl) | apply zn | (apply zc;exact rfl) | intro _)
 refine fin rfl ?_
 try simp only [sub_all]
 rfl
theorem laws_toAgentS_eq (l : List GAgent) (hl : bulks GAgent.bulk l <= 1048576) : F_laws_toAgentS [.x (GAgent.ls .n l)] = some ⟨[.one (GAgent.ls .y l)], []⟩ := by
 have hl1 := bulks_len GAgent.bulk l
 (refine fun_ev rfl ?_; show Ev m_laws_toAgentS.code _ _ _)
 repeat' (first | (apply zs;(iterate 3 exact rfl);exact (Int.natCast_nonneg _);exact (by simp [lenMax] <;> omega);exact rfl;exact rfl) | (apply zt1;exact rfl;(with_reducible assumption)) | (apply zt0;exact rfl;(with_reducible assumption)) | (apply zt;exact rfl) | (apply zo;exact rfl;exact rfl) | apply zn | (apply zc;exact rfl) | intro _)
 show Ev _ _ _ _
 refine ev_for (fun i (_ : Unit) => [(0, .x (GAgent.ls .n l)), (3, .own ⟨0, 0, 0⟩ (.l .y 7 (fil (GAgent.el .y) (.a [(iT 0), (iT 0), (.b false), (iT 0), (.l .y 11 []), (.l .y 2 []), (iT 0)]) l i))), (4, .x (iT i))]) (fun i _ => True) l.length () trivial (by rw [fil_zero, <- List.length_map (GAgent.el .n)]; rfl) ?_
 intro i _ hi1 _ ih
 rcases Nat.lt_or_ge i l.length with hlt | hge
 ·have hx := List.getElem?_eq_getElem hlt
  generalize l[i] = x at hx
  have hc : decide ((i : Int) < (l.map (GAgent.el .n)).length) = true := by simpa using hlt
  have hg := fil_get (GAgent.el .y) (.a [(iT 0), (iT 0), (.b false), (iT 0), (.l .y 11 []), (.l .y 2 []), (iT 0)]) l hlt
  repeat' (first | (apply zi ((GAgent.el .n) x);exact rfl;exact rfl;exact Int.natCast_nonneg _;exact (map_at hx);exact rfl;exact rfl) | (apply zw;exact rfl;exact rfl;exact Int.natCast_nonneg _;exact (by rw [fil_len (GAgent.el .y) (.a [(iT 0), (iT 0), (.b false), (iT 0), (.l .y 11 []), (.l .y 2 []), (iT 0)]) l hi1]; omega);exact rfl;exact rfl) | (apply zk g_laws_toAgent;exact rfl;simp only [List.map,fzl];exact rfl;exact (laws_toAgent_eq x (by have := bulks_mem (f := GAgent.bulk) hx; omega));exact rfl;exact rfl;exact rfl) | (apply zS ((.a [(iT 0), (iT 0), (.b false), (iT 0), (.l .y 11 []), (.l .y 2 []), (iT 0)])) (.l .y 7 (fil (GAgent.el .y) (.a [(iT 0), (iT 0), (.b false), (iT 0), (.l .y 11 []), (.l .y 2 []), (iT 0)]) l (i + 1)));(iterate 4 exact rfl);exact (by simp [T.nav, T.kid, hg]);exact (by simp [T.mine, Ob.own, hg]);exact rfl;exact (by simp [T.put, T.kid, T.setKid, T.cells, T.ofCells, splice, hg, <- fil_set (GAgent.el .y) (.a [(iT 0), (iT 0), (.b false), (iT 0), (.l .y 11 []), (.l .y 2 []), (iT 0)]) l hx, GAgent.el, GAgent.cs]);(iterate 3 exact rfl)) | (apply zt1;exact rfl;(with_reducible assumption)) | (apply zt0;exact rfl;(with_reducible assumption)) | (apply zt;exact rfl) | (apply zo;exact rfl;exact rfl) | apply zn | (apply zc;exact rfl) | intro _)
  refine ih () hlt trivial _ _ ?_
  rw [<- w64s (by omega)]; rfl
 ·have hc : decide ((i : Int) < (l.map (GAgent.el .n)).length) = false := by simpa using hge
  repeat' (first | (apply zt1;exact rfl;(with_reducible assumption)) | (apply zt0;exact rfl;(with_reducible assumption)) | (apply zt;exact rfl) | (apply zo;exact rfl;exact rfl) | apply zn | (apply zc;exact rfl) | intro _)
  refine fin rfl ?_
  simp only [sub_all, fil_end _ _ _ hge]
theorem laws_toConf_eq (x : GConf) (hl : x.bulk <= 1048576) : F_laws_toConf [.st (x.cs .n)] = some ⟨[.st (x.cs .y)], []⟩ := by
 simp only [GConf.bulk] at hl
 (refine fun_ev rfl ?_; show Ev m_laws_toConf.code _ _ _)
 repeat' (first | (apply zk g_laws_toIntS;exact rfl;simp only [List.map,fzl];exact rfl;exact (laws_toIntS_eq x.Weights (by omega));exact rfl;exact rfl;exact rfl) | (apply zo;exact rfl;exact rfl) | apply zn | (apply zc;exact rfl) | intro _)
 refine fin rfl ?_
 try simp only [sub_all]
 rfl
theorem laws_toEntry_eq (x : GEntry) (hl : x.bulk <= 1048576) : F_laws_toEntry [.st (x.cs .n)] = some ⟨[.st (x.cs .y)], []⟩ := by
 simp only [GEntry.bulk] at hl
 (refine fun_ev rfl ?_; show Ev m_laws_toEntry.code _ _ _)
 repeat' (first | (apply zk g_laws_toSpanS;exact rfl;simp only [List.map,fzl];exact rfl;exact (laws_toSpanS_eq x.Ids (by omega));exact rfl;exact rfl;exact rfl) | (apply zk g_laws_toSketch;exact rfl;simp only [List.map,fzl];exact rfl;exact (laws_toSketch_eq x.Sketch (by omega));exact rfl;exact rfl;exact rfl) | (apply zo;exact rfl;exact rfl) | apply zn | (apply zc;exact rfl) | intro _)
 refine fin rfl ?_
 try simp only [sub_all]
 rfl
theorem laws_toEntryS_eq (l : List GEntry) (hl : bulks GEntry.bulk l <= 1048576) : F_laws_toEntryS [.x (GEntry.ls .n l)] = some ⟨[.one (GEntry.ls .y l)], []⟩ := by
 have hl1 := bulks_len GEntry.bulk l
 (refine fun_ev rfl ?_; show Ev m_laws_toEntryS.code _ _ _)
 repeat' (first | (apply zs;(iterate 3 exact rfl);exact (Int.natCast_nonneg _);exact (by simp [lenMax] <;> omega);exact rfl;exact rfl) | (apply zt1;exact rfl;(with_reducible assumption)) | (apply zt0;exact rfl;(with_reducible assumption)) | (apply zt;exact rfl) | (apply zo;exact rfl;exact rfl) | apply zn | (apply zc;exact rfl) | intro _)
 show Ev _ _ _ _
 refine ev_for (fun i (_ : Unit) => [(0, .x (GEntry.ls .n l)), (3, .own ⟨0, 0, 0⟩ (.l .y 10 (fil (GEntry.el .y) (.a [(iT 0), (iT 0), (.l .y 2 []), (iT 0), (iT 0), (iT 0), (iT 0), (.l .y 1 []), (.l .y 1 []), (.l .y 1 [])]) l i))), (4, .x (iT i))]) (fun i _ => True) l.length () trivial (by rw [fil_zero, <- List.length_map (GEntry.el .n)]; rfl) ?_
 intro i _ hi1 _ ih
 rcases Nat.lt_or_ge i l.length with hlt | hge
 ·have hx := List.getElem?_eq_getElem hlt
  generalize l[i] = x at hx
  have hc : decide ((i : Int) < (l.map (GEntry.el .n)).length) = true := by simpa using hlt
  have hg := fil_get (GEntry.el .y) (.a [(iT 0), (iT 0), (.l .y 2 []), (iT 0), (iT 0), (iT 0), (iT 0), (.l .y 1 []), (.l .y 1 []), (.l .y 1 [])]) l hlt
  repeat' (first | (apply zi ((GEntry.el .n) x);exact rfl;exact rfl;exact Int.natCast_nonneg _;exact (map_at hx);exact rfl;exact rfl) | (apply zw;exact rfl;exact rfl;exact Int.natCast_nonneg _;exact (by rw [fil_len (GEntry.el .y) (.a [(iT 0), (iT 0), (.l .y 2 []), (iT 0), (iT 0), (iT 0), (iT 0), (.l .y 1 []), (.l .y 1 []), (.l .y 1 [])]) l hi1]; omega);exact rfl;exact rfl) | (apply zk g_laws_toEntry;exact rfl;simp only [List.map,fzl];exact rfl;exact (laws_toEntry_eq x (by have := bulks_mem (f := GEntry.bulk) hx; omega));exact rfl;exact rfl;exact rfl) | (apply zS ((.a [(iT 0), (iT 0), (.l .y 2 []), (iT 0), (iT 0), (iT 0), (iT 0), (.l .y 1 []), (.l .y 1 []), (.l .y 1 [])])) (.l .y 10 (fil (GEntry.el .y) (.a [(iT 0), (iT 0), (.l .y 2 []), (iT 0), (iT 0), (iT 0), (iT 0), (.l .y 1 []), (.l .y 1 []), (.l .y 1 [])]) l (i + 1)));(iterate 4 exact rfl);exact (by simp [T.nav, T.kid, hg]);exact (by simp [T.mine, Ob.own, hg]);exact rfl;exact (by simp [T.put, T.kid, T.setKid, T.cells, T.ofCells, splice, hg, <- fil_set (GEntry.el .y) (.a [(iT 0), (iT 0), (.l .y 2 []), (iT 0), (iT 0), (iT 0), (iT 0), (.l .y 1 []), (.l .y 1 []), (.l .y 1 [])]) l hx, GEntry.el, GEntry.cs]);(iterate 3 exact rfl)) | (apply zt1;exact rfl;(with_reducible assumption)) | (apply zt0;exact rfl;(with_reducible assumption)) | (apply zt;exact rfl) | (apply zo;exact rfl;exact rfl) | apply zn | (apply zc;exact rfl) | intro _)
  refine ih () hlt trivial _ _ ?_
  rw [<- w64s (by omega)]; rfl
 ·have hc : decide ((i : Int) < (l.map (GEntry.el .n)).length) = false := by simpa using hge
  repeat' (first | (apply zt1;exact rfl;(with_reducible assumption)) | (apply zt0;exact rfl;(with_reducible assumption)) | (apply zt;exact rfl) | (apply zo;exact rfl;exact rfl) | apply zn | (apply zc;exact rfl) | intro _)
  refine fin rfl ?_
  simp only [sub_all, fil_end _ _ _ hge]
theorem laws_toOut_eq (x : GOut) (hl : x.bulk <= 1048576) : F_laws_toOut [.st (x.cs .n)] = some ⟨[.st (x.cs .y)], []⟩ := by
 simp only [GOut.bulk] at hl
 (refine fun_ev rfl ?_; show Ev m_laws_toOut.code _ _ _)
 repeat' (first | (apply zk g_laws_toEntry;exact rfl;simp only [List.map,fzl];exact rfl;exact (laws_toEntry_eq x.Entry (by omega));exact rfl;exact rfl;exact rfl) | (apply zo;exact rfl;exact rfl) | apply zn | (apply zc;exact rfl) | intro _)
 refine fin rfl ?_
 try simp only [sub_all]
 rfl
theorem laws_toOutS_eq (l : List GOut) (hl : bulks GOut.bulk l <= 1048576) : F_laws_toOutS [.x (GOut.ls .n l)] = some ⟨[.one (GOut.ls .y l)], []⟩ := by
 have hl1 := bulks_len GOut.bulk l
 (refine fun_ev rfl ?_; show Ev m_laws_toOutS.code _ _ _)
 repeat' (first | (apply zs;(iterate 3 exact rfl);exact (Int.natCast_nonneg _);exact (by simp [lenMax] <;> omega);exact rfl;exact rfl) | (apply zt1;exact rfl;(with_reducible assumption)) | (apply zt0;exact rfl;(with_reducible assumption)) | (apply zt;exact rfl) | (apply zo;exact rfl;exact rfl) | apply zn | (apply zc;exact rfl) | intro _)
 show Ev _ _ _ _
 refine ev_for (fun i (_ : Unit) => [(0, .x (GOut.ls .n l)), (3, .own ⟨0, 0, 0⟩ (.l .y 11 (fil (GOut.el .y) (.a [(iT 0), (iT 0), (iT 0), (.l .y 2 []), (iT 0), (iT 0), (iT 0), (iT 0), (.l .y 1 []), (.l .y 1 []), (.l .y 1 [])]) l i))), (4, .x (iT i))]) (fun i _ => True) l.length () trivial (by rw [fil_zero, <- List.length_map (GOut.el .n)]; rfl) ?_
 intro i _ hi1 _ ih
 rcases Nat.lt_or_ge i l.length with hlt | hge
 ·have hx := List.getElem?_eq_getElem hlt
  generalize l[i] = x at hx
  have hc : decide ((i : Int) < (l.map (GOut.el .n)).length) = true := by simpa using hlt
  have hg := fil_get (GOut.el .y) (.a [(iT 0), (iT 0), (iT 0), (.l .y 2 []), (iT 0), (iT 0), (iT 0), (iT 0), (.l .y 1 []), (.l .y 1 []), (.l .y 1 [])]) l hlt
  repeat' (first | (apply zi ((GOut.el .n) x);exact rfl;exact rfl;exact Int.natCast_nonneg _;exact (map_at hx);exact rfl;exact rfl) | (apply zw;exact rfl;exact rfl;exact Int.natCast_nonneg _;exact (by rw [fil_len (GOut.el .y) (.a [(iT 0), (iT 0), (iT 0), (.l .y 2 []), (iT 0), (iT 0), (iT 0), (iT 0), (.l .y 1 []), (.l .y 1 []), (.l .y 1 [])]) l hi1]; omega);exact rfl;exact rfl) | (apply zk g_laws_toOut;exact rfl;simp only [List.map,fzl];exact rfl;exact (laws_toOut_eq x (by have := bulks_mem (f := GOut.bulk) hx; omega));exact rfl;exact rfl;exact rfl) | (apply zS ((.a [(iT 0), (iT 0), (iT 0), (.l .y 2 []), (iT 0), (iT 0), (iT 0), (iT 0), (.l .y 1 []), (.l .y 1 []), (.l .y 1 [])])) (.l .y 11 (fil (GOut.el .y) (.a [(iT 0), (iT 0), (iT 0), (.l .y 2 []), (iT 0), (iT 0), (iT 0), (iT 0), (.l .y 1 []), (.l .y 1 []), (.l .y 1 [])]) l (i + 1)));(iterate 4 exact rfl);exact (by simp [T.nav, T.kid, hg]);exact (by simp [T.mine, Ob.own, hg]);exact rfl;exact (by simp [T.put, T.kid, T.setKid, T.cells, T.ofCells, splice, hg, <- fil_set (GOut.el .y) (.a [(iT 0), (iT 0), (iT 0), (.l .y 2 []), (iT 0), (iT 0), (iT 0), (iT 0), (.l .y 1 []), (.l .y 1 []), (.l .y 1 [])]) l hx, GOut.el, GOut.cs]);(iterate 3 exact rfl)) | (apply zt1;exact rfl;(with_reducible assumption)) | (apply zt0;exact rfl;(with_reducible assumption)) | (apply zt;exact rfl) | (apply zo;exact rfl;exact rfl) | apply zn | (apply zc;exact rfl) | intro _)
  refine ih () hlt trivial _ _ ?_
  rw [<- w64s (by omega)]; rfl
 ·have hc : decide ((i : Int) < (l.map (GOut.el .n)).length) = false := by simpa using hge
  repeat' (first | (apply zt1;exact rfl;(with_reducible assumption)) | (apply zt0;exact rfl;(with_reducible assumption)) | (apply zt;exact rfl) | (apply zo;exact rfl;exact rfl) | apply zn | (apply zc;exact rfl) | intro _)
  refine fin rfl ?_
  simp only [sub_all, fil_end _ _ _ hge]
theorem laws_toRow_eq (x : GRow) (hl : x.bulk <= 1048576) : F_laws_toRow [.st (x.cs .n)] = some ⟨[.st (x.cs .y)], []⟩ := by
 simp only [GRow.bulk] at hl
 (refine fun_ev rfl ?_; show Ev m_laws_toRow.code _ _ _)
 repeat' (first | (apply zk g_laws_toEntryS;exact rfl;simp only [List.map,fzl];exact rfl;exact (laws_toEntryS_eq x.Lst (by omega));exact rfl;exact rfl;exact rfl) | (apply zo;exact rfl;exact rfl) | apply zn | (apply zc;exact rfl) | intro _)
 refine fin rfl ?_
 try simp only [sub_all]
 rfl
theorem laws_toRowS_eq (l : List GRow) (hl : bulks GRow.bulk l <= 1048576) : F_laws_toRowS [.x (GRow.ls .n l)] = some ⟨[.one (GRow.ls .y l)], []⟩ := by
 have hl1 := bulks_len GRow.bulk l
 (refine fun_ev rfl ?_; show Ev m_laws_toRowS.code _ _ _)
 repeat' (first | (apply zs;(iterate 3 exact rfl);exact (Int.natCast_nonneg _);exact (by simp [lenMax] <;> omega);exact rfl;exact rfl) | (apply zt1;exact rfl;(with_reducible assumption)) | (apply zt0;exact rfl;(with_reducible assumption)) | (apply zt;exact rfl) | (apply zo;exact rfl;exact rfl) | apply zn | (apply zc;exact rfl) | intro _)
 show Ev _ _ _ _
 refine ev_for (fun i (_ : Unit) => [(0, .x (GRow.ls .n l)), (3, .own ⟨0, 0, 0⟩ (.l .y 1 (fil (GRow.el .y) (.a [(.l .y 10 [])]) l i))), (4, .x (iT i))]) (fun i _ => True) l.length () trivial (by rw [fil_zero, <- List.length_map (GRow.el .n)]; rfl) ?_
 intro i _ hi1 _ ih
 rcases Nat.lt_or_ge i l.length with hlt | hge
 ·have hx := List.getElem?_eq_getElem hlt
  generalize l[i] = x at hx
  have hc : decide ((i : Int) < (l.map (GRow.el .n)).length) = true := by simpa using hlt
  have hg := fil_get (GRow.el .y) (.a [(.l .y 10 [])]) l hlt
  repeat' (first | (apply zi ((GRow.el .n) x);exact rfl;exact rfl;exact Int.natCast_nonneg _;exact (map_at hx);exact rfl;exact rfl) | (apply zw;exact rfl;exact rfl;exact Int.natCast_nonneg _;exact (by rw [fil_len (GRow.el .y) (.a [(.l .y 10 [])]) l hi1]; omega);exact rfl;exact rfl) | (apply zk g_laws_toRow;exact rfl;simp only [List.map,fzl];exact rfl;exact (laws_toRow_eq x (by have := bulks_mem (f := GRow.bulk) hx; omega));exact rfl;exact rfl;exact rfl) | (apply zS ((.a [(.l .y 10 [])])) (.l .y 1 (fil (GRow.el .y) (.a [(.l .y 10 [])]) l (i + 1)));(iterate 4 exact rfl);exact (by simp [T.nav, T.kid, hg]);exact (by simp [T.mine, Ob.own, hg]);exact rfl;exact (by simp [T.put, T.kid, T.setKid, T.cells, T.ofCells, splice, hg, <- fil_set (GRow.el .y) (.a [(.l .y 10 [])]) l hx, GRow.el, GRow.cs]);(iterate 3 exact rfl)) | (apply zt1;exact rfl;(with_reducible assumption)) | (apply zt0;exact rfl;(with_reducible assumption)) | (apply zt;exact rfl) | (apply zo;exact rfl;exact rfl) | apply zn | (apply zc;exact rfl) | intro _)
  refine ih () hlt trivial _ _ ?_
  rw [<- w64s (by omega)]; rfl
 ·have hc : decide ((i : Int) < (l.map (GRow.el .n)).length) = false := by simpa using hge
  repeat' (first | (apply zt1;exact rfl;(with_reducible assumption)) | (apply zt0;exact rfl;(with_reducible assumption)) | (apply zt;exact rfl) | (apply zo;exact rfl;exact rfl) | apply zn | (apply zc;exact rfl) | intro _)
  refine fin rfl ?_
  simp only [sub_all, fil_end _ _ _ hge]
theorem laws_toRowSS_eq (l : List (List GRow)) (hl : bulks (bulks GRow.bulk) l <= 1048576) : F_laws_toRowSS [.x (GRow.lss .n l)] = some ⟨[.one (GRow.lss .y l)], []⟩ := by
 have hl1 := bulks_len (bulks GRow.bulk) l
 (refine fun_ev rfl ?_; show Ev m_laws_toRowSS.code _ _ _)
 repeat' (first | (apply zs;(iterate 3 exact rfl);exact (Int.natCast_nonneg _);exact (by simp [lenMax] <;> omega);exact rfl;exact rfl) | (apply zt1;exact rfl;(with_reducible assumption)) | (apply zt0;exact rfl;(with_reducible assumption)) | (apply zt;exact rfl) | (apply zo;exact rfl;exact rfl) | apply zn | (apply zc;exact rfl) | intro _)
 show Ev _ _ _ _
 refine ev_for (fun i (_ : Unit) => [(0, .x (GRow.lss .n l)), (3, .own ⟨0, 0, 0⟩ (.l .y 1 (fil (GRow.ls .y) (.l .y 1 []) l i))), (4, .x (iT i))]) (fun i _ => True) l.length () trivial (by rw [fil_zero, <- List.length_map (GRow.ls .n)]; rfl) ?_
 intro i _ hi1 _ ih
 rcases Nat.lt_or_ge i l.length with hlt | hge
 ·have hx := List.getElem?_eq_getElem hlt
  generalize l[i] = x at hx
  have hc : decide ((i : Int) < (l.map (GRow.ls .n)).length) = true := by simpa using hlt
  have hg := fil_get (GRow.ls .y) (.l .y 1 []) l hlt
  repeat' (first | (apply zi ((GRow.ls .n) x);exact rfl;exact rfl;exact Int.natCast_nonneg _;exact (map_at hx);exact rfl;exact rfl) | (apply zw;exact rfl;exact rfl;exact Int.natCast_nonneg _;exact (by rw [fil_len (GRow.ls .y) (.l .y 1 []) l hi1]; omega);exact rfl;exact rfl) | (apply zk g_laws_toRowS;exact rfl;simp only [List.map,fzl];exact rfl;exact (laws_toRowS_eq x (by have := bulks_mem (f := (bulks GRow.bulk)) hx; omega));exact rfl;exact rfl;exact rfl) | (apply zS ((.l .y 1 [])) (.l .y 1 (fil (GRow.ls .y) (.l .y 1 []) l (i + 1)));(iterate 4 exact rfl);exact (by simp [T.nav, T.kid, hg]);exact (by simp [T.mine, Ob.own, hg]);exact rfl;exact (by simp [T.put, T.kid, T.setKid, T.cells, T.ofCells, splice, hg, <- fil_set (GRow.ls .y) (.l .y 1 []) l hx]);(iterate 3 exact rfl)) | (apply zt1;exact rfl;(with_reducible assumption)) | (apply zt0;exact rfl;(with_reducible assumption)) | (apply zt;exact rfl) | (apply zo;exact rfl;exact rfl) | apply zn | (apply zc;exact rfl) | intro _)
  refine ih () hlt trivial _ _ ?_
  rw [<- w64s (by omega)]; rfl
 ·have hc : decide ((i : Int) < (l.map (GRow.ls .n)).length) = false := by simpa using hge
  repeat' (first | (apply zt1;exact rfl;(with_reducible assumption)) | (apply zt0;exact rfl;(with_reducible assumption)) | (apply zt;exact rfl) | (apply zo;exact rfl;exact rfl) | apply zn | (apply zc;exact rfl) | intro _)
  refine fin rfl ?_
  simp only [sub_all, fil_end _ _ _ hge]
theorem laws_toSeat_eq (x : GSeat) (hl : x.bulk <= 1048576) : F_laws_toSeat [.st (x.cs .n)] = some ⟨[.st (x.cs .y)], []⟩ := by
 simp only [GSeat.bulk] at hl
 (refine fun_ev rfl ?_; show Ev m_laws_toSeat.code _ _ _)
 repeat' (first | (apply zk g_laws_toSpanS;exact rfl;simp only [List.map,fzl];exact rfl;exact (laws_toSpanS_eq x.Taken (by omega));exact rfl;exact rfl;exact rfl) | (apply zo;exact rfl;exact rfl) | apply zn | (apply zc;exact rfl) | intro _)
 refine fin rfl ?_
 try simp only [sub_all]
 rfl
theorem laws_toSeatS_eq (l : List GSeat) (hl : bulks GSeat.bulk l <= 1048576) : F_laws_toSeatS [.x (GSeat.ls .n l)] = some ⟨[.one (GSeat.ls .y l)], []⟩ := by
 have hl1 := bulks_len GSeat.bulk l
 (refine fun_ev rfl ?_; show Ev m_laws_toSeatS.code _ _ _)
 repeat' (first | (apply zs;(iterate 3 exact rfl);exact (Int.natCast_nonneg _);exact (by simp [lenMax] <;> omega);exact rfl;exact rfl) | (apply zt1;exact rfl;(with_reducible assumption)) | (apply zt0;exact rfl;(with_reducible assumption)) | (apply zt;exact rfl) | (apply zo;exact rfl;exact rfl) | apply zn | (apply zc;exact rfl) | intro _)
 show Ev _ _ _ _
 refine ev_for (fun i (_ : Unit) => [(0, .x (GSeat.ls .n l)), (3, .own ⟨0, 0, 0⟩ (.l .y 5 (fil (GSeat.el .y) (.a [(iT 0), (iT 0), (.l .y 2 []), (iT 0), (iT 0)]) l i))), (4, .x (iT i))]) (fun i _ => True) l.length () trivial (by rw [fil_zero, <- List.length_map (GSeat.el .n)]; rfl) ?_
 intro i _ hi1 _ ih
 rcases Nat.lt_or_ge i l.length with hlt | hge
 ·have hx := List.getElem?_eq_getElem hlt
  generalize l[i] = x at hx
  have hc : decide ((i : Int) < (l.map (GSeat.el .n)).length) = true := by simpa using hlt
  have hg := fil_get (GSeat.el .y) (.a [(iT 0), (iT 0), (.l .y 2 []), (iT 0), (iT 0)]) l hlt
  repeat' (first | (apply zi ((GSeat.el .n) x);exact rfl;exact rfl;exact Int.natCast_nonneg _;exact (map_at hx);exact rfl;exact rfl) | (apply zw;exact rfl;exact rfl;exact Int.natCast_nonneg _;exact (by rw [fil_len (GSeat.el .y) (.a [(iT 0), (iT 0), (.l .y 2 []), (iT 0), (iT 0)]) l hi1]; omega);exact rfl;exact rfl) | (apply zk g_laws_toSeat;exact rfl;simp only [List.map,fzl];exact rfl;exact (laws_toSeat_eq x (by have := bulks_mem (f := GSeat.bulk) hx; omega));exact rfl;exact rfl;exact rfl) | (apply zS ((.a [(iT 0), (iT 0), (.l .y 2 []), (iT 0), (iT 0)])) (.l .y 5 (fil (GSeat.el .y) (.a [(iT 0), (iT 0), (.l .y 2 []), (iT 0), (iT 0)]) l (i + 1)));(iterate 4 exact rfl);exact (by simp [T.nav, T.kid, hg]);exact (by simp [T.mine, Ob.own, hg]);exact rfl;exact (by simp [T.put, T.kid, T.setKid, T.cells, T.ofCells, splice, hg, <- fil_set (GSeat.el .y) (.a [(iT 0), (iT 0), (.l .y 2 []), (iT 0), (iT 0)]) l hx, GSeat.el, GSeat.cs]);(iterate 3 exact rfl)) | (apply zt1;exact rfl;(with_reducible assumption)) | (apply zt0;exact rfl;(with_reducible assumption)) | (apply zt;exact rfl) | (apply zo;exact rfl;exact rfl) | apply zn | (apply zc;exact rfl) | intro _)
  refine ih () hlt trivial _ _ ?_
  rw [<- w64s (by omega)]; rfl
 ·have hc : decide ((i : Int) < (l.map (GSeat.el .n)).length) = false := by simpa using hge
  repeat' (first | (apply zt1;exact rfl;(with_reducible assumption)) | (apply zt0;exact rfl;(with_reducible assumption)) | (apply zt;exact rfl) | (apply zo;exact rfl;exact rfl) | apply zn | (apply zc;exact rfl) | intro _)
  refine fin rfl ?_
  simp only [sub_all, fil_end _ _ _ hge]
theorem laws_toTurn_eq (x : GTurn) (hl : x.bulk <= 1048576) : F_laws_toTurn [.st (x.cs .n)] = some ⟨[.st (x.cs .y)], []⟩ := by
 simp only [GTurn.bulk] at hl
 (refine fun_ev rfl ?_; show Ev m_laws_toTurn.code _ _ _)
 repeat' (first | (apply zk g_laws_toIntS;exact rfl;simp only [List.map,fzl];exact rfl;exact (laws_toIntS_eq x.Left (by omega));exact rfl;exact rfl;exact rfl) | (apply zo;exact rfl;exact rfl) | apply zn | (apply zc;exact rfl) | intro _)
 refine fin rfl ?_
 try simp only [sub_all]
 rfl
theorem laws_toTurnS_eq (l : List GTurn) (hl : bulks GTurn.bulk l <= 1048576) : F_laws_toTurnS [.x (GTurn.ls .n l)] = some ⟨[.one (GTurn.ls .y l)], []⟩ := by
 have hl1 := bulks_len GTurn.bulk l
 (refine fun_ev rfl ?_; show Ev m_laws_toTurnS.code _ _ _)
 repeat' (first | (apply zs;(iterate 3 exact rfl);exact (Int.natCast_nonneg _);exact (by simp [lenMax] <;> omega);exact rfl;exact rfl) | (apply zt1;exact rfl;(with_reducible assumption)) | (apply zt0;exact rfl;(with_reducible assumption)) | (apply zt;exact rfl) | (apply zo;exact rfl;exact rfl) | apply zn | (apply zc;exact rfl) | intro _)
 show Ev _ _ _ _
 refine ev_for (fun i (_ : Unit) => [(0, .x (GTurn.ls .n l)), (3, .own ⟨0, 0, 0⟩ (.l .y 3 (fil (GTurn.el .y) (.a [(iT 0), (.b false), (.l .y 1 [])]) l i))), (4, .x (iT i))]) (fun i _ => True) l.length () trivial (by rw [fil_zero, <- List.length_map (GTurn.el .n)]; rfl) ?_
 intro i _ hi1 _ ih
 rcases Nat.lt_or_ge i l.length with hlt | hge
 ·have hx := List.getElem?_eq_getElem hlt
  generalize l[i] = x at hx
  have hc : decide ((i : Int) < (l.map (GTurn.el .n)).length) = true := by simpa using hlt
  have hg := fil_get (GTurn.el .y) (.a [(iT 0), (.b false), (.l .y 1 [])]) l hlt
  repeat' (first | (apply zi ((GTurn.el .n) x);exact rfl;exact rfl;exact Int.natCast_nonneg _;exact (map_at hx);exact rfl;exact rfl) | (apply zw;exact rfl;exact rfl;exact Int.natCast_nonneg _;exact (by rw [fil_len (GTurn.el .y) (.a [(iT 0), (.b false), (.l .y 1 [])]) l hi1]; omega);exact rfl;exact rfl) | (apply zk g_laws_toTurn;exact rfl;simp only [List.map,fzl];exact rfl;exact (laws_toTurn_eq x (by have := bulks_mem (f := GTurn.bulk) hx; omega));exact rfl;exact rfl;exact rfl) | (apply zS ((.a [(iT 0), (.b false), (.l .y 1 [])])) (.l .y 3 (fil (GTurn.el .y) (.a [(iT 0), (.b false), (.l .y 1 [])]) l (i + 1)));(iterate 4 exact rfl);exact (by simp [T.nav, T.kid, hg]);exact (by simp [T.mine, Ob.own, hg]);exact rfl;exact (by simp [T.put, T.kid, T.setKid, T.cells, T.ofCells, splice, hg, <- fil_set (GTurn.el .y) (.a [(iT 0), (.b false), (.l .y 1 [])]) l hx, GTurn.el, GTurn.cs]);(iterate 3 exact rfl)) | (apply zt1;exact rfl;(with_reducible assumption)) | (apply zt0;exact rfl;(with_reducible assumption)) | (apply zt;exact rfl) | (apply zo;exact rfl;exact rfl) | apply zn | (apply zc;exact rfl) | intro _)
  refine ih () hlt trivial _ _ ?_
  rw [<- w64s (by omega)]; rfl
 ·have hc : decide ((i : Int) < (l.map (GTurn.el .n)).length) = false := by simpa using hge
  repeat' (first | (apply zt1;exact rfl;(with_reducible assumption)) | (apply zt0;exact rfl;(with_reducible assumption)) | (apply zt;exact rfl) | (apply zo;exact rfl;exact rfl) | apply zn | (apply zc;exact rfl) | intro _)
  refine fin rfl ?_
  simp only [sub_all, fil_end _ _ _ hge]
theorem laws_toHouse_eq (x : GHouse) (hl : x.bulk <= 1048576) : F_laws_toHouse [.st (x.cs .n)] = some ⟨[.st (x.cs .y)], []⟩ := by
 simp only [GHouse.bulk] at hl
 (refine fun_ev rfl ?_; show Ev m_laws_toHouse.code _ _ _)
 repeat' (first | (apply zk g_laws_toConf;exact rfl;simp only [List.map,fzl];exact rfl;exact (laws_toConf_eq x.Conf (by omega));exact rfl;exact rfl;exact rfl) | (apply zk g_laws_toSeatS;exact rfl;simp only [List.map,fzl];exact rfl;exact (laws_toSeatS_eq x.Seats (by omega));exact rfl;exact rfl;exact rfl) | (apply zk g_laws_toRowSS;exact rfl;simp only [List.map,fzl];exact rfl;exact (laws_toRowSS_eq x.Rows (by omega));exact rfl;exact rfl;exact rfl) | (apply zk g_laws_toTurnS;exact rfl;simp only [List.map,fzl];exact rfl;exact (laws_toTurnS_eq x.Turns (by omega));exact rfl;exact rfl;exact rfl) | (apply zk g_laws_toEntryS;exact rfl;simp only [List.map,fzl];exact rfl;exact (laws_toEntryS_eq x.Root (by omega));exact rfl;exact rfl;exact rfl) | (apply zk g_laws_toOutS;exact rfl;simp only [List.map,fzl];exact rfl;exact (laws_toOutS_eq x.Outs (by omega));exact rfl;exact rfl;exact rfl) | (apply zo;exact rfl;exact rfl) | apply zn | (apply zc;exact rfl) | intro _)
 refine fin rfl ?_
 try simp only [sub_all]
 rfl
theorem laws_toByteS_eq (l : List UInt8) (hl : l.length <= 1048576) : F_laws_toByteS [.x (bytes .n l)] = some ⟨[.one (bytes .y l)], []⟩ := by
 have hl1 := Nat.le_refl l.length
 (refine fun_ev rfl ?_; show Ev m_laws_toByteS.code _ _ _)
 repeat' (first | (apply zs;(iterate 3 exact rfl);exact (Int.natCast_nonneg _);exact (by simp [lenMax] <;> omega);exact rfl;exact rfl) | (apply zt1;exact rfl;(with_reducible assumption)) | (apply zt0;exact rfl;(with_reducible assumption)) | (apply zt;exact rfl) | (apply zo;exact rfl;exact rfl) | apply zn | (apply zc;exact rfl) | intro _)
 show Ev _ _ _ _
 refine ev_for (fun i (_ : Unit) => [(0, .x (bytes .n l)), (3, .own ⟨0, 0, 0⟩ (.l .y 1 (fil iB (.i .u8 0) l i))), (4, .x (iT i))]) (fun i _ => True) l.length () trivial (by rw [fil_zero, <- List.length_map iB]; rfl) ?_
 intro i _ hi1 _ ih
 rcases Nat.lt_or_ge i l.length with hlt | hge
 ·have hx := List.getElem?_eq_getElem hlt
  generalize l[i] = x at hx
  have hc : decide ((i : Int) < (l.map iB).length) = true := by simpa using hlt
  have hg := fil_get iB (.i .u8 0) l hlt
  repeat' (first | (apply zi (iB x);exact rfl;exact rfl;exact Int.natCast_nonneg _;exact (map_at hx);exact rfl;exact rfl) | (apply zw;exact rfl;exact rfl;exact Int.natCast_nonneg _;exact (by rw [fil_len iB (.i .u8 0) l hi1]; omega);exact rfl;exact rfl) | (apply zS ((.i .u8 0)) (.l .y 1 (fil iB (.i .u8 0) l (i + 1)));(iterate 4 exact rfl);exact (by simp [T.nav, T.kid, hg]);exact (by simp [T.mine, Ob.own, hg]);exact rfl;exact (by simp [T.put, T.kid, T.setKid, T.cells, T.ofCells, splice, hg, <- fil_set iB (.i .u8 0) l hx]);(iterate 3 exact rfl)) | (apply zt1;exact rfl;(with_reducible assumption)) | (apply zt0;exact rfl;(with_reducible assumption)) | (apply zt;exact rfl) | (apply zo;exact rfl;exact rfl) | apply zn | (apply zc;exact rfl) | intro _)
  refine ih () hlt trivial _ _ ?_
  rw [<- w64s (by omega)]; rfl
 ·have hc : decide ((i : Int) < (l.map iB).length) = false := by simpa using hge
  repeat' (first | (apply zt1;exact rfl;(with_reducible assumption)) | (apply zt0;exact rfl;(with_reducible assumption)) | (apply zt;exact rfl) | (apply zo;exact rfl;exact rfl) | apply zn | (apply zc;exact rfl) | intro _)
  refine fin rfl ?_
  simp only [sub_all, fil_end _ _ _ hge]
theorem laws_toPack_eq (x : GPack) (hl : x.bulk <= 1048576) : F_laws_toPack [.st (x.cs .n)] = some ⟨[.st (x.cs .y)], []⟩ := by
 simp only [GPack.bulk] at hl
 (refine fun_ev rfl ?_; show Ev m_laws_toPack.code _ _ _)
 repeat' (first | (apply zk g_laws_toByteS;exact rfl;simp only [List.map,fzl];exact rfl;exact (laws_toByteS_eq x.Bytes (by omega));exact rfl;exact rfl;exact rfl) | (apply zo;exact rfl;exact rfl) | apply zn | (apply zc;exact rfl) | intro _)
 refine fin rfl ?_
 try simp only [sub_all]
 rfl
theorem laws_toPackS_eq (l : List GPack) (hl : bulks GPack.bulk l <= 1048576) : F_laws_toPackS [.x (GPack.ls .n l)] = some ⟨[.one (GPack.ls .y l)], []⟩ := by
 have hl1 := bulks_len GPack.bulk l
 (refine fun_ev rfl ?_; show Ev m_laws_toPackS.code _ _ _)
 repeat' (first | (apply zs;(iterate 3 exact rfl);exact (Int.natCast_nonneg _);exact (by simp [lenMax] <;> omega);exact rfl;exact rfl) | (apply zt1;exact rfl;(with_reducible assumption)) | (apply zt0;exact rfl;(with_reducible assumption)) | (apply zt;exact rfl) | (apply zo;exact rfl;exact rfl) | apply zn | (apply zc;exact rfl) | intro _)
 show Ev _ _ _ _
 refine ev_for (fun i (_ : Unit) => [(0, .x (GPack.ls .n l)), (3, .own ⟨0, 0, 0⟩ (.l .y 3 (fil (GPack.el .y) (.a [(iT 0), (.l .y 1 []), (.b false)]) l i))), (4, .x (iT i))]) (fun i _ => True) l.length () trivial (by rw [fil_zero, <- List.length_map (GPack.el .n)]; rfl) ?_
 intro i _ hi1 _ ih
 rcases Nat.lt_or_ge i l.length with hlt | hge
 ·have hx := List.getElem?_eq_getElem hlt
  generalize l[i] = x at hx
  have hc : decide ((i : Int) < (l.map (GPack.el .n)).length) = true := by simpa using hlt
  have hg := fil_get (GPack.el .y) (.a [(iT 0), (.l .y 1 []), (.b false)]) l hlt
  repeat' (first | (apply zi ((GPack.el .n) x);exact rfl;exact rfl;exact Int.natCast_nonneg _;exact (map_at hx);exact rfl;exact rfl) | (apply zw;exact rfl;exact rfl;exact Int.natCast_nonneg _;exact (by rw [fil_len (GPack.el .y) (.a [(iT 0), (.l .y 1 []), (.b false)]) l hi1]; omega);exact rfl;exact rfl) | (apply zk g_laws_toPack;exact rfl;simp only [List.map,fzl];exact rfl;exact (laws_toPack_eq x (by have := bulks_mem (f := GPack.bulk) hx; omega));exact rfl;exact rfl;exact rfl) | (apply zS ((.a [(iT 0), (.l .y 1 []), (.b false)])) (.l .y 3 (fil (GPack.el .y) (.a [(iT 0), (.l .y 1 []), (.b false)]) l (i + 1)));(iterate 4 exact rfl);exact (by simp [T.nav, T.kid, hg]);exact (by simp [T.mine, Ob.own, hg]);exact rfl;exact (by simp [T.put, T.kid, T.setKid, T.cells, T.ofCells, splice, hg, <- fil_set (GPack.el .y) (.a [(iT 0), (.l .y 1 []), (.b false)]) l hx, GPack.el, GPack.cs]);(iterate 3 exact rfl)) | (apply zt1;exact rfl;(with_reducible assumption)) | (apply zt0;exact rfl;(with_reducible assumption)) | (apply zt;exact rfl) | (apply zo;exact rfl;exact rfl) | apply zn | (apply zc;exact rfl) | intro _)
  refine ih () hlt trivial _ _ ?_
  rw [<- w64s (by omega)]; rfl
 ·have hc : decide ((i : Int) < (l.map (GPack.el .n)).length) = false := by simpa using hge
  repeat' (first | (apply zt1;exact rfl;(with_reducible assumption)) | (apply zt0;exact rfl;(with_reducible assumption)) | (apply zt;exact rfl) | (apply zo;exact rfl;exact rfl) | apply zn | (apply zc;exact rfl) | intro _)
  refine fin rfl ?_
  simp only [sub_all, fil_end _ _ _ hge]
theorem laws_toWorld_eq (x : GWorld) (hl : x.bulk <= 1048576) : F_laws_toWorld [.st (x.cs .n)] = some ⟨[.st (x.cs .y)], []⟩ := by
 simp only [GWorld.bulk] at hl
 (refine fun_ev rfl ?_; show Ev m_laws_toWorld.code _ _ _)
 repeat' (first | (apply zk g_laws_toAgentS;exact rfl;simp only [List.map,fzl];exact rfl;exact (laws_toAgentS_eq x.Agents (by omega));exact rfl;exact rfl;exact rfl) | (apply zk g_laws_toHouse;exact rfl;simp only [List.map,fzl];exact rfl;exact (laws_toHouse_eq x.House (by omega));exact rfl;exact rfl;exact rfl) | (apply zk g_laws_toPackS;exact rfl;simp only [List.map,fzl];exact rfl;exact (laws_toPackS_eq x.Net (by omega));exact rfl;exact rfl;exact rfl) | (apply zo;exact rfl;exact rfl) | apply zn | (apply zc;exact rfl) | intro _)
 refine fin rfl ?_
 try simp only [sub_all]
 rfl
end Go.Wr
namespace Go.Wr
set_option linter.unusedVariables false
set_option linter.unusedSimpArgs false
set_option linter.unnecessarySimpa false
set_option maxRecDepth 20000
theorem laws_eqIntS_eq (a b : List Int) (hl : a.length <= 1048576) : F_laws_eqIntS [.x (ints .n a), .x (ints .n b)] = some ⟨[.one (.b (decide (a = b)))], []⟩ := by
 have hl1 := Nat.le_refl a.length
 (refine fun_ev rfl ?_; show Ev m_laws_eqIntS.code _ _ _)
 repeat' (first | (apply zt1;exact rfl;(with_reducible assumption)) | (apply zt0;exact rfl;(with_reducible assumption)) | (apply zt;exact rfl) | (apply zo;exact rfl;exact rfl) | apply zn | (apply zc;exact rfl) | intro _)
 ·refine fin rfl ?_
  rename_i h
  have h2 : a ≠ b := ne_len h
  simp [h2]
 ·have hlen : a.length = b.length := by rename_i h; exact eq_len h
  show Ev _ _ _ _
  refine ev_for (fun i (_ : Unit) => [(0, .x (ints .n a)), (1, .x (ints .n b)), (5, .x (iT i))]) (fun i _ => a.take i = b.take i) a.length () (by simp) rfl ?_
  intro i _ hi1 hinv ih
  rcases Nat.lt_or_ge i a.length with hlt | hge
  ·have hx := List.getElem?_eq_getElem hlt
   have hy := List.getElem?_eq_getElem (show i < b.length by omega)
   generalize a[i] = x at hx
   generalize b[i]'(by omega) = y at hy
   have hc : decide ((i : Int) < (a.map iT).length) = true := by simpa using hlt
   repeat' (first | (apply zi (iT x);exact rfl;exact rfl;exact Int.natCast_nonneg _;exact (map_at hx);exact rfl;exact rfl) | (apply zi (iT y);exact rfl;exact rfl;exact Int.natCast_nonneg _;exact (map_at hy);exact rfl;exact rfl) | (apply zt1;exact rfl;(with_reducible assumption)) | (apply zt0;exact rfl;(with_reducible assumption)) | (apply zt;exact rfl) | (apply zo;exact rfl;exact rfl) | apply zn | (apply zc;exact rfl) | intro _)
   ·refine fin rfl ?_
    rename_i h
    have h2 : a ≠ b := ne_at hx hy (by simpa using h)
    simp [h2]
   ·rename_i h
    have hxy : x = y := by simpa using h
    refine ih () hlt (eq_step hinv hx (hxy ▸ hy)) _ _ ?_
    rw [<- w64s (by omega)]; rfl
  ·have hc : decide ((i : Int) < (a.map iT).length) = false := by simpa using hge
   repeat' (first | (apply zt1;exact rfl;(with_reducible assumption)) | (apply zt0;exact rfl;(with_reducible assumption)) | (apply zt;exact rfl) | (apply zo;exact rfl;exact rfl) | apply zn | (apply zc;exact rfl) | intro _)
   refine fin rfl ?_
   simp [eq_end hinv hlen hge]
theorem laws_eqIntSS_eq (a b : List (List Int)) (hl : bulks List.length a <= 1048576) : F_laws_eqIntSS [.x (GInt.lss .n a), .x (GInt.lss .n b)] = some ⟨[.one (.b (decide (a = b)))], []⟩ := by
 have hl1 := bulks_len List.length a
 (refine fun_ev rfl ?_; show Ev m_laws_eqIntSS.code _ _ _)
 repeat' (first | (apply zt1;exact rfl;(with_reducible assumption)) | (apply zt0;exact rfl;(with_reducible assumption)) | (apply zt;exact rfl) | (apply zo;exact rfl;exact rfl) | apply zn | (apply zc;exact rfl) | intro _)
 ·refine fin rfl ?_
  rename_i h
  have h2 : a ≠ b := ne_len h
  simp [h2]
 ·have hlen : a.length = b.length := by rename_i h; exact eq_len h
  show Ev _ _ _ _
  refine ev_for (fun i (_ : Unit) => [(0, .x (GInt.lss .n a)), (1, .x (GInt.lss .n b)), (5, .x (iT i))]) (fun i _ => a.take i = b.take i) a.length () (by simp) rfl ?_
  intro i _ hi1 hinv ih
  rcases Nat.lt_or_ge i a.length with hlt | hge
  ·have hx := List.getElem?_eq_getElem hlt
   have hy := List.getElem?_eq_getElem (show i < b.length by omega)
   generalize a[i] = x at hx
   generalize b[i]'(by omega) = y at hy
   have hc : decide ((i : Int) < (a.map (ints .n)).length) = true := by simpa using hlt
   repeat' (first | (apply zi ((ints .n) x);exact rfl;exact rfl;exact Int.natCast_nonneg _;exact (map_at hx);exact rfl;exact rfl) | (apply zi ((ints .n) y);exact rfl;exact rfl;exact Int.natCast_nonneg _;exact (map_at hy);exact rfl;exact rfl) | (apply zk g_laws_eqIntS;exact rfl;simp only [List.map,fzl];exact rfl;exact (laws_eqIntS_eq x y (by have := bulks_mem (f := List.length) hx; omega));exact rfl;exact rfl;exact rfl) | (apply zt1;exact rfl;(with_reducible assumption)) | (apply zt0;exact rfl;(with_reducible assumption)) | (apply zt;exact rfl) | (apply zo;exact rfl;exact rfl) | apply zn | (apply zc;exact rfl) | intro _)
   ·refine fin rfl ?_
    rename_i h
    have h2 : a ≠ b := ne_at hx hy (by simpa using h)
    simp [h2]
   ·rename_i h
    have hxy : x = y := by simpa using h
    refine ih () hlt (eq_step hinv hx (hxy ▸ hy)) _ _ ?_
    rw [<- w64s (by omega)]; rfl
  ·have hc : decide ((i : Int) < (a.map (ints .n)).length) = false := by simpa using hge
   repeat' (first | (apply zt1;exact rfl;(with_reducible assumption)) | (apply zt0;exact rfl;(with_reducible assumption)) | (apply zt;exact rfl) | (apply zo;exact rfl;exact rfl) | apply zn | (apply zc;exact rfl) | intro _)
   refine fin rfl ?_
   simp [eq_end hinv hlen hge]
theorem laws_eqSketch_eq (a b : GSketch) (hl : a.bulk <= 1048576) : F_laws_eqSketch [.st (a.cs .n), .st (b.cs .n)] = some ⟨[.one (.b (decide (a = b)))], []⟩ := by
 simp only [GSketch.bulk] at hl
 (refine fun_ev rfl ?_; show Ev m_laws_eqSketch.code _ _ _)
 repeat' (first | (apply zk g_laws_eqIntS;exact rfl;simp only [List.map,fzl];exact rfl;exact (laws_eqIntS_eq a.Hist b.Hist (by omega));exact rfl;exact rfl;exact rfl) | (apply zk g_laws_eqIntS;exact rfl;simp only [List.map,fzl];exact rfl;exact (laws_eqIntS_eq a.Regs b.Regs (by omega));exact rfl;exact rfl;exact rfl) | (apply zk g_laws_eqIntSS;exact rfl;simp only [List.map,fzl];exact rfl;exact (laws_eqIntSS_eq a.Rows b.Rows (by omega));exact rfl;exact rfl;exact rfl) | (apply zt1;exact rfl;(with_reducible assumption)) | (apply zt0;exact rfl;(with_reducible assumption)) | (apply zt;exact rfl) | (apply zo;exact rfl;exact rfl) | apply zn | (apply zc;exact rfl) | intro _)
 all_goals (refine fin rfl ?_; simp only [Out.mk.injEq, List.cons.injEq, RV.one.injEq, T.b.injEq, and_true])
 all_goals (rcases a with ⟨a0, a1, a2, a3, a4, a5, a6⟩; rcases b with ⟨b0, b1, b2, b3, b4, b5, b6⟩; simp only [GSketch.mk.injEq] at *; simp_all)
theorem laws_eqItem_eq (a b : GItem) (hl : a.bulk <= 1048576) : F_laws_eqItem [.st (a.cs .n), .st (b.cs .n)] = some ⟨[.one (.b (decide (a = b)))], []⟩ := by
 simp only [GItem.bulk] at hl
 (refine fun_ev rfl ?_; show Ev m_laws_eqItem.code _ _ _)
 repeat' (first | (apply zk g_laws_eqSketch;exact rfl;simp only [List.map,fzl];exact rfl;exact (laws_eqSketch_eq a.Sketch b.Sketch (by omega));exact rfl;exact rfl;exact rfl) | (apply zt1;exact rfl;(with_reducible assumption)) | (apply zt0;exact rfl;(with_reducible assumption)) | (apply zt;exact rfl) | (apply zo;exact rfl;exact rfl) | apply zn | (apply zc;exact rfl) | intro _)
 all_goals (refine fin rfl ?_; simp only [Out.mk.injEq, List.cons.injEq, RV.one.injEq, T.b.injEq, and_true])
 all_goals (rcases a with ⟨a0, a1, a2, a3, a4⟩; rcases b with ⟨b0, b1, b2, b3, b4⟩; simp only [GItem.mk.injEq] at *; simp_all)
theorem laws_eqItemS_eq (a b : List GItem) (hl : bulks GItem.bulk a <= 1048576) : F_laws_eqItemS [.x (GItem.ls .n a), .x (GItem.ls .n b)] = some ⟨[.one (.b (decide (a = b)))], []⟩ := by
 have hl1 := bulks_len GItem.bulk a
 (refine fun_ev rfl ?_; show Ev m_laws_eqItemS.code _ _ _)
 repeat' (first | (apply zt1;exact rfl;(with_reducible assumption)) | (apply zt0;exact rfl;(with_reducible assumption)) | (apply zt;exact rfl) | (apply zo;exact rfl;exact rfl) | apply zn | (apply zc;exact rfl) | intro _)
 ·refine fin rfl ?_
  rename_i h
  have h2 : a ≠ b := ne_len h
  simp [h2]
 ·have hlen : a.length = b.length := by rename_i h; exact eq_len h
  show Ev _ _ _ _
  refine ev_for (fun i (_ : Unit) => [(0, .x (GItem.ls .n a)), (1, .x (GItem.ls .n b)), (5, .x (iT i))]) (fun i _ => a.take i = b.take i) a.length () (by simp) rfl ?_
  intro i _ hi1 hinv ih
  rcases Nat.lt_or_ge i a.length with hlt | hge
  ·have hx := List.getElem?_eq_getElem hlt
   have hy := List.getElem?_eq_getElem (show i < b.length by omega)
   generalize a[i] = x at hx
   generalize b[i]'(by omega) = y at hy
   have hc : decide ((i : Int) < (a.map (GItem.el .n)).length) = true := by simpa using hlt
   repeat' (first | (apply zi ((GItem.el .n) x);exact rfl;exact rfl;exact Int.natCast_nonneg _;exact (map_at hx);exact rfl;exact rfl) | (apply zi ((GItem.el .n) y);exact rfl;exact rfl;exact Int.natCast_nonneg _;exact (map_at hy);exact rfl;exact rfl) | (apply zk g_laws_eqItem;exact rfl;simp only [List.map,fzl];exact rfl;exact (laws_eqItem_eq x y (by have := bulks_mem (f := GItem.bulk) hx; omega));exact rfl;exact rfl;exact rfl) | (apply zt1;exact rfl;(with_reducible assumption)) | (apply zt0;exact rfl;(with_reducible assumption)) | (apply zt;exact rfl) | (apply zo;exact rfl;exact rfl) | apply zn | (apply zc;exact rfl) | intro _)
   ·refine fin rfl ?_
    rename_i h
    have h2 : a ≠ b := ne_at hx hy (by simpa using h)
    simp [h2]
   ·rename_i h
    have hxy : x = y := by simpa using h
    refine ih () hlt (eq_step hinv hx (hxy ▸ hy)) _ _ ?_
    rw [<- w64s (by omega)]; rfl
  ·have hc : decide ((i : Int) < (a.map (GItem.el .n)).length) = false := by simpa using hge
   repeat' (first | (apply zt1;exact rfl;(with_reducible assumption)) | (apply zt0;exact rfl;(with_reducible assumption)) | (apply zt;exact rfl) | (apply zo;exact rfl;exact rfl) | apply zn | (apply zc;exact rfl) | intro _)
   refine fin rfl ?_
   simp [eq_end hinv hlen hge]
theorem laws_eqSpan_eq (a b : GSpan) : F_laws_eqSpan [.st (a.cs .n), .st (b.cs .n)] = some ⟨[.one (.b (decide (a = b)))], []⟩ := by
 (refine fun_ev rfl ?_; show Ev m_laws_eqSpan.code _ _ _)
 repeat' (first | (apply zt1;exact rfl;(with_reducible assumption)) | (apply zt0;exact rfl;(with_reducible assumption)) | (apply zt;exact rfl) | (apply zo;exact rfl;exact rfl) | apply zn | (apply zc;exact rfl) | intro _)
 all_goals (refine fin rfl ?_; simp only [Out.mk.injEq, List.cons.injEq, RV.one.injEq, T.b.injEq, and_true])
 all_goals (rcases a with ⟨a0, a1⟩; rcases b with ⟨b0, b1⟩; simp only [GSpan.mk.injEq] at *; simp_all)
theorem laws_eqSpanS_eq (a b : List GSpan) (hl : a.length <= 1048576) : F_laws_eqSpanS [.x (GSpan.ls .n a), .x (GSpan.ls .n b)] = some ⟨[.one (.b (decide (a = b)))], []⟩ := by
 have hl1 := Nat.le_refl a.length
 (refine fun_ev rfl ?_; show Ev m_laws_eqSpanS.code _ _ _)
 repeat' (first | (apply zt1;exact rfl;(with_reducible assumption)) | (apply zt0;exact rfl;(with_reducible assumption)) | (apply zt;exact rfl) | (apply zo;exact rfl;exact rfl) | apply zn | (apply zc;exact rfl) | intro _)
 ·refine fin rfl ?_
  rename_i h
  have h2 : a ≠ b := ne_len h
  simp [h2]
 ·have hlen : a.length = b.length := by rename_i h; exact eq_len h
  show Ev _ _ _ _
  refine ev_for (fun i (_ : Unit) => [(0, .x (GSpan.ls .n a)), (1, .x (GSpan.ls .n b)), (5, .x (iT i))]) (fun i _ => a.take i = b.take i) a.length () (by simp) rfl ?_
  intro i _ hi1 hinv ih
  rcases Nat.lt_or_ge i a.length with hlt | hge
  ·have hx := List.getElem?_eq_getElem hlt
   have hy := List.getElem?_eq_getElem (show i < b.length by omega)
   generalize a[i] = x at hx
   generalize b[i]'(by omega) = y at hy
   have hc : decide ((i : Int) < (a.map (GSpan.el .n)).length) = true := by simpa using hlt
   repeat' (first | (apply zi ((GSpan.el .n) x);exact rfl;exact rfl;exact Int.natCast_nonneg _;exact (map_at hx);exact rfl;exact rfl) | (apply zi ((GSpan.el .n) y);exact rfl;exact rfl;exact Int.natCast_nonneg _;exact (map_at hy);exact rfl;exact rfl) | (apply zk g_laws_eqSpan;exact rfl;simp only [List.map,fzl];exact rfl;exact (laws_eqSpan_eq x y);exact rfl;exact rfl;exact rfl) | (apply zt1;exact rfl;(with_reducible assumption)) | (apply zt0;exact rfl;(with_reducible assumption)) | (apply zt;exact rfl) | (apply zo;exact rfl;exact rfl) | apply zn | (apply zc;exact rfl) | intro _)
   ·refine fin rfl ?_
    rename_i h
    have h2 : a ≠ b := ne_at hx hy (by simpa using h)
    simp [h2]
   ·rename_i h
    have hxy : x = y := by simpa using h
    refine ih () hlt (eq_step hinv hx (hxy ▸ hy)) _ _ ?_
    rw [<- w64s (by omega)]; rfl
  ·have hc : decide ((i : Int) < (a.map (GSpan.el .n)).length) = false := by simpa using hge
   repeat' (first | (apply zt1;exact rfl;(with_reducible assumption)) | (apply zt0;exact rfl;(with_reducible assumption)) | (apply zt;exact rfl) | (apply zo;exact rfl;exact rfl) | apply zn | (apply zc;exact rfl) | intro _)
   refine fin rfl ?_
   simp [eq_end hinv hlen hge]
theorem laws_eqAgent_eq (a b : GAgent) (hl : a.bulk <= 1048576) : F_laws_eqAgent [.st (a.cs .n), .st (b.cs .n)] = some ⟨[.one (.b (decide (a = b)))], []⟩ := by
 simp only [GAgent.bulk] at hl
 (refine fun_ev rfl ?_; show Ev m_laws_eqAgent.code _ _ _)
 repeat' (first | (apply zk g_laws_eqItemS;exact rfl;simp only [List.map,fzl];exact rfl;exact (laws_eqItemS_eq a.Sealed b.Sealed (by omega));exact rfl;exact rfl;exact rfl) | (apply zk g_laws_eqSpanS;exact rfl;simp only [List.map,fzl];exact rfl;exact (laws_eqSpanS_eq a.Taken b.Taken (by omega));exact rfl;exact rfl;exact rfl) | (apply zt1;exact rfl;(with_reducible assumption)) | (apply zt0;exact rfl;(with_reducible assumption)) | (apply zt;exact rfl) | (apply zo;exact rfl;exact rfl) | apply zn | (apply zc;exact rfl) | intro _)
 all_goals (refine fin rfl ?_; simp only [Out.mk.injEq, List.cons.injEq, RV.one.injEq, T.b.injEq, and_true])
 all_goals (rcases a with ⟨a0, a1, a2, a3, a4, a5, a6⟩; rcases b with ⟨b0, b1, b2, b3, b4, b5, b6⟩; simp only [GAgent.mk.injEq] at *; simp_all)
theorem laws_eqAgentS_eq (a b : List GAgent) (hl : bulks GAgent.bulk a <= 1048576) : F_laws_eqAgentS [.x (GAgent.ls .n a), .x (GAgent.ls .n b)] = some ⟨[.one (.b (decide (a = b)))], []⟩ := by
 have hl1 := bulks_len GAgent.bulk a
 (refine fun_ev rfl ?_; show Ev m_laws_eqAgentS.code _ _ _)
 repeat' (first | (apply zt1;exact rfl;(with_reducible assumption)) | (apply zt0;exact rfl;(with_reducible assumption)) | (apply zt;exact rfl) | (apply zo;exact rfl;exact rfl) | apply zn | (apply zc;exact rfl) | intro _)
 ·refine fin rfl ?_
  rename_i h
  have h2 : a ≠ b := ne_len h
  simp [h2]
 ·have hlen : a.length = b.length := by rename_i h; exact eq_len h
  show Ev _ _ _ _
  refine ev_for (fun i (_ : Unit) => [(0, .x (GAgent.ls .n a)), (1, .x (GAgent.ls .n b)), (5, .x (iT i))]) (fun i _ => a.take i = b.take i) a.length () (by simp) rfl ?_
  intro i _ hi1 hinv ih
  rcases Nat.lt_or_ge i a.length with hlt | hge
  ·have hx := List.getElem?_eq_getElem hlt
   have hy := List.getElem?_eq_getElem (show i < b.length by omega)
   generalize a[i] = x at hx
   generalize b[i]'(by omega) = y at hy
   have hc : decide ((i : Int) < (a.map (GAgent.el .n)).length) = true := by simpa using hlt
   repeat' (first | (apply zi ((GAgent.el .n) x);exact rfl;exact rfl;exact Int.natCast_nonneg _;exact (map_at hx);exact rfl;exact rfl) | (apply zi ((GAgent.el .n) y);exact rfl;exact rfl;exact Int.natCast_nonneg _;exact (map_at hy);exact rfl;exact rfl) | (apply zk g_laws_eqAgent;exact rfl;simp only [List.map,fzl];exact rfl;exact (laws_eqAgent_eq x y (by have := bulks_mem (f := GAgent.bulk) hx; omega));exact rfl;exact rfl;exact rfl) | (apply zt1;exact rfl;(with_reducible assumption)) | (apply zt0;exact rfl;(with_reducible assumption)) | (apply zt;exact rfl) | (apply zo;exact rfl;exact rfl) | apply zn | (apply zc;exact rfl) | intro _)
   ·refine fin rfl ?_
    rename_i h
    have h2 : a ≠ b := ne_at hx hy (by simpa using h)
    simp [h2]
   ·rename_i h
    have hxy : x = y := by simpa using h
    refine ih () hlt (eq_step hinv hx (hxy ▸ hy)) _ _ ?_
    rw [<- w64s (by omega)]; rfl
  ·have hc : decide ((i : Int) < (a.map (GAgent.el .n)).length) = false := by simpa using hge
   repeat' (first | (apply zt1;exact rfl;(with_reducible assumption)) | (apply zt0;exact rfl;(with_reducible assumption)) | (apply zt;exact rfl) | (apply zo;exact rfl;exact rfl) | apply zn | (apply zc;exact rfl) | intro _)
   refine fin rfl ?_
   simp [eq_end hinv hlen hge]
theorem laws_eqConf_eq (a b : GConf) (hl : a.bulk <= 1048576) : F_laws_eqConf [.st (a.cs .n), .st (b.cs .n)] = some ⟨[.one (.b (decide (a = b)))], []⟩ := by
 simp only [GConf.bulk] at hl
 (refine fun_ev rfl ?_; show Ev m_laws_eqConf.code _ _ _)
 repeat' (first | (apply zk g_laws_eqIntS;exact rfl;simp only [List.map,fzl];exact rfl;exact (laws_eqIntS_eq a.Weights b.Weights (by omega));exact rfl;exact rfl;exact rfl) | (apply zt1;exact rfl;(with_reducible assumption)) | (apply zt0;exact rfl;(with_reducible assumption)) | (apply zt;exact rfl) | (apply zo;exact rfl;exact rfl) | apply zn | (apply zc;exact rfl) | intro _)
 all_goals (refine fin rfl ?_; simp only [Out.mk.injEq, List.cons.injEq, RV.one.injEq, T.b.injEq, and_true])
 all_goals (rcases a with ⟨a0, a1, a2, a3, a4, a5, a6, a7⟩; rcases b with ⟨b0, b1, b2, b3, b4, b5, b6, b7⟩; simp only [GConf.mk.injEq] at *; simp_all)
theorem laws_eqEntry_eq (a b : GEntry) (hl : a.bulk <= 1048576) : F_laws_eqEntry [.st (a.cs .n), .st (b.cs .n)] = some ⟨[.one (.b (decide (a = b)))], []⟩ := by
 simp only [GEntry.bulk] at hl
 (refine fun_ev rfl ?_; show Ev m_laws_eqEntry.code _ _ _)
 repeat' (first | (apply zk g_laws_eqSpanS;exact rfl;simp only [List.map,fzl];exact rfl;exact (laws_eqSpanS_eq a.Ids b.Ids (by omega));exact rfl;exact rfl;exact rfl) | (apply zk g_laws_eqSketch;exact rfl;simp only [List.map,fzl];exact rfl;exact (laws_eqSketch_eq a.Sketch b.Sketch (by omega));exact rfl;exact rfl;exact rfl) | (apply zt1;exact rfl;(with_reducible assumption)) | (apply zt0;exact rfl;(with_reducible assumption)) | (apply zt;exact rfl) | (apply zo;exact rfl;exact rfl) | apply zn | (apply zc;exact rfl) | intro _)
 all_goals (refine fin rfl ?_; simp only [Out.mk.injEq, List.cons.injEq, RV.one.injEq, T.b.injEq, and_true])
 all_goals (rcases a with ⟨a0, a1, a2, a3⟩; rcases b with ⟨b0, b1, b2, b3⟩; simp only [GEntry.mk.injEq] at *; simp_all)
theorem laws_eqEntryS_eq (a b : List GEntry) (hl : bulks GEntry.bulk a <= 1048576) : F_laws_eqEntryS [.x (GEntry.ls .n a), .x (GEntry.ls .n b)] = some ⟨[.one (.b (decide (a = b)))], []⟩ := by
 have hl1 := bulks_len GEntry.bulk a
 (refine fun_ev rfl ?_; show Ev m_laws_eqEntryS.code _ _ _)
 repeat' (first | (apply zt1;exact rfl;(with_reducible assumption)) | (apply zt0;exact rfl;(with_reducible assumption)) | (apply zt;exact rfl) | (apply zo;exact rfl;exact rfl) | apply zn | (apply zc;exact rfl) | intro _)
 ·refine fin rfl ?_
  rename_i h
  have h2 : a ≠ b := ne_len h
  simp [h2]
 ·have hlen : a.length = b.length := by rename_i h; exact eq_len h
  show Ev _ _ _ _
  refine ev_for (fun i (_ : Unit) => [(0, .x (GEntry.ls .n a)), (1, .x (GEntry.ls .n b)), (5, .x (iT i))]) (fun i _ => a.take i = b.take i) a.length () (by simp) rfl ?_
  intro i _ hi1 hinv ih
  rcases Nat.lt_or_ge i a.length with hlt | hge
  ·have hx := List.getElem?_eq_getElem hlt
   have hy := List.getElem?_eq_getElem (show i < b.length by omega)
   generalize a[i] = x at hx
   generalize b[i]'(by omega) = y at hy
   have hc : decide ((i : Int) < (a.map (GEntry.el .n)).length) = true := by simpa using hlt
   repeat' (first | (apply zi ((GEntry.el .n) x);exact rfl;exact rfl;exact Int.natCast_nonneg _;exact (map_at hx);exact rfl;exact rfl) | (apply zi ((GEntry.el .n) y);exact rfl;exact rfl;exact Int.natCast_nonneg _;exact (map_at hy);exact rfl;exact rfl) | (apply zk g_laws_eqEntry;exact rfl;simp only [List.map,fzl];exact rfl;exact (laws_eqEntry_eq x y (by have := bulks_mem (f := GEntry.bulk) hx; omega));exact rfl;exact rfl;exact rfl) | (apply zt1;exact rfl;(with_reducible assumption)) | (apply zt0;exact rfl;(with_reducible assumption)) | (apply zt;exact rfl) | (apply zo;exact rfl;exact rfl) | apply zn | (apply zc;exact rfl) | intro _)
   ·refine fin rfl ?_
    rename_i h
    have h2 : a ≠ b := ne_at hx hy (by simpa using h)
    simp [h2]
   ·rename_i h
    have hxy : x = y := by simpa using h
    refine ih () hlt (eq_step hinv hx (hxy ▸ hy)) _ _ ?_
    rw [<- w64s (by omega)]; rfl
  ·have hc : decide ((i : Int) < (a.map (GEntry.el .n)).length) = false := by simpa using hge
   repeat' (first | (apply zt1;exact rfl;(with_reducible assumption)) | (apply zt0;exact rfl;(with_reducible assumption)) | (apply zt;exact rfl) | (apply zo;exact rfl;exact rfl) | apply zn | (apply zc;exact rfl) | intro _)
   refine fin rfl ?_
   simp [eq_end hinv hlen hge]
theorem laws_eqOut_eq (a b : GOut) (hl : a.bulk <= 1048576) : F_laws_eqOut [.st (a.cs .n), .st (b.cs .n)] = some ⟨[.one (.b (decide (a = b)))], []⟩ := by
 simp only [GOut.bulk] at hl
 (refine fun_ev rfl ?_; show Ev m_laws_eqOut.code _ _ _)
 repeat' (first | (apply zk g_laws_eqEntry;exact rfl;simp only [List.map,fzl];exact rfl;exact (laws_eqEntry_eq a.Entry b.Entry (by omega));exact rfl;exact rfl;exact rfl) | (apply zt1;exact rfl;(with_reducible assumption)) | (apply zt0;exact rfl;(with_reducible assumption)) | (apply zt;exact rfl) | (apply zo;exact rfl;exact rfl) | apply zn | (apply zc;exact rfl) | intro _)
 all_goals (refine fin rfl ?_; simp only [Out.mk.injEq, List.cons.injEq, RV.one.injEq, T.b.injEq, and_true])
 all_goals (rcases a with ⟨a0, a1⟩; rcases b with ⟨b0, b1⟩; simp only [GOut.mk.injEq] at *; simp_all)
theorem laws_eqOutS_eq (a b : List GOut) (hl : bulks GOut.bulk a <= 1048576) : F_laws_eqOutS [.x (GOut.ls .n a), .x (GOut.ls .n b)] = some ⟨[.one (.b (decide (a = b)))], []⟩ := by
 have hl1 := bulks_len GOut.bulk a
 (refine fun_ev rfl ?_; show Ev m_laws_eqOutS.code _ _ _)
 repeat' (first | (apply zt1;exact rfl;(with_reducible assumption)) | (apply zt0;exact rfl;(with_reducible assumption)) | (apply zt;exact rfl) | (apply zo;exact rfl;exact rfl) | apply zn | (apply zc;exact rfl) | intro _)
 ·refine fin rfl ?_
  rename_i h
  have h2 : a ≠ b := ne_len h
  simp [h2]
 ·have hlen : a.length = b.length := by rename_i h; exact eq_len h
  show Ev _ _ _ _
  refine ev_for (fun i (_ : Unit) => [(0, .x (GOut.ls .n a)), (1, .x (GOut.ls .n b)), (5, .x (iT i))]) (fun i _ => a.take i = b.take i) a.length () (by simp) rfl ?_
  intro i _ hi1 hinv ih
  rcases Nat.lt_or_ge i a.length with hlt | hge
  ·have hx := List.getElem?_eq_getElem hlt
   have hy := List.getElem?_eq_getElem (show i < b.length by omega)
   generalize a[i] = x at hx
   generalize b[i]'(by omega) = y at hy
   have hc : decide ((i : Int) < (a.map (GOut.el .n)).length) = true := by simpa using hlt
   repeat' (first | (apply zi ((GOut.el .n) x);exact rfl;exact rfl;exact Int.natCast_nonneg _;exact (map_at hx);exact rfl;exact rfl) | (apply zi ((GOut.el .n) y);exact rfl;exact rfl;exact Int.natCast_nonneg _;exact (map_at hy);exact rfl;exact rfl) | (apply zk g_laws_eqOut;exact rfl;simp only [List.map,fzl];exact rfl;exact (laws_eqOut_eq x y (by have := bulks_mem (f := GOut.bulk) hx; omega));exact rfl;exact rfl;exact rfl) | (apply zt1;exact rfl;(with_reducible assumption)) | (apply zt0;exact rfl;(with_reducible assumption)) | (apply zt;exact rfl) | (apply zo;exact rfl;exact rfl) | apply zn | (apply zc;exact rfl) | intro _)
   ·refine fin rfl ?_
    rename_i h
    have h2 : a ≠ b := ne_at hx hy (by simpa using h)
    simp [h2]
   ·rename_i h
    have hxy : x = y := by simpa using h
    refine ih () hlt (eq_step hinv hx (hxy ▸ hy)) _ _ ?_
    rw [<- w64s (by omega)]; rfl
  ·have hc : decide ((i : Int) < (a.map (GOut.el .n)).length) = false := by simpa using hge
   repeat' (first | (apply zt1;exact rfl;(with_reducible assumption)) | (apply zt0;exact rfl;(with_reducible assumption)) | (apply zt;exact rfl) | (apply zo;exact rfl;exact rfl) | apply zn | (apply zc;exact rfl) | intro _)
   refine fin rfl ?_
   simp [eq_end hinv hlen hge]
theorem laws_eqRow_eq (a b : GRow) (hl : a.bulk <= 1048576) : F_laws_eqRow [.st (a.cs .n), .st (b.cs .n)] = some ⟨[.one (.b (decide (a = b)))], []⟩ := by
 simp only [GRow.bulk] at hl
 (refine fun_ev rfl ?_; show Ev m_laws_eqRow.code _ _ _)
 repeat' (first | (apply zk g_laws_eqEntryS;exact rfl;simp only [List.map,fzl];exact rfl;exact (laws_eqEntryS_eq a.Lst b.Lst (by omega));exact rfl;exact rfl;exact rfl) | (apply zt1;exact rfl;(with_reducible assumption)) | (apply zt0;exact rfl;(with_reducible assumption)) | (apply zt;exact rfl) | (apply zo;exact rfl;exact rfl) | apply zn | (apply zc;exact rfl) | intro _)
 all_goals (refine fin rfl ?_; simp only [Out.mk.injEq, List.cons.injEq, RV.one.injEq, T.b.injEq, and_true])
 all_goals (rcases a with ⟨a0⟩; rcases b with ⟨b0⟩; simp only [GRow.mk.injEq] at *; simp_all)
theorem laws_eqRowS_eq (a b : List GRow) (hl : bulks GRow.bulk a <= 1048576) : F_laws_eqRowS [.x (GRow.ls .n a), .x (GRow.ls .n b)] = some ⟨[.one (.b (decide (a = b)))], []⟩ := by
 have hl1 := bulks_len GRow.bulk a
 (refine fun_ev rfl ?_; show Ev m_laws_eqRowS.code _ _ _)
 repeat' (first | (apply zt1;exact rfl;(with_reducible assumption)) | (apply zt0;exact rfl;(with_reducible assumption)) | (apply zt;exact rfl) | (apply zo;exact rfl;exact rfl) | apply zn | (apply zc;exact rfl) | intro _)
 ·refine fin rfl ?_
  rename_i h
  have h2 : a ≠ b := ne_len h
  simp [h2]
 ·have hlen : a.length = b.length := by rename_i h; exact eq_len h
  show Ev _ _ _ _
  refine ev_for (fun i (_ : Unit) => [(0, .x (GRow.ls .n a)), (1, .x (GRow.ls .n b)), (5, .x (iT i))]) (fun i _ => a.take i = b.take i) a.length () (by simp) rfl ?_
  intro i _ hi1 hinv ih
  rcases Nat.lt_or_ge i a.length with hlt | hge
  ·have hx := List.getElem?_eq_getElem hlt
   have hy := List.getElem?_eq_getElem (show i < b.length by omega)
   generalize a[i] = x at hx
   generalize b[i]'(by omega) = y at hy
   have hc : decide ((i : Int) < (a.map (GRow.el .n)).length) = true := by simpa using hlt
   repeat' (first | (apply zi ((GRow.el .n) x);exact rfl;exact rfl;exact Int.natCast_nonneg _;exact (map_at hx);exact rfl;exact rfl) | (apply zi ((GRow.el .n) y);exact rfl;exact rfl;exact Int.natCast_nonneg _;exact (map_at hy);exact rfl;exact rfl) | (apply zk g_laws_eqRow;exact rfl;simp only [List.map,fzl];exact rfl;exact (laws_eqRow_eq x y (by have := bulks_mem (f := GRow.bulk) hx; omega));exact rfl;exact rfl;exact rfl) | (apply zt1;exact rfl;(with_reducible assumption)) | (apply zt0;exact rfl;(with_reducible assumption)) | (apply zt;exact rfl) | (apply zo;exact rfl;exact rfl) | apply zn | (apply zc;exact rfl) | intro _)
   ·refine fin rfl ?_
    rename_i h
    have h2 : a ≠ b := ne_at hx hy (by simpa using h)
    simp [h2]
   ·rename_i h
    have hxy : x = y := by simpa using h
    refine ih () hlt (eq_step hinv hx (hxy ▸ hy)) _ _ ?_
    rw [<- w64s (by omega)]; rfl
  ·have hc : decide ((i : Int) < (a.map (GRow.el .n)).length) = false := by simpa using hge
   repeat' (first | (apply zt1;exact rfl;(with_reducible assumption)) | (apply zt0;exact rfl;(with_reducible assumption)) | (apply zt;exact rfl) | (apply zo;exact rfl;exact rfl) | apply zn | (apply zc;exact rfl) | intro _)
   refine fin rfl ?_
   simp [eq_end hinv hlen hge]
theorem laws_eqRowSS_eq (a b : List (List GRow)) (hl : bulks (bulks GRow.bulk) a <= 1048576) : F_laws_eqRowSS [.x (GRow.lss .n a), .x (GRow.lss .n b)] = some ⟨[.one (.b (decide (a = b)))], []⟩ := by
 have hl1 := bulks_len (bulks GRow.bulk) a
 (refine fun_ev rfl ?_; show Ev m_laws_eqRowSS.code _ _ _)
 repeat' (first | (apply zt1;exact rfl;(with_reducible assumption)) | (apply zt0;exact rfl;(with_reducible assumption)) | (apply zt;exact rfl) | (apply zo;exact rfl;exact rfl) | apply zn | (apply zc;exact rfl) | intro _)
 ·refine fin rfl ?_
  rename_i h
  have h2 : a ≠ b := ne_len h
  simp [h2]
 ·have hlen : a.length = b.length := by rename_i h; exact eq_len h
  show Ev _ _ _ _
  refine ev_for (fun i (_ : Unit) => [(0, .x (GRow.lss .n a)), (1, .x (GRow.lss .n b)), (5, .x (iT i))]) (fun i _ => a.take i = b.take i) a.length () (by simp) rfl ?_
  intro i _ hi1 hinv ih
  rcases Nat.lt_or_ge i a.length with hlt | hge
  ·have hx := List.getElem?_eq_getElem hlt
   have hy := List.getElem?_eq_getElem (show i < b.length by omega)
   generalize a[i] = x at hx
   generalize b[i]'(by omega) = y at hy
   have hc : decide ((i : Int) < (a.map (GRow.ls .n)).length) = true := by simpa using hlt
   repeat' (first | (apply zi ((GRow.ls .n) x);exact rfl;exact rfl;exact Int.natCast_nonneg _;exact (map_at hx);exact rfl;exact rfl) | (apply zi ((GRow.ls .n) y);exact rfl;exact rfl;exact Int.natCast_nonneg _;exact (map_at hy);exact rfl;exact rfl) | (apply zk g_laws_eqRowS;exact rfl;simp only [List.map,fzl];exact rfl;exact (laws_eqRowS_eq x y (by have := bulks_mem (f := (bulks GRow.bulk)) hx; omega));exact rfl;exact rfl;exact rfl) | (apply zt1;exact rfl;(with_reducible assumption)) | (apply zt0;exact rfl;(with_reducible assumption)) | (apply zt;exact rfl) | (apply zo;exact rfl;exact rfl) | apply zn | (apply zc;exact rfl) | intro _)
   ·refine fin rfl ?_
    rename_i h
    have h2 : a ≠ b := ne_at hx hy (by simpa using h)
    simp [h2]
   ·rename_i h
    have hxy : x = y := by simpa using h
    refine ih () hlt (eq_step hinv hx (hxy ▸ hy)) _ _ ?_
    rw [<- w64s (by omega)]; rfl
  ·have hc : decide ((i : Int) < (a.map (GRow.ls .n)).length) = false := by simpa using hge
   repeat' (first | (apply zt1;exact rfl;(with_reducible assumption)) | (apply zt0;exact rfl;(with_reducible assumption)) | (apply zt;exact rfl) | (apply zo;exact rfl;exact rfl) | apply zn | (apply zc;exact rfl) | intro _)
   refine fin rfl ?_
   simp [eq_end hinv hlen hge]
theorem laws_eqSeat_eq (a b : GSeat) (hl : a.bulk <= 1048576) : F_laws_eqSeat [.st (a.cs .n), .st (b.cs .n)] = some ⟨[.one (.b (decide (a = b)))], []⟩ := by
 simp only [GSeat.bulk] at hl
 (refine fun_ev rfl ?_; show Ev m_laws_eqSeat.code _ _ _)
 repeat' (first | (apply zk g_laws_eqSpanS;exact rfl;simp only [List.map,fzl];exact rfl;exact (laws_eqSpanS_eq a.Taken b.Taken (by omega));exact rfl;exact rfl;exact rfl) | (apply zt1;exact rfl;(with_reducible assumption)) | (apply zt0;exact rfl;(with_reducible assumption)) | (apply zt;exact rfl) | (apply zo;exact rfl;exact rfl) | apply zn | (apply zc;exact rfl) | intro _)
 all_goals (refine fin rfl ?_; simp only [Out.mk.injEq, List.cons.injEq, RV.one.injEq, T.b.injEq, and_true])
 all_goals (rcases a with ⟨a0, a1, a2, a3, a4⟩; rcases b with ⟨b0, b1, b2, b3, b4⟩; simp only [GSeat.mk.injEq] at *; simp_all)
theorem laws_eqSeatS_eq (a b : List GSeat) (hl : bulks GSeat.bulk a <= 1048576) : F_laws_eqSeatS [.x (GSeat.ls .n a), .x (GSeat.ls .n b)] = some ⟨[.one (.b (decide (a = b)))], []⟩ := by
 have hl1 := bulks_len GSeat.bulk a
 (refine fun_ev rfl ?_; show Ev m_laws_eqSeatS.code _ _ _)
 repeat' (first | (apply zt1;exact rfl;(with_reducible assumption)) | (apply zt0;exact rfl;(with_reducible assumption)) | (apply zt;exact rfl) | (apply zo;exact rfl;exact rfl) | apply zn | (apply zc;exact rfl) | intro _)
 ·refine fin rfl ?_
  rename_i h
  have h2 : a ≠ b := ne_len h
  simp [h2]
 ·have hlen : a.length = b.length := by rename_i h; exact eq_len h
  show Ev _ _ _ _
  refine ev_for (fun i (_ : Unit) => [(0, .x (GSeat.ls .n a)), (1, .x (GSeat.ls .n b)), (5, .x (iT i))]) (fun i _ => a.take i = b.take i) a.length () (by simp) rfl ?_
  intro i _ hi1 hinv ih
  rcases Nat.lt_or_ge i a.length with hlt | hge
  ·have hx := List.getElem?_eq_getElem hlt
   have hy := List.getElem?_eq_getElem (show i < b.length by omega)
   generalize a[i] = x at hx
   generalize b[i]'(by omega) = y at hy
   have hc : decide ((i : Int) < (a.map (GSeat.el .n)).length) = true := by simpa using hlt
   repeat' (first | (apply zi ((GSeat.el .n) x);exact rfl;exact rfl;exact Int.natCast_nonneg _;exact (map_at hx);exact rfl;exact rfl) | (apply zi ((GSeat.el .n) y);exact rfl;exact rfl;exact Int.natCast_nonneg _;exact (map_at hy);exact rfl;exact rfl) | (apply zk g_laws_eqSeat;exact rfl;simp only [List.map,fzl];exact rfl;exact (laws_eqSeat_eq x y (by have := bulks_mem (f := GSeat.bulk) hx; omega));exact rfl;exact rfl;exact rfl) | (apply zt1;exact rfl;(with_reducible assumption)) | (apply zt0;exact rfl;(with_reducible assumption)) | (apply zt;exact rfl) | (apply zo;exact rfl;exact rfl) | apply zn | (apply zc;exact rfl) | intro _)
   ·refine fin rfl ?_
    rename_i h
    have h2 : a ≠ b := ne_at hx hy (by simpa using h)
    simp [h2]
   ·rename_i h
    have hxy : x = y := by simpa using h
    refine ih () hlt (eq_step hinv hx (hxy ▸ hy)) _ _ ?_
    rw [<- w64s (by omega)]; rfl
  ·have hc : decide ((i : Int) < (a.map (GSeat.el .n)).length) = false := by simpa using hge
   repeat' (first | (apply zt1;exact rfl;(with_reducible assumption)) | (apply zt0;exact rfl;(with_reducible assumption)) | (apply zt;exact rfl) | (apply zo;exact rfl;exact rfl) | apply zn | (apply zc;exact rfl) | intro _)
   refine fin rfl ?_
   simp [eq_end hinv hlen hge]
theorem laws_eqTurn_eq (a b : GTurn) (hl : a.bulk <= 1048576) : F_laws_eqTurn [.st (a.cs .n), .st (b.cs .n)] = some ⟨[.one (.b (decide (a = b)))], []⟩ := by
 simp only [GTurn.bulk] at hl
 (refine fun_ev rfl ?_; show Ev m_laws_eqTurn.code _ _ _)
 repeat' (first | (apply zk g_laws_eqIntS;exact rfl;simp only [List.map,fzl];exact rfl;exact (laws_eqIntS_eq a.Left b.Left (by omega));exact rfl;exact rfl;exact rfl) | (apply zt1;exact rfl;(with_reducible assumption)) | (apply zt0;exact rfl;(with_reducible assumption)) | (apply zt;exact rfl) | (apply zo;exact rfl;exact rfl) | apply zn | (apply zc;exact rfl) | intro _)
 all_goals (refine fin rfl ?_; simp only [Out.mk.injEq, List.cons.injEq, RV.one.injEq, T.b.injEq, and_true])
 all_goals (rcases a with ⟨a0, a1, a2⟩; rcases b with ⟨b0, b1, b2⟩; simp only [GTurn.mk.injEq] at *; simp_all)
theorem laws_eqTurnS_eq (a b : List GTurn) (hl : bulks GTurn.bulk a <= 1048576) : F_laws_eqTurnS [.x (GTurn.ls .n a), .x (GTurn.ls .n b)] = some ⟨[.one (.b (decide (a = b)))], []⟩ := by
 have hl1 := bulks_len GTurn.bulk a
 (refine fun_ev rfl ?_; show Ev m_laws_eqTurnS.code _ _ _)
 repeat' (first | (apply zt1;exact rfl;(with_reducible assumption)) | (apply zt0;exact rfl;(with_reducible assumption)) | (apply zt;exact rfl) | (apply zo;exact rfl;exact rfl) | apply zn | (apply zc;exact rfl) | intro _)
 ·refine fin rfl ?_
  rename_i h
  have h2 : a ≠ b := ne_len h
  simp [h2]
 ·have hlen : a.length = b.length := by rename_i h; exact eq_len h
  show Ev _ _ _ _
  refine ev_for (fun i (_ : Unit) => [(0, .x (GTurn.ls .n a)), (1, .x (GTurn.ls .n b)), (5, .x (iT i))]) (fun i _ => a.take i = b.take i) a.length () (by simp) rfl ?_
  intro i _ hi1 hinv ih
  rcases Nat.lt_or_ge i a.length with hlt | hge
  ·have hx := List.getElem?_eq_getElem hlt
   have hy := List.getElem?_eq_getElem (show i < b.length by omega)
   generalize a[i] = x at hx
   generalize b[i]'(by omega) = y at hy
   have hc : decide ((i : Int) < (a.map (GTurn.el .n)).length) = true := by simpa using hlt
   repeat' (first | (apply zi ((GTurn.el .n) x);exact rfl;exact rfl;exact Int.natCast_nonneg _;exact (map_at hx);exact rfl;exact rfl) | (apply zi ((GTurn.el .n) y);exact rfl;exact rfl;exact Int.natCast_nonneg _;exact (map_at hy);exact rfl;exact rfl) | (apply zk g_laws_eqTurn;exact rfl;simp only [List.map,fzl];exact rfl;exact (laws_eqTurn_eq x y (by have := bulks_mem (f := GTurn.bulk) hx; omega));exact rfl;exact rfl;exact rfl) | (apply zt1;exact rfl;(with_reducible assumption)) | (apply zt0;exact rfl;(with_reducible assumption)) | (apply zt;exact rfl) | (apply zo;exact rfl;exact rfl) | apply zn | (apply zc;exact rfl) | intro _)
   ·refine fin rfl ?_
    rename_i h
    have h2 : a ≠ b := ne_at hx hy (by simpa using h)
    simp [h2]
   ·rename_i h
    have hxy : x = y := by simpa using h
    refine ih () hlt (eq_step hinv hx (hxy ▸ hy)) _ _ ?_
    rw [<- w64s (by omega)]; rfl
  ·have hc : decide ((i : Int) < (a.map (GTurn.el .n)).length) = false := by simpa using hge
   repeat' (first | (apply zt1;exact rfl;(with_reducible assumption)) | (apply zt0;exact rfl;(with_reducible assumption)) | (apply zt;exact rfl) | (apply zo;exact rfl;exact rfl) | apply zn | (apply zc;exact rfl) | intro _)
   refine fin rfl ?_
   simp [eq_end hinv hlen hge]
theorem laws_eqHouse_eq (a b : GHouse) (hl : a.bulk <= 1048576) : F_laws_eqHouse [.st (a.cs .n), .st (b.cs .n)] = some ⟨[.one (.b (decide (a = b)))], []⟩ := by
 simp only [GHouse.bulk] at hl
 (refine fun_ev rfl ?_; show Ev m_laws_eqHouse.code _ _ _)
 repeat' (first | (apply zk g_laws_eqConf;exact rfl;simp only [List.map,fzl];exact rfl;exact (laws_eqConf_eq a.Conf b.Conf (by omega));exact rfl;exact rfl;exact rfl) | (apply zk g_laws_eqSeatS;exact rfl;simp only [List.map,fzl];exact rfl;exact (laws_eqSeatS_eq a.Seats b.Seats (by omega));exact rfl;exact rfl;exact rfl) | (apply zk g_laws_eqRowSS;exact rfl;simp only [List.map,fzl];exact rfl;exact (laws_eqRowSS_eq a.Rows b.Rows (by omega));exact rfl;exact rfl;exact rfl) | (apply zk g_laws_eqTurnS;exact rfl;simp only [List.map,fzl];exact rfl;exact (laws_eqTurnS_eq a.Turns b.Turns (by omega));exact rfl;exact rfl;exact rfl) | (apply zk g_laws_eqEntryS;exact rfl;simp only [List.map,fzl];exact rfl;exact (laws_eqEntryS_eq a.Root b.Root (by omega));exact rfl;exact rfl;exact rfl) | (apply zk g_laws_eqOutS;exact rfl;simp only [List.map,fzl];exact rfl;exact (laws_eqOutS_eq a.Outs b.Outs (by omega));exact rfl;exact rfl;exact rfl) | (apply zt1;exact rfl;(with_reducible assumption)) | (apply zt0;exact rfl;(with_reducible assumption)) | (apply zt;exact rfl) | (apply zo;exact rfl;exact rfl) | apply zn | (apply zc;exact rfl) | intro _)
 all_goals (refine fin rfl ?_; simp only [Out.mk.injEq, List.cons.injEq, RV.one.injEq, T.b.injEq, and_true])
 all_goals (rcases a with ⟨a0, a1, a2, a3, a4, a5, a6, a7, a8⟩; rcases b with ⟨b0, b1, b2, b3, b4, b5, b6, b7, b8⟩; simp only [GHouse.mk.injEq] at *; simp_all)
theorem laws_eqByteS_eq (a b : List UInt8) (hl : a.length <= 1048576) : F_laws_eqByteS [.x (bytes .n a), .x (bytes .n b)] = some ⟨[.one (.b (decide (a = b)))], []⟩ := by
 have hl1 := Nat.le_refl a.length
 (refine fun_ev rfl ?_; show Ev m_laws_eqByteS.code _ _ _)
 repeat' (first | (apply zt1;exact rfl;(with_reducible assumption)) | (apply zt0;exact rfl;(with_reducible assumption)) | (apply zt;exact rfl) | (apply zo;exact rfl;exact rfl) | apply zn | (apply zc;exact rfl) | intro _)
 ·refine fin rfl ?_
  rename_i h
  have h2 : a ≠ b := ne_len h
  simp [h2]
 ·have hlen : a.length = b.length := by rename_i h; exact eq_len h
  show Ev _ _ _ _
  refine ev_for (fun i (_ : Unit) => [(0, .x (bytes .n a)), (1, .x (bytes .n b)), (5, .x (iT i))]) (fun i _ => a.take i = b.take i) a.length () (by simp) rfl ?_
  intro i _ hi1 hinv ih
  rcases Nat.lt_or_ge i a.length with hlt | hge
  ·have hx := List.getElem?_eq_getElem hlt
   have hy := List.getElem?_eq_getElem (show i < b.length by omega)
   generalize a[i] = x at hx
   generalize b[i]'(by omega) = y at hy
   have hc : decide ((i : Int) < (a.map iB).length) = true := by simpa using hlt
   repeat' (first | (apply zi (iB x);exact rfl;exact rfl;exact Int.natCast_nonneg _;exact (map_at hx);exact rfl;exact rfl) | (apply zi (iB y);exact rfl;exact rfl;exact Int.natCast_nonneg _;exact (map_at hy);exact rfl;exact rfl) | (apply zt1;exact rfl;(with_reducible assumption)) | (apply zt0;exact rfl;(with_reducible assumption)) | (apply zt;exact rfl) | (apply zo;exact rfl;exact rfl) | apply zn | (apply zc;exact rfl) | intro _)
   ·refine fin rfl ?_
    rename_i h
    have h2 : a ≠ b := ne_at hx hy (by simpa [iB_eq] using h)
    simp [h2]
   ·rename_i h
    have hxy : x = y := by simpa [iB_eq] using h
    refine ih () hlt (eq_step hinv hx (hxy ▸ hy)) _ _ ?_
    rw [<- w64s (by omega)]; rfl
  ·have hc : decide ((i : Int) < (a.map iB).length) = false := by simpa using hge
   repeat' (first | (apply zt1;exact rfl;(with_reducible assumption)) | (apply zt0;exact rfl;(with_reducible assumption)) | (apply zt;exact rfl) | (apply zo;exact rfl;exact rfl) | apply zn | (apply zc;exact rfl) | intro _)
   refine fin rfl ?_
   simp [eq_end hinv hlen hge]
theorem laws_eqPack_eq (a b : GPack) (hl : a.bulk <= 1048576) : F_laws_eqPack [.st (a.cs .n), .st (b.cs .n)] = some ⟨[.one (.b (decide (a = b)))], []⟩ := by
 simp only [GPack.bulk] at hl
 (refine fun_ev rfl ?_; show Ev m_laws_eqPack.code _ _ _)
 repeat' (first | (apply zk g_laws_eqByteS;exact rfl;simp only [List.map,fzl];exact rfl;exact (laws_eqByteS_eq a.Bytes b.Bytes (by omega));exact rfl;exact rfl;exact rfl) | (apply zt1;exact rfl;(with_reducible assumption)) | (apply zt0;exact rfl;(with_reducible assumption)) | (apply zt;exact rfl) | (apply zo;exact rfl;exact rfl) | apply zn | (apply zc;exact rfl) | intro _)
 all_goals (refine fin rfl ?_; simp only [Out.mk.injEq, List.cons.injEq, RV.one.injEq, T.b.injEq, and_true])
 all_goals (rcases a with ⟨a0, a1, a2⟩; rcases b with ⟨b0, b1, b2⟩; simp only [GPack.mk.injEq] at *; simp_all)
theorem laws_eqPackS_eq (a b : List GPack) (hl : bulks GPack.bulk a <= 1048576) : F_laws_eqPackS [.x (GPack.ls .n a), .x (GPack.ls .n b)] = some ⟨[.one (.b (decide (a = b)))], []⟩ := by
 have hl1 := bulks_len GPack.bulk a
 (refine fun_ev rfl ?_; show Ev m_laws_eqPackS.code _ _ _)
 repeat' (first | (apply zt1;exact rfl;(with_reducible assumption)) | (apply zt0;exact rfl;(with_reducible assumption)) | (apply zt;exact rfl) | (apply zo;exact rfl;exact rfl) | apply zn | (apply zc;exact rfl) | intro _)
 ·refine fin rfl ?_
  rename_i h
  have h2 : a ≠ b := ne_len h
  simp [h2]
 ·have hlen : a.length = b.length := by rename_i h; exact eq_len h
  show Ev _ _ _ _
  refine ev_for (fun i (_ : Unit) => [(0, .x (GPack.ls .n a)), (1, .x (GPack.ls .n b)), (5, .x (iT i))]) (fun i _ => a.take i = b.take i) a.length () (by simp) rfl ?_
  intro i _ hi1 hinv ih
  rcases Nat.lt_or_ge i a.length with hlt | hge
  ·have hx := List.getElem?_eq_getElem hlt
   have hy := List.getElem?_eq_getElem (show i < b.length by omega)
   generalize a[i] = x at hx
   generalize b[i]'(by omega) = y at hy
   have hc : decide ((i : Int) < (a.map (GPack.el .n)).length) = true := by simpa using hlt
   repeat' (first | (apply zi ((GPack.el .n) x);exact rfl;exact rfl;exact Int.natCast_nonneg _;exact (map_at hx);exact rfl;exact rfl) | (apply zi ((GPack.el .n) y);exact rfl;exact rfl;exact Int.natCast_nonneg _;exact (map_at hy);exact rfl;exact rfl) | (apply zk g_laws_eqPack;exact rfl;simp only [List.map,fzl];exact rfl;exact (laws_eqPack_eq x y (by have := bulks_mem (f := GPack.bulk) hx; omega));exact rfl;exact rfl;exact rfl) | (apply zt1;exact rfl;(with_reducible assumption)) | (apply zt0;exact rfl;(with_reducible assumption)) | (apply zt;exact rfl) | (apply zo;exact rfl;exact rfl) | apply zn | (apply zc;exact rfl) | intro _)
   ·refine fin rfl ?_
    rename_i h
    have h2 : a ≠ b := ne_at hx hy (by simpa using h)
    simp [h2]
   ·rename_i h
    have hxy : x = y := by simpa using h
    refine ih () hlt (eq_step hinv hx (hxy ▸ hy)) _ _ ?_
    rw [<- w64s (by omega)]; rfl
  ·have hc : decide ((i : Int) < (a.map (GPack.el .n)).length) = false := by simpa using hge
   repeat' (first | (apply zt1;exact rfl;(with_reducible assumption)) | (apply zt0;exact rfl;(with_reducible assumption)) | (apply zt;exact rfl) | (apply zo;exact rfl;exact rfl) | apply zn | (apply zc;exact rfl) | intro _)
   refine fin rfl ?_
   simp [eq_end hinv hlen hge]
theorem laws_eqWorld_eq (a b : GWorld) (hl : a.bulk <= 1048576) : F_laws_eqWorld [.st (a.cs .n), .st (b.cs .n)] = some ⟨[.one (.b (decide (a = b)))], []⟩ := by
 simp only [GWorld.bulk] at hl
 (refine fun_ev rfl ?_; show Ev m_laws_eqWorld.code _ _ _)
 repeat' (first | (apply zk g_laws_eqAgentS;exact rfl;simp only [List.map,fzl];exact rfl;exact (laws_eqAgentS_eq a.Agents b.Agents (by omega));exact rfl;exact rfl;exact rfl) | (apply zk g_laws_eqHouse;exact rfl;simp only [List.map,fzl];exact rfl;exact (laws_eqHouse_eq a.House b.House (by omega));exact rfl;exact rfl;exact rfl) | (apply zk g_laws_eqPackS;exact rfl;simp only [List.map,fzl];exact rfl;exact (laws_eqPackS_eq a.Net b.Net (by omega));exact rfl;exact rfl;exact rfl) | (apply zt1;exact rfl;(with_reducible assumption)) | (apply zt0;exact rfl;(with_reducible assumption)) | (apply zt;exact rfl) | (apply zo;exact rfl;exact rfl) | apply zn | (apply zc;exact rfl) | intro _)
 all_goals (refine fin rfl ?_; simp only [Out.mk.injEq, List.cons.injEq, RV.one.injEq, T.b.injEq, and_true])
 all_goals (rcases a with ⟨a0, a1, a2⟩; rcases b with ⟨b0, b1, b2⟩; simp only [GWorld.mk.injEq] at *; simp_all)
end Go.Wr

