/-
  What is proved: lemmas on the way to the laws of this seat. No condition.
-/
import Derived.Test.YtbghjecopkbhlaaGreatMa
import Derived.Test.YtbghjecopkbhlaaGreatTa
set_option linter.unusedVariables false
set_option linter.unusedSimpArgs false
namespace Go.Wr
set_option maxRecDepth 20000
theorem kS (l : List Int) (n : Int) (hn : Rng n) (hl : l.length <= maxLen) : ky [.x (ints .n l), .x (iT n)] = some ⟨[.one (iT (left n (l.length)))], []⟩ := by
 have e := Zlx (f := iT) hn hl
 (refine Z6j rfl ?_; show Ev uO.code _ _ _)
 repeat' (first | refine yt1 ?_ | refine yt0 ?_ | refine yt ?_ ?_ | refine yo ?_ | apply zn | refine yc ?_ | intro _)
 all_goals (refine fin rfl ?_; rename_i h; rw [e] at h; simp only [e, decide_eq_true_eq, decide_eq_false_iff_not] at h ⊢)
 ·rw [left, if_pos (by omega)]
 ·rw [left, if_neg (by omega)]
theorem FD (x : aN) (n : Int) (hn : Rng n) (hl : x.fit) : uQ [.st (x.cs .n), .x (iT n)] = some ⟨[.one (iT (left n x.ae))], []⟩ := by
 have f0 := hl
 (refine Z6j rfl ?_; show Ev uP.code _ _ _)
 repeat' (first | (apply zk gX;exact rfl;simp only [List.map,fzl];exact rfl;exact (kS x.bY _ (by repeat (first | assumption | apply Z9r)) f0);exact rfl;exact rfl;exact rfl) | refine yt1 ?_ | refine yt0 ?_ | refine yt ?_ ?_ | refine yo ?_ | apply zn | refine yc ?_ | intro _)
 all_goals (refine fin rfl ?_; unfold aN.ae; grind [left, Rng])
theorem FE (l : List (List Int)) (n : Int) (hn : Rng n) (hl : fits (fun l => l.length <= maxLen) l) : uS [.x (dE.lss .n l), .x (iT n)] = some ⟨[.one (iT (left n (aF List.length l)))], []⟩ := by
 have hl1 := hl.1
 have e := Zlx (f := (ints .n)) hn hl.1
 (refine Z6j rfl ?_; show Ev uR.code _ _ _)
 repeat' (first | refine yt1 ?_ | refine yt0 ?_ | refine yt ?_ ?_ | refine yo ?_ | apply zn | refine yc ?_ | intro _)
 ·refine fin rfl ?_
  rename_i h
  have h2 := Z1t List.length l
  rw [e] at h
  simp only [decide_eq_true_eq] at h
  rw [left, if_pos (by omega)]
 ·rename_i h
  rw [e] at h
  simp only [decide_eq_false_iff_not] at h
  show Ev _ _ _ _
  refine Z3v (fun i (x : Int) => [(0, .x (dE.lss .n l)), (1, .x (iT x)), (5, .x (iT i))]) (fun i x => x = n - l.length - pre List.length l i /\ 0 <= x) l.length (n - l.length) ⟨by rw [Zda]; omega, by omega⟩ (by rw [e]; rfl) ?_
  intro i x hi1 hinv ih
  obtain ⟨hx0, hx1⟩ := hinv
  rcases Y79 i l.length with hlt | hge
  ·have hx := Y34 hlt
   generalize l[i] = y at hx
   have hc : decide ((i : Int) < (l.map (ints .n)).length) = true := by simpa using hlt
   repeat' (first | refine yi ((ints .n) y) (Zar hx) ?_ | refine yv gX (kS y x (by unfold Rng at *; omega) (hl.2 y (Y62 hx))) ?_ | refine yt1 ?_ | refine yt0 ?_ | refine yt ?_ ?_ | refine yo ?_ | apply zn | refine yc ?_ | intro _)
   ·refine fin rfl ?_
    rename_i h3
    have h4 := Zd8 (f := List.length) (l := l) (i := i + 1)
    rw [Zd9 hx] at h4
    have h5 := Z9p (by unfold Rng at *; omega) h3 (Nat.le_refl _)
    unfold left at h5 ⊢
    split at h5 <;> first | (rw [if_pos (by omega)]; done) | omega
   ·rename_i h3
    have h4 := Z9q (by unfold Rng at *; omega) h3
    refine ih (x - y.length) hlt ⟨?_, ?_⟩ _ _ ?_
    ·rw [Zd9 hx]; omega
    ·omega
    ·rw [<- aM (by unfold maxLen at hl1; omega), <- h4.1]; rfl
  ·have hc : decide ((i : Int) < (l.map (ints .n)).length) = false := by simpa using hge
   repeat' (first | refine yt1 ?_ | refine yt0 ?_ | refine yt ?_ ?_ | refine yo ?_ | apply zn | refine yc ?_ | intro _)
   refine fin rfl ?_
   have h4 := Zd7 (f := List.length) hge
   rw [left, if_neg (by omega)]
   simp only [hx0, RV.one.injEq, Out.mk.injEq, Y23, T.i.injEq, and_true, true_and]
   omega
theorem y7 (x : ag) (n : Int) (hn : Rng n) (hl : x.fit) : oz [.st (x.cs .n), .x (iT n)] = some ⟨[.one (iT (left n x.ae))], []⟩ := by
 obtain ⟨f0, f1, f2⟩ := hl
 (refine Z6j rfl ?_; show Ev uT.code _ _ _)
 repeat' (first | (apply zk gX;exact rfl;simp only [List.map,fzl];exact rfl;exact (kS x.aW _ (by repeat (first | assumption | apply Z9r)) f0);exact rfl;exact rfl;exact rfl) | (apply zk gX;exact rfl;simp only [List.map,fzl];exact rfl;exact (kS x.aT _ (by repeat (first | assumption | apply Z9r)) f1);exact rfl;exact rfl;exact rfl) | (apply zk rN;exact rfl;simp only [List.map,fzl];exact rfl;exact (FE x.Rows _ (by repeat (first | assumption | apply Z9r)) f2);exact rfl;exact rfl;exact rfl) | refine yt1 ?_ | refine yt0 ?_ | refine yt ?_ ?_ | refine yo ?_ | apply zn | refine yc ?_ | intro _)
 all_goals (refine fin rfl ?_; unfold ag.ae; grind [left, Rng])
theorem pM (l : List aa) (n : Int) (hn : Rng n) (hl : fits aa.fit l) : mV [.x (aa.ls .n l), .x (iT n)] = some ⟨[.one (iT (left n (l.length)))], []⟩ := by
 have e := Zlx (f := (aa.el .n)) hn hl.1
 (refine Z6j rfl ?_; show Ev uU.code _ _ _)
 repeat' (first | refine yt1 ?_ | refine yt0 ?_ | refine yt ?_ ?_ | refine yo ?_ | apply zn | refine yc ?_ | intro _)
 all_goals (refine fin rfl ?_; rename_i h; rw [e] at h; simp only [e, decide_eq_true_eq, decide_eq_false_iff_not] at h ⊢)
 ·rw [left, if_pos (by omega)]
 ·rw [left, if_neg (by omega)]
theorem y8 (x : ab) (n : Int) (hn : Rng n) (hl : x.fit) : oA [.st (x.cs .n), .x (iT n)] = some ⟨[.one (iT (left n x.ae))], []⟩ := by
 obtain ⟨f0, f1⟩ := hl
 (refine Z6j rfl ?_; show Ev uV.code _ _ _)
 repeat' (first | (apply zk kj;exact rfl;simp only [List.map,fzl];exact rfl;exact (pM x.Ids _ (by repeat (first | assumption | apply Z9r)) f0);exact rfl;exact rfl;exact rfl) | (apply zk mB;exact rfl;simp only [List.map,fzl];exact rfl;exact (y7 x.aj _ (by repeat (first | assumption | apply Z9r)) f1);exact rfl;exact rfl;exact rfl) | refine yt1 ?_ | refine yt0 ?_ | refine yt ?_ ?_ | refine yo ?_ | apply zn | refine yc ?_ | intro _)
 all_goals (refine fin rfl ?_; unfold ab.ae; grind [left, Rng])
theorem y9 (l : List ab) (n : Int) (hn : Rng n) (hl : fits ab.fit l) : oB [.x (ab.ls .n l), .x (iT n)] = some ⟨[.one (iT (left n (aF ab.ae l)))], []⟩ := by
 have hl1 := hl.1
 have e := Zlx (f := (ab.el .n)) hn hl.1
 (refine Z6j rfl ?_; show Ev uW.code _ _ _)
 repeat' (first | refine yt1 ?_ | refine yt0 ?_ | refine yt ?_ ?_ | refine yo ?_ | apply zn | refine yc ?_ | intro _)
 ·refine fin rfl ?_
  rename_i h
  have h2 := Z1t ab.ae l
  rw [e] at h
  simp only [decide_eq_true_eq] at h
  rw [left, if_pos (by omega)]
 ·rename_i h
  rw [e] at h
  simp only [decide_eq_false_iff_not] at h
  show Ev _ _ _ _
  refine Z3v (fun i (x : Int) => [(0, .x (ab.ls .n l)), (1, .x (iT x)), (5, .x (iT i))]) (fun i x => x = n - l.length - pre ab.ae l i /\ 0 <= x) l.length (n - l.length) ⟨by rw [Zda]; omega, by omega⟩ (by rw [e]; rfl) ?_
  intro i x hi1 hinv ih
  obtain ⟨hx0, hx1⟩ := hinv
  rcases Y79 i l.length with hlt | hge
  ·have hx := Y34 hlt
   generalize l[i] = y at hx
   have hc : decide ((i : Int) < (l.map (ab.el .n)).length) = true := by simpa using hlt
   repeat' (first | refine yi ((ab.el .n) y) (Zar hx) ?_ | refine yv mC (y8 y x (by unfold Rng at *; omega) (hl.2 y (Y62 hx))) ?_ | refine yt1 ?_ | refine yt0 ?_ | refine yt ?_ ?_ | refine yo ?_ | apply zn | refine yc ?_ | intro _)
   ·refine fin rfl ?_
    rename_i h3
    have h4 := Zd8 (f := ab.ae) (l := l) (i := i + 1)
    rw [Zd9 hx] at h4
    have h5 := Z9p (by unfold Rng at *; omega) h3 (Nat.le_refl _)
    unfold left at h5 ⊢
    split at h5 <;> first | (rw [if_pos (by omega)]; done) | omega
   ·rename_i h3
    have h4 := Z9q (by unfold Rng at *; omega) h3
    refine ih (x - y.ae) hlt ⟨?_, ?_⟩ _ _ ?_
    ·rw [Zd9 hx]; omega
    ·omega
    ·rw [<- aM (by unfold maxLen at hl1; omega), <- h4.1]; rfl
  ·have hc : decide ((i : Int) < (l.map (ab.el .n)).length) = false := by simpa using hge
   repeat' (first | refine yt1 ?_ | refine yt0 ?_ | refine yt ?_ ?_ | refine yo ?_ | apply zn | refine yc ?_ | intro _)
   refine fin rfl ?_
   have h4 := Zd7 (f := ab.ae) hge
   rw [left, if_neg (by omega)]
   simp only [hx0, RV.one.injEq, Out.mk.injEq, Y23, T.i.injEq, and_true, true_and]
   omega
theorem FF (x : ay) (n : Int) (hn : Rng n) (hl : x.fit) : uY [.st (x.cs .n), .x (iT n)] = some ⟨[.one (iT (left n x.ae))], []⟩ := by
 have f0 := hl
 (refine Z6j rfl ?_; show Ev uX.code _ _ _)
 repeat' (first | (apply zk mC;exact rfl;simp only [List.map,fzl];exact rfl;exact (y8 x.aL _ (by repeat (first | assumption | apply Z9r)) f0);exact rfl;exact rfl;exact rfl) | refine yt1 ?_ | refine yt0 ?_ | refine yt ?_ ?_ | refine yo ?_ | apply zn | refine yc ?_ | intro _)
 all_goals (refine fin rfl ?_; unfold ay.ae; grind [left, Rng])
theorem FG (l : List ay) (n : Int) (hn : Rng n) (hl : fits ay.fit l) : u0 [.x (ay.ls .n l), .x (iT n)] = some ⟨[.one (iT (left n (aF ay.ae l)))], []⟩ := by
 have hl1 := hl.1
 have e := Zlx (f := (ay.el .n)) hn hl.1
 (refine Z6j rfl ?_; show Ev uZ.code _ _ _)
 repeat' (first | refine yt1 ?_ | refine yt0 ?_ | refine yt ?_ ?_ | refine yo ?_ | apply zn | refine yc ?_ | intro _)
 ·refine fin rfl ?_
  rename_i h
  have h2 := Z1t ay.ae l
  rw [e] at h
  simp only [decide_eq_true_eq] at h
  rw [left, if_pos (by omega)]
 ·rename_i h
  rw [e] at h
  simp only [decide_eq_false_iff_not] at h
  show Ev _ _ _ _
  refine Z3v (fun i (x : Int) => [(0, .x (ay.ls .n l)), (1, .x (iT x)), (5, .x (iT i))]) (fun i x => x = n - l.length - pre ay.ae l i /\ 0 <= x) l.length (n - l.length) ⟨by rw [Zda]; omega, by omega⟩ (by rw [e]; rfl) ?_
  intro i x hi1 hinv ih
  obtain ⟨hx0, hx1⟩ := hinv
  rcases Y79 i l.length with hlt | hge
  ·have hx := Y34 hlt
   generalize l[i] = y at hx
   have hc : decide ((i : Int) < (l.map (ay.el .n)).length) = true := by simpa using hlt
   repeat' (first | refine yi ((ay.el .n) y) (Zar hx) ?_ | refine yv rO (FF y x (by unfold Rng at *; omega) (hl.2 y (Y62 hx))) ?_ | refine yt1 ?_ | refine yt0 ?_ | refine yt ?_ ?_ | refine yo ?_ | apply zn | refine yc ?_ | intro _)
   ·refine fin rfl ?_
    rename_i h3
    have h4 := Zd8 (f := ay.ae) (l := l) (i := i + 1)
    rw [Zd9 hx] at h4
    have h5 := Z9p (by unfold Rng at *; omega) h3 (Nat.le_refl _)
    unfold left at h5 ⊢
    split at h5 <;> first | (rw [if_pos (by omega)]; done) | omega
   ·rename_i h3
    have h4 := Z9q (by unfold Rng at *; omega) h3
    refine ih (x - y.ae) hlt ⟨?_, ?_⟩ _ _ ?_
    ·rw [Zd9 hx]; omega
    ·omega
    ·rw [<- aM (by unfold maxLen at hl1; omega), <- h4.1]; rfl
  ·have hc : decide ((i : Int) < (l.map (ay.el .n)).length) = false := by simpa using hge
   repeat' (first | refine yt1 ?_ | refine yt0 ?_ | refine yt ?_ ?_ | refine yo ?_ | apply zn | refine yc ?_ | intro _)
   refine fin rfl ?_
   have h4 := Zd7 (f := ay.ae) hge
   rw [left, if_neg (by omega)]
   simp only [hx0, RV.one.injEq, Out.mk.injEq, Y23, T.i.injEq, and_true, true_and]
   omega
theorem FH (x : ai) (n : Int) (hn : Rng n) (hl : x.fit) : u5 [.st (x.cs .n), .x (iT n)] = some ⟨[.one (iT (left n x.ae))], []⟩ := by
 have f0 := hl
 (refine Z6j rfl ?_; show Ev u4.code _ _ _)
 repeat' (first | (apply zk mD;exact rfl;simp only [List.map,fzl];exact rfl;exact (y9 x.Lst _ (by repeat (first | assumption | apply Z9r)) f0);exact rfl;exact rfl;exact rfl) | refine yt1 ?_ | refine yt0 ?_ | refine yt ?_ ?_ | refine yo ?_ | apply zn | refine yc ?_ | intro _)
 all_goals (refine fin rfl ?_; unfold ai.ae; grind [left, Rng])
theorem FI (l : List ai) (n : Int) (hn : Rng n) (hl : fits ai.fit l) : u7 [.x (ai.ls .n l), .x (iT n)] = some ⟨[.one (iT (left n (aF ai.ae l)))], []⟩ := by
 have hl1 := hl.1
 have e := Zlx (f := (ai.el .n)) hn hl.1
 (refine Z6j rfl ?_; show Ev u6.code _ _ _)
 repeat' (first | refine yt1 ?_ | refine yt0 ?_ | refine yt ?_ ?_ | refine yo ?_ | apply zn | refine yc ?_ | intro _)
 ·refine fin rfl ?_
  rename_i h
  have h2 := Z1t ai.ae l
  rw [e] at h
  simp only [decide_eq_true_eq] at h
  rw [left, if_pos (by omega)]
 ·rename_i h
  rw [e] at h
  simp only [decide_eq_false_iff_not] at h
  show Ev _ _ _ _
  refine Z3v (fun i (x : Int) => [(0, .x (ai.ls .n l)), (1, .x (iT x)), (5, .x (iT i))]) (fun i x => x = n - l.length - pre ai.ae l i /\ 0 <= x) l.length (n - l.length) ⟨by rw [Zda]; omega, by omega⟩ (by rw [e]; rfl) ?_
  intro i x hi1 hinv ih
  obtain ⟨hx0, hx1⟩ := hinv
  rcases Y79 i l.length with hlt | hge
  ·have hx := Y34 hlt
   generalize l[i] = y at hx
   have hc : decide ((i : Int) < (l.map (ai.el .n)).length) = true := by simpa using hlt
   repeat' (first | refine yi ((ai.el .n) y) (Zar hx) ?_ | refine yv rQ (FH y x (by unfold Rng at *; omega) (hl.2 y (Y62 hx))) ?_ | refine yt1 ?_ | refine yt0 ?_ | refine yt ?_ ?_ | refine yo ?_ | apply zn | refine yc ?_ | intro _)
   ·refine fin rfl ?_
    rename_i h3
    have h4 := Zd8 (f := ai.ae) (l := l) (i := i + 1)
    rw [Zd9 hx] at h4
    have h5 := Z9p (by unfold Rng at *; omega) h3 (Nat.le_refl _)
    unfold left at h5 ⊢
    split at h5 <;> first | (rw [if_pos (by omega)]; done) | omega
   ·rename_i h3
    have h4 := Z9q (by unfold Rng at *; omega) h3
    refine ih (x - y.ae) hlt ⟨?_, ?_⟩ _ _ ?_
    ·rw [Zd9 hx]; omega
    ·omega
    ·rw [<- aM (by unfold maxLen at hl1; omega), <- h4.1]; rfl
  ·have hc : decide ((i : Int) < (l.map (ai.el .n)).length) = false := by simpa using hge
   repeat' (first | refine yt1 ?_ | refine yt0 ?_ | refine yt ?_ ?_ | refine yo ?_ | apply zn | refine yc ?_ | intro _)
   refine fin rfl ?_
   have h4 := Zd7 (f := ai.ae) hge
   rw [left, if_neg (by omega)]
   simp only [hx0, RV.one.injEq, Out.mk.injEq, Y23, T.i.injEq, and_true, true_and]
   omega
theorem FJ (l : List (List ai)) (n : Int) (hn : Rng n) (hl : fits (fits ai.fit) l) : va [.x (ai.lss .n l), .x (iT n)] = some ⟨[.one (iT (left n (aF (aF ai.ae) l)))], []⟩ := by
 have hl1 := hl.1
 have e := Zlx (f := (ai.ls .n)) hn hl.1
 (refine Z6j rfl ?_; show Ev u9.code _ _ _)
 repeat' (first | refine yt1 ?_ | refine yt0 ?_ | refine yt ?_ ?_ | refine yo ?_ | apply zn | refine yc ?_ | intro _)
 ·refine fin rfl ?_
  rename_i h
  have h2 := Z1t (aF ai.ae) l
  rw [e] at h
  simp only [decide_eq_true_eq] at h
  rw [left, if_pos (by omega)]
 ·rename_i h
  rw [e] at h
  simp only [decide_eq_false_iff_not] at h
  show Ev _ _ _ _
  refine Z3v (fun i (x : Int) => [(0, .x (ai.lss .n l)), (1, .x (iT x)), (5, .x (iT i))]) (fun i x => x = n - l.length - pre (aF ai.ae) l i /\ 0 <= x) l.length (n - l.length) ⟨by rw [Zda]; omega, by omega⟩ (by rw [e]; rfl) ?_
  intro i x hi1 hinv ih
  obtain ⟨hx0, hx1⟩ := hinv
  rcases Y79 i l.length with hlt | hge
  ·have hx := Y34 hlt
   generalize l[i] = y at hx
   have hc : decide ((i : Int) < (l.map (ai.ls .n)).length) = true := by simpa using hlt
   repeat' (first | refine yi ((ai.ls .n) y) (Zar hx) ?_ | refine yv rR (FI y x (by unfold Rng at *; omega) (hl.2 y (Y62 hx))) ?_ | refine yt1 ?_ | refine yt0 ?_ | refine yt ?_ ?_ | refine yo ?_ | apply zn | refine yc ?_ | intro _)
   ·refine fin rfl ?_
    rename_i h3
    have h4 := Zd8 (f := (aF ai.ae)) (l := l) (i := i + 1)
    rw [Zd9 hx] at h4
    have h5 := Z9p (by unfold Rng at *; omega) h3 (Nat.le_refl _)
    unfold left at h5 ⊢
    split at h5 <;> first | (rw [if_pos (by omega)]; done) | omega
   ·rename_i h3
    have h4 := Z9q (by unfold Rng at *; omega) h3
    refine ih (x - aF ai.ae y) hlt ⟨?_, ?_⟩ _ _ ?_
    ·rw [Zd9 hx]; omega
    ·omega
    ·rw [<- aM (by unfold maxLen at hl1; omega), <- h4.1]; rfl
  ·have hc : decide ((i : Int) < (l.map (ai.ls .n)).length) = false := by simpa using hge
   repeat' (first | refine yt1 ?_ | refine yt0 ?_ | refine yt ?_ ?_ | refine yo ?_ | apply zn | refine yc ?_ | intro _)
   refine fin rfl ?_
   have h4 := Zd7 (f := (aF ai.ae)) hge
   rw [left, if_neg (by omega)]
   simp only [hx0, RV.one.injEq, Out.mk.injEq, Y23, T.i.injEq, and_true, true_and]
   omega
theorem FK (x : al) (n : Int) (hn : Rng n) (hl : x.fit) : vc [.st (x.cs .n), .x (iT n)] = some ⟨[.one (iT (left n x.ae))], []⟩ := by
 have f0 := hl
 (refine Z6j rfl ?_; show Ev vb.code _ _ _)
 repeat' (first | (apply zk kj;exact rfl;simp only [List.map,fzl];exact rfl;exact (pM x.aJ _ (by repeat (first | assumption | apply Z9r)) f0);exact rfl;exact rfl;exact rfl) | refine yt1 ?_ | refine yt0 ?_ | refine yt ?_ ?_ | refine yo ?_ | apply zn | refine yc ?_ | intro _)
 all_goals (refine fin rfl ?_; unfold al.ae; grind [left, Rng])
theorem FL (l : List al) (n : Int) (hn : Rng n) (hl : fits al.fit l) : ve [.x (al.ls .n l), .x (iT n)] = some ⟨[.one (iT (left n (aF al.ae l)))], []⟩ := by
 have hl1 := hl.1
 have e := Zlx (f := (al.el .n)) hn hl.1
 (refine Z6j rfl ?_; show Ev vd.code _ _ _)
 repeat' (first | refine yt1 ?_ | refine yt0 ?_ | refine yt ?_ ?_ | refine yo ?_ | apply zn | refine yc ?_ | intro _)
 ·refine fin rfl ?_
  rename_i h
  have h2 := Z1t al.ae l
  rw [e] at h
  simp only [decide_eq_true_eq] at h
  rw [left, if_pos (by omega)]
 ·rename_i h
  rw [e] at h
  simp only [decide_eq_false_iff_not] at h
  show Ev _ _ _ _
  refine Z3v (fun i (x : Int) => [(0, .x (al.ls .n l)), (1, .x (iT x)), (5, .x (iT i))]) (fun i x => x = n - l.length - pre al.ae l i /\ 0 <= x) l.length (n - l.length) ⟨by rw [Zda]; omega, by omega⟩ (by rw [e]; rfl) ?_
  intro i x hi1 hinv ih
  obtain ⟨hx0, hx1⟩ := hinv
  rcases Y79 i l.length with hlt | hge
  ·have hx := Y34 hlt
   generalize l[i] = y at hx
   have hc : decide ((i : Int) < (l.map (al.el .n)).length) = true := by simpa using hlt
   repeat' (first | refine yi ((al.el .n) y) (Zar hx) ?_ | refine yv rT (FK y x (by unfold Rng at *; omega) (hl.2 y (Y62 hx))) ?_ | refine yt1 ?_ | refine yt0 ?_ | refine yt ?_ ?_ | refine yo ?_ | apply zn | refine yc ?_ | intro _)
   ·refine fin rfl ?_
    rename_i h3
    have h4 := Zd8 (f := al.ae) (l := l) (i := i + 1)
    rw [Zd9 hx] at h4
    have h5 := Z9p (by unfold Rng at *; omega) h3 (Nat.le_refl _)
    unfold left at h5 ⊢
    split at h5 <;> first | (rw [if_pos (by omega)]; done) | omega
   ·rename_i h3
    have h4 := Z9q (by unfold Rng at *; omega) h3
    refine ih (x - y.ae) hlt ⟨?_, ?_⟩ _ _ ?_
    ·rw [Zd9 hx]; omega
    ·omega
    ·rw [<- aM (by unfold maxLen at hl1; omega), <- h4.1]; rfl
  ·have hc : decide ((i : Int) < (l.map (al.el .n)).length) = false := by simpa using hge
   repeat' (first | refine yt1 ?_ | refine yt0 ?_ | refine yt ?_ ?_ | refine yo ?_ | apply zn | refine yc ?_ | intro _)
   refine fin rfl ?_
   have h4 := Zd7 (f := al.ae) hge
   rw [left, if_neg (by omega)]
   simp only [hx0, RV.one.injEq, Out.mk.injEq, Y23, T.i.injEq, and_true, true_and]
   omega
theorem FM (x : au) (n : Int) (hn : Rng n) (hl : x.fit) : vg [.st (x.cs .n), .x (iT n)] = some ⟨[.one (iT (left n x.ae))], []⟩ := by
 have f0 := hl
 (refine Z6j rfl ?_; show Ev vf.code _ _ _)
 repeat' (first | (apply zk gX;exact rfl;simp only [List.map,fzl];exact rfl;exact (kS x.Left _ (by repeat (first | assumption | apply Z9r)) f0);exact rfl;exact rfl;exact rfl) | refine yt1 ?_ | refine yt0 ?_ | refine yt ?_ ?_ | refine yo ?_ | apply zn | refine yc ?_ | intro _)
 all_goals (refine fin rfl ?_; unfold au.ae; grind [left, Rng])
theorem FN (l : List au) (n : Int) (hn : Rng n) (hl : fits au.fit l) : vi [.x (au.ls .n l), .x (iT n)] = some ⟨[.one (iT (left n (aF au.ae l)))], []⟩ := by
 have hl1 := hl.1
 have e := Zlx (f := (au.el .n)) hn hl.1
 (refine Z6j rfl ?_; show Ev vh.code _ _ _)
 repeat' (first | refine yt1 ?_ | refine yt0 ?_ | refine yt ?_ ?_ | refine yo ?_ | apply zn | refine yc ?_ | intro _)
 ·refine fin rfl ?_
  rename_i h
  have h2 := Z1t au.ae l
  rw [e] at h
  simp only [decide_eq_true_eq] at h
  rw [left, if_pos (by omega)]
 ·rename_i h
  rw [e] at h
  simp only [decide_eq_false_iff_not] at h
  show Ev _ _ _ _
  refine Z3v (fun i (x : Int) => [(0, .x (au.ls .n l)), (1, .x (iT x)), (5, .x (iT i))]) (fun i x => x = n - l.length - pre au.ae l i /\ 0 <= x) l.length (n - l.length) ⟨by rw [Zda]; omega, by omega⟩ (by rw [e]; rfl) ?_
  intro i x hi1 hinv ih
  obtain ⟨hx0, hx1⟩ := hinv
  rcases Y79 i l.length with hlt | hge
  ·have hx := Y34 hlt
   generalize l[i] = y at hx
   have hc : decide ((i : Int) < (l.map (au.el .n)).length) = true := by simpa using hlt
   repeat' (first | refine yi ((au.el .n) y) (Zar hx) ?_ | refine yv rV (FM y x (by unfold Rng at *; omega) (hl.2 y (Y62 hx))) ?_ | refine yt1 ?_ | refine yt0 ?_ | refine yt ?_ ?_ | refine yo ?_ | apply zn | refine yc ?_ | intro _)
   ·refine fin rfl ?_
    rename_i h3
    have h4 := Zd8 (f := au.ae) (l := l) (i := i + 1)
    rw [Zd9 hx] at h4
    have h5 := Z9p (by unfold Rng at *; omega) h3 (Nat.le_refl _)
    unfold left at h5 ⊢
    split at h5 <;> first | (rw [if_pos (by omega)]; done) | omega
   ·rename_i h3
    have h4 := Z9q (by unfold Rng at *; omega) h3
    refine ih (x - y.ae) hlt ⟨?_, ?_⟩ _ _ ?_
    ·rw [Zd9 hx]; omega
    ·omega
    ·rw [<- aM (by unfold maxLen at hl1; omega), <- h4.1]; rfl
  ·have hc : decide ((i : Int) < (l.map (au.el .n)).length) = false := by simpa using hge
   repeat' (first | refine yt1 ?_ | refine yt0 ?_ | refine yt ?_ ?_ | refine yo ?_ | apply zn | refine yc ?_ | intro _)
   refine fin rfl ?_
   have h4 := Zd7 (f := au.ae) hge
   rw [left, if_neg (by omega)]
   simp only [hx0, RV.one.injEq, Out.mk.injEq, Y23, T.i.injEq, and_true, true_and]
   omega
theorem pN (x : ao) (n : Int) (hn : Rng n) (hl : x.fit) : mW [.st (x.cs .n), .x (iT n)] = some ⟨[.one (iT (left n x.ae))], []⟩ := by
 obtain ⟨f0, f1, f2, f3, f4, f5⟩ := hl
 (refine Z6j rfl ?_; show Ev vj.code _ _ _)
 repeat' (first | (apply zk rM;exact rfl;simp only [List.map,fzl];exact rfl;exact (FD x.bP _ (by repeat (first | assumption | apply Z9r)) f0);exact rfl;exact rfl;exact rfl) | (apply zk rU;exact rfl;simp only [List.map,fzl];exact rfl;exact (FL x.aO _ (by repeat (first | assumption | apply Z9r)) f1);exact rfl;exact rfl;exact rfl) | (apply zk rS;exact rfl;simp only [List.map,fzl];exact rfl;exact (FJ x.Rows _ (by repeat (first | assumption | apply Z9r)) f2);exact rfl;exact rfl;exact rfl) | (apply zk rW;exact rfl;simp only [List.map,fzl];exact rfl;exact (FN x.bX _ (by repeat (first | assumption | apply Z9r)) f3);exact rfl;exact rfl;exact rfl) | (apply zk mD;exact rfl;simp only [List.map,fzl];exact rfl;exact (y9 x.aH _ (by repeat (first | assumption | apply Z9r)) f4);exact rfl;exact rfl;exact rfl) | (apply zk rP;exact rfl;simp only [List.map,fzl];exact rfl;exact (FG x.aY _ (by repeat (first | assumption | apply Z9r)) f5);exact rfl;exact rfl;exact rfl) | refine yt1 ?_ | refine yt0 ?_ | refine yt ?_ ?_ | refine yo ?_ | apply zn | refine yc ?_ | intro _)
 all_goals (refine fin rfl ?_; unfold ao.ae; grind [left, Rng])
end Go.Wr
namespace Go.Wr
set_option maxRecDepth 20000
theorem kT (l : List Int) (hl : l.length <= 1048576) : kz [.x (ints .n l)] = some ⟨[.one (ints .y l)], []⟩ := by
 have hl1 := Nat.le_refl l.length
 (refine Z6j rfl ?_; show Ev vk.code _ _ _)
 repeat' (first | (apply zs;(iterate 3 exact rfl);exact (Y16 _);exact (by simp [aS] <;> omega);exact rfl;exact rfl) | refine yt1 ?_ | refine yt0 ?_ | refine yt ?_ ?_ | refine yo ?_ | apply zn | refine yc ?_ | intro _)
 show Ev _ _ _ _
 refine Z3v (fun i (_ : Unit) => [(0, .x (ints .n l)), (3, .own ⟨0, 0, 0⟩ (.l .y 1 (fil iT (iT 0) l i))), (4, .x (iT i))]) (fun i _ => True) l.length () trivial (by rw [Z5h, <- Y45 iT]; rfl) ?_
 intro i _ hi1 _ ih
 rcases Y79 i l.length with hlt | hge
 ·have hx := Y34 hlt
  generalize l[i] = x at hx
  have hc : decide ((i : Int) < (l.map iT).length) = true := by simpa using hlt
  have hg := Z5e iT (iT 0) l hlt
  repeat' (first | refine yi (iT x) (Zar hx) ?_ | (apply zw;exact rfl;exact rfl;exact Y16 _;exact (by rw [Z5f iT (iT 0) l hi1]; omega);exact rfl;exact rfl) | (apply zS ((iT 0)) (.l .y 1 (fil iT (iT 0) l (i + 1)));(iterate 4 exact rfl);exact (by simp [T.nav, T.kid, hg]);exact (by simp [T.cb, Ob.own, hg]);exact rfl;exact (by simp [T.put, T.kid, T.aZ, T.cells, T.bO, bC, hg, <- Z5g iT (iT 0) l hx]);(iterate 3 exact rfl)) | refine yt1 ?_ | refine yt0 ?_ | refine yt ?_ ?_ | refine yo ?_ | apply zn | refine yc ?_ | intro _)
  refine ih () hlt trivial _ _ ?_
  rw [<- aM (by omega)]; rfl
 ·have hc : decide ((i : Int) < (l.map iT).length) = false := by simpa using hge
  repeat' (first | refine yt1 ?_ | refine yt0 ?_ | refine yt ?_ ?_ | refine yo ?_ | apply zn | refine yc ?_ | intro _)
  refine fin rfl ?_
  simp only [Zk0, Z5d _ _ _ hge]
theorem FX (x : aN) (hl : x.ae <= 1048576) : vm [.st (x.cs .n)] = some ⟨[.st (x.cs .y)], []⟩ := by
 simp only [aN.ae] at hl
 (refine Z6j rfl ?_; show Ev vl.code _ _ _)
 repeat' (first | refine yv gY (kT x.bY (by omega)) ?_ | refine yo ?_ | apply zn | refine yc ?_ | intro _)
 refine fin rfl ?_
 try simp only [Zk0]
 rfl
theorem FY (l : List (List Int)) (hl : aF List.length l <= 1048576) : vo [.x (dE.lss .n l)] = some ⟨[.one (dE.lss .y l)], []⟩ := by
 have hl1 := Z1t List.length l
 (refine Z6j rfl ?_; show Ev vn.code _ _ _)
 repeat' (first | (apply zs;(iterate 3 exact rfl);exact (Y16 _);exact (by simp [aS] <;> omega);exact rfl;exact rfl) | refine yt1 ?_ | refine yt0 ?_ | refine yt ?_ ?_ | refine yo ?_ | apply zn | refine yc ?_ | intro _)
 show Ev _ _ _ _
 refine Z3v (fun i (_ : Unit) => [(0, .x (dE.lss .n l)), (3, .own ⟨0, 0, 0⟩ (.l .y 1 (fil (ints .y) (.l .y 1 []) l i))), (4, .x (iT i))]) (fun i _ => True) l.length () trivial (by rw [Z5h, <- Y45 (ints .n)]; rfl) ?_
 intro i _ hi1 _ ih
 rcases Y79 i l.length with hlt | hge
 ·have hx := Y34 hlt
  generalize l[i] = x at hx
  have hc : decide ((i : Int) < (l.map (ints .n)).length) = true := by simpa using hlt
  have hg := Z5e (ints .y) (.l .y 1 []) l hlt
  repeat' (first | refine yi ((ints .n) x) (Zar hx) ?_ | (apply zw;exact rfl;exact rfl;exact Y16 _;exact (by rw [Z5f (ints .y) (.l .y 1 []) l hi1]; omega);exact rfl;exact rfl) | refine yv gY (kT x (by have := Z1v (f := List.length) hx; omega)) ?_ | (apply zS ((.l .y 1 [])) (.l .y 1 (fil (ints .y) (.l .y 1 []) l (i + 1)));(iterate 4 exact rfl);exact (by simp [T.nav, T.kid, hg]);exact (by simp [T.cb, Ob.own, hg]);exact rfl;exact (by simp [T.put, T.kid, T.aZ, T.cells, T.bO, bC, hg, <- Z5g (ints .y) (.l .y 1 []) l hx]);(iterate 3 exact rfl)) | refine yt1 ?_ | refine yt0 ?_ | refine yt ?_ ?_ | refine yo ?_ | apply zn | refine yc ?_ | intro _)
  refine ih () hlt trivial _ _ ?_
  rw [<- aM (by omega)]; rfl
 ·have hc : decide ((i : Int) < (l.map (ints .n)).length) = false := by simpa using hge
  repeat' (first | refine yt1 ?_ | refine yt0 ?_ | refine yt ?_ ?_ | refine yo ?_ | apply zn | refine yc ?_ | intro _)
  refine fin rfl ?_
  simp only [Zk0, Z5d _ _ _ hge]
theorem zb (x : ag) (hl : x.ae <= 1048576) : oC [.st (x.cs .n)] = some ⟨[.st (x.cs .y)], []⟩ := by
 simp only [ag.ae] at hl
 (refine Z6j rfl ?_; show Ev vp.code _ _ _)
 repeat' (first | refine yv gY (kT x.aW (by omega)) ?_ | refine yv gY (kT x.aT (by omega)) ?_ | refine yv rY (FY x.Rows (by omega)) ?_ | refine yo ?_ | apply zn | refine yc ?_ | intro _)
 refine fin rfl ?_
 try simp only [Zk0]
 rfl
theorem FZ (x : aa) : vr [.st (x.cs .n)] = some ⟨[.st (x.cs .y)], []⟩ := by
 (refine Z6j rfl ?_; show Ev vq.code _ _ _)
 repeat' (first | refine yo ?_ | apply zn | refine yc ?_ | intro _)
 refine fin rfl ?_
 try simp only [Zk0]
 rfl
theorem pO (l : List aa) (hl : l.length <= 1048576) : mX [.x (aa.ls .n l)] = some ⟨[.one (aa.ls .y l)], []⟩ := by
 have hl1 := Nat.le_refl l.length
 (refine Z6j rfl ?_; show Ev vu.code _ _ _)
 repeat' (first | (apply zs;(iterate 3 exact rfl);exact (Y16 _);exact (by simp [aS] <;> omega);exact rfl;exact rfl) | refine yt1 ?_ | refine yt0 ?_ | refine yt ?_ ?_ | refine yo ?_ | apply zn | refine yc ?_ | intro _)
 show Ev _ _ _ _
 refine Z3v (fun i (_ : Unit) => [(0, .x (aa.ls .n l)), (3, .own ⟨0, 0, 0⟩ (.l .y 2 (fil (aa.el .y) (.a [(iT 0), (iT 0)]) l i))), (4, .x (iT i))]) (fun i _ => True) l.length () trivial (by rw [Z5h, <- Y45 (aa.el .n)]; rfl) ?_
 intro i _ hi1 _ ih
 rcases Y79 i l.length with hlt | hge
 ·have hx := Y34 hlt
  generalize l[i] = x at hx
  have hc : decide ((i : Int) < (l.map (aa.el .n)).length) = true := by simpa using hlt
  have hg := Z5e (aa.el .y) (.a [(iT 0), (iT 0)]) l hlt
  repeat' (first | refine yi ((aa.el .n) x) (Zar hx) ?_ | (apply zw;exact rfl;exact rfl;exact Y16 _;exact (by rw [Z5f (aa.el .y) (.a [(iT 0), (iT 0)]) l hi1]; omega);exact rfl;exact rfl) | refine yv rZ (FZ x) ?_ | (apply zS ((.a [(iT 0), (iT 0)])) (.l .y 2 (fil (aa.el .y) (.a [(iT 0), (iT 0)]) l (i + 1)));(iterate 4 exact rfl);exact (by simp [T.nav, T.kid, hg]);exact (by simp [T.cb, Ob.own, hg]);exact rfl;exact (by simp [T.put, T.kid, T.aZ, T.cells, T.bO, bC, hg, <- Z5g (aa.el .y) (.a [(iT 0), (iT 0)]) l hx, aa.el, aa.cs]);(iterate 3 exact rfl)) | refine yt1 ?_ | refine yt0 ?_ | refine yt ?_ ?_ | refine yo ?_ | apply zn | refine yc ?_ | intro _)
  refine ih () hlt trivial _ _ ?_
  rw [<- aM (by omega)]; rfl
 ·have hc : decide ((i : Int) < (l.map (aa.el .n)).length) = false := by simpa using hge
  repeat' (first | refine yt1 ?_ | refine yt0 ?_ | refine yt ?_ ?_ | refine yo ?_ | apply zn | refine yc ?_ | intro _)
  refine fin rfl ?_
  simp only [Zk0, Z5d _ _ _ hge]
theorem zg (x : ab) (hl : x.ae <= 1048576) : oD [.st (x.cs .n)] = some ⟨[.st (x.cs .y)], []⟩ := by
 simp only [ab.ae] at hl
 (refine Z6j rfl ?_; show Ev vw.code _ _ _)
 repeat' (first | refine yv km (pO x.Ids (by omega)) ?_ | refine yv mE (zb x.aj (by omega)) ?_ | refine yo ?_ | apply zn | refine yc ?_ | intro _)
 refine fin rfl ?_
 try simp only [Zk0]
 rfl
theorem zh (l : List ab) (hl : aF ab.ae l <= 1048576) : oE [.x (ab.ls .n l)] = some ⟨[.one (ab.ls .y l)], []⟩ := by
 have hl1 := Z1t ab.ae l
 (refine Z6j rfl ?_; show Ev vx.code _ _ _)
 repeat' (first | (apply zs;(iterate 3 exact rfl);exact (Y16 _);exact (by simp [aS] <;> omega);exact rfl;exact rfl) | refine yt1 ?_ | refine yt0 ?_ | refine yt ?_ ?_ | refine yo ?_ | apply zn | refine yc ?_ | intro _)
 show Ev _ _ _ _
 refine Z3v (fun i (_ : Unit) => [(0, .x (ab.ls .n l)), (3, .own ⟨0, 0, 0⟩ (.l .y 10 (fil (ab.el .y) (.a [(iT 0), (iT 0), (.l .y 2 []), (iT 0), (iT 0), (iT 0), (iT 0), (.l .y 1 []), (.l .y 1 []), (.l .y 1 [])]) l i))), (4, .x (iT i))]) (fun i _ => True) l.length () trivial (by rw [Z5h, <- Y45 (ab.el .n)]; rfl) ?_
 intro i _ hi1 _ ih
 rcases Y79 i l.length with hlt | hge
 ·have hx := Y34 hlt
  generalize l[i] = x at hx
  have hc : decide ((i : Int) < (l.map (ab.el .n)).length) = true := by simpa using hlt
  have hg := Z5e (ab.el .y) (.a [(iT 0), (iT 0), (.l .y 2 []), (iT 0), (iT 0), (iT 0), (iT 0), (.l .y 1 []), (.l .y 1 []), (.l .y 1 [])]) l hlt
  repeat' (first | refine yi ((ab.el .n) x) (Zar hx) ?_ | (apply zw;exact rfl;exact rfl;exact Y16 _;exact (by rw [Z5f (ab.el .y) (.a [(iT 0), (iT 0), (.l .y 2 []), (iT 0), (iT 0), (iT 0), (iT 0), (.l .y 1 []), (.l .y 1 []), (.l .y 1 [])]) l hi1]; omega);exact rfl;exact rfl) | refine yv mF (zg x (by have := Z1v (f := ab.ae) hx; omega)) ?_ | (apply zS ((.a [(iT 0), (iT 0), (.l .y 2 []), (iT 0), (iT 0), (iT 0), (iT 0), (.l .y 1 []), (.l .y 1 []), (.l .y 1 [])])) (.l .y 10 (fil (ab.el .y) (.a [(iT 0), (iT 0), (.l .y 2 []), (iT 0), (iT 0), (iT 0), (iT 0), (.l .y 1 []), (.l .y 1 []), (.l .y 1 [])]) l (i + 1)));(iterate 4 exact rfl);exact (by simp [T.nav, T.kid, hg]);exact (by simp [T.cb, Ob.own, hg]);exact rfl;exact (by simp [T.put, T.kid, T.aZ, T.cells, T.bO, bC, hg, <- Z5g (ab.el .y) (.a [(iT 0), (iT 0), (.l .y 2 []), (iT 0), (iT 0), (iT 0), (iT 0), (.l .y 1 []), (.l .y 1 []), (.l .y 1 [])]) l hx, ab.el, ab.cs]);(iterate 3 exact rfl)) | refine yt1 ?_ | refine yt0 ?_ | refine yt ?_ ?_ | refine yo ?_ | apply zn | refine yc ?_ | intro _)
  refine ih () hlt trivial _ _ ?_
  rw [<- aM (by omega)]; rfl
 ·have hc : decide ((i : Int) < (l.map (ab.el .n)).length) = false := by simpa using hge
  repeat' (first | refine yt1 ?_ | refine yt0 ?_ | refine yt ?_ ?_ | refine yo ?_ | apply zn | refine yc ?_ | intro _)
  refine fin rfl ?_
  simp only [Zk0, Z5d _ _ _ hge]
theorem F0 (x : ay) (hl : x.ae <= 1048576) : vz [.st (x.cs .n)] = some ⟨[.st (x.cs .y)], []⟩ := by
 simp only [ay.ae] at hl
 (refine Z6j rfl ?_; show Ev vy.code _ _ _)
 repeat' (first | refine yv mF (zg x.aL (by omega)) ?_ | refine yo ?_ | apply zn | refine yc ?_ | intro _)
 refine fin rfl ?_
 try simp only [Zk0]
 rfl
theorem F1 (l : List ay) (hl : aF ay.ae l <= 1048576) : vB [.x (ay.ls .n l)] = some ⟨[.one (ay.ls .y l)], []⟩ := by
 have hl1 := Z1t ay.ae l
 (refine Z6j rfl ?_; show Ev vA.code _ _ _)
 repeat' (first | (apply zs;(iterate 3 exact rfl);exact (Y16 _);exact (by simp [aS] <;> omega);exact rfl;exact rfl) | refine yt1 ?_ | refine yt0 ?_ | refine yt ?_ ?_ | refine yo ?_ | apply zn | refine yc ?_ | intro _)
 show Ev _ _ _ _
 refine Z3v (fun i (_ : Unit) => [(0, .x (ay.ls .n l)), (3, .own ⟨0, 0, 0⟩ (.l .y 11 (fil (ay.el .y) (.a [(iT 0), (iT 0), (iT 0), (.l .y 2 []), (iT 0), (iT 0), (iT 0), (iT 0), (.l .y 1 []), (.l .y 1 []), (.l .y 1 [])]) l i))), (4, .x (iT i))]) (fun i _ => True) l.length () trivial (by rw [Z5h, <- Y45 (ay.el .n)]; rfl) ?_
 intro i _ hi1 _ ih
 rcases Y79 i l.length with hlt | hge
 ·have hx := Y34 hlt
  generalize l[i] = x at hx
  have hc : decide ((i : Int) < (l.map (ay.el .n)).length) = true := by simpa using hlt
  have hg := Z5e (ay.el .y) (.a [(iT 0), (iT 0), (iT 0), (.l .y 2 []), (iT 0), (iT 0), (iT 0), (iT 0), (.l .y 1 []), (.l .y 1 []), (.l .y 1 [])]) l hlt
  repeat' (first | refine yi ((ay.el .n) x) (Zar hx) ?_ | (apply zw;exact rfl;exact rfl;exact Y16 _;exact (by rw [Z5f (ay.el .y) (.a [(iT 0), (iT 0), (iT 0), (.l .y 2 []), (iT 0), (iT 0), (iT 0), (iT 0), (.l .y 1 []), (.l .y 1 []), (.l .y 1 [])]) l hi1]; omega);exact rfl;exact rfl) | refine yv r3 (F0 x (by have := Z1v (f := ay.ae) hx; omega)) ?_ | (apply zS ((.a [(iT 0), (iT 0), (iT 0), (.l .y 2 []), (iT 0), (iT 0), (iT 0), (iT 0), (.l .y 1 []), (.l .y 1 []), (.l .y 1 [])])) (.l .y 11 (fil (ay.el .y) (.a [(iT 0), (iT 0), (iT 0), (.l .y 2 []), (iT 0), (iT 0), (iT 0), (iT 0), (.l .y 1 []), (.l .y 1 []), (.l .y 1 [])]) l (i + 1)));(iterate 4 exact rfl);exact (by simp [T.nav, T.kid, hg]);exact (by simp [T.cb, Ob.own, hg]);exact rfl;exact (by simp [T.put, T.kid, T.aZ, T.cells, T.bO, bC, hg, <- Z5g (ay.el .y) (.a [(iT 0), (iT 0), (iT 0), (.l .y 2 []), (iT 0), (iT 0), (iT 0), (iT 0), (.l .y 1 []), (.l .y 1 []), (.l .y 1 [])]) l hx, ay.el, ay.cs]);(iterate 3 exact rfl)) | refine yt1 ?_ | refine yt0 ?_ | refine yt ?_ ?_ | refine yo ?_ | apply zn | refine yc ?_ | intro _)
  refine ih () hlt trivial _ _ ?_
  rw [<- aM (by omega)]; rfl
 ·have hc : decide ((i : Int) < (l.map (ay.el .n)).length) = false := by simpa using hge
  repeat' (first | refine yt1 ?_ | refine yt0 ?_ | refine yt ?_ ?_ | refine yo ?_ | apply zn | refine yc ?_ | intro _)
  refine fin rfl ?_
  simp only [Zk0, Z5d _ _ _ hge]
theorem F2 (x : ai) (hl : x.ae <= 1048576) : vD [.st (x.cs .n)] = some ⟨[.st (x.cs .y)], []⟩ := by
 simp only [ai.ae] at hl
 (refine Z6j rfl ?_; show Ev vC.code _ _ _)
 repeat' (first | refine yv mG (zh x.Lst (by omega)) ?_ | refine yo ?_ | apply zn | refine yc ?_ | intro _)
 refine fin rfl ?_
 try simp only [Zk0]
 rfl
theorem F3 (l : List ai) (hl : aF ai.ae l <= 1048576) : vF [.x (ai.ls .n l)] = some ⟨[.one (ai.ls .y l)], []⟩ := by
 have hl1 := Z1t ai.ae l
 (refine Z6j rfl ?_; show Ev vE.code _ _ _)
 repeat' (first | (apply zs;(iterate 3 exact rfl);exact (Y16 _);exact (by simp [aS] <;> omega);exact rfl;exact rfl) | refine yt1 ?_ | refine yt0 ?_ | refine yt ?_ ?_ | refine yo ?_ | apply zn | refine yc ?_ | intro _)
 show Ev _ _ _ _
 refine Z3v (fun i (_ : Unit) => [(0, .x (ai.ls .n l)), (3, .own ⟨0, 0, 0⟩ (.l .y 1 (fil (ai.el .y) (.a [(.l .y 10 [])]) l i))), (4, .x (iT i))]) (fun i _ => True) l.length () trivial (by rw [Z5h, <- Y45 (ai.el .n)]; rfl) ?_
 intro i _ hi1 _ ih
 rcases Y79 i l.length with hlt | hge
 ·have hx := Y34 hlt
  generalize l[i] = x at hx
  have hc : decide ((i : Int) < (l.map (ai.el .n)).length) = true := by simpa using hlt
  have hg := Z5e (ai.el .y) (.a [(.l .y 10 [])]) l hlt
  repeat' (first | refine yi ((ai.el .n) x) (Zar hx) ?_ | (apply zw;exact rfl;exact rfl;exact Y16 _;exact (by rw [Z5f (ai.el .y) (.a [(.l .y 10 [])]) l hi1]; omega);exact rfl;exact rfl) | refine yv r5 (F2 x (by have := Z1v (f := ai.ae) hx; omega)) ?_ | (apply zS ((.a [(.l .y 10 [])])) (.l .y 1 (fil (ai.el .y) (.a [(.l .y 10 [])]) l (i + 1)));(iterate 4 exact rfl);exact (by simp [T.nav, T.kid, hg]);exact (by simp [T.cb, Ob.own, hg]);exact rfl;exact (by simp [T.put, T.kid, T.aZ, T.cells, T.bO, bC, hg, <- Z5g (ai.el .y) (.a [(.l .y 10 [])]) l hx, ai.el, ai.cs]);(iterate 3 exact rfl)) | refine yt1 ?_ | refine yt0 ?_ | refine yt ?_ ?_ | refine yo ?_ | apply zn | refine yc ?_ | intro _)
  refine ih () hlt trivial _ _ ?_
  rw [<- aM (by omega)]; rfl
 ·have hc : decide ((i : Int) < (l.map (ai.el .n)).length) = false := by simpa using hge
  repeat' (first | refine yt1 ?_ | refine yt0 ?_ | refine yt ?_ ?_ | refine yo ?_ | apply zn | refine yc ?_ | intro _)
  refine fin rfl ?_
  simp only [Zk0, Z5d _ _ _ hge]
theorem F4 (l : List (List ai)) (hl : aF (aF ai.ae) l <= 1048576) : vH [.x (ai.lss .n l)] = some ⟨[.one (ai.lss .y l)], []⟩ := by
 have hl1 := Z1t (aF ai.ae) l
 (refine Z6j rfl ?_; show Ev vG.code _ _ _)
 repeat' (first | (apply zs;(iterate 3 exact rfl);exact (Y16 _);exact (by simp [aS] <;> omega);exact rfl;exact rfl) | refine yt1 ?_ | refine yt0 ?_ | refine yt ?_ ?_ | refine yo ?_ | apply zn | refine yc ?_ | intro _)
 show Ev _ _ _ _
 refine Z3v (fun i (_ : Unit) => [(0, .x (ai.lss .n l)), (3, .own ⟨0, 0, 0⟩ (.l .y 1 (fil (ai.ls .y) (.l .y 1 []) l i))), (4, .x (iT i))]) (fun i _ => True) l.length () trivial (by rw [Z5h, <- Y45 (ai.ls .n)]; rfl) ?_
 intro i _ hi1 _ ih
 rcases Y79 i l.length with hlt | hge
 ·have hx := Y34 hlt
  generalize l[i] = x at hx
  have hc : decide ((i : Int) < (l.map (ai.ls .n)).length) = true := by simpa using hlt
  have hg := Z5e (ai.ls .y) (.l .y 1 []) l hlt
  repeat' (first | refine yi ((ai.ls .n) x) (Zar hx) ?_ | (apply zw;exact rfl;exact rfl;exact Y16 _;exact (by rw [Z5f (ai.ls .y) (.l .y 1 []) l hi1]; omega);exact rfl;exact rfl) | refine yv r7 (F3 x (by have := Z1v (f := (aF ai.ae)) hx; omega)) ?_ | (apply zS ((.l .y 1 [])) (.l .y 1 (fil (ai.ls .y) (.l .y 1 []) l (i + 1)));(iterate 4 exact rfl);exact (by simp [T.nav, T.kid, hg]);exact (by simp [T.cb, Ob.own, hg]);exact rfl;exact (by simp [T.put, T.kid, T.aZ, T.cells, T.bO, bC, hg, <- Z5g (ai.ls .y) (.l .y 1 []) l hx]);(iterate 3 exact rfl)) | refine yt1 ?_ | refine yt0 ?_ | refine yt ?_ ?_ | refine yo ?_ | apply zn | refine yc ?_ | intro _)
  refine ih () hlt trivial _ _ ?_
  rw [<- aM (by omega)]; rfl
 ·have hc : decide ((i : Int) < (l.map (ai.ls .n)).length) = false := by simpa using hge
  repeat' (first | refine yt1 ?_ | refine yt0 ?_ | refine yt ?_ ?_ | refine yo ?_ | apply zn | refine yc ?_ | intro _)
  refine fin rfl ?_
  simp only [Zk0, Z5d _ _ _ hge]
theorem F5 (x : al) (hl : x.ae <= 1048576) : vJ [.st (x.cs .n)] = some ⟨[.st (x.cs .y)], []⟩ := by
 simp only [al.ae] at hl
 (refine Z6j rfl ?_; show Ev vI.code _ _ _)
 repeat' (first | refine yv km (pO x.aJ (by omega)) ?_ | refine yo ?_ | apply zn | refine yc ?_ | intro _)
 refine fin rfl ?_
 try simp only [Zk0]
 rfl
theorem F6 (l : List al) (hl : aF al.ae l <= 1048576) : vL [.x (al.ls .n l)] = some ⟨[.one (al.ls .y l)], []⟩ := by
 have hl1 := Z1t al.ae l
 (refine Z6j rfl ?_; show Ev vK.code _ _ _)
 repeat' (first | (apply zs;(iterate 3 exact rfl);exact (Y16 _);exact (by simp [aS] <;> omega);exact rfl;exact rfl) | refine yt1 ?_ | refine yt0 ?_ | refine yt ?_ ?_ | refine yo ?_ | apply zn | refine yc ?_ | intro _)
 show Ev _ _ _ _
 refine Z3v (fun i (_ : Unit) => [(0, .x (al.ls .n l)), (3, .own ⟨0, 0, 0⟩ (.l .y 5 (fil (al.el .y) (.a [(iT 0), (iT 0), (.l .y 2 []), (iT 0), (iT 0)]) l i))), (4, .x (iT i))]) (fun i _ => True) l.length () trivial (by rw [Z5h, <- Y45 (al.el .n)]; rfl) ?_
 intro i _ hi1 _ ih
 rcases Y79 i l.length with hlt | hge
 ·have hx := Y34 hlt
  generalize l[i] = x at hx
  have hc : decide ((i : Int) < (l.map (al.el .n)).length) = true := by simpa using hlt
  have hg := Z5e (al.el .y) (.a [(iT 0), (iT 0), (.l .y 2 []), (iT 0), (iT 0)]) l hlt
  repeat' (first | refine yi ((al.el .n) x) (Zar hx) ?_ | (apply zw;exact rfl;exact rfl;exact Y16 _;exact (by rw [Z5f (al.el .y) (.a [(iT 0), (iT 0), (.l .y 2 []), (iT 0), (iT 0)]) l hi1]; omega);exact rfl;exact rfl) | refine yv r9 (F5 x (by have := Z1v (f := al.ae) hx; omega)) ?_ | (apply zS ((.a [(iT 0), (iT 0), (.l .y 2 []), (iT 0), (iT 0)])) (.l .y 5 (fil (al.el .y) (.a [(iT 0), (iT 0), (.l .y 2 []), (iT 0), (iT 0)]) l (i + 1)));(iterate 4 exact rfl);exact (by simp [T.nav, T.kid, hg]);exact (by simp [T.cb, Ob.own, hg]);exact rfl;exact (by simp [T.put, T.kid, T.aZ, T.cells, T.bO, bC, hg, <- Z5g (al.el .y) (.a [(iT 0), (iT 0), (.l .y 2 []), (iT 0), (iT 0)]) l hx, al.el, al.cs]);(iterate 3 exact rfl)) | refine yt1 ?_ | refine yt0 ?_ | refine yt ?_ ?_ | refine yo ?_ | apply zn | refine yc ?_ | intro _)
  refine ih () hlt trivial _ _ ?_
  rw [<- aM (by omega)]; rfl
 ·have hc : decide ((i : Int) < (l.map (al.el .n)).length) = false := by simpa using hge
  repeat' (first | refine yt1 ?_ | refine yt0 ?_ | refine yt ?_ ?_ | refine yo ?_ | apply zn | refine yc ?_ | intro _)
  refine fin rfl ?_
  simp only [Zk0, Z5d _ _ _ hge]
theorem F7 (x : au) (hl : x.ae <= 1048576) : vN [.st (x.cs .n)] = some ⟨[.st (x.cs .y)], []⟩ := by
 simp only [au.ae] at hl
 (refine Z6j rfl ?_; show Ev vM.code _ _ _)
 repeat' (first | refine yv gY (kT x.Left (by omega)) ?_ | refine yo ?_ | apply zn | refine yc ?_ | intro _)
 refine fin rfl ?_
 try simp only [Zk0]
 rfl
theorem F8 (l : List au) (hl : aF au.ae l <= 1048576) : vP [.x (au.ls .n l)] = some ⟨[.one (au.ls .y l)], []⟩ := by
 have hl1 := Z1t au.ae l
 (refine Z6j rfl ?_; show Ev vO.code _ _ _)
 repeat' (first | (apply zs;(iterate 3 exact rfl);exact (Y16 _);exact (by simp [aS] <;> omega);exact rfl;exact rfl) | refine yt1 ?_ | refine yt0 ?_ | refine yt ?_ ?_ | refine yo ?_ | apply zn | refine yc ?_ | intro _)
 show Ev _ _ _ _
 refine Z3v (fun i (_ : Unit) => [(0, .x (au.ls .n l)), (3, .own ⟨0, 0, 0⟩ (.l .y 3 (fil (au.el .y) (.a [(iT 0), (.b false), (.l .y 1 [])]) l i))), (4, .x (iT i))]) (fun i _ => True) l.length () trivial (by rw [Z5h, <- Y45 (au.el .n)]; rfl) ?_
 intro i _ hi1 _ ih
 rcases Y79 i l.length with hlt | hge
 ·have hx := Y34 hlt
  generalize l[i] = x at hx
  have hc : decide ((i : Int) < (l.map (au.el .n)).length) = true := by simpa using hlt
  have hg := Z5e (au.el .y) (.a [(iT 0), (.b false), (.l .y 1 [])]) l hlt
  repeat' (first | refine yi ((au.el .n) x) (Zar hx) ?_ | (apply zw;exact rfl;exact rfl;exact Y16 _;exact (by rw [Z5f (au.el .y) (.a [(iT 0), (.b false), (.l .y 1 [])]) l hi1]; omega);exact rfl;exact rfl) | refine yv sb (F7 x (by have := Z1v (f := au.ae) hx; omega)) ?_ | (apply zS ((.a [(iT 0), (.b false), (.l .y 1 [])])) (.l .y 3 (fil (au.el .y) (.a [(iT 0), (.b false), (.l .y 1 [])]) l (i + 1)));(iterate 4 exact rfl);exact (by simp [T.nav, T.kid, hg]);exact (by simp [T.cb, Ob.own, hg]);exact rfl;exact (by simp [T.put, T.kid, T.aZ, T.cells, T.bO, bC, hg, <- Z5g (au.el .y) (.a [(iT 0), (.b false), (.l .y 1 [])]) l hx, au.el, au.cs]);(iterate 3 exact rfl)) | refine yt1 ?_ | refine yt0 ?_ | refine yt ?_ ?_ | refine yo ?_ | apply zn | refine yc ?_ | intro _)
  refine ih () hlt trivial _ _ ?_
  rw [<- aM (by omega)]; rfl
 ·have hc : decide ((i : Int) < (l.map (au.el .n)).length) = false := by simpa using hge
  repeat' (first | refine yt1 ?_ | refine yt0 ?_ | refine yt ?_ ?_ | refine yo ?_ | apply zn | refine yc ?_ | intro _)
  refine fin rfl ?_
  simp only [Zk0, Z5d _ _ _ hge]
theorem pP (x : ao) (hl : x.ae <= 1048576) : hG [.st (x.cs .n)] = some ⟨[.st (x.cs .y)], []⟩ := by
 simp only [ao.ae] at hl
 (refine Z6j rfl ?_; show Ev vQ.code _ _ _)
 repeat' (first | refine yv rX (FX x.bP (by omega)) ?_ | refine yv sa (F6 x.aO (by omega)) ?_ | refine yv r8 (F4 x.Rows (by omega)) ?_ | refine yv sd (F8 x.bX (by omega)) ?_ | refine yv mG (zh x.aH (by omega)) ?_ | refine yv r4 (F1 x.aY (by omega)) ?_ | refine yo ?_ | apply zn | refine yc ?_ | intro _)
 refine fin rfl ?_
 try simp only [Zk0]
 rfl
end Go.Wr
namespace Go.Wr
set_option maxRecDepth 20000
theorem kU (a b : List Int) (hl : a.length <= 1048576) : kx [.x (ints .n a), .x (ints .n b)] = some ⟨[.one (.b (decide (a = b)))], []⟩ := by
 have hl1 := Nat.le_refl a.length
 (refine Z6j rfl ?_; show Ev tJ.code _ _ _)
 repeat' (first | refine yt1 ?_ | refine yt0 ?_ | refine yt ?_ ?_ | refine yo ?_ | apply zn | refine yc ?_ | intro _)
 ·refine fin rfl ?_
  rename_i h
  have h2 : a ≠ b := Zbo h
  simp [h2]
 ·have hlen : a.length = b.length := by rename_i h; exact Z3m h
  show Ev _ _ _ _
  refine Z3v (fun i (_ : Unit) => [(0, .x (ints .n a)), (1, .x (ints .n b)), (5, .x (iT i))]) (fun i _ => a.take i = b.take i) a.length () (by simp) rfl ?_
  intro i _ hi1 hinv ih
  rcases Y79 i a.length with hlt | hge
  ·have hx := Y34 hlt
   have hy := Y34 (show i < b.length by omega)
   generalize a[i] = x at hx
   generalize b[i]'(by omega) = y at hy
   have hc : decide ((i : Int) < (a.map iT).length) = true := by simpa using hlt
   repeat' (first | refine yi (iT x) (Zar hx) ?_ | refine yi (iT y) (Zar hy) ?_ | refine yt1 ?_ | refine yt0 ?_ | refine yt ?_ ?_ | refine yo ?_ | apply zn | refine yc ?_ | intro _)
   ·refine fin rfl ?_
    rename_i h
    have h2 : a ≠ b := Zbn hx hy (by simpa using h)
    simp [h2]
   ·rename_i h
    have hxy : x = y := by simpa using h
    refine ih () hlt (Z3n hinv hx (hxy ▸ hy)) _ _ ?_
    rw [<- aM (by omega)]; rfl
  ·have hc : decide ((i : Int) < (a.map iT).length) = false := by simpa using hge
   repeat' (first | refine yt1 ?_ | refine yt0 ?_ | refine yt ?_ ?_ | refine yo ?_ | apply zn | refine yc ?_ | intro _)
   refine fin rfl ?_
   simp [Z3l hinv hlen hge]
theorem Gi (a b : aN) (hl : a.ae <= 1048576) : tL [.st (a.cs .n), .st (b.cs .n)] = some ⟨[.one (.b (decide (a = b)))], []⟩ := by
 simp only [aN.ae] at hl
 (refine Z6j rfl ?_; show Ev tK.code _ _ _)
 repeat' (first | refine yv gW (kU a.bY b.bY (by omega)) ?_ | refine yt1 ?_ | refine yt0 ?_ | refine yt ?_ ?_ | refine yo ?_ | apply zn | refine yc ?_ | intro _)
 all_goals (refine fin rfl ?_; simp only [Out.mk.injEq, Y23, RV.one.injEq, T.b.injEq, and_true])
 all_goals (rcases a with ⟨a0, a1, a2, a3, a4, a5, a6, a7⟩; rcases b with ⟨b0, b1, b2, b3, b4, b5, b6, b7⟩; simp only [aN.mk.injEq] at *; simp_all)
theorem Gj (a b : List (List Int)) (hl : aF List.length a <= 1048576) : tN [.x (dE.lss .n a), .x (dE.lss .n b)] = some ⟨[.one (.b (decide (a = b)))], []⟩ := by
 have hl1 := Z1t List.length a
 (refine Z6j rfl ?_; show Ev tM.code _ _ _)
 repeat' (first | refine yt1 ?_ | refine yt0 ?_ | refine yt ?_ ?_ | refine yo ?_ | apply zn | refine yc ?_ | intro _)
 ·refine fin rfl ?_
  rename_i h
  have h2 : a ≠ b := Zbo h
  simp [h2]
 ·have hlen : a.length = b.length := by rename_i h; exact Z3m h
  show Ev _ _ _ _
  refine Z3v (fun i (_ : Unit) => [(0, .x (dE.lss .n a)), (1, .x (dE.lss .n b)), (5, .x (iT i))]) (fun i _ => a.take i = b.take i) a.length () (by simp) rfl ?_
  intro i _ hi1 hinv ih
  rcases Y79 i a.length with hlt | hge
  ·have hx := Y34 hlt
   have hy := Y34 (show i < b.length by omega)
   generalize a[i] = x at hx
   generalize b[i]'(by omega) = y at hy
   have hc : decide ((i : Int) < (a.map (ints .n)).length) = true := by simpa using hlt
   repeat' (first | refine yi ((ints .n) x) (Zar hx) ?_ | refine yi ((ints .n) y) (Zar hy) ?_ | refine yv gW (kU x y (by have := Z1v (f := List.length) hx; omega)) ?_ | refine yt1 ?_ | refine yt0 ?_ | refine yt ?_ ?_ | refine yo ?_ | apply zn | refine yc ?_ | intro _)
   ·refine fin rfl ?_
    rename_i h
    have h2 : a ≠ b := Zbn hx hy (by simpa using h)
    simp [h2]
   ·rename_i h
    have hxy : x = y := by simpa using h
    refine ih () hlt (Z3n hinv hx (hxy ▸ hy)) _ _ ?_
    rw [<- aM (by omega)]; rfl
  ·have hc : decide ((i : Int) < (a.map (ints .n)).length) = false := by simpa using hge
   repeat' (first | refine yt1 ?_ | refine yt0 ?_ | refine yt ?_ ?_ | refine yo ?_ | apply zn | refine yc ?_ | intro _)
   refine fin rfl ?_
   simp [Z3l hinv hlen hge]
theorem pQ (a b : ag) (hl : a.ae <= 1048576) : fq [.st (a.cs .n), .st (b.cs .n)] = some ⟨[.one (.b (decide (a = b)))], []⟩ := by
 simp only [ag.ae] at hl
 (refine Z6j rfl ?_; show Ev tO.code _ _ _)
 repeat' (first | refine yv gW (kU a.aW b.aW (by omega)) ?_ | refine yv gW (kU a.aT b.aT (by omega)) ?_ | refine yv rm (Gj a.Rows b.Rows (by omega)) ?_ | refine yt1 ?_ | refine yt0 ?_ | refine yt ?_ ?_ | refine yo ?_ | apply zn | refine yc ?_ | intro _)
 all_goals (refine fin rfl ?_; simp only [Out.mk.injEq, Y23, RV.one.injEq, T.b.injEq, and_true])
 all_goals (rcases a with ⟨a0, a1, a2, a3, a4, a5, a6⟩; rcases b with ⟨b0, b1, b2, b3, b4, b5, b6⟩; simp only [ag.mk.injEq] at *; simp_all)
theorem Gk (a b : aa) : tQ [.st (a.cs .n), .st (b.cs .n)] = some ⟨[.one (.b (decide (a = b)))], []⟩ := by
 (refine Z6j rfl ?_; show Ev tP.code _ _ _)
 repeat' (first | refine yt1 ?_ | refine yt0 ?_ | refine yt ?_ ?_ | refine yo ?_ | apply zn | refine yc ?_ | intro _)
 all_goals (refine fin rfl ?_; simp only [Out.mk.injEq, Y23, RV.one.injEq, T.b.injEq, and_true])
 all_goals (rcases a with ⟨a0, a1⟩; rcases b with ⟨b0, b1⟩; simp only [aa.mk.injEq] at *; simp_all)
theorem nl (a b : List aa) (hl : a.length <= 1048576) : gu [.x (aa.ls .n a), .x (aa.ls .n b)] = some ⟨[.one (.b (decide (a = b)))], []⟩ := by
 have hl1 := Nat.le_refl a.length
 (refine Z6j rfl ?_; show Ev tR.code _ _ _)
 repeat' (first | refine yt1 ?_ | refine yt0 ?_ | refine yt ?_ ?_ | refine yo ?_ | apply zn | refine yc ?_ | intro _)
 ·refine fin rfl ?_
  rename_i h
  have h2 : a ≠ b := Zbo h
  simp [h2]
 ·have hlen : a.length = b.length := by rename_i h; exact Z3m h
  show Ev _ _ _ _
  refine Z3v (fun i (_ : Unit) => [(0, .x (aa.ls .n a)), (1, .x (aa.ls .n b)), (5, .x (iT i))]) (fun i _ => a.take i = b.take i) a.length () (by simp) rfl ?_
  intro i _ hi1 hinv ih
  rcases Y79 i a.length with hlt | hge
  ·have hx := Y34 hlt
   have hy := Y34 (show i < b.length by omega)
   generalize a[i] = x at hx
   generalize b[i]'(by omega) = y at hy
   have hc : decide ((i : Int) < (a.map (aa.el .n)).length) = true := by simpa using hlt
   repeat' (first | refine yi ((aa.el .n) x) (Zar hx) ?_ | refine yi ((aa.el .n) y) (Zar hy) ?_ | refine yv rn (Gk x y) ?_ | refine yt1 ?_ | refine yt0 ?_ | refine yt ?_ ?_ | refine yo ?_ | apply zn | refine yc ?_ | intro _)
   ·refine fin rfl ?_
    rename_i h
    have h2 : a ≠ b := Zbn hx hy (by simpa using h)
    simp [h2]
   ·rename_i h
    have hxy : x = y := by simpa using h
    refine ih () hlt (Z3n hinv hx (hxy ▸ hy)) _ _ ?_
    rw [<- aM (by omega)]; rfl
  ·have hc : decide ((i : Int) < (a.map (aa.el .n)).length) = false := by simpa using hge
   repeat' (first | refine yt1 ?_ | refine yt0 ?_ | refine yt ?_ ?_ | refine yo ?_ | apply zn | refine yc ?_ | intro _)
   refine fin rfl ?_
   simp [Z3l hinv hlen hge]
theorem zj (a b : ab) (hl : a.ae <= 1048576) : ou [.st (a.cs .n), .st (b.cs .n)] = some ⟨[.one (.b (decide (a = b)))], []⟩ := by
 simp only [ab.ae] at hl
 (refine Z6j rfl ?_; show Ev tS.code _ _ _)
 repeat' (first | refine yv eV (nl a.Ids b.Ids (by omega)) ?_ | refine yv eA (pQ a.aj b.aj (by omega)) ?_ | refine yt1 ?_ | refine yt0 ?_ | refine yt ?_ ?_ | refine yo ?_ | apply zn | refine yc ?_ | intro _)
 all_goals (refine fin rfl ?_; simp only [Out.mk.injEq, Y23, RV.one.injEq, T.b.injEq, and_true])
 all_goals (rcases a with ⟨a0, a1, a2, a3⟩; rcases b with ⟨b0, b1, b2, b3⟩; simp only [ab.mk.injEq] at *; simp_all)
theorem zq (a b : List ab) (hl : aF ab.ae a <= 1048576) : ox [.x (ab.ls .n a), .x (ab.ls .n b)] = some ⟨[.one (.b (decide (a = b)))], []⟩ := by
 have hl1 := Z1t ab.ae a
 (refine Z6j rfl ?_; show Ev tT.code _ _ _)
 repeat' (first | refine yt1 ?_ | refine yt0 ?_ | refine yt ?_ ?_ | refine yo ?_ | apply zn | refine yc ?_ | intro _)
 ·refine fin rfl ?_
  rename_i h
  have h2 : a ≠ b := Zbo h
  simp [h2]
 ·have hlen : a.length = b.length := by rename_i h; exact Z3m h
  show Ev _ _ _ _
  refine Z3v (fun i (_ : Unit) => [(0, .x (ab.ls .n a)), (1, .x (ab.ls .n b)), (5, .x (iT i))]) (fun i _ => a.take i = b.take i) a.length () (by simp) rfl ?_
  intro i _ hi1 hinv ih
  rcases Y79 i a.length with hlt | hge
  ·have hx := Y34 hlt
   have hy := Y34 (show i < b.length by omega)
   generalize a[i] = x at hx
   generalize b[i]'(by omega) = y at hy
   have hc : decide ((i : Int) < (a.map (ab.el .n)).length) = true := by simpa using hlt
   repeat' (first | refine yi ((ab.el .n) x) (Zar hx) ?_ | refine yi ((ab.el .n) y) (Zar hy) ?_ | refine yv my (zj x y (by have := Z1v (f := ab.ae) hx; omega)) ?_ | refine yt1 ?_ | refine yt0 ?_ | refine yt ?_ ?_ | refine yo ?_ | apply zn | refine yc ?_ | intro _)
   ·refine fin rfl ?_
    rename_i h
    have h2 : a ≠ b := Zbn hx hy (by simpa using h)
    simp [h2]
   ·rename_i h
    have hxy : x = y := by simpa using h
    refine ih () hlt (Z3n hinv hx (hxy ▸ hy)) _ _ ?_
    rw [<- aM (by omega)]; rfl
  ·have hc : decide ((i : Int) < (a.map (ab.el .n)).length) = false := by simpa using hge
   repeat' (first | refine yt1 ?_ | refine yt0 ?_ | refine yt ?_ ?_ | refine yo ?_ | apply zn | refine yc ?_ | intro _)
   refine fin rfl ?_
   simp [Z3l hinv hlen hge]
theorem Gl (a b : ay) (hl : a.ae <= 1048576) : tV [.st (a.cs .n), .st (b.cs .n)] = some ⟨[.one (.b (decide (a = b)))], []⟩ := by
 simp only [ay.ae] at hl
 (refine Z6j rfl ?_; show Ev tU.code _ _ _)
 repeat' (first | refine yv my (zj a.aL b.aL (by omega)) ?_ | refine yt1 ?_ | refine yt0 ?_ | refine yt ?_ ?_ | refine yo ?_ | apply zn | refine yc ?_ | intro _)
 all_goals (refine fin rfl ?_; simp only [Out.mk.injEq, Y23, RV.one.injEq, T.b.injEq, and_true])
 all_goals (rcases a with ⟨a0, a1⟩; rcases b with ⟨b0, b1⟩; simp only [ay.mk.injEq] at *; simp_all)
theorem Gm (a b : List ay) (hl : aF ay.ae a <= 1048576) : tX [.x (ay.ls .n a), .x (ay.ls .n b)] = some ⟨[.one (.b (decide (a = b)))], []⟩ := by
 have hl1 := Z1t ay.ae a
 (refine Z6j rfl ?_; show Ev tW.code _ _ _)
 repeat' (first | refine yt1 ?_ | refine yt0 ?_ | refine yt ?_ ?_ | refine yo ?_ | apply zn | refine yc ?_ | intro _)
 ·refine fin rfl ?_
  rename_i h
  have h2 : a ≠ b := Zbo h
  simp [h2]
 ·have hlen : a.length = b.length := by rename_i h; exact Z3m h
  show Ev _ _ _ _
  refine Z3v (fun i (_ : Unit) => [(0, .x (ay.ls .n a)), (1, .x (ay.ls .n b)), (5, .x (iT i))]) (fun i _ => a.take i = b.take i) a.length () (by simp) rfl ?_
  intro i _ hi1 hinv ih
  rcases Y79 i a.length with hlt | hge
  ·have hx := Y34 hlt
   have hy := Y34 (show i < b.length by omega)
   generalize a[i] = x at hx
   generalize b[i]'(by omega) = y at hy
   have hc : decide ((i : Int) < (a.map (ay.el .n)).length) = true := by simpa using hlt
   repeat' (first | refine yi ((ay.el .n) x) (Zar hx) ?_ | refine yi ((ay.el .n) y) (Zar hy) ?_ | refine yv rq (Gl x y (by have := Z1v (f := ay.ae) hx; omega)) ?_ | refine yt1 ?_ | refine yt0 ?_ | refine yt ?_ ?_ | refine yo ?_ | apply zn | refine yc ?_ | intro _)
   ·refine fin rfl ?_
    rename_i h
    have h2 : a ≠ b := Zbn hx hy (by simpa using h)
    simp [h2]
   ·rename_i h
    have hxy : x = y := by simpa using h
    refine ih () hlt (Z3n hinv hx (hxy ▸ hy)) _ _ ?_
    rw [<- aM (by omega)]; rfl
  ·have hc : decide ((i : Int) < (a.map (ay.el .n)).length) = false := by simpa using hge
   repeat' (first | refine yt1 ?_ | refine yt0 ?_ | refine yt ?_ ?_ | refine yo ?_ | apply zn | refine yc ?_ | intro _)
   refine fin rfl ?_
   simp [Z3l hinv hlen hge]
theorem Gn (a b : ai) (hl : a.ae <= 1048576) : tZ [.st (a.cs .n), .st (b.cs .n)] = some ⟨[.one (.b (decide (a = b)))], []⟩ := by
 simp only [ai.ae] at hl
 (refine Z6j rfl ?_; show Ev tY.code _ _ _)
 repeat' (first | refine yv mz (zq a.Lst b.Lst (by omega)) ?_ | refine yt1 ?_ | refine yt0 ?_ | refine yt ?_ ?_ | refine yo ?_ | apply zn | refine yc ?_ | intro _)
 all_goals (refine fin rfl ?_; simp only [Out.mk.injEq, Y23, RV.one.injEq, T.b.injEq, and_true])
 all_goals (rcases a with ⟨a0⟩; rcases b with ⟨b0⟩; simp only [ai.mk.injEq] at *; simp_all)
theorem Gp (a b : List ai) (hl : aF ai.ae a <= 1048576) : ub [.x (ai.ls .n a), .x (ai.ls .n b)] = some ⟨[.one (.b (decide (a = b)))], []⟩ := by
 have hl1 := Z1t ai.ae a
 (refine Z6j rfl ?_; show Ev ua.code _ _ _)
 repeat' (first | refine yt1 ?_ | refine yt0 ?_ | refine yt ?_ ?_ | refine yo ?_ | apply zn | refine yc ?_ | intro _)
 ·refine fin rfl ?_
  rename_i h
  have h2 : a ≠ b := Zbo h
  simp [h2]
 ·have hlen : a.length = b.length := by rename_i h; exact Z3m h
  show Ev _ _ _ _
  refine Z3v (fun i (_ : Unit) => [(0, .x (ai.ls .n a)), (1, .x (ai.ls .n b)), (5, .x (iT i))]) (fun i _ => a.take i = b.take i) a.length () (by simp) rfl ?_
  intro i _ hi1 hinv ih
  rcases Y79 i a.length with hlt | hge
  ·have hx := Y34 hlt
   have hy := Y34 (show i < b.length by omega)
   generalize a[i] = x at hx
   generalize b[i]'(by omega) = y at hy
   have hc : decide ((i : Int) < (a.map (ai.el .n)).length) = true := by simpa using hlt
   repeat' (first | refine yi ((ai.el .n) x) (Zar hx) ?_ | refine yi ((ai.el .n) y) (Zar hy) ?_ | refine yv ry (Gn x y (by have := Z1v (f := ai.ae) hx; omega)) ?_ | refine yt1 ?_ | refine yt0 ?_ | refine yt ?_ ?_ | refine yo ?_ | apply zn | refine yc ?_ | intro _)
   ·refine fin rfl ?_
    rename_i h
    have h2 : a ≠ b := Zbn hx hy (by simpa using h)
    simp [h2]
   ·rename_i h
    have hxy : x = y := by simpa using h
    refine ih () hlt (Z3n hinv hx (hxy ▸ hy)) _ _ ?_
    rw [<- aM (by omega)]; rfl
  ·have hc : decide ((i : Int) < (a.map (ai.el .n)).length) = false := by simpa using hge
   repeat' (first | refine yt1 ?_ | refine yt0 ?_ | refine yt ?_ ?_ | refine yo ?_ | apply zn | refine yc ?_ | intro _)
   refine fin rfl ?_
   simp [Z3l hinv hlen hge]
theorem Gq (a b : List (List ai)) (hl : aF (aF ai.ae) a <= 1048576) : ud [.x (ai.lss .n a), .x (ai.lss .n b)] = some ⟨[.one (.b (decide (a = b)))], []⟩ := by
 have hl1 := Z1t (aF ai.ae) a
 (refine Z6j rfl ?_; show Ev uc.code _ _ _)
 repeat' (first | refine yt1 ?_ | refine yt0 ?_ | refine yt ?_ ?_ | refine yo ?_ | apply zn | refine yc ?_ | intro _)
 ·refine fin rfl ?_
  rename_i h
  have h2 : a ≠ b := Zbo h
  simp [h2]
 ·have hlen : a.length = b.length := by rename_i h; exact Z3m h
  show Ev _ _ _ _
  refine Z3v (fun i (_ : Unit) => [(0, .x (ai.lss .n a)), (1, .x (ai.lss .n b)), (5, .x (iT i))]) (fun i _ => a.take i = b.take i) a.length () (by simp) rfl ?_
  intro i _ hi1 hinv ih
  rcases Y79 i a.length with hlt | hge
  ·have hx := Y34 hlt
   have hy := Y34 (show i < b.length by omega)
   generalize a[i] = x at hx
   generalize b[i]'(by omega) = y at hy
   have hc : decide ((i : Int) < (a.map (ai.ls .n)).length) = true := by simpa using hlt
   repeat' (first | refine yi ((ai.ls .n) x) (Zar hx) ?_ | refine yi ((ai.ls .n) y) (Zar hy) ?_ | refine yv rz (Gp x y (by have := Z1v (f := (aF ai.ae)) hx; omega)) ?_ | refine yt1 ?_ | refine yt0 ?_ | refine yt ?_ ?_ | refine yo ?_ | apply zn | refine yc ?_ | intro _)
   ·refine fin rfl ?_
    rename_i h
    have h2 : a ≠ b := Zbn hx hy (by simpa using h)
    simp [h2]
   ·rename_i h
    have hxy : x = y := by simpa using h
    refine ih () hlt (Z3n hinv hx (hxy ▸ hy)) _ _ ?_
    rw [<- aM (by omega)]; rfl
  ·have hc : decide ((i : Int) < (a.map (ai.ls .n)).length) = false := by simpa using hge
   repeat' (first | refine yt1 ?_ | refine yt0 ?_ | refine yt ?_ ?_ | refine yo ?_ | apply zn | refine yc ?_ | intro _)
   refine fin rfl ?_
   simp [Z3l hinv hlen hge]
theorem Gr (a b : al) (hl : a.ae <= 1048576) : uf [.st (a.cs .n), .st (b.cs .n)] = some ⟨[.one (.b (decide (a = b)))], []⟩ := by
 simp only [al.ae] at hl
 (refine Z6j rfl ?_; show Ev ue.code _ _ _)
 repeat' (first | refine yv eV (nl a.aJ b.aJ (by omega)) ?_ | refine yt1 ?_ | refine yt0 ?_ | refine yt ?_ ?_ | refine yo ?_ | apply zn | refine yc ?_ | intro _)
 all_goals (refine fin rfl ?_; simp only [Out.mk.injEq, Y23, RV.one.injEq, T.b.injEq, and_true])
 all_goals (rcases a with ⟨a0, a1, a2, a3, a4⟩; rcases b with ⟨b0, b1, b2, b3, b4⟩; simp only [al.mk.injEq] at *; simp_all)
theorem Gs (a b : List al) (hl : aF al.ae a <= 1048576) : uh [.x (al.ls .n a), .x (al.ls .n b)] = some ⟨[.one (.b (decide (a = b)))], []⟩ := by
 have hl1 := Z1t al.ae a
 (refine Z6j rfl ?_; show Ev ug.code _ _ _)
 repeat' (first | refine yt1 ?_ | refine yt0 ?_ | refine yt ?_ ?_ | refine yo ?_ | apply zn | refine yc ?_ | intro _)
 ·refine fin rfl ?_
  rename_i h
  have h2 : a ≠ b := Zbo h
  simp [h2]
 ·have hlen : a.length = b.length := by rename_i h; exact Z3m h
  show Ev _ _ _ _
  refine Z3v (fun i (_ : Unit) => [(0, .x (al.ls .n a)), (1, .x (al.ls .n b)), (5, .x (iT i))]) (fun i _ => a.take i = b.take i) a.length () (by simp) rfl ?_
  intro i _ hi1 hinv ih
  rcases Y79 i a.length with hlt | hge
  ·have hx := Y34 hlt
   have hy := Y34 (show i < b.length by omega)
   generalize a[i] = x at hx
   generalize b[i]'(by omega) = y at hy
   have hc : decide ((i : Int) < (a.map (al.el .n)).length) = true := by simpa using hlt
   repeat' (first | refine yi ((al.el .n) x) (Zar hx) ?_ | refine yi ((al.el .n) y) (Zar hy) ?_ | refine yv rB (Gr x y (by have := Z1v (f := al.ae) hx; omega)) ?_ | refine yt1 ?_ | refine yt0 ?_ | refine yt ?_ ?_ | refine yo ?_ | apply zn | refine yc ?_ | intro _)
   ·refine fin rfl ?_
    rename_i h
    have h2 : a ≠ b := Zbn hx hy (by simpa using h)
    simp [h2]
   ·rename_i h
    have hxy : x = y := by simpa using h
    refine ih () hlt (Z3n hinv hx (hxy ▸ hy)) _ _ ?_
    rw [<- aM (by omega)]; rfl
  ·have hc : decide ((i : Int) < (a.map (al.el .n)).length) = false := by simpa using hge
   repeat' (first | refine yt1 ?_ | refine yt0 ?_ | refine yt ?_ ?_ | refine yo ?_ | apply zn | refine yc ?_ | intro _)
   refine fin rfl ?_
   simp [Z3l hinv hlen hge]
theorem Gt (a b : au) (hl : a.ae <= 1048576) : uj [.st (a.cs .n), .st (b.cs .n)] = some ⟨[.one (.b (decide (a = b)))], []⟩ := by
 simp only [au.ae] at hl
 (refine Z6j rfl ?_; show Ev ui.code _ _ _)
 repeat' (first | refine yv gW (kU a.Left b.Left (by omega)) ?_ | refine yt1 ?_ | refine yt0 ?_ | refine yt ?_ ?_ | refine yo ?_ | apply zn | refine yc ?_ | intro _)
 all_goals (refine fin rfl ?_; simp only [Out.mk.injEq, Y23, RV.one.injEq, T.b.injEq, and_true])
 all_goals (rcases a with ⟨a0, a1, a2⟩; rcases b with ⟨b0, b1, b2⟩; simp only [au.mk.injEq] at *; simp_all)
theorem Gu (a b : List au) (hl : aF au.ae a <= 1048576) : ul [.x (au.ls .n a), .x (au.ls .n b)] = some ⟨[.one (.b (decide (a = b)))], []⟩ := by
 have hl1 := Z1t au.ae a
 (refine Z6j rfl ?_; show Ev uk.code _ _ _)
 repeat' (first | refine yt1 ?_ | refine yt0 ?_ | refine yt ?_ ?_ | refine yo ?_ | apply zn | refine yc ?_ | intro _)
 ·refine fin rfl ?_
  rename_i h
  have h2 : a ≠ b := Zbo h
  simp [h2]
 ·have hlen : a.length = b.length := by rename_i h; exact Z3m h
  show Ev _ _ _ _
  refine Z3v (fun i (_ : Unit) => [(0, .x (au.ls .n a)), (1, .x (au.ls .n b)), (5, .x (iT i))]) (fun i _ => a.take i = b.take i) a.length () (by simp) rfl ?_
  intro i _ hi1 hinv ih
  rcases Y79 i a.length with hlt | hge
  ·have hx := Y34 hlt
   have hy := Y34 (show i < b.length by omega)
   generalize a[i] = x at hx
   generalize b[i]'(by omega) = y at hy
   have hc : decide ((i : Int) < (a.map (au.el .n)).length) = true := by simpa using hlt
   repeat' (first | refine yi ((au.el .n) x) (Zar hx) ?_ | refine yi ((au.el .n) y) (Zar hy) ?_ | refine yv rD (Gt x y (by have := Z1v (f := au.ae) hx; omega)) ?_ | refine yt1 ?_ | refine yt0 ?_ | refine yt ?_ ?_ | refine yo ?_ | apply zn | refine yc ?_ | intro _)
   ·refine fin rfl ?_
    rename_i h
    have h2 : a ≠ b := Zbn hx hy (by simpa using h)
    simp [h2]
   ·rename_i h
    have hxy : x = y := by simpa using h
    refine ih () hlt (Z3n hinv hx (hxy ▸ hy)) _ _ ?_
    rw [<- aM (by omega)]; rfl
  ·have hc : decide ((i : Int) < (a.map (au.el .n)).length) = false := by simpa using hge
   repeat' (first | refine yt1 ?_ | refine yt0 ?_ | refine yt ?_ ?_ | refine yo ?_ | apply zn | refine yc ?_ | intro _)
   refine fin rfl ?_
   simp [Z3l hinv hlen hge]
theorem zr (a b : ao) (hl : a.ae <= 1048576) : lG [.st (a.cs .n), .st (b.cs .n)] = some ⟨[.one (.b (decide (a = b)))], []⟩ := by
 simp only [ao.ae] at hl
 (refine Z6j rfl ?_; show Ev um.code _ _ _)
 repeat' (first | refine yv rl (Gi a.bP b.bP (by omega)) ?_ | refine yv rC (Gs a.aO b.aO (by omega)) ?_ | refine yv rA (Gq a.Rows b.Rows (by omega)) ?_ | refine yv rE (Gu a.bX b.bX (by omega)) ?_ | refine yv mz (zq a.aH b.aH (by omega)) ?_ | refine yv ru (Gm a.aY b.aY (by omega)) ?_ | refine yt1 ?_ | refine yt0 ?_ | refine yt ?_ ?_ | refine yo ?_ | apply zn | refine yc ?_ | intro _)
 all_goals (refine fin rfl ?_; simp only [Out.mk.injEq, Y23, RV.one.injEq, T.b.injEq, and_true])
 all_goals (rcases a with ⟨a0, a1, a2, a3, a4, a5, a6, a7, a8⟩; rcases b with ⟨b0, b1, b2, b3, b4, b5, b6, b7, b8⟩; simp only [ao.mk.injEq] at *; simp_all)
end Go.Wr

