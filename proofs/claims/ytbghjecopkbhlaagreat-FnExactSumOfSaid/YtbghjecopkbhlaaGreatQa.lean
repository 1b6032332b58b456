/-
  What is proved: lemmas on the way to the laws of this seat. No condition.
-/
import Derived.Test.YtbghjecopkbhlaaGreatMa
import Derived.Test.YtbghjecopkbhlaaGreatTa
import Derived.Test.YtbghjecopkbhlaaGreatRd
set_option linter.unusedVariables false
set_option linter.unusedSimpArgs false
namespace Go.Wr
set_option maxRecDepth 20000
theorem q36_eq (x lo hi : Int) : F_q36 [.x (iT x), .x (iT lo), .x (iT hi)] = some ⟨[.one (.b (inB x lo hi))], []⟩ := by
 (refine Z6j rfl ?_; show Ev m_q36.code _ _ _)
 repeat' (first | refine yy ?_ | refine ym ?_ | (apply ze;(iterate 5 exact rfl)) | (apply zf;(iterate 5 exact rfl)) | refine yp ?_ | refine yo ?_ | apply zn | refine yc ?_ | exact rfl | intro _)
 exact fin rfl rfl
theorem q0_eq (x lo hi : Int) : F_q0 [.x (iT x), .x (iT lo), .x (iT hi)] = some ⟨[.one (.b (inB x lo hi))], []⟩ := by
 (refine Z6j rfl ?_; show Ev m_q0.code _ _ _)
 repeat' (first | refine yy ?_ | refine ym ?_ | (apply ze;(iterate 5 exact rfl)) | (apply zf;(iterate 5 exact rfl)) | refine yp ?_ | refine yo ?_ | apply zn | refine yc ?_ | exact rfl | intro _)
 exact fin rfl rfl
theorem q1_eq (a s : Int) : F_q1 [.x (iT a), .x (iT s)] = some ⟨[.one (iT (idOf a s))], []⟩ := by
 (refine Z6j rfl ?_; show Ev m_q1.code _ _ _)
 repeat' (first | refine yy ?_ | refine ym ?_ | (apply ze;(iterate 5 exact rfl)) | (apply zf;(iterate 5 exact rfl)) | refine yp ?_ | refine yk g_q0 (q0_eq _ _ _) ?_ | refine yt1 ?_ | refine yt0 ?_ | refine yt ?_ ?_ | refine yo ?_ | apply zn | refine yc ?_ | exact rfl | intro _)
 all_goals (refine fin rfl ?_; rename_i h)
 ·simp [idOf] at h ⊢
  rcases h with h | h <;> simp [h]
 ·simp at h
  have h1 := h.1; have h2 := h.2
  simp only [inB, Y2, decide_eq_true_eq] at h1 h2
  rw [idOf, h.1, h.2, w64 (n := 100 * a) (by omega), w64 (by omega)]
  rfl
theorem q3c_eq (a b : Int) : F_q3c [.x (iT a), .x (iT b)] = some ⟨[.one (iT (max a b))], []⟩ := by
 (refine Z6j rfl ?_; show Ev m_q3c.code _ _ _)
 repeat' (first | refine yt1 ?_ | refine yt0 ?_ | refine yt ?_ ?_ | refine yo ?_ | apply zn | refine yc ?_ | intro _)
 all_goals (refine fin rfl ?_; rename_i h; simp at h; simp; omega)
theorem q3d_eq (a b : Int) : F_q3d [.x (iT a), .x (iT b)] = some ⟨[.one (iT (min a b))], []⟩ := by
 (refine Z6j rfl ?_; show Ev m_q3d.code _ _ _)
 repeat' (first | refine yt1 ?_ | refine yt0 ?_ | refine yt ?_ ?_ | refine yo ?_ | apply zn | refine yc ?_ | intro _)
 all_goals (refine fin rfl ?_; rename_i h; simp at h; simp; omega)
theorem q3u_eq (b : Bool) : F_q3u [.x (.b b)] = some ⟨[.one (iT (if b then 1 else 0))], []⟩ := by
 (refine Z6j rfl ?_; show Ev m_q3u.code _ _ _)
 repeat' (first | refine yt1 ?_ | refine yt0 ?_ | refine yt ?_ ?_ | refine yo ?_ | apply zn | refine yc ?_ | intro _)
 all_goals (refine fin rfl ?_; rename_i h; subst h; rfl)
theorem q3r_eq (n : Int) : F_q3r [.x (iT n)] = some ⟨[.one (.b (inB n 0 2))], []⟩ := by
 (refine Z6j rfl ?_; show Ev m_q3r.code _ _ _)
 repeat' (first | refine yk g_q36 (q36_eq _ _ _) ?_ | refine yo ?_ | apply zn | refine yc ?_ | intro _)
 exact fin rfl rfl
theorem q3h_eq (k w : Int) : F_q3h [.x (iT k), .x (iT w)] = some ⟨[.one (.b (inB k 0 4 && inB w 0 20))], []⟩ := by
 (refine Z6j rfl ?_; show Ev m_q3h.code _ _ _)
 repeat' (first | refine yy ?_ | refine ym ?_ | (apply ze;(iterate 5 exact rfl)) | (apply zf;(iterate 5 exact rfl)) | refine yp ?_ | refine yk g_q36 (q36_eq _ _ _) ?_ | refine yo ?_ | apply zn | refine yc ?_ | exact rfl | intro _)
 exact fin rfl rfl
theorem q37_eq (l : List Int) (lo hi : Int) (hl : l.length <= 4194304) : F_q37 [.x (ints .n l), .x (iT lo), .x (iT hi)] = some ⟨[.one (.b (numsOk l lo hi))], []⟩ := by
 (refine Z6j rfl ?_; show Ev m_q37.code _ _ _)
 repeat' (first | refine yt1 ?_ | refine yt0 ?_ | refine yt ?_ ?_ | refine yo ?_ | apply zn | refine yc ?_ | intro _)
 ·refine fin rfl ?_
  rename_i h
  have : l.length ≠ 3 := by simp at h; omega
  simp [numsOk, this]
 ·have h3 : l.length = 3 := by rename_i h; simp at h; omega
  show Ev _ _ _ _
  refine zfor iT l (fun i (_ : Unit) => [(0, .x (ints .n l)), (1, .x (iT lo)), (2, .x (iT hi)), (7, .x (iT i))]) (fun i _ => (l.take i).all (inB · lo hi) = true) () (by simp) rfl ?_ ?_
  ·intro i _ x hx hlt hc _ hinv ih
   repeat' (first | refine yi (iT x) (Zar hx) ?_ | refine yk g_q36 (q36_eq x lo hi) ?_ | refine yt1 ?_ | refine yt0 ?_ | refine yt ?_ ?_ | refine yo ?_ | apply zn | refine yc ?_ | intro _)
   ·refine fin rfl ?_
    have : inB x lo hi = false := by simp_all
    simp [numsOk, Zbs (p := (inB · lo hi)) hx this]
   ·refine ih () (Zkj (p := (inB · lo hi)) hinv hx (by simp_all)) _ _ ?_
    rw [<- w64s (by omega)]; rfl
  ·intro _ hc _ hinv
   repeat' (first | refine yt1 ?_ | refine yt0 ?_ | refine yt ?_ ?_ | refine yo ?_ | apply zn | refine yc ?_ | intro _)
   refine fin rfl ?_
   simp [numsOk, Zkl hinv, h3]
theorem ql_eq (l : List Int) (n lo hi : Int) (hl : l.length <= 4194304) : F_ql [.x (ints .n l), .x (iT n), .x (iT lo), .x (iT hi)] = some ⟨[.one (.b (decide ((l.length : Int) = n) && l.all (inB · lo hi)))], []⟩ := by
 (refine Z6j rfl ?_; show Ev m_ql.code _ _ _)
 repeat' (first | refine yt1 ?_ | refine yt0 ?_ | refine yt ?_ ?_ | refine yo ?_ | apply zn | refine yc ?_ | intro _)
 show Ev _ _ _ _
 refine zfor iT l (fun i (_ : Unit) => [(0, .x (ints .n l)), (1, .x (iT n)), (2, .x (iT lo)), (3, .x (iT hi)), (11, .x (ints .n l)), (12, .x (iT l.length)), (13, .x (iT i))]) (fun i _ => (l.take i).all (inB · lo hi) = true) () (by simp) (by rw [<- Y45 iT]; rfl) ?_ ?_
 ·intro i _ x hx hlt _ hc hinv ih
  repeat' (first | refine yi (iT x) (Zar hx) ?_ | refine yk g_q0 (q0_eq x lo hi) ?_ | refine yt1 ?_ | refine yt0 ?_ | refine yt ?_ ?_ | refine yo ?_ | apply zn | refine yc ?_ | intro _)
  ·refine fin rfl ?_
   have : inB x lo hi = false := by simp_all
   rw [Zbs (p := (inB · lo hi)) hx this]; simp
  ·refine ih () (Zkj (p := (inB · lo hi)) hinv hx (by simp_all)) _ _ ?_
   rw [<- w64s (by omega)]; rfl
 ·intro _ _ hc hinv
  repeat' (first | refine yt1 ?_ | refine yt0 ?_ | refine yt ?_ ?_ | refine yo ?_ | apply zn | refine yc ?_ | intro _)
  refine fin rfl ?_
  rw [Zkl hinv, Y45]
  simp [BEq.beq]
theorem q38_eq (c : GConf) (hl : c.Weights.length <= 4194304) : F_q38 [.st (c.cs .n)] = some ⟨[.one (.b c.ok)], []⟩ := by
 (refine Z6j rfl ?_; show Ev m_q38.code _ _ _)
 repeat' (first | refine yy ?_ | refine ym ?_ | (apply ze;(iterate 5 exact rfl)) | (apply zf;(iterate 5 exact rfl)) | refine yp ?_ | refine yk g_q36 (q36_eq _ _ _) ?_ | refine yk g_q37 (q37_eq c.Weights _ _ hl) ?_ | refine yo ?_ | apply zn | refine yc ?_ | exact rfl | intro _)
 exact fin rfl rfl
theorem qm_eq (c : GConf) (hl : c.Weights.length <= 4194304) : F_qm [.st (c.cs .n)] = some ⟨[.one (.b c.ok)], []⟩ := by
 have e : decide ((c.Weights.length : Int) = 3) = decide (c.Weights.length = 3) := by rw [Y7]; simp; omega
 (refine Z6j rfl ?_; show Ev m_qm.code _ _ _)
 repeat' (first | refine yy ?_ | refine ym ?_ | (apply ze;(iterate 5 exact rfl)) | (apply zf;(iterate 5 exact rfl)) | refine yp ?_ | refine yk g_q0 (q0_eq _ _ _) ?_ | refine yk g_ql (ql_eq c.Weights _ _ _ hl) ?_ | refine yo ?_ | apply zn | refine yc ?_ | exact rfl | intro _)
 refine fin rfl ?_
 rw [e]; rfl
end Go.Wr
namespace Go.Wr
set_option maxRecDepth 20000
theorem q7_eq (s : List GSpan) (hl : s.length <= 4194304) : F_q7 [.x (GSpan.ls .n s)] = some ⟨[.one (.b (setOk s))], []⟩ := by
 (refine Z6j rfl ?_; show Ev m_q7.code _ _ _)
 repeat' (first | refine yy ?_ | refine ym ?_ | (apply ze;(iterate 5 exact rfl)) | (apply zf;(iterate 5 exact rfl)) | refine yp ?_ | refine yt1 ?_ | refine yt0 ?_ | refine yt ?_ ?_ | refine yo ?_ | apply zn | refine yc ?_ | exact rfl | intro _)
 show Ev _ _ _ _
 refine zfor (GSpan.el .n) s (fun i (_ : Unit) => [(0, .x (GSpan.ls .n s)), (5, .x (GSpan.ls .n s)), (6, .x (iT s.length)), (7, .x (iT i))]) (fun i _ => ∀ j, j < i -> okAt s j = true) () (by omega) (by rw [<- Y45 (GSpan.el .n)]; rfl) ?_ ?_
 ·intro i _ x hx hlt _ hc hinv ih
  cases i with
  | zero =>
   have h0 : decide (((0 : Nat) : Int) > 0) = !true := rfl
   repeat' (first | refine yy ?_ | refine ym ?_ | (apply ze;(iterate 5 exact rfl)) | (apply zf;(iterate 5 exact rfl)) | refine yp ?_ | refine yi (GSpan.el .n x) (Zar hx) ?_ | refine yk g_q0 (q0_eq _ _ _) ?_ | refine yt1 ?_ | refine yt0 ?_ | refine yt ?_ ?_ | refine yo ?_ | apply zn | refine yc ?_ | exact rfl | intro _)
   ·refine fin rfl ?_
    rename_i h
    have : okAt s 0 = false := by rw [Zc8 hx]; revert h; cases inB x.Lo 0 9999 <;> cases inB x.Hi x.Lo 9999 <;> simp
    simp [setOk, Ze hlt this]
   ·rename_i h
    refine ih () (Zl8 hinv ?_) _ _ ?_
    ·rw [Zc8 hx]; revert h; cases inB x.Lo 0 9999 <;> cases inB x.Hi x.Lo 9999 <;> simp
    ·rw [<- w64s (by omega)]; rfl
  | succ k =>
   have hp := Y34 (show k < s.length by omega)
   generalize s[k]'(by omega) = p at hp
   have hb := Zc6 hp (hinv k (by omega))
   have hw : IntKind.i64.wrap (p.Hi + 1) = p.Hi + 1 := w64 (by omega)
   have hk := Zly (k := k) (by omega)
   have hk0 : 0 <= IntKind.i64.wrap (((k + 1 : Nat) : Int) - 1) := by rw [hk]; omega
   have hkp : (s.map (GSpan.el .n))[(IntKind.i64.wrap (((k + 1 : Nat) : Int) - 1)).toNat]? = some (GSpan.el .n p) := by rw [hk]; exact Zar hp
   repeat' (first | refine yy ?_ | refine ym ?_ | (apply ze;(iterate 5 exact rfl)) | (apply zf;(iterate 5 exact rfl)) | refine yp ?_ | refine yi (GSpan.el .n x) (Zar hx) ?_ | refine yj (GSpan.el .n p) (hk0) (hkp) ?_ | refine yk g_q0 (q0_eq _ _ _) ?_ | refine yt1 ?_ | refine yt0 ?_ | refine yt ?_ ?_ | refine yo ?_ | apply zn | refine yc ?_ | exact rfl | intro _)
   ·refine fin rfl ?_
    rename_i h
    rw [hw] at h
    have : okAt s (k + 1) = false := by rw [Zc7 hx hp]; revert h; cases inB x.Lo 0 9999 <;> cases inB x.Hi x.Lo 9999 <;> simp
    simp [setOk, Ze hlt this]
   ·rename_i h
    rw [hw] at h
    refine ih () (Zl8 hinv ?_) _ _ ?_
    ·rw [Zc7 hx hp]; revert h; cases inB x.Lo 0 9999 <;> cases inB x.Hi x.Lo 9999 <;> simp <;> omega
    ·rw [<- w64s (i := k + 1) (by omega)]; rfl
 ·intro _ _ hc hinv
  repeat' (first | refine yy ?_ | refine ym ?_ | (apply ze;(iterate 5 exact rfl)) | (apply zf;(iterate 5 exact rfl)) | refine yp ?_ | refine yt1 ?_ | refine yt0 ?_ | refine yt ?_ ?_ | refine yo ?_ | apply zn | refine yc ?_ | exact rfl | intro _)
  refine fin rfl ?_
  simp [setOk, Zf hinv]
theorem q39_eq (s : List GSpan) (hl : s.length <= 4194304) : F_q39 [.x (GSpan.ls .n s)] = some ⟨[.one (.b (setOk s))], []⟩ := by
 (refine Z6j rfl ?_; show Ev m_q39.code _ _ _)
 repeat' (first | refine yy ?_ | refine ym ?_ | (apply ze;(iterate 5 exact rfl)) | (apply zf;(iterate 5 exact rfl)) | refine yp ?_ | refine yt1 ?_ | refine yt0 ?_ | refine yt ?_ ?_ | refine yo ?_ | apply zn | refine yc ?_ | exact rfl | intro _)
 show Ev _ _ _ _
 refine zfor (GSpan.el .n) s (fun i (_ : Unit) => [(0, .x (GSpan.ls .n s)), (3, .x (iT i))]) (fun i _ => ∀ j, j < i -> okAt s j = true) () (by omega) rfl ?_ ?_
 ·intro i _ x hx hlt hc _ hinv ih
  cases i with
  | zero =>
   have h0 : decide (((0 : Nat) : Int) > 0) = !true := rfl
   repeat' (first | refine yy ?_ | refine ym ?_ | (apply ze;(iterate 5 exact rfl)) | (apply zf;(iterate 5 exact rfl)) | refine yp ?_ | refine yi (GSpan.el .n x) (Zar hx) ?_ | refine yk g_q36 (q36_eq _ _ _) ?_ | refine yt1 ?_ | refine yt0 ?_ | refine yt ?_ ?_ | refine yo ?_ | apply zn | refine yc ?_ | exact rfl | intro _)
   ·refine fin rfl ?_
    rename_i h
    have : okAt s 0 = false := by rw [Zc8 hx]; revert h; cases inB x.Lo 0 9999 <;> cases inB x.Hi x.Lo 9999 <;> simp
    simp [setOk, Ze hlt this]
   ·rename_i h
    refine ih () (Zl8 hinv ?_) _ _ ?_
    ·rw [Zc8 hx]; revert h; cases inB x.Lo 0 9999 <;> cases inB x.Hi x.Lo 9999 <;> simp
    ·rw [<- w64s (by omega)]; rfl
  | succ k =>
   have hp := Y34 (show k < s.length by omega)
   generalize s[k]'(by omega) = p at hp
   have hb := Zc6 hp (hinv k (by omega))
   have hw : IntKind.i64.wrap (p.Hi + 1) = p.Hi + 1 := w64 (by omega)
   have hk := Zly (k := k) (by omega)
   have hk0 : 0 <= IntKind.i64.wrap (((k + 1 : Nat) : Int) - 1) := by rw [hk]; omega
   have hkp : (s.map (GSpan.el .n))[(IntKind.i64.wrap (((k + 1 : Nat) : Int) - 1)).toNat]? = some (GSpan.el .n p) := by rw [hk]; exact Zar hp
   repeat' (first | refine yy ?_ | refine ym ?_ | (apply ze;(iterate 5 exact rfl)) | (apply zf;(iterate 5 exact rfl)) | refine yp ?_ | refine yi (GSpan.el .n x) (Zar hx) ?_ | refine yj (GSpan.el .n p) (hk0) (hkp) ?_ | refine yk g_q36 (q36_eq _ _ _) ?_ | refine yt1 ?_ | refine yt0 ?_ | refine yt ?_ ?_ | refine yo ?_ | apply zn | refine yc ?_ | exact rfl | intro _)
   ·refine fin rfl ?_
    rename_i h
    rw [hw] at h
    have : okAt s (k + 1) = false := by rw [Zc7 hx hp]; revert h; cases inB x.Lo 0 9999 <;> cases inB x.Hi x.Lo 9999 <;> simp
    simp [setOk, Ze hlt this]
   ·rename_i h
    rw [hw] at h
    refine ih () (Zl8 hinv ?_) _ _ ?_
    ·rw [Zc7 hx hp]; revert h; cases inB x.Lo 0 9999 <;> cases inB x.Hi x.Lo 9999 <;> simp <;> omega
    ·rw [<- w64s (i := k + 1) (by omega)]; rfl
 ·intro _ hc _ hinv
  repeat' (first | refine yy ?_ | refine ym ?_ | (apply ze;(iterate 5 exact rfl)) | (apply zf;(iterate 5 exact rfl)) | refine yp ?_ | refine yt1 ?_ | refine yt0 ?_ | refine yt ?_ ?_ | refine yo ?_ | apply zn | refine yc ?_ | exact rfl | intro _)
  refine fin rfl ?_
  simp [setOk, Zf hinv]
end Go.Wr
namespace Go.Wr
set_option maxRecDepth 20000
theorem q8_eq (l : List Int) (hl : l.length <= 4194304) : F_q8 [.x (ints .n l)] = some ⟨[.one (ints .y l)], []⟩ := by
 (refine Z6j rfl ?_; show Ev m_q8.code _ _ _)
 repeat' (first | (apply za;(iterate 3 exact rfl);exact (Zp hl);exact (Z5w (fun _ => rfl) _);exact rfl;exact rfl) | refine yo ?_ | apply zn | refine yc ?_ | intro _)
 exact fin rfl rfl
theorem qe_eq (l : List GSpan) (hl : l.length <= 4194304) : F_qe [.x (GSpan.ls .n l)] = some ⟨[.one (GSpan.ls .y l)], []⟩ := by
 (refine Z6j rfl ?_; show Ev m_qe.code _ _ _)
 repeat' (first | (apply za;(iterate 3 exact rfl);exact (Zp hl);exact (Z5w (fun _ => rfl) _);exact rfl;exact rfl) | refine yo ?_ | apply zn | refine yc ?_ | intro _)
 exact fin rfl rfl
theorem q3k_eq (l : List GSpan) (hl : l.length <= 4194304) : F_q3k [.x (GSpan.ls .n l)] = some ⟨[.one (GSpan.ls .y l)], []⟩ := by
 (refine Z6j rfl ?_; show Ev m_q3k.code _ _ _)
 repeat' (first | (apply za;(iterate 3 exact rfl);exact (Zp hl);exact (Z5w (fun _ => rfl) _);exact rfl;exact rfl) | refine yo ?_ | apply zn | refine yc ?_ | intro _)
 exact fin rfl rfl
theorem q3f_eq (l : List Int) (m most : Int) (z : Bool) (hl : l.length <= 4194304) : F_q3f [.x (ints .n l), .x (iT m), .x (iT most), .x (.b z)] = some ⟨[.one (.b (decide ((l.length : Int) = m) && l.all fun x => inB x 0 most && !(z && x != 0)))], []⟩ := by
 by_cases hm : (l.length : Int) = m
 ·subst hm
  have h0 : (((l.map iT).length : Int) != l.length) = false := by simp
  (refine Z6j rfl ?_; show Ev m_q3f.code _ _ _)
  repeat' (first | refine yy ?_ | refine ym ?_ | (apply ze;(iterate 5 exact rfl)) | (apply zf;(iterate 5 exact rfl)) | refine yp ?_ | refine yt1 ?_ | refine yt0 ?_ | refine yt ?_ ?_ | refine yo ?_ | apply zn | refine yc ?_ | exact rfl | intro _)
  show Ev _ _ _ _
  refine zfor iT l (fun i (_ : Unit) => [(0, .x (ints .n l)), (1, .x (iT l.length)), (2, .x (iT most)), (3, .x (.b z)), (9, .x (iT i))]) (fun i _ => (l.take i).all (fun x => inB x 0 most && !(z && x != 0)) = true) () (by simp) rfl ?_ ?_
  ·intro i _ x hx hlt _ hc hinv ih
   repeat' (first | refine yy ?_ | refine ym ?_ | (apply ze;(iterate 5 exact rfl)) | (apply zf;(iterate 5 exact rfl)) | refine yp ?_ | refine yi (iT x) (Zar hx) ?_ | refine yk g_q36 (q36_eq _ _ _) ?_ | refine yt1 ?_ | refine yt0 ?_ | refine yt ?_ ?_ | refine yo ?_ | apply zn | refine yc ?_ | exact rfl | intro _)
   ·refine fin rfl ?_
    rename_i h
    have : (inB x 0 most && !(z && x != 0)) = false := by revert h; cases inB x 0 most <;> cases z <;> simp
    rw [Zbs (p := fun x => inB x 0 most && !(z && x != 0)) hx this]; simp
   ·rename_i h
    refine ih () (Zkj (p := fun x => inB x 0 most && !(z && x != 0)) hinv hx (by revert h; cases inB x 0 most <;> cases z <;> simp)) _ _ ?_
    rw [<- w64s (by omega)]; rfl
  ·intro _ _ hc hinv
   repeat' (first | refine yy ?_ | refine ym ?_ | (apply ze;(iterate 5 exact rfl)) | (apply zf;(iterate 5 exact rfl)) | refine yp ?_ | refine yt1 ?_ | refine yt0 ?_ | refine yt ?_ ?_ | refine yo ?_ | apply zn | refine yc ?_ | exact rfl | intro _)
   refine fin rfl ?_
   rw [Zkl hinv]; simp
 ·have h0 : (((l.map iT).length : Int) != m) = true := by simpa using hm
  (refine Z6j rfl ?_; show Ev m_q3f.code _ _ _)
  repeat' (first | refine yy ?_ | refine ym ?_ | (apply ze;(iterate 5 exact rfl)) | (apply zf;(iterate 5 exact rfl)) | refine yp ?_ | refine yt1 ?_ | refine yt0 ?_ | refine yt ?_ ?_ | refine yo ?_ | apply zn | refine yc ?_ | exact rfl | intro _)
  refine fin rfl ?_
  simp [hm]
theorem q3g_eq (x : GSketch) (hl : x.bulk <= 4194304) : F_q3g [.st (x.cs .n)] = some ⟨[.one (.b x.ok)], []⟩ := by
 obtain ⟨c, s, mn, mx, hi, re, ro⟩ := x
 simp only [GSketch.bulk] at hl
 by_cases h2 : ro.length = 2
 ·obtain ⟨r0, r1, rfl⟩ : ∃ r0 r1, ro = [r0, r1] := by
   match ro, h2 with
   | [r0, r1], _ => exact ⟨r0, r1, rfl⟩
  have b0 : r0.length <= 4194304 := by simp [bulks] at hl; omega
  have b1 : r1.length <= 4194304 := by simp [bulks] at hl; omega
  (refine Z6j rfl ?_; show Ev m_q3g.code _ _ _)
  repeat' (first | refine yy ?_ | refine ym ?_ | (apply ze;(iterate 5 exact rfl)) | (apply zf;(iterate 5 exact rfl)) | refine yp ?_ | refine yk g_q36 (q36_eq _ _ _) ?_ | (apply zk g_q3f;exact rfl;exact rfl;exact (q3f_eq hi _ _ _ (by omega));(iterate 3 exact rfl)) | (apply zk g_q3f;exact rfl;exact rfl;exact (q3f_eq re _ _ _ (by omega));(iterate 3 exact rfl)) | refine yk g_q3f (q3f_eq r0 _ _ _ b0) ?_ | refine yk g_q3f (q3f_eq r1 _ _ _ b1) ?_ | refine yt1 ?_ | refine yt0 ?_ | refine yt ?_ ?_ | refine yo ?_ | apply zn | refine yc ?_ | exact rfl | intro _)
  all_goals (refine fin rfl (outB ?_); simp only [GSketch.ok, lstOk, iN, Y17, Y19, Y5])
  all_goals grind
 ·(refine Z6j rfl ?_; show Ev m_q3g.code _ _ _)
  repeat' (first | refine yy ?_ | refine ym ?_ | (apply ze;(iterate 5 exact rfl)) | (apply zf;(iterate 5 exact rfl)) | refine yp ?_ | refine yk g_q36 (q36_eq _ _ _) ?_ | refine yt1 ?_ | refine yt0 ?_ | refine yt ?_ ?_ | refine yo ?_ | apply zn | refine yc ?_ | exact rfl | intro _)
  all_goals first | (refine fin rfl (outB ?_); simp [GSketch.ok, h2]; done) | (exfalso; rename_i h _; simp at h; omega)
end Go.Wr
namespace Go.Wr
set_option maxRecDepth 20000
theorem q9_eq (x : GSketch) (hl : x.bulk <= 4194304) : F_q9 [.st (x.cs .n)] = some ⟨[.one (ints .y (x.Hist ++ x.Regs ++ x.Rows.flatten))], []⟩ := by
 simp only [GSketch.bulk] at hl
 have hr := Z1t List.length x.Rows
 have hsum : ∀ i, x.Hist.length + x.Regs.length + (x.Rows.take i).flatten.length <= 4194304 := fun i => by
  have := Zd8 (f := List.length) (l := x.Rows) (i := i)
  simp only [pre, <- List.length_flatten] at this
  omega
 (refine Z6j rfl ?_; show Ev m_q9.code _ _ _)
 repeat' (first | refine yk g_q8 (q8_eq x.Hist (by omega)) ?_ | (apply za;(iterate 3 exact rfl);exact (Zq (by omega));exact (Z5w (fun _ => rfl) _);exact rfl;exact rfl) | refine yt1 ?_ | refine yt0 ?_ | refine yt ?_ ?_ | refine yo ?_ | apply zn | refine yc ?_ | intro _)
 show Ev _ _ _ _
 refine zfor (ints .n) x.Rows (fun i (es : List T) => [(1, .box ⟨0, 0, 0⟩ (x.cs .n)), (3, .own ⟨0, 0, 0⟩ (.l .y 1 es)), (13, .x (GInt.lss .n x.Rows)), (14, .x (iT x.Rows.length)), (15, .x (iT i))]) (fun i es => es = (x.Hist ++ x.Regs ++ (x.Rows.take i).flatten).map iT) (x.Hist.map iT ++ x.Regs.map iT) (by simp) (by rw [<- Y45 (ints .n)]; rfl) ?_ ?_
 ·intro i es y hx hlt _ hc hinv ih
  have h5 : es.length + (y.map iT).length < lenMax := by
   have := hsum (i + 1)
   rw [Y70, hx] at this
   have h6 : es.length = (x.Hist ++ x.Regs ++ (x.Rows.take i).flatten).length := by rw [hinv, Y45]
   simp only [Y41, Option.toList_some, List.flatten_append, Y27, List.flatten_nil, Y22] at this h6
   rw [Y45]; unfold lenMax; omega
  repeat' (first | refine yi (ints .n y) (Zar hx) ?_ | (apply zv;(iterate 7 exact rfl);exact (h5);exact (Z5w (fun _ => rfl) _);exact rfl;exact rfl) | refine yt1 ?_ | refine yt0 ?_ | refine yt ?_ ?_ | refine yo ?_ | apply zn | refine yc ?_ | intro _)
  refine ih (es ++ y.map iT) ?_ _ _ ?_
  ·rw [hinv, Y70, hx]; simp
  ·rw [<- w64s (by omega)]; rfl
 ·intro es _ hc hinv
  repeat' (first | refine yt1 ?_ | refine yt0 ?_ | refine yt ?_ ?_ | refine yo ?_ | apply zn | refine yc ?_ | intro _)
  refine fin rfl ?_
  simp only [Zk0, hinv, Y72]
theorem Zk8 : ∀ {l : List Int}, l.all (inB · 0 1000000000) = true -> 0 <= l.sum /\ l.sum <= 1000000000 * l.length /\ (l.sum = 0 <-> ∀ x ∈ l, x = 0)
 | [], _ => by simp
 | x :: l, h => by
  simp only [Y17, Y2, inB, decide_eq_true_eq] at h
  obtain ⟨h1, h2, h3⟩ := Zk8 (l := l) h.2
  refine ⟨?_, ?_, ?_⟩
  ·simp only [Y69]; omega
  ·simp only [Y69, Y42]; omega
  ·simp only [Y69, Y55, forall_eq_or_imp, <- h3]; omega
theorem Zj1 {c s mn mx : Int} {hi re r0 r1 : List Int} (h8 : hi.length = 8) (h8b : re.length = 8) (h4 : r0.length = 4) (h4b : r1.length = 4) :
  (GSketch.mk c s mn mx hi re [r0, r1]).ok = ((hi ++ re ++ [r0, r1].flatten ++ [c, s, mn, mx]).all (inB · 0 1000000000) && re.all (fun n => !decide (n > 17)) && bif c == 0 then (hi ++ re ++ [r0, r1].flatten ++ [c, s, mn, mx]).sum == 0 else decide (mn <= mx) && decide (mx <= 1000000)) := by
 rw [Y7]
 simp only [GSketch.ok, lstOk, h8, h8b, h4, h4b, Y17, Y19, Y5, Y27, List.flatten_nil, Y22, List.all_append, Y2, decide_eq_true_eq, inB, Y18, Y11, decide_true, true_and]
 constructor
 ·rintro ⟨⟨⟨⟨⟨⟨⟨⟨⟨h1, h2⟩, h3⟩, h4⟩, h5⟩, _⟩, h6⟩, h7⟩, h8⟩, h9, h10⟩
  refine ⟨⟨⟨⟨⟨fun x hx => by have := h7 x hx; omega, fun x hx => by have := h8 x hx; omega⟩, fun x hx => by have := h9 x hx; omega, fun x hx => by have := h10 x hx; omega⟩, by omega, by omega, by omega, by omega⟩, fun x hx => by have := h8 x hx; simp; omega⟩, ?_⟩
  by_cases hc : c = 0
  ·subst hc
   simp only [BEq.rfl, cond_true]
   have z : ∀ {l : List Int}, (∀ x ∈ l, x = 0) -> l.sum = 0 := fun {l} => by
    induction l with
    | nil => simp
    | cons x l ih => intro h; simp only [Y55, forall_eq_or_imp] at h; simp [h.1, ih h.2]
   have q : ∀ x ∈ (hi ++ re ++ (r0 ++ r1) ++ [0, s, mn, mx]), x = 0 := by
    intro x hx
    simp only [Y52, Y55, List.not_mem_nil, or_false] at hx
    simp at h6 h7 h8 h9 h10
    rcases hx with ((hx | hx) | hx | hx) | hx | hx | hx | hx
    ·exact (h7 x hx).2
    ·exact (h8 x hx).2
    ·exact (h9 x hx).2
    ·exact (h10 x hx).2
    ·exact hx
    ·exact hx.trans h6.1
    ·omega
    ·omega
   rw [beq_iff_eq]; exact z q
  ·simp [hc]; omega
 ·rintro ⟨⟨⟨⟨⟨h1, h2⟩, h3, h3b⟩, h4, h5, h6, h7⟩, h8⟩, h9⟩
  by_cases hc : c = 0
  ·subst hc
   simp only [BEq.rfl, cond_true, beq_iff_eq] at h9
   have ha : (hi ++ re ++ (r0 ++ r1) ++ [0, s, mn, mx]).all (inB · 0 1000000000) = true := by
    rw [Y18]
    intro x hx
    simp only [inB, Y2, decide_eq_true_eq]
    simp only [Y52, Y55, List.not_mem_nil, or_false] at hx
    rcases hx with ((hx | hx) | hx | hx) | hx | hx | hx | hx
    ·exact h1 x hx
    ·exact h2 x hx
    ·exact h3 x hx
    ·exact h3b x hx
    ·exact hx ▸ h4
    ·exact hx ▸ h5
    ·exact hx ▸ h6
    ·exact hx ▸ h7
   have hz := (Zk8 ha).2.2.1 h9
   have hs := hz s (by simp)
   have hmn := hz mn (by simp)
   have hmx := hz mx (by simp)
   subst hs hmn hmx
   have zz : ∀ {x : Int}, x ∈ hi ++ re ++ (r0 ++ r1) ++ [0, 0, 0, 0] -> x = 0 := fun {x} => hz x
   refine ⟨⟨⟨⟨⟨⟨⟨⟨⟨by omega, by omega⟩, by omega⟩, by omega⟩, by omega⟩, rfl⟩, by simp⟩, fun x hx => ?_⟩, fun x hx => ?_⟩, fun x hx => ?_, fun x hx => ?_⟩ <;>
    (have := zz (x := x) (by simp [hx]); subst this; simp)
  ·have h9 : mn <= mx /\ mx <= 1000000 := by simpa [hc] using h9
   refine ⟨⟨⟨⟨⟨⟨⟨⟨⟨by omega, by omega⟩, by omega⟩, by omega⟩, by omega⟩, rfl⟩, by simp [hc]⟩, fun x hx => ?_⟩, fun x hx => ?_⟩, fun x hx => ?_, fun x hx => ?_⟩
   ·have := h1 x hx; simp [hc]; omega
   ·have := h2 x hx; have := h8 x hx; simp [hc] at this ⊢; omega
   ·have := h3 x hx; simp [hc]; omega
   ·have := h3b x hx; simp [hc]; omega
theorem qa_eq (x : GSketch) (hl : x.bulk <= 4000000) : F_qa [.st (x.cs .n)] = some ⟨[.one (.b x.ok)], []⟩ := by
 have hl0 := hl
 simp only [GSketch.bulk] at hl
 by_cases h2 : x.Rows.length = 2
 ·obtain ⟨r0, r1, hr⟩ : ∃ r0 r1, x.Rows = [r0, r1] := by
   match hx : x.Rows, h2 with
   | [r0, r1], _ => exact ⟨r0, r1, rfl⟩
  obtain ⟨c, s, mn, mx, hi, re, ro⟩ := x
  simp only at hr
  subst hr
  simp [bulks] at hl
  have ha : (hi ++ re ++ [r0, r1].flatten).length <= 4194304 := by simp; omega
  (refine Z6j rfl ?_; show Ev m_qa.code _ _ _)
  repeat' (first | refine yy ?_ | refine ym ?_ | (apply ze;(iterate 5 exact rfl)) | (apply zf;(iterate 5 exact rfl)) | refine yp ?_ | (apply zk g_q9;exact rfl;exact rfl;exact (q9_eq _ (Y77 hl0 (by omega)));(iterate 3 exact rfl)) | (apply za;(iterate 3 exact rfl);exact (Zr ha);exact (rfl);exact rfl;exact rfl) | refine yt1 ?_ | refine yt0 ?_ | refine yt ?_ ?_ | refine yo ?_ | apply zn | refine yc ?_ | exact rfl | intro _)
  ·refine fin rfl (outB ?_)
   rename_i h
   have : ¬(hi.length = 8 /\ re.length = 8 /\ r0.length = 4 /\ r1.length = 4) := by
    simp at h; omega
   rw [eq_comm, Y6]
   intro h
   apply this
   simp only [GSketch.ok, lstOk, Y17, Y19, Y2, decide_eq_true_eq] at h
   exact ⟨h.1.1.2.1, h.1.2.1, h.2.1.1, h.2.2.1.1⟩
  ·rename_i h
   simp at h
   have h8 : hi.length = 8 := by omega
   have h8b : re.length = 8 := by omega
   have h4 : r0.length = 4 := by omega
   have h4b : r1.length = 4 := by omega
   rw [Zj1 h8 h8b h4 h4b]
   obtain ⟨cs, hcs⟩ : ∃ cs, cs = hi ++ re ++ [r0, r1].flatten ++ [c, s, mn, mx] := ⟨_, rfl⟩
   have hm : cs.map iT = (hi ++ re ++ [r0, r1].flatten).map iT ++ [iT c, iT s, iT mn, iT mx] := by rw [hcs, Y49]; rfl
   have hcl : cs.length <= 4194308 := by rw [hcs, Y41]; simp at ha ⊢; omega
   rw [<- hcs]
   refine zfor iT cs (fun i (sum : Int) => [(1, .box ⟨0, 0, 0⟩ (GSketch.cs .n (GSketch.mk c s mn mx hi re [r0, r1]))), (3, .x (iT sum)), (51, .own ⟨0, 0, 0⟩ (.l .y 1 (cs.map iT))), (52, .x (iT (cs.map iT).length)), (53, .x (iT i))]) (fun i sum => (cs.take i).all (inB · 0 1000000000) = true /\ sum = (cs.take i).sum) 0 (by simp) (by rw [hm]; rfl) ?_ ?_
   ·rintro i sum x hx hlt hc _ ⟨hinv, rfl⟩ ih
    repeat' (first | refine yy ?_ | refine ym ?_ | (apply ze;(iterate 5 exact rfl)) | (apply zf;(iterate 5 exact rfl)) | refine yp ?_ | refine yx (Zcs hlt) ?_ | refine yl (iT x) (Zbj (Zar hx)) ?_ | refine yk g_q0 (q0_eq _ _ _) ?_ | refine yt1 ?_ | refine yt0 ?_ | refine yt ?_ ?_ | refine yo ?_ | apply zn | refine yc ?_ | exact rfl | intro _)
    ·refine fin rfl (outB ?_)
     have : inB x 0 1000000000 = false := by simp_all
     rw [Zbs (p := (inB · 0 1000000000)) hx this]; rfl
    ·have hx2 : inB x 0 1000000000 = true := by simp_all
     have h5 := (Zk8 hinv).1
     have h6 := (Zk8 hinv).2.1
     have h7 := hx2
     simp only [inB, Y2, decide_eq_true_eq] at h7
     have h8 : (cs.take i).length <= 4194308 := by rw [Y48]; omega
     refine ih _ ⟨Zkj (p := (inB · 0 1000000000)) hinv hx hx2, rfl⟩ _ _ ?_
     rw [w64 (n := (cs.take i).sum + x) (by omega), w64s (by omega), Zk9 hx]; rfl
   ·rintro sum hc _ ⟨hinv, rfl⟩
    rw [Zkl hinv, Y72]
    repeat' (first | refine yy ?_ | refine ym ?_ | (apply ze;(iterate 5 exact rfl)) | (apply zf;(iterate 5 exact rfl)) | refine yp ?_ | refine yt1 ?_ | refine yt0 ?_ | refine yt ?_ ?_ | refine yo ?_ | apply zn | refine yc ?_ | exact rfl | intro _)
    refine zfor iT re (fun i (_ : Unit) => [(1, .box ⟨0, 0, 0⟩ (GSketch.cs .n (GSketch.mk c s mn mx hi re [r0, r1]))), (3, .x (iT cs.sum)), (65, .x (ints .n re)), (66, .x (iT re.length)), (67, .x (iT i))]) (fun i _ => (re.take i).all (fun n => !decide (n > 17)) = true) () (by simp) (by rw [<- Y45 iT]; rfl) ?_ ?_
    ·intro i _ x hx hlt _ hc hinv ih
     repeat' (first | refine yy ?_ | refine ym ?_ | (apply ze;(iterate 5 exact rfl)) | (apply zf;(iterate 5 exact rfl)) | refine yp ?_ | refine yi (iT x) (Zar hx) ?_ | refine yt1 ?_ | refine yt0 ?_ | refine yt ?_ ?_ | refine yo ?_ | apply zn | refine yc ?_ | exact rfl | intro _)
     ·refine fin rfl (outB ?_)
      rw [Zbs (p := fun n => !decide (n > 17)) hx (by simp_all)]; rfl
     ·refine ih () (Zkj (p := fun n => !decide (n > 17)) hinv hx (by simp_all)) _ _ ?_
      rw [<- w64s (i := i) (by omega)]; rfl
    ·intro _ _ hc hinv
     rw [Zkl hinv]
     repeat' (first | refine yy ?_ | refine ym ?_ | (apply ze;(iterate 5 exact rfl)) | (apply zf;(iterate 5 exact rfl)) | refine yp ?_ | refine yt1 ?_ | refine yt0 ?_ | refine yt ?_ ?_ | refine yo ?_ | apply zn | refine yc ?_ | exact rfl | intro _)
     ·refine fin rfl (outB ?_)
      rename_i h
      have hc0 : c = 0 := by simpa using h
      subst hc0; rfl
     ·refine fin rfl (outB ?_)
      rename_i h
      rw [show (c == 0) = false from h]; rfl
 ·have h0 : ((((x.Hist.map iT).length : Int) != 8 || ((x.Regs.map iT).length : Int) != 8) || ((x.Rows.map (ints .n)).length : Int) != 2) = !false := by
   have : ((x.Rows.length : Int) != 2) = true := by simp; omega
   rw [Y45 (ints .n), this]; simp
  have h1 : true = !false := rfl
  have h4 : true = true := rfl
  have h3 : (((((x.Hist.map iT).length : Int) != 8 || ((x.Regs.map iT).length : Int) != 8) || ((x.Rows.map (ints .n)).length : Int) != 2)) = true := h0
  (refine Z6j rfl ?_; show Ev m_qa.code _ _ _)
  repeat' (first | refine yy ?_ | refine ym ?_ | (apply ze;(iterate 5 exact rfl)) | (apply zf;(iterate 5 exact rfl)) | refine yp ?_ | refine yt1 ?_ | refine yt0 ?_ | refine yt ?_ ?_ | refine yo ?_ | apply zn | refine yc ?_ | exact rfl | intro _)
  refine fin rfl (outB ?_)
  simp [GSketch.ok, h2]
end Go.Wr
namespace Go.Wr
set_option maxRecDepth 20000
theorem qb_eq (e : GEntry) (hl : e.bulk <= 4000000) : F_qb [.st (e.cs .n)] = some ⟨[.one (.b e.ok)], []⟩ := by
 simp only [GEntry.bulk] at hl
 have hi : e.Ids.length <= 4194304 := by omega
 have hs : e.Sketch.bulk <= 4000000 := by omega
 (refine Z6j rfl ?_; show Ev m_qb.code _ _ _)
 repeat' (first | refine yy ?_ | refine ym ?_ | (apply ze;(iterate 5 exact rfl)) | (apply zf;(iterate 5 exact rfl)) | refine yp ?_ | refine yk g_q0 (q0_eq _ _ _) ?_ | refine yk g_q7 (q7_eq e.Ids hi) ?_ | refine yk g_qa (qa_eq e.Sketch hs) ?_ | refine yo ?_ | apply zn | refine yc ?_ | exact rfl | intro _)
 refine fin rfl (outB ?_)
 have : decide (e.Ids ≠ []) = decide ((e.Ids.length : Int) > 0) := by rw [Y7]; simp [Y47]
 rw [GEntry.ok, this, Y45]
theorem q3i_eq (e : GEntry) (hl : e.bulk <= 4000000) : F_q3i [.st (e.cs .n)] = some ⟨[.one (.b e.ok)], []⟩ := by
 simp only [GEntry.bulk] at hl
 have hi : e.Ids.length <= 4194304 := by omega
 have hs : e.Sketch.bulk <= 4194304 := by omega
 (refine Z6j rfl ?_; show Ev m_q3i.code _ _ _)
 repeat' (first | refine yy ?_ | refine ym ?_ | (apply ze;(iterate 5 exact rfl)) | (apply zf;(iterate 5 exact rfl)) | refine yp ?_ | refine yk g_q3h (q3h_eq _ _) ?_ | refine yk g_q39 (q39_eq e.Ids hi) ?_ | refine yk g_q3g (q3g_eq e.Sketch hs) ?_ | refine yo ?_ | apply zn | refine yc ?_ | exact rfl | intro _)
 refine fin rfl (outB ?_)
 have : decide (e.Ids ≠ []) = decide ((e.Ids.length : Int) > 0) := by rw [Y7]; simp [Y47]
 rw [GEntry.ok, this, Y45]
 generalize setOk e.Ids = a
 generalize (inB e.Key 0 4 && inB e.Window 0 20) = b
 generalize decide ((e.Ids.length : Int) > 0) = c
 generalize e.Sketch.ok = d
 revert a b c d; decide
theorem Zk7 {s : List GSpan} {i : Nat} {x : GSpan} (h : s[i]? = some x) : sumSpan (s.take (i + 1)) = sumSpan (s.take i) + (x.Hi - x.Lo + 1) := by
 unfold sumSpan; rw [Y70, h]; simp
theorem Zk6 : ∀ {s : List GSpan}, (∀ x ∈ s, 0 <= x.Lo /\ x.Lo <= x.Hi /\ x.Hi <= 9999) -> 0 <= sumSpan s /\ sumSpan s <= 10000 * s.length
 | [], _ => by simp [sumSpan]
 | x :: s, h => by
  have h1 := Zk6 (s := s) fun y hy => h y (Y56 _ hy)
  have h2 := h x Y57
  simp only [sumSpan, Y50, Y69, Y42] at h1 ⊢
  omega
theorem qp_eq (s : List GSpan) (hl : s.length <= 4194304) : F_qp [.x (GSpan.ls .n s)] = some ⟨[.one (iT (setSize s))], []⟩ := by
 (refine Z6j rfl ?_; show Ev m_qp.code _ _ _)
 repeat' (first | refine yk g_q7 (q7_eq s hl) ?_ | refine yt1 ?_ | refine yt0 ?_ | refine yt ?_ ?_ | refine yo ?_ | apply zn | refine yc ?_ | intro _)
 ·refine fin rfl (outI ?_)
  rename_i h
  have : setOk s = false := by simpa using h
  rw [setSize, if_neg (by simp [this])]
 ·rename_i h
  have hok : setOk s = true := by simpa using h
  have hb : ∀ x ∈ s, 0 <= x.Lo /\ x.Lo <= x.Hi /\ x.Hi <= 9999 := fun x hx => Zit hok hx
  rw [setSize, if_pos hok]
  refine zfor (GSpan.el .n) s (fun i (n : Int) => [(3, .x (iT n)), (9, .x (GSpan.ls .n s)), (10, .x (iT s.length)), (11, .x (iT i))]) (fun i n => n = sumSpan (s.take i)) 0 (by simp [sumSpan]) (by rw [<- Y45 (GSpan.el .n)]; rfl) ?_ ?_
  ·rintro i n x hx hlt _ hc rfl ih
   have h2 := Zk6 (s := s.take i) fun y hy => hb y (Y63 hy)
   have h3 := hb x (Y62 hx)
   rw [Y48] at h2
   have h4 : IntKind.i64.wrap (x.Hi - x.Lo) = x.Hi - x.Lo := w64 (by omega)
   have h5 : IntKind.i64.wrap (x.Hi - x.Lo + 1) = x.Hi - x.Lo + 1 := w64 (by omega)
   have h6 : IntKind.i64.wrap (sumSpan (s.take i) + (x.Hi - x.Lo + 1)) = sumSpan (s.take (i + 1)) := by rw [Zk7 hx, w64 (by omega)]
   repeat' (first | refine yi (GSpan.el .n x) (Zar hx) ?_ | refine yt1 ?_ | refine yt0 ?_ | refine yt ?_ ?_ | refine yo ?_ | apply zn | refine yc ?_ | intro _)
   refine ih _ rfl _ _ ?_
   rw [h4, h5, h6, w64s (by omega)]; rfl
  ·rintro n _ hc rfl
   rw [Y72]
   repeat' (first | refine yt1 ?_ | refine yt0 ?_ | refine yt ?_ ?_ | refine yo ?_ | apply zn | refine yc ?_ | intro _)
   exact fin rfl rfl
theorem q3o_eq (s : List GSpan) (hl : s.length <= 4194304) : F_q3o [.x (GSpan.ls .n s)] = some ⟨[.one (iT (setSize s))], []⟩ := by
 (refine Z6j rfl ?_; show Ev m_q3o.code _ _ _)
 repeat' (first | refine yk g_q39 (q39_eq s hl) ?_ | refine yt1 ?_ | refine yt0 ?_ | refine yt ?_ ?_ | refine yo ?_ | apply zn | refine yc ?_ | intro _)
 ·refine fin rfl (outI ?_)
  rename_i h
  have : setOk s = false := by simpa using h
  rw [setSize, if_neg (by simp [this])]
 ·rename_i h
  have hok : setOk s = true := by simpa using h
  have hb : ∀ x ∈ s, 0 <= x.Lo /\ x.Lo <= x.Hi /\ x.Hi <= 9999 := fun x hx => Zit hok hx
  rw [setSize, if_pos hok]
  refine zfor (GSpan.el .n) s (fun i (n : Int) => [(0, .x (GSpan.ls .n s)), (3, .x (iT n)), (4, .x (iT i))]) (fun i n => n = sumSpan (s.take i)) 0 (by simp [sumSpan]) rfl ?_ ?_
  ·rintro i n x hx hlt hc _ rfl ih
   have h2 := Zk6 (s := s.take i) fun y hy => hb y (Y63 hy)
   have h3 := hb x (Y62 hx)
   rw [Y48] at h2
   have h4 : IntKind.i64.wrap (sumSpan (s.take i) + x.Hi) = sumSpan (s.take i) + x.Hi := w64 (by omega)
   have h5 : IntKind.i64.wrap (sumSpan (s.take i) + x.Hi - x.Lo) = sumSpan (s.take i) + x.Hi - x.Lo := w64 (by omega)
   have h6 : IntKind.i64.wrap (sumSpan (s.take i) + x.Hi - x.Lo + 1) = sumSpan (s.take (i + 1)) := by rw [Zk7 hx, w64 (by omega)]; omega
   repeat' (first | refine yi (GSpan.el .n x) (Zar hx) ?_ | refine yt1 ?_ | refine yt0 ?_ | refine yt ?_ ?_ | refine yo ?_ | apply zn | refine yc ?_ | intro _)
   refine ih _ rfl _ _ ?_
   rw [h4, h5, h6, w64s (by omega)]; rfl
  ·rintro n hc _ rfl
   rw [Y72]
   repeat' (first | refine yt1 ?_ | refine yt0 ?_ | refine yt ?_ ?_ | refine yo ?_ | apply zn | refine yc ?_ | intro _)
   exact fin rfl rfl
theorem q3p_eq (s : List GSpan) (m : Int) (hl : s.length <= 4194304) : F_q3p [.x (GSpan.ls .n s), .x (iT m)] = some ⟨[.one (.b (allIn s 1 m))], []⟩ := by
 (refine Z6j rfl ?_; show Ev m_q3p.code _ _ _)
 repeat' (first | refine yy ?_ | refine ym ?_ | (apply ze;(iterate 5 exact rfl)) | (apply zf;(iterate 5 exact rfl)) | refine yp ?_ | refine yk g_q39 (q39_eq s hl) ?_ | refine yt1 ?_ | refine yt0 ?_ | refine yt ?_ ?_ | refine yo ?_ | apply zn | refine yc ?_ | exact rfl | intro _)
 ·refine fin rfl (outB ?_)
  rename_i h
  have : setOk s = false := by simpa using h
  rw [allIn, this]; rfl
 ·rename_i h
  have hok : setOk s = true := by simpa using h
  rw [allIn, hok, Y15]
  refine zfor (GSpan.el .n) s (fun i (_ : Unit) => [(0, .x (GSpan.ls .n s)), (1, .x (iT m)), (5, .x (iT i))]) (fun i _ => (s.take i).all (fun x => decide (1 <= x.Lo) && decide (x.Hi <= m)) = true) () (by simp) rfl ?_ ?_
  ·rintro i _ x hx hlt hc _ hinv ih
   repeat' (first | refine yy ?_ | refine ym ?_ | (apply ze;(iterate 5 exact rfl)) | (apply zf;(iterate 5 exact rfl)) | refine yp ?_ | refine yi (GSpan.el .n x) (Zar hx) ?_ | refine yt1 ?_ | refine yt0 ?_ | refine yt ?_ ?_ | refine yo ?_ | apply zn | refine yc ?_ | exact rfl | intro _)
   ·refine fin rfl (outB ?_)
    rw [Zbs (p := fun x => decide (1 <= x.Lo) && decide (x.Hi <= m)) hx]
    rename_i h
    simp at h ⊢; omega
   ·refine ih () (Zkj (p := fun x => decide (1 <= x.Lo) && decide (x.Hi <= m)) hinv hx ?_) _ _ ?_
    ·rename_i h; simp at h ⊢; omega
    ·rw [w64s (by omega)]; rfl
  ·rintro _ hc _ hinv
   rw [Zkl hinv]
   repeat' (first | refine yy ?_ | refine ym ?_ | (apply ze;(iterate 5 exact rfl)) | (apply zf;(iterate 5 exact rfl)) | refine yp ?_ | refine yt1 ?_ | refine yt0 ?_ | refine yt ?_ ?_ | refine yo ?_ | apply zn | refine yc ?_ | exact rfl | intro _)
   exact fin rfl rfl
theorem Za {s : List GSpan} {lo hi : Int} {a b : GSpan} (hok : setOk s = true) (ha : s[0]? = some a) (hb : s[s.length - 1]? = some b) : allIn s lo hi = (decide (a.Lo >= lo) && decide (b.Hi <= hi)) := by
 have h := (Ziv s).1 hok
 rw [allIn, hok, Y15, Y7, Y18]
 simp only [Y2, decide_eq_true_eq]
 constructor
 ·exact fun h2 => ⟨(h2 a (Y62 ha)).1, (h2 b (Y62 hb)).2⟩
 ·rintro ⟨h1, h2⟩ x hx
  obtain ⟨i, hi⟩ := Y59.1 hx
  have hil := (Y36.1 hi).1
  have hp := Y68.1 h.ord
  constructor
  ·rcases Nat.eq_zero_or_pos i with rfl | h0
   ·rw [ha] at hi; cases hi; exact h1
   ·have := hp 0 i (by omega) hil h0
    rw [(Y36.1 ha).2, (Y36.1 hi).2] at this
    have h4 := h.lo a (Y62 ha)
    omega
  ·rcases Y79 i (s.length - 1) with h0 | h0
   ·have := hp i (s.length - 1) hil (by omega) h0
    rw [(Y36.1 hb).2, (Y36.1 hi).2] at this
    have h4 := h.lo b (Y62 hb)
    omega
   ·have : i = s.length - 1 := by omega
    subst this; rw [hb] at hi; cases hi; exact h2
theorem qq_eq (s : List GSpan) (lo hi : Int) (hl : s.length <= 4194304) : F_qq [.x (GSpan.ls .n s), .x (iT lo), .x (iT hi)] = some ⟨[.one (.b (allIn s lo hi))], []⟩ := by
 have hset := q7_eq s hl
 cases hok : setOk s with
 | false =>
  rw [hok] at hset
  have h1 : false = !true := rfl
  have h2 : false = false := rfl
  (refine Z6j rfl ?_; show Ev m_qq.code _ _ _)
  repeat' (first | refine yy ?_ | refine ym ?_ | (apply ze;(iterate 5 exact rfl)) | (apply zf;(iterate 5 exact rfl)) | refine yp ?_ | refine yk g_q7 (hset) ?_ | refine yo ?_ | apply zn | refine yc ?_ | exact rfl | intro _)
  refine fin rfl (outB ?_)
  rw [allIn, hok]; rfl
 | true =>
  rw [hok] at hset
  have h1 : true = true := rfl
  rcases Nat.eq_zero_or_pos s.length with h0 | h0
  ·obtain rfl := List.eq_nil_of_length_eq_zero h0
   have h2 : (((([] : List GSpan).map (GSpan.el .n)).length : Int) == 0) = !false := rfl
   have h3 : (((([] : List GSpan).map (GSpan.el .n)).length : Int) == 0) = true := rfl
   (refine Z6j rfl ?_; show Ev m_qq.code _ _ _)
   repeat' (first | refine yy ?_ | refine ym ?_ | (apply ze;(iterate 5 exact rfl)) | (apply zf;(iterate 5 exact rfl)) | refine yp ?_ | refine yk g_q7 (hset) ?_ | refine yo ?_ | apply zn | refine yc ?_ | exact rfl | intro _)
   exact fin rfl rfl
  ·have h2 : (((s.map (GSpan.el .n)).length : Int) == 0) = false := by
    have : ((s.length : Int) == 0) = false := by rw [beq_eq_false_iff_ne]; omega
    rwa [Y45]
   have ha := Y34 (show 0 < s.length by omega)
   have hb := Y34 (show s.length - 1 < s.length by omega)
   generalize s[0]'_ = a at ha
   generalize s[s.length - 1]'_ = b at hb
   have hk : IntKind.i64.wrap (((s.map (GSpan.el .n)).length : Int) - 1) = ((s.length - 1 : Nat) : Int) := by rw [Y45, w64 (by omega)]; omega
   have hk0 : 0 <= IntKind.i64.wrap (((s.map (GSpan.el .n)).length : Int) - 1) := by rw [hk]; omega
   have hkp : (s.map (GSpan.el .n))[(IntKind.i64.wrap (((s.map (GSpan.el .n)).length : Int) - 1)).toNat]? = some (GSpan.el .n b) := by rw [hk]; exact Zar hb
   (refine Z6j rfl ?_; show Ev m_qq.code _ _ _)
   repeat' (first | refine yy ?_ | refine ym ?_ | (apply ze;(iterate 5 exact rfl)) | (apply zf;(iterate 5 exact rfl)) | refine yp ?_ | refine yk g_q7 (hset) ?_ | refine yj (GSpan.el .n b) (hk0) (hkp) ?_ | refine yj (GSpan.el .n a) (Int.le_refl _) (Zar ha) ?_ | refine yo ?_ | apply zn | refine yc ?_ | exact rfl | intro _)
   refine fin rfl (outB ?_)
   rw [Za hok ha hb]
end Go.Wr
namespace Go.Wr
set_option maxRecDepth 20000
theorem qc_eq (a b : List GSpan) (ha : a.length <= 4194304) (hb : b.length <= 4194304) : F_qc [.x (GSpan.ls .n a), .x (GSpan.ls .n b)] = some ⟨[.one (.b (setApart a b))], []⟩ := by
 (refine Z6j rfl ?_; show Ev m_qc.code _ _ _)
 repeat' (first | refine yy ?_ | refine ym ?_ | (apply ze;(iterate 5 exact rfl)) | (apply zf;(iterate 5 exact rfl)) | refine yp ?_ | refine yk g_q7 (q7_eq a ha) ?_ | refine yk g_q7 (q7_eq b hb) ?_ | refine yt1 ?_ | refine yt0 ?_ | refine yt ?_ ?_ | refine yo ?_ | apply zn | refine yc ?_ | exact rfl | intro _)
 ·refine fin rfl (outB ?_)
  rename_i h
  rw [setApart]; revert h; cases setOk a <;> cases setOk b <;> simp
 ·rename_i h
  have hok : (setOk a && setOk b) = true := by revert h; cases setOk a <;> cases setOk b <;> simp
  rw [setApart, hok, Y15]
  refine zfor (GSpan.el .n) a (fun i (_ : Unit) => [(1, .x (GSpan.ls .n b)), (17, .x (GSpan.ls .n a)), (18, .x (iT (a.map (GSpan.el .n)).length)), (19, .x (iT i))]) (fun i _ => (a.take i).all (fun x => b.all fun y => spanApart x y) = true) () (by simp) rfl ?_ ?_
  ·rintro i _ x hx hlt _ hc hinv ih
   repeat' (first | refine yy ?_ | refine ym ?_ | (apply ze;(iterate 5 exact rfl)) | (apply zf;(iterate 5 exact rfl)) | refine yp ?_ | refine yi (GSpan.el .n x) (Zar hx) ?_ | refine yt1 ?_ | refine yt0 ?_ | refine yt ?_ ?_ | refine yo ?_ | apply zn | refine yc ?_ | exact rfl | intro _)
   refine zfor (GSpan.el .n) b (fun k (_ : Unit) => [(1, .x (GSpan.ls .n b)), (6, .box ⟨0, 0, 0⟩ (x.cs .n)), (17, .x (GSpan.ls .n a)), (18, .x (iT (a.map (GSpan.el .n)).length)), (19, .x (iT i)), (23, .x (GSpan.ls .n b)), (24, .x (iT (b.map (GSpan.el .n)).length)), (25, .x (iT k))]) (fun k _ => (b.take k).all (fun y => spanApart x y) = true) () (by simp) rfl ?_ ?_
   ·rintro k _ y hy hlt2 _ hc hinv2 ih2
    repeat' (first | refine yy ?_ | refine ym ?_ | (apply ze;(iterate 5 exact rfl)) | (apply zf;(iterate 5 exact rfl)) | refine yp ?_ | refine yi (GSpan.el .n y) (Zar hy) ?_ | refine yt1 ?_ | refine yt0 ?_ | refine yt ?_ ?_ | refine yo ?_ | apply zn | refine yc ?_ | exact rfl | intro _)
    ·refine fin rfl (outB ?_)
     rw [Zbs (p := fun x => b.all fun y => spanApart x y) hx (Zbs (p := fun y => spanApart x y) hy ?_)]
     rename_i h
     rw [spanApart, h]; rfl
    ·refine ih2 () (Zkj (p := fun y => spanApart x y) hinv2 hy ?_) _ _ ?_
     ·rename_i h; rw [spanApart, h]; rfl
     ·rw [w64s (by omega)]; rfl
   ·rintro _ _ hc hinv2
    repeat' (first | refine yy ?_ | refine ym ?_ | (apply ze;(iterate 5 exact rfl)) | (apply zf;(iterate 5 exact rfl)) | refine yp ?_ | refine yt1 ?_ | refine yt0 ?_ | refine yt ?_ ?_ | refine yo ?_ | apply zn | refine yc ?_ | exact rfl | intro _)
    refine ih () (Zkj (p := fun x => b.all fun y => spanApart x y) hinv hx (Zkl hinv2)) _ _ ?_
    rw [w64s (by omega)]; rfl
  ·rintro _ _ hc hinv
   rw [Zkl hinv]
   repeat' (first | refine yy ?_ | refine ym ?_ | (apply ze;(iterate 5 exact rfl)) | (apply zf;(iterate 5 exact rfl)) | refine yp ?_ | refine yt1 ?_ | refine yt0 ?_ | refine yt ?_ ?_ | refine yo ?_ | apply zn | refine yc ?_ | exact rfl | intro _)
   exact fin rfl rfl
theorem q3a_eq (a b : List GSpan) (ha : a.length <= 4194304) (hb : b.length <= 4194304) : F_q3a [.x (GSpan.ls .n a), .x (GSpan.ls .n b)] = some ⟨[.one (.b (setApart a b))], []⟩ := by
 (refine Z6j rfl ?_; show Ev m_q3a.code _ _ _)
 repeat' (first | refine yy ?_ | refine ym ?_ | (apply ze;(iterate 5 exact rfl)) | (apply zf;(iterate 5 exact rfl)) | refine yp ?_ | refine yk g_q39 (q39_eq a ha) ?_ | refine yk g_q39 (q39_eq b hb) ?_ | refine yt1 ?_ | refine yt0 ?_ | refine yt ?_ ?_ | refine yo ?_ | apply zn | refine yc ?_ | exact rfl | intro _)
 ·refine fin rfl (outB ?_)
  rename_i h
  rw [setApart]; revert h; cases setOk a <;> cases setOk b <;> simp
 ·rename_i h
  have hok : (setOk a && setOk b) = true := by revert h; cases setOk a <;> cases setOk b <;> simp
  rw [setApart, hok, Y15]
  refine zfor (GSpan.el .n) a (fun i (_ : Unit) => [(0, .x (GSpan.ls .n a)), (1, .x (GSpan.ls .n b)), (5, .x (iT i))]) (fun i _ => (a.take i).all (fun x => b.all fun y => spanApart x y) = true) () (by simp) rfl ?_ ?_
  ·rintro i _ x hx hlt hc _ hinv ih
   repeat' (first | refine yy ?_ | refine ym ?_ | (apply ze;(iterate 5 exact rfl)) | (apply zf;(iterate 5 exact rfl)) | refine yp ?_ | refine yi (GSpan.el .n x) (Zar hx) ?_ | refine yt1 ?_ | refine yt0 ?_ | refine yt ?_ ?_ | refine yo ?_ | apply zn | refine yc ?_ | exact rfl | intro _)
   refine zfor (GSpan.el .n) b (fun k (_ : Unit) => [(0, .x (GSpan.ls .n a)), (1, .x (GSpan.ls .n b)), (5, .x (iT i)), (6, .x (iT k))]) (fun k _ => (b.take k).all (fun y => spanApart x y) = true) () (by simp) rfl ?_ ?_
   ·rintro k _ y hy hlt2 hc _ hinv2 ih2
    repeat' (first | refine yy ?_ | refine ym ?_ | (apply ze;(iterate 5 exact rfl)) | (apply zf;(iterate 5 exact rfl)) | refine yp ?_ | refine yi (GSpan.el .n x) (Zar hx) ?_ | refine yi (GSpan.el .n y) (Zar hy) ?_ | refine yt1 ?_ | refine yt0 ?_ | refine yt ?_ ?_ | refine yo ?_ | apply zn | refine yc ?_ | exact rfl | intro _)
    ·refine fin rfl (outB ?_)
     rw [Zbs (p := fun x => b.all fun y => spanApart x y) hx (Zbs (p := fun y => spanApart x y) hy ?_)]
     rename_i h
     rw [spanApart, h]; rfl
    ·refine ih2 () (Zkj (p := fun y => spanApart x y) hinv2 hy ?_) _ _ ?_
     ·rename_i h; rw [spanApart, h]; rfl
     ·rw [w64s (by omega)]; rfl
   ·rintro _ hc _ hinv2
    repeat' (first | refine yy ?_ | refine ym ?_ | (apply ze;(iterate 5 exact rfl)) | (apply zf;(iterate 5 exact rfl)) | refine yp ?_ | refine yt1 ?_ | refine yt0 ?_ | refine yt ?_ ?_ | refine yo ?_ | apply zn | refine yc ?_ | exact rfl | intro _)
    refine ih () (Zkj (p := fun x => b.all fun y => spanApart x y) hinv hx (Zkl hinv2)) _ _ ?_
    rw [w64s (by omega)]; rfl
  ·rintro _ hc _ hinv
   rw [Zkl hinv]
   repeat' (first | refine yy ?_ | refine ym ?_ | (apply ze;(iterate 5 exact rfl)) | (apply zf;(iterate 5 exact rfl)) | refine yp ?_ | refine yt1 ?_ | refine yt0 ?_ | refine yt ?_ ?_ | refine yo ?_ | apply zn | refine yc ?_ | exact rfl | intro _)
   exact fin rfl rfl
end Go.Wr
namespace Go.Wr
set_option maxRecDepth 20000
theorem Zo {es : List T} {α : Type} {f : α -> T} {l : List α} (h : es.length + l.length <= 4194304) : es.length + (l.map f).length < lenMax := by simp [lenMax]; omega
theorem qv_eq (h : GHouse) (hl : h.bulk <= 4000000) : F_qv [.st (h.cs .n)] = some ⟨[.one (.l .y 10 ((rowEnts h).map (GEntry.el .n)))], []⟩ := by
 have hb := Zgr h
 simp only [GHouse.bulk] at hl
 have hr := Z1t (bulks GRow.bulk) h.Rows
 (refine Z6j rfl ?_; show Ev m_qv.code _ _ _)
 repeat' (first | refine yt1 ?_ | refine yt0 ?_ | refine yt ?_ ?_ | refine yo ?_ | apply zn | refine yc ?_ | intro _)
 refine zfor (GRow.ls .n) h.Rows (fun i (es : List T) => [(1, .box ⟨0, 0, 0⟩ (h.cs .n)), (3, .own ⟨0, 0, 0⟩ (.l .y 10 es)), (9, .x (GRow.lss .n h.Rows)), (10, .x (iT (h.Rows.map (GRow.ls .n)).length)), (11, .x (iT i))]) (fun i es => es = (((h.Rows.take i).map rowsE).flatten).map (GEntry.el .n)) [] (by simp) rfl ?_ ?_
 ·rintro i es rs hx hlt hc _ hinv ih
  have hb1 := Z5o (f := rowsE) hx
  rw [<- Zgq] at hb1
  have hr1 := Z1v (f := bulks GRow.bulk) hx
  have hr2 := Z1t GRow.bulk rs
  repeat' (first | refine yi (GRow.ls .n rs) (Zar hx) ?_ | refine yt1 ?_ | refine yt0 ?_ | refine yt ?_ ?_ | refine yo ?_ | apply zn | refine yc ?_ | intro _)
  refine zfor (GRow.el .n) rs (fun k (fs : List T) => [(1, .box ⟨0, 0, 0⟩ (h.cs .n)), (3, .own ⟨0, 0, 0⟩ (.l .y 10 fs)), (5, .x (GRow.ls .n rs)), (9, .x (GRow.lss .n h.Rows)), (10, .x (iT (h.Rows.map (GRow.ls .n)).length)), (11, .x (iT i)), (15, .x (GRow.ls .n rs)), (16, .x (iT (rs.map (GRow.el .n)).length)), (17, .x (iT k))]) (fun k fs => fs = es ++ (((rs.take k).map GRow.Lst).flatten).map (GEntry.el .n)) es (by simp) rfl ?_ ?_
  ·rintro k fs r hy hlt2 hc2 _ hinv2 ih2
   have hb2 := Z5o (f := GRow.Lst) hy
   have hlen : fs.length + r.Lst.length <= 4194304 := by
    have hb3 : (rowsE rs).length = (rs.map GRow.Lst).flatten.length := rfl
    rw [hinv2, hinv, Y41, Y45, Y45]; omega
   repeat' (first | refine yi (GRow.el .n r) (Zar hy) ?_ | (apply zvn;(iterate 8 exact rfl);exact (Zo hlen);exact rfl;exact rfl) | refine yt1 ?_ | refine yt0 ?_ | refine yt ?_ ?_ | refine yo ?_ | apply zn | refine yc ?_ | intro _)
   refine ih2 (fs ++ r.Lst.map (GEntry.el .n)) ?_ _ _ ?_
   ·rw [hinv2, Z5u hy, Y49, Y21]
   ·rw [w64s (by omega)]; rfl
  ·rintro fs hc2 _ hinv2
   repeat' (first | refine yt1 ?_ | refine yt0 ?_ | refine yt ?_ ?_ | refine yo ?_ | apply zn | refine yc ?_ | intro _)
   refine ih fs ?_ _ _ ?_
   ·rw [hinv2, hinv, Z5u hx, Y49, Y72]; rfl
   ·rw [w64s (by omega)]; rfl
 ·rintro es hc _ hinv
  rw [Y72, <- Zgq] at hinv
  subst hinv
  repeat' (first | refine yt1 ?_ | refine yt0 ?_ | refine yt ?_ ?_ | refine yo ?_ | apply zn | refine yc ?_ | intro _)
  exact fin rfl (by simp only [Zk0])
theorem q6_eq (h : GHouse) (hl : h.bulk <= 4000000) : F_q6 [.st (h.cs .n)] = some ⟨[.one (.l .y 10 ((addedE h).map (GEntry.el .n)))], []⟩ := by
 simp only [GHouse.bulk] at hl
 have hr := Z1t GEntry.bulk h.Root
 have hr2 := Z1t GOut.bulk h.Outs
 (refine Z6j rfl ?_; show Ev m_q6.code _ _ _)
 repeat' (first | (apply zan;(iterate 4 exact rfl);exact (Zp (show h.Root.length <= 4194304 by omega));exact rfl;exact rfl) | refine yt1 ?_ | refine yt0 ?_ | refine yt ?_ ?_ | refine yo ?_ | apply zn | refine yc ?_ | intro _)
 refine zfor (GOut.el .n) h.Outs (fun i (es : List T) => [(1, .box ⟨0, 0, 0⟩ (h.cs .n)), (3, .own ⟨0, 0, 0⟩ (.l .y 10 es)), (10, .x (GOut.ls .n h.Outs)), (11, .x (iT (h.Outs.map (GOut.el .n)).length)), (12, .x (iT i))]) (fun i es => es = (h.Root ++ (h.Outs.take i).map GOut.Entry).map (GEntry.el .n)) (h.Root.map (GEntry.el .n)) (by simp) rfl ?_ ?_
 ·rintro i es x hx hlt hc _ hinv ih
  have hlen : es.length + [x.Entry].length <= 4194304 := by
   rw [hinv, Y45, Y41, Y45, Y48]; simp; omega
  repeat' (first | refine yi (GOut.el .n x) (Zar hx) ?_ | (apply zV;(iterate 8 exact rfl);exact (Zo (f := GEntry.el .n) hlen);exact (rfl);exact (Zo (f := GEntry.el .n) hlen);exact rfl;exact rfl) | refine yt1 ?_ | refine yt0 ?_ | refine yt ?_ ?_ | refine yo ?_ | apply zn | refine yc ?_ | intro _)
  refine ih (es ++ [GEntry.el .n x.Entry]) ?_ _ _ ?_
  ·rw [hinv, Zat hx]; simp
  ·rw [w64s (by omega)]; rfl
 ·rintro es hc _ hinv
  rw [Y72] at hinv
  subst hinv
  repeat' (first | refine yt1 ?_ | refine yt0 ?_ | refine yt ?_ ?_ | refine yo ?_ | apply zn | refine yc ?_ | intro _)
  exact fin rfl (by simp only [Zk0]; rfl)
theorem q3b_eq (h : GHouse) (hl : h.bulk <= 4000000) : F_q3b [.st (h.cs .n)] = some ⟨[.one (.l .y 10 ((rowEnts h ++ addedE h).map (GEntry.el .n)))], []⟩ := by
 have hb := Zgr h
 simp only [GHouse.bulk] at hl
 have hr := Z1t (bulks GRow.bulk) h.Rows
 have hro := Z1t GEntry.bulk h.Root
 have hou := Z1t GOut.bulk h.Outs
 (refine Z6j rfl ?_; show Ev m_q3b.code _ _ _)
 repeat' (first | refine yt1 ?_ | refine yt0 ?_ | refine yt ?_ ?_ | refine yo ?_ | apply zn | refine yc ?_ | intro _)
 refine zfor (GRow.ls .n) h.Rows (fun i (es : List T) => [(1, .box ⟨0, 0, 0⟩ (h.cs .n)), (3, .own ⟨0, 0, 0⟩ (.l .y 10 es)), (4, .x (iT i))]) (fun i es => es = (((h.Rows.take i).map rowsE).flatten).map (GEntry.el .n)) [] (by simp) rfl ?_ ?_
 ·rintro i es rs hx hlt hc _ hinv ih
  have hb1 := Z5o (f := rowsE) hx
  rw [<- Zgq] at hb1
  have hr1 := Z1v (f := bulks GRow.bulk) hx
  have hr2 := Z1t GRow.bulk rs
  repeat' (first | refine yt1 ?_ | refine yt0 ?_ | refine yt ?_ ?_ | refine yo ?_ | apply zn | refine yc ?_ | intro _)
  refine zfor (GRow.el .n) rs (fun k (fs : List T) => [(1, .box ⟨0, 0, 0⟩ (h.cs .n)), (3, .own ⟨0, 0, 0⟩ (.l .y 10 fs)), (4, .x (iT i)), (5, .x (iT k))]) (fun k fs => fs = es ++ (((rs.take k).map GRow.Lst).flatten).map (GEntry.el .n)) es (by simp) rfl ?_ ?_
  ·rintro k fs r hy hlt2 hc2 _ hinv2 ih2
   have hb2 := Z5o (f := GRow.Lst) hy
   have hlen : fs.length + r.Lst.length <= 4194304 := by
    have hb3 : (rowsE rs).length = (rs.map GRow.Lst).flatten.length := rfl
    rw [hinv2, hinv, Y41, Y45, Y45]; omega
   repeat' (first | refine yi (GRow.ls .n rs) (Zar hx) ?_ | refine yi (GRow.el .n r) (Zar hy) ?_ | (apply zvn;(iterate 8 exact rfl);exact (Zo hlen);exact rfl;exact rfl) | refine yt1 ?_ | refine yt0 ?_ | refine yt ?_ ?_ | refine yo ?_ | apply zn | refine yc ?_ | intro _)
   refine ih2 (fs ++ r.Lst.map (GEntry.el .n)) ?_ _ _ ?_
   ·rw [hinv2, Z5u hy, Y49, Y21]
   ·rw [w64s (by omega)]; rfl
  ·rintro fs hc2 _ hinv2
   repeat' (first | refine yi (GRow.ls .n rs) (Zar hx) ?_ | refine yt1 ?_ | refine yt0 ?_ | refine yt ?_ ?_ | refine yo ?_ | apply zn | refine yc ?_ | intro _)
   refine ih fs ?_ _ _ ?_
   ·rw [hinv2, hinv, Z5u hx, Y49, Y72]; rfl
   ·rw [w64s (by omega)]; rfl
 ·rintro es hc _ hinv
  rw [Y72, <- Zgq] at hinv
  have hlen : es.length + h.Root.length <= 4194304 := by rw [hinv, Y45]; omega
  repeat' (first | (apply zvn;(iterate 8 exact rfl);exact (Zo hlen);exact rfl;exact rfl) | refine yt1 ?_ | refine yt0 ?_ | refine yt ?_ ?_ | refine yo ?_ | apply zn | refine yc ?_ | intro _)
  refine zfor (GOut.el .n) h.Outs (fun i (fs : List T) => [(1, .box ⟨0, 0, 0⟩ (h.cs .n)), (3, .own ⟨0, 0, 0⟩ (.l .y 10 fs)), (6, .x (iT i))]) (fun i fs => fs = es ++ (h.Root ++ (h.Outs.take i).map GOut.Entry).map (GEntry.el .n)) (es ++ h.Root.map (GEntry.el .n)) (by simp) rfl ?_ ?_
  ·rintro i fs x hx hlt hc _ hinv2 ih
   have hlen : fs.length + [x.Entry].length <= 4194304 := by
    rw [hinv2, hinv, Y41, Y45, Y45, Y41, Y45, Y48]; simp; omega
   repeat' (first | refine yi (GOut.el .n x) (Zar hx) ?_ | (apply zV;(iterate 8 exact rfl);exact (Zo (f := GEntry.el .n) hlen);exact (rfl);exact (Zo (f := GEntry.el .n) hlen);exact rfl;exact rfl) | refine yt1 ?_ | refine yt0 ?_ | refine yt ?_ ?_ | refine yo ?_ | apply zn | refine yc ?_ | intro _)
   refine ih (fs ++ [GEntry.el .n x.Entry]) ?_ _ _ ?_
   ·rw [hinv2, Zat hx]; simp
   ·rw [w64s (by omega)]; rfl
  ·rintro fs hc _ hinv2
   rw [Y72] at hinv2
   subst hinv2 hinv
   repeat' (first | refine yt1 ?_ | refine yt0 ?_ | refine yt ?_ ?_ | refine yo ?_ | apply zn | refine yc ?_ | intro _)
   exact fin rfl (by simp only [Zk0, addedE, Y49])
end Go.Wr

