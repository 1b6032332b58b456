/-
  What is proved: lemmas on the way to the laws of this seat. No condition.
-/
import Derived.Test.YtjnfhlmfdchepaaGreatMa
import Derived.Test.YtjnfhlmfdchepaaGreatTa
import Derived.Test.YtjnfhlmfdchepaaGreatRd
set_option linter.unusedVariables false
set_option linter.unusedSimpArgs false
namespace Go.Wr
set_option maxRecDepth 20000
theorem q2a_eq (x lo hi : Int) : F_q2a [.x (iT x), .x (iT lo), .x (iT hi)] = some ⟨[.one (.b (inB x lo hi))], []⟩ := by
 (refine fun_ev rfl ?_; show Ev m_q2a.code _ _ _)
 repeat' (first | refine yy ?_ | refine ym ?_ | (apply ze;(iterate 5 exact rfl)) | (apply zf;(iterate 5 exact rfl)) | refine yp ?_ | refine yo ?_ | apply zn | refine yc ?_ | exact rfl | intro _)
 exact fin rfl rfl
theorem q2_eq (x lo hi : Int) : F_q2 [.x (iT x), .x (iT lo), .x (iT hi)] = some ⟨[.one (.b (inB x lo hi))], []⟩ := by
 (refine fun_ev rfl ?_; show Ev m_q2.code _ _ _)
 repeat' (first | refine yy ?_ | refine ym ?_ | (apply ze;(iterate 5 exact rfl)) | (apply zf;(iterate 5 exact rfl)) | refine yp ?_ | refine yo ?_ | apply zn | refine yc ?_ | exact rfl | intro _)
 exact fin rfl rfl
theorem q2o_eq (a b : Int) : F_q2o [.x (iT a), .x (iT b)] = some ⟨[.one (iT (min a b))], []⟩ := by
 (refine fun_ev rfl ?_; show Ev m_q2o.code _ _ _)
 repeat' (first | refine yt1 ?_ | refine yt0 ?_ | refine yt ?_ ?_ | refine yo ?_ | apply zn | refine yc ?_ | intro _)
 all_goals (refine fin rfl ?_; rename_i h; simp at h; simp; omega)
theorem q2f_eq (n : Int) : F_q2f [.x (iT n)] = some ⟨[.one (.b (inB n 0 2))], []⟩ := by
 (refine fun_ev rfl ?_; show Ev m_q2f.code _ _ _)
 repeat' (first | refine yk g_q2a (q2a_eq _ _ _) ?_ | refine yo ?_ | apply zn | refine yc ?_ | intro _)
 exact fin rfl rfl
theorem q2d_eq (k w : Int) : F_q2d [.x (iT k), .x (iT w)] = some ⟨[.one (.b (inB k 0 4 && inB w 0 20))], []⟩ := by
 (refine fun_ev rfl ?_; show Ev m_q2d.code _ _ _)
 repeat' (first | refine yy ?_ | refine ym ?_ | (apply ze;(iterate 5 exact rfl)) | (apply zf;(iterate 5 exact rfl)) | refine yp ?_ | refine yk g_q2a (q2a_eq _ _ _) ?_ | refine yo ?_ | apply zn | refine yc ?_ | exact rfl | intro _)
 exact fin rfl rfl
theorem q2k_eq (l : List Int) (lo hi : Int) (hl : l.length <= 4194304) : F_q2k [.x (ints .n l), .x (iT lo), .x (iT hi)] = some ⟨[.one (.b (numsOk l lo hi))], []⟩ := by
 (refine fun_ev rfl ?_; show Ev m_q2k.code _ _ _)
 repeat' (first | refine yt1 ?_ | refine yt0 ?_ | refine yt ?_ ?_ | refine yo ?_ | apply zn | refine yc ?_ | intro _)
 ·refine fin rfl ?_
  rename_i h
  have : l.length ≠ 3 := by simp at h; omega
  simp [numsOk, this]
 ·have h3 : l.length = 3 := by rename_i h; simp at h; omega
  show Ev _ _ _ _
  refine zfor iT l (fun i (_ : Unit) => [(0, .x (ints .n l)), (1, .x (iT lo)), (2, .x (iT hi)), (7, .x (iT i))]) (fun i _ => (l.take i).all (inB · lo hi) = true) () (by simp) rfl ?_ ?_
  ·intro i _ x hx hlt hc _ hinv ih
   repeat' (first | refine yi (iT x) (map_at hx) ?_ | refine yk g_q2a (q2a_eq x lo hi) ?_ | refine yt1 ?_ | refine yt0 ?_ | refine yt ?_ ?_ | refine yo ?_ | apply zn | refine yc ?_ | intro _)
   ·refine fin rfl ?_
    have : inB x lo hi = false := by simp_all
    simp [numsOk, not_all (p := (inB · lo hi)) hx this]
   ·refine ih () (take_all (p := (inB · lo hi)) hinv hx (by simp_all)) _ _ ?_
    rw [<- w64s (by omega)]; rfl
  ·intro _ hc _ hinv
   repeat' (first | refine yt1 ?_ | refine yt0 ?_ | refine yt ?_ ?_ | refine yo ?_ | apply zn | refine yc ?_ | intro _)
   refine fin rfl ?_
   simp [numsOk, take_end hinv, h3]
theorem q9_eq (l : List Int) (n lo hi : Int) (hl : l.length <= 4194304) : F_q9 [.x (ints .n l), .x (iT n), .x (iT lo), .x (iT hi)] = some ⟨[.one (.b (decide ((l.length : Int) = n) && l.all (inB · lo hi)))], []⟩ := by
 (refine fun_ev rfl ?_; show Ev m_q9.code _ _ _)
 repeat' (first | refine yt1 ?_ | refine yt0 ?_ | refine yt ?_ ?_ | refine yo ?_ | apply zn | refine yc ?_ | intro _)
 show Ev _ _ _ _
 refine zfor iT l (fun i (_ : Unit) => [(0, .x (ints .n l)), (1, .x (iT n)), (2, .x (iT lo)), (3, .x (iT hi)), (11, .x (ints .n l)), (12, .x (iT l.length)), (13, .x (iT i))]) (fun i _ => (l.take i).all (inB · lo hi) = true) () (by simp) (by rw [<- List.length_map iT]; rfl) ?_ ?_
 ·intro i _ x hx hlt _ hc hinv ih
  repeat' (first | refine yi (iT x) (map_at hx) ?_ | refine yk g_q2 (q2_eq x lo hi) ?_ | refine yt1 ?_ | refine yt0 ?_ | refine yt ?_ ?_ | refine yo ?_ | apply zn | refine yc ?_ | intro _)
  ·refine fin rfl ?_
   have : inB x lo hi = false := by simp_all
   rw [not_all (p := (inB · lo hi)) hx this]; simp
  ·refine ih () (take_all (p := (inB · lo hi)) hinv hx (by simp_all)) _ _ ?_
   rw [<- w64s (by omega)]; rfl
 ·intro _ _ hc hinv
  repeat' (first | refine yt1 ?_ | refine yt0 ?_ | refine yt ?_ ?_ | refine yo ?_ | apply zn | refine yc ?_ | intro _)
  refine fin rfl ?_
  rw [take_end hinv, List.length_map]
  simp [BEq.beq]
theorem q2l_eq (c : GConf) (hl : c.Weights.length <= 4194304) : F_q2l [.st (c.cs .n)] = some ⟨[.one (.b c.ok)], []⟩ := by
 (refine fun_ev rfl ?_; show Ev m_q2l.code _ _ _)
 repeat' (first | refine yy ?_ | refine ym ?_ | (apply ze;(iterate 5 exact rfl)) | (apply zf;(iterate 5 exact rfl)) | refine yp ?_ | refine yk g_q2a (q2a_eq _ _ _) ?_ | refine yk g_q2k (q2k_eq c.Weights _ _ hl) ?_ | refine yo ?_ | apply zn | refine yc ?_ | exact rfl | intro _)
 exact fin rfl rfl
theorem qa_eq (c : GConf) (hl : c.Weights.length <= 4194304) : F_qa [.st (c.cs .n)] = some ⟨[.one (.b c.ok)], []⟩ := by
 have e : decide ((c.Weights.length : Int) = 3) = decide (c.Weights.length = 3) := by rw [Bool.eq_iff_iff]; simp; omega
 (refine fun_ev rfl ?_; show Ev m_qa.code _ _ _)
 repeat' (first | refine yy ?_ | refine ym ?_ | (apply ze;(iterate 5 exact rfl)) | (apply zf;(iterate 5 exact rfl)) | refine yp ?_ | refine yk g_q2 (q2_eq _ _ _) ?_ | refine yk g_q9 (q9_eq c.Weights _ _ _ hl) ?_ | refine yo ?_ | apply zn | refine yc ?_ | exact rfl | intro _)
 refine fin rfl ?_
 rw [e]; rfl
end Go.Wr
namespace Go.Wr
set_option maxRecDepth 20000
theorem q5_eq (s : List GSpan) (hl : s.length <= 4194304) : F_q5 [.x (GSpan.ls .n s)] = some ⟨[.one (.b (setOk s))], []⟩ := by
 (refine fun_ev rfl ?_; show Ev m_q5.code _ _ _)
 repeat' (first | refine yy ?_ | refine ym ?_ | (apply ze;(iterate 5 exact rfl)) | (apply zf;(iterate 5 exact rfl)) | refine yp ?_ | refine yt1 ?_ | refine yt0 ?_ | refine yt ?_ ?_ | refine yo ?_ | apply zn | refine yc ?_ | exact rfl | intro _)
 show Ev _ _ _ _
 refine zfor (GSpan.el .n) s (fun i (_ : Unit) => [(0, .x (GSpan.ls .n s)), (5, .x (GSpan.ls .n s)), (6, .x (iT s.length)), (7, .x (iT i))]) (fun i _ => ∀ j, j < i -> okAt s j = true) () (by omega) (by rw [<- List.length_map (GSpan.el .n)]; rfl) ?_ ?_
 ·intro i _ x hx hlt _ hc hinv ih
  cases i with
  | zero =>
   have h0 : decide (((0 : Nat) : Int) > 0) = !true := rfl
   repeat' (first | refine yy ?_ | refine ym ?_ | (apply ze;(iterate 5 exact rfl)) | (apply zf;(iterate 5 exact rfl)) | refine yp ?_ | refine yi (GSpan.el .n x) (map_at hx) ?_ | refine yk g_q2 (q2_eq _ _ _) ?_ | refine yt1 ?_ | refine yt0 ?_ | refine yt ?_ ?_ | refine yo ?_ | apply zn | refine yc ?_ | exact rfl | intro _)
   ·refine fin rfl ?_
    rename_i h
    have : okAt s 0 = false := by rw [okAt_zero hx]; revert h; cases inB x.Lo 0 9999 <;> cases inB x.Hi x.Lo 9999 <;> simp
    simp [setOk, allIx_not hlt this]
   ·rename_i h
    refine ih () (upto_succ hinv ?_) _ _ ?_
    ·rw [okAt_zero hx]; revert h; cases inB x.Lo 0 9999 <;> cases inB x.Hi x.Lo 9999 <;> simp
    ·rw [<- w64s (by omega)]; rfl
  | succ k =>
   have hp := List.getElem?_eq_getElem (show k < s.length by omega)
   generalize s[k]'(by omega) = p at hp
   have hb := okAt_hi hp (hinv k (by omega))
   have hw : IntKind.i64.wrap (p.Hi + 1) = p.Hi + 1 := w64 (by omega)
   have hk := wrap_pred (k := k) (by omega)
   have hk0 : 0 <= IntKind.i64.wrap (((k + 1 : Nat) : Int) - 1) := by rw [hk]; omega
   have hkp : (s.map (GSpan.el .n))[(IntKind.i64.wrap (((k + 1 : Nat) : Int) - 1)).toNat]? = some (GSpan.el .n p) := by rw [hk]; exact map_at hp
   repeat' (first | refine yy ?_ | refine ym ?_ | (apply ze;(iterate 5 exact rfl)) | (apply zf;(iterate 5 exact rfl)) | refine yp ?_ | refine yi (GSpan.el .n x) (map_at hx) ?_ | refine yj (GSpan.el .n p) (hk0) (hkp) ?_ | refine yk g_q2 (q2_eq _ _ _) ?_ | refine yt1 ?_ | refine yt0 ?_ | refine yt ?_ ?_ | refine yo ?_ | apply zn | refine yc ?_ | exact rfl | intro _)
   ·refine fin rfl ?_
    rename_i h
    rw [hw] at h
    have : okAt s (k + 1) = false := by rw [okAt_succ hx hp]; revert h; cases inB x.Lo 0 9999 <;> cases inB x.Hi x.Lo 9999 <;> simp
    simp [setOk, allIx_not hlt this]
   ·rename_i h
    rw [hw] at h
    refine ih () (upto_succ hinv ?_) _ _ ?_
    ·rw [okAt_succ hx hp]; revert h; cases inB x.Lo 0 9999 <;> cases inB x.Hi x.Lo 9999 <;> simp <;> omega
    ·rw [<- w64s (i := k + 1) (by omega)]; rfl
 ·intro _ _ hc hinv
  repeat' (first | refine yy ?_ | refine ym ?_ | (apply ze;(iterate 5 exact rfl)) | (apply zf;(iterate 5 exact rfl)) | refine yp ?_ | refine yt1 ?_ | refine yt0 ?_ | refine yt ?_ ?_ | refine yo ?_ | apply zn | refine yc ?_ | exact rfl | intro _)
  refine fin rfl ?_
  simp [setOk, allIx_of hinv]
theorem q2g_eq (s : List GSpan) (hl : s.length <= 4194304) : F_q2g [.x (GSpan.ls .n s)] = some ⟨[.one (.b (setOk s))], []⟩ := by
 (refine fun_ev rfl ?_; show Ev m_q2g.code _ _ _)
 repeat' (first | refine yy ?_ | refine ym ?_ | (apply ze;(iterate 5 exact rfl)) | (apply zf;(iterate 5 exact rfl)) | refine yp ?_ | refine yt1 ?_ | refine yt0 ?_ | refine yt ?_ ?_ | refine yo ?_ | apply zn | refine yc ?_ | exact rfl | intro _)
 show Ev _ _ _ _
 refine zfor (GSpan.el .n) s (fun i (_ : Unit) => [(0, .x (GSpan.ls .n s)), (3, .x (iT i))]) (fun i _ => ∀ j, j < i -> okAt s j = true) () (by omega) rfl ?_ ?_
 ·intro i _ x hx hlt hc _ hinv ih
  cases i with
  | zero =>
   have h0 : decide (((0 : Nat) : Int) > 0) = !true := rfl
   repeat' (first | refine yy ?_ | refine ym ?_ | (apply ze;(iterate 5 exact rfl)) | (apply zf;(iterate 5 exact rfl)) | refine yp ?_ | refine yi (GSpan.el .n x) (map_at hx) ?_ | refine yk g_q2a (q2a_eq _ _ _) ?_ | refine yt1 ?_ | refine yt0 ?_ | refine yt ?_ ?_ | refine yo ?_ | apply zn | refine yc ?_ | exact rfl | intro _)
   ·refine fin rfl ?_
    rename_i h
    have : okAt s 0 = false := by rw [okAt_zero hx]; revert h; cases inB x.Lo 0 9999 <;> cases inB x.Hi x.Lo 9999 <;> simp
    simp [setOk, allIx_not hlt this]
   ·rename_i h
    refine ih () (upto_succ hinv ?_) _ _ ?_
    ·rw [okAt_zero hx]; revert h; cases inB x.Lo 0 9999 <;> cases inB x.Hi x.Lo 9999 <;> simp
    ·rw [<- w64s (by omega)]; rfl
  | succ k =>
   have hp := List.getElem?_eq_getElem (show k < s.length by omega)
   generalize s[k]'(by omega) = p at hp
   have hb := okAt_hi hp (hinv k (by omega))
   have hw : IntKind.i64.wrap (p.Hi + 1) = p.Hi + 1 := w64 (by omega)
   have hk := wrap_pred (k := k) (by omega)
   have hk0 : 0 <= IntKind.i64.wrap (((k + 1 : Nat) : Int) - 1) := by rw [hk]; omega
   have hkp : (s.map (GSpan.el .n))[(IntKind.i64.wrap (((k + 1 : Nat) : Int) - 1)).toNat]? = some (GSpan.el .n p) := by rw [hk]; exact map_at hp
   repeat' (first | refine yy ?_ | refine ym ?_ | (apply ze;(iterate 5 exact rfl)) | (apply zf;(iterate 5 exact rfl)) | refine yp ?_ | refine yi (GSpan.el .n x) (map_at hx) ?_ | refine yj (GSpan.el .n p) (hk0) (hkp) ?_ | refine yk g_q2a (q2a_eq _ _ _) ?_ | refine yt1 ?_ | refine yt0 ?_ | refine yt ?_ ?_ | refine yo ?_ | apply zn | refine yc ?_ | exact rfl | intro _)
   ·refine fin rfl ?_
    rename_i h
    rw [hw] at h
    have : okAt s (k + 1) = false := by rw [okAt_succ hx hp]; revert h; cases inB x.Lo 0 9999 <;> cases inB x.Hi x.Lo 9999 <;> simp
    simp [setOk, allIx_not hlt this]
   ·rename_i h
    rw [hw] at h
    refine ih () (upto_succ hinv ?_) _ _ ?_
    ·rw [okAt_succ hx hp]; revert h; cases inB x.Lo 0 9999 <;> cases inB x.Hi x.Lo 9999 <;> simp <;> omega
    ·rw [<- w64s (i := k + 1) (by omega)]; rfl
 ·intro _ hc _ hinv
  repeat' (first | refine yy ?_ | refine ym ?_ | (apply ze;(iterate 5 exact rfl)) | (apply zf;(iterate 5 exact rfl)) | refine yp ?_ | refine yt1 ?_ | refine yt0 ?_ | refine yt ?_ ?_ | refine yo ?_ | apply zn | refine yc ?_ | exact rfl | intro _)
  refine fin rfl ?_
  simp [setOk, allIx_of hinv]
end Go.Wr
namespace Go.Wr
set_option maxRecDepth 20000
theorem q0_eq (l : List Int) (hl : l.length <= 4194304) : F_q0 [.x (ints .n l)] = some ⟨[.one (ints .y l)], []⟩ := by
 (refine fun_ev rfl ?_; show Ev m_q0.code _ _ _)
 repeat' (first | (apply za;(iterate 3 exact rfl);exact (app_len hl);exact (flats_map (fun _ => rfl) _);exact rfl;exact rfl) | refine yo ?_ | apply zn | refine yc ?_ | intro _)
 exact fin rfl rfl
theorem qd_eq (l : List GSpan) (hl : l.length <= 4194304) : F_qd [.x (GSpan.ls .n l)] = some ⟨[.one (GSpan.ls .y l)], []⟩ := by
 (refine fun_ev rfl ?_; show Ev m_qd.code _ _ _)
 repeat' (first | (apply za;(iterate 3 exact rfl);exact (app_len hl);exact (flats_map (fun _ => rfl) _);exact rfl;exact rfl) | refine yo ?_ | apply zn | refine yc ?_ | intro _)
 exact fin rfl rfl
theorem q2p_eq (l : List GSpan) (hl : l.length <= 4194304) : F_q2p [.x (GSpan.ls .n l)] = some ⟨[.one (GSpan.ls .y l)], []⟩ := by
 (refine fun_ev rfl ?_; show Ev m_q2p.code _ _ _)
 repeat' (first | (apply za;(iterate 3 exact rfl);exact (app_len hl);exact (flats_map (fun _ => rfl) _);exact rfl;exact rfl) | refine yo ?_ | apply zn | refine yc ?_ | intro _)
 exact fin rfl rfl
theorem q2b_eq (l : List Int) (m most : Int) (z : Bool) (hl : l.length <= 4194304) : F_q2b [.x (ints .n l), .x (iT m), .x (iT most), .x (.b z)] = some ⟨[.one (.b (decide ((l.length : Int) = m) && l.all fun x => inB x 0 most && !(z && x != 0)))], []⟩ := by
 by_cases hm : (l.length : Int) = m
 ·subst hm
  have h0 : (((l.map iT).length : Int) != l.length) = false := by simp
  (refine fun_ev rfl ?_; show Ev m_q2b.code _ _ _)
  repeat' (first | refine yy ?_ | refine ym ?_ | (apply ze;(iterate 5 exact rfl)) | (apply zf;(iterate 5 exact rfl)) | refine yp ?_ | refine yt1 ?_ | refine yt0 ?_ | refine yt ?_ ?_ | refine yo ?_ | apply zn | refine yc ?_ | exact rfl | intro _)
  show Ev _ _ _ _
  refine zfor iT l (fun i (_ : Unit) => [(0, .x (ints .n l)), (1, .x (iT l.length)), (2, .x (iT most)), (3, .x (.b z)), (9, .x (iT i))]) (fun i _ => (l.take i).all (fun x => inB x 0 most && !(z && x != 0)) = true) () (by simp) rfl ?_ ?_
  ·intro i _ x hx hlt _ hc hinv ih
   repeat' (first | refine yy ?_ | refine ym ?_ | (apply ze;(iterate 5 exact rfl)) | (apply zf;(iterate 5 exact rfl)) | refine yp ?_ | refine yi (iT x) (map_at hx) ?_ | refine yk g_q2a (q2a_eq _ _ _) ?_ | refine yt1 ?_ | refine yt0 ?_ | refine yt ?_ ?_ | refine yo ?_ | apply zn | refine yc ?_ | exact rfl | intro _)
   ·refine fin rfl ?_
    rename_i h
    have : (inB x 0 most && !(z && x != 0)) = false := by revert h; cases inB x 0 most <;> cases z <;> simp
    rw [not_all (p := fun x => inB x 0 most && !(z && x != 0)) hx this]; simp
   ·rename_i h
    refine ih () (take_all (p := fun x => inB x 0 most && !(z && x != 0)) hinv hx (by revert h; cases inB x 0 most <;> cases z <;> simp)) _ _ ?_
    rw [<- w64s (by omega)]; rfl
  ·intro _ _ hc hinv
   repeat' (first | refine yy ?_ | refine ym ?_ | (apply ze;(iterate 5 exact rfl)) | (apply zf;(iterate 5 exact rfl)) | refine yp ?_ | refine yt1 ?_ | refine yt0 ?_ | refine yt ?_ ?_ | refine yo ?_ | apply zn | refine yc ?_ | exact rfl | intro _)
   refine fin rfl ?_
   rw [take_end hinv]; simp
 ·have h0 : (((l.map iT).length : Int) != m) = true := by simpa using hm
  (refine fun_ev rfl ?_; show Ev m_q2b.code _ _ _)
  repeat' (first | refine yy ?_ | refine ym ?_ | (apply ze;(iterate 5 exact rfl)) | (apply zf;(iterate 5 exact rfl)) | refine yp ?_ | refine yt1 ?_ | refine yt0 ?_ | refine yt ?_ ?_ | refine yo ?_ | apply zn | refine yc ?_ | exact rfl | intro _)
  refine fin rfl ?_
  simp [hm]
theorem q2c_eq (x : GSketch) (hl : x.bulk <= 4194304) : F_q2c [.st (x.cs .n)] = some ⟨[.one (.b x.ok)], []⟩ := by
 obtain ⟨c, s, mn, mx, hi, re, ro⟩ := x
 simp only [GSketch.bulk] at hl
 by_cases h2 : ro.length = 2
 ·obtain ⟨r0, r1, rfl⟩ : ∃ r0 r1, ro = [r0, r1] := by
   match ro, h2 with
   | [r0, r1], _ => exact ⟨r0, r1, rfl⟩
  have b0 : r0.length <= 4194304 := by simp [bulks] at hl; omega
  have b1 : r1.length <= 4194304 := by simp [bulks] at hl; omega
  (refine fun_ev rfl ?_; show Ev m_q2c.code _ _ _)
  repeat' (first | refine yy ?_ | refine ym ?_ | (apply ze;(iterate 5 exact rfl)) | (apply zf;(iterate 5 exact rfl)) | refine yp ?_ | refine yk g_q2a (q2a_eq _ _ _) ?_ | (apply zk g_q2b;exact rfl;exact rfl;exact (q2b_eq hi _ _ _ (by omega));(iterate 3 exact rfl)) | (apply zk g_q2b;exact rfl;exact rfl;exact (q2b_eq re _ _ _ (by omega));(iterate 3 exact rfl)) | refine yk g_q2b (q2b_eq r0 _ _ _ b0) ?_ | refine yk g_q2b (q2b_eq r1 _ _ _ b1) ?_ | refine yt1 ?_ | refine yt0 ?_ | refine yt ?_ ?_ | refine yo ?_ | apply zn | refine yc ?_ | exact rfl | intro _)
  all_goals (refine fin rfl (outB ?_); simp only [GSketch.ok, lstOk, iN, List.all_cons, List.all_nil, Bool.and_true])
  all_goals grind
 ·(refine fun_ev rfl ?_; show Ev m_q2c.code _ _ _)
  repeat' (first | refine yy ?_ | refine ym ?_ | (apply ze;(iterate 5 exact rfl)) | (apply zf;(iterate 5 exact rfl)) | refine yp ?_ | refine yk g_q2a (q2a_eq _ _ _) ?_ | refine yt1 ?_ | refine yt0 ?_ | refine yt ?_ ?_ | refine yo ?_ | apply zn | refine yc ?_ | exact rfl | intro _)
  all_goals first | (refine fin rfl (outB ?_); simp [GSketch.ok, h2]; done) | (exfalso; rename_i h _; simp at h; omega)
end Go.Wr
namespace Go.Wr
set_option maxRecDepth 20000
theorem q1_eq (x : GSketch) (hl : x.bulk <= 4194304) : F_q1 [.st (x.cs .n)] = some ⟨[.one (ints .y (x.Hist ++ x.Regs ++ x.Rows.flatten))], []⟩ := by
 simp only [GSketch.bulk] at hl
 have hr := bulks_len List.length x.Rows
 have hsum : ∀ i, x.Hist.length + x.Regs.length + (x.Rows.take i).flatten.length <= 4194304 := fun i => by
  have := pre_le (f := List.length) (l := x.Rows) (i := i)
  simp only [pre, <- List.length_flatten] at this
  omega
 (refine fun_ev rfl ?_; show Ev m_q1.code _ _ _)
 repeat' (first | refine yk g_q0 (q0_eq x.Hist (by omega)) ?_ | (apply za;(iterate 3 exact rfl);exact (app_len2 (by omega));exact (flats_map (fun _ => rfl) _);exact rfl;exact rfl) | refine yt1 ?_ | refine yt0 ?_ | refine yt ?_ ?_ | refine yo ?_ | apply zn | refine yc ?_ | intro _)
 show Ev _ _ _ _
 refine zfor (ints .n) x.Rows (fun i (es : List T) => [(1, .box ⟨0, 0, 0⟩ (x.cs .n)), (3, .own ⟨0, 0, 0⟩ (.l .y 1 es)), (13, .x (GInt.lss .n x.Rows)), (14, .x (iT x.Rows.length)), (15, .x (iT i))]) (fun i es => es = (x.Hist ++ x.Regs ++ (x.Rows.take i).flatten).map iT) (x.Hist.map iT ++ x.Regs.map iT) (by simp) (by rw [<- List.length_map (ints .n)]; rfl) ?_ ?_
 ·intro i es y hx hlt _ hc hinv ih
  have h5 : es.length + (y.map iT).length < lenMax := by
   have := hsum (i + 1)
   rw [List.take_add_one, hx] at this
   have h6 : es.length = (x.Hist ++ x.Regs ++ (x.Rows.take i).flatten).length := by rw [hinv, List.length_map]
   simp only [List.length_append, Option.toList_some, List.flatten_append, List.flatten_cons, List.flatten_nil, List.append_nil] at this h6
   rw [List.length_map]; unfold lenMax; omega
  repeat' (first | refine yi (ints .n y) (map_at hx) ?_ | (apply zv;(iterate 7 exact rfl);exact (h5);exact (flats_map (fun _ => rfl) _);exact rfl;exact rfl) | refine yt1 ?_ | refine yt0 ?_ | refine yt ?_ ?_ | refine yo ?_ | apply zn | refine yc ?_ | intro _)
  refine ih (es ++ y.map iT) ?_ _ _ ?_
  ·rw [hinv, List.take_add_one, hx]; simp
  ·rw [<- w64s (by omega)]; rfl
 ·intro es _ hc hinv
  repeat' (first | refine yt1 ?_ | refine yt0 ?_ | refine yt ?_ ?_ | refine yo ?_ | apply zn | refine yc ?_ | intro _)
  refine fin rfl ?_
  simp only [sub_all, hinv, List.take_length]
theorem sum_nn : ∀ {l : List Int}, l.all (inB · 0 1000000000) = true -> 0 <= l.sum /\ l.sum <= 1000000000 * l.length /\ (l.sum = 0 <-> ∀ x ∈ l, x = 0)
 | [], _ => by simp
 | x :: l, h => by
  simp only [List.all_cons, Bool.and_eq_true, inB, decide_eq_true_eq] at h
  obtain ⟨h1, h2, h3⟩ := sum_nn (l := l) h.2
  refine ⟨?_, ?_, ?_⟩
  ·simp only [List.sum_cons]; omega
  ·simp only [List.sum_cons, List.length_cons]; omega
  ·simp only [List.sum_cons, List.mem_cons, forall_eq_or_imp, <- h3]; omega
theorem sk_plain {c s mn mx : Int} {hi re r0 r1 : List Int} (h8 : hi.length = 8) (h8b : re.length = 8) (h4 : r0.length = 4) (h4b : r1.length = 4) :
  (GSketch.mk c s mn mx hi re [r0, r1]).ok = ((hi ++ re ++ [r0, r1].flatten ++ [c, s, mn, mx]).all (inB · 0 1000000000) && re.all (fun n => !decide (n > 17)) && bif c == 0 then (hi ++ re ++ [r0, r1].flatten ++ [c, s, mn, mx]).sum == 0 else decide (mn <= mx) && decide (mx <= 1000000)) := by
 rw [Bool.eq_iff_iff]
 simp only [GSketch.ok, lstOk, h8, h8b, h4, h4b, List.all_cons, List.all_nil, Bool.and_true, List.flatten_cons, List.flatten_nil, List.append_nil, List.all_append, Bool.and_eq_true, decide_eq_true_eq, inB, List.all_eq_true, Bool.not_eq_true', decide_true, true_and]
 constructor
 ·rintro ⟨⟨⟨⟨⟨⟨⟨⟨⟨h1, h2⟩, h3⟩, h4⟩, h5⟩, _⟩, h6⟩, h7⟩, h8⟩, h9, h10⟩
  refine ⟨⟨⟨⟨⟨fun x hx => by have := h7 x hx; omega, fun x hx => by have := h8 x hx; omega⟩, fun x hx => by have := h9 x hx; omega, fun x hx => by have := h10 x hx; omega⟩, by omega, by omega, by omega, by omega⟩, fun x hx => by have := h8 x hx; simp; omega⟩, ?_⟩
  by_cases hc : c = 0
  ·subst hc
   simp only [BEq.rfl, cond_true]
   have z : ∀ {l : List Int}, (∀ x ∈ l, x = 0) -> l.sum = 0 := fun {l} => by
    induction l with
    | nil => simp
    | cons x l ih => intro h; simp only [List.mem_cons, forall_eq_or_imp] at h; simp [h.1, ih h.2]
   have q : ∀ x ∈ (hi ++ re ++ (r0 ++ r1) ++ [0, s, mn, mx]), x = 0 := by
    intro x hx
    simp only [List.mem_append, List.mem_cons, List.not_mem_nil, or_false] at hx
    simp at h6 h7 h8 h9 h10
    rcases hx with ((hx | hx) | hx | hx) | hx | hx | hx | hx
    ·exact (h7 x hx).2
    ·exact (h8 x hx).2
    ·exact (h9 x hx).2
    ·exact (h10 x hx).2
    ·exact hx
    ·exact hx.trans h6.1
    ·omega
    ·omega
   rw [beq_iff_eq]; exact z q
  ·simp [hc]; omega
 ·rintro ⟨⟨⟨⟨⟨h1, h2⟩, h3, h3b⟩, h4, h5, h6, h7⟩, h8⟩, h9⟩
  by_cases hc : c = 0
  ·subst hc
   simp only [BEq.rfl, cond_true, beq_iff_eq] at h9
   have ha : (hi ++ re ++ (r0 ++ r1) ++ [0, s, mn, mx]).all (inB · 0 1000000000) = true := by
    rw [List.all_eq_true]
    intro x hx
    simp only [inB, Bool.and_eq_true, decide_eq_true_eq]
    simp only [List.mem_append, List.mem_cons, List.not_mem_nil, or_false] at hx
    rcases hx with ((hx | hx) | hx | hx) | hx | hx | hx | hx
    ·exact h1 x hx
    ·exact h2 x hx
    ·exact h3 x hx
    ·exact h3b x hx
    ·exact hx ▸ h4
    ·exact hx ▸ h5
    ·exact hx ▸ h6
    ·exact hx ▸ h7
   have hz := (sum_nn ha).2.2.1 h9
   have hs := hz s (by simp)
   have hmn := hz mn (by simp)
   have hmx := hz mx (by simp)
   subst hs hmn hmx
   have zz : ∀ {x : Int}, x ∈ hi ++ re ++ (r0 ++ r1) ++ [0, 0, 0, 0] -> x = 0 := fun {x} => hz x
   refine ⟨⟨⟨⟨⟨⟨⟨⟨⟨by omega, by omega⟩, by omega⟩, by omega⟩, by omega⟩, rfl⟩, by simp⟩, fun x hx => ?_⟩, fun x hx => ?_⟩, fun x hx => ?_, fun x hx => ?_⟩ <;>
    (have := zz (x := x) (by simp [hx]); subst this; simp)
  ·have h9 : mn <= mx /\ mx <= 1000000 := by simpa [hc] using h9
   refine ⟨⟨⟨⟨⟨⟨⟨⟨⟨by omega, by omega⟩, by omega⟩, by omega⟩, by omega⟩, rfl⟩, by simp [hc]⟩, fun x hx => ?_⟩, fun x hx => ?_⟩, fun x hx => ?_, fun x hx => ?_⟩
   ·have := h1 x hx; simp [hc]; omega
   ·have := h2 x hx; have := h8 x hx; simp [hc] at this ⊢; omega
   ·have := h3 x hx; simp [hc]; omega
   ·have := h3b x hx; simp [hc]; omega
theorem q3_eq (x : GSketch) (hl : x.bulk <= 4000000) : F_q3 [.st (x.cs .n)] = some ⟨[.one (.b x.ok)], []⟩ := by
 have hl0 := hl
 simp only [GSketch.bulk] at hl
 by_cases h2 : x.Rows.length = 2
 ·obtain ⟨r0, r1, hr⟩ : ∃ r0 r1, x.Rows = [r0, r1] := by
   match hx : x.Rows, h2 with
   | [r0, r1], _ => exact ⟨r0, r1, rfl⟩
  obtain ⟨c, s, mn, mx, hi, re, ro⟩ := x
  simp only at hr
  subst hr
  simp [bulks] at hl
  have ha : (hi ++ re ++ [r0, r1].flatten).length <= 4194304 := by simp; omega
  (refine fun_ev rfl ?_; show Ev m_q3.code _ _ _)
  repeat' (first | refine yy ?_ | refine ym ?_ | (apply ze;(iterate 5 exact rfl)) | (apply zf;(iterate 5 exact rfl)) | refine yp ?_ | (apply zk g_q1;exact rfl;exact rfl;exact (q1_eq _ (Nat.le_trans hl0 (by omega)));(iterate 3 exact rfl)) | (apply za;(iterate 3 exact rfl);exact (app_len3 ha);exact (rfl);exact rfl;exact rfl) | refine yt1 ?_ | refine yt0 ?_ | refine yt ?_ ?_ | refine yo ?_ | apply zn | refine yc ?_ | exact rfl | intro _)
  ·refine fin rfl (outB ?_)
   rename_i h
   have : ¬(hi.length = 8 /\ re.length = 8 /\ r0.length = 4 /\ r1.length = 4) := by
    simp at h; omega
   rw [eq_comm, Bool.eq_false_iff]
   intro h
   apply this
   simp only [GSketch.ok, lstOk, List.all_cons, List.all_nil, Bool.and_eq_true, decide_eq_true_eq] at h
   exact ⟨h.1.1.2.1, h.1.2.1, h.2.1.1, h.2.2.1.1⟩
  ·rename_i h
   simp at h
   have h8 : hi.length = 8 := by omega
   have h8b : re.length = 8 := by omega
   have h4 : r0.length = 4 := by omega
   have h4b : r1.length = 4 := by omega
   rw [sk_plain h8 h8b h4 h4b]
   obtain ⟨cs, hcs⟩ : ∃ cs, cs = hi ++ re ++ [r0, r1].flatten ++ [c, s, mn, mx] := ⟨_, rfl⟩
   have hm : cs.map iT = (hi ++ re ++ [r0, r1].flatten).map iT ++ [iT c, iT s, iT mn, iT mx] := by rw [hcs, List.map_append]; rfl
   have hcl : cs.length <= 4194308 := by rw [hcs, List.length_append]; simp at ha ⊢; omega
   rw [<- hcs]
   refine zfor iT cs (fun i (sum : Int) => [(1, .box ⟨0, 0, 0⟩ (GSketch.cs .n (GSketch.mk c s mn mx hi re [r0, r1]))), (3, .x (iT sum)), (51, .own ⟨0, 0, 0⟩ (.l .y 1 (cs.map iT))), (52, .x (iT (cs.map iT).length)), (53, .x (iT i))]) (fun i sum => (cs.take i).all (inB · 0 1000000000) = true /\ sum = (cs.take i).sum) 0 (by simp) (by rw [hm]; rfl) ?_ ?_
   ·rintro i sum x hx hlt hc _ ⟨hinv, rfl⟩ ih
    repeat' (first | refine yy ?_ | refine ym ?_ | (apply ze;(iterate 5 exact rfl)) | (apply zf;(iterate 5 exact rfl)) | refine yp ?_ | refine yx (own_lt hlt) ?_ | refine yl (iT x) (nav_at (map_at hx)) ?_ | refine yk g_q2 (q2_eq _ _ _) ?_ | refine yt1 ?_ | refine yt0 ?_ | refine yt ?_ ?_ | refine yo ?_ | apply zn | refine yc ?_ | exact rfl | intro _)
    ·refine fin rfl (outB ?_)
     have : inB x 0 1000000000 = false := by simp_all
     rw [not_all (p := (inB · 0 1000000000)) hx this]; rfl
    ·have hx2 : inB x 0 1000000000 = true := by simp_all
     have h5 := (sum_nn hinv).1
     have h6 := (sum_nn hinv).2.1
     have h7 := hx2
     simp only [inB, Bool.and_eq_true, decide_eq_true_eq] at h7
     have h8 : (cs.take i).length <= 4194308 := by rw [List.length_take]; omega
     refine ih _ ⟨take_all (p := (inB · 0 1000000000)) hinv hx hx2, rfl⟩ _ _ ?_
     rw [w64 (n := (cs.take i).sum + x) (by omega), w64s (by omega), sum_take_succ hx]; rfl
   ·rintro sum hc _ ⟨hinv, rfl⟩
    rw [take_end hinv, List.take_length]
    repeat' (first | refine yy ?_ | refine ym ?_ | (apply ze;(iterate 5 exact rfl)) | (apply zf;(iterate 5 exact rfl)) | refine yp ?_ | refine yt1 ?_ | refine yt0 ?_ | refine yt ?_ ?_ | refine yo ?_ | apply zn | refine yc ?_ | exact rfl | intro _)
    refine zfor iT re (fun i (_ : Unit) => [(1, .box ⟨0, 0, 0⟩ (GSketch.cs .n (GSketch.mk c s mn mx hi re [r0, r1]))), (3, .x (iT cs.sum)), (65, .x (ints .n re)), (66, .x (iT re.length)), (67, .x (iT i))]) (fun i _ => (re.take i).all (fun n => !decide (n > 17)) = true) () (by simp) (by rw [<- List.length_map iT]; rfl) ?_ ?_
    ·intro i _ x hx hlt _ hc hinv ih
     repeat' (first | refine yy ?_ | refine ym ?_ | (apply ze;(iterate 5 exact rfl)) | (apply zf;(iterate 5 exact rfl)) | refine yp ?_ | refine yi (iT x) (map_at hx) ?_ | refine yt1 ?_ | refine yt0 ?_ | refine yt ?_ ?_ | refine yo ?_ | apply zn | refine yc ?_ | exact rfl | intro _)
     ·refine fin rfl (outB ?_)
      rw [not_all (p := fun n => !decide (n > 17)) hx (by simp_all)]; rfl
     ·refine ih () (take_all (p := fun n => !decide (n > 17)) hinv hx (by simp_all)) _ _ ?_
      rw [<- w64s (i := i) (by omega)]; rfl
    ·intro _ _ hc hinv
     rw [take_end hinv]
     repeat' (first | refine yy ?_ | refine ym ?_ | (apply ze;(iterate 5 exact rfl)) | (apply zf;(iterate 5 exact rfl)) | refine yp ?_ | refine yt1 ?_ | refine yt0 ?_ | refine yt ?_ ?_ | refine yo ?_ | apply zn | refine yc ?_ | exact rfl | intro _)
     ·refine fin rfl (outB ?_)
      rename_i h
      have hc0 : c = 0 := by simpa using h
      subst hc0; rfl
     ·refine fin rfl (outB ?_)
      rename_i h
      rw [show (c == 0) = false from h]; rfl
 ·have h0 : ((((x.Hist.map iT).length : Int) != 8 || ((x.Regs.map iT).length : Int) != 8) || ((x.Rows.map (ints .n)).length : Int) != 2) = !false := by
   have : ((x.Rows.length : Int) != 2) = true := by simp; omega
   rw [List.length_map (ints .n), this]; simp
  have h1 : true = !false := rfl
  have h4 : true = true := rfl
  have h3 : (((((x.Hist.map iT).length : Int) != 8 || ((x.Regs.map iT).length : Int) != 8) || ((x.Rows.map (ints .n)).length : Int) != 2)) = true := h0
  (refine fun_ev rfl ?_; show Ev m_q3.code _ _ _)
  repeat' (first | refine yy ?_ | refine ym ?_ | (apply ze;(iterate 5 exact rfl)) | (apply zf;(iterate 5 exact rfl)) | refine yp ?_ | refine yt1 ?_ | refine yt0 ?_ | refine yt ?_ ?_ | refine yo ?_ | apply zn | refine yc ?_ | exact rfl | intro _)
  refine fin rfl (outB ?_)
  simp [GSketch.ok, h2]
end Go.Wr
namespace Go.Wr
set_option maxRecDepth 20000
theorem sumSpan_succ {s : List GSpan} {i : Nat} {x : GSpan} (h : s[i]? = some x) : sumSpan (s.take (i + 1)) = sumSpan (s.take i) + (x.Hi - x.Lo + 1) := by
 unfold sumSpan; rw [List.take_add_one, h]; simp
theorem sumSpan_bnd : ∀ {s : List GSpan}, (∀ x ∈ s, 0 <= x.Lo /\ x.Lo <= x.Hi /\ x.Hi <= 9999) -> 0 <= sumSpan s /\ sumSpan s <= 10000 * s.length
 | [], _ => by simp [sumSpan]
 | x :: s, h => by
  have h1 := sumSpan_bnd (s := s) fun y hy => h y (List.mem_cons_of_mem _ hy)
  have h2 := h x List.mem_cons_self
  simp only [sumSpan, List.map_cons, List.sum_cons, List.length_cons] at h1 ⊢
  omega
theorem qb_eq (s : List GSpan) (hl : s.length <= 4194304) : F_qb [.x (GSpan.ls .n s)] = some ⟨[.one (iT (setSize s))], []⟩ := by
 (refine fun_ev rfl ?_; show Ev m_qb.code _ _ _)
 repeat' (first | refine yk g_q5 (q5_eq s hl) ?_ | refine yt1 ?_ | refine yt0 ?_ | refine yt ?_ ?_ | refine yo ?_ | apply zn | refine yc ?_ | intro _)
 ·refine fin rfl (outI ?_)
  rename_i h
  have : setOk s = false := by simpa using h
  rw [setSize, if_neg (by simp [this])]
 ·rename_i h
  have hok : setOk s = true := by simpa using h
  have hb : ∀ x ∈ s, 0 <= x.Lo /\ x.Lo <= x.Hi /\ x.Hi <= 9999 := fun x hx => setOk_bnd hok hx
  rw [setSize, if_pos hok]
  refine zfor (GSpan.el .n) s (fun i (n : Int) => [(3, .x (iT n)), (9, .x (GSpan.ls .n s)), (10, .x (iT s.length)), (11, .x (iT i))]) (fun i n => n = sumSpan (s.take i)) 0 (by simp [sumSpan]) (by rw [<- List.length_map (GSpan.el .n)]; rfl) ?_ ?_
  ·rintro i n x hx hlt _ hc rfl ih
   have h2 := sumSpan_bnd (s := s.take i) fun y hy => hb y (List.mem_of_mem_take hy)
   have h3 := hb x (List.mem_of_getElem? hx)
   rw [List.length_take] at h2
   have h4 : IntKind.i64.wrap (x.Hi - x.Lo) = x.Hi - x.Lo := w64 (by omega)
   have h5 : IntKind.i64.wrap (x.Hi - x.Lo + 1) = x.Hi - x.Lo + 1 := w64 (by omega)
   have h6 : IntKind.i64.wrap (sumSpan (s.take i) + (x.Hi - x.Lo + 1)) = sumSpan (s.take (i + 1)) := by rw [sumSpan_succ hx, w64 (by omega)]
   repeat' (first | refine yi (GSpan.el .n x) (map_at hx) ?_ | refine yt1 ?_ | refine yt0 ?_ | refine yt ?_ ?_ | refine yo ?_ | apply zn | refine yc ?_ | intro _)
   refine ih _ rfl _ _ ?_
   rw [h4, h5, h6, w64s (by omega)]; rfl
  ·rintro n _ hc rfl
   rw [List.take_length]
   repeat' (first | refine yt1 ?_ | refine yt0 ?_ | refine yt ?_ ?_ | refine yo ?_ | apply zn | refine yc ?_ | intro _)
   exact fin rfl rfl
theorem q2m_eq (s : List GSpan) (hl : s.length <= 4194304) : F_q2m [.x (GSpan.ls .n s)] = some ⟨[.one (iT (setSize s))], []⟩ := by
 (refine fun_ev rfl ?_; show Ev m_q2m.code _ _ _)
 repeat' (first | refine yk g_q2g (q2g_eq s hl) ?_ | refine yt1 ?_ | refine yt0 ?_ | refine yt ?_ ?_ | refine yo ?_ | apply zn | refine yc ?_ | intro _)
 ·refine fin rfl (outI ?_)
  rename_i h
  have : setOk s = false := by simpa using h
  rw [setSize, if_neg (by simp [this])]
 ·rename_i h
  have hok : setOk s = true := by simpa using h
  have hb : ∀ x ∈ s, 0 <= x.Lo /\ x.Lo <= x.Hi /\ x.Hi <= 9999 := fun x hx => setOk_bnd hok hx
  rw [setSize, if_pos hok]
  refine zfor (GSpan.el .n) s (fun i (n : Int) => [(0, .x (GSpan.ls .n s)), (3, .x (iT n)), (4, .x (iT i))]) (fun i n => n = sumSpan (s.take i)) 0 (by simp [sumSpan]) rfl ?_ ?_
  ·rintro i n x hx hlt hc _ rfl ih
   have h2 := sumSpan_bnd (s := s.take i) fun y hy => hb y (List.mem_of_mem_take hy)
   have h3 := hb x (List.mem_of_getElem? hx)
   rw [List.length_take] at h2
   have h4 : IntKind.i64.wrap (sumSpan (s.take i) + x.Hi) = sumSpan (s.take i) + x.Hi := w64 (by omega)
   have h5 : IntKind.i64.wrap (sumSpan (s.take i) + x.Hi - x.Lo) = sumSpan (s.take i) + x.Hi - x.Lo := w64 (by omega)
   have h6 : IntKind.i64.wrap (sumSpan (s.take i) + x.Hi - x.Lo + 1) = sumSpan (s.take (i + 1)) := by rw [sumSpan_succ hx, w64 (by omega)]; omega
   repeat' (first | refine yi (GSpan.el .n x) (map_at hx) ?_ | refine yt1 ?_ | refine yt0 ?_ | refine yt ?_ ?_ | refine yo ?_ | apply zn | refine yc ?_ | intro _)
   refine ih _ rfl _ _ ?_
   rw [h4, h5, h6, w64s (by omega)]; rfl
  ·rintro n hc _ rfl
   rw [List.take_length]
   repeat' (first | refine yt1 ?_ | refine yt0 ?_ | refine yt ?_ ?_ | refine yo ?_ | apply zn | refine yc ?_ | intro _)
   exact fin rfl rfl
theorem q2h_eq (s : List GSpan) (m : Int) (hl : s.length <= 4194304) : F_q2h [.x (GSpan.ls .n s), .x (iT m)] = some ⟨[.one (.b (allIn s 1 m))], []⟩ := by
 (refine fun_ev rfl ?_; show Ev m_q2h.code _ _ _)
 repeat' (first | refine yy ?_ | refine ym ?_ | (apply ze;(iterate 5 exact rfl)) | (apply zf;(iterate 5 exact rfl)) | refine yp ?_ | refine yk g_q2g (q2g_eq s hl) ?_ | refine yt1 ?_ | refine yt0 ?_ | refine yt ?_ ?_ | refine yo ?_ | apply zn | refine yc ?_ | exact rfl | intro _)
 ·refine fin rfl (outB ?_)
  rename_i h
  have : setOk s = false := by simpa using h
  rw [allIn, this]; rfl
 ·rename_i h
  have hok : setOk s = true := by simpa using h
  rw [allIn, hok, Bool.true_and]
  refine zfor (GSpan.el .n) s (fun i (_ : Unit) => [(0, .x (GSpan.ls .n s)), (1, .x (iT m)), (5, .x (iT i))]) (fun i _ => (s.take i).all (fun x => decide (1 <= x.Lo) && decide (x.Hi <= m)) = true) () (by simp) rfl ?_ ?_
  ·rintro i _ x hx hlt hc _ hinv ih
   repeat' (first | refine yy ?_ | refine ym ?_ | (apply ze;(iterate 5 exact rfl)) | (apply zf;(iterate 5 exact rfl)) | refine yp ?_ | refine yi (GSpan.el .n x) (map_at hx) ?_ | refine yt1 ?_ | refine yt0 ?_ | refine yt ?_ ?_ | refine yo ?_ | apply zn | refine yc ?_ | exact rfl | intro _)
   ·refine fin rfl (outB ?_)
    rw [not_all (p := fun x => decide (1 <= x.Lo) && decide (x.Hi <= m)) hx]
    rename_i h
    simp at h ⊢; omega
   ·refine ih () (take_all (p := fun x => decide (1 <= x.Lo) && decide (x.Hi <= m)) hinv hx ?_) _ _ ?_
    ·rename_i h; simp at h ⊢; omega
    ·rw [w64s (by omega)]; rfl
  ·rintro _ hc _ hinv
   rw [take_end hinv]
   repeat' (first | refine yy ?_ | refine ym ?_ | (apply ze;(iterate 5 exact rfl)) | (apply zf;(iterate 5 exact rfl)) | refine yp ?_ | refine yt1 ?_ | refine yt0 ?_ | refine yt ?_ ?_ | refine yo ?_ | apply zn | refine yc ?_ | exact rfl | intro _)
   exact fin rfl rfl
theorem allIn_ends {s : List GSpan} {lo hi : Int} {a b : GSpan} (hok : setOk s = true) (ha : s[0]? = some a) (hb : s[s.length - 1]? = some b) : allIn s lo hi = (decide (a.Lo >= lo) && decide (b.Hi <= hi)) := by
 have h := (setOk_iff s).1 hok
 rw [allIn, hok, Bool.true_and, Bool.eq_iff_iff, List.all_eq_true]
 simp only [Bool.and_eq_true, decide_eq_true_eq]
 constructor
 ·exact fun h2 => ⟨(h2 a (List.mem_of_getElem? ha)).1, (h2 b (List.mem_of_getElem? hb)).2⟩
 ·rintro ⟨h1, h2⟩ x hx
  obtain ⟨i, hi⟩ := List.mem_iff_getElem?.1 hx
  have hil := (List.getElem?_eq_some_iff.1 hi).1
  have hp := List.pairwise_iff_getElem.1 h.ord
  constructor
  ·rcases Nat.eq_zero_or_pos i with rfl | h0
   ·rw [ha] at hi; cases hi; exact h1
   ·have := hp 0 i (by omega) hil h0
    rw [(List.getElem?_eq_some_iff.1 ha).2, (List.getElem?_eq_some_iff.1 hi).2] at this
    have h4 := h.lo a (List.mem_of_getElem? ha)
    omega
  ·rcases Nat.lt_or_ge i (s.length - 1) with h0 | h0
   ·have := hp i (s.length - 1) hil (by omega) h0
    rw [(List.getElem?_eq_some_iff.1 hb).2, (List.getElem?_eq_some_iff.1 hi).2] at this
    have h4 := h.lo b (List.mem_of_getElem? hb)
    omega
   ·have : i = s.length - 1 := by omega
    subst this; rw [hb] at hi; cases hi; exact h2
theorem q6_eq (s : List GSpan) (lo hi : Int) (hl : s.length <= 4194304) : F_q6 [.x (GSpan.ls .n s), .x (iT lo), .x (iT hi)] = some ⟨[.one (.b (allIn s lo hi))], []⟩ := by
 have hset := q5_eq s hl
 cases hok : setOk s with
 | false =>
  rw [hok] at hset
  have h1 : false = !true := rfl
  have h2 : false = false := rfl
  (refine fun_ev rfl ?_; show Ev m_q6.code _ _ _)
  repeat' (first | refine yy ?_ | refine ym ?_ | (apply ze;(iterate 5 exact rfl)) | (apply zf;(iterate 5 exact rfl)) | refine yp ?_ | refine yk g_q5 (hset) ?_ | refine yo ?_ | apply zn | refine yc ?_ | exact rfl | intro _)
  refine fin rfl (outB ?_)
  rw [allIn, hok]; rfl
 | true =>
  rw [hok] at hset
  have h1 : true = true := rfl
  rcases Nat.eq_zero_or_pos s.length with h0 | h0
  ·obtain rfl := List.eq_nil_of_length_eq_zero h0
   have h2 : (((([] : List GSpan).map (GSpan.el .n)).length : Int) == 0) = !false := rfl
   have h3 : (((([] : List GSpan).map (GSpan.el .n)).length : Int) == 0) = true := rfl
   (refine fun_ev rfl ?_; show Ev m_q6.code _ _ _)
   repeat' (first | refine yy ?_ | refine ym ?_ | (apply ze;(iterate 5 exact rfl)) | (apply zf;(iterate 5 exact rfl)) | refine yp ?_ | refine yk g_q5 (hset) ?_ | refine yo ?_ | apply zn | refine yc ?_ | exact rfl | intro _)
   exact fin rfl rfl
  ·have h2 : (((s.map (GSpan.el .n)).length : Int) == 0) = false := by
    have : ((s.length : Int) == 0) = false := by rw [beq_eq_false_iff_ne]; omega
    rwa [List.length_map]
   have ha := List.getElem?_eq_getElem (show 0 < s.length by omega)
   have hb := List.getElem?_eq_getElem (show s.length - 1 < s.length by omega)
   generalize s[0]'_ = a at ha
   generalize s[s.length - 1]'_ = b at hb
   have hk : IntKind.i64.wrap (((s.map (GSpan.el .n)).length : Int) - 1) = ((s.length - 1 : Nat) : Int) := by rw [List.length_map, w64 (by omega)]; omega
   have hk0 : 0 <= IntKind.i64.wrap (((s.map (GSpan.el .n)).length : Int) - 1) := by rw [hk]; omega
   have hkp : (s.map (GSpan.el .n))[(IntKind.i64.wrap (((s.map (GSpan.el .n)).length : Int) - 1)).toNat]? = some (GSpan.el .n b) := by rw [hk]; exact map_at hb
   (refine fun_ev rfl ?_; show Ev m_q6.code _ _ _)
   repeat' (first | refine yy ?_ | refine ym ?_ | (apply ze;(iterate 5 exact rfl)) | (apply zf;(iterate 5 exact rfl)) | refine yp ?_ | refine yk g_q5 (hset) ?_ | refine yj (GSpan.el .n b) (hk0) (hkp) ?_ | refine yj (GSpan.el .n a) (Int.le_refl _) (map_at ha) ?_ | refine yo ?_ | apply zn | refine yc ?_ | exact rfl | intro _)
   refine fin rfl (outB ?_)
   rw [allIn_ends hok ha hb]
end Go.Wr
namespace Go.Wr
set_option maxRecDepth 20000
end Go.Wr
namespace Go.Wr
set_option maxRecDepth 20000
end Go.Wr

