/-
  What is proved: lemmas on the way to the laws of this seat. No condition.
-/
import Derived.Test.YtbghjecopkbhlaaGreatMa
import Derived.Test.YtbghjecopkbhlaaGreatTa
import Derived.Test.YtbghjecopkbhlaaGreatRd
set_option linter.unusedVariables false
set_option linter.unusedSimpArgs false
namespace Go.Wr
set_option maxRecDepth 20000
theorem dP (x lo hi : Int) : cB [.x (iT x), .x (iT lo), .x (iT hi)] = some ⟨[.one (.b (inB x lo hi))], []⟩ := by
 (refine Z6j rfl ?_; show Ev vR.code _ _ _)
 repeat' (first | refine yy ?_ | refine ym ?_ | (apply ze;(iterate 5 exact rfl)) | (apply zf;(iterate 5 exact rfl)) | refine yp ?_ | refine yo ?_ | apply zn | refine yc ?_ | exact rfl | intro _)
 exact fin rfl rfl
theorem fu (x lo hi : Int) : cU [.x (iT x), .x (iT lo), .x (iT hi)] = some ⟨[.one (.b (inB x lo hi))], []⟩ := by
 (refine Z6j rfl ?_; show Ev AR.code _ _ _)
 repeat' (first | refine yy ?_ | refine ym ?_ | (apply ze;(iterate 5 exact rfl)) | (apply zf;(iterate 5 exact rfl)) | refine yp ?_ | refine yo ?_ | apply zn | refine yc ?_ | exact rfl | intro _)
 exact fin rfl rfl
theorem oZ (a s : Int) : kQ [.x (iT a), .x (iT s)] = some ⟨[.one (iT (dk a s))], []⟩ := by
 (refine Z6j rfl ?_; show Ev AS.code _ _ _)
 repeat' (first | refine yy ?_ | refine ym ?_ | (apply ze;(iterate 5 exact rfl)) | (apply zf;(iterate 5 exact rfl)) | refine yp ?_ | refine yk cm (fu _ _ _) ?_ | refine yt1 ?_ | refine yt0 ?_ | refine yt ?_ ?_ | refine yo ?_ | apply zn | refine yc ?_ | exact rfl | intro _)
 all_goals (refine fin rfl ?_; rename_i h)
 ·simp [dk] at h ⊢
  rcases h with h | h <;> simp [h]
 ·simp at h
  have h1 := h.1; have h2 := h.2
  simp only [inB, Y2, decide_eq_true_eq] at h1 h2
  rw [dk, h.1, h.2, w64 (n := 100 * a) (by omega), w64 (by omega)]
  rfl
theorem kV (a b : Int) : jA [.x (iT a), .x (iT b)] = some ⟨[.one (iT (max a b))], []⟩ := by
 (refine Z6j rfl ?_; show Ev vY.code _ _ _)
 repeat' (first | refine yt1 ?_ | refine yt0 ?_ | refine yt ?_ ?_ | refine yo ?_ | apply zn | refine yc ?_ | intro _)
 all_goals (refine fin rfl ?_; rename_i h; simp at h; simp; omega)
theorem kW (a b : Int) : kB [.x (iT a), .x (iT b)] = some ⟨[.one (iT (min a b))], []⟩ := by
 (refine Z6j rfl ?_; show Ev vZ.code _ _ _)
 repeat' (first | refine yt1 ?_ | refine yt0 ?_ | refine yt ?_ ?_ | refine yo ?_ | apply zn | refine yc ?_ | intro _)
 all_goals (refine fin rfl ?_; rename_i h; simp at h; simp; omega)
theorem GQ (b : Bool) : wA [.x (.b b)] = some ⟨[.one (iT (if b then 1 else 0))], []⟩ := by
 (refine Z6j rfl ?_; show Ev wz.code _ _ _)
 repeat' (first | refine yt1 ?_ | refine yt0 ?_ | refine yt ?_ ?_ | refine yo ?_ | apply zn | refine yc ?_ | intro _)
 all_goals (refine fin rfl ?_; rename_i h; subst h; rfl)
theorem pV (n : Int) : nd [.x (iT n)] = some ⟨[.one (.b (inB n 0 2))], []⟩ := by
 (refine Z6j rfl ?_; show Ev wq.code _ _ _)
 repeat' (first | refine yk bK (dP _ _ _) ?_ | refine yo ?_ | apply zn | refine yc ?_ | intro _)
 exact fin rfl rfl
theorem zC (k w : Int) : oK [.x (iT k), .x (iT w)] = some ⟨[.one (.b (inB k 0 4 && inB w 0 20))], []⟩ := by
 (refine Z6j rfl ?_; show Ev v8.code _ _ _)
 repeat' (first | refine yy ?_ | refine ym ?_ | (apply ze;(iterate 5 exact rfl)) | (apply zf;(iterate 5 exact rfl)) | refine yp ?_ | refine yk bK (dP _ _ _) ?_ | refine yo ?_ | apply zn | refine yc ?_ | exact rfl | intro _)
 exact fin rfl rfl
theorem zD (l : List Int) (lo hi : Int) (hl : l.length <= 4194304) : oF [.x (ints .n l), .x (iT lo), .x (iT hi)] = some ⟨[.one (.b (jf l lo hi))], []⟩ := by
 (refine Z6j rfl ?_; show Ev vS.code _ _ _)
 repeat' (first | refine yt1 ?_ | refine yt0 ?_ | refine yt ?_ ?_ | refine yo ?_ | apply zn | refine yc ?_ | intro _)
 ·refine fin rfl ?_
  rename_i h
  have : l.length ≠ 3 := by simp at h; omega
  simp [jf, this]
 ·have h3 : l.length = 3 := by rename_i h; simp at h; omega
  show Ev _ _ _ _
  refine bq iT l (fun i (_ : Unit) => [(0, .x (ints .n l)), (1, .x (iT lo)), (2, .x (iT hi)), (7, .x (iT i))]) (fun i _ => (l.take i).all (inB · lo hi) = true) () (by simp) rfl ?_ ?_
  ·intro i _ x hx hlt hc _ hinv ih
   repeat' (first | refine yi (iT x) (Zar hx) ?_ | refine yk bK (dP x lo hi) ?_ | refine yt1 ?_ | refine yt0 ?_ | refine yt ?_ ?_ | refine yo ?_ | apply zn | refine yc ?_ | intro _)
   ·refine fin rfl ?_
    have : inB x lo hi = false := by simp_all
    simp [jf, Zbs (p := (inB · lo hi)) hx this]
   ·refine ih () (Zkj (p := (inB · lo hi)) hinv hx (by simp_all)) _ _ ?_
    rw [<- aM (by omega)]; rfl
  ·intro _ hc _ hinv
   repeat' (first | refine yt1 ?_ | refine yt0 ?_ | refine yt ?_ ?_ | refine yo ?_ | apply zn | refine yc ?_ | intro _)
   refine fin rfl ?_
   simp [jf, Zkl hinv, h3]
theorem B3 (l : List Int) (n lo hi : Int) (hl : l.length <= 4194304) : tf [.x (ints .n l), .x (iT n), .x (iT lo), .x (iT hi)] = some ⟨[.one (.b (decide ((l.length : Int) = n) && l.all (inB · lo hi)))], []⟩ := by
 (refine Z6j rfl ?_; show Ev Bj.code _ _ _)
 repeat' (first | refine yt1 ?_ | refine yt0 ?_ | refine yt ?_ ?_ | refine yo ?_ | apply zn | refine yc ?_ | intro _)
 show Ev _ _ _ _
 refine bq iT l (fun i (_ : Unit) => [(0, .x (ints .n l)), (1, .x (iT n)), (2, .x (iT lo)), (3, .x (iT hi)), (11, .x (ints .n l)), (12, .x (iT l.length)), (13, .x (iT i))]) (fun i _ => (l.take i).all (inB · lo hi) = true) () (by simp) (by rw [<- Y45 iT]; rfl) ?_ ?_
 ·intro i _ x hx hlt _ hc hinv ih
  repeat' (first | refine yi (iT x) (Zar hx) ?_ | refine yk cm (fu x lo hi) ?_ | refine yt1 ?_ | refine yt0 ?_ | refine yt ?_ ?_ | refine yo ?_ | apply zn | refine yc ?_ | intro _)
  ·refine fin rfl ?_
   have : inB x lo hi = false := by simp_all
   rw [Zbs (p := (inB · lo hi)) hx this]; simp
  ·refine ih () (Zkj (p := (inB · lo hi)) hinv hx (by simp_all)) _ _ ?_
   rw [<- aM (by omega)]; rfl
 ·intro _ _ hc hinv
  repeat' (first | refine yt1 ?_ | refine yt0 ?_ | refine yt ?_ ?_ | refine yo ?_ | apply zn | refine yc ?_ | intro _)
  refine fin rfl ?_
  rw [Zkl hinv, Y45]
  simp [BEq.beq]
theorem GR (c : aN) (hl : c.bY.length <= 4194304) : vU [.st (c.cs .n)] = some ⟨[.one (.b c.ok)], []⟩ := by
 (refine Z6j rfl ?_; show Ev vT.code _ _ _)
 repeat' (first | refine yy ?_ | refine ym ?_ | (apply ze;(iterate 5 exact rfl)) | (apply zf;(iterate 5 exact rfl)) | refine yp ?_ | refine yk bK (dP _ _ _) ?_ | refine yk mH (zD c.bY _ _ hl) ?_ | refine yo ?_ | apply zn | refine yc ?_ | exact rfl | intro _)
 exact fin rfl rfl
theorem Ke (c : aN) (hl : c.bY.length <= 4194304) : Bl [.st (c.cs .n)] = some ⟨[.one (.b c.ok)], []⟩ := by
 have e : decide ((c.bY.length : Int) = 3) = decide (c.bY.length = 3) := by rw [Y7]; simp; omega
 (refine Z6j rfl ?_; show Ev Bk.code _ _ _)
 repeat' (first | refine yy ?_ | refine ym ?_ | (apply ze;(iterate 5 exact rfl)) | (apply zf;(iterate 5 exact rfl)) | refine yp ?_ | refine yk cm (fu _ _ _) ?_ | refine yk pF (B3 c.bY _ _ _ hl) ?_ | refine yo ?_ | apply zn | refine yc ?_ | exact rfl | intro _)
 refine fin rfl ?_
 rw [e]; rfl
end Go.Wr
namespace Go.Wr
set_option maxRecDepth 20000
theorem nn (s : List aa) (hl : s.length <= 4194304) : l0 [.x (aa.ls .n s)] = some ⟨[.one (.b (cf s))], []⟩ := by
 (refine Z6j rfl ?_; show Ev A6.code _ _ _)
 repeat' (first | refine yy ?_ | refine ym ?_ | (apply ze;(iterate 5 exact rfl)) | (apply zf;(iterate 5 exact rfl)) | refine yp ?_ | refine yt1 ?_ | refine yt0 ?_ | refine yt ?_ ?_ | refine yo ?_ | apply zn | refine yc ?_ | exact rfl | intro _)
 show Ev _ _ _ _
 refine bq (aa.el .n) s (fun i (_ : Unit) => [(0, .x (aa.ls .n s)), (5, .x (aa.ls .n s)), (6, .x (iT s.length)), (7, .x (iT i))]) (fun i _ => ∀ j, j < i -> fZ s j = true) () (by omega) (by rw [<- Y45 (aa.el .n)]; rfl) ?_ ?_
 ·intro i _ x hx hlt _ hc hinv ih
  cases i with
  | zero =>
   have h0 : decide (((0 : Nat) : Int) > 0) = !true := rfl
   repeat' (first | refine yy ?_ | refine ym ?_ | (apply ze;(iterate 5 exact rfl)) | (apply zf;(iterate 5 exact rfl)) | refine yp ?_ | refine yi (aa.el .n x) (Zar hx) ?_ | refine yk cm (fu _ _ _) ?_ | refine yt1 ?_ | refine yt0 ?_ | refine yt ?_ ?_ | refine yo ?_ | apply zn | refine yc ?_ | exact rfl | intro _)
   ·refine fin rfl ?_
    rename_i h
    have : fZ s 0 = false := by rw [Zc8 hx]; revert h; cases inB x.Lo 0 9999 <;> cases inB x.Hi x.Lo 9999 <;> simp
    simp [cf, Ze hlt this]
   ·rename_i h
    refine ih () (Zl8 hinv ?_) _ _ ?_
    ·rw [Zc8 hx]; revert h; cases inB x.Lo 0 9999 <;> cases inB x.Hi x.Lo 9999 <;> simp
    ·rw [<- aM (by omega)]; rfl
  | succ k =>
   have hp := Y34 (show k < s.length by omega)
   generalize s[k]'(by omega) = p at hp
   have hb := Zc6 hp (hinv k (by omega))
   have hw : IntKind.i64.wrap (p.Hi + 1) = p.Hi + 1 := w64 (by omega)
   have hk := Zly (k := k) (by omega)
   have hk0 : 0 <= IntKind.i64.wrap (((k + 1 : Nat) : Int) - 1) := by rw [hk]; omega
   have hkp : (s.map (aa.el .n))[(IntKind.i64.wrap (((k + 1 : Nat) : Int) - 1)).toNat]? = some (aa.el .n p) := by rw [hk]; exact Zar hp
   repeat' (first | refine yy ?_ | refine ym ?_ | (apply ze;(iterate 5 exact rfl)) | (apply zf;(iterate 5 exact rfl)) | refine yp ?_ | refine yi (aa.el .n x) (Zar hx) ?_ | refine yj (aa.el .n p) (hk0) (hkp) ?_ | refine yk cm (fu _ _ _) ?_ | refine yt1 ?_ | refine yt0 ?_ | refine yt ?_ ?_ | refine yo ?_ | apply zn | refine yc ?_ | exact rfl | intro _)
   ·refine fin rfl ?_
    rename_i h
    rw [hw] at h
    have : fZ s (k + 1) = false := by rw [Zc7 hx hp]; revert h; cases inB x.Lo 0 9999 <;> cases inB x.Hi x.Lo 9999 <;> simp
    simp [cf, Ze hlt this]
   ·rename_i h
    rw [hw] at h
    refine ih () (Zl8 hinv ?_) _ _ ?_
    ·rw [Zc7 hx hp]; revert h; cases inB x.Lo 0 9999 <;> cases inB x.Hi x.Lo 9999 <;> simp <;> omega
    ·rw [<- aM (i := k + 1) (by omega)]; rfl
 ·intro _ _ hc hinv
  repeat' (first | refine yy ?_ | refine ym ?_ | (apply ze;(iterate 5 exact rfl)) | (apply zf;(iterate 5 exact rfl)) | refine yp ?_ | refine yt1 ?_ | refine yt0 ?_ | refine yt ?_ ?_ | refine yo ?_ | apply zn | refine yc ?_ | exact rfl | intro _)
  refine fin rfl ?_
  simp [cf, Zf hinv]
theorem kX (s : List aa) (hl : s.length <= 4194304) : kA [.x (aa.ls .n s)] = some ⟨[.one (.b (cf s))], []⟩ := by
 (refine Z6j rfl ?_; show Ev vV.code _ _ _)
 repeat' (first | refine yy ?_ | refine ym ?_ | (apply ze;(iterate 5 exact rfl)) | (apply zf;(iterate 5 exact rfl)) | refine yp ?_ | refine yt1 ?_ | refine yt0 ?_ | refine yt ?_ ?_ | refine yo ?_ | apply zn | refine yc ?_ | exact rfl | intro _)
 show Ev _ _ _ _
 refine bq (aa.el .n) s (fun i (_ : Unit) => [(0, .x (aa.ls .n s)), (3, .x (iT i))]) (fun i _ => ∀ j, j < i -> fZ s j = true) () (by omega) rfl ?_ ?_
 ·intro i _ x hx hlt hc _ hinv ih
  cases i with
  | zero =>
   have h0 : decide (((0 : Nat) : Int) > 0) = !true := rfl
   repeat' (first | refine yy ?_ | refine ym ?_ | (apply ze;(iterate 5 exact rfl)) | (apply zf;(iterate 5 exact rfl)) | refine yp ?_ | refine yi (aa.el .n x) (Zar hx) ?_ | refine yk bK (dP _ _ _) ?_ | refine yt1 ?_ | refine yt0 ?_ | refine yt ?_ ?_ | refine yo ?_ | apply zn | refine yc ?_ | exact rfl | intro _)
   ·refine fin rfl ?_
    rename_i h
    have : fZ s 0 = false := by rw [Zc8 hx]; revert h; cases inB x.Lo 0 9999 <;> cases inB x.Hi x.Lo 9999 <;> simp
    simp [cf, Ze hlt this]
   ·rename_i h
    refine ih () (Zl8 hinv ?_) _ _ ?_
    ·rw [Zc8 hx]; revert h; cases inB x.Lo 0 9999 <;> cases inB x.Hi x.Lo 9999 <;> simp
    ·rw [<- aM (by omega)]; rfl
  | succ k =>
   have hp := Y34 (show k < s.length by omega)
   generalize s[k]'(by omega) = p at hp
   have hb := Zc6 hp (hinv k (by omega))
   have hw : IntKind.i64.wrap (p.Hi + 1) = p.Hi + 1 := w64 (by omega)
   have hk := Zly (k := k) (by omega)
   have hk0 : 0 <= IntKind.i64.wrap (((k + 1 : Nat) : Int) - 1) := by rw [hk]; omega
   have hkp : (s.map (aa.el .n))[(IntKind.i64.wrap (((k + 1 : Nat) : Int) - 1)).toNat]? = some (aa.el .n p) := by rw [hk]; exact Zar hp
   repeat' (first | refine yy ?_ | refine ym ?_ | (apply ze;(iterate 5 exact rfl)) | (apply zf;(iterate 5 exact rfl)) | refine yp ?_ | refine yi (aa.el .n x) (Zar hx) ?_ | refine yj (aa.el .n p) (hk0) (hkp) ?_ | refine yk bK (dP _ _ _) ?_ | refine yt1 ?_ | refine yt0 ?_ | refine yt ?_ ?_ | refine yo ?_ | apply zn | refine yc ?_ | exact rfl | intro _)
   ·refine fin rfl ?_
    rename_i h
    rw [hw] at h
    have : fZ s (k + 1) = false := by rw [Zc7 hx hp]; revert h; cases inB x.Lo 0 9999 <;> cases inB x.Hi x.Lo 9999 <;> simp
    simp [cf, Ze hlt this]
   ·rename_i h
    rw [hw] at h
    refine ih () (Zl8 hinv ?_) _ _ ?_
    ·rw [Zc7 hx hp]; revert h; cases inB x.Lo 0 9999 <;> cases inB x.Hi x.Lo 9999 <;> simp <;> omega
    ·rw [<- aM (i := k + 1) (by omega)]; rfl
 ·intro _ hc _ hinv
  repeat' (first | refine yy ?_ | refine ym ?_ | (apply ze;(iterate 5 exact rfl)) | (apply zf;(iterate 5 exact rfl)) | refine yp ?_ | refine yt1 ?_ | refine yt0 ?_ | refine yt ?_ ?_ | refine yo ?_ | apply zn | refine yc ?_ | exact rfl | intro _)
  refine fin rfl ?_
  simp [cf, Zf hinv]
end Go.Wr
namespace Go.Wr
set_option maxRecDepth 20000
theorem o4 (l : List Int) (hl : l.length <= 4194304) : nQ [.x (ints .n l)] = some ⟨[.one (ints .y l)], []⟩ := by
 (refine Z6j rfl ?_; show Ev A7.code _ _ _)
 repeat' (first | (apply za;(iterate 3 exact rfl);exact (Zp hl);exact (Z5w (fun _ => rfl) _);exact rfl;exact rfl) | refine yo ?_ | apply zn | refine yc ?_ | intro _)
 exact fin rfl rfl
theorem B4 (l : List aa) (hl : l.length <= 4194304) : td [.x (aa.ls .n l)] = some ⟨[.one (aa.ls .y l)], []⟩ := by
 (refine Z6j rfl ?_; show Ev Bf.code _ _ _)
 repeat' (first | (apply za;(iterate 3 exact rfl);exact (Zp hl);exact (Z5w (fun _ => rfl) _);exact rfl;exact rfl) | refine yo ?_ | apply zn | refine yc ?_ | intro _)
 exact fin rfl rfl
theorem GS (l : List aa) (hl : l.length <= 4194304) : we [.x (aa.ls .n l)] = some ⟨[.one (aa.ls .y l)], []⟩ := by
 (refine Z6j rfl ?_; show Ev wc.code _ _ _)
 repeat' (first | (apply za;(iterate 3 exact rfl);exact (Zp hl);exact (Z5w (fun _ => rfl) _);exact rfl;exact rfl) | refine yo ?_ | apply zn | refine yc ?_ | intro _)
 exact fin rfl rfl
theorem np (l : List Int) (m jg : Int) (z : Bool) (hl : l.length <= 4194304) : lI [.x (ints .n l), .x (iT m), .x (iT jg), .x (.b z)] = some ⟨[.one (.b (decide ((l.length : Int) = m) && l.all fun x => inB x 0 jg && !(z && x != 0)))], []⟩ := by
 by_cases hm : (l.length : Int) = m
 ·subst hm
  have h0 : (((l.map iT).length : Int) != l.length) = false := by simp
  (refine Z6j rfl ?_; show Ev oH.code _ _ _)
  repeat' (first | refine yy ?_ | refine ym ?_ | (apply ze;(iterate 5 exact rfl)) | (apply zf;(iterate 5 exact rfl)) | refine yp ?_ | refine yt1 ?_ | refine yt0 ?_ | refine yt ?_ ?_ | refine yo ?_ | apply zn | refine yc ?_ | exact rfl | intro _)
  show Ev _ _ _ _
  refine bq iT l (fun i (_ : Unit) => [(0, .x (ints .n l)), (1, .x (iT l.length)), (2, .x (iT jg)), (3, .x (.b z)), (9, .x (iT i))]) (fun i _ => (l.take i).all (fun x => inB x 0 jg && !(z && x != 0)) = true) () (by simp) rfl ?_ ?_
  ·intro i _ x hx hlt _ hc hinv ih
   repeat' (first | refine yy ?_ | refine ym ?_ | (apply ze;(iterate 5 exact rfl)) | (apply zf;(iterate 5 exact rfl)) | refine yp ?_ | refine yi (iT x) (Zar hx) ?_ | refine yk bK (dP _ _ _) ?_ | refine yt1 ?_ | refine yt0 ?_ | refine yt ?_ ?_ | refine yo ?_ | apply zn | refine yc ?_ | exact rfl | intro _)
   ·refine fin rfl ?_
    rename_i h
    have : (inB x 0 jg && !(z && x != 0)) = false := by revert h; cases inB x 0 jg <;> cases z <;> simp
    rw [Zbs (p := fun x => inB x 0 jg && !(z && x != 0)) hx this]; simp
   ·rename_i h
    refine ih () (Zkj (p := fun x => inB x 0 jg && !(z && x != 0)) hinv hx (by revert h; cases inB x 0 jg <;> cases z <;> simp)) _ _ ?_
    rw [<- aM (by omega)]; rfl
  ·intro _ _ hc hinv
   repeat' (first | refine yy ?_ | refine ym ?_ | (apply ze;(iterate 5 exact rfl)) | (apply zf;(iterate 5 exact rfl)) | refine yp ?_ | refine yt1 ?_ | refine yt0 ?_ | refine yt ?_ ?_ | refine yo ?_ | apply zn | refine yc ?_ | exact rfl | intro _)
   refine fin rfl ?_
   rw [Zkl hinv]; simp
 ·have h0 : (((l.map iT).length : Int) != m) = true := by simpa using hm
  (refine Z6j rfl ?_; show Ev oH.code _ _ _)
  repeat' (first | refine yy ?_ | refine ym ?_ | (apply ze;(iterate 5 exact rfl)) | (apply zf;(iterate 5 exact rfl)) | refine yp ?_ | refine yt1 ?_ | refine yt0 ?_ | refine yt ?_ ?_ | refine yo ?_ | apply zn | refine yc ?_ | exact rfl | intro _)
  refine fin rfl ?_
  simp [hm]
theorem zF (x : ag) (hl : x.ae <= 4194304) : oJ [.st (x.cs .n)] = some ⟨[.one (.b x.ok)], []⟩ := by
 obtain ⟨c, s, mn, mx, hi, re, ro⟩ := x
 simp only [ag.ae] at hl
 by_cases h2 : ro.length = 2
 ·obtain ⟨r0, r1, rfl⟩ : ∃ r0 r1, ro = [r0, r1] := by
   match ro, h2 with
   | [r0, r1], _ => exact ⟨r0, r1, rfl⟩
  have b0 : r0.length <= 4194304 := by simp [aF] at hl; omega
  have b1 : r1.length <= 4194304 := by simp [aF] at hl; omega
  (refine Z6j rfl ?_; show Ev oI.code _ _ _)
  repeat' (first | refine yy ?_ | refine ym ?_ | (apply ze;(iterate 5 exact rfl)) | (apply zf;(iterate 5 exact rfl)) | refine yp ?_ | refine yk bK (dP _ _ _) ?_ | (apply zk iQ;exact rfl;exact rfl;exact (np hi _ _ _ (by omega));(iterate 3 exact rfl)) | (apply zk iQ;exact rfl;exact rfl;exact (np re _ _ _ (by omega));(iterate 3 exact rfl)) | refine yk iQ (np r0 _ _ _ b0) ?_ | refine yk iQ (np r1 _ _ _ b1) ?_ | refine yt1 ?_ | refine yt0 ?_ | refine yt ?_ ?_ | refine yo ?_ | apply zn | refine yc ?_ | exact rfl | intro _)
  all_goals (refine fin rfl (bt ?_); simp only [ag.ok, jt, iN, Y17, Y19, Y5])
  all_goals grind
 ·(refine Z6j rfl ?_; show Ev oI.code _ _ _)
  repeat' (first | refine yy ?_ | refine ym ?_ | (apply ze;(iterate 5 exact rfl)) | (apply zf;(iterate 5 exact rfl)) | refine yp ?_ | refine yk bK (dP _ _ _) ?_ | refine yt1 ?_ | refine yt0 ?_ | refine yt ?_ ?_ | refine yo ?_ | apply zn | refine yc ?_ | exact rfl | intro _)
  all_goals first | (refine fin rfl (bt ?_); simp [ag.ok, h2]; done) | (exfalso; rename_i h _; simp at h; omega)
end Go.Wr
namespace Go.Wr
set_option maxRecDepth 20000
theorem Kf (x : ag) (hl : x.ae <= 4194304) : A9 [.st (x.cs .n)] = some ⟨[.one (ints .y (x.aW ++ x.aT ++ x.Rows.flatten))], []⟩ := by
 simp only [ag.ae] at hl
 have hr := Z1t List.length x.Rows
 have LC : ∀ i, x.aW.length + x.aT.length + (x.Rows.take i).flatten.length <= 4194304 := fun i => by
  have := Zd8 (f := List.length) (l := x.Rows) (i := i)
  simp only [pre, <- List.length_flatten] at this
  omega
 (refine Z6j rfl ?_; show Ev A8.code _ _ _)
 repeat' (first | refine yk ka (o4 x.aW (by omega)) ?_ | (apply za;(iterate 3 exact rfl);exact (Zq (by omega));exact (Z5w (fun _ => rfl) _);exact rfl;exact rfl) | refine yt1 ?_ | refine yt0 ?_ | refine yt ?_ ?_ | refine yo ?_ | apply zn | refine yc ?_ | intro _)
 show Ev _ _ _ _
 refine bq (ints .n) x.Rows (fun i (es : List T) => [(1, .box ⟨0, 0, 0⟩ (x.cs .n)), (3, .own ⟨0, 0, 0⟩ (.l .y 1 es)), (13, .x (dE.lss .n x.Rows)), (14, .x (iT x.Rows.length)), (15, .x (iT i))]) (fun i es => es = (x.aW ++ x.aT ++ (x.Rows.take i).flatten).map iT) (x.aW.map iT ++ x.aT.map iT) (by simp) (by rw [<- Y45 (ints .n)]; rfl) ?_ ?_
 ·intro i es y hx hlt _ hc hinv ih
  have h5 : es.length + (y.map iT).length < aS := by
   have := LC (i + 1)
   rw [Y70, hx] at this
   have h6 : es.length = (x.aW ++ x.aT ++ (x.Rows.take i).flatten).length := by rw [hinv, Y45]
   simp only [Y41, Option.toList_some, List.flatten_append, Y27, List.flatten_nil, Y22] at this h6
   rw [Y45]; unfold aS; omega
  repeat' (first | refine yi (ints .n y) (Zar hx) ?_ | (apply zv;(iterate 7 exact rfl);exact (h5);exact (Z5w (fun _ => rfl) _);exact rfl;exact rfl) | refine yt1 ?_ | refine yt0 ?_ | refine yt ?_ ?_ | refine yo ?_ | apply zn | refine yc ?_ | intro _)
  refine ih (es ++ y.map iT) ?_ _ _ ?_
  ·rw [hinv, Y70, hx]; simp
  ·rw [<- aM (by omega)]; rfl
 ·intro es _ hc hinv
  repeat' (first | refine yt1 ?_ | refine yt0 ?_ | refine yt ?_ ?_ | refine yo ?_ | apply zn | refine yc ?_ | intro _)
  refine fin rfl ?_
  simp only [Zk0, hinv, Y72]
theorem Zk8 : ∀ {l : List Int}, l.all (inB · 0 1000000000) = true -> 0 <= l.sum /\ l.sum <= 1000000000 * l.length /\ (l.sum = 0 <-> ∀ x ∈ l, x = 0)
 | [], _ => by simp
 | x :: l, h => by
  simp only [Y17, Y2, inB, decide_eq_true_eq] at h
  obtain ⟨h1, h2, h3⟩ := Zk8 (l := l) h.2
  refine ⟨?_, ?_, ?_⟩
  ·simp only [Y69]; omega
  ·simp only [Y69, Y42]; omega
  ·simp only [Y69, Y55, forall_eq_or_imp, <- h3]; omega
theorem Zj1 {c s mn mx : Int} {hi re r0 r1 : List Int} (h8 : hi.length = 8) (h8b : re.length = 8) (h4 : r0.length = 4) (h4b : r1.length = 4) :
  (ag.mk c s mn mx hi re [r0, r1]).ok = ((hi ++ re ++ [r0, r1].flatten ++ [c, s, mn, mx]).all (inB · 0 1000000000) && re.all (fun n => !decide (n > 17)) && bif c == 0 then (hi ++ re ++ [r0, r1].flatten ++ [c, s, mn, mx]).sum == 0 else decide (mn <= mx) && decide (mx <= 1000000)) := by
 rw [Y7]
 simp only [ag.ok, jt, h8, h8b, h4, h4b, Y17, Y19, Y5, Y27, List.flatten_nil, Y22, List.all_append, Y2, decide_eq_true_eq, inB, Y18, Y11, decide_true, true_and]
 constructor
 ·rintro ⟨⟨⟨⟨⟨⟨⟨⟨⟨h1, h2⟩, h3⟩, h4⟩, h5⟩, _⟩, h6⟩, h7⟩, h8⟩, h9, h10⟩
  refine ⟨⟨⟨⟨⟨fun x hx => by have := h7 x hx; omega, fun x hx => by have := h8 x hx; omega⟩, fun x hx => by have := h9 x hx; omega, fun x hx => by have := h10 x hx; omega⟩, by omega, by omega, by omega, by omega⟩, fun x hx => by have := h8 x hx; simp; omega⟩, ?_⟩
  by_cases hc : c = 0
  ·subst hc
   simp only [BEq.rfl, cond_true]
   have z : ∀ {l : List Int}, (∀ x ∈ l, x = 0) -> l.sum = 0 := fun {l} => by
    induction l with
    | nil => simp
    | cons x l ih => intro h; simp only [Y55, forall_eq_or_imp] at h; simp [h.1, ih h.2]
   have q : ∀ x ∈ (hi ++ re ++ (r0 ++ r1) ++ [0, s, mn, mx]), x = 0 := by
    intro x hx
    simp only [Y52, Y55, List.not_mem_nil, or_false] at hx
    simp at h6 h7 h8 h9 h10
    rcases hx with ((hx | hx) | hx | hx) | hx | hx | hx | hx
    ·exact (h7 x hx).2
    ·exact (h8 x hx).2
    ·exact (h9 x hx).2
    ·exact (h10 x hx).2
    ·exact hx
    ·exact hx.trans h6.1
    ·omega
    ·omega
   rw [beq_iff_eq]; exact z q
  ·simp [hc]; omega
 ·rintro ⟨⟨⟨⟨⟨h1, h2⟩, h3, h3b⟩, h4, h5, h6, h7⟩, h8⟩, h9⟩
  by_cases hc : c = 0
  ·subst hc
   simp only [BEq.rfl, cond_true, beq_iff_eq] at h9
   have ha : (hi ++ re ++ (r0 ++ r1) ++ [0, s, mn, mx]).all (inB · 0 1000000000) = true := by
    rw [Y18]
    intro x hx
    simp only [inB, Y2, decide_eq_true_eq]
    simp only [Y52, Y55, List.not_mem_nil, or_false] at hx
    rcases hx with ((hx | hx) | hx | hx) | hx | hx | hx | hx
    ·exact h1 x hx
    ·exact h2 x hx
    ·exact h3 x hx
    ·exact h3b x hx
    ·exact hx ▸ h4
    ·exact hx ▸ h5
    ·exact hx ▸ h6
    ·exact hx ▸ h7
   have hz := (Zk8 ha).2.2.1 h9
   have hs := hz s (by simp)
   have hmn := hz mn (by simp)
   have hmx := hz mx (by simp)
   subst hs hmn hmx
   have zz : ∀ {x : Int}, x ∈ hi ++ re ++ (r0 ++ r1) ++ [0, 0, 0, 0] -> x = 0 := fun {x} => hz x
   refine ⟨⟨⟨⟨⟨⟨⟨⟨⟨by omega, by omega⟩, by omega⟩, by omega⟩, by omega⟩, rfl⟩, by simp⟩, fun x hx => ?_⟩, fun x hx => ?_⟩, fun x hx => ?_, fun x hx => ?_⟩ <;>
    (have := zz (x := x) (by simp [hx]); subst this; simp)
  ·have h9 : mn <= mx /\ mx <= 1000000 := by simpa [hc] using h9
   refine ⟨⟨⟨⟨⟨⟨⟨⟨⟨by omega, by omega⟩, by omega⟩, by omega⟩, by omega⟩, rfl⟩, by simp [hc]⟩, fun x hx => ?_⟩, fun x hx => ?_⟩, fun x hx => ?_, fun x hx => ?_⟩
   ·have := h1 x hx; simp [hc]; omega
   ·have := h2 x hx; have := h8 x hx; simp [hc] at this ⊢; omega
   ·have := h3 x hx; simp [hc]; omega
   ·have := h3b x hx; simp [hc]; omega
theorem o5 (x : ag) (hl : x.ae <= 4000000) : nR [.st (x.cs .n)] = some ⟨[.one (.b x.ok)], []⟩ := by
 have hl0 := hl
 simp only [ag.ae] at hl
 by_cases h2 : x.Rows.length = 2
 ·obtain ⟨r0, r1, hr⟩ : ∃ r0 r1, x.Rows = [r0, r1] := by
   match hx : x.Rows, h2 with
   | [r0, r1], _ => exact ⟨r0, r1, rfl⟩
  obtain ⟨c, s, mn, mx, hi, re, ro⟩ := x
  simp only at hr
  subst hr
  simp [aF] at hl
  have ha : (hi ++ re ++ [r0, r1].flatten).length <= 4194304 := by simp; omega
  (refine Z6j rfl ?_; show Ev tc.code _ _ _)
  repeat' (first | refine yy ?_ | refine ym ?_ | (apply ze;(iterate 5 exact rfl)) | (apply zf;(iterate 5 exact rfl)) | refine yp ?_ | (apply zk AF;exact rfl;exact rfl;exact (Kf _ (Y77 hl0 (by omega)));(iterate 3 exact rfl)) | (apply za;(iterate 3 exact rfl);exact (Zr ha);exact (rfl);exact rfl;exact rfl) | refine yt1 ?_ | refine yt0 ?_ | refine yt ?_ ?_ | refine yo ?_ | apply zn | refine yc ?_ | exact rfl | intro _)
  ·refine fin rfl (bt ?_)
   rename_i h
   have : ¬(hi.length = 8 /\ re.length = 8 /\ r0.length = 4 /\ r1.length = 4) := by
    simp at h; omega
   rw [eq_comm, Y6]
   intro h
   apply this
   simp only [ag.ok, jt, Y17, Y19, Y2, decide_eq_true_eq] at h
   exact ⟨h.1.1.2.1, h.1.2.1, h.2.1.1, h.2.2.1.1⟩
  ·rename_i h
   simp at h
   have h8 : hi.length = 8 := by omega
   have h8b : re.length = 8 := by omega
   have h4 : r0.length = 4 := by omega
   have h4b : r1.length = 4 := by omega
   rw [Zj1 h8 h8b h4 h4b]
   obtain ⟨cs, hcs⟩ : ∃ cs, cs = hi ++ re ++ [r0, r1].flatten ++ [c, s, mn, mx] := ⟨_, rfl⟩
   have hm : cs.map iT = (hi ++ re ++ [r0, r1].flatten).map iT ++ [iT c, iT s, iT mn, iT mx] := by rw [hcs, Y49]; rfl
   have hcl : cs.length <= 4194308 := by rw [hcs, Y41]; simp at ha ⊢; omega
   rw [<- hcs]
   refine bq iT cs (fun i (sum : Int) => [(1, .box ⟨0, 0, 0⟩ (ag.cs .n (ag.mk c s mn mx hi re [r0, r1]))), (3, .x (iT sum)), (51, .own ⟨0, 0, 0⟩ (.l .y 1 (cs.map iT))), (52, .x (iT (cs.map iT).length)), (53, .x (iT i))]) (fun i sum => (cs.take i).all (inB · 0 1000000000) = true /\ sum = (cs.take i).sum) 0 (by simp) (by rw [hm]; rfl) ?_ ?_
   ·rintro i sum x hx hlt hc _ ⟨hinv, rfl⟩ ih
    repeat' (first | refine yy ?_ | refine ym ?_ | (apply ze;(iterate 5 exact rfl)) | (apply zf;(iterate 5 exact rfl)) | refine yp ?_ | refine yx (Zcs hlt) ?_ | refine yl (iT x) (Zbj (Zar hx)) ?_ | refine yk cm (fu _ _ _) ?_ | refine yt1 ?_ | refine yt0 ?_ | refine yt ?_ ?_ | refine yo ?_ | apply zn | refine yc ?_ | exact rfl | intro _)
    ·refine fin rfl (bt ?_)
     have : inB x 0 1000000000 = false := by simp_all
     rw [Zbs (p := (inB · 0 1000000000)) hx this]; rfl
    ·have hx2 : inB x 0 1000000000 = true := by simp_all
     have h5 := (Zk8 hinv).1
     have h6 := (Zk8 hinv).2.1
     have h7 := hx2
     simp only [inB, Y2, decide_eq_true_eq] at h7
     have h8 : (cs.take i).length <= 4194308 := by rw [Y48]; omega
     refine ih _ ⟨Zkj (p := (inB · 0 1000000000)) hinv hx hx2, rfl⟩ _ _ ?_
     rw [w64 (n := (cs.take i).sum + x) (by omega), aM (by omega), Zk9 hx]; rfl
   ·rintro sum hc _ ⟨hinv, rfl⟩
    rw [Zkl hinv, Y72]
    repeat' (first | refine yy ?_ | refine ym ?_ | (apply ze;(iterate 5 exact rfl)) | (apply zf;(iterate 5 exact rfl)) | refine yp ?_ | refine yt1 ?_ | refine yt0 ?_ | refine yt ?_ ?_ | refine yo ?_ | apply zn | refine yc ?_ | exact rfl | intro _)
    refine bq iT re (fun i (_ : Unit) => [(1, .box ⟨0, 0, 0⟩ (ag.cs .n (ag.mk c s mn mx hi re [r0, r1]))), (3, .x (iT cs.sum)), (65, .x (ints .n re)), (66, .x (iT re.length)), (67, .x (iT i))]) (fun i _ => (re.take i).all (fun n => !decide (n > 17)) = true) () (by simp) (by rw [<- Y45 iT]; rfl) ?_ ?_
    ·intro i _ x hx hlt _ hc hinv ih
     repeat' (first | refine yy ?_ | refine ym ?_ | (apply ze;(iterate 5 exact rfl)) | (apply zf;(iterate 5 exact rfl)) | refine yp ?_ | refine yi (iT x) (Zar hx) ?_ | refine yt1 ?_ | refine yt0 ?_ | refine yt ?_ ?_ | refine yo ?_ | apply zn | refine yc ?_ | exact rfl | intro _)
     ·refine fin rfl (bt ?_)
      rw [Zbs (p := fun n => !decide (n > 17)) hx (by simp_all)]; rfl
     ·refine ih () (Zkj (p := fun n => !decide (n > 17)) hinv hx (by simp_all)) _ _ ?_
      rw [<- aM (i := i) (by omega)]; rfl
    ·intro _ _ hc hinv
     rw [Zkl hinv]
     repeat' (first | refine yy ?_ | refine ym ?_ | (apply ze;(iterate 5 exact rfl)) | (apply zf;(iterate 5 exact rfl)) | refine yp ?_ | refine yt1 ?_ | refine yt0 ?_ | refine yt ?_ ?_ | refine yo ?_ | apply zn | refine yc ?_ | exact rfl | intro _)
     ·refine fin rfl (bt ?_)
      rename_i h
      have hc0 : c = 0 := by simpa using h
      subst hc0; rfl
     ·refine fin rfl (bt ?_)
      rename_i h
      rw [show (c == 0) = false from h]; rfl
 ·have h0 : ((((x.aW.map iT).length : Int) != 8 || ((x.aT.map iT).length : Int) != 8) || ((x.Rows.map (ints .n)).length : Int) != 2) = !false := by
   have : ((x.Rows.length : Int) != 2) = true := by simp; omega
   rw [Y45 (ints .n), this]; simp
  have h1 : true = !false := rfl
  have h4 : true = true := rfl
  have h3 : (((((x.aW.map iT).length : Int) != 8 || ((x.aT.map iT).length : Int) != 8) || ((x.Rows.map (ints .n)).length : Int) != 2)) = true := h0
  (refine Z6j rfl ?_; show Ev tc.code _ _ _)
  repeat' (first | refine yy ?_ | refine ym ?_ | (apply ze;(iterate 5 exact rfl)) | (apply zf;(iterate 5 exact rfl)) | refine yp ?_ | refine yt1 ?_ | refine yt0 ?_ | refine yt ?_ ?_ | refine yo ?_ | apply zn | refine yc ?_ | exact rfl | intro _)
  refine fin rfl (bt ?_)
  simp [ag.ok, h2]
end Go.Wr
namespace Go.Wr
set_option maxRecDepth 20000
theorem Kg (e : ab) (hl : e.ae <= 4000000) : Bb [.st (e.cs .n)] = some ⟨[.one (.b e.ok)], []⟩ := by
 simp only [ab.ae] at hl
 have hi : e.Ids.length <= 4194304 := by omega
 have hs : e.aj.ae <= 4000000 := by omega
 (refine Z6j rfl ?_; show Ev Ba.code _ _ _)
 repeat' (first | refine yy ?_ | refine ym ?_ | (apply ze;(iterate 5 exact rfl)) | (apply zf;(iterate 5 exact rfl)) | refine yp ?_ | refine yk cm (fu _ _ _) ?_ | refine yk ig (nn e.Ids hi) ?_ | refine yk kb (o5 e.aj hs) ?_ | refine yo ?_ | apply zn | refine yc ?_ | exact rfl | intro _)
 refine fin rfl (bt ?_)
 have : decide (e.Ids ≠ []) = decide ((e.Ids.length : Int) > 0) := by rw [Y7]; simp [Y47]
 rw [ab.ok, this, Y45]
theorem nq (e : ab) (hl : e.ae <= 4000000) : na [.st (e.cs .n)] = some ⟨[.one (.b e.ok)], []⟩ := by
 simp only [ab.ae] at hl
 have hi : e.Ids.length <= 4194304 := by omega
 have hs : e.aj.ae <= 4194304 := by omega
 (refine Z6j rfl ?_; show Ev wa.code _ _ _)
 repeat' (first | refine yy ?_ | refine ym ?_ | (apply ze;(iterate 5 exact rfl)) | (apply zf;(iterate 5 exact rfl)) | refine yp ?_ | refine yk mK (zC _ _) ?_ | refine yk gZ (kX e.Ids hi) ?_ | refine yk mJ (zF e.aj hs) ?_ | refine yo ?_ | apply zn | refine yc ?_ | exact rfl | intro _)
 refine fin rfl (bt ?_)
 have : decide (e.Ids ≠ []) = decide ((e.Ids.length : Int) > 0) := by rw [Y7]; simp [Y47]
 rw [ab.ok, this, Y45]
 generalize cf e.Ids = a
 generalize (inB e.Key 0 4 && inB e.cJ 0 20) = b
 generalize decide ((e.Ids.length : Int) > 0) = c
 generalize e.aj.ok = d
 revert a b c d; decide
theorem Zk7 {s : List aa} {i : Nat} {x : aa} (h : s[i]? = some x) : bS (s.take (i + 1)) = bS (s.take i) + (x.Hi - x.Lo + 1) := by
 unfold bS; rw [Y70, h]; simp
theorem Zk6 : ∀ {s : List aa}, (∀ x ∈ s, 0 <= x.Lo /\ x.Lo <= x.Hi /\ x.Hi <= 9999) -> 0 <= bS s /\ bS s <= 10000 * s.length
 | [], _ => by simp [bS]
 | x :: s, h => by
  have h1 := Zk6 (s := s) fun y hy => h y (Y56 _ hy)
  have h2 := h x Y57
  simp only [bS, Y50, Y69, Y42] at h1 ⊢
  omega
theorem yG (s : List aa) (hl : s.length <= 4194304) : tn [.x (aa.ls .n s)] = some ⟨[.one (iT (cK s))], []⟩ := by
 (refine Z6j rfl ?_; show Ev Bo.code _ _ _)
 repeat' (first | refine yk ig (nn s hl) ?_ | refine yt1 ?_ | refine yt0 ?_ | refine yt ?_ ?_ | refine yo ?_ | apply zn | refine yc ?_ | intro _)
 ·refine fin rfl (lX ?_)
  rename_i h
  have : cf s = false := by simpa using h
  rw [cK, if_neg (by simp [this])]
 ·rename_i h
  have hok : cf s = true := by simpa using h
  have hb : ∀ x ∈ s, 0 <= x.Lo /\ x.Lo <= x.Hi /\ x.Hi <= 9999 := fun x hx => Zit hok hx
  rw [cK, if_pos hok]
  refine bq (aa.el .n) s (fun i (n : Int) => [(3, .x (iT n)), (9, .x (aa.ls .n s)), (10, .x (iT s.length)), (11, .x (iT i))]) (fun i n => n = bS (s.take i)) 0 (by simp [bS]) (by rw [<- Y45 (aa.el .n)]; rfl) ?_ ?_
  ·rintro i n x hx hlt _ hc rfl ih
   have h2 := Zk6 (s := s.take i) fun y hy => hb y (Y63 hy)
   have h3 := hb x (Y62 hx)
   rw [Y48] at h2
   have h4 : IntKind.i64.wrap (x.Hi - x.Lo) = x.Hi - x.Lo := w64 (by omega)
   have h5 : IntKind.i64.wrap (x.Hi - x.Lo + 1) = x.Hi - x.Lo + 1 := w64 (by omega)
   have h6 : IntKind.i64.wrap (bS (s.take i) + (x.Hi - x.Lo + 1)) = bS (s.take (i + 1)) := by rw [Zk7 hx, w64 (by omega)]
   repeat' (first | refine yi (aa.el .n x) (Zar hx) ?_ | refine yt1 ?_ | refine yt0 ?_ | refine yt ?_ ?_ | refine yo ?_ | apply zn | refine yc ?_ | intro _)
   refine ih _ rfl _ _ ?_
   rw [h4, h5, h6, aM (by omega)]; rfl
  ·rintro n _ hc rfl
   rw [Y72]
   repeat' (first | refine yt1 ?_ | refine yt0 ?_ | refine yt ?_ ?_ | refine yo ?_ | apply zn | refine yc ?_ | intro _)
   exact fin rfl rfl
theorem pW (s : List aa) (hl : s.length <= 4194304) : nc [.x (aa.ls .n s)] = some ⟨[.one (iT (cK s))], []⟩ := by
 (refine Z6j rfl ?_; show Ev wj.code _ _ _)
 repeat' (first | refine yk gZ (kX s hl) ?_ | refine yt1 ?_ | refine yt0 ?_ | refine yt ?_ ?_ | refine yo ?_ | apply zn | refine yc ?_ | intro _)
 ·refine fin rfl (lX ?_)
  rename_i h
  have : cf s = false := by simpa using h
  rw [cK, if_neg (by simp [this])]
 ·rename_i h
  have hok : cf s = true := by simpa using h
  have hb : ∀ x ∈ s, 0 <= x.Lo /\ x.Lo <= x.Hi /\ x.Hi <= 9999 := fun x hx => Zit hok hx
  rw [cK, if_pos hok]
  refine bq (aa.el .n) s (fun i (n : Int) => [(0, .x (aa.ls .n s)), (3, .x (iT n)), (4, .x (iT i))]) (fun i n => n = bS (s.take i)) 0 (by simp [bS]) rfl ?_ ?_
  ·rintro i n x hx hlt hc _ rfl ih
   have h2 := Zk6 (s := s.take i) fun y hy => hb y (Y63 hy)
   have h3 := hb x (Y62 hx)
   rw [Y48] at h2
   have h4 : IntKind.i64.wrap (bS (s.take i) + x.Hi) = bS (s.take i) + x.Hi := w64 (by omega)
   have h5 : IntKind.i64.wrap (bS (s.take i) + x.Hi - x.Lo) = bS (s.take i) + x.Hi - x.Lo := w64 (by omega)
   have h6 : IntKind.i64.wrap (bS (s.take i) + x.Hi - x.Lo + 1) = bS (s.take (i + 1)) := by rw [Zk7 hx, w64 (by omega)]; omega
   repeat' (first | refine yi (aa.el .n x) (Zar hx) ?_ | refine yt1 ?_ | refine yt0 ?_ | refine yt ?_ ?_ | refine yo ?_ | apply zn | refine yc ?_ | intro _)
   refine ih _ rfl _ _ ?_
   rw [h4, h5, h6, aM (by omega)]; rfl
  ·rintro n hc _ rfl
   rw [Y72]
   repeat' (first | refine yt1 ?_ | refine yt0 ?_ | refine yt ?_ ?_ | refine yo ?_ | apply zn | refine yc ?_ | intro _)
   exact fin rfl rfl
theorem zG (s : List aa) (m : Int) (hl : s.length <= 4194304) : oN [.x (aa.ls .n s), .x (iT m)] = some ⟨[.one (.b (ez s 1 m))], []⟩ := by
 (refine Z6j rfl ?_; show Ev wk.code _ _ _)
 repeat' (first | refine yy ?_ | refine ym ?_ | (apply ze;(iterate 5 exact rfl)) | (apply zf;(iterate 5 exact rfl)) | refine yp ?_ | refine yk gZ (kX s hl) ?_ | refine yt1 ?_ | refine yt0 ?_ | refine yt ?_ ?_ | refine yo ?_ | apply zn | refine yc ?_ | exact rfl | intro _)
 ·refine fin rfl (bt ?_)
  rename_i h
  have : cf s = false := by simpa using h
  rw [ez, this]; rfl
 ·rename_i h
  have hok : cf s = true := by simpa using h
  rw [ez, hok, Y15]
  refine bq (aa.el .n) s (fun i (_ : Unit) => [(0, .x (aa.ls .n s)), (1, .x (iT m)), (5, .x (iT i))]) (fun i _ => (s.take i).all (fun x => decide (1 <= x.Lo) && decide (x.Hi <= m)) = true) () (by simp) rfl ?_ ?_
  ·rintro i _ x hx hlt hc _ hinv ih
   repeat' (first | refine yy ?_ | refine ym ?_ | (apply ze;(iterate 5 exact rfl)) | (apply zf;(iterate 5 exact rfl)) | refine yp ?_ | refine yi (aa.el .n x) (Zar hx) ?_ | refine yt1 ?_ | refine yt0 ?_ | refine yt ?_ ?_ | refine yo ?_ | apply zn | refine yc ?_ | exact rfl | intro _)
   ·refine fin rfl (bt ?_)
    rw [Zbs (p := fun x => decide (1 <= x.Lo) && decide (x.Hi <= m)) hx]
    rename_i h
    simp at h ⊢; omega
   ·refine ih () (Zkj (p := fun x => decide (1 <= x.Lo) && decide (x.Hi <= m)) hinv hx ?_) _ _ ?_
    ·rename_i h; simp at h ⊢; omega
    ·rw [aM (by omega)]; rfl
  ·rintro _ hc _ hinv
   rw [Zkl hinv]
   repeat' (first | refine yy ?_ | refine ym ?_ | (apply ze;(iterate 5 exact rfl)) | (apply zf;(iterate 5 exact rfl)) | refine yp ?_ | refine yt1 ?_ | refine yt0 ?_ | refine yt ?_ ?_ | refine yo ?_ | apply zn | refine yc ?_ | exact rfl | intro _)
   exact fin rfl rfl
theorem Za {s : List aa} {lo hi : Int} {a b : aa} (hok : cf s = true) (ha : s[0]? = some a) (hb : s[s.length - 1]? = some b) : ez s lo hi = (decide (a.Lo >= lo) && decide (b.Hi <= hi)) := by
 have h := (Ziv s).1 hok
 rw [ez, hok, Y15, Y7, Y18]
 simp only [Y2, decide_eq_true_eq]
 constructor
 ·exact fun h2 => ⟨(h2 a (Y62 ha)).1, (h2 b (Y62 hb)).2⟩
 ·rintro ⟨h1, h2⟩ x hx
  obtain ⟨i, hi⟩ := Y59.1 hx
  have hil := (Y36.1 hi).1
  have hp := Y68.1 h.ord
  constructor
  ·rcases Nat.eq_zero_or_pos i with rfl | h0
   ·rw [ha] at hi; cases hi; exact h1
   ·have := hp 0 i (by omega) hil h0
    rw [(Y36.1 ha).2, (Y36.1 hi).2] at this
    have h4 := h.lo a (Y62 ha)
    omega
  ·rcases Y79 i (s.length - 1) with h0 | h0
   ·have := hp i (s.length - 1) hil (by omega) h0
    rw [(Y36.1 hb).2, (Y36.1 hi).2] at this
    have h4 := h.lo b (Y62 hb)
    omega
   ·have : i = s.length - 1 := by omega
    subst this; rw [hb] at hi; cases hi; exact h2
theorem yH (s : List aa) (lo hi : Int) (hl : s.length <= 4194304) : pK [.x (aa.ls .n s), .x (iT lo), .x (iT hi)] = some ⟨[.one (.b (ez s lo hi))], []⟩ := by
 have kY := nn s hl
 cases hok : cf s with
 | false =>
  rw [hok] at kY
  have h1 : false = !true := rfl
  have h2 : false = false := rfl
  (refine Z6j rfl ?_; show Ev pJ.code _ _ _)
  repeat' (first | refine yy ?_ | refine ym ?_ | (apply ze;(iterate 5 exact rfl)) | (apply zf;(iterate 5 exact rfl)) | refine yp ?_ | refine yk ig (kY) ?_ | refine yo ?_ | apply zn | refine yc ?_ | exact rfl | intro _)
  refine fin rfl (bt ?_)
  rw [ez, hok]; rfl
 | true =>
  rw [hok] at kY
  have h1 : true = true := rfl
  rcases Nat.eq_zero_or_pos s.length with h0 | h0
  ·obtain rfl := List.eq_nil_of_length_eq_zero h0
   have h2 : (((([] : List aa).map (aa.el .n)).length : Int) == 0) = !false := rfl
   have h3 : (((([] : List aa).map (aa.el .n)).length : Int) == 0) = true := rfl
   (refine Z6j rfl ?_; show Ev pJ.code _ _ _)
   repeat' (first | refine yy ?_ | refine ym ?_ | (apply ze;(iterate 5 exact rfl)) | (apply zf;(iterate 5 exact rfl)) | refine yp ?_ | refine yk ig (kY) ?_ | refine yo ?_ | apply zn | refine yc ?_ | exact rfl | intro _)
   exact fin rfl rfl
  ·have h2 : (((s.map (aa.el .n)).length : Int) == 0) = false := by
    have : ((s.length : Int) == 0) = false := by rw [beq_eq_false_iff_ne]; omega
    rwa [Y45]
   have ha := Y34 (show 0 < s.length by omega)
   have hb := Y34 (show s.length - 1 < s.length by omega)
   generalize s[0]'_ = a at ha
   generalize s[s.length - 1]'_ = b at hb
   have hk : IntKind.i64.wrap (((s.map (aa.el .n)).length : Int) - 1) = ((s.length - 1 : Nat) : Int) := by rw [Y45, w64 (by omega)]; omega
   have hk0 : 0 <= IntKind.i64.wrap (((s.map (aa.el .n)).length : Int) - 1) := by rw [hk]; omega
   have hkp : (s.map (aa.el .n))[(IntKind.i64.wrap (((s.map (aa.el .n)).length : Int) - 1)).toNat]? = some (aa.el .n b) := by rw [hk]; exact Zar hb
   (refine Z6j rfl ?_; show Ev pJ.code _ _ _)
   repeat' (first | refine yy ?_ | refine ym ?_ | (apply ze;(iterate 5 exact rfl)) | (apply zf;(iterate 5 exact rfl)) | refine yp ?_ | refine yk ig (kY) ?_ | refine yj (aa.el .n b) (hk0) (hkp) ?_ | refine yj (aa.el .n a) (Int.le_refl _) (Zar ha) ?_ | refine yo ?_ | apply zn | refine yc ?_ | exact rfl | intro _)
   refine fin rfl (bt ?_)
   rw [Za hok ha hb]
end Go.Wr
namespace Go.Wr
set_option maxRecDepth 20000
theorem Kh (a b : List aa) (ha : a.length <= 4194304) (hb : b.length <= 4194304) : Bd [.x (aa.ls .n a), .x (aa.ls .n b)] = some ⟨[.one (.b (cD a b))], []⟩ := by
 (refine Z6j rfl ?_; show Ev Bc.code _ _ _)
 repeat' (first | refine yy ?_ | refine ym ?_ | (apply ze;(iterate 5 exact rfl)) | (apply zf;(iterate 5 exact rfl)) | refine yp ?_ | refine yk ig (nn a ha) ?_ | refine yk ig (nn b hb) ?_ | refine yt1 ?_ | refine yt0 ?_ | refine yt ?_ ?_ | refine yo ?_ | apply zn | refine yc ?_ | exact rfl | intro _)
 ·refine fin rfl (bt ?_)
  rename_i h
  rw [cD]; revert h; cases cf a <;> cases cf b <;> simp
 ·rename_i h
  have hok : (cf a && cf b) = true := by revert h; cases cf a <;> cases cf b <;> simp
  rw [cD, hok, Y15]
  refine bq (aa.el .n) a (fun i (_ : Unit) => [(1, .x (aa.ls .n b)), (17, .x (aa.ls .n a)), (18, .x (iT (a.map (aa.el .n)).length)), (19, .x (iT i))]) (fun i _ => (a.take i).all (fun x => b.all fun y => cA x y) = true) () (by simp) rfl ?_ ?_
  ·rintro i _ x hx hlt _ hc hinv ih
   repeat' (first | refine yy ?_ | refine ym ?_ | (apply ze;(iterate 5 exact rfl)) | (apply zf;(iterate 5 exact rfl)) | refine yp ?_ | refine yi (aa.el .n x) (Zar hx) ?_ | refine yt1 ?_ | refine yt0 ?_ | refine yt ?_ ?_ | refine yo ?_ | apply zn | refine yc ?_ | exact rfl | intro _)
   refine bq (aa.el .n) b (fun k (_ : Unit) => [(1, .x (aa.ls .n b)), (6, .box ⟨0, 0, 0⟩ (x.cs .n)), (17, .x (aa.ls .n a)), (18, .x (iT (a.map (aa.el .n)).length)), (19, .x (iT i)), (23, .x (aa.ls .n b)), (24, .x (iT (b.map (aa.el .n)).length)), (25, .x (iT k))]) (fun k _ => (b.take k).all (fun y => cA x y) = true) () (by simp) rfl ?_ ?_
   ·rintro k _ y hy eW _ hc aV ih2
    repeat' (first | refine yy ?_ | refine ym ?_ | (apply ze;(iterate 5 exact rfl)) | (apply zf;(iterate 5 exact rfl)) | refine yp ?_ | refine yi (aa.el .n y) (Zar hy) ?_ | refine yt1 ?_ | refine yt0 ?_ | refine yt ?_ ?_ | refine yo ?_ | apply zn | refine yc ?_ | exact rfl | intro _)
    ·refine fin rfl (bt ?_)
     rw [Zbs (p := fun x => b.all fun y => cA x y) hx (Zbs (p := fun y => cA x y) hy ?_)]
     rename_i h
     rw [cA, h]; rfl
    ·refine ih2 () (Zkj (p := fun y => cA x y) aV hy ?_) _ _ ?_
     ·rename_i h; rw [cA, h]; rfl
     ·rw [aM (by omega)]; rfl
   ·rintro _ _ hc aV
    repeat' (first | refine yy ?_ | refine ym ?_ | (apply ze;(iterate 5 exact rfl)) | (apply zf;(iterate 5 exact rfl)) | refine yp ?_ | refine yt1 ?_ | refine yt0 ?_ | refine yt ?_ ?_ | refine yo ?_ | apply zn | refine yc ?_ | exact rfl | intro _)
    refine ih () (Zkj (p := fun x => b.all fun y => cA x y) hinv hx (Zkl aV)) _ _ ?_
    rw [aM (by omega)]; rfl
  ·rintro _ _ hc hinv
   rw [Zkl hinv]
   repeat' (first | refine yy ?_ | refine ym ?_ | (apply ze;(iterate 5 exact rfl)) | (apply zf;(iterate 5 exact rfl)) | refine yp ?_ | refine yt1 ?_ | refine yt0 ?_ | refine yt ?_ ?_ | refine yo ?_ | apply zn | refine yc ?_ | exact rfl | intro _)
   exact fin rfl rfl
theorem zH (a b : List aa) (ha : a.length <= 4194304) (hb : b.length <= 4194304) : oG [.x (aa.ls .n a), .x (aa.ls .n b)] = some ⟨[.one (.b (cD a b))], []⟩ := by
 (refine Z6j rfl ?_; show Ev vW.code _ _ _)
 repeat' (first | refine yy ?_ | refine ym ?_ | (apply ze;(iterate 5 exact rfl)) | (apply zf;(iterate 5 exact rfl)) | refine yp ?_ | refine yk gZ (kX a ha) ?_ | refine yk gZ (kX b hb) ?_ | refine yt1 ?_ | refine yt0 ?_ | refine yt ?_ ?_ | refine yo ?_ | apply zn | refine yc ?_ | exact rfl | intro _)
 ·refine fin rfl (bt ?_)
  rename_i h
  rw [cD]; revert h; cases cf a <;> cases cf b <;> simp
 ·rename_i h
  have hok : (cf a && cf b) = true := by revert h; cases cf a <;> cases cf b <;> simp
  rw [cD, hok, Y15]
  refine bq (aa.el .n) a (fun i (_ : Unit) => [(0, .x (aa.ls .n a)), (1, .x (aa.ls .n b)), (5, .x (iT i))]) (fun i _ => (a.take i).all (fun x => b.all fun y => cA x y) = true) () (by simp) rfl ?_ ?_
  ·rintro i _ x hx hlt hc _ hinv ih
   repeat' (first | refine yy ?_ | refine ym ?_ | (apply ze;(iterate 5 exact rfl)) | (apply zf;(iterate 5 exact rfl)) | refine yp ?_ | refine yi (aa.el .n x) (Zar hx) ?_ | refine yt1 ?_ | refine yt0 ?_ | refine yt ?_ ?_ | refine yo ?_ | apply zn | refine yc ?_ | exact rfl | intro _)
   refine bq (aa.el .n) b (fun k (_ : Unit) => [(0, .x (aa.ls .n a)), (1, .x (aa.ls .n b)), (5, .x (iT i)), (6, .x (iT k))]) (fun k _ => (b.take k).all (fun y => cA x y) = true) () (by simp) rfl ?_ ?_
   ·rintro k _ y hy eW hc _ aV ih2
    repeat' (first | refine yy ?_ | refine ym ?_ | (apply ze;(iterate 5 exact rfl)) | (apply zf;(iterate 5 exact rfl)) | refine yp ?_ | refine yi (aa.el .n x) (Zar hx) ?_ | refine yi (aa.el .n y) (Zar hy) ?_ | refine yt1 ?_ | refine yt0 ?_ | refine yt ?_ ?_ | refine yo ?_ | apply zn | refine yc ?_ | exact rfl | intro _)
    ·refine fin rfl (bt ?_)
     rw [Zbs (p := fun x => b.all fun y => cA x y) hx (Zbs (p := fun y => cA x y) hy ?_)]
     rename_i h
     rw [cA, h]; rfl
    ·refine ih2 () (Zkj (p := fun y => cA x y) aV hy ?_) _ _ ?_
     ·rename_i h; rw [cA, h]; rfl
     ·rw [aM (by omega)]; rfl
   ·rintro _ hc _ aV
    repeat' (first | refine yy ?_ | refine ym ?_ | (apply ze;(iterate 5 exact rfl)) | (apply zf;(iterate 5 exact rfl)) | refine yp ?_ | refine yt1 ?_ | refine yt0 ?_ | refine yt ?_ ?_ | refine yo ?_ | apply zn | refine yc ?_ | exact rfl | intro _)
    refine ih () (Zkj (p := fun x => b.all fun y => cA x y) hinv hx (Zkl aV)) _ _ ?_
    rw [aM (by omega)]; rfl
  ·rintro _ hc _ hinv
   rw [Zkl hinv]
   repeat' (first | refine yy ?_ | refine ym ?_ | (apply ze;(iterate 5 exact rfl)) | (apply zf;(iterate 5 exact rfl)) | refine yp ?_ | refine yt1 ?_ | refine yt0 ?_ | refine yt ?_ ?_ | refine yo ?_ | apply zn | refine yc ?_ | exact rfl | intro _)
   exact fin rfl rfl
end Go.Wr
namespace Go.Wr
set_option maxRecDepth 20000
theorem Zo {es : List T} {α : Type} {f : α -> T} {l : List α} (h : es.length + l.length <= 4194304) : es.length + (l.map f).length < aS := by simp [aS]; omega
theorem o6 (h : ao) (hl : h.ae <= 4000000) : pL [.st (h.cs .n)] = some ⟨[.one (.l .y 10 ((dx h).map (ab.el .n)))], []⟩ := by
 have hb := Zgr h
 simp only [ao.ae] at hl
 have hr := Z1t (aF ai.ae) h.Rows
 (refine Z6j rfl ?_; show Ev Bx.code _ _ _)
 repeat' (first | refine yt1 ?_ | refine yt0 ?_ | refine yt ?_ ?_ | refine yo ?_ | apply zn | refine yc ?_ | intro _)
 refine bq (ai.ls .n) h.Rows (fun i (es : List T) => [(1, .box ⟨0, 0, 0⟩ (h.cs .n)), (3, .own ⟨0, 0, 0⟩ (.l .y 10 es)), (9, .x (ai.lss .n h.Rows)), (10, .x (iT (h.Rows.map (ai.ls .n)).length)), (11, .x (iT i))]) (fun i es => es = (((h.Rows.take i).map gq).flatten).map (ab.el .n)) [] (by simp) rfl ?_ ?_
 ·rintro i es rs hx hlt hc _ hinv ih
  have hb1 := Z5o (f := gq) hx
  rw [<- Zgq] at hb1
  have hr1 := Z1v (f := aF ai.ae) hx
  have hr2 := Z1t ai.ae rs
  repeat' (first | refine yi (ai.ls .n rs) (Zar hx) ?_ | refine yt1 ?_ | refine yt0 ?_ | refine yt ?_ ?_ | refine yo ?_ | apply zn | refine yc ?_ | intro _)
  refine bq (ai.el .n) rs (fun k (fs : List T) => [(1, .box ⟨0, 0, 0⟩ (h.cs .n)), (3, .own ⟨0, 0, 0⟩ (.l .y 10 fs)), (5, .x (ai.ls .n rs)), (9, .x (ai.lss .n h.Rows)), (10, .x (iT (h.Rows.map (ai.ls .n)).length)), (11, .x (iT i)), (15, .x (ai.ls .n rs)), (16, .x (iT (rs.map (ai.el .n)).length)), (17, .x (iT k))]) (fun k fs => fs = es ++ (((rs.take k).map ai.Lst).flatten).map (ab.el .n)) es (by simp) rfl ?_ ?_
  ·rintro k fs r hy eW hc2 _ aV ih2
   have hb2 := Z5o (f := ai.Lst) hy
   have hlen : fs.length + r.Lst.length <= 4194304 := by
    have hb3 : (gq rs).length = (rs.map ai.Lst).flatten.length := rfl
    rw [aV, hinv, Y41, Y45, Y45]; omega
   repeat' (first | refine yi (ai.el .n r) (Zar hy) ?_ | (apply zvn;(iterate 8 exact rfl);exact (Zo hlen);exact rfl;exact rfl) | refine yt1 ?_ | refine yt0 ?_ | refine yt ?_ ?_ | refine yo ?_ | apply zn | refine yc ?_ | intro _)
   refine ih2 (fs ++ r.Lst.map (ab.el .n)) ?_ _ _ ?_
   ·rw [aV, Z5u hy, Y49, Y21]
   ·rw [aM (by omega)]; rfl
  ·rintro fs hc2 _ aV
   repeat' (first | refine yt1 ?_ | refine yt0 ?_ | refine yt ?_ ?_ | refine yo ?_ | apply zn | refine yc ?_ | intro _)
   refine ih fs ?_ _ _ ?_
   ·rw [aV, hinv, Z5u hx, Y49, Y72]; rfl
   ·rw [aM (by omega)]; rfl
 ·rintro es hc _ hinv
  rw [Y72, <- Zgq] at hinv
  subst hinv
  repeat' (first | refine yt1 ?_ | refine yt0 ?_ | refine yt ?_ ?_ | refine yo ?_ | apply zn | refine yc ?_ | intro _)
  exact fin rfl (by simp only [Zk0])
theorem o7 (h : ao) (hl : h.ae <= 4000000) : nP [.st (h.cs .n)] = some ⟨[.one (.l .y 10 ((ct h).map (ab.el .n)))], []⟩ := by
 simp only [ao.ae] at hl
 have hr := Z1t ab.ae h.aH
 have hr2 := Z1t ay.ae h.aY
 (refine Z6j rfl ?_; show Ev A5.code _ _ _)
 repeat' (first | (apply zan;(iterate 4 exact rfl);exact (Zp (show h.aH.length <= 4194304 by omega));exact rfl;exact rfl) | refine yt1 ?_ | refine yt0 ?_ | refine yt ?_ ?_ | refine yo ?_ | apply zn | refine yc ?_ | intro _)
 refine bq (ay.el .n) h.aY (fun i (es : List T) => [(1, .box ⟨0, 0, 0⟩ (h.cs .n)), (3, .own ⟨0, 0, 0⟩ (.l .y 10 es)), (10, .x (ay.ls .n h.aY)), (11, .x (iT (h.aY.map (ay.el .n)).length)), (12, .x (iT i))]) (fun i es => es = (h.aH ++ (h.aY.take i).map ay.aL).map (ab.el .n)) (h.aH.map (ab.el .n)) (by simp) rfl ?_ ?_
 ·rintro i es x hx hlt hc _ hinv ih
  have hlen : es.length + [x.aL].length <= 4194304 := by
   rw [hinv, Y45, Y41, Y45, Y48]; simp; omega
  repeat' (first | refine yi (ay.el .n x) (Zar hx) ?_ | (apply zV;(iterate 8 exact rfl);exact (Zo (f := ab.el .n) hlen);exact (rfl);exact (Zo (f := ab.el .n) hlen);exact rfl;exact rfl) | refine yt1 ?_ | refine yt0 ?_ | refine yt ?_ ?_ | refine yo ?_ | apply zn | refine yc ?_ | intro _)
  refine ih (es ++ [ab.el .n x.aL]) ?_ _ _ ?_
  ·rw [hinv, Zat hx]; simp
  ·rw [aM (by omega)]; rfl
 ·rintro es hc _ hinv
  rw [Y72] at hinv
  subst hinv
  repeat' (first | refine yt1 ?_ | refine yt0 ?_ | refine yt ?_ ?_ | refine yo ?_ | apply zn | refine yc ?_ | intro _)
  exact fin rfl (by simp only [Zk0]; rfl)
theorem pX (h : ao) (hl : h.ae <= 4000000) : mY [.st (h.cs .n)] = some ⟨[.one (.l .y 10 ((dx h ++ ct h).map (ab.el .n)))], []⟩ := by
 have hb := Zgr h
 simp only [ao.ae] at hl
 have hr := Z1t (aF ai.ae) h.Rows
 have hro := Z1t ab.ae h.aH
 have hou := Z1t ay.ae h.aY
 (refine Z6j rfl ?_; show Ev vX.code _ _ _)
 repeat' (first | refine yt1 ?_ | refine yt0 ?_ | refine yt ?_ ?_ | refine yo ?_ | apply zn | refine yc ?_ | intro _)
 refine bq (ai.ls .n) h.Rows (fun i (es : List T) => [(1, .box ⟨0, 0, 0⟩ (h.cs .n)), (3, .own ⟨0, 0, 0⟩ (.l .y 10 es)), (4, .x (iT i))]) (fun i es => es = (((h.Rows.take i).map gq).flatten).map (ab.el .n)) [] (by simp) rfl ?_ ?_
 ·rintro i es rs hx hlt hc _ hinv ih
  have hb1 := Z5o (f := gq) hx
  rw [<- Zgq] at hb1
  have hr1 := Z1v (f := aF ai.ae) hx
  have hr2 := Z1t ai.ae rs
  repeat' (first | refine yt1 ?_ | refine yt0 ?_ | refine yt ?_ ?_ | refine yo ?_ | apply zn | refine yc ?_ | intro _)
  refine bq (ai.el .n) rs (fun k (fs : List T) => [(1, .box ⟨0, 0, 0⟩ (h.cs .n)), (3, .own ⟨0, 0, 0⟩ (.l .y 10 fs)), (4, .x (iT i)), (5, .x (iT k))]) (fun k fs => fs = es ++ (((rs.take k).map ai.Lst).flatten).map (ab.el .n)) es (by simp) rfl ?_ ?_
  ·rintro k fs r hy eW hc2 _ aV ih2
   have hb2 := Z5o (f := ai.Lst) hy
   have hlen : fs.length + r.Lst.length <= 4194304 := by
    have hb3 : (gq rs).length = (rs.map ai.Lst).flatten.length := rfl
    rw [aV, hinv, Y41, Y45, Y45]; omega
   repeat' (first | refine yi (ai.ls .n rs) (Zar hx) ?_ | refine yi (ai.el .n r) (Zar hy) ?_ | (apply zvn;(iterate 8 exact rfl);exact (Zo hlen);exact rfl;exact rfl) | refine yt1 ?_ | refine yt0 ?_ | refine yt ?_ ?_ | refine yo ?_ | apply zn | refine yc ?_ | intro _)
   refine ih2 (fs ++ r.Lst.map (ab.el .n)) ?_ _ _ ?_
   ·rw [aV, Z5u hy, Y49, Y21]
   ·rw [aM (by omega)]; rfl
  ·rintro fs hc2 _ aV
   repeat' (first | refine yi (ai.ls .n rs) (Zar hx) ?_ | refine yt1 ?_ | refine yt0 ?_ | refine yt ?_ ?_ | refine yo ?_ | apply zn | refine yc ?_ | intro _)
   refine ih fs ?_ _ _ ?_
   ·rw [aV, hinv, Z5u hx, Y49, Y72]; rfl
   ·rw [aM (by omega)]; rfl
 ·rintro es hc _ hinv
  rw [Y72, <- Zgq] at hinv
  have hlen : es.length + h.aH.length <= 4194304 := by rw [hinv, Y45]; omega
  repeat' (first | (apply zvn;(iterate 8 exact rfl);exact (Zo hlen);exact rfl;exact rfl) | refine yt1 ?_ | refine yt0 ?_ | refine yt ?_ ?_ | refine yo ?_ | apply zn | refine yc ?_ | intro _)
  refine bq (ay.el .n) h.aY (fun i (fs : List T) => [(1, .box ⟨0, 0, 0⟩ (h.cs .n)), (3, .own ⟨0, 0, 0⟩ (.l .y 10 fs)), (6, .x (iT i))]) (fun i fs => fs = es ++ (h.aH ++ (h.aY.take i).map ay.aL).map (ab.el .n)) (es ++ h.aH.map (ab.el .n)) (by simp) rfl ?_ ?_
  ·rintro i fs x hx hlt hc _ aV ih
   have hlen : fs.length + [x.aL].length <= 4194304 := by
    rw [aV, hinv, Y41, Y45, Y45, Y41, Y45, Y48]; simp; omega
   repeat' (first | refine yi (ay.el .n x) (Zar hx) ?_ | (apply zV;(iterate 8 exact rfl);exact (Zo (f := ab.el .n) hlen);exact (rfl);exact (Zo (f := ab.el .n) hlen);exact rfl;exact rfl) | refine yt1 ?_ | refine yt0 ?_ | refine yt ?_ ?_ | refine yo ?_ | apply zn | refine yc ?_ | intro _)
   refine ih (fs ++ [ab.el .n x.aL]) ?_ _ _ ?_
   ·rw [aV, Zat hx]; simp
   ·rw [aM (by omega)]; rfl
  ·rintro fs hc _ aV
   rw [Y72] at aV
   subst aV hinv
   repeat' (first | refine yt1 ?_ | refine yt0 ?_ | refine yt ?_ ?_ | refine yo ?_ | apply zn | refine yc ?_ | intro _)
   exact fin rfl (by simp only [Zk0, ct, Y49])
end Go.Wr

