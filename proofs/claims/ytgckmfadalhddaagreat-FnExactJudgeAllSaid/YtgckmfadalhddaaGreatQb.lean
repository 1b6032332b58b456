/-
  What is proved: lemmas on the way to the laws of this seat. No condition.
-/
import Derived.Test.YtgckmfadalhddaaGreatQa
import Derived.Test.YtgckmfadalhddaaGreatRe
set_option linter.unusedVariables false
set_option linter.unusedSimpArgs false
namespace Go.Wr
set_option maxRecDepth 20000
theorem qv_eq (a b : GEntry) : F_qv [.st (a.cs .n), .st (b.cs .n)] = some ⟨[.one (.b (aheadE a b))], []⟩ := by
 (refine fun_ev rfl ?_; show Ev m_qv.code _ _ _)
 repeat' (first | refine yy ?_ | refine ym ?_ | (apply ze;(iterate 5 exact rfl)) | (apply zf;(iterate 5 exact rfl)) | refine yp ?_ | refine yo ?_ | apply zn | refine yc ?_ | exact rfl | intro _)
 exact fin rfl rfl
theorem qu_eq (t : GTurn) (hl : t.bulk <= 4000000) : F_qu [.st (t.cs .n)] = some ⟨[.one (.b t.ok)], []⟩ := by
 have hl2 : t.Left.length <= 4194304 := by simp only [GTurn.bulk] at hl; omega
 (refine fun_ev rfl ?_; show Ev m_qu.code _ _ _)
 repeat' (first | refine yy ?_ | refine ym ?_ | (apply ze;(iterate 5 exact rfl)) | (apply zf;(iterate 5 exact rfl)) | refine yp ?_ | refine yk g_q2 (q2_eq _ _ _) ?_ | refine yk g_qo (qo_eq t.Left _ _ _ hl2) ?_ | refine yo ?_ | apply zn | refine yc ?_ | exact rfl | intro _)
 refine fin rfl (outB ?_)
 have e : decide ((t.Left.length : Int) = 3) = decide (t.Left.length = 3) := iN3 _
 rw [GTurn.ok, numsOk, <- e]
theorem q3v_eq (t : GTurn) (hl : t.bulk <= 4000000) : F_q3v [.st (t.cs .n)] = some ⟨[.one (.b t.ok)], []⟩ := by
 have hl2 : t.Left.length <= 4194304 := by simp only [GTurn.bulk] at hl; omega
 (refine fun_ev rfl ?_; show Ev m_q3v.code _ _ _)
 repeat' (first | refine yy ?_ | refine ym ?_ | (apply ze;(iterate 5 exact rfl)) | (apply zf;(iterate 5 exact rfl)) | refine yp ?_ | refine yk g_q3c (q3c_eq _) ?_ | refine yk g_q3g (q3g_eq t.Left _ _ hl2) ?_ | refine yo ?_ | apply zn | refine yc ?_ | exact rfl | intro _)
 exact fin rfl rfl
theorem seat_wrap {s : GSeat} {per : Int} (h1 : inB per 1 8 = true) (h2 : inB s.Merged 0 (setSize s.Taken) = true) (hl : s.bulk <= 4000000) : IntKind.i64.wrap (s.Merged + per) = s.Merged + per := by
 simp only [inB, Bool.and_eq_true, decide_eq_true_eq] at h1 h2
 have h3 : setSize s.Taken <= 10000 * 4000000 := by
  unfold setSize
  split
  ·rename_i h
   have := sumSpan_bnd fun x hx => setOk_bnd h hx
   simp only [GSeat.bulk] at hl
   omega
  ·omega
 rw [w64 (by omega)]
theorem qt_eq (s : GSeat) (per : Int) (hl : s.bulk <= 4000000) : F_qt [.st (s.cs .n), .x (iT per)] = some ⟨[.one (.b (s.ok per))], []⟩ := by
 have hl2 : s.Taken.length <= 4194304 := by simp only [GSeat.bulk] at hl; omega
 (refine fun_ev rfl ?_; show Ev m_qt.code _ _ _)
 repeat' (first | refine yy ?_ | refine ym ?_ | (apply ze;(iterate 5 exact rfl)) | (apply zf;(iterate 5 exact rfl)) | refine yp ?_ | refine yk g_q2 (q2_eq _ _ _) ?_ | refine yk g_q6 (q6_eq s.Taken _ _ hl2) ?_ | refine yk g_qs (qs_eq s.Taken hl2) ?_ | refine yo ?_ | apply zn | refine yc ?_ | exact rfl | intro _)
 refine fin rfl (outB ?_)
 rw [GSeat.ok]
 cases h1 : inB per 1 8
 ·simp
 ·cases h2 : inB s.Merged 0 (setSize s.Taken)
  ·simp
  ·rw [seat_wrap h1 h2 hl]
theorem q3u_eq (s : GSeat) (per : Int) (hl : s.bulk <= 4000000) : F_q3u [.st (s.cs .n), .x (iT per)] = some ⟨[.one (.b (s.ok per))], []⟩ := by
 have hl2 : s.Taken.length <= 4194304 := by simp only [GSeat.bulk] at hl; omega
 (refine fun_ev rfl ?_; show Ev m_q3u.code _ _ _)
 repeat' (first | refine yy ?_ | refine ym ?_ | (apply ze;(iterate 5 exact rfl)) | (apply zf;(iterate 5 exact rfl)) | refine yp ?_ | refine yk g_q37 (q37_eq _ _ _) ?_ | refine yk g_q3e (q3e_eq s.Taken _ hl2) ?_ | refine yk g_q3t (q3t_eq s.Taken hl2) ?_ | refine yo ?_ | apply zn | refine yc ?_ | exact rfl | intro _)
 refine fin rfl (outB ?_)
 rw [GSeat.ok]
 cases h1 : inB per 1 8
 ·simp
 ·cases h2 : inB s.Merged 0 (setSize s.Taken)
  ·simp
  ·rw [seat_wrap h1 h2 hl]
theorem told_succ {l : List GOut} {i : Nat} {x : GOut} {k w : Int} (h : l[i]? = some x) : toldN (l.take (i + 1)) k w = toldN (l.take i) k w + (if x.Entry.Key == k && x.Entry.Window == w then 1 else 0) := by
 unfold toldN; rw [List.take_add_one, h]; simp [List.countP_cons]
theorem told_le (l : List GOut) (i : Nat) (k w : Int) : toldN (l.take i) k w <= i := Nat.le_trans List.countP_le_length (by rw [List.length_take]; omega)
theorem qy_eq (l : List GOut) (k w : Int) (hl : l.length <= 4194304) : F_qy [.x (GOut.ls .n l), .x (iT k), .x (iT w)] = some ⟨[.one (iT (toldN l k w))], []⟩ := by
 (refine fun_ev rfl ?_; show Ev m_qy.code _ _ _)
 repeat' (first | refine yy ?_ | refine ym ?_ | (apply ze;(iterate 5 exact rfl)) | (apply zf;(iterate 5 exact rfl)) | refine yp ?_ | refine yt1 ?_ | refine yt0 ?_ | refine yt ?_ ?_ | refine yo ?_ | apply zn | refine yc ?_ | exact rfl | intro _)
 refine zfor (GOut.el .n) l (fun i (n : Nat) => [(1, .x (iT k)), (2, .x (iT w)), (7, .x (iT n)), (10, .x (GOut.ls .n l)), (11, .x (iT (l.map (GOut.el .n)).length)), (12, .x (iT i))]) (fun i n => n = toldN (l.take i) k w) 0 rfl rfl ?_ ?_
 ·rintro i n x hx hlt hc _ hinv ih
  have hn := told_le l i k w
  repeat' (first | refine yy ?_ | refine ym ?_ | (apply ze;(iterate 5 exact rfl)) | (apply zf;(iterate 5 exact rfl)) | refine yp ?_ | refine yi (GOut.el .n x) (map_at hx) ?_ | refine yt1 ?_ | refine yt0 ?_ | refine yt ?_ ?_ | refine yo ?_ | apply zn | refine yc ?_ | exact rfl | intro _)
  ·rename_i h
   refine ih (n + 1) ?_ _ _ ?_
   ·rw [hinv, told_succ hx, h]; rfl
   ·rw [w64s (by omega), w64s (by omega)]; rfl
  ·rename_i h
   refine ih n ?_ _ _ ?_
   ·rw [hinv, told_succ hx, h]; rfl
   ·rw [w64s (by omega)]; rfl
 ·rintro n hc _ hinv
  rw [List.take_length] at hinv
  subst hinv
  repeat' (first | refine yy ?_ | refine ym ?_ | (apply ze;(iterate 5 exact rfl)) | (apply zf;(iterate 5 exact rfl)) | refine yp ?_ | refine yt1 ?_ | refine yt0 ?_ | refine yt ?_ ?_ | refine yo ?_ | apply zn | refine yc ?_ | exact rfl | intro _)
  exact fin rfl rfl
theorem q3y_eq (l : List GOut) (k w : Int) (hl : l.length <= 4194304) : F_q3y [.x (GOut.ls .n l), .x (iT k), .x (iT w)] = some ⟨[.one (iT (toldN l k w))], []⟩ := by
 (refine fun_ev rfl ?_; show Ev m_q3y.code _ _ _)
 repeat' (first | refine yy ?_ | refine ym ?_ | (apply ze;(iterate 5 exact rfl)) | (apply zf;(iterate 5 exact rfl)) | refine yp ?_ | refine yt1 ?_ | refine yt0 ?_ | refine yt ?_ ?_ | refine yo ?_ | apply zn | refine yc ?_ | exact rfl | intro _)
 refine zfor (GOut.el .n) l (fun i (n : Nat) => [(0, .x (GOut.ls .n l)), (1, .x (iT k)), (2, .x (iT w)), (7, .x (iT n)), (8, .x (iT i))]) (fun i n => n = toldN (l.take i) k w) 0 rfl rfl ?_ ?_
 ·rintro i n x hx hlt hc _ hinv ih
  have hn := told_le l i k w
  repeat' (first | refine yy ?_ | refine ym ?_ | (apply ze;(iterate 5 exact rfl)) | (apply zf;(iterate 5 exact rfl)) | refine yp ?_ | refine yi (GOut.el .n x) (map_at hx) ?_ | refine yk g_q3x (q3x_eq _) ?_ | refine yt1 ?_ | refine yt0 ?_ | refine yt ?_ ?_ | refine yo ?_ | apply zn | refine yc ?_ | exact rfl | intro _)
  refine ih (n + if x.Entry.Key == k && x.Entry.Window == w then 1 else 0) ?_ _ _ ?_
  ·rw [hinv, told_succ hx]
  ·have : IntKind.i64.wrap (n + if (x.Entry.Key == k && x.Entry.Window == w) = true then 1 else 0) = ((n + if (x.Entry.Key == k && x.Entry.Window == w) = true then 1 else 0 : Nat) : Int) := by
    rw [w64 (by split <;> omega)]; split <;> simp
   rw [w64s (by omega), <- this]; rfl
 ·rintro n hc _ hinv
  rw [List.take_length] at hinv
  subst hinv
  repeat' (first | refine yy ?_ | refine ym ?_ | (apply ze;(iterate 5 exact rfl)) | (apply zf;(iterate 5 exact rfl)) | refine yp ?_ | refine yt1 ?_ | refine yt0 ?_ | refine yt ?_ ?_ | refine yo ?_ | apply zn | refine yc ?_ | exact rfl | intro _)
  exact fin rfl rfl
theorem q41_eq (a b : List GSpan) (hl : a.length <= 4194304) : F_q41 [.x (GSpan.ls .n a), .x (GSpan.ls .n b)] = some ⟨[.one (.b (decide (a = b)))], []⟩ := by
 (refine fun_ev rfl ?_; show Ev m_q41.code _ _ _)
 repeat' (first | refine yt1 ?_ | refine yt0 ?_ | refine yt ?_ ?_ | refine yo ?_ | apply zn | refine yc ?_ | intro _)
 ·refine fin rfl (outB ?_)
  rename_i h
  have h2 : a ≠ b := ne_len h
  simp [h2]
 ·have hlen : a.length = b.length := by rename_i h; exact eq_len h
  refine zfor (GSpan.el .n) a (fun i (_ : Unit) => [(0, .x (GSpan.ls .n a)), (1, .x (GSpan.ls .n b)), (5, .x (iT i))]) (fun i _ => a.take i = b.take i) () (by simp) rfl ?_ ?_
  ·rintro i _ x hx hlt hc _ hinv ih
   have hy := List.getElem?_eq_getElem (show i < b.length by omega)
   generalize b[i]'(by omega) = y at hy
   repeat' (first | refine yi (GSpan.el .n x) (map_at hx) ?_ | refine yi (GSpan.el .n y) (map_at hy) ?_ | refine yt1 ?_ | refine yt0 ?_ | refine yt ?_ ?_ | refine yo ?_ | apply zn | refine yc ?_ | intro _)
   ·rename_i h
    have h2 : a ≠ b := ne_at hx hy (by intro e; subst e; simp at h)
    exact fin rfl (outB (by simp [h2]))
   ·rename_i h
    have hxy : x = y := by rcases x with ⟨x1, x2⟩; rcases y with ⟨y1, y2⟩; simpa using h
    refine ih () (eq_step hinv hx (hxy ▸ hy)) _ _ ?_
    rw [w64s (by omega)]; rfl
  ·rintro _ hc _ hinv
   repeat' (first | refine yt1 ?_ | refine yt0 ?_ | refine yt ?_ ?_ | refine yo ?_ | apply zn | refine yc ?_ | intro _)
   refine fin rfl (outB ?_)
   simp [eq_end hinv hlen (Nat.le_refl _)]
theorem qz_eq (a b : List GSpan) (hl : a.length <= 4194304) : F_qz [.x (GSpan.ls .n a), .x (GSpan.ls .n b)] = some ⟨[.one (.b (decide (a = b)))], []⟩ := by
 (refine fun_ev rfl ?_; show Ev m_qz.code _ _ _)
 repeat' (first | refine yt1 ?_ | refine yt0 ?_ | refine yt ?_ ?_ | refine yo ?_ | apply zn | refine yc ?_ | intro _)
 ·refine fin rfl (outB ?_)
  rename_i h
  have h2 : a ≠ b := ne_len h
  simp [h2]
 ·have hlen : a.length = b.length := by rename_i h; exact eq_len h
  refine zfor (GSpan.el .n) a (fun i (_ : Unit) => [(0, .x (GSpan.ls .n a)), (1, .x (GSpan.ls .n b)), (12, .x (iT (a.map (GSpan.el .n)).length)), (13, .x (iT i))]) (fun i _ => a.take i = b.take i) () (by simp) rfl ?_ ?_
  ·rintro i _ x hx hlt hc _ hinv ih
   have hy := List.getElem?_eq_getElem (show i < b.length by omega)
   generalize b[i]'(by omega) = y at hy
   repeat' (first | refine yi (GSpan.el .n x) (map_at hx) ?_ | refine yi (GSpan.el .n y) (map_at hy) ?_ | refine yt1 ?_ | refine yt0 ?_ | refine yt ?_ ?_ | refine yo ?_ | apply zn | refine yc ?_ | intro _)
   ·rename_i h
    have h2 : a ≠ b := ne_at hx hy (by intro e; subst e; simp at h)
    exact fin rfl (outB (by simp [h2]))
   ·rename_i h
    have hxy : x = y := by rcases x with ⟨x1, x2⟩; rcases y with ⟨y1, y2⟩; simpa using h
    refine ih () (eq_step hinv hx (hxy ▸ hy)) _ _ ?_
    rw [w64s (by omega)]; rfl
  ·rintro _ hc _ hinv
   repeat' (first | refine yt1 ?_ | refine yt0 ?_ | refine yt ?_ ?_ | refine yo ?_ | apply zn | refine yc ?_ | intro _)
   refine fin rfl (outB ?_)
   simp [eq_end hinv hlen (Nat.le_refl _)]
theorem apartAt_no {l : List GEntry} {i : Nat} {e : GEntry} (hx : l[i]? = some e) (h : e.ok = false) : apartAt l i = false := by simp [apartAt, hx, h]
theorem qg_eq (l : List GEntry) (hl : bulks GEntry.bulk l <= 4000000) : F_qg [.x (GEntry.ls .n l)] = some ⟨[.one (.b (entsApart l))], []⟩ := by
 have hlen := bulks_len GEntry.bulk l
 (refine fun_ev rfl ?_; show Ev m_qg.code _ _ _)
 repeat' (first | refine yt1 ?_ | refine yt0 ?_ | refine yt ?_ ?_ | refine yo ?_ | apply zn | refine yc ?_ | intro _)
 refine zfor (GEntry.el .n) l (fun i (_ : Unit) => [(0, .x (GEntry.ls .n l)), (7, .x (GEntry.ls .n l)), (8, .x (iT (l.map (GEntry.el .n)).length)), (9, .x (iT i))]) (fun i _ => ∀ j, j < i -> apartAt l j = true) () (by omega) rfl ?_ ?_
 ·rintro i _ e hx hlt hc _ hinv ih
  have hbe : e.bulk <= 4000000 := Nat.le_trans (bulks_mem hx) hl
  have hbi : e.Ids.length <= 4194304 := by have : e.Ids.length <= e.bulk := by { unfold GEntry.bulk; omega }; omega
  have hsl : 0 <= i /\ i <= (l.map (GEntry.el .n)).length := by rw [List.length_map]; omega
  repeat' (first | refine yi (GEntry.el .n e) (map_at hx) ?_ | refine yk g_qe (qe_eq e hbe) ?_ | (apply zu;exact rfl;exact bound_at rfl rfl;exact rfl;exact (hsl);exact rfl;exact sub_take;exact rfl;exact rfl) | refine yt1 ?_ | refine yt0 ?_ | refine yt ?_ ?_ | refine yo ?_ | apply zn | refine yc ?_ | intro _)
  ·refine fin rfl (outB ?_)
   rename_i h
   have h2 : e.ok = false := by simpa using h
   rw [entsApart, allIx_not hlt (apartAt_no hx h2)]
  ·rename_i h
   have h2 : e.ok = true := by simpa using h
   refine zfor (GEntry.el .n) (l.take i) (fun k (_ : Unit) => [(0, .x (GEntry.ls .n l)), (4, .box ⟨0, 0, 0⟩ (e.cs .n)), (7, .x (GEntry.ls .n l)), (8, .x (iT (l.map (GEntry.el .n)).length)), (9, .x (iT i)), (19, .x (GEntry.ls .n (l.take i))), (20, .x (iT ((l.take i).map (GEntry.el .n)).length)), (21, .x (iT k))]) (fun k _ => ((l.take i).take k).all (fun o => setApart e.Ids o.Ids) = true) () (by simp) rfl ?_ ?_
   ·rintro k _ o hy hlt2 hc2 _ hinv2 ih2
    have hbo : o.Ids.length <= 4194304 := by
     have h3 := List.mem_of_getElem? hy
     obtain ⟨j, hj⟩ := List.mem_iff_getElem?.1 (List.mem_of_mem_take h3)
     have := bulks_mem (f := GEntry.bulk) hj
     unfold GEntry.bulk at this; unfold GEntry.bulk at hl; omega
    repeat' (first | refine yi (GEntry.el .n o) (map_at hy) ?_ | refine yk g_qf (qf_eq e.Ids o.Ids hbi hbo) ?_ | refine yt1 ?_ | refine yt0 ?_ | refine yt ?_ ?_ | refine yo ?_ | apply zn | refine yc ?_ | intro _)
    ·refine fin rfl (outB ?_)
     rename_i h
     have h3 : setApart e.Ids o.Ids = false := by simpa using h
     rw [entsApart, allIx_not hlt]
     rw [apartAt, hx]
     simp only [not_all (p := fun o => setApart e.Ids o.Ids) hy h3, Bool.and_false]
    ·rename_i h
     have h3 : setApart e.Ids o.Ids = true := by simpa using h
     refine ih2 () (take_all (p := fun o => setApart e.Ids o.Ids) hinv2 hy h3) _ _ ?_
     rw [w64s (by rw [List.length_take] at hlt2; omega)]; rfl
   ·rintro _ hc2 _ hinv2
    repeat' (first | refine yt1 ?_ | refine yt0 ?_ | refine yt ?_ ?_ | refine yo ?_ | apply zn | refine yc ?_ | intro _)
    refine ih () (upto_succ hinv ?_) _ _ ?_
    ·rw [apartAt, hx]
     simp only [h2, take_end hinv2, Bool.and_self]
    ·rw [w64s (by omega)]; rfl
 ·rintro _ hc _ hinv
  repeat' (first | refine yt1 ?_ | refine yt0 ?_ | refine yt ?_ ?_ | refine yo ?_ | apply zn | refine yc ?_ | intro _)
  refine fin rfl (outB ?_)
  rw [entsApart, allIx_of hinv]
end Go.Wr
namespace Go.Wr
set_option maxRecDepth 20000
theorem qq_eq (r : GRow) (hl : r.bulk <= 4000000) : F_qq [.st (r.cs .n)] = some ⟨[.one (.b r.ok)], []⟩ := by
 simp only [GRow.bulk] at hl
 (refine fun_ev rfl ?_; show Ev m_qq.code _ _ _)
 repeat' (first | refine yy ?_ | refine ym ?_ | (apply ze;(iterate 5 exact rfl)) | (apply zf;(iterate 5 exact rfl)) | refine yp ?_ | refine yk g_qg (qg_eq r.Lst hl) ?_ | refine yo ?_ | apply zn | refine yc ?_ | exact rfl | intro _)
 refine fin rfl (outB ?_)
 have e : decide (((r.Lst.map (GEntry.el .n)).length : Int) <= 24) = decide (r.Lst.length <= 24) := by rw [List.length_map, Bool.eq_iff_iff]; simp; omega
 rw [GRow.ok, e]
theorem q3o_eq (r : GRow) (hl : r.bulk <= 4000000) : F_q3o [.st (r.cs .n)] = some ⟨[.one (.b r.ok)], []⟩ := by
 simp only [GRow.bulk] at hl
 have hlen := bulks_len GEntry.bulk r.Lst
 (refine fun_ev rfl ?_; show Ev m_q3o.code _ _ _)
 repeat' (first | refine yt1 ?_ | refine yt0 ?_ | refine yt ?_ ?_ | refine yo ?_ | apply zn | refine yc ?_ | intro _)
 ·refine fin rfl (outB ?_)
  rename_i h
  have : ¬ r.Lst.length <= 24 := by simp at h; omega
  simp [GRow.ok, this]
 ·rename_i h
  have h24 : decide (r.Lst.length <= 24) = true := by simp at h ⊢; omega
  rw [GRow.ok, h24, Bool.true_and]
  refine zfor (GEntry.el .n) r.Lst (fun i (_ : Unit) => [(1, .box ⟨0, 0, 0⟩ (r.cs .n)), (3, .x (iT i))]) (fun i _ => ∀ j, j < i -> apartAt r.Lst j = true) () (by omega) rfl ?_ ?_
  ·rintro i _ e hx hlt hc _ hinv ih
   have hbe : e.bulk <= 4000000 := Nat.le_trans (bulks_mem hx) hl
   have hbi : e.Ids.length <= 4194304 := by have : e.Ids.length <= e.bulk := by { unfold GEntry.bulk; omega }; omega
   repeat' (first | refine yi (GEntry.el .n e) (map_at hx) ?_ | refine yk g_q3n (q3n_eq e hbe) ?_ | refine yt1 ?_ | refine yt0 ?_ | refine yt ?_ ?_ | refine yo ?_ | apply zn | refine yc ?_ | intro _)
   ·refine fin rfl (outB ?_)
    rename_i h
    have h2 : e.ok = false := by simpa using h
    rw [entsApart, allIx_not hlt (apartAt_no hx h2)]
   ·rename_i h
    have h2 : e.ok = true := by simpa using h
    refine zfor (GEntry.el .n) (r.Lst.take i) (fun k (_ : Unit) => [(1, .box ⟨0, 0, 0⟩ (r.cs .n)), (3, .x (iT i)), (4, .x (iT k))]) (fun k _ => ((r.Lst.take i).take k).all (fun o => setApart e.Ids o.Ids) = true) () (by simp) rfl ?_ ?_
    ·rintro k _ o hy hlt2 _ _ hinv2 ih2
     rw [List.length_take] at hlt2
     have hc2 : decide ((k : Int) < (i : Int)) = true := by simp; omega
     have hy2 : r.Lst[k]? = some o := by rwa [List.getElem?_take_of_lt (by omega)] at hy
     have hbo : o.Ids.length <= 4194304 := by
      have := bulks_mem (f := GEntry.bulk) hy2
      unfold GEntry.bulk at this; unfold GEntry.bulk at hl; omega
     repeat' (first | refine yi (GEntry.el .n o) (map_at hy2) ?_ | refine yi (GEntry.el .n e) (map_at hx) ?_ | refine yk g_q3i (q3i_eq e.Ids o.Ids hbi hbo) ?_ | refine yt1 ?_ | refine yt0 ?_ | refine yt ?_ ?_ | refine yo ?_ | apply zn | refine yc ?_ | intro _)
     ·refine fin rfl (outB ?_)
      rename_i h
      have h3 : setApart e.Ids o.Ids = false := by simpa using h
      rw [entsApart, allIx_not hlt]
      rw [apartAt, hx]
      simp only [not_all (p := fun o => setApart e.Ids o.Ids) hy h3, Bool.and_false]
     ·rename_i h
      have h3 : setApart e.Ids o.Ids = true := by simpa using h
      refine ih2 () (take_all (p := fun o => setApart e.Ids o.Ids) hinv2 hy h3) _ _ ?_
      rw [w64s (by omega)]; rfl
    ·rintro _ _ _ hinv2
     have hc2 : decide (((r.Lst.take i).length : Int) < (i : Int)) = false := by rw [List.length_take]; simp; omega
     repeat' (first | refine yt1 ?_ | refine yt0 ?_ | refine yt ?_ ?_ | refine yo ?_ | apply zn | refine yc ?_ | intro _)
     refine ih () (upto_succ hinv ?_) _ _ ?_
     ·rw [apartAt, hx]
      simp only [h2, take_end hinv2, Bool.and_self]
     ·rw [w64s (by omega)]; rfl
  ·rintro _ hc _ hinv
   repeat' (first | refine yt1 ?_ | refine yt0 ?_ | refine yt ?_ ?_ | refine yo ?_ | apply zn | refine yc ?_ | intro _)
   refine fin rfl (outB ?_)
   rw [entsApart, allIx_of hinv]
theorem q9_eq (x : GSpan) (n : Int) : F_q9 [.st (x.cs .n), .x (.p (iT n))] = some ⟨[.one (.b (inB n x.Lo x.Hi))], []⟩ := by
 (refine fun_ev rfl ?_; show Ev m_q9.code _ _ _)
 repeat' (first | refine yk g_q2 (q2_eq _ _ _) ?_ | refine yo ?_ | apply zn | refine yc ?_ | intro _)
 exact fin rfl rfl
theorem qa_eq (s : List GSpan) (n : Int) (hl : s.length <= 4194304) (k : Int) (hk : k = match s.findIdx? (fun x => inB n x.Lo x.Hi) with | some i => (i : Int) | none => -1) : F_qa [.x (GSpan.ls .n s), .x (.f g_q9 [.p (iT n)])] = some ⟨[.one (iT k)], []⟩ := by
 (refine fun_ev rfl ?_; show Ev m_qa.code _ _ _)
 repeat' (first | refine yt1 ?_ | refine yt0 ?_ | refine yt ?_ ?_ | refine yo ?_ | apply zn | refine yc ?_ | intro _)
 refine zfor (GSpan.el .n) s (fun i (_ : Unit) => [(0, .x (GSpan.ls .n s)), (1, .x (.f g_q9 [.p (iT n)])), (7, .x (iT (s.map (GSpan.el .n)).length)), (8, .x (iT i))]) (fun i _ => ∀ j x, j < i -> s[j]? = some x -> inB n x.Lo x.Hi = false) () (by omega) rfl ?_ ?_
 ·rintro i _ x hx hlt hc _ hinv ih
  repeat' (first | refine yi (GSpan.el .n x) (map_at hx) ?_ | refine yd (q9_eq x n) ?_ | refine yt1 ?_ | refine yt0 ?_ | refine yt ?_ ?_ | refine yo ?_ | apply zn | refine yc ?_ | intro _)
  ·refine fin rfl (outI ?_)
   rename_i h
   have h3 : s.findIdx? (fun x => inB n x.Lo x.Hi) = some i := by
    rw [List.findIdx?_eq_some_iff_getElem]
    refine ⟨hlt, ?_, fun j hj => ?_⟩
    ·rw [(List.getElem?_eq_some_iff.1 hx).2]; exact h
    ·rw [hinv j _ hj (List.getElem?_eq_getElem (by omega))]; simp
   rw [hk, h3]
  ·rename_i h
   refine ih () ?_ _ _ ?_
   ·intro j y hj hy
    rcases Nat.lt_succ_iff_lt_or_eq.1 hj with h1 | rfl
    ·exact hinv j y h1 hy
    ·rw [hx] at hy; cases hy; exact h
   ·rw [w64s (by omega)]; rfl
 ·rintro _ hc _ hinv
  repeat' (first | refine yt1 ?_ | refine yt0 ?_ | refine yt ?_ ?_ | refine yo ?_ | apply zn | refine yc ?_ | intro _)
  refine fin rfl (outI ?_)
  have h3 : s.findIdx? (fun x => inB n x.Lo x.Hi) = none := by
   rw [List.findIdx?_eq_none_iff]
   intro x hx
   obtain ⟨j, hj⟩ := List.mem_iff_getElem?.1 hx
   exact hinv j x (List.getElem?_eq_some_iff.1 hj).1 hj
  rw [hk, h3]
theorem qb_eq (s : List GSpan) (n : Int) (hl : s.length <= 4194304) : F_qb [.x (GSpan.ls .n s), .x (.f g_q9 [.p (iT n)])] = some ⟨[.one (.b (setHas s n))], []⟩ := by
 (refine fun_ev rfl ?_; show Ev m_qb.code _ _ _)
 repeat' (first | refine yk g_qa (qa_eq s n hl _ rfl) ?_ | refine yo ?_ | apply zn | refine yc ?_ | intro _)
 refine fin rfl (outB ?_)
 unfold setHas
 cases h : s.findIdx? (fun x => inB n x.Lo x.Hi) with
 | none =>
  rw [List.findIdx?_eq_none_iff] at h
  rw [eq_comm]
  show _ = false
  rw [List.any_eq_false]
  intro x hx; rw [h x hx]; simp
 | some i =>
  rw [List.findIdx?_eq_some_iff_getElem] at h
  obtain ⟨hi, h, _⟩ := h
  rw [eq_comm, List.any_eq_true.2 ⟨_, List.getElem_mem hi, h⟩]
  simp
theorem qc_eq (s : List GSpan) (n : Int) (hl : s.length <= 4194304) : F_qc [.x (GSpan.ls .n s), .x (iT n)] = some ⟨[.one (.b (setHas s n))], []⟩ := by
 (refine fun_ev rfl ?_; show Ev m_qc.code _ _ _)
 repeat' (first | refine yk g_qb (qb_eq s n hl) ?_ | refine yo ?_ | apply zn | refine yc ?_ | intro _)
 exact fin rfl rfl
theorem sortG_len (s : List GSpan) : (sortG s).length = s.length := by rw [sortG, List.length_map, sortR_len, List.length_map]
theorem ql_eq (s : List GSpan) (hl : s.length <= 4194304) : F_ql [.mu (GSpan.ls .y s), .x (.f g_qk [])] = some ⟨[], [[GSpan.ls .y (sortG s)]]⟩ := by
 have h := sortF_eq (gc := g_qk) (s.map fun x => (x.Lo, x.Hi)) (by rw [List.length_map]; omega)
 rw [List.map_map] at h
 rw [F_ql, lock_eq]
 refine h.trans ?_
 rw [sortG, GSpan.ls, List.map_map]
 rfl
theorem sortG_mem (s : List GSpan) : ∀ x ∈ sortG s, x ∈ s := fun x hx => by
 obtain ⟨p, hp, rfl⟩ := List.mem_map.1 hx
 have := (sortR_perm (s.map fun x => (x.Lo, x.Hi))).1.mem_iff.1 hp
 obtain ⟨y, hy, rfl⟩ := List.mem_map.1 this
 exact hy
end Go.Wr
namespace Go.Wr
set_option maxRecDepth 20000
theorem ls_snoc {ob : Ob} (l : List GSpan) (x : GSpan) : GSpan.ls ob (l ++ [x]) = .l ob 2 (l.map (GSpan.el ob) ++ [GSpan.el ob x]) := by rw [GSpan.ls, List.map_append]; rfl
theorem qm_eq (s : List GSpan) (hl : s.length <= 4194304) (hb : ∀ x ∈ s, HiR x) : F_qm [.x (GSpan.ls .n s)] = some ⟨[.one (GSpan.ls .y (unionG s))], []⟩ := by
 have hls := sortG_len s
 have hbs : ∀ x ∈ sortG s, HiR x := fun x hx => hb x (sortG_mem s x hx)
 (refine fun_ev rfl ?_; show Ev m_qm.code _ _ _)
 repeat' (first | refine yy ?_ | refine ym ?_ | (apply ze;(iterate 5 exact rfl)) | (apply zf;(iterate 5 exact rfl)) | refine yp ?_ | refine yk g_qh (qh_eq s hl) ?_ | (apply zkM g_ql;(iterate 6 exact rfl);exact (ql_eq s hl);(iterate 3 exact rfl)) | refine yt1 ?_ | refine yt0 ?_ | refine yt ?_ ?_ | refine yo ?_ | apply zn | refine yc ?_ | exact rfl | intro _)
 refine zfor (GSpan.el .n) (sortG s) (fun i (out : List GSpan) => [(3, .own ⟨0, 0, 0⟩ (GSpan.ls .y (sortG s))), (4, .own ⟨0, 0, 0⟩ (GSpan.ls .y out)), (12, .w 3 ⟨0, 0, 0⟩ [] 2 0 ((sortG s).map (GSpan.el .n)).length), (13, .x (iT ((sortG s).map (GSpan.el .n)).length)), (14, .x (iT i))]) (fun i out => out = ((sortG s).take i).foldl putLast [] /\ (∀ x ∈ out, HiR x) /\ out.length <= i) [] (by simp) rfl ?_ ?_
 ·rintro i out x hx hlt hc _ ⟨hinv, hbo, hlo⟩ ih
  have hbx := hbs x (List.mem_of_getElem? hx)
  have hnext : putLast out x = ((sortG s).take (i + 1)).foldl putLast [] /\ (∀ y ∈ putLast out x, HiR y) /\ (putLast out x).length <= i + 1 := ⟨by rw [hinv, fold_succ hx], putLast_hi hbo hbx, Nat.le_trans (putLast_len _ _) (by omega)⟩
  rcases List.eq_nil_or_concat out with rfl | ⟨o, p, rfl⟩
  ·have h0 : decide (((([] : List GSpan).map (GSpan.el .y)).length : Int) > 0) = !true := rfl
   have h1 : decide (((([] : List GSpan).map (GSpan.el .y)).length : Int) > 0) = false := rfl
   have h2 : false = false := rfl
   repeat' (first | refine yy ?_ | refine ym ?_ | (apply ze;(iterate 5 exact rfl)) | (apply zf;(iterate 5 exact rfl)) | refine yp ?_ | refine yx (own_lt hlt) ?_ | refine yL (GSpan.cs .n x) (nav_at (map_at hx)) ?_ | (apply zv;(iterate 7 exact rfl);exact (app_es (f := GSpan.el .n) (l := [x]) (es := []) (by simp));exact (rfl);exact rfl;exact rfl) | refine yt1 ?_ | refine yt0 ?_ | refine yt ?_ ?_ | refine yo ?_ | apply zn | refine yc ?_ | exact rfl | intro _)
   refine ih _ hnext _ _ ?_
   rw [w64s (by omega)]; rfl
  ·rw [List.concat_eq_append] at hinv hbo hlo hnext ⊢
   have hbp := hbo p (by simp)
   have h0 : decide ((((o ++ [p]).map (GSpan.el .y)).length : Int) > 0) = true := by simp
   have hk : IntKind.i64.wrap ((((o ++ [p]).map (GSpan.el .y)).length : Int) - 1) = (o.length : Int) := by
    rw [List.length_append] at hlo; rw [List.length_map, List.length_append, w64 (by simp at hlo ⊢; omega)]; simp
   have hk0 : 0 <= IntKind.i64.wrap ((((o ++ [p]).map (GSpan.el .y)).length : Int) - 1) := by rw [hk]; omega
   have hkl : IntKind.i64.wrap ((((o ++ [p]).map (GSpan.el .y)).length : Int) - 1) < (((o ++ [p]).map (GSpan.el .y)).length : Nat) := by rw [hk]; simp; omega
   have happ : ((o ++ [p]).map (GSpan.el .y)).length + ([x].map (GSpan.el .n)).length < lenMax := by simp [lenMax]; simp at hlo; omega
   have hmx : (if x.Hi > p.Hi then x.Hi else p.Hi) = max p.Hi x.Hi := by split <;> omega
   have hw : IntKind.i64.wrap (p.Hi + 1) = p.Hi + 1 := w64 (by unfold HiR at hbp; omega)
   repeat' (first | refine yy ?_ | refine ym ?_ | (apply ze;(iterate 5 exact rfl)) | (apply zf;(iterate 5 exact rfl)) | refine yp ?_ | refine yz (hk0) (hkl) ?_ | refine yx (own_lt hlt) ?_ | refine yL (GSpan.cs .n x) (nav_at (map_at hx)) ?_ | refine yl (GSpan.el .n p) (last_at o p hk) ?_ | refine yS (GSpan.el .n p) (GSpan.ls .y (o ++ [⟨p.Lo, if x.Hi > p.Hi then x.Hi else p.Hi⟩])) (last_at o p hk) (last_mine o p hk) (last_put o p ⟨p.Lo, if x.Hi > p.Hi then x.Hi else p.Hi⟩ hk rfl) ?_ | (apply zv;(iterate 7 exact rfl);exact (happ);exact (rfl);exact rfl;exact rfl) | refine yt1 ?_ | refine yt0 ?_ | refine yt ?_ ?_ | refine yo ?_ | apply zn | refine yc ?_ | exact rfl | intro _)
   ·rename_i h
    rw [hw] at h
    have hn := hnext
    rw [putLast_snoc, if_pos (of_decide_eq_true h)] at hn
    refine ih _ hn _ _ ?_
    rw [<- hmx, w64s (by omega)]; rfl
   ·rename_i h
    rw [hw] at h
    have hn := hnext
    rw [putLast_snoc, if_neg (of_decide_eq_false h)] at hn
    refine ih _ hn _ _ ?_
    rw [w64s (by omega), ls_snoc]; rfl
 ·rintro out hc _ ⟨hinv, _, _⟩
  rw [List.take_length] at hinv
  repeat' (first | refine yy ?_ | refine ym ?_ | (apply ze;(iterate 5 exact rfl)) | (apply zf;(iterate 5 exact rfl)) | refine yp ?_ | refine yt1 ?_ | refine yt0 ?_ | refine yt ?_ ?_ | refine yo ?_ | apply zn | refine yc ?_ | exact rfl | intro _)
  refine fin rfl ?_
  simp only [sub_all, hinv]; rfl
theorem qn_eq (l : List GEntry) (hl : bulks GEntry.bulk l <= 4000000) (hb : ∀ e ∈ l, ∀ x ∈ e.Ids, HiR x) : F_qn [.x (GEntry.ls .n l)] = some ⟨[.one (GSpan.ls .y (idsOf l))], []⟩ := by
 have hlen := bulks_len GEntry.bulk l
 have hfl : (l.flatMap GEntry.Ids).length <= 4000000 := by
  rw [List.flatMap_def]
  exact Nat.le_trans (flat_len (g := GEntry.bulk) (fun e => by unfold GEntry.bulk; omega) l) hl
 have hbb : ∀ x ∈ l.flatMap GEntry.Ids, HiR x := fun x hx => by
  obtain ⟨e, he, hx⟩ := List.mem_flatMap.1 hx
  exact hb e he x hx
 (refine fun_ev rfl ?_; show Ev m_qn.code _ _ _)
 repeat' (first | refine yt1 ?_ | refine yt0 ?_ | refine yt ?_ ?_ | refine yo ?_ | apply zn | refine yc ?_ | intro _)
 refine zfor (GEntry.el .n) l (fun i (out : List GSpan) => [(3, .own ⟨0, 0, 0⟩ (GSpan.ls .y out)), (6, .x (GEntry.ls .n l)), (7, .x (iT (l.map (GEntry.el .n)).length)), (8, .x (iT i))]) (fun i out => out = ((l.take i).map GEntry.Ids).flatten) [] (by simp) rfl ?_ ?_
 ·rintro i out e hx hlt hc _ hinv ih
  have hb1 := flat_bnd (f := GEntry.Ids) hx
  rw [<- List.flatMap_def] at hb1
  have happ : (out.map (GSpan.el .y)).length + (e.Ids.map (GSpan.el .n)).length < lenMax := by
   rw [List.length_map, List.length_map, hinv]; unfold lenMax; rw [<- List.flatMap_def] at hb1 ⊢; omega
  repeat' (first | refine yi (GEntry.el .n e) (map_at hx) ?_ | (apply zvn;(iterate 8 exact rfl);exact (happ);exact rfl;exact rfl) | refine yt1 ?_ | refine yt0 ?_ | refine yt ?_ ?_ | refine yo ?_ | apply zn | refine yc ?_ | intro _)
  refine ih (out ++ e.Ids) (by rw [hinv, flat_succ hx]) _ _ ?_
  rw [w64s (by omega), GSpan.ls, List.map_append]; rfl
 ·rintro out hc _ hinv
  rw [List.take_length, <- List.flatMap_def] at hinv
  have hlo : out.length <= 4194304 := by rw [hinv]; omega
  repeat' (first | refine yw g_qm (qm_eq out hlo (hinv ▸ hbb)) (callOk_l rfl (closeds_map (fun _ => rfl) _)) ?_ | refine yt1 ?_ | refine yt0 ?_ | refine yt ?_ ?_ | refine yo ?_ | apply zn | refine yc ?_ | intro _)
  exact fin rfl (by rw [idsOf, <- hinv])
end Go.Wr
namespace Go.Wr
set_option maxRecDepth 20000
def rowIds (r : GRow) : List GSpan := if r.ok then idsOf r.Lst else []
theorem entsApart_ok {l : List GEntry} (h : entsApart l = true) {e : GEntry} (he : e ∈ l) : e.ok = true := by
 obtain ⟨i, hi⟩ := List.mem_iff_getElem?.1 he
 have := allIx_iff.1 h i (List.getElem?_eq_some_iff.1 hi).1
 simp only [apartAt, hi, Bool.and_eq_true] at this
 exact this.1
theorem ok_ids {e : GEntry} (h : e.ok = true) : setOk e.Ids = true := by
 simp only [GEntry.ok, Bool.and_eq_true] at h; exact h.1.1.2
theorem setOk_hi {s : List GSpan} (h : setOk s = true) : ∀ x ∈ s, HiR x := fun x hx => by
 have := setOk_bnd h hx; unfold HiR; omega
theorem ents_hi {l : List GEntry} (h : entsApart l = true) : ∀ e ∈ l, ∀ x ∈ e.Ids, HiR x := fun e he => setOk_hi (ok_ids (entsApart_ok h he))
theorem row_apart {r : GRow} (h : r.ok = true) : entsApart r.Lst = true := by
 simp only [GRow.ok, Bool.and_eq_true] at h; exact h.2
theorem qr_eq (r : GRow) (hl : r.bulk <= 4000000) : F_qr [.st (r.cs .n)] = some ⟨[.one (GSpan.ls .y (rowIds r))], []⟩ := by
 have hb : r.ok = true -> ∀ e ∈ r.Lst, ∀ x ∈ e.Ids, HiR x := fun h => ents_hi (row_apart h)
 have hl2 : bulks GEntry.bulk r.Lst <= 4000000 := hl
 cases h : r.ok with
 | false =>
  have hr := qq_eq r hl
  rw [h] at hr
  have h1 : (!false) = true := rfl
  (refine fun_ev rfl ?_; show Ev m_qr.code _ _ _)
  repeat' (first | refine yk g_qq (hr) ?_ | refine yt1 ?_ | refine yt0 ?_ | refine yt ?_ ?_ | refine yo ?_ | apply zn | refine yc ?_ | intro _)
  exact fin rfl (by rw [rowIds, h]; rfl)
 | true =>
  have hr := qq_eq r hl
  rw [h] at hr
  have h1 : (!true) = false := rfl
  (refine fun_ev rfl ?_; show Ev m_qr.code _ _ _)
  repeat' (first | refine yk g_qq (hr) ?_ | refine yk g_qn (qn_eq r.Lst hl2 (hb h)) ?_ | refine yt1 ?_ | refine yt0 ?_ | refine yt ?_ ?_ | refine yo ?_ | apply zn | refine yc ?_ | intro _)
  exact fin rfl (by rw [rowIds, h]; rfl)
structure PutR (i : Nat) (p : PutS) : Prop where
 len : p.out.length <= 2 * i
 hi : HiR p.x
theorem putStep_r {i : Nat} {p : PutS} {y : GSpan} (h : PutR i p) (hy : HiR y) : PutR (i + 1) (putStep p y) := by
 have h1 := h.len
 have h2 := h.hi
 unfold putStep HiR at *
 split
 ·exact ⟨by simp; omega, h2⟩
 ·split
  ·split
   ·exact ⟨by simp; omega, h2⟩
   ·exact ⟨by simp; omega, h2⟩
  ·refine ⟨by simp only; omega, ?_⟩
   unfold HiR; simp only; omega
theorem ls_snoc2 {ob : Ob} (l : List GSpan) (x y : GSpan) : GSpan.ls ob (l ++ [x, y]) = .l ob 2 (l.map (GSpan.el ob) ++ [GSpan.el ob x] ++ [GSpan.el ob y]) := by rw [GSpan.ls, List.map_append, List.append_assoc]; rfl
theorem q3q_eq (s : List GSpan) (x : GSpan) (hl : s.length <= 4194304) (hb : ∀ y ∈ s, HiR y) (hx : HiR x) : F_q3q [.x (GSpan.ls .n s), .st (x.cs .n)] = some ⟨[.one (GSpan.ls .y (putG s x))], []⟩ := by
 (refine fun_ev rfl ?_; show Ev m_q3q.code _ _ _)
 repeat' (first | refine yt1 ?_ | refine yt0 ?_ | refine yt ?_ ?_ | refine yo ?_ | apply zn | refine yc ?_ | intro _)
 refine zfor (GSpan.el .n) s (fun i (p : PutS) => [(0, .x (GSpan.ls .n s)), (3, .box ⟨0, 0, 0⟩ (p.x.cs .n)), (5, .own ⟨0, 0, 0⟩ (GSpan.ls .y p.out)), (6, .x (.b p.done)), (7, .x (iT i))]) (fun i p => p = (s.take i).foldl putStep ⟨[], false, x⟩ /\ PutR i p) ⟨[], false, x⟩ ⟨rfl, by simp, hx⟩ rfl ?_ ?_
 ·rintro i p y hy hlt hc _ ⟨hinv, hr⟩ ih
  have hby := hb y (List.mem_of_getElem? hy)
  have hnext : putStep p y = (s.take (i + 1)).foldl putStep ⟨[], false, x⟩ /\ PutR (i + 1) (putStep p y) := ⟨by rw [hinv, fold_succ hy], putStep_r hr hby⟩
  have hlo := hr.len
  have hxr := hr.hi
  have hw1 : IntKind.i64.wrap (y.Hi + 1) = y.Hi + 1 := w64 (by unfold HiR at hby; omega)
  have hw2 : IntKind.i64.wrap (p.x.Hi + 1) = p.x.Hi + 1 := w64 (by unfold HiR at hxr; omega)
  have happ : ∀ z : GSpan, (p.out.map (GSpan.el .y)).length + ([z].map (GSpan.el .n)).length < lenMax := fun z => by simp [lenMax]; omega
  have happ2 : (p.out.map (GSpan.el .y) ++ [GSpan.el .y p.x]).length + ([y].map (GSpan.el .n)).length < lenMax := by simp [lenMax]; omega
  repeat' (first | refine yi (GSpan.el .n y) (map_at hy) ?_ | refine yk g_q3l (q3l_eq _ _) ?_ | refine yk g_q3k (q3k_eq _ _) ?_ | (apply zv;(iterate 7 exact rfl);exact (happ _);exact (rfl);exact rfl;exact rfl) | (apply zv;(iterate 7 exact rfl);exact (happ2);exact (rfl);exact rfl;exact rfl) | refine yt1 ?_ | refine yt0 ?_ | refine yt ?_ ?_ | refine yo ?_ | apply zn | refine yc ?_ | intro _)
  ·rename_i h
   rw [hw1] at h
   have hn := hnext
   rw [putStep, if_pos (of_decide_eq_true h)] at hn
   refine ih _ hn _ _ ?_
   rw [w64s (by omega), ls_snoc]; rfl
  ·rename_i h h2 h3
   rw [hw1] at h; rw [hw2] at h2
   have h3' : p.done = false := by simpa using h3
   have hn := hnext
   rw [putStep, if_neg (of_decide_eq_false h), if_pos (of_decide_eq_true h2), h3'] at hn
   refine ih _ hn _ _ ?_
   rw [w64s (by omega), if_neg (by simp), ls_snoc2]; rfl
  ·rename_i h h2 h3
   rw [hw1] at h; rw [hw2] at h2
   have h3' : p.done = true := by simpa using h3
   have hn := hnext
   rw [putStep, if_neg (of_decide_eq_false h), if_pos (of_decide_eq_true h2), h3'] at hn
   refine ih _ hn _ _ ?_
   rw [w64s (by omega), if_pos rfl, ls_snoc, h3']; rfl
  ·rename_i h h2
   rw [hw1] at h; rw [hw2] at h2
   have hn := hnext
   rw [putStep, if_neg (of_decide_eq_false h), if_neg (of_decide_eq_false h2)] at hn
   refine ih _ hn _ _ ?_
   rw [w64s (by omega)]; rfl
 ·rintro p hc _ ⟨hinv, hr⟩
  rw [List.take_length] at hinv
  have hlo := hr.len
  have happ : ∀ z : GSpan, (p.out.map (GSpan.el .y)).length + ([z].map (GSpan.el .n)).length < lenMax := fun z => by simp [lenMax]; omega
  have hput : putG s x = if p.done then p.out else p.out ++ [p.x] := by rw [hinv]; rfl
  repeat' (first | (apply zv;(iterate 7 exact rfl);exact (happ _);exact (rfl);exact rfl;exact rfl) | refine yt1 ?_ | refine yt0 ?_ | refine yt ?_ ?_ | refine yo ?_ | apply zn | refine yc ?_ | intro _)
  ·rename_i h
   have h' : p.done = false := by simpa using h
   rw [hput, h', if_neg (by simp), ls_snoc]
   exact fin rfl (by simp only [sub_all]; rfl)
  ·rename_i h
   have h' : p.done = true := by simpa using h
   rw [hput, h', if_pos rfl]
   exact fin rfl (by simp only [sub_all])
theorem putStep_hi {p : PutS} {y : GSpan} (ho : ∀ z ∈ p.out, HiR z) (hx : HiR p.x) (hy : HiR y) : (∀ z ∈ (putStep p y).out, HiR z) /\ HiR (putStep p y).x := by
 unfold putStep
 split
 ·exact ⟨by simpa [or_imp, forall_and] using ⟨ho, hy⟩, hx⟩
 ·split
  ·split
   ·exact ⟨by simpa [or_imp, forall_and] using ⟨ho, hy⟩, hx⟩
   ·exact ⟨by simpa [or_imp, forall_and] using ⟨ho, hx, hy⟩, hx⟩
  ·refine ⟨ho, ?_⟩
   unfold HiR at *; simp only; omega
theorem putFold_hi : ∀ {s : List GSpan} {p : PutS}, (∀ y ∈ s, HiR y) -> (∀ z ∈ p.out, HiR z) -> HiR p.x -> (∀ z ∈ (s.foldl putStep p).out, HiR z) /\ HiR (s.foldl putStep p).x
 | [], p, _, ho, hx => ⟨ho, hx⟩
 | y :: s, p, hs, ho, hx => by
  have h := putStep_hi ho hx (hs y List.mem_cons_self)
  exact putFold_hi (s := s) (fun z hz => hs z (List.mem_cons_of_mem _ hz)) h.1 h.2
theorem putG_hi {s : List GSpan} {x : GSpan} (hs : ∀ y ∈ s, HiR y) (hx : HiR x) : ∀ z ∈ putG s x, HiR z := by
 have h := putFold_hi (p := ⟨[], false, x⟩) hs (by simp) hx
 unfold putG
 simp only
 split
 ·exact h.1
 ·simpa [or_imp, forall_and] using h
theorem putStep_len (p : PutS) (y : GSpan) : (putStep p y).out.length + (bif (putStep p y).done then 0 else 1) <= p.out.length + (bif p.done then 0 else 1) + 1 := by
 unfold putStep
 split
 ·simp; omega
 ·split
  ·split
   ·rename_i h; simp [h]
   ·rename_i h; simp [h]
  ·simp
theorem putFold_len : ∀ (s : List GSpan) (p : PutS), (s.foldl putStep p).out.length + (bif (s.foldl putStep p).done then 0 else 1) <= p.out.length + (bif p.done then 0 else 1) + s.length
 | [], p => by simp
 | y :: s, p => by
  have h := putFold_len s (putStep p y)
  have h2 := putStep_len p y
  simp only [List.foldl_cons, List.length_cons]
  omega
theorem putG_len (s : List GSpan) (x : GSpan) : (putG s x).length <= s.length + 1 := by
 have h := putFold_len s ⟨[], false, x⟩
 simp only [List.length_nil, cond_false] at h
 unfold putG
 simp only
 split
 ·rename_i h2; rw [h2, cond_true] at h; omega
 ·rename_i h2; rw [Bool.eq_false_iff.2 h2, cond_false] at h; rw [List.length_append, List.length_singleton]; omega
theorem joinG_hi : ∀ {b a : List GSpan}, (∀ y ∈ a, HiR y) -> (∀ y ∈ b, HiR y) -> ∀ z ∈ joinG a b, HiR z
 | [], a, ha, _ => ha
 | x :: b, a, ha, hb => joinG_hi (b := b) (a := putG a x) (putG_hi ha (hb x List.mem_cons_self)) fun y hy => hb y (List.mem_cons_of_mem _ hy)
theorem joinG_len : ∀ (b a : List GSpan), (joinG a b).length <= a.length + b.length
 | [], a => by simp [joinG]
 | x :: b, a => by
  have h1 := joinG_len b (putG a x)
  have h2 := putG_len a x
  simp only [joinG, List.foldl_cons, List.length_cons] at h1 ⊢
  omega
theorem q3r_eq (a b : List GSpan) (hl : a.length + b.length <= 4194304) (ha : ∀ y ∈ a, HiR y) (hb : ∀ y ∈ b, HiR y) : F_q3r [.x (GSpan.ls .n a), .x (GSpan.ls .n b)] = some ⟨[.one (GSpan.ls .y (joinG a b))], []⟩ := by
 (refine fun_ev rfl ?_; show Ev m_q3r.code _ _ _)
 repeat' (first | refine yk g_q3p (q3p_eq a (by omega)) ?_ | refine yt1 ?_ | refine yt0 ?_ | refine yt ?_ ?_ | refine yo ?_ | apply zn | refine yc ?_ | intro _)
 refine zfor (GSpan.el .n) b (fun i (o : List GSpan) => [(1, .x (GSpan.ls .n b)), (5, .own ⟨0, 0, 0⟩ (GSpan.ls .y o)), (6, .x (iT i))]) (fun i o => o = joinG a (b.take i)) a rfl rfl ?_ ?_
 ·rintro i o y hy hlt hc _ hinv ih
  have hl1 := joinG_len (b.take i) a
  rw [<- hinv, List.length_take] at hl1
  have hho : ∀ z ∈ o, HiR z := hinv ▸ joinG_hi ha fun z hz => hb z (List.mem_of_mem_take hz)
  repeat' (first | refine yi (GSpan.el .n y) (map_at hy) ?_ | refine yw g_q3q (q3q_eq o y (by omega) hho (hb y (List.mem_of_getElem? hy))) (callOk_l rfl (closeds_map (fun _ => rfl) _)) ?_ | refine yt1 ?_ | refine yt0 ?_ | refine yt ?_ ?_ | refine yo ?_ | apply zn | refine yc ?_ | intro _)
  refine ih (putG o y) ?_ _ _ ?_
  ·rw [hinv, joinG, joinG, fold_succ hy]
  ·rw [w64s (by omega)]; rfl
 ·rintro o hc _ hinv
  rw [List.take_length] at hinv
  repeat' (first | refine yt1 ?_ | refine yt0 ?_ | refine yt ?_ ?_ | refine yo ?_ | apply zn | refine yc ?_ | intro _)
  exact fin rfl (by simp only [sub_all, hinv])
def rowIdsS (r : GRow) : List GSpan := if r.ok then r.Lst.foldl (fun o e => joinG o e.Ids) [] else []
theorem joins_hi : ∀ {l : List GEntry} {a : List GSpan}, (∀ e ∈ l, ∀ x ∈ e.Ids, HiR x) -> (∀ y ∈ a, HiR y) -> ∀ z ∈ l.foldl (fun o e => joinG o e.Ids) a, HiR z
 | [], a, _, ha => ha
 | e :: l, a, hl, ha => joins_hi (l := l) (fun e he => hl e (List.mem_cons_of_mem _ he)) (joinG_hi ha (hl e List.mem_cons_self))
theorem joins_len : ∀ (l : List GEntry) (a : List GSpan), (l.foldl (fun o e => joinG o e.Ids) a).length <= a.length + (l.map fun e => e.Ids.length).sum
 | [], a => by simp
 | e :: l, a => by
  have h1 := joins_len l (joinG a e.Ids)
  have h2 := joinG_len e.Ids a
  simp only [List.foldl_cons, List.map_cons, List.sum_cons]
  omega
theorem ids_sum (l : List GEntry) : (l.map fun e => e.Ids.length).sum <= bulks GEntry.bulk l := by
 unfold bulks
 induction l with
 | nil => simp
 | cons e l ih => have : e.Ids.length <= e.bulk := by { unfold GEntry.bulk; omega }; simp only [List.map_cons, List.sum_cons, List.length_cons]; omega
theorem q3s_eq (r : GRow) (hl : r.bulk <= 4000000) : F_q3s [.st (r.cs .n)] = some ⟨[.one (GSpan.ls .y (rowIdsS r))], []⟩ := by
 have hro := q3o_eq r hl
 have hl2 : bulks GEntry.bulk r.Lst <= 4000000 := hl
 have hlen := bulks_len GEntry.bulk r.Lst
 have hsm := ids_sum r.Lst
 cases h : r.ok with
 | false =>
  rw [h] at hro
  have h1 : (!false) = true := rfl
  (refine fun_ev rfl ?_; show Ev m_q3s.code _ _ _)
  repeat' (first | refine yk g_q3o (hro) ?_ | refine yt1 ?_ | refine yt0 ?_ | refine yt ?_ ?_ | refine yo ?_ | apply zn | refine yc ?_ | intro _)
  exact fin rfl (by rw [rowIdsS, h]; rfl)
 | true =>
  rw [h] at hro
  have h1 : (!true) = false := rfl
  have hb := ents_hi (row_apart h)
  (refine fun_ev rfl ?_; show Ev m_q3s.code _ _ _)
  repeat' (first | refine yk g_q3o (hro) ?_ | refine yt1 ?_ | refine yt0 ?_ | refine yt ?_ ?_ | refine yo ?_ | apply zn | refine yc ?_ | intro _)
  refine zfor (GEntry.el .n) r.Lst (fun i (o : List GSpan) => [(1, .box ⟨0, 0, 0⟩ (r.cs .n)), (3, .own ⟨0, 0, 0⟩ (GSpan.ls .y o)), (4, .x (iT i))]) (fun i o => o = (r.Lst.take i).foldl (fun o e => joinG o e.Ids) []) [] rfl rfl ?_ ?_
  ·rintro i o e hx hlt hc _ hinv ih
   have hl1 := joins_len (r.Lst.take i) []
   have hl3 := pre_succ (f := fun e : GEntry => e.Ids.length) hx
   have hl4 := pre_le (f := fun e : GEntry => e.Ids.length) (l := r.Lst) (i := i + 1)
   have hl5 : o.length + e.Ids.length <= 4194304 := by
    unfold bulks at hl4; rw [<- hinv] at hl1; simp only [pre, List.length_nil] at hl1 hl3 hl4; omega
   have hho : ∀ z ∈ o, HiR z := hinv ▸ joins_hi (fun e he => hb e (List.mem_of_mem_take he)) (by simp)
   repeat' (first | refine yi (GEntry.el .n e) (map_at hx) ?_ | refine yw g_q3r (q3r_eq o e.Ids hl5 hho (hb e (List.mem_of_getElem? hx))) (callOk_l rfl (closeds_map (fun _ => rfl) _)) ?_ | refine yt1 ?_ | refine yt0 ?_ | refine yt ?_ ?_ | refine yo ?_ | apply zn | refine yc ?_ | intro _)
   refine ih (joinG o e.Ids) ?_ _ _ ?_
   ·rw [hinv, fold_succ (f := fun o (e : GEntry) => joinG o e.Ids) hx]
   ·rw [w64s (by omega)]; rfl
  ·rintro o hc _ hinv
   rw [List.take_length] at hinv
   repeat' (first | refine yt1 ?_ | refine yt0 ?_ | refine yt ?_ ?_ | refine yo ?_ | apply zn | refine yc ?_ | intro _)
   exact fin rfl (by simp only [sub_all, hinv, rowIdsS, h, if_true])
end Go.Wr
namespace Go.Wr
set_option maxRecDepth 20000
def SpanR (x : GSpan) : Prop := 0 <= x.Lo /\ x.Lo <= x.Hi /\ x.Hi <= 9999
def ofSpan (x : GSpan) (a : Int) : Int := max (min x.Hi (100 * a + 60) - max x.Lo (100 * a + 1) + 1) 0
theorem ofAgent_eq (s : List GSpan) (a : Int) : ofAgent s a = (s.map fun x => ofSpan x a).sum := rfl
theorem ofSpan_bnd (x : GSpan) (a : Int) : 0 <= ofSpan x a /\ ofSpan x a <= 60 := by unfold ofSpan; omega
theorem ofAgent_bnd : ∀ (s : List GSpan) (a : Int), 0 <= ofAgent s a /\ ofAgent s a <= 60 * s.length
 | [], a => by simp [ofAgent]
 | x :: s, a => by
  have h1 := ofAgent_bnd s a
  have h2 := ofSpan_bnd x a
  rw [ofAgent_eq] at h1 ⊢
  simp only [List.map_cons, List.sum_cons, List.length_cons]
  omega
theorem ofAgent_succ {s : List GSpan} {i : Nat} {x : GSpan} {a : Int} (h : s[i]? = some x) : ofAgent (s.take (i + 1)) a = ofAgent (s.take i) a + ofSpan x a := by
 rw [ofAgent_eq, ofAgent_eq, List.take_add_one, h]; simp
theorem q3m_eq (s : List GSpan) (a : Int) (hl : s.length <= 4194304) (ha : 0 <= a /\ a <= 2) (hb : ∀ x ∈ s, SpanR x) : F_q3m [.x (GSpan.ls .n s), .x (iT a)] = some ⟨[.one (iT (ofAgent s a))], []⟩ := by
 have w1 : IntKind.i64.wrap (100 * a) = 100 * a := w64 (by omega)
 have w2 : IntKind.i64.wrap (100 * a + 1) = 100 * a + 1 := w64 (by omega)
 have w3 : IntKind.i64.wrap (100 * a + 60) = 100 * a + 60 := w64 (by omega)
 (refine fun_ev rfl ?_; show Ev m_q3m.code _ _ _)
 repeat' (first | refine yt1 ?_ | refine yt0 ?_ | refine yt ?_ ?_ | refine yo ?_ | apply zn | refine yc ?_ | intro _)
 refine zfor (GSpan.el .n) s (fun i (n : Int) => [(0, .x (GSpan.ls .n s)), (1, .x (iT a)), (5, .x (iT n)), (6, .x (iT i))]) (fun i n => n = ofAgent (s.take i) a) 0 rfl rfl ?_ ?_
 ·rintro i n x hx hlt hc _ hinv ih
  have hbx := hb x (List.mem_of_getElem? hx)
  have h1 := ofAgent_bnd (s.take i) a
  have h2 := ofSpan_bnd x a
  rw [List.length_take] at h1
  repeat' (first | refine yi (GSpan.el .n x) (map_at hx) ?_ | refine yk g_q3l (q3l_eq _ _) ?_ | refine yk g_q3k (q3k_eq _ _) ?_ | refine yt1 ?_ | refine yt0 ?_ | refine yt ?_ ?_ | refine yo ?_ | apply zn | refine yc ?_ | intro _)
  refine ih _ rfl _ _ ?_
  have w4 : IntKind.i64.wrap (min x.Hi (100 * a + 60) - max x.Lo (100 * a + 1)) = min x.Hi (100 * a + 60) - max x.Lo (100 * a + 1) := w64 (by unfold SpanR at hbx; omega)
  have w5 : IntKind.i64.wrap (min x.Hi (100 * a + 60) - max x.Lo (100 * a + 1) + 1) = min x.Hi (100 * a + 60) - max x.Lo (100 * a + 1) + 1 := w64 (by unfold SpanR at hbx; omega)
  have w6 : IntKind.i64.wrap (n + max (min x.Hi (100 * a + 60) - max x.Lo (100 * a + 1) + 1) 0) = ofAgent (s.take (i + 1)) a := by
   rw [ofAgent_succ hx, hinv, w64 (by unfold ofSpan at h2; omega)]; rfl
  rw [w1, w2, w3, w4, w5, w6, w64s (by omega)]; rfl
 ·rintro n hc _ hinv
  rw [List.take_length] at hinv
  repeat' (first | refine yt1 ?_ | refine yt0 ?_ | refine yt ?_ ?_ | refine yo ?_ | apply zn | refine yc ?_ | intro _)
  exact fin rfl (by rw [hinv])
def shiftS (a : Int) (x : GSpan) : GSpan := ⟨100 * a + x.Lo, 100 * a + x.Hi⟩
def takenL (l : List GSeat) (a : Nat) : List GSpan := match l with
 | [] => []
 | s :: l => s.Taken.map (shiftS a) ++ takenL l (a + 1)
theorem takenL_snoc : ∀ (l : List GSeat) (a : Nat) (s : GSeat), takenL (l ++ [s]) a = takenL l a ++ s.Taken.map (shiftS ((a + l.length : Nat) : Int))
 | [], a, s => by simp [takenL]
 | t :: l, a, s => by
  simp only [List.cons_append, takenL, takenL_snoc l (a + 1) s, List.append_assoc, List.length_cons]
  rw [show a + 1 + l.length = a + (l.length + 1) by omega]
theorem takenL_succ {l : List GSeat} {i : Nat} {s : GSeat} (h : l[i]? = some s) : takenL (l.take (i + 1)) 0 = takenL (l.take i) 0 ++ s.Taken.map (shiftS i) := by
 have hi := (List.getElem?_eq_some_iff.1 h).1
 rw [List.take_add_one, h, Option.toList_some, takenL_snoc, List.length_take, Nat.min_eq_left (by omega)]
 simp
theorem takenL_len : ∀ (l : List GSeat) (a : Nat), (takenL l a).length <= bulks GSeat.bulk l
 | [], a => by simp [takenL]
 | s :: l, a => by
  have := takenL_len l (a + 1)
  unfold bulks at this ⊢
  simp only [takenL, List.length_append, List.length_map, List.map_cons, List.sum_cons, List.length_cons, GSeat.bulk] at this ⊢
  omega
def SeatsR (l : List GSeat) : Prop := l.length = 3 /\ ∀ s ∈ l, ∀ x ∈ s.Taken, 1 <= x.Lo /\ x.Lo <= x.Hi /\ x.Hi <= 60
theorem takenL_r : ∀ {l : List GSeat} {a : Nat}, (∀ s ∈ l, ∀ x ∈ s.Taken, 1 <= x.Lo /\ x.Lo <= x.Hi /\ x.Hi <= 60) -> a + l.length <= 3 -> ∀ x ∈ takenL l a, SpanR x
 | [], a, _, _ => by simp [takenL]
 | s :: l, a, h, ha => fun x hx => by
  simp only [takenL, List.mem_append, List.mem_map] at hx
  simp only [List.length_cons] at ha
  rcases hx with ⟨y, hy, rfl⟩ | hx
  ·have := h s List.mem_cons_self y hy
   unfold SpanR shiftS; simp only; omega
  ·exact takenL_r (l := l) (fun s hs => h s (List.mem_cons_of_mem _ hs)) (by omega) x hx
theorem SpanR.hi {x : GSpan} (h : SpanR x) : HiR x := by unfold SpanR HiR at *; omega
theorem puts_hi : ∀ {l o : List GSpan}, (∀ y ∈ o, HiR y) -> (∀ y ∈ l, HiR y) -> ∀ z ∈ l.foldl putG o, HiR z
 | [], o, ho, _ => ho
 | x :: l, o, ho, hl => puts_hi (l := l) (o := putG o x) (putG_hi ho (hl x List.mem_cons_self)) fun y hy => hl y (List.mem_cons_of_mem _ hy)
theorem puts_len : ∀ (l o : List GSpan), (l.foldl putG o).length <= o.length + l.length
 | [], o => by simp
 | x :: l, o => by
  have h1 := puts_len l (putG o x)
  have h2 := putG_len o x
  simp only [List.foldl_cons, List.length_cons]
  omega
theorem q40_eq (h : GHouse) (hl : h.bulk <= 4000000) (hs : SeatsR h.Seats) : F_q40 [.st (h.cs .n)] = some ⟨[.one (GSpan.ls .y ((takenL h.Seats 0).foldl putG []))], []⟩ := by
 have hb0 : bulks GSeat.bulk h.Seats <= 4000000 := by unfold GHouse.bulk at hl; omega
 have htl := takenL_len h.Seats 0
 have htr : ∀ i, ∀ x ∈ takenL (h.Seats.take i) 0, SpanR x := fun i => takenL_r (fun s h2 => hs.2 s (List.mem_of_mem_take h2)) (by rw [List.length_take, hs.1]; omega)
 (refine fun_ev rfl ?_; show Ev m_q40.code _ _ _)
 repeat' (first | refine yt1 ?_ | refine yt0 ?_ | refine yt ?_ ?_ | refine yo ?_ | apply zn | refine yc ?_ | intro _)
 refine zfor (GSeat.el .n) h.Seats (fun i (o : List GSpan) => [(1, .box ⟨0, 0, 0⟩ (h.cs .n)), (3, .own ⟨0, 0, 0⟩ (GSpan.ls .y o)), (4, .x (iT i))]) (fun i o => o = (takenL (h.Seats.take i) 0).foldl putG []) [] rfl rfl ?_ ?_
 ·rintro i o s hx hlt hc _ hinv ih
  have hr := hs.2 s (List.mem_of_getElem? hx)
  have hi3 : (i : Int) <= 2 := by have := hs.1; omega
  have hsl : s.Taken.length <= 4000000 := Nat.le_trans (bulks_mem (f := GSeat.bulk) hx) hb0
  have hol : o.length <= 4000000 := by
   rw [hinv]
   refine Nat.le_trans (puts_len _ _) ?_
   have := takenL_len (h.Seats.take i) 0
   have h4 := pre_le (f := GSeat.bulk) (l := h.Seats) (i := i)
   unfold bulks at this; unfold pre at h4
   rw [List.length_take] at this
   simp only [List.length_nil]; omega
  have hoh : ∀ y ∈ o, HiR y := hinv ▸ puts_hi (by simp) fun y hy => (htr i y hy).hi
  have w1 : IntKind.i64.wrap (100 * (i : Int)) = 100 * i := w64 (by omega)
  have hor : 0 <= (i : Int) := Int.natCast_nonneg i
  repeat' (first | refine yi (GSeat.el .n s) (map_at hx) ?_ | refine yt1 ?_ | refine yt0 ?_ | refine yt ?_ ?_ | refine yo ?_ | apply zn | refine yc ?_ | intro _)
  refine zfor (GSpan.el .n) s.Taken (fun k (o : List GSpan) => [(1, .box ⟨0, 0, 0⟩ (h.cs .n)), (3, .own ⟨0, 0, 0⟩ (GSpan.ls .y o)), (4, .x (iT i)), (5, .x (iT k))]) (fun k o' => o' = ((s.Taken.take k).map (shiftS i)).foldl putG o) o rfl rfl ?_ ?_
  ·rintro k o' x hy hlt2 hc2 _ hinv2 ih2
   have hxr := hr x (List.mem_of_getElem? hy)
   have hol' : o'.length <= 4194304 := by
    have h1 := puts_len ((s.Taken.take k).map (shiftS i)) o
    have h2 := puts_len (takenL (h.Seats.take i) 0) []
    have h3 := takenL_len (h.Seats.take i) 0
    have h4 := pre_le (f := GSeat.bulk) (l := h.Seats) (i := i + 1)
    have h5 := pre_succ (f := GSeat.bulk) hx
    rw [<- hinv2, List.length_map, List.length_take] at h1
    rw [<- hinv] at h2
    unfold bulks at h3; unfold pre at h4 h5; unfold GSeat.bulk at h5
    rw [List.length_take] at h3
    simp only [List.length_nil] at h2
    unfold GSeat.bulk at h3 h4 hb0
    omega
   have hoh' : ∀ y ∈ o', HiR y := by
    rw [hinv2]
    refine puts_hi hoh fun y hy => ?_
    obtain ⟨z, hz, rfl⟩ := List.mem_map.1 hy
    have := hr z (List.mem_of_mem_take hz)
    unfold HiR shiftS; simp only; omega
   have hsh : HiR (shiftS i x) := by unfold HiR shiftS; simp only; omega
   have w2 : IntKind.i64.wrap (100 * (i : Int) + x.Lo) = 100 * i + x.Lo := w64 (by omega)
   have w3 : IntKind.i64.wrap (100 * (i : Int) + x.Hi) = 100 * i + x.Hi := w64 (by omega)
   have hput : F_q3q [.x (GSpan.ls .n o'), .st [iT (IntKind.i64.wrap (IntKind.i64.wrap (100 * (i : Int)) + x.Lo)), iT (IntKind.i64.wrap (IntKind.i64.wrap (100 * (i : Int)) + x.Hi))]] = some ⟨[.one (GSpan.ls .y (putG o' (shiftS i x)))], []⟩ := by
    rw [w1, w2, w3]; exact q3q_eq o' (shiftS i x) hol' hoh' hsh
   repeat' (first | refine yi (GSeat.el .n s) (map_at hx) ?_ | refine yi (GSpan.el .n x) (map_at hy) ?_ | refine yw g_q3q (hput) (callOk_l rfl (closeds_map (fun _ => rfl) _)) ?_ | refine yt1 ?_ | refine yt0 ?_ | refine yt ?_ ?_ | refine yo ?_ | apply zn | refine yc ?_ | intro _)
   refine ih2 (putG o' (shiftS i x)) ?_ _ _ ?_
   ·rw [hinv2, map_succ hy, List.foldl_append]; rfl
   ·rw [w64s (by omega)]; rfl
  ·rintro o' hc2 _ hinv2
   rw [List.take_length] at hinv2
   repeat' (first | refine yi (GSeat.el .n s) (map_at hx) ?_ | refine yt1 ?_ | refine yt0 ?_ | refine yt ?_ ?_ | refine yo ?_ | apply zn | refine yc ?_ | intro _)
   refine ih o' ?_ _ _ ?_
   ·rw [hinv2, hinv, takenL_succ hx, List.foldl_append]
   ·rw [w64s (by omega)]; rfl
 ·rintro o hc _ hinv
  rw [List.take_length] at hinv
  repeat' (first | refine yt1 ?_ | refine yt0 ?_ | refine yt ?_ ?_ | refine yo ?_ | apply zn | refine yc ?_ | intro _)
  exact fin rfl (by simp only [sub_all, hinv])
end Go.Wr

