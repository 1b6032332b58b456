/-
  What is proved: lemmas on the way to the laws of this seat. No condition.
-/
import Derived.Test.YtbghjecopkbhlaaGreatQa
import Derived.Test.YtbghjecopkbhlaaGreatRe
set_option linter.unusedVariables false
set_option linter.unusedSimpArgs false
namespace Go.Wr
set_option maxRecDepth 20000
theorem qt_eq (a b : GEntry) : F_qt [.st (a.cs .n), .st (b.cs .n)] = some ⟨[.one (.b (aheadE a b))], []⟩ := by
 (refine Z6j rfl ?_; show Ev m_qt.code _ _ _)
 repeat' (first | refine yy ?_ | refine ym ?_ | (apply ze;(iterate 5 exact rfl)) | (apply zf;(iterate 5 exact rfl)) | refine yp ?_ | refine yo ?_ | apply zn | refine yc ?_ | exact rfl | intro _)
 exact fin rfl rfl
theorem qs_eq (t : GTurn) (hl : t.bulk <= 4000000) : F_qs [.st (t.cs .n)] = some ⟨[.one (.b t.ok)], []⟩ := by
 have hl2 : t.Left.length <= 4194304 := by simp only [GTurn.bulk] at hl; omega
 (refine Z6j rfl ?_; show Ev m_qs.code _ _ _)
 repeat' (first | refine yy ?_ | refine ym ?_ | (apply ze;(iterate 5 exact rfl)) | (apply zf;(iterate 5 exact rfl)) | refine yp ?_ | refine yk g_q0 (q0_eq _ _ _) ?_ | refine yk g_ql (ql_eq t.Left _ _ _ hl2) ?_ | refine yo ?_ | apply zn | refine yc ?_ | exact rfl | intro _)
 refine fin rfl (outB ?_)
 have e : decide ((t.Left.length : Int) = 3) = decide (t.Left.length = 3) := iN3 _
 rw [GTurn.ok, numsOk, <- e]
theorem q3s_eq (t : GTurn) (hl : t.bulk <= 4000000) : F_q3s [.st (t.cs .n)] = some ⟨[.one (.b t.ok)], []⟩ := by
 have hl2 : t.Left.length <= 4194304 := by simp only [GTurn.bulk] at hl; omega
 (refine Z6j rfl ?_; show Ev m_q3s.code _ _ _)
 repeat' (first | refine yy ?_ | refine ym ?_ | (apply ze;(iterate 5 exact rfl)) | (apply zf;(iterate 5 exact rfl)) | refine yp ?_ | refine yk g_q3r (q3r_eq _) ?_ | refine yk g_q37 (q37_eq t.Left _ _ hl2) ?_ | refine yo ?_ | apply zn | refine yc ?_ | exact rfl | intro _)
 exact fin rfl rfl
theorem Zic {s : GSeat} {per : Int} (h1 : inB per 1 8 = true) (h2 : inB s.Merged 0 (setSize s.Taken) = true) (hl : s.bulk <= 4000000) : IntKind.i64.wrap (s.Merged + per) = s.Merged + per := by
 simp only [inB, Y2, decide_eq_true_eq] at h1 h2
 have h3 : setSize s.Taken <= 10000 * 4000000 := by
  unfold setSize
  split
  ·rename_i h
   have := Zk6 fun x hx => Zit h hx
   simp only [GSeat.bulk] at hl
   omega
  ·omega
 rw [w64 (by omega)]
theorem qr_eq (s : GSeat) (per : Int) (hl : s.bulk <= 4000000) : F_qr [.st (s.cs .n), .x (iT per)] = some ⟨[.one (.b (s.ok per))], []⟩ := by
 have hl2 : s.Taken.length <= 4194304 := by simp only [GSeat.bulk] at hl; omega
 (refine Z6j rfl ?_; show Ev m_qr.code _ _ _)
 repeat' (first | refine yy ?_ | refine ym ?_ | (apply ze;(iterate 5 exact rfl)) | (apply zf;(iterate 5 exact rfl)) | refine yp ?_ | refine yk g_q0 (q0_eq _ _ _) ?_ | refine yk g_qq (qq_eq s.Taken _ _ hl2) ?_ | refine yk g_qp (qp_eq s.Taken hl2) ?_ | refine yo ?_ | apply zn | refine yc ?_ | exact rfl | intro _)
 refine fin rfl (outB ?_)
 rw [GSeat.ok]
 cases h1 : inB per 1 8
 ·simp
 ·cases h2 : inB s.Merged 0 (setSize s.Taken)
  ·simp
  ·rw [Zic h1 h2 hl]
theorem q3q_eq (s : GSeat) (per : Int) (hl : s.bulk <= 4000000) : F_q3q [.st (s.cs .n), .x (iT per)] = some ⟨[.one (.b (s.ok per))], []⟩ := by
 have hl2 : s.Taken.length <= 4194304 := by simp only [GSeat.bulk] at hl; omega
 (refine Z6j rfl ?_; show Ev m_q3q.code _ _ _)
 repeat' (first | refine yy ?_ | refine ym ?_ | (apply ze;(iterate 5 exact rfl)) | (apply zf;(iterate 5 exact rfl)) | refine yp ?_ | refine yk g_q36 (q36_eq _ _ _) ?_ | refine yk g_q3p (q3p_eq s.Taken _ hl2) ?_ | refine yk g_q3o (q3o_eq s.Taken hl2) ?_ | refine yo ?_ | apply zn | refine yc ?_ | exact rfl | intro _)
 refine fin rfl (outB ?_)
 rw [GSeat.ok]
 cases h1 : inB per 1 8
 ·simp
 ·cases h2 : inB s.Merged 0 (setSize s.Taken)
  ·simp
  ·rw [Zic h1 h2 hl]
theorem Zkw {l : List GOut} {i : Nat} {x : GOut} {k w : Int} (h : l[i]? = some x) : toldN (l.take (i + 1)) k w = toldN (l.take i) k w + (if x.Entry.Key == k && x.Entry.Window == w then 1 else 0) := by
 unfold toldN; rw [Y70, h]; simp [List.countP_cons]
theorem Zkv (l : List GOut) (i : Nat) (k w : Int) : toldN (l.take i) k w <= i := Y77 List.countP_le_length (by rw [Y48]; omega)
theorem qw_eq (l : List GOut) (k w : Int) (hl : l.length <= 4194304) : F_qw [.x (GOut.ls .n l), .x (iT k), .x (iT w)] = some ⟨[.one (iT (toldN l k w))], []⟩ := by
 (refine Z6j rfl ?_; show Ev m_qw.code _ _ _)
 repeat' (first | refine yy ?_ | refine ym ?_ | (apply ze;(iterate 5 exact rfl)) | (apply zf;(iterate 5 exact rfl)) | refine yp ?_ | refine yt1 ?_ | refine yt0 ?_ | refine yt ?_ ?_ | refine yo ?_ | apply zn | refine yc ?_ | exact rfl | intro _)
 refine zfor (GOut.el .n) l (fun i (n : Nat) => [(1, .x (iT k)), (2, .x (iT w)), (7, .x (iT n)), (10, .x (GOut.ls .n l)), (11, .x (iT (l.map (GOut.el .n)).length)), (12, .x (iT i))]) (fun i n => n = toldN (l.take i) k w) 0 rfl rfl ?_ ?_
 ·rintro i n x hx hlt hc _ hinv ih
  have hn := Zkv l i k w
  repeat' (first | refine yy ?_ | refine ym ?_ | (apply ze;(iterate 5 exact rfl)) | (apply zf;(iterate 5 exact rfl)) | refine yp ?_ | refine yi (GOut.el .n x) (Zar hx) ?_ | refine yt1 ?_ | refine yt0 ?_ | refine yt ?_ ?_ | refine yo ?_ | apply zn | refine yc ?_ | exact rfl | intro _)
  ·rename_i h
   refine ih (n + 1) ?_ _ _ ?_
   ·rw [hinv, Zkw hx, h]; rfl
   ·rw [w64s (by omega), w64s (by omega)]; rfl
  ·rename_i h
   refine ih n ?_ _ _ ?_
   ·rw [hinv, Zkw hx, h]; rfl
   ·rw [w64s (by omega)]; rfl
 ·rintro n hc _ hinv
  rw [Y72] at hinv
  subst hinv
  repeat' (first | refine yy ?_ | refine ym ?_ | (apply ze;(iterate 5 exact rfl)) | (apply zf;(iterate 5 exact rfl)) | refine yp ?_ | refine yt1 ?_ | refine yt0 ?_ | refine yt ?_ ?_ | refine yo ?_ | apply zn | refine yc ?_ | exact rfl | intro _)
  exact fin rfl rfl
theorem q3v_eq (l : List GOut) (k w : Int) (hl : l.length <= 4194304) : F_q3v [.x (GOut.ls .n l), .x (iT k), .x (iT w)] = some ⟨[.one (iT (toldN l k w))], []⟩ := by
 (refine Z6j rfl ?_; show Ev m_q3v.code _ _ _)
 repeat' (first | refine yy ?_ | refine ym ?_ | (apply ze;(iterate 5 exact rfl)) | (apply zf;(iterate 5 exact rfl)) | refine yp ?_ | refine yt1 ?_ | refine yt0 ?_ | refine yt ?_ ?_ | refine yo ?_ | apply zn | refine yc ?_ | exact rfl | intro _)
 refine zfor (GOut.el .n) l (fun i (n : Nat) => [(0, .x (GOut.ls .n l)), (1, .x (iT k)), (2, .x (iT w)), (7, .x (iT n)), (8, .x (iT i))]) (fun i n => n = toldN (l.take i) k w) 0 rfl rfl ?_ ?_
 ·rintro i n x hx hlt hc _ hinv ih
  have hn := Zkv l i k w
  repeat' (first | refine yy ?_ | refine ym ?_ | (apply ze;(iterate 5 exact rfl)) | (apply zf;(iterate 5 exact rfl)) | refine yp ?_ | refine yi (GOut.el .n x) (Zar hx) ?_ | refine yk g_q3u (q3u_eq _) ?_ | refine yt1 ?_ | refine yt0 ?_ | refine yt ?_ ?_ | refine yo ?_ | apply zn | refine yc ?_ | exact rfl | intro _)
  refine ih (n + if x.Entry.Key == k && x.Entry.Window == w then 1 else 0) ?_ _ _ ?_
  ·rw [hinv, Zkw hx]
  ·have : IntKind.i64.wrap (n + if (x.Entry.Key == k && x.Entry.Window == w) = true then 1 else 0) = ((n + if (x.Entry.Key == k && x.Entry.Window == w) = true then 1 else 0 : Nat) : Int) := by
    rw [w64 (by split <;> omega)]; split <;> simp
   rw [w64s (by omega), <- this]; rfl
 ·rintro n hc _ hinv
  rw [Y72] at hinv
  subst hinv
  repeat' (first | refine yy ?_ | refine ym ?_ | (apply ze;(iterate 5 exact rfl)) | (apply zf;(iterate 5 exact rfl)) | refine yp ?_ | refine yt1 ?_ | refine yt0 ?_ | refine yt ?_ ?_ | refine yo ?_ | apply zn | refine yc ?_ | exact rfl | intro _)
  exact fin rfl rfl
theorem q3y_eq (a b : List GSpan) (hl : a.length <= 4194304) : F_q3y [.x (GSpan.ls .n a), .x (GSpan.ls .n b)] = some ⟨[.one (.b (decide (a = b)))], []⟩ := by
 (refine Z6j rfl ?_; show Ev m_q3y.code _ _ _)
 repeat' (first | refine yt1 ?_ | refine yt0 ?_ | refine yt ?_ ?_ | refine yo ?_ | apply zn | refine yc ?_ | intro _)
 ·refine fin rfl (outB ?_)
  rename_i h
  have h2 : a ≠ b := Zbo h
  simp [h2]
 ·have hlen : a.length = b.length := by rename_i h; exact Z3m h
  refine zfor (GSpan.el .n) a (fun i (_ : Unit) => [(0, .x (GSpan.ls .n a)), (1, .x (GSpan.ls .n b)), (5, .x (iT i))]) (fun i _ => a.take i = b.take i) () (by simp) rfl ?_ ?_
  ·rintro i _ x hx hlt hc _ hinv ih
   have hy := Y34 (show i < b.length by omega)
   generalize b[i]'(by omega) = y at hy
   repeat' (first | refine yi (GSpan.el .n x) (Zar hx) ?_ | refine yi (GSpan.el .n y) (Zar hy) ?_ | refine yt1 ?_ | refine yt0 ?_ | refine yt ?_ ?_ | refine yo ?_ | apply zn | refine yc ?_ | intro _)
   ·rename_i h
    have h2 : a ≠ b := Zbn hx hy (by intro e; subst e; simp at h)
    exact fin rfl (outB (by simp [h2]))
   ·rename_i h
    have hxy : x = y := by rcases x with ⟨x1, x2⟩; rcases y with ⟨y1, y2⟩; simpa using h
    refine ih () (Z3n hinv hx (hxy ▸ hy)) _ _ ?_
    rw [w64s (by omega)]; rfl
  ·rintro _ hc _ hinv
   repeat' (first | refine yt1 ?_ | refine yt0 ?_ | refine yt ?_ ?_ | refine yo ?_ | apply zn | refine yc ?_ | intro _)
   refine fin rfl (outB ?_)
   simp [Z3l hinv hlen (Nat.le_refl _)]
theorem qx_eq (a b : List GSpan) (hl : a.length <= 4194304) : F_qx [.x (GSpan.ls .n a), .x (GSpan.ls .n b)] = some ⟨[.one (.b (decide (a = b)))], []⟩ := by
 (refine Z6j rfl ?_; show Ev m_qx.code _ _ _)
 repeat' (first | refine yt1 ?_ | refine yt0 ?_ | refine yt ?_ ?_ | refine yo ?_ | apply zn | refine yc ?_ | intro _)
 ·refine fin rfl (outB ?_)
  rename_i h
  have h2 : a ≠ b := Zbo h
  simp [h2]
 ·have hlen : a.length = b.length := by rename_i h; exact Z3m h
  refine zfor (GSpan.el .n) a (fun i (_ : Unit) => [(0, .x (GSpan.ls .n a)), (1, .x (GSpan.ls .n b)), (12, .x (iT (a.map (GSpan.el .n)).length)), (13, .x (iT i))]) (fun i _ => a.take i = b.take i) () (by simp) rfl ?_ ?_
  ·rintro i _ x hx hlt hc _ hinv ih
   have hy := Y34 (show i < b.length by omega)
   generalize b[i]'(by omega) = y at hy
   repeat' (first | refine yi (GSpan.el .n x) (Zar hx) ?_ | refine yi (GSpan.el .n y) (Zar hy) ?_ | refine yt1 ?_ | refine yt0 ?_ | refine yt ?_ ?_ | refine yo ?_ | apply zn | refine yc ?_ | intro _)
   ·rename_i h
    have h2 : a ≠ b := Zbn hx hy (by intro e; subst e; simp at h)
    exact fin rfl (outB (by simp [h2]))
   ·rename_i h
    have hxy : x = y := by rcases x with ⟨x1, x2⟩; rcases y with ⟨y1, y2⟩; simpa using h
    refine ih () (Z3n hinv hx (hxy ▸ hy)) _ _ ?_
    rw [w64s (by omega)]; rfl
  ·rintro _ hc _ hinv
   repeat' (first | refine yt1 ?_ | refine yt0 ?_ | refine yt ?_ ?_ | refine yo ?_ | apply zn | refine yc ?_ | intro _)
   refine fin rfl (outB ?_)
   simp [Z3l hinv hlen (Nat.le_refl _)]
theorem Zj {l : List GEntry} {i : Nat} {e : GEntry} (hx : l[i]? = some e) (h : e.ok = false) : apartAt l i = false := by simp [apartAt, hx, h]
theorem qd_eq (l : List GEntry) (hl : bulks GEntry.bulk l <= 4000000) : F_qd [.x (GEntry.ls .n l)] = some ⟨[.one (.b (entsApart l))], []⟩ := by
 have hlen := Z1t GEntry.bulk l
 (refine Z6j rfl ?_; show Ev m_qd.code _ _ _)
 repeat' (first | refine yt1 ?_ | refine yt0 ?_ | refine yt ?_ ?_ | refine yo ?_ | apply zn | refine yc ?_ | intro _)
 refine zfor (GEntry.el .n) l (fun i (_ : Unit) => [(0, .x (GEntry.ls .n l)), (7, .x (GEntry.ls .n l)), (8, .x (iT (l.map (GEntry.el .n)).length)), (9, .x (iT i))]) (fun i _ => ∀ j, j < i -> apartAt l j = true) () (by omega) rfl ?_ ?_
 ·rintro i _ e hx hlt hc _ hinv ih
  have hbe : e.bulk <= 4000000 := Y77 (Z1v hx) hl
  have hbi : e.Ids.length <= 4194304 := by have : e.Ids.length <= e.bulk := by { unfold GEntry.bulk; omega }; omega
  have hsl : 0 <= i /\ i <= (l.map (GEntry.el .n)).length := by rw [Y45]; omega
  repeat' (first | refine yi (GEntry.el .n e) (Zar hx) ?_ | refine yk g_qb (qb_eq e hbe) ?_ | (apply zu;exact rfl;exact Z1k rfl rfl;exact rfl;exact (hsl);exact rfl;exact Zk5;exact rfl;exact rfl) | refine yt1 ?_ | refine yt0 ?_ | refine yt ?_ ?_ | refine yo ?_ | apply zn | refine yc ?_ | intro _)
  ·refine fin rfl (outB ?_)
   rename_i h
   have h2 : e.ok = false := by simpa using h
   rw [entsApart, Ze hlt (Zj hx h2)]
  ·rename_i h
   have h2 : e.ok = true := by simpa using h
   refine zfor (GEntry.el .n) (l.take i) (fun k (_ : Unit) => [(0, .x (GEntry.ls .n l)), (4, .box ⟨0, 0, 0⟩ (e.cs .n)), (7, .x (GEntry.ls .n l)), (8, .x (iT (l.map (GEntry.el .n)).length)), (9, .x (iT i)), (19, .x (GEntry.ls .n (l.take i))), (20, .x (iT ((l.take i).map (GEntry.el .n)).length)), (21, .x (iT k))]) (fun k _ => ((l.take i).take k).all (fun o => setApart e.Ids o.Ids) = true) () (by simp) rfl ?_ ?_
   ·rintro k _ o hy hlt2 hc2 _ hinv2 ih2
    have hbo : o.Ids.length <= 4194304 := by
     have h3 := Y62 hy
     obtain ⟨j, hj⟩ := Y59.1 (Y63 h3)
     have := Z1v (f := GEntry.bulk) hj
     unfold GEntry.bulk at this; unfold GEntry.bulk at hl; omega
    repeat' (first | refine yi (GEntry.el .n o) (Zar hy) ?_ | refine yk g_qc (qc_eq e.Ids o.Ids hbi hbo) ?_ | refine yt1 ?_ | refine yt0 ?_ | refine yt ?_ ?_ | refine yo ?_ | apply zn | refine yc ?_ | intro _)
    ·refine fin rfl (outB ?_)
     rename_i h
     have h3 : setApart e.Ids o.Ids = false := by simpa using h
     rw [entsApart, Ze hlt]
     rw [apartAt, hx]
     simp only [Zbs (p := fun o => setApart e.Ids o.Ids) hy h3, Y3]
    ·rename_i h
     have h3 : setApart e.Ids o.Ids = true := by simpa using h
     refine ih2 () (Zkj (p := fun o => setApart e.Ids o.Ids) hinv2 hy h3) _ _ ?_
     rw [w64s (by rw [Y48] at hlt2; omega)]; rfl
   ·rintro _ hc2 _ hinv2
    repeat' (first | refine yt1 ?_ | refine yt0 ?_ | refine yt ?_ ?_ | refine yo ?_ | apply zn | refine yc ?_ | intro _)
    refine ih () (Zl8 hinv ?_) _ _ ?_
    ·rw [apartAt, hx]
     simp only [h2, Zkl hinv2, Y4]
    ·rw [w64s (by omega)]; rfl
 ·rintro _ hc _ hinv
  repeat' (first | refine yt1 ?_ | refine yt0 ?_ | refine yt ?_ ?_ | refine yo ?_ | apply zn | refine yc ?_ | intro _)
  refine fin rfl (outB ?_)
  rw [entsApart, Zf hinv]
end Go.Wr
namespace Go.Wr
set_option maxRecDepth 20000
theorem qn_eq (r : GRow) (hl : r.bulk <= 4000000) : F_qn [.st (r.cs .n)] = some ⟨[.one (.b r.ok)], []⟩ := by
 simp only [GRow.bulk] at hl
 (refine Z6j rfl ?_; show Ev m_qn.code _ _ _)
 repeat' (first | refine yy ?_ | refine ym ?_ | (apply ze;(iterate 5 exact rfl)) | (apply zf;(iterate 5 exact rfl)) | refine yp ?_ | refine yk g_qd (qd_eq r.Lst hl) ?_ | refine yo ?_ | apply zn | refine yc ?_ | exact rfl | intro _)
 refine fin rfl (outB ?_)
 have e : decide (((r.Lst.map (GEntry.el .n)).length : Int) <= 24) = decide (r.Lst.length <= 24) := by rw [Y45, Y7]; simp; omega
 rw [GRow.ok, e]
theorem q3j_eq (r : GRow) (hl : r.bulk <= 4000000) : F_q3j [.st (r.cs .n)] = some ⟨[.one (.b r.ok)], []⟩ := by
 simp only [GRow.bulk] at hl
 have hlen := Z1t GEntry.bulk r.Lst
 (refine Z6j rfl ?_; show Ev m_q3j.code _ _ _)
 repeat' (first | refine yt1 ?_ | refine yt0 ?_ | refine yt ?_ ?_ | refine yo ?_ | apply zn | refine yc ?_ | intro _)
 ·refine fin rfl (outB ?_)
  rename_i h
  have : ¬ r.Lst.length <= 24 := by simp at h; omega
  simp [GRow.ok, this]
 ·rename_i h
  have h24 : decide (r.Lst.length <= 24) = true := by simp at h ⊢; omega
  rw [GRow.ok, h24, Y15]
  refine zfor (GEntry.el .n) r.Lst (fun i (_ : Unit) => [(1, .box ⟨0, 0, 0⟩ (r.cs .n)), (3, .x (iT i))]) (fun i _ => ∀ j, j < i -> apartAt r.Lst j = true) () (by omega) rfl ?_ ?_
  ·rintro i _ e hx hlt hc _ hinv ih
   have hbe : e.bulk <= 4000000 := Y77 (Z1v hx) hl
   have hbi : e.Ids.length <= 4194304 := by have : e.Ids.length <= e.bulk := by { unfold GEntry.bulk; omega }; omega
   repeat' (first | refine yi (GEntry.el .n e) (Zar hx) ?_ | refine yk g_q3i (q3i_eq e hbe) ?_ | refine yt1 ?_ | refine yt0 ?_ | refine yt ?_ ?_ | refine yo ?_ | apply zn | refine yc ?_ | intro _)
   ·refine fin rfl (outB ?_)
    rename_i h
    have h2 : e.ok = false := by simpa using h
    rw [entsApart, Ze hlt (Zj hx h2)]
   ·rename_i h
    have h2 : e.ok = true := by simpa using h
    refine zfor (GEntry.el .n) (r.Lst.take i) (fun k (_ : Unit) => [(1, .box ⟨0, 0, 0⟩ (r.cs .n)), (3, .x (iT i)), (4, .x (iT k))]) (fun k _ => ((r.Lst.take i).take k).all (fun o => setApart e.Ids o.Ids) = true) () (by simp) rfl ?_ ?_
    ·rintro k _ o hy hlt2 _ _ hinv2 ih2
     rw [Y48] at hlt2
     have hc2 : decide ((k : Int) < (i : Int)) = true := by simp; omega
     have hy2 : r.Lst[k]? = some o := by rwa [List.getElem?_take_of_lt (by omega)] at hy
     have hbo : o.Ids.length <= 4194304 := by
      have := Z1v (f := GEntry.bulk) hy2
      unfold GEntry.bulk at this; unfold GEntry.bulk at hl; omega
     repeat' (first | refine yi (GEntry.el .n o) (Zar hy2) ?_ | refine yi (GEntry.el .n e) (Zar hx) ?_ | refine yk g_q3a (q3a_eq e.Ids o.Ids hbi hbo) ?_ | refine yt1 ?_ | refine yt0 ?_ | refine yt ?_ ?_ | refine yo ?_ | apply zn | refine yc ?_ | intro _)
     ·refine fin rfl (outB ?_)
      rename_i h
      have h3 : setApart e.Ids o.Ids = false := by simpa using h
      rw [entsApart, Ze hlt]
      rw [apartAt, hx]
      simp only [Zbs (p := fun o => setApart e.Ids o.Ids) hy h3, Y3]
     ·rename_i h
      have h3 : setApart e.Ids o.Ids = true := by simpa using h
      refine ih2 () (Zkj (p := fun o => setApart e.Ids o.Ids) hinv2 hy h3) _ _ ?_
      rw [w64s (by omega)]; rfl
    ·rintro _ _ _ hinv2
     have hc2 : decide (((r.Lst.take i).length : Int) < (i : Int)) = false := by rw [Y48]; simp; omega
     repeat' (first | refine yt1 ?_ | refine yt0 ?_ | refine yt ?_ ?_ | refine yo ?_ | apply zn | refine yc ?_ | intro _)
     refine ih () (Zl8 hinv ?_) _ _ ?_
     ·rw [apartAt, hx]
      simp only [h2, Zkl hinv2, Y4]
     ·rw [w64s (by omega)]; rfl
  ·rintro _ hc _ hinv
   repeat' (first | refine yt1 ?_ | refine yt0 ?_ | refine yt ?_ ?_ | refine yo ?_ | apply zn | refine yc ?_ | intro _)
   refine fin rfl (outB ?_)
   rw [entsApart, Zf hinv]
theorem q2_eq (x : GSpan) (n : Int) : F_q2 [.st (x.cs .n), .x (.p (iT n))] = some ⟨[.one (.b (inB n x.Lo x.Hi))], []⟩ := by
 (refine Z6j rfl ?_; show Ev m_q2.code _ _ _)
 repeat' (first | refine yk g_q0 (q0_eq _ _ _) ?_ | refine yo ?_ | apply zn | refine yc ?_ | intro _)
 exact fin rfl rfl
theorem q3_eq (s : List GSpan) (n : Int) (hl : s.length <= 4194304) (k : Int) (hk : k = match s.findIdx? (fun x => inB n x.Lo x.Hi) with | some i => (i : Int) | none => -1) : F_q3 [.x (GSpan.ls .n s), .x (.f g_q2 [.p (iT n)])] = some ⟨[.one (iT k)], []⟩ := by
 (refine Z6j rfl ?_; show Ev m_q3.code _ _ _)
 repeat' (first | refine yt1 ?_ | refine yt0 ?_ | refine yt ?_ ?_ | refine yo ?_ | apply zn | refine yc ?_ | intro _)
 refine zfor (GSpan.el .n) s (fun i (_ : Unit) => [(0, .x (GSpan.ls .n s)), (1, .x (.f g_q2 [.p (iT n)])), (7, .x (iT (s.map (GSpan.el .n)).length)), (8, .x (iT i))]) (fun i _ => ∀ j x, j < i -> s[j]? = some x -> inB n x.Lo x.Hi = false) () (by omega) rfl ?_ ?_
 ·rintro i _ x hx hlt hc _ hinv ih
  repeat' (first | refine yi (GSpan.el .n x) (Zar hx) ?_ | refine yd (q2_eq x n) ?_ | refine yt1 ?_ | refine yt0 ?_ | refine yt ?_ ?_ | refine yo ?_ | apply zn | refine yc ?_ | intro _)
  ·refine fin rfl (outI ?_)
   rename_i h
   have h3 : s.findIdx? (fun x => inB n x.Lo x.Hi) = some i := by
    rw [List.findIdx?_eq_some_iff_getElem]
    refine ⟨hlt, ?_, fun j hj => ?_⟩
    ·rw [(Y36.1 hx).2]; exact h
    ·rw [hinv j _ hj (Y34 (by omega))]; simp
   rw [hk, h3]
  ·rename_i h
   refine ih () ?_ _ _ ?_
   ·intro j y hj hy
    rcases Nat.lt_succ_iff_lt_or_eq.1 hj with h1 | rfl
    ·exact hinv j y h1 hy
    ·rw [hx] at hy; cases hy; exact h
   ·rw [w64s (by omega)]; rfl
 ·rintro _ hc _ hinv
  repeat' (first | refine yt1 ?_ | refine yt0 ?_ | refine yt ?_ ?_ | refine yo ?_ | apply zn | refine yc ?_ | intro _)
  refine fin rfl (outI ?_)
  have h3 : s.findIdx? (fun x => inB n x.Lo x.Hi) = none := by
   rw [List.findIdx?_eq_none_iff]
   intro x hx
   obtain ⟨j, hj⟩ := Y59.1 hx
   exact hinv j x (Y36.1 hj).1 hj
  rw [hk, h3]
theorem q4_eq (s : List GSpan) (n : Int) (hl : s.length <= 4194304) : F_q4 [.x (GSpan.ls .n s), .x (.f g_q2 [.p (iT n)])] = some ⟨[.one (.b (setHas s n))], []⟩ := by
 (refine Z6j rfl ?_; show Ev m_q4.code _ _ _)
 repeat' (first | refine yk g_q3 (q3_eq s n hl _ rfl) ?_ | refine yo ?_ | apply zn | refine yc ?_ | intro _)
 refine fin rfl (outB ?_)
 unfold setHas
 cases h : s.findIdx? (fun x => inB n x.Lo x.Hi) with
 | none =>
  rw [List.findIdx?_eq_none_iff] at h
  rw [eq_comm]
  show _ = false
  rw [List.any_eq_false]
  intro x hx; rw [h x hx]; simp
 | some i =>
  rw [List.findIdx?_eq_some_iff_getElem] at h
  obtain ⟨hi, h, _⟩ := h
  rw [eq_comm, Y20.2 ⟨_, Y40 hi, h⟩]
  simp
theorem q5_eq (s : List GSpan) (n : Int) (hl : s.length <= 4194304) : F_q5 [.x (GSpan.ls .n s), .x (iT n)] = some ⟨[.one (.b (setHas s n))], []⟩ := by
 (refine Z6j rfl ?_; show Ev m_q5.code _ _ _)
 repeat' (first | refine yk g_q4 (q4_eq s n hl) ?_ | refine yo ?_ | apply zn | refine yc ?_ | intro _)
 exact fin rfl rfl
theorem Zjb (s : List GSpan) : (sortG s).length = s.length := by rw [sortG, Y45, Zje, Y45]
theorem qi_eq (s : List GSpan) (hl : s.length <= 4194304) : F_qi [.mu (GSpan.ls .y s), .x (.f g_qh [])] = some ⟨[], [[GSpan.ls .y (sortG s)]]⟩ := by
 have h := Zj8 (gc := g_qh) (s.map fun x => (x.Lo, x.Hi)) (by rw [Y45]; omega)
 rw [Y51] at h
 rw [F_qi, Zac]
 refine h.trans ?_
 rw [sortG, GSpan.ls, Y51]
 rfl
theorem Zjc (s : List GSpan) : ∀ x ∈ sortG s, x ∈ s := fun x hx => by
 obtain ⟨p, hp, rfl⟩ := Y60.1 hx
 have := (Zjf (s.map fun x => (x.Lo, x.Hi))).1.mem_iff.1 hp
 obtain ⟨y, hy, rfl⟩ := Y60.1 this
 exact hy
end Go.Wr
namespace Go.Wr
set_option maxRecDepth 20000
theorem Zak {ob : Ob} (l : List GSpan) (x : GSpan) : GSpan.ls ob (l ++ [x]) = .l ob 2 (l.map (GSpan.el ob) ++ [GSpan.el ob x]) := by rw [GSpan.ls, Y49]; rfl
theorem qj_eq (s : List GSpan) (hl : s.length <= 4194304) (hb : ∀ x ∈ s, HiR x) : F_qj [.x (GSpan.ls .n s)] = some ⟨[.one (GSpan.ls .y (unionG s))], []⟩ := by
 have hls := Zjb s
 have hbs : ∀ x ∈ sortG s, HiR x := fun x hx => hb x (Zjc s x hx)
 (refine Z6j rfl ?_; show Ev m_qj.code _ _ _)
 repeat' (first | refine yy ?_ | refine ym ?_ | (apply ze;(iterate 5 exact rfl)) | (apply zf;(iterate 5 exact rfl)) | refine yp ?_ | refine yk g_qe (qe_eq s hl) ?_ | (apply zkM g_qi;(iterate 6 exact rfl);exact (qi_eq s hl);(iterate 3 exact rfl)) | refine yt1 ?_ | refine yt0 ?_ | refine yt ?_ ?_ | refine yo ?_ | apply zn | refine yc ?_ | exact rfl | intro _)
 refine zfor (GSpan.el .n) (sortG s) (fun i (out : List GSpan) => [(3, .own ⟨0, 0, 0⟩ (GSpan.ls .y (sortG s))), (4, .own ⟨0, 0, 0⟩ (GSpan.ls .y out)), (12, .w 3 ⟨0, 0, 0⟩ [] 2 0 ((sortG s).map (GSpan.el .n)).length), (13, .x (iT ((sortG s).map (GSpan.el .n)).length)), (14, .x (iT i))]) (fun i out => out = ((sortG s).take i).foldl putLast [] /\ (∀ x ∈ out, HiR x) /\ out.length <= i) [] (by simp) rfl ?_ ?_
 ·rintro i out x hx hlt hc _ ⟨hinv, hbo, hlo⟩ ih
  have hbx := hbs x (Y62 hx)
  have hnext : putLast out x = ((sortG s).take (i + 1)).foldl putLast [] /\ (∀ y ∈ putLast out x, HiR y) /\ (putLast out x).length <= i + 1 := ⟨by rw [hinv, Z5y hx], Zdn hbo hbx, Y77 (Zdo _ _) (by omega)⟩
  rcases List.eq_nil_or_concat out with rfl | ⟨o, p, rfl⟩
  ·have h0 : decide (((([] : List GSpan).map (GSpan.el .y)).length : Int) > 0) = !true := rfl
   have h1 : decide (((([] : List GSpan).map (GSpan.el .y)).length : Int) > 0) = false := rfl
   have h2 : false = false := rfl
   repeat' (first | refine yy ?_ | refine ym ?_ | (apply ze;(iterate 5 exact rfl)) | (apply zf;(iterate 5 exact rfl)) | refine yp ?_ | refine yx (Zcs hlt) ?_ | refine yL (GSpan.cs .n x) (Zbj (Zar hx)) ?_ | (apply zv;(iterate 7 exact rfl);exact (Zo (f := GSpan.el .n) (l := [x]) (es := []) (by simp));exact (rfl);exact rfl;exact rfl) | refine yt1 ?_ | refine yt0 ?_ | refine yt ?_ ?_ | refine yo ?_ | apply zn | refine yc ?_ | exact rfl | intro _)
   refine ih _ hnext _ _ ?_
   rw [w64s (by omega)]; rfl
  ·rw [List.concat_eq_append] at hinv hbo hlo hnext ⊢
   have hbp := hbo p (by simp)
   have h0 : decide ((((o ++ [p]).map (GSpan.el .y)).length : Int) > 0) = true := by simp
   have hk : IntKind.i64.wrap ((((o ++ [p]).map (GSpan.el .y)).length : Int) - 1) = (o.length : Int) := by
    rw [Y41] at hlo; rw [Y45, Y41, w64 (by simp at hlo ⊢; omega)]; simp
   have hk0 : 0 <= IntKind.i64.wrap ((((o ++ [p]).map (GSpan.el .y)).length : Int) - 1) := by rw [hk]; omega
   have hkl : IntKind.i64.wrap ((((o ++ [p]).map (GSpan.el .y)).length : Int) - 1) < (((o ++ [p]).map (GSpan.el .y)).length : Nat) := by rw [hk]; simp; omega
   have happ : ((o ++ [p]).map (GSpan.el .y)).length + ([x].map (GSpan.el .n)).length < lenMax := by simp [lenMax]; simp at hlo; omega
   have hmx : (if x.Hi > p.Hi then x.Hi else p.Hi) = max p.Hi x.Hi := by split <;> omega
   have hw : IntKind.i64.wrap (p.Hi + 1) = p.Hi + 1 := w64 (by unfold HiR at hbp; omega)
   repeat' (first | refine yy ?_ | refine ym ?_ | (apply ze;(iterate 5 exact rfl)) | (apply zf;(iterate 5 exact rfl)) | refine yp ?_ | refine yz (hk0) (hkl) ?_ | refine yx (Zcs hlt) ?_ | refine yL (GSpan.cs .n x) (Zbj (Zar hx)) ?_ | refine yl (GSpan.el .n p) (Z9g o p hk) ?_ | refine yS (GSpan.el .n p) (GSpan.ls .y (o ++ [⟨p.Lo, if x.Hi > p.Hi then x.Hi else p.Hi⟩])) (Z9g o p hk) (Z9h o p hk) (Z9i o p ⟨p.Lo, if x.Hi > p.Hi then x.Hi else p.Hi⟩ hk rfl) ?_ | (apply zv;(iterate 7 exact rfl);exact (happ);exact (rfl);exact rfl;exact rfl) | refine yt1 ?_ | refine yt0 ?_ | refine yt ?_ ?_ | refine yo ?_ | apply zn | refine yc ?_ | exact rfl | intro _)
   ·rename_i h
    rw [hw] at h
    have hn := hnext
    rw [Zdr, if_pos (of_decide_eq_true h)] at hn
    refine ih _ hn _ _ ?_
    rw [<- hmx, w64s (by omega)]; rfl
   ·rename_i h
    rw [hw] at h
    have hn := hnext
    rw [Zdr, if_neg (of_decide_eq_false h)] at hn
    refine ih _ hn _ _ ?_
    rw [w64s (by omega), Zak]; rfl
 ·rintro out hc _ ⟨hinv, _, _⟩
  rw [Y72] at hinv
  repeat' (first | refine yy ?_ | refine ym ?_ | (apply ze;(iterate 5 exact rfl)) | (apply zf;(iterate 5 exact rfl)) | refine yp ?_ | refine yt1 ?_ | refine yt0 ?_ | refine yt ?_ ?_ | refine yo ?_ | apply zn | refine yc ?_ | exact rfl | intro _)
  refine fin rfl ?_
  simp only [Zk0, hinv]; rfl
theorem qk_eq (l : List GEntry) (hl : bulks GEntry.bulk l <= 4000000) (hb : ∀ e ∈ l, ∀ x ∈ e.Ids, HiR x) : F_qk [.x (GEntry.ls .n l)] = some ⟨[.one (GSpan.ls .y (idsOf l))], []⟩ := by
 have hlen := Z1t GEntry.bulk l
 have hfl : (l.flatMap GEntry.Ids).length <= 4000000 := by
  rw [List.flatMap_def]
  exact Y77 (Z5q (g := GEntry.bulk) (fun e => by unfold GEntry.bulk; omega) l) hl
 have hbb : ∀ x ∈ l.flatMap GEntry.Ids, HiR x := fun x hx => by
  obtain ⟨e, he, hx⟩ := Y58.1 hx
  exact hb e he x hx
 (refine Z6j rfl ?_; show Ev m_qk.code _ _ _)
 repeat' (first | refine yt1 ?_ | refine yt0 ?_ | refine yt ?_ ?_ | refine yo ?_ | apply zn | refine yc ?_ | intro _)
 refine zfor (GEntry.el .n) l (fun i (out : List GSpan) => [(3, .own ⟨0, 0, 0⟩ (GSpan.ls .y out)), (6, .x (GEntry.ls .n l)), (7, .x (iT (l.map (GEntry.el .n)).length)), (8, .x (iT i))]) (fun i out => out = ((l.take i).map GEntry.Ids).flatten) [] (by simp) rfl ?_ ?_
 ·rintro i out e hx hlt hc _ hinv ih
  have hb1 := Z5o (f := GEntry.Ids) hx
  rw [<- List.flatMap_def] at hb1
  have happ : (out.map (GSpan.el .y)).length + (e.Ids.map (GSpan.el .n)).length < lenMax := by
   rw [Y45, Y45, hinv]; unfold lenMax; rw [<- List.flatMap_def] at hb1 ⊢; omega
  repeat' (first | refine yi (GEntry.el .n e) (Zar hx) ?_ | (apply zvn;(iterate 8 exact rfl);exact (happ);exact rfl;exact rfl) | refine yt1 ?_ | refine yt0 ?_ | refine yt ?_ ?_ | refine yo ?_ | apply zn | refine yc ?_ | intro _)
  refine ih (out ++ e.Ids) (by rw [hinv, Z5u hx]) _ _ ?_
  rw [w64s (by omega), GSpan.ls, Y49]; rfl
 ·rintro out hc _ hinv
  rw [Y72, <- List.flatMap_def] at hinv
  have hlo : out.length <= 4194304 := by rw [hinv]; omega
  repeat' (first | refine yw g_qj (qj_eq out hlo (hinv ▸ hbb)) (Z28 rfl (Z2p (fun _ => rfl) _)) ?_ | refine yt1 ?_ | refine yt0 ?_ | refine yt ?_ ?_ | refine yo ?_ | apply zn | refine yc ?_ | intro _)
  exact fin rfl (by rw [idsOf, <- hinv])
end Go.Wr
namespace Go.Wr
set_option maxRecDepth 20000
def rowIds (r : GRow) : List GSpan := if r.ok then idsOf r.Lst else []
theorem Z3i {l : List GEntry} (h : entsApart l = true) {e : GEntry} (he : e ∈ l) : e.ok = true := by
 obtain ⟨i, hi⟩ := Y59.1 he
 have := allIx_iff.1 h i (Y36.1 hi).1
 simp only [apartAt, hi, Y2] at this
 exact this.1
theorem ok_ids {e : GEntry} (h : e.ok = true) : setOk e.Ids = true := by
 simp only [GEntry.ok, Y2] at h; exact h.1.1.2
theorem Ziu {s : List GSpan} (h : setOk s = true) : ∀ x ∈ s, HiR x := fun x hx => by
 have := Zit h hx; unfold HiR; omega
theorem Z3j {l : List GEntry} (h : entsApart l = true) : ∀ e ∈ l, ∀ x ∈ e.Ids, HiR x := fun e he => Ziu (ok_ids (Z3i h he))
theorem Zgy {r : GRow} (h : r.ok = true) : entsApart r.Lst = true := by
 simp only [GRow.ok, Y2] at h; exact h.2
theorem qo_eq (r : GRow) (hl : r.bulk <= 4000000) : F_qo [.st (r.cs .n)] = some ⟨[.one (GSpan.ls .y (rowIds r))], []⟩ := by
 have hb : r.ok = true -> ∀ e ∈ r.Lst, ∀ x ∈ e.Ids, HiR x := fun h => Z3j (Zgy h)
 have hl2 : bulks GEntry.bulk r.Lst <= 4000000 := hl
 cases h : r.ok with
 | false =>
  have hr := qn_eq r hl
  rw [h] at hr
  have h1 : (!false) = true := rfl
  (refine Z6j rfl ?_; show Ev m_qo.code _ _ _)
  repeat' (first | refine yk g_qn (hr) ?_ | refine yt1 ?_ | refine yt0 ?_ | refine yt ?_ ?_ | refine yo ?_ | apply zn | refine yc ?_ | intro _)
  exact fin rfl (by rw [rowIds, h]; rfl)
 | true =>
  have hr := qn_eq r hl
  rw [h] at hr
  have h1 : (!true) = false := rfl
  (refine Z6j rfl ?_; show Ev m_qo.code _ _ _)
  repeat' (first | refine yk g_qn (hr) ?_ | refine yk g_qk (qk_eq r.Lst hl2 (hb h)) ?_ | refine yt1 ?_ | refine yt0 ?_ | refine yt ?_ ?_ | refine yo ?_ | apply zn | refine yc ?_ | intro _)
  exact fin rfl (by rw [rowIds, h]; rfl)
structure PutR (i : Nat) (p : PutS) : Prop where
 len : p.out.length <= 2 * i
 hi : HiR p.x
theorem Zdz {i : Nat} {p : PutS} {y : GSpan} (h : PutR i p) (hy : HiR y) : PutR (i + 1) (putStep p y) := by
 have h1 := h.len
 have h2 := h.hi
 unfold putStep HiR at *
 split
 ·exact ⟨by simp; omega, h2⟩
 ·split
  ·split
   ·exact ⟨by simp; omega, h2⟩
   ·exact ⟨by simp; omega, h2⟩
  ·refine ⟨by simp only; omega, ?_⟩
   unfold HiR; simp only; omega
theorem Zal {ob : Ob} (l : List GSpan) (x y : GSpan) : GSpan.ls ob (l ++ [x, y]) = .l ob 2 (l.map (GSpan.el ob) ++ [GSpan.el ob x] ++ [GSpan.el ob y]) := by rw [GSpan.ls, Y49, Y21]; rfl
theorem q3l_eq (s : List GSpan) (x : GSpan) (hl : s.length <= 4194304) (hb : ∀ y ∈ s, HiR y) (hx : HiR x) : F_q3l [.x (GSpan.ls .n s), .st (x.cs .n)] = some ⟨[.one (GSpan.ls .y (putG s x))], []⟩ := by
 (refine Z6j rfl ?_; show Ev m_q3l.code _ _ _)
 repeat' (first | refine yt1 ?_ | refine yt0 ?_ | refine yt ?_ ?_ | refine yo ?_ | apply zn | refine yc ?_ | intro _)
 refine zfor (GSpan.el .n) s (fun i (p : PutS) => [(0, .x (GSpan.ls .n s)), (3, .box ⟨0, 0, 0⟩ (p.x.cs .n)), (5, .own ⟨0, 0, 0⟩ (GSpan.ls .y p.out)), (6, .x (.b p.done)), (7, .x (iT i))]) (fun i p => p = (s.take i).foldl putStep ⟨[], false, x⟩ /\ PutR i p) ⟨[], false, x⟩ ⟨rfl, by simp, hx⟩ rfl ?_ ?_
 ·rintro i p y hy hlt hc _ ⟨hinv, hr⟩ ih
  have hby := hb y (Y62 hy)
  have hnext : putStep p y = (s.take (i + 1)).foldl putStep ⟨[], false, x⟩ /\ PutR (i + 1) (putStep p y) := ⟨by rw [hinv, Z5y hy], Zdz hr hby⟩
  have hlo := hr.len
  have hxr := hr.hi
  have hw1 : IntKind.i64.wrap (y.Hi + 1) = y.Hi + 1 := w64 (by unfold HiR at hby; omega)
  have hw2 : IntKind.i64.wrap (p.x.Hi + 1) = p.x.Hi + 1 := w64 (by unfold HiR at hxr; omega)
  have happ : ∀ z : GSpan, (p.out.map (GSpan.el .y)).length + ([z].map (GSpan.el .n)).length < lenMax := fun z => by simp [lenMax]; omega
  have happ2 : (p.out.map (GSpan.el .y) ++ [GSpan.el .y p.x]).length + ([y].map (GSpan.el .n)).length < lenMax := by simp [lenMax]; omega
  repeat' (first | refine yi (GSpan.el .n y) (Zar hy) ?_ | refine yk g_q3d (q3d_eq _ _) ?_ | refine yk g_q3c (q3c_eq _ _) ?_ | (apply zv;(iterate 7 exact rfl);exact (happ _);exact (rfl);exact rfl;exact rfl) | (apply zv;(iterate 7 exact rfl);exact (happ2);exact (rfl);exact rfl;exact rfl) | refine yt1 ?_ | refine yt0 ?_ | refine yt ?_ ?_ | refine yo ?_ | apply zn | refine yc ?_ | intro _)
  ·rename_i h
   rw [hw1] at h
   have hn := hnext
   rw [putStep, if_pos (of_decide_eq_true h)] at hn
   refine ih _ hn _ _ ?_
   rw [w64s (by omega), Zak]; rfl
  ·rename_i h h2 h3
   rw [hw1] at h; rw [hw2] at h2
   have h3' : p.done = false := by simpa using h3
   have hn := hnext
   rw [putStep, if_neg (of_decide_eq_false h), if_pos (of_decide_eq_true h2), h3'] at hn
   refine ih _ hn _ _ ?_
   rw [w64s (by omega), if_neg (by simp), Zal]; rfl
  ·rename_i h h2 h3
   rw [hw1] at h; rw [hw2] at h2
   have h3' : p.done = true := by simpa using h3
   have hn := hnext
   rw [putStep, if_neg (of_decide_eq_false h), if_pos (of_decide_eq_true h2), h3'] at hn
   refine ih _ hn _ _ ?_
   rw [w64s (by omega), if_pos rfl, Zak, h3']; rfl
  ·rename_i h h2
   rw [hw1] at h; rw [hw2] at h2
   have hn := hnext
   rw [putStep, if_neg (of_decide_eq_false h), if_neg (of_decide_eq_false h2)] at hn
   refine ih _ hn _ _ ?_
   rw [w64s (by omega)]; rfl
 ·rintro p hc _ ⟨hinv, hr⟩
  rw [Y72] at hinv
  have hlo := hr.len
  have happ : ∀ z : GSpan, (p.out.map (GSpan.el .y)).length + ([z].map (GSpan.el .n)).length < lenMax := fun z => by simp [lenMax]; omega
  have hput : putG s x = if p.done then p.out else p.out ++ [p.x] := by rw [hinv]; rfl
  repeat' (first | (apply zv;(iterate 7 exact rfl);exact (happ _);exact (rfl);exact rfl;exact rfl) | refine yt1 ?_ | refine yt0 ?_ | refine yt ?_ ?_ | refine yo ?_ | apply zn | refine yc ?_ | intro _)
  ·rename_i h
   have h' : p.done = false := by simpa using h
   rw [hput, h', if_neg (by simp), Zak]
   exact fin rfl (by simp only [Zk0]; rfl)
  ·rename_i h
   have h' : p.done = true := by simpa using h
   rw [hput, h', if_pos rfl]
   exact fin rfl (by simp only [Zk0])
theorem Zdw {p : PutS} {y : GSpan} (ho : ∀ z ∈ p.out, HiR z) (hx : HiR p.x) (hy : HiR y) : (∀ z ∈ (putStep p y).out, HiR z) /\ HiR (putStep p y).x := by
 unfold putStep
 split
 ·exact ⟨by simpa [or_imp, forall_and] using ⟨ho, hy⟩, hx⟩
 ·split
  ·split
   ·exact ⟨by simpa [or_imp, forall_and] using ⟨ho, hy⟩, hx⟩
   ·exact ⟨by simpa [or_imp, forall_and] using ⟨ho, hx, hy⟩, hx⟩
  ·refine ⟨ho, ?_⟩
   unfold HiR at *; simp only; omega
theorem Zdg : ∀ {s : List GSpan} {p : PutS}, (∀ y ∈ s, HiR y) -> (∀ z ∈ p.out, HiR z) -> HiR p.x -> (∀ z ∈ (s.foldl putStep p).out, HiR z) /\ HiR (s.foldl putStep p).x
 | [], p, _, ho, hx => ⟨ho, hx⟩
 | y :: s, p, hs, ho, hx => by
  have h := Zdw ho hx (hs y Y57)
  exact Zdg (s := s) (fun z hz => hs z (Y56 _ hz)) h.1 h.2
theorem Zdk {s : List GSpan} {x : GSpan} (hs : ∀ y ∈ s, HiR y) (hx : HiR x) : ∀ z ∈ putG s x, HiR z := by
 have h := Zdg (p := ⟨[], false, x⟩) hs (by simp) hx
 unfold putG
 simp only
 split
 ·exact h.1
 ·simpa [or_imp, forall_and] using h
theorem Zdx (p : PutS) (y : GSpan) : (putStep p y).out.length + (bif (putStep p y).done then 0 else 1) <= p.out.length + (bif p.done then 0 else 1) + 1 := by
 unfold putStep
 split
 ·simp; omega
 ·split
  ·split
   ·rename_i h; simp [h]
   ·rename_i h; simp [h]
  ·simp
theorem Zdh : ∀ (s : List GSpan) (p : PutS), (s.foldl putStep p).out.length + (bif (s.foldl putStep p).done then 0 else 1) <= p.out.length + (bif p.done then 0 else 1) + s.length
 | [], p => by simp
 | y :: s, p => by
  have h := Zdh s (putStep p y)
  have h2 := Zdx p y
  simp only [Y28, Y42]
  omega
theorem Zdl (s : List GSpan) (x : GSpan) : (putG s x).length <= s.length + 1 := by
 have h := Zdh s ⟨[], false, x⟩
 simp only [Y46, cond_false] at h
 unfold putG
 simp only
 split
 ·rename_i h2; rw [h2, cond_true] at h; omega
 ·rename_i h2; rw [Y6.2 h2, cond_false] at h; rw [Y41, List.length_singleton]; omega
theorem Z8u : ∀ {b a : List GSpan}, (∀ y ∈ a, HiR y) -> (∀ y ∈ b, HiR y) -> ∀ z ∈ joinG a b, HiR z
 | [], a, ha, _ => ha
 | x :: b, a, ha, hb => Z8u (b := b) (a := putG a x) (Zdk ha (hb x Y57)) fun y hy => hb y (Y56 _ hy)
theorem Z8v : ∀ (b a : List GSpan), (joinG a b).length <= a.length + b.length
 | [], a => by simp [joinG]
 | x :: b, a => by
  have h1 := Z8v b (putG a x)
  have h2 := Zdl a x
  simp only [joinG, Y28, Y42] at h1 ⊢
  omega
theorem q3m_eq (a b : List GSpan) (hl : a.length + b.length <= 4194304) (ha : ∀ y ∈ a, HiR y) (hb : ∀ y ∈ b, HiR y) : F_q3m [.x (GSpan.ls .n a), .x (GSpan.ls .n b)] = some ⟨[.one (GSpan.ls .y (joinG a b))], []⟩ := by
 (refine Z6j rfl ?_; show Ev m_q3m.code _ _ _)
 repeat' (first | refine yk g_q3k (q3k_eq a (by omega)) ?_ | refine yt1 ?_ | refine yt0 ?_ | refine yt ?_ ?_ | refine yo ?_ | apply zn | refine yc ?_ | intro _)
 refine zfor (GSpan.el .n) b (fun i (o : List GSpan) => [(1, .x (GSpan.ls .n b)), (5, .own ⟨0, 0, 0⟩ (GSpan.ls .y o)), (6, .x (iT i))]) (fun i o => o = joinG a (b.take i)) a rfl rfl ?_ ?_
 ·rintro i o y hy hlt hc _ hinv ih
  have hl1 := Z8v (b.take i) a
  rw [<- hinv, Y48] at hl1
  have hho : ∀ z ∈ o, HiR z := hinv ▸ Z8u ha fun z hz => hb z (Y63 hz)
  repeat' (first | refine yi (GSpan.el .n y) (Zar hy) ?_ | refine yw g_q3l (q3l_eq o y (by omega) hho (hb y (Y62 hy))) (Z28 rfl (Z2p (fun _ => rfl) _)) ?_ | refine yt1 ?_ | refine yt0 ?_ | refine yt ?_ ?_ | refine yo ?_ | apply zn | refine yc ?_ | intro _)
  refine ih (putG o y) ?_ _ _ ?_
  ·rw [hinv, joinG, joinG, Z5y hy]
  ·rw [w64s (by omega)]; rfl
 ·rintro o hc _ hinv
  rw [Y72] at hinv
  repeat' (first | refine yt1 ?_ | refine yt0 ?_ | refine yt ?_ ?_ | refine yo ?_ | apply zn | refine yc ?_ | intro _)
  exact fin rfl (by simp only [Zk0, hinv])
def rowIdsS (r : GRow) : List GSpan := if r.ok then r.Lst.foldl (fun o e => joinG o e.Ids) [] else []
theorem Z8x : ∀ {l : List GEntry} {a : List GSpan}, (∀ e ∈ l, ∀ x ∈ e.Ids, HiR x) -> (∀ y ∈ a, HiR y) -> ∀ z ∈ l.foldl (fun o e => joinG o e.Ids) a, HiR z
 | [], a, _, ha => ha
 | e :: l, a, hl, ha => Z8x (l := l) (fun e he => hl e (Y56 _ he)) (Z8u ha (hl e Y57))
theorem Z8y : ∀ (l : List GEntry) (a : List GSpan), (l.foldl (fun o e => joinG o e.Ids) a).length <= a.length + (l.map fun e => e.Ids.length).sum
 | [], a => by simp
 | e :: l, a => by
  have h1 := Z8y l (joinG a e.Ids)
  have h2 := Z8v e.Ids a
  simp only [Y28, Y50, Y69]
  omega
theorem Z8b (l : List GEntry) : (l.map fun e => e.Ids.length).sum <= bulks GEntry.bulk l := by
 unfold bulks
 induction l with
 | nil => simp
 | cons e l ih => have : e.Ids.length <= e.bulk := by { unfold GEntry.bulk; omega }; simp only [Y50, Y69, Y42]; omega
theorem q3n_eq (r : GRow) (hl : r.bulk <= 4000000) : F_q3n [.st (r.cs .n)] = some ⟨[.one (GSpan.ls .y (rowIdsS r))], []⟩ := by
 have hro := q3j_eq r hl
 have hl2 : bulks GEntry.bulk r.Lst <= 4000000 := hl
 have hlen := Z1t GEntry.bulk r.Lst
 have hsm := Z8b r.Lst
 cases h : r.ok with
 | false =>
  rw [h] at hro
  have h1 : (!false) = true := rfl
  (refine Z6j rfl ?_; show Ev m_q3n.code _ _ _)
  repeat' (first | refine yk g_q3j (hro) ?_ | refine yt1 ?_ | refine yt0 ?_ | refine yt ?_ ?_ | refine yo ?_ | apply zn | refine yc ?_ | intro _)
  exact fin rfl (by rw [rowIdsS, h]; rfl)
 | true =>
  rw [h] at hro
  have h1 : (!true) = false := rfl
  have hb := Z3j (Zgy h)
  (refine Z6j rfl ?_; show Ev m_q3n.code _ _ _)
  repeat' (first | refine yk g_q3j (hro) ?_ | refine yt1 ?_ | refine yt0 ?_ | refine yt ?_ ?_ | refine yo ?_ | apply zn | refine yc ?_ | intro _)
  refine zfor (GEntry.el .n) r.Lst (fun i (o : List GSpan) => [(1, .box ⟨0, 0, 0⟩ (r.cs .n)), (3, .own ⟨0, 0, 0⟩ (GSpan.ls .y o)), (4, .x (iT i))]) (fun i o => o = (r.Lst.take i).foldl (fun o e => joinG o e.Ids) []) [] rfl rfl ?_ ?_
  ·rintro i o e hx hlt hc _ hinv ih
   have hl1 := Z8y (r.Lst.take i) []
   have hl3 := Zd9 (f := fun e : GEntry => e.Ids.length) hx
   have hl4 := Zd8 (f := fun e : GEntry => e.Ids.length) (l := r.Lst) (i := i + 1)
   have hl5 : o.length + e.Ids.length <= 4194304 := by
    unfold bulks at hl4; rw [<- hinv] at hl1; simp only [pre, Y46] at hl1 hl3 hl4; omega
   have hho : ∀ z ∈ o, HiR z := hinv ▸ Z8x (fun e he => hb e (Y63 he)) (by simp)
   repeat' (first | refine yi (GEntry.el .n e) (Zar hx) ?_ | refine yw g_q3m (q3m_eq o e.Ids hl5 hho (hb e (Y62 hx))) (Z28 rfl (Z2p (fun _ => rfl) _)) ?_ | refine yt1 ?_ | refine yt0 ?_ | refine yt ?_ ?_ | refine yo ?_ | apply zn | refine yc ?_ | intro _)
   refine ih (joinG o e.Ids) ?_ _ _ ?_
   ·rw [hinv, Z5y (f := fun o (e : GEntry) => joinG o e.Ids) hx]
   ·rw [w64s (by omega)]; rfl
  ·rintro o hc _ hinv
   rw [Y72] at hinv
   repeat' (first | refine yt1 ?_ | refine yt0 ?_ | refine yt ?_ ?_ | refine yo ?_ | apply zn | refine yc ?_ | intro _)
   exact fin rfl (by simp only [Zk0, hinv, rowIdsS, h, if_true])
end Go.Wr
namespace Go.Wr
set_option maxRecDepth 20000
def SpanR (x : GSpan) : Prop := 0 <= x.Lo /\ x.Lo <= x.Hi /\ x.Hi <= 9999
def ofSpan (x : GSpan) (a : Int) : Int := max (min x.Hi (100 * a + 60) - max x.Lo (100 * a + 1) + 1) 0
theorem Zby (s : List GSpan) (a : Int) : ofAgent s a = (s.map fun x => ofSpan x a).sum := rfl
theorem Zc0 (x : GSpan) (a : Int) : 0 <= ofSpan x a /\ ofSpan x a <= 60 := by unfold ofSpan; omega
theorem Zbx : ∀ (s : List GSpan) (a : Int), 0 <= ofAgent s a /\ ofAgent s a <= 60 * s.length
 | [], a => by simp [ofAgent]
 | x :: s, a => by
  have h1 := Zbx s a
  have h2 := Zc0 x a
  rw [Zby] at h1 ⊢
  simp only [Y50, Y69, Y42]
  omega
theorem Zbz {s : List GSpan} {i : Nat} {x : GSpan} {a : Int} (h : s[i]? = some x) : ofAgent (s.take (i + 1)) a = ofAgent (s.take i) a + ofSpan x a := by
 rw [Zby, Zby, Y70, h]; simp
theorem q3e_eq (s : List GSpan) (a : Int) (hl : s.length <= 4194304) (ha : 0 <= a /\ a <= 2) (hb : ∀ x ∈ s, SpanR x) : F_q3e [.x (GSpan.ls .n s), .x (iT a)] = some ⟨[.one (iT (ofAgent s a))], []⟩ := by
 have w1 : IntKind.i64.wrap (100 * a) = 100 * a := w64 (by omega)
 have w2 : IntKind.i64.wrap (100 * a + 1) = 100 * a + 1 := w64 (by omega)
 have w3 : IntKind.i64.wrap (100 * a + 60) = 100 * a + 60 := w64 (by omega)
 (refine Z6j rfl ?_; show Ev m_q3e.code _ _ _)
 repeat' (first | refine yt1 ?_ | refine yt0 ?_ | refine yt ?_ ?_ | refine yo ?_ | apply zn | refine yc ?_ | intro _)
 refine zfor (GSpan.el .n) s (fun i (n : Int) => [(0, .x (GSpan.ls .n s)), (1, .x (iT a)), (5, .x (iT n)), (6, .x (iT i))]) (fun i n => n = ofAgent (s.take i) a) 0 rfl rfl ?_ ?_
 ·rintro i n x hx hlt hc _ hinv ih
  have hbx := hb x (Y62 hx)
  have h1 := Zbx (s.take i) a
  have h2 := Zc0 x a
  rw [Y48] at h1
  repeat' (first | refine yi (GSpan.el .n x) (Zar hx) ?_ | refine yk g_q3d (q3d_eq _ _) ?_ | refine yk g_q3c (q3c_eq _ _) ?_ | refine yt1 ?_ | refine yt0 ?_ | refine yt ?_ ?_ | refine yo ?_ | apply zn | refine yc ?_ | intro _)
  refine ih _ rfl _ _ ?_
  have w4 : IntKind.i64.wrap (min x.Hi (100 * a + 60) - max x.Lo (100 * a + 1)) = min x.Hi (100 * a + 60) - max x.Lo (100 * a + 1) := w64 (by unfold SpanR at hbx; omega)
  have w5 : IntKind.i64.wrap (min x.Hi (100 * a + 60) - max x.Lo (100 * a + 1) + 1) = min x.Hi (100 * a + 60) - max x.Lo (100 * a + 1) + 1 := w64 (by unfold SpanR at hbx; omega)
  have w6 : IntKind.i64.wrap (n + max (min x.Hi (100 * a + 60) - max x.Lo (100 * a + 1) + 1) 0) = ofAgent (s.take (i + 1)) a := by
   rw [Zbz hx, hinv, w64 (by unfold ofSpan at h2; omega)]; rfl
  rw [w1, w2, w3, w4, w5, w6, w64s (by omega)]; rfl
 ·rintro n hc _ hinv
  rw [Y72] at hinv
  repeat' (first | refine yt1 ?_ | refine yt0 ?_ | refine yt ?_ ?_ | refine yo ?_ | apply zn | refine yc ?_ | intro _)
  exact fin rfl (by rw [hinv])
def shiftS (a : Int) (x : GSpan) : GSpan := ⟨100 * a + x.Lo, 100 * a + x.Hi⟩
def takenL (l : List GSeat) (a : Nat) : List GSpan := match l with
 | [] => []
 | s :: l => s.Taken.map (shiftS a) ++ takenL l (a + 1)
theorem Zkr : ∀ (l : List GSeat) (a : Nat) (s : GSeat), takenL (l ++ [s]) a = takenL l a ++ s.Taken.map (shiftS ((a + l.length : Nat) : Int))
 | [], a, s => by simp [takenL]
 | t :: l, a, s => by
  simp only [Y24, takenL, Zkr l (a + 1) s, Y21, Y42]
  rw [show a + 1 + l.length = a + (l.length + 1) by omega]
theorem Zks {l : List GSeat} {i : Nat} {s : GSeat} (h : l[i]? = some s) : takenL (l.take (i + 1)) 0 = takenL (l.take i) 0 ++ s.Taken.map (shiftS i) := by
 have hi := (Y36.1 h).1
 rw [Y70, h, Option.toList_some, Zkr, Y48, Nat.min_eq_left (by omega)]
 simp
theorem Zkp : ∀ (l : List GSeat) (a : Nat), (takenL l a).length <= bulks GSeat.bulk l
 | [], a => by simp [takenL]
 | s :: l, a => by
  have := Zkp l (a + 1)
  unfold bulks at this ⊢
  simp only [takenL, Y41, Y45, Y50, Y69, Y42, GSeat.bulk] at this ⊢
  omega
def SeatsR (l : List GSeat) : Prop := l.length = 3 /\ ∀ s ∈ l, ∀ x ∈ s.Taken, 1 <= x.Lo /\ x.Lo <= x.Hi /\ x.Hi <= 60
theorem Zkq : ∀ {l : List GSeat} {a : Nat}, (∀ s ∈ l, ∀ x ∈ s.Taken, 1 <= x.Lo /\ x.Lo <= x.Hi /\ x.Hi <= 60) -> a + l.length <= 3 -> ∀ x ∈ takenL l a, SpanR x
 | [], a, _, _ => by simp [takenL]
 | s :: l, a, h, ha => fun x hx => by
  simp only [takenL, Y52, Y60] at hx
  simp only [Y42] at ha
  rcases hx with ⟨y, hy, rfl⟩ | hx
  ·have := h s Y57 y hy
   unfold SpanR shiftS; simp only; omega
  ·exact Zkq (l := l) (fun s hs => h s (Y56 _ hs)) (by omega) x hx
theorem SpanR.hi {x : GSpan} (h : SpanR x) : HiR x := by unfold SpanR HiR at *; omega
theorem Zef : ∀ {l o : List GSpan}, (∀ y ∈ o, HiR y) -> (∀ y ∈ l, HiR y) -> ∀ z ∈ l.foldl putG o, HiR z
 | [], o, ho, _ => ho
 | x :: l, o, ho, hl => Zef (l := l) (o := putG o x) (Zdk ho (hl x Y57)) fun y hy => hl y (Y56 _ hy)
theorem Zeg : ∀ (l o : List GSpan), (l.foldl putG o).length <= o.length + l.length
 | [], o => by simp
 | x :: l, o => by
  have h1 := Zeg l (putG o x)
  have h2 := Zdl o x
  simp only [Y28, Y42]
  omega
theorem q3x_eq (h : GHouse) (hl : h.bulk <= 4000000) (hs : SeatsR h.Seats) : F_q3x [.st (h.cs .n)] = some ⟨[.one (GSpan.ls .y ((takenL h.Seats 0).foldl putG []))], []⟩ := by
 have hb0 : bulks GSeat.bulk h.Seats <= 4000000 := by unfold GHouse.bulk at hl; omega
 have htl := Zkp h.Seats 0
 have htr : ∀ i, ∀ x ∈ takenL (h.Seats.take i) 0, SpanR x := fun i => Zkq (fun s h2 => hs.2 s (Y63 h2)) (by rw [Y48, hs.1]; omega)
 (refine Z6j rfl ?_; show Ev m_q3x.code _ _ _)
 repeat' (first | refine yt1 ?_ | refine yt0 ?_ | refine yt ?_ ?_ | refine yo ?_ | apply zn | refine yc ?_ | intro _)
 refine zfor (GSeat.el .n) h.Seats (fun i (o : List GSpan) => [(1, .box ⟨0, 0, 0⟩ (h.cs .n)), (3, .own ⟨0, 0, 0⟩ (GSpan.ls .y o)), (4, .x (iT i))]) (fun i o => o = (takenL (h.Seats.take i) 0).foldl putG []) [] rfl rfl ?_ ?_
 ·rintro i o s hx hlt hc _ hinv ih
  have hr := hs.2 s (Y62 hx)
  have hi3 : (i : Int) <= 2 := by have := hs.1; omega
  have hsl : s.Taken.length <= 4000000 := Y77 (Z1v (f := GSeat.bulk) hx) hb0
  have hol : o.length <= 4000000 := by
   rw [hinv]
   refine Y77 (Zeg _ _) ?_
   have := Zkp (h.Seats.take i) 0
   have h4 := Zd8 (f := GSeat.bulk) (l := h.Seats) (i := i)
   unfold bulks at this; unfold pre at h4
   rw [Y48] at this
   simp only [Y46]; omega
  have hoh : ∀ y ∈ o, HiR y := hinv ▸ Zef (by simp) fun y hy => (htr i y hy).hi
  have w1 : IntKind.i64.wrap (100 * (i : Int)) = 100 * i := w64 (by omega)
  have hor : 0 <= (i : Int) := Y16 i
  repeat' (first | refine yi (GSeat.el .n s) (Zar hx) ?_ | refine yt1 ?_ | refine yt0 ?_ | refine yt ?_ ?_ | refine yo ?_ | apply zn | refine yc ?_ | intro _)
  refine zfor (GSpan.el .n) s.Taken (fun k (o : List GSpan) => [(1, .box ⟨0, 0, 0⟩ (h.cs .n)), (3, .own ⟨0, 0, 0⟩ (GSpan.ls .y o)), (4, .x (iT i)), (5, .x (iT k))]) (fun k o' => o' = ((s.Taken.take k).map (shiftS i)).foldl putG o) o rfl rfl ?_ ?_
  ·rintro k o' x hy hlt2 hc2 _ hinv2 ih2
   have hxr := hr x (Y62 hy)
   have hol' : o'.length <= 4194304 := by
    have h1 := Zeg ((s.Taken.take k).map (shiftS i)) o
    have h2 := Zeg (takenL (h.Seats.take i) 0) []
    have h3 := Zkp (h.Seats.take i) 0
    have h4 := Zd8 (f := GSeat.bulk) (l := h.Seats) (i := i + 1)
    have h5 := Zd9 (f := GSeat.bulk) hx
    rw [<- hinv2, Y45, Y48] at h1
    rw [<- hinv] at h2
    unfold bulks at h3; unfold pre at h4 h5; unfold GSeat.bulk at h5
    rw [Y48] at h3
    simp only [Y46] at h2
    unfold GSeat.bulk at h3 h4 hb0
    omega
   have hoh' : ∀ y ∈ o', HiR y := by
    rw [hinv2]
    refine Zef hoh fun y hy => ?_
    obtain ⟨z, hz, rfl⟩ := Y60.1 hy
    have := hr z (Y63 hz)
    unfold HiR shiftS; simp only; omega
   have hsh : HiR (shiftS i x) := by unfold HiR shiftS; simp only; omega
   have w2 : IntKind.i64.wrap (100 * (i : Int) + x.Lo) = 100 * i + x.Lo := w64 (by omega)
   have w3 : IntKind.i64.wrap (100 * (i : Int) + x.Hi) = 100 * i + x.Hi := w64 (by omega)
   have hput : F_q3l [.x (GSpan.ls .n o'), .st [iT (IntKind.i64.wrap (IntKind.i64.wrap (100 * (i : Int)) + x.Lo)), iT (IntKind.i64.wrap (IntKind.i64.wrap (100 * (i : Int)) + x.Hi))]] = some ⟨[.one (GSpan.ls .y (putG o' (shiftS i x)))], []⟩ := by
    rw [w1, w2, w3]; exact q3l_eq o' (shiftS i x) hol' hoh' hsh
   repeat' (first | refine yi (GSeat.el .n s) (Zar hx) ?_ | refine yi (GSpan.el .n x) (Zar hy) ?_ | refine yw g_q3l (hput) (Z28 rfl (Z2p (fun _ => rfl) _)) ?_ | refine yt1 ?_ | refine yt0 ?_ | refine yt ?_ ?_ | refine yo ?_ | apply zn | refine yc ?_ | intro _)
   refine ih2 (putG o' (shiftS i x)) ?_ _ _ ?_
   ·rw [hinv2, Zat hy, List.foldl_append]; rfl
   ·rw [w64s (by omega)]; rfl
  ·rintro o' hc2 _ hinv2
   rw [Y72] at hinv2
   repeat' (first | refine yi (GSeat.el .n s) (Zar hx) ?_ | refine yt1 ?_ | refine yt0 ?_ | refine yt ?_ ?_ | refine yo ?_ | apply zn | refine yc ?_ | intro _)
   refine ih o' ?_ _ _ ?_
   ·rw [hinv2, hinv, Zks hx, List.foldl_append]
   ·rw [w64s (by omega)]; rfl
 ·rintro o hc _ hinv
  rw [Y72] at hinv
  repeat' (first | refine yt1 ?_ | refine yt0 ?_ | refine yt ?_ ?_ | refine yo ?_ | apply zn | refine yc ?_ | intro _)
  exact fin rfl (by simp only [Zk0, hinv])
end Go.Wr

