/-
  What is proved: lemmas on the way to the laws of this seat. No condition.
-/
import Derived.Test.YtbghjecopkbhlaaGreatQa
import Derived.Test.YtbghjecopkbhlaaGreatRe
set_option linter.unusedVariables false
set_option linter.unusedSimpArgs false
namespace Go.Wr
set_option maxRecDepth 20000
theorem Ki (a b : ab) : Bu [.st (a.cs .n), .st (b.cs .n)] = some ⟨[.one (.b (iE a b))], []⟩ := by
 (refine Z6j rfl ?_; show Ev Bt.code _ _ _)
 repeat' (first | refine yy ?_ | refine ym ?_ | (apply ze;(iterate 5 exact rfl)) | (apply zf;(iterate 5 exact rfl)) | refine yp ?_ | refine yo ?_ | apply zn | refine yc ?_ | exact rfl | intro _)
 exact fin rfl rfl
theorem Kj (t : au) (hl : t.ae <= 4000000) : Bs [.st (t.cs .n)] = some ⟨[.one (.b t.ok)], []⟩ := by
 have hl2 : t.Left.length <= 4194304 := by simp only [au.ae] at hl; omega
 (refine Z6j rfl ?_; show Ev Br.code _ _ _)
 repeat' (first | refine yy ?_ | refine ym ?_ | (apply ze;(iterate 5 exact rfl)) | (apply zf;(iterate 5 exact rfl)) | refine yp ?_ | refine yk cm (fu _ _ _) ?_ | refine yk pF (B3 t.Left _ _ _ hl2) ?_ | refine yo ?_ | apply zn | refine yc ?_ | exact rfl | intro _)
 refine fin rfl (bt ?_)
 have e : decide ((t.Left.length : Int) = 3) = decide (t.Left.length = 3) := iN3 _
 rw [au.ok, jf, <- e]
theorem GU (t : au) (hl : t.ae <= 4000000) : wv [.st (t.cs .n)] = some ⟨[.one (.b t.ok)], []⟩ := by
 have hl2 : t.Left.length <= 4194304 := by simp only [au.ae] at hl; omega
 (refine Z6j rfl ?_; show Ev wu.code _ _ _)
 repeat' (first | refine yy ?_ | refine ym ?_ | (apply ze;(iterate 5 exact rfl)) | (apply zf;(iterate 5 exact rfl)) | refine yp ?_ | refine yk kt (pV _) ?_ | refine yk mH (zD t.Left _ _ hl2) ?_ | refine yo ?_ | apply zn | refine yc ?_ | exact rfl | intro _)
 exact fin rfl rfl
theorem Zic {s : al} {per : Int} (h1 : inB per 1 8 = true) (h2 : inB s.fb 0 (cK s.aJ) = true) (hl : s.ae <= 4000000) : IntKind.i64.wrap (s.fb + per) = s.fb + per := by
 simp only [inB, Y2, decide_eq_true_eq] at h1 h2
 have h3 : cK s.aJ <= 10000 * 4000000 := by
  unfold cK
  split
  ·rename_i h
   have := Zk6 fun x hx => Zit h hx
   simp only [al.ae] at hl
   omega
  ·omega
 rw [w64 (by omega)]
theorem Kk (s : al) (per : Int) (hl : s.ae <= 4000000) : Bq [.st (s.cs .n), .x (iT per)] = some ⟨[.one (.b (s.ok per))], []⟩ := by
 have hl2 : s.aJ.length <= 4194304 := by simp only [al.ae] at hl; omega
 (refine Z6j rfl ?_; show Ev Bp.code _ _ _)
 repeat' (first | refine yy ?_ | refine ym ?_ | (apply ze;(iterate 5 exact rfl)) | (apply zf;(iterate 5 exact rfl)) | refine yp ?_ | refine yk cm (fu _ _ _) ?_ | refine yk lY (yH s.aJ _ _ hl2) ?_ | refine yk nO (yG s.aJ hl2) ?_ | refine yo ?_ | apply zn | refine yc ?_ | exact rfl | intro _)
 refine fin rfl (bt ?_)
 rw [al.ok]
 cases h1 : inB per 1 8
 ·simp
 ·cases h2 : inB s.fb 0 (cK s.aJ)
  ·simp
  ·rw [Zic h1 h2 hl]
theorem GV (s : al) (per : Int) (hl : s.ae <= 4000000) : wo [.st (s.cs .n), .x (iT per)] = some ⟨[.one (.b (s.ok per))], []⟩ := by
 have hl2 : s.aJ.length <= 4194304 := by simp only [al.ae] at hl; omega
 (refine Z6j rfl ?_; show Ev wm.code _ _ _)
 repeat' (first | refine yy ?_ | refine ym ?_ | (apply ze;(iterate 5 exact rfl)) | (apply zf;(iterate 5 exact rfl)) | refine yp ?_ | refine yk bK (dP _ _ _) ?_ | refine yk mL (zG s.aJ _ hl2) ?_ | refine yk kr (pW s.aJ hl2) ?_ | refine yo ?_ | apply zn | refine yc ?_ | exact rfl | intro _)
 refine fin rfl (bt ?_)
 rw [al.ok]
 cases h1 : inB per 1 8
 ·simp
 ·cases h2 : inB s.fb 0 (cK s.aJ)
  ·simp
  ·rw [Zic h1 h2 hl]
theorem Zkw {l : List ay} {i : Nat} {x : ay} {k w : Int} (h : l[i]? = some x) : ik (l.take (i + 1)) k w = ik (l.take i) k w + (if x.aL.Key == k && x.aL.cJ == w then 1 else 0) := by
 unfold ik; rw [Y70, h]; simp [List.countP_cons]
theorem Zkv (l : List ay) (i : Nat) (k w : Int) : ik (l.take i) k w <= i := Y77 List.countP_le_length (by rw [Y48]; omega)
theorem Kl (l : List ay) (k w : Int) (hl : l.length <= 4194304) : Bz [.x (ay.ls .n l), .x (iT k), .x (iT w)] = some ⟨[.one (iT (ik l k w))], []⟩ := by
 (refine Z6j rfl ?_; show Ev By.code _ _ _)
 repeat' (first | refine yy ?_ | refine ym ?_ | (apply ze;(iterate 5 exact rfl)) | (apply zf;(iterate 5 exact rfl)) | refine yp ?_ | refine yt1 ?_ | refine yt0 ?_ | refine yt ?_ ?_ | refine yo ?_ | apply zn | refine yc ?_ | exact rfl | intro _)
 refine bq (ay.el .n) l (fun i (n : Nat) => [(1, .x (iT k)), (2, .x (iT w)), (7, .x (iT n)), (10, .x (ay.ls .n l)), (11, .x (iT (l.map (ay.el .n)).length)), (12, .x (iT i))]) (fun i n => n = ik (l.take i) k w) 0 rfl rfl ?_ ?_
 ·rintro i n x hx hlt hc _ hinv ih
  have hn := Zkv l i k w
  repeat' (first | refine yy ?_ | refine ym ?_ | (apply ze;(iterate 5 exact rfl)) | (apply zf;(iterate 5 exact rfl)) | refine yp ?_ | refine yi (ay.el .n x) (Zar hx) ?_ | refine yt1 ?_ | refine yt0 ?_ | refine yt ?_ ?_ | refine yo ?_ | apply zn | refine yc ?_ | exact rfl | intro _)
  ·rename_i h
   refine ih (n + 1) ?_ _ _ ?_
   ·rw [hinv, Zkw hx, h]; rfl
   ·rw [aM (by omega), aM (by omega)]; rfl
  ·rename_i h
   refine ih n ?_ _ _ ?_
   ·rw [hinv, Zkw hx, h]; rfl
   ·rw [aM (by omega)]; rfl
 ·rintro n hc _ hinv
  rw [Y72] at hinv
  subst hinv
  repeat' (first | refine yy ?_ | refine ym ?_ | (apply ze;(iterate 5 exact rfl)) | (apply zf;(iterate 5 exact rfl)) | refine yp ?_ | refine yt1 ?_ | refine yt0 ?_ | refine yt ?_ ?_ | refine yo ?_ | apply zn | refine yc ?_ | exact rfl | intro _)
  exact fin rfl rfl
theorem GW (l : List ay) (k w : Int) (hl : l.length <= 4194304) : wC [.x (ay.ls .n l), .x (iT k), .x (iT w)] = some ⟨[.one (iT (ik l k w))], []⟩ := by
 (refine Z6j rfl ?_; show Ev wB.code _ _ _)
 repeat' (first | refine yy ?_ | refine ym ?_ | (apply ze;(iterate 5 exact rfl)) | (apply zf;(iterate 5 exact rfl)) | refine yp ?_ | refine yt1 ?_ | refine yt0 ?_ | refine yt ?_ ?_ | refine yo ?_ | apply zn | refine yc ?_ | exact rfl | intro _)
 refine bq (ay.el .n) l (fun i (n : Nat) => [(0, .x (ay.ls .n l)), (1, .x (iT k)), (2, .x (iT w)), (7, .x (iT n)), (8, .x (iT i))]) (fun i n => n = ik (l.take i) k w) 0 rfl rfl ?_ ?_
 ·rintro i n x hx hlt hc _ hinv ih
  have hn := Zkv l i k w
  repeat' (first | refine yy ?_ | refine ym ?_ | (apply ze;(iterate 5 exact rfl)) | (apply zf;(iterate 5 exact rfl)) | refine yp ?_ | refine yi (ay.el .n x) (Zar hx) ?_ | refine yk sm (GQ _) ?_ | refine yt1 ?_ | refine yt0 ?_ | refine yt ?_ ?_ | refine yo ?_ | apply zn | refine yc ?_ | exact rfl | intro _)
  refine ih (n + if x.aL.Key == k && x.aL.cJ == w then 1 else 0) ?_ _ _ ?_
  ·rw [hinv, Zkw hx]
  ·have : IntKind.i64.wrap (n + if (x.aL.Key == k && x.aL.cJ == w) = true then 1 else 0) = ((n + if (x.aL.Key == k && x.aL.cJ == w) = true then 1 else 0 : Nat) : Int) := by
    rw [w64 (by split <;> omega)]; split <;> simp
   rw [aM (by omega), <- this]; rfl
 ·rintro n hc _ hinv
  rw [Y72] at hinv
  subst hinv
  repeat' (first | refine yy ?_ | refine ym ?_ | (apply ze;(iterate 5 exact rfl)) | (apply zf;(iterate 5 exact rfl)) | refine yp ?_ | refine yt1 ?_ | refine yt0 ?_ | refine yt ?_ ?_ | refine yo ?_ | apply zn | refine yc ?_ | exact rfl | intro _)
  exact fin rfl rfl
theorem GX (a b : List aa) (hl : a.length <= 4194304) : wI [.x (aa.ls .n a), .x (aa.ls .n b)] = some ⟨[.one (.b (decide (a = b)))], []⟩ := by
 (refine Z6j rfl ?_; show Ev wH.code _ _ _)
 repeat' (first | refine yt1 ?_ | refine yt0 ?_ | refine yt ?_ ?_ | refine yo ?_ | apply zn | refine yc ?_ | intro _)
 ·refine fin rfl (bt ?_)
  rename_i h
  have h2 : a ≠ b := Zbo h
  simp [h2]
 ·have hlen : a.length = b.length := by rename_i h; exact Z3m h
  refine bq (aa.el .n) a (fun i (_ : Unit) => [(0, .x (aa.ls .n a)), (1, .x (aa.ls .n b)), (5, .x (iT i))]) (fun i _ => a.take i = b.take i) () (by simp) rfl ?_ ?_
  ·rintro i _ x hx hlt hc _ hinv ih
   have hy := Y34 (show i < b.length by omega)
   generalize b[i]'(by omega) = y at hy
   repeat' (first | refine yi (aa.el .n x) (Zar hx) ?_ | refine yi (aa.el .n y) (Zar hy) ?_ | refine yt1 ?_ | refine yt0 ?_ | refine yt ?_ ?_ | refine yo ?_ | apply zn | refine yc ?_ | intro _)
   ·rename_i h
    have h2 : a ≠ b := Zbn hx hy (by intro e; subst e; simp at h)
    exact fin rfl (bt (by simp [h2]))
   ·rename_i h
    have hxy : x = y := by rcases x with ⟨x1, x2⟩; rcases y with ⟨y1, y2⟩; simpa using h
    refine ih () (Z3n hinv hx (hxy ▸ hy)) _ _ ?_
    rw [aM (by omega)]; rfl
  ·rintro _ hc _ hinv
   repeat' (first | refine yt1 ?_ | refine yt0 ?_ | refine yt ?_ ?_ | refine yo ?_ | apply zn | refine yc ?_ | intro _)
   refine fin rfl (bt ?_)
   simp [Z3l hinv hlen (Nat.le_refl _)]
theorem Km (a b : List aa) (hl : a.length <= 4194304) : BC [.x (aa.ls .n a), .x (aa.ls .n b)] = some ⟨[.one (.b (decide (a = b)))], []⟩ := by
 (refine Z6j rfl ?_; show Ev BA.code _ _ _)
 repeat' (first | refine yt1 ?_ | refine yt0 ?_ | refine yt ?_ ?_ | refine yo ?_ | apply zn | refine yc ?_ | intro _)
 ·refine fin rfl (bt ?_)
  rename_i h
  have h2 : a ≠ b := Zbo h
  simp [h2]
 ·have hlen : a.length = b.length := by rename_i h; exact Z3m h
  refine bq (aa.el .n) a (fun i (_ : Unit) => [(0, .x (aa.ls .n a)), (1, .x (aa.ls .n b)), (12, .x (iT (a.map (aa.el .n)).length)), (13, .x (iT i))]) (fun i _ => a.take i = b.take i) () (by simp) rfl ?_ ?_
  ·rintro i _ x hx hlt hc _ hinv ih
   have hy := Y34 (show i < b.length by omega)
   generalize b[i]'(by omega) = y at hy
   repeat' (first | refine yi (aa.el .n x) (Zar hx) ?_ | refine yi (aa.el .n y) (Zar hy) ?_ | refine yt1 ?_ | refine yt0 ?_ | refine yt ?_ ?_ | refine yo ?_ | apply zn | refine yc ?_ | intro _)
   ·rename_i h
    have h2 : a ≠ b := Zbn hx hy (by intro e; subst e; simp at h)
    exact fin rfl (bt (by simp [h2]))
   ·rename_i h
    have hxy : x = y := by rcases x with ⟨x1, x2⟩; rcases y with ⟨y1, y2⟩; simpa using h
    refine ih () (Z3n hinv hx (hxy ▸ hy)) _ _ ?_
    rw [aM (by omega)]; rfl
  ·rintro _ hc _ hinv
   repeat' (first | refine yt1 ?_ | refine yt0 ?_ | refine yt ?_ ?_ | refine yo ?_ | apply zn | refine yc ?_ | intro _)
   refine fin rfl (bt ?_)
   simp [Z3l hinv hlen (Nat.le_refl _)]
theorem Zj {l : List ab} {i : Nat} {e : ab} (hx : l[i]? = some e) (h : e.ok = false) : ej l i = false := by simp [ej, hx, h]
theorem B5 (l : List ab) (hl : aF ab.ae l <= 4000000) : pH [.x (ab.ls .n l)] = some ⟨[.one (.b (ck l))], []⟩ := by
 have hlen := Z1t ab.ae l
 (refine Z6j rfl ?_; show Ev Be.code _ _ _)
 repeat' (first | refine yt1 ?_ | refine yt0 ?_ | refine yt ?_ ?_ | refine yo ?_ | apply zn | refine yc ?_ | intro _)
 refine bq (ab.el .n) l (fun i (_ : Unit) => [(0, .x (ab.ls .n l)), (7, .x (ab.ls .n l)), (8, .x (iT (l.map (ab.el .n)).length)), (9, .x (iT i))]) (fun i _ => ∀ j, j < i -> ej l j = true) () (by omega) rfl ?_ ?_
 ·rintro i _ e hx hlt hc _ hinv ih
  have hbe : e.ae <= 4000000 := Y77 (Z1v hx) hl
  have hbi : e.Ids.length <= 4194304 := by have : e.Ids.length <= e.ae := by { unfold ab.ae; omega }; omega
  have hsl : 0 <= i /\ i <= (l.map (ab.el .n)).length := by rw [Y45]; omega
  repeat' (first | refine yi (ab.el .n e) (Zar hx) ?_ | refine yk AG (Kg e hbe) ?_ | (apply zu;exact rfl;exact Z1k rfl rfl;exact rfl;exact (hsl);exact rfl;exact Zk5;exact rfl;exact rfl) | refine yt1 ?_ | refine yt0 ?_ | refine yt ?_ ?_ | refine yo ?_ | apply zn | refine yc ?_ | intro _)
  ·refine fin rfl (bt ?_)
   rename_i h
   have h2 : e.ok = false := by simpa using h
   rw [ck, Ze hlt (Zj hx h2)]
  ·rename_i h
   have h2 : e.ok = true := by simpa using h
   refine bq (ab.el .n) (l.take i) (fun k (_ : Unit) => [(0, .x (ab.ls .n l)), (4, .box ⟨0, 0, 0⟩ (e.cs .n)), (7, .x (ab.ls .n l)), (8, .x (iT (l.map (ab.el .n)).length)), (9, .x (iT i)), (19, .x (ab.ls .n (l.take i))), (20, .x (iT ((l.take i).map (ab.el .n)).length)), (21, .x (iT k))]) (fun k _ => ((l.take i).take k).all (fun o => cD e.Ids o.Ids) = true) () (by simp) rfl ?_ ?_
   ·rintro k _ o hy eW hc2 _ aV ih2
    have hbo : o.Ids.length <= 4194304 := by
     have h3 := Y62 hy
     obtain ⟨j, hj⟩ := Y59.1 (Y63 h3)
     have := Z1v (f := ab.ae) hj
     unfold ab.ae at this; unfold ab.ae at hl; omega
    repeat' (first | refine yi (ab.el .n o) (Zar hy) ?_ | refine yk AH (Kh e.Ids o.Ids hbi hbo) ?_ | refine yt1 ?_ | refine yt0 ?_ | refine yt ?_ ?_ | refine yo ?_ | apply zn | refine yc ?_ | intro _)
    ·refine fin rfl (bt ?_)
     rename_i h
     have h3 : cD e.Ids o.Ids = false := by simpa using h
     rw [ck, Ze hlt]
     rw [ej, hx]
     simp only [Zbs (p := fun o => cD e.Ids o.Ids) hy h3, Y3]
    ·rename_i h
     have h3 : cD e.Ids o.Ids = true := by simpa using h
     refine ih2 () (Zkj (p := fun o => cD e.Ids o.Ids) aV hy h3) _ _ ?_
     rw [aM (by rw [Y48] at eW; omega)]; rfl
   ·rintro _ hc2 _ aV
    repeat' (first | refine yt1 ?_ | refine yt0 ?_ | refine yt ?_ ?_ | refine yo ?_ | apply zn | refine yc ?_ | intro _)
    refine ih () (Zl8 hinv ?_) _ _ ?_
    ·rw [ej, hx]
     simp only [h2, Zkl aV, Y4]
    ·rw [aM (by omega)]; rfl
 ·rintro _ hc _ hinv
  repeat' (first | refine yt1 ?_ | refine yt0 ?_ | refine yt ?_ ?_ | refine yo ?_ | apply zn | refine yc ?_ | intro _)
  refine fin rfl (bt ?_)
  rw [ck, Zf hinv]
end Go.Wr
namespace Go.Wr
set_option maxRecDepth 20000
theorem yI (r : ai) (hl : r.ae <= 4000000) : tg [.st (r.cs .n)] = some ⟨[.one (.b r.ok)], []⟩ := by
 simp only [ai.ae] at hl
 (refine Z6j rfl ?_; show Ev Bm.code _ _ _)
 repeat' (first | refine yy ?_ | refine ym ?_ | (apply ze;(iterate 5 exact rfl)) | (apply zf;(iterate 5 exact rfl)) | refine yp ?_ | refine yk pB (B5 r.Lst hl) ?_ | refine yo ?_ | apply zn | refine yc ?_ | exact rfl | intro _)
 refine fin rfl (bt ?_)
 have e : decide (((r.Lst.map (ab.el .n)).length : Int) <= 24) = decide (r.Lst.length <= 24) := by rw [Y45, Y7]; simp; omega
 rw [ai.ok, e]
theorem zI (r : ai) (hl : r.ae <= 4000000) : oL [.st (r.cs .n)] = some ⟨[.one (.b r.ok)], []⟩ := by
 simp only [ai.ae] at hl
 have hlen := Z1t ab.ae r.Lst
 (refine Z6j rfl ?_; show Ev wb.code _ _ _)
 repeat' (first | refine yt1 ?_ | refine yt0 ?_ | refine yt ?_ ?_ | refine yo ?_ | apply zn | refine yc ?_ | intro _)
 ·refine fin rfl (bt ?_)
  rename_i h
  have : ¬ r.Lst.length <= 24 := by simp at h; omega
  simp [ai.ok, this]
 ·rename_i h
  have h24 : decide (r.Lst.length <= 24) = true := by simp at h ⊢; omega
  rw [ai.ok, h24, Y15]
  refine bq (ab.el .n) r.Lst (fun i (_ : Unit) => [(1, .box ⟨0, 0, 0⟩ (r.cs .n)), (3, .x (iT i))]) (fun i _ => ∀ j, j < i -> ej r.Lst j = true) () (by omega) rfl ?_ ?_
  ·rintro i _ e hx hlt hc _ hinv ih
   have hbe : e.ae <= 4000000 := Y77 (Z1v hx) hl
   have hbi : e.Ids.length <= 4194304 := by have : e.Ids.length <= e.ae := by { unfold ab.ae; omega }; omega
   repeat' (first | refine yi (ab.el .n e) (Zar hx) ?_ | refine yk jx (nq e hbe) ?_ | refine yt1 ?_ | refine yt0 ?_ | refine yt ?_ ?_ | refine yo ?_ | apply zn | refine yc ?_ | intro _)
   ·refine fin rfl (bt ?_)
    rename_i h
    have h2 : e.ok = false := by simpa using h
    rw [ck, Ze hlt (Zj hx h2)]
   ·rename_i h
    have h2 : e.ok = true := by simpa using h
    refine bq (ab.el .n) (r.Lst.take i) (fun k (_ : Unit) => [(1, .box ⟨0, 0, 0⟩ (r.cs .n)), (3, .x (iT i)), (4, .x (iT k))]) (fun k _ => ((r.Lst.take i).take k).all (fun o => cD e.Ids o.Ids) = true) () (by simp) rfl ?_ ?_
    ·rintro k _ o hy eW _ _ aV ih2
     rw [Y48] at eW
     have hc2 : decide ((k : Int) < (i : Int)) = true := by simp; omega
     have hy2 : r.Lst[k]? = some o := by rwa [List.getElem?_take_of_lt (by omega)] at hy
     have hbo : o.Ids.length <= 4194304 := by
      have := Z1v (f := ab.ae) hy2
      unfold ab.ae at this; unfold ab.ae at hl; omega
     repeat' (first | refine yi (ab.el .n o) (Zar hy2) ?_ | refine yi (ab.el .n e) (Zar hx) ?_ | refine yk mI (zH e.Ids o.Ids hbi hbo) ?_ | refine yt1 ?_ | refine yt0 ?_ | refine yt ?_ ?_ | refine yo ?_ | apply zn | refine yc ?_ | intro _)
     ·refine fin rfl (bt ?_)
      rename_i h
      have h3 : cD e.Ids o.Ids = false := by simpa using h
      rw [ck, Ze hlt]
      rw [ej, hx]
      simp only [Zbs (p := fun o => cD e.Ids o.Ids) hy h3, Y3]
     ·rename_i h
      have h3 : cD e.Ids o.Ids = true := by simpa using h
      refine ih2 () (Zkj (p := fun o => cD e.Ids o.Ids) aV hy h3) _ _ ?_
      rw [aM (by omega)]; rfl
    ·rintro _ _ _ aV
     have hc2 : decide (((r.Lst.take i).length : Int) < (i : Int)) = false := by rw [Y48]; simp; omega
     repeat' (first | refine yt1 ?_ | refine yt0 ?_ | refine yt ?_ ?_ | refine yo ?_ | apply zn | refine yc ?_ | intro _)
     refine ih () (Zl8 hinv ?_) _ _ ?_
     ·rw [ej, hx]
      simp only [h2, Zkl aV, Y4]
     ·rw [aM (by omega)]; rfl
  ·rintro _ hc _ hinv
   repeat' (first | refine yt1 ?_ | refine yt0 ?_ | refine yt ?_ ?_ | refine yo ?_ | apply zn | refine yc ?_ | intro _)
   refine fin rfl (bt ?_)
   rw [ck, Zf hinv]
theorem Kn (x : aa) (n : Int) : AU [.st (x.cs .n), .x (.p (iT n))] = some ⟨[.one (.b (inB n x.Lo x.Hi))], []⟩ := by
 (refine Z6j rfl ?_; show Ev AT.code _ _ _)
 repeat' (first | refine yk cm (fu _ _ _) ?_ | refine yo ?_ | apply zn | refine yc ?_ | intro _)
 exact fin rfl rfl
theorem Ko (s : List aa) (n : Int) (hl : s.length <= 4194304) (k : Int) (hk : k = match s.findIdx? (fun x => inB n x.Lo x.Hi) with | some i => (i : Int) | none => -1) : AX [.x (aa.ls .n s), .x (.f nM [.p (iT n)])] = some ⟨[.one (iT k)], []⟩ := by
 (refine Z6j rfl ?_; show Ev AW.code _ _ _)
 repeat' (first | refine yt1 ?_ | refine yt0 ?_ | refine yt ?_ ?_ | refine yo ?_ | apply zn | refine yc ?_ | intro _)
 refine bq (aa.el .n) s (fun i (_ : Unit) => [(0, .x (aa.ls .n s)), (1, .x (.f nM [.p (iT n)])), (7, .x (iT (s.map (aa.el .n)).length)), (8, .x (iT i))]) (fun i _ => ∀ j x, j < i -> s[j]? = some x -> inB n x.Lo x.Hi = false) () (by omega) rfl ?_ ?_
 ·rintro i _ x hx hlt hc _ hinv ih
  repeat' (first | refine yi (aa.el .n x) (Zar hx) ?_ | refine yd (Kn x n) ?_ | refine yt1 ?_ | refine yt0 ?_ | refine yt ?_ ?_ | refine yo ?_ | apply zn | refine yc ?_ | intro _)
  ·refine fin rfl (lX ?_)
   rename_i h
   have h3 : s.findIdx? (fun x => inB n x.Lo x.Hi) = some i := by
    rw [List.findIdx?_eq_some_iff_getElem]
    refine ⟨hlt, ?_, fun j hj => ?_⟩
    ·rw [(Y36.1 hx).2]; exact h
    ·rw [hinv j _ hj (Y34 (by omega))]; simp
   rw [hk, h3]
  ·rename_i h
   refine ih () ?_ _ _ ?_
   ·intro j y hj hy
    rcases Nat.lt_succ_iff_lt_or_eq.1 hj with h1 | rfl
    ·exact hinv j y h1 hy
    ·rw [hx] at hy; cases hy; exact h
   ·rw [aM (by omega)]; rfl
 ·rintro _ hc _ hinv
  repeat' (first | refine yt1 ?_ | refine yt0 ?_ | refine yt ?_ ?_ | refine yo ?_ | apply zn | refine yc ?_ | intro _)
  refine fin rfl (lX ?_)
  have h3 : s.findIdx? (fun x => inB n x.Lo x.Hi) = none := by
   rw [List.findIdx?_eq_none_iff]
   intro x hx
   obtain ⟨j, hj⟩ := Y59.1 hx
   exact hinv j x (Y36.1 hj).1 hj
  rw [hk, h3]
theorem Kp (s : List aa) (n : Int) (hl : s.length <= 4194304) : AZ [.x (aa.ls .n s), .x (.f nM [.p (iT n)])] = some ⟨[.one (.b (dg s n))], []⟩ := by
 (refine Z6j rfl ?_; show Ev AY.code _ _ _)
 repeat' (first | refine yk AD (Ko s n hl _ rfl) ?_ | refine yo ?_ | apply zn | refine yc ?_ | intro _)
 refine fin rfl (bt ?_)
 unfold dg
 cases h : s.findIdx? (fun x => inB n x.Lo x.Hi) with
 | none =>
  rw [List.findIdx?_eq_none_iff] at h
  rw [eq_comm]
  show _ = false
  rw [List.any_eq_false]
  intro x hx; rw [h x hx]; simp
 | some i =>
  rw [List.findIdx?_eq_some_iff_getElem] at h
  obtain ⟨hi, h, _⟩ := h
  rw [eq_comm, Y20.2 ⟨_, Y40 hi, h⟩]
  simp
theorem B6 (s : List aa) (n : Int) (hl : s.length <= 4194304) : s9 [.x (aa.ls .n s), .x (iT n)] = some ⟨[.one (.b (dg s n))], []⟩ := by
 (refine Z6j rfl ?_; show Ev A4.code _ _ _)
 repeat' (first | refine yk AE (Kp s n hl) ?_ | refine yo ?_ | apply zn | refine yc ?_ | intro _)
 exact fin rfl rfl
theorem Zjb (s : List aa) : (ed s).length = s.length := by rw [ed, Y45, Zje, Y45]
theorem Kq (s : List aa) (hl : s.length <= 4194304) : pI [.mu (aa.ls .y s), .x (.f pD [])] = some ⟨[], [[aa.ls .y (ed s)]]⟩ := by
 have h := Zj8 (gc := pD) (s.map fun x => (x.Lo, x.Hi)) (by rw [Y45]; omega)
 rw [Y51] at h
 rw [pI, Zac]
 refine h.trans ?_
 rw [ed, aa.ls, Y51]
 rfl
theorem Zjc (s : List aa) : ∀ x ∈ ed s, x ∈ s := fun x hx => by
 obtain ⟨p, hp, rfl⟩ := Y60.1 hx
 have := (Zjf (s.map fun x => (x.Lo, x.Hi))).1.mem_iff.1 hp
 obtain ⟨y, hy, rfl⟩ := Y60.1 this
 exact hy
end Go.Wr
namespace Go.Wr
set_option maxRecDepth 20000
theorem Zak {ob : Ob} (l : List aa) (x : aa) : aa.ls ob (l ++ [x]) = .l ob 2 (l.map (aa.el ob) ++ [aa.el ob x]) := by rw [aa.ls, Y49]; rfl
theorem B7 (s : List aa) (hl : s.length <= 4194304) (hb : ∀ x ∈ s, HiR x) : te [.x (aa.ls .n s)] = some ⟨[.one (aa.ls .y (eM s))], []⟩ := by
 have hls := Zjb s
 have hbs : ∀ x ∈ ed s, HiR x := fun x hx => hb x (Zjc s x hx)
 (refine Z6j rfl ?_; show Ev Bh.code _ _ _)
 repeat' (first | refine yy ?_ | refine ym ?_ | (apply ze;(iterate 5 exact rfl)) | (apply zf;(iterate 5 exact rfl)) | refine yp ?_ | refine yk pC (B4 s hl) ?_ | (apply zkM AJ;(iterate 6 exact rfl);exact (Kq s hl);(iterate 3 exact rfl)) | refine yt1 ?_ | refine yt0 ?_ | refine yt ?_ ?_ | refine yo ?_ | apply zn | refine yc ?_ | exact rfl | intro _)
 refine bq (aa.el .n) (ed s) (fun i (out : List aa) => [(3, .own ⟨0, 0, 0⟩ (aa.ls .y (ed s))), (4, .own ⟨0, 0, 0⟩ (aa.ls .y out)), (12, .w 3 ⟨0, 0, 0⟩ [] 2 0 ((ed s).map (aa.el .n)).length), (13, .x (iT ((ed s).map (aa.el .n)).length)), (14, .x (iT i))]) (fun i out => out = ((ed s).take i).foldl cX [] /\ (∀ x ∈ out, HiR x) /\ out.length <= i) [] (by simp) rfl ?_ ?_
 ·rintro i out x hx hlt hc _ ⟨hinv, hbo, hlo⟩ ih
  have hbx := hbs x (Y62 hx)
  have iS : cX out x = ((ed s).take (i + 1)).foldl cX [] /\ (∀ y ∈ cX out x, HiR y) /\ (cX out x).length <= i + 1 := ⟨by rw [hinv, Z5y hx], Zdn hbo hbx, Y77 (Zdo _ _) (by omega)⟩
  rcases List.eq_nil_or_concat out with rfl | ⟨o, p, rfl⟩
  ·have h0 : decide (((([] : List aa).map (aa.el .y)).length : Int) > 0) = !true := rfl
   have h1 : decide (((([] : List aa).map (aa.el .y)).length : Int) > 0) = false := rfl
   have h2 : false = false := rfl
   repeat' (first | refine yy ?_ | refine ym ?_ | (apply ze;(iterate 5 exact rfl)) | (apply zf;(iterate 5 exact rfl)) | refine yp ?_ | refine yx (Zcs hlt) ?_ | refine yL (aa.cs .n x) (Zbj (Zar hx)) ?_ | (apply zv;(iterate 7 exact rfl);exact (Zo (f := aa.el .n) (l := [x]) (es := []) (by simp));exact (rfl);exact rfl;exact rfl) | refine yt1 ?_ | refine yt0 ?_ | refine yt ?_ ?_ | refine yo ?_ | apply zn | refine yc ?_ | exact rfl | intro _)
   refine ih _ iS _ _ ?_
   rw [aM (by omega)]; rfl
  ·rw [List.concat_eq_append] at hinv hbo hlo iS ⊢
   have hbp := hbo p (by simp)
   have h0 : decide ((((o ++ [p]).map (aa.el .y)).length : Int) > 0) = true := by simp
   have hk : IntKind.i64.wrap ((((o ++ [p]).map (aa.el .y)).length : Int) - 1) = (o.length : Int) := by
    rw [Y41] at hlo; rw [Y45, Y41, w64 (by simp at hlo ⊢; omega)]; simp
   have hk0 : 0 <= IntKind.i64.wrap ((((o ++ [p]).map (aa.el .y)).length : Int) - 1) := by rw [hk]; omega
   have hkl : IntKind.i64.wrap ((((o ++ [p]).map (aa.el .y)).length : Int) - 1) < (((o ++ [p]).map (aa.el .y)).length : Nat) := by rw [hk]; simp; omega
   have dY : ((o ++ [p]).map (aa.el .y)).length + ([x].map (aa.el .n)).length < aS := by simp [aS]; simp at hlo; omega
   have hmx : (if x.Hi > p.Hi then x.Hi else p.Hi) = max p.Hi x.Hi := by split <;> omega
   have hw : IntKind.i64.wrap (p.Hi + 1) = p.Hi + 1 := w64 (by unfold HiR at hbp; omega)
   repeat' (first | refine yy ?_ | refine ym ?_ | (apply ze;(iterate 5 exact rfl)) | (apply zf;(iterate 5 exact rfl)) | refine yp ?_ | refine yz (hk0) (hkl) ?_ | refine yx (Zcs hlt) ?_ | refine yL (aa.cs .n x) (Zbj (Zar hx)) ?_ | refine yl (aa.el .n p) (Z9g o p hk) ?_ | refine yS (aa.el .n p) (aa.ls .y (o ++ [⟨p.Lo, if x.Hi > p.Hi then x.Hi else p.Hi⟩])) (Z9g o p hk) (Z9h o p hk) (Z9i o p ⟨p.Lo, if x.Hi > p.Hi then x.Hi else p.Hi⟩ hk rfl) ?_ | (apply zv;(iterate 7 exact rfl);exact (dY);exact (rfl);exact rfl;exact rfl) | refine yt1 ?_ | refine yt0 ?_ | refine yt ?_ ?_ | refine yo ?_ | apply zn | refine yc ?_ | exact rfl | intro _)
   ·rename_i h
    rw [hw] at h
    have hn := iS
    rw [Zdr, if_pos (of_decide_eq_true h)] at hn
    refine ih _ hn _ _ ?_
    rw [<- hmx, aM (by omega)]; rfl
   ·rename_i h
    rw [hw] at h
    have hn := iS
    rw [Zdr, if_neg (of_decide_eq_false h)] at hn
    refine ih _ hn _ _ ?_
    rw [aM (by omega), Zak]; rfl
 ·rintro out hc _ ⟨hinv, _, _⟩
  rw [Y72] at hinv
  repeat' (first | refine yy ?_ | refine ym ?_ | (apply ze;(iterate 5 exact rfl)) | (apply zf;(iterate 5 exact rfl)) | refine yp ?_ | refine yt1 ?_ | refine yt0 ?_ | refine yt ?_ ?_ | refine yo ?_ | apply zn | refine yc ?_ | exact rfl | intro _)
  refine fin rfl ?_
  simp only [Zk0, hinv]; rfl
theorem o8 (l : List ab) (hl : aF ab.ae l <= 4000000) (hb : ∀ e ∈ l, ∀ x ∈ e.Ids, HiR x) : kR [.x (ab.ls .n l)] = some ⟨[.one (aa.ls .y (cz l))], []⟩ := by
 have hlen := Z1t ab.ae l
 have hfl : (l.flatMap ab.Ids).length <= 4000000 := by
  rw [List.flatMap_def]
  exact Y77 (Z5q (g := ab.ae) (fun e => by unfold ab.ae; omega) l) hl
 have hbb : ∀ x ∈ l.flatMap ab.Ids, HiR x := fun x hx => by
  obtain ⟨e, he, hx⟩ := Y58.1 hx
  exact hb e he x hx
 (refine Z6j rfl ?_; show Ev Bi.code _ _ _)
 repeat' (first | refine yt1 ?_ | refine yt0 ?_ | refine yt ?_ ?_ | refine yo ?_ | apply zn | refine yc ?_ | intro _)
 refine bq (ab.el .n) l (fun i (out : List aa) => [(3, .own ⟨0, 0, 0⟩ (aa.ls .y out)), (6, .x (ab.ls .n l)), (7, .x (iT (l.map (ab.el .n)).length)), (8, .x (iT i))]) (fun i out => out = ((l.take i).map ab.Ids).flatten) [] (by simp) rfl ?_ ?_
 ·rintro i out e hx hlt hc _ hinv ih
  have hb1 := Z5o (f := ab.Ids) hx
  rw [<- List.flatMap_def] at hb1
  have dY : (out.map (aa.el .y)).length + (e.Ids.map (aa.el .n)).length < aS := by
   rw [Y45, Y45, hinv]; unfold aS; rw [<- List.flatMap_def] at hb1 ⊢; omega
  repeat' (first | refine yi (ab.el .n e) (Zar hx) ?_ | (apply zvn;(iterate 8 exact rfl);exact (dY);exact rfl;exact rfl) | refine yt1 ?_ | refine yt0 ?_ | refine yt ?_ ?_ | refine yo ?_ | apply zn | refine yc ?_ | intro _)
  refine ih (out ++ e.Ids) (by rw [hinv, Z5u hx]) _ _ ?_
  rw [aM (by omega), aa.ls, Y49]; rfl
 ·rintro out hc _ hinv
  rw [Y72, <- List.flatMap_def] at hinv
  have hlo : out.length <= 4194304 := by rw [hinv]; omega
  repeat' (first | refine yw pE (B7 out hlo (hinv ▸ hbb)) (Z28 rfl (Z2p (fun _ => rfl) _)) ?_ | refine yt1 ?_ | refine yt0 ?_ | refine yt ?_ ?_ | refine yo ?_ | apply zn | refine yc ?_ | intro _)
  exact fin rfl (by rw [cz, <- hinv])
end Go.Wr
namespace Go.Wr
set_option maxRecDepth 20000
def gd (r : ai) : List aa := if r.ok then cz r.Lst else []
theorem Z3i {l : List ab} (h : ck l = true) {e : ab} (he : e ∈ l) : e.ok = true := by
 obtain ⟨i, hi⟩ := Y59.1 he
 have := Zd.1 h i (Y36.1 hi).1
 simp only [ej, hi, Y2] at this
 exact this.1
theorem nr {e : ab} (h : e.ok = true) : cf e.Ids = true := by
 simp only [ab.ok, Y2] at h; exact h.1.1.2
theorem Ziu {s : List aa} (h : cf s = true) : ∀ x ∈ s, HiR x := fun x hx => by
 have := Zit h hx; unfold HiR; omega
theorem Z3j {l : List ab} (h : ck l = true) : ∀ e ∈ l, ∀ x ∈ e.Ids, HiR x := fun e he => Ziu (nr (Z3i h he))
theorem Zgy {r : ai} (h : r.ok = true) : ck r.Lst = true := by
 simp only [ai.ok, Y2] at h; exact h.2
theorem Kr (r : ai) (hl : r.ae <= 4000000) : Bn [.st (r.cs .n)] = some ⟨[.one (aa.ls .y (gd r))], []⟩ := by
 have hb : r.ok = true -> ∀ e ∈ r.Lst, ∀ x ∈ e.Ids, HiR x := fun h => Z3j (Zgy h)
 have hl2 : aF ab.ae r.Lst <= 4000000 := hl
 cases h : r.ok with
 | false =>
  have hr := yI r hl
  rw [h] at hr
  have h1 : (!false) = true := rfl
  (refine Z6j rfl ?_; show Ev th.code _ _ _)
  repeat' (first | refine yk nN (hr) ?_ | refine yt1 ?_ | refine yt0 ?_ | refine yt ?_ ?_ | refine yo ?_ | apply zn | refine yc ?_ | intro _)
  exact fin rfl (by rw [gd, h]; rfl)
 | true =>
  have hr := yI r hl
  rw [h] at hr
  have h1 : (!true) = false := rfl
  (refine Z6j rfl ?_; show Ev th.code _ _ _)
  repeat' (first | refine yk nN (hr) ?_ | refine yk kc (o8 r.Lst hl2 (hb h)) ?_ | refine yt1 ?_ | refine yt0 ?_ | refine yt ?_ ?_ | refine yo ?_ | apply zn | refine yc ?_ | intro _)
  exact fin rfl (by rw [gd, h]; rfl)
structure yJ (i : Nat) (p : eN) : Prop where
 len : p.out.length <= 2 * i
 hi : HiR p.x
theorem Zdz {i : Nat} {p : eN} {y : aa} (h : yJ i p) (hy : HiR y) : yJ (i + 1) (ch p y) := by
 have h1 := h.len
 have h2 := h.hi
 unfold ch HiR at *
 split
 ·exact ⟨by simp; omega, h2⟩
 ·split
  ·split
   ·exact ⟨by simp; omega, h2⟩
   ·exact ⟨by simp; omega, h2⟩
  ·refine ⟨by simp only; omega, ?_⟩
   unfold HiR; simp only; omega
theorem Zal {ob : Ob} (l : List aa) (x y : aa) : aa.ls ob (l ++ [x, y]) = .l ob 2 (l.map (aa.el ob) ++ [aa.el ob x] ++ [aa.el ob y]) := by rw [aa.ls, Y49, Y21]; rfl
theorem pY (s : List aa) (x : aa) (hl : s.length <= 4194304) (hb : ∀ y ∈ s, HiR y) (hx : HiR x) : lJ [.x (aa.ls .n s), .st (x.cs .n)] = some ⟨[.one (aa.ls .y (cT s x))], []⟩ := by
 (refine Z6j rfl ?_; show Ev wg.code _ _ _)
 repeat' (first | refine yt1 ?_ | refine yt0 ?_ | refine yt ?_ ?_ | refine yo ?_ | apply zn | refine yc ?_ | intro _)
 refine bq (aa.el .n) s (fun i (p : eN) => [(0, .x (aa.ls .n s)), (3, .box ⟨0, 0, 0⟩ (p.x.cs .n)), (5, .own ⟨0, 0, 0⟩ (aa.ls .y p.out)), (6, .x (.b p.done)), (7, .x (iT i))]) (fun i p => p = (s.take i).foldl ch ⟨[], false, x⟩ /\ yJ i p) ⟨[], false, x⟩ ⟨rfl, by simp, hx⟩ rfl ?_ ?_
 ·rintro i p y hy hlt hc _ ⟨hinv, hr⟩ ih
  have hby := hb y (Y62 hy)
  have iS : ch p y = (s.take (i + 1)).foldl ch ⟨[], false, x⟩ /\ yJ (i + 1) (ch p y) := ⟨by rw [hinv, Z5y hy], Zdz hr hby⟩
  have hlo := hr.len
  have hxr := hr.hi
  have hw1 : IntKind.i64.wrap (y.Hi + 1) = y.Hi + 1 := w64 (by unfold HiR at hby; omega)
  have hw2 : IntKind.i64.wrap (p.x.Hi + 1) = p.x.Hi + 1 := w64 (by unfold HiR at hxr; omega)
  have dY : ∀ z : aa, (p.out.map (aa.el .y)).length + ([z].map (aa.el .n)).length < aS := fun z => by simp [aS]; omega
  have yK : (p.out.map (aa.el .y) ++ [aa.el .y p.x]).length + ([y].map (aa.el .n)).length < aS := by simp [aS]; omega
  repeat' (first | refine yi (aa.el .n y) (Zar hy) ?_ | refine yk hD (kW _ _) ?_ | refine yk gr (kV _ _) ?_ | (apply zv;(iterate 7 exact rfl);exact (dY _);exact (rfl);exact rfl;exact rfl) | (apply zv;(iterate 7 exact rfl);exact (yK);exact (rfl);exact rfl;exact rfl) | refine yt1 ?_ | refine yt0 ?_ | refine yt ?_ ?_ | refine yo ?_ | apply zn | refine yc ?_ | intro _)
  ·rename_i h
   rw [hw1] at h
   have hn := iS
   rw [ch, if_pos (of_decide_eq_true h)] at hn
   refine ih _ hn _ _ ?_
   rw [aM (by omega), Zak]; rfl
  ·rename_i h h2 h3
   rw [hw1] at h; rw [hw2] at h2
   have h3' : p.done = false := by simpa using h3
   have hn := iS
   rw [ch, if_neg (of_decide_eq_false h), if_pos (of_decide_eq_true h2), h3'] at hn
   refine ih _ hn _ _ ?_
   rw [aM (by omega), if_neg (by simp), Zal]; rfl
  ·rename_i h h2 h3
   rw [hw1] at h; rw [hw2] at h2
   have h3' : p.done = true := by simpa using h3
   have hn := iS
   rw [ch, if_neg (of_decide_eq_false h), if_pos (of_decide_eq_true h2), h3'] at hn
   refine ih _ hn _ _ ?_
   rw [aM (by omega), if_pos rfl, Zak, h3']; rfl
  ·rename_i h h2
   rw [hw1] at h; rw [hw2] at h2
   have hn := iS
   rw [ch, if_neg (of_decide_eq_false h), if_neg (of_decide_eq_false h2)] at hn
   refine ih _ hn _ _ ?_
   rw [aM (by omega)]; rfl
 ·rintro p hc _ ⟨hinv, hr⟩
  rw [Y72] at hinv
  have hlo := hr.len
  have dY : ∀ z : aa, (p.out.map (aa.el .y)).length + ([z].map (aa.el .n)).length < aS := fun z => by simp [aS]; omega
  have fX : cT s x = if p.done then p.out else p.out ++ [p.x] := by rw [hinv]; rfl
  repeat' (first | (apply zv;(iterate 7 exact rfl);exact (dY _);exact (rfl);exact rfl;exact rfl) | refine yt1 ?_ | refine yt0 ?_ | refine yt ?_ ?_ | refine yo ?_ | apply zn | refine yc ?_ | intro _)
  ·rename_i h
   have h' : p.done = false := by simpa using h
   rw [fX, h', if_neg (by simp), Zak]
   exact fin rfl (by simp only [Zk0]; rfl)
  ·rename_i h
   have h' : p.done = true := by simpa using h
   rw [fX, h', if_pos rfl]
   exact fin rfl (by simp only [Zk0])
theorem Zdw {p : eN} {y : aa} (ho : ∀ z ∈ p.out, HiR z) (hx : HiR p.x) (hy : HiR y) : (∀ z ∈ (ch p y).out, HiR z) /\ HiR (ch p y).x := by
 unfold ch
 split
 ·exact ⟨by simpa [or_imp, forall_and] using ⟨ho, hy⟩, hx⟩
 ·split
  ·split
   ·exact ⟨by simpa [or_imp, forall_and] using ⟨ho, hy⟩, hx⟩
   ·exact ⟨by simpa [or_imp, forall_and] using ⟨ho, hx, hy⟩, hx⟩
  ·refine ⟨ho, ?_⟩
   unfold HiR at *; simp only; omega
theorem Zdg : ∀ {s : List aa} {p : eN}, (∀ y ∈ s, HiR y) -> (∀ z ∈ p.out, HiR z) -> HiR p.x -> (∀ z ∈ (s.foldl ch p).out, HiR z) /\ HiR (s.foldl ch p).x
 | [], p, _, ho, hx => ⟨ho, hx⟩
 | y :: s, p, hs, ho, hx => by
  have h := Zdw ho hx (hs y Y57)
  exact Zdg (s := s) (fun z hz => hs z (Y56 _ hz)) h.1 h.2
theorem Zdk {s : List aa} {x : aa} (hs : ∀ y ∈ s, HiR y) (hx : HiR x) : ∀ z ∈ cT s x, HiR z := by
 have h := Zdg (p := ⟨[], false, x⟩) hs (by simp) hx
 unfold cT
 simp only
 split
 ·exact h.1
 ·simpa [or_imp, forall_and] using h
theorem Zdx (p : eN) (y : aa) : (ch p y).out.length + (bif (ch p y).done then 0 else 1) <= p.out.length + (bif p.done then 0 else 1) + 1 := by
 unfold ch
 split
 ·simp; omega
 ·split
  ·split
   ·rename_i h; simp [h]
   ·rename_i h; simp [h]
  ·simp
theorem Zdh : ∀ (s : List aa) (p : eN), (s.foldl ch p).out.length + (bif (s.foldl ch p).done then 0 else 1) <= p.out.length + (bif p.done then 0 else 1) + s.length
 | [], p => by simp
 | y :: s, p => by
  have h := Zdh s (ch p y)
  have h2 := Zdx p y
  simp only [Y28, Y42]
  omega
theorem Zdl (s : List aa) (x : aa) : (cT s x).length <= s.length + 1 := by
 have h := Zdh s ⟨[], false, x⟩
 simp only [Y46, cond_false] at h
 unfold cT
 simp only
 split
 ·rename_i h2; rw [h2, cond_true] at h; omega
 ·rename_i h2; rw [Y6.2 h2, cond_false] at h; rw [Y41, List.length_singleton]; omega
theorem Z8u : ∀ {b a : List aa}, (∀ y ∈ a, HiR y) -> (∀ y ∈ b, HiR y) -> ∀ z ∈ du a b, HiR z
 | [], a, ha, _ => ha
 | x :: b, a, ha, hb => Z8u (b := b) (a := cT a x) (Zdk ha (hb x Y57)) fun y hy => hb y (Y56 _ hy)
theorem Z8v : ∀ (b a : List aa), (du a b).length <= a.length + b.length
 | [], a => by simp [du]
 | x :: b, a => by
  have h1 := Z8v b (cT a x)
  have h2 := Zdl a x
  simp only [du, Y28, Y42] at h1 ⊢
  omega
theorem pZ (a b : List aa) (hl : a.length + b.length <= 4194304) (ha : ∀ y ∈ a, HiR y) (hb : ∀ y ∈ b, HiR y) : nb [.x (aa.ls .n a), .x (aa.ls .n b)] = some ⟨[.one (aa.ls .y (du a b))], []⟩ := by
 (refine Z6j rfl ?_; show Ev wh.code _ _ _)
 repeat' (first | refine yk sf (GS a (by omega)) ?_ | refine yt1 ?_ | refine yt0 ?_ | refine yt ?_ ?_ | refine yo ?_ | apply zn | refine yc ?_ | intro _)
 refine bq (aa.el .n) b (fun i (o : List aa) => [(1, .x (aa.ls .n b)), (5, .own ⟨0, 0, 0⟩ (aa.ls .y o)), (6, .x (iT i))]) (fun i o => o = du a (b.take i)) a rfl rfl ?_ ?_
 ·rintro i o y hy hlt hc _ hinv ih
  have hl1 := Z8v (b.take i) a
  rw [<- hinv, Y48] at hl1
  have hho : ∀ z ∈ o, HiR z := hinv ▸ Z8u ha fun z hz => hb z (Y63 hz)
  repeat' (first | refine yi (aa.el .n y) (Zar hy) ?_ | refine yw kp (pY o y (by omega) hho (hb y (Y62 hy))) (Z28 rfl (Z2p (fun _ => rfl) _)) ?_ | refine yt1 ?_ | refine yt0 ?_ | refine yt ?_ ?_ | refine yo ?_ | apply zn | refine yc ?_ | intro _)
  refine ih (cT o y) ?_ _ _ ?_
  ·rw [hinv, du, du, Z5y hy]
  ·rw [aM (by omega)]; rfl
 ·rintro o hc _ hinv
  rw [Y72] at hinv
  repeat' (first | refine yt1 ?_ | refine yt0 ?_ | refine yt ?_ ?_ | refine yo ?_ | apply zn | refine yc ?_ | intro _)
  exact fin rfl (by simp only [Zk0, hinv])
def dS (r : ai) : List aa := if r.ok then r.Lst.foldl (fun o e => du o e.Ids) [] else []
theorem Z8x : ∀ {l : List ab} {a : List aa}, (∀ e ∈ l, ∀ x ∈ e.Ids, HiR x) -> (∀ y ∈ a, HiR y) -> ∀ z ∈ l.foldl (fun o e => du o e.Ids) a, HiR z
 | [], a, _, ha => ha
 | e :: l, a, hl, ha => Z8x (l := l) (fun e he => hl e (Y56 _ he)) (Z8u ha (hl e Y57))
theorem Z8y : ∀ (l : List ab) (a : List aa), (l.foldl (fun o e => du o e.Ids) a).length <= a.length + (l.map fun e => e.Ids.length).sum
 | [], a => by simp
 | e :: l, a => by
  have h1 := Z8y l (du a e.Ids)
  have h2 := Z8v e.Ids a
  simp only [Y28, Y50, Y69]
  omega
theorem Z8b (l : List ab) : (l.map fun e => e.Ids.length).sum <= aF ab.ae l := by
 unfold aF
 induction l with
 | nil => simp
 | cons e l ih => have : e.Ids.length <= e.ae := by { unfold ab.ae; omega }; simp only [Y50, Y69, Y42]; omega
theorem GY (r : ai) (hl : r.ae <= 4000000) : wi [.st (r.cs .n)] = some ⟨[.one (aa.ls .y (dS r))], []⟩ := by
 have hro := zI r hl
 have hl2 : aF ab.ae r.Lst <= 4000000 := hl
 have hlen := Z1t ab.ae r.Lst
 have hsm := Z8b r.Lst
 cases h : r.ok with
 | false =>
  rw [h] at hro
  have h1 : (!false) = true := rfl
  (refine Z6j rfl ?_; show Ev oM.code _ _ _)
  repeat' (first | refine yk lC (hro) ?_ | refine yt1 ?_ | refine yt0 ?_ | refine yt ?_ ?_ | refine yo ?_ | apply zn | refine yc ?_ | intro _)
  exact fin rfl (by rw [dS, h]; rfl)
 | true =>
  rw [h] at hro
  have h1 : (!true) = false := rfl
  have hb := Z3j (Zgy h)
  (refine Z6j rfl ?_; show Ev oM.code _ _ _)
  repeat' (first | refine yk lC (hro) ?_ | refine yt1 ?_ | refine yt0 ?_ | refine yt ?_ ?_ | refine yo ?_ | apply zn | refine yc ?_ | intro _)
  refine bq (ab.el .n) r.Lst (fun i (o : List aa) => [(1, .box ⟨0, 0, 0⟩ (r.cs .n)), (3, .own ⟨0, 0, 0⟩ (aa.ls .y o)), (4, .x (iT i))]) (fun i o => o = (r.Lst.take i).foldl (fun o e => du o e.Ids) []) [] rfl rfl ?_ ?_
  ·rintro i o e hx hlt hc _ hinv ih
   have hl1 := Z8y (r.Lst.take i) []
   have hl3 := Zd9 (f := fun e : ab => e.Ids.length) hx
   have hl4 := Zd8 (f := fun e : ab => e.Ids.length) (l := r.Lst) (i := i + 1)
   have hl5 : o.length + e.Ids.length <= 4194304 := by
    unfold aF at hl4; rw [<- hinv] at hl1; simp only [pre, Y46] at hl1 hl3 hl4; omega
   have hho : ∀ z ∈ o, HiR z := hinv ▸ Z8x (fun e he => hb e (Y63 he)) (by simp)
   repeat' (first | refine yi (ab.el .n e) (Zar hx) ?_ | refine yw kq (pZ o e.Ids hl5 hho (hb e (Y62 hx))) (Z28 rfl (Z2p (fun _ => rfl) _)) ?_ | refine yt1 ?_ | refine yt0 ?_ | refine yt ?_ ?_ | refine yo ?_ | apply zn | refine yc ?_ | intro _)
   refine ih (du o e.Ids) ?_ _ _ ?_
   ·rw [hinv, Z5y (f := fun o (e : ab) => du o e.Ids) hx]
   ·rw [aM (by omega)]; rfl
  ·rintro o hc _ hinv
   rw [Y72] at hinv
   repeat' (first | refine yt1 ?_ | refine yt0 ?_ | refine yt ?_ ?_ | refine yo ?_ | apply zn | refine yc ?_ | intro _)
   exact fin rfl (by simp only [Zk0, hinv, dS, h, if_true])
end Go.Wr
namespace Go.Wr
set_option maxRecDepth 20000
def cj (x : aa) : Prop := 0 <= x.Lo /\ x.Lo <= x.Hi /\ x.Hi <= 9999
def fF (x : aa) (a : Int) : Int := max (min x.Hi (100 * a + 60) - max x.Lo (100 * a + 1) + 1) 0
theorem Zby (s : List aa) (a : Int) : cE s a = (s.map fun x => fF x a).sum := rfl
theorem Zc0 (x : aa) (a : Int) : 0 <= fF x a /\ fF x a <= 60 := by unfold fF; omega
theorem Zbx : ∀ (s : List aa) (a : Int), 0 <= cE s a /\ cE s a <= 60 * s.length
 | [], a => by simp [cE]
 | x :: s, a => by
  have h1 := Zbx s a
  have h2 := Zc0 x a
  rw [Zby] at h1 ⊢
  simp only [Y50, Y69, Y42]
  omega
theorem Zbz {s : List aa} {i : Nat} {x : aa} {a : Int} (h : s[i]? = some x) : cE (s.take (i + 1)) a = cE (s.take i) a + fF x a := by
 rw [Zby, Zby, Y70, h]; simp
theorem p4 (s : List aa) (a : Int) (hl : s.length <= 4194304) (ha : 0 <= a /\ a <= 2) (hb : ∀ x ∈ s, cj x) : mZ [.x (aa.ls .n s), .x (iT a)] = some ⟨[.one (iT (cE s a))], []⟩ := by
 have w1 : IntKind.i64.wrap (100 * a) = 100 * a := w64 (by omega)
 have w2 : IntKind.i64.wrap (100 * a + 1) = 100 * a + 1 := w64 (by omega)
 have w3 : IntKind.i64.wrap (100 * a + 60) = 100 * a + 60 := w64 (by omega)
 (refine Z6j rfl ?_; show Ev v7.code _ _ _)
 repeat' (first | refine yt1 ?_ | refine yt0 ?_ | refine yt ?_ ?_ | refine yo ?_ | apply zn | refine yc ?_ | intro _)
 refine bq (aa.el .n) s (fun i (n : Int) => [(0, .x (aa.ls .n s)), (1, .x (iT a)), (5, .x (iT n)), (6, .x (iT i))]) (fun i n => n = cE (s.take i) a) 0 rfl rfl ?_ ?_
 ·rintro i n x hx hlt hc _ hinv ih
  have hbx := hb x (Y62 hx)
  have h1 := Zbx (s.take i) a
  have h2 := Zc0 x a
  rw [Y48] at h1
  repeat' (first | refine yi (aa.el .n x) (Zar hx) ?_ | refine yk hD (kW _ _) ?_ | refine yk gr (kV _ _) ?_ | refine yt1 ?_ | refine yt0 ?_ | refine yt ?_ ?_ | refine yo ?_ | apply zn | refine yc ?_ | intro _)
  refine ih _ rfl _ _ ?_
  have w4 : IntKind.i64.wrap (min x.Hi (100 * a + 60) - max x.Lo (100 * a + 1)) = min x.Hi (100 * a + 60) - max x.Lo (100 * a + 1) := w64 (by unfold cj at hbx; omega)
  have w5 : IntKind.i64.wrap (min x.Hi (100 * a + 60) - max x.Lo (100 * a + 1) + 1) = min x.Hi (100 * a + 60) - max x.Lo (100 * a + 1) + 1 := w64 (by unfold cj at hbx; omega)
  have w6 : IntKind.i64.wrap (n + max (min x.Hi (100 * a + 60) - max x.Lo (100 * a + 1) + 1) 0) = cE (s.take (i + 1)) a := by
   rw [Zbz hx, hinv, w64 (by unfold fF at h2; omega)]; rfl
  rw [w1, w2, w3, w4, w5, w6, aM (by omega)]; rfl
 ·rintro n hc _ hinv
  rw [Y72] at hinv
  repeat' (first | refine yt1 ?_ | refine yt0 ?_ | refine yt ?_ ?_ | refine yo ?_ | apply zn | refine yc ?_ | intro _)
  exact fin rfl (by rw [hinv])
def eB (a : Int) (x : aa) : aa := ⟨100 * a + x.Lo, 100 * a + x.Hi⟩
def cu (l : List al) (a : Nat) : List aa := match l with
 | [] => []
 | s :: l => s.aJ.map (eB a) ++ cu l (a + 1)
theorem Zkr : ∀ (l : List al) (a : Nat) (s : al), cu (l ++ [s]) a = cu l a ++ s.aJ.map (eB ((a + l.length : Nat) : Int))
 | [], a, s => by simp [cu]
 | t :: l, a, s => by
  simp only [Y24, cu, Zkr l (a + 1) s, Y21, Y42]
  rw [show a + 1 + l.length = a + (l.length + 1) by omega]
theorem Zks {l : List al} {i : Nat} {s : al} (h : l[i]? = some s) : cu (l.take (i + 1)) 0 = cu (l.take i) 0 ++ s.aJ.map (eB i) := by
 have hi := (Y36.1 h).1
 rw [Y70, h, Option.toList_some, Zkr, Y48, Nat.min_eq_left (by omega)]
 simp
theorem Zkp : ∀ (l : List al) (a : Nat), (cu l a).length <= aF al.ae l
 | [], a => by simp [cu]
 | s :: l, a => by
  have := Zkp l (a + 1)
  unfold aF at this ⊢
  simp only [cu, Y41, Y45, Y50, Y69, Y42, al.ae] at this ⊢
  omega
def zJ (l : List al) : Prop := l.length = 3 /\ ∀ s ∈ l, ∀ x ∈ s.aJ, 1 <= x.Lo /\ x.Lo <= x.Hi /\ x.Hi <= 60
theorem Zkq : ∀ {l : List al} {a : Nat}, (∀ s ∈ l, ∀ x ∈ s.aJ, 1 <= x.Lo /\ x.Lo <= x.Hi /\ x.Hi <= 60) -> a + l.length <= 3 -> ∀ x ∈ cu l a, cj x
 | [], a, _, _ => by simp [cu]
 | s :: l, a, h, ha => fun x hx => by
  simp only [cu, Y52, Y60] at hx
  simp only [Y42] at ha
  rcases hx with ⟨y, hy, rfl⟩ | hx
  ·have := h s Y57 y hy
   unfold cj eB; simp only; omega
  ·exact Zkq (l := l) (fun s hs => h s (Y56 _ hs)) (by omega) x hx
theorem cj.hi {x : aa} (h : cj x) : HiR x := by unfold cj HiR at *; omega
theorem Zef : ∀ {l o : List aa}, (∀ y ∈ o, HiR y) -> (∀ y ∈ l, HiR y) -> ∀ z ∈ l.foldl cT o, HiR z
 | [], o, ho, _ => ho
 | x :: l, o, ho, hl => Zef (l := l) (o := cT o x) (Zdk ho (hl x Y57)) fun y hy => hl y (Y56 _ hy)
theorem Zeg : ∀ (l o : List aa), (l.foldl cT o).length <= o.length + l.length
 | [], o => by simp
 | x :: l, o => by
  have h1 := Zeg l (cT o x)
  have h2 := Zdl o x
  simp only [Y28, Y42]
  omega
theorem GZ (h : ao) (hl : h.ae <= 4000000) (hs : zJ h.aO) : wG [.st (h.cs .n)] = some ⟨[.one (aa.ls .y ((cu h.aO 0).foldl cT []))], []⟩ := by
 have hb0 : aF al.ae h.aO <= 4000000 := by unfold ao.ae at hl; omega
 have htl := Zkp h.aO 0
 have htr : ∀ i, ∀ x ∈ cu (h.aO.take i) 0, cj x := fun i => Zkq (fun s h2 => hs.2 s (Y63 h2)) (by rw [Y48, hs.1]; omega)
 (refine Z6j rfl ?_; show Ev wF.code _ _ _)
 repeat' (first | refine yt1 ?_ | refine yt0 ?_ | refine yt ?_ ?_ | refine yo ?_ | apply zn | refine yc ?_ | intro _)
 refine bq (al.el .n) h.aO (fun i (o : List aa) => [(1, .box ⟨0, 0, 0⟩ (h.cs .n)), (3, .own ⟨0, 0, 0⟩ (aa.ls .y o)), (4, .x (iT i))]) (fun i o => o = (cu (h.aO.take i) 0).foldl cT []) [] rfl rfl ?_ ?_
 ·rintro i o s hx hlt hc _ hinv ih
  have hr := hs.2 s (Y62 hx)
  have hi3 : (i : Int) <= 2 := by have := hs.1; omega
  have hsl : s.aJ.length <= 4000000 := Y77 (Z1v (f := al.ae) hx) hb0
  have hol : o.length <= 4000000 := by
   rw [hinv]
   refine Y77 (Zeg _ _) ?_
   have := Zkp (h.aO.take i) 0
   have h4 := Zd8 (f := al.ae) (l := h.aO) (i := i)
   unfold aF at this; unfold pre at h4
   rw [Y48] at this
   simp only [Y46]; omega
  have hoh : ∀ y ∈ o, HiR y := hinv ▸ Zef (by simp) fun y hy => (htr i y hy).hi
  have w1 : IntKind.i64.wrap (100 * (i : Int)) = 100 * i := w64 (by omega)
  have hor : 0 <= (i : Int) := Y16 i
  repeat' (first | refine yi (al.el .n s) (Zar hx) ?_ | refine yt1 ?_ | refine yt0 ?_ | refine yt ?_ ?_ | refine yo ?_ | apply zn | refine yc ?_ | intro _)
  refine bq (aa.el .n) s.aJ (fun k (o : List aa) => [(1, .box ⟨0, 0, 0⟩ (h.cs .n)), (3, .own ⟨0, 0, 0⟩ (aa.ls .y o)), (4, .x (iT i)), (5, .x (iT k))]) (fun k o' => o' = ((s.aJ.take k).map (eB i)).foldl cT o) o rfl rfl ?_ ?_
  ·rintro k o' x hy eW hc2 _ aV ih2
   have hxr := hr x (Y62 hy)
   have LD : o'.length <= 4194304 := by
    have h1 := Zeg ((s.aJ.take k).map (eB i)) o
    have h2 := Zeg (cu (h.aO.take i) 0) []
    have h3 := Zkp (h.aO.take i) 0
    have h4 := Zd8 (f := al.ae) (l := h.aO) (i := i + 1)
    have h5 := Zd9 (f := al.ae) hx
    rw [<- aV, Y45, Y48] at h1
    rw [<- hinv] at h2
    unfold aF at h3; unfold pre at h4 h5; unfold al.ae at h5
    rw [Y48] at h3
    simp only [Y46] at h2
    unfold al.ae at h3 h4 hb0
    omega
   have LF : ∀ y ∈ o', HiR y := by
    rw [aV]
    refine Zef hoh fun y hy => ?_
    obtain ⟨z, hz, rfl⟩ := Y60.1 hy
    have := hr z (Y63 hz)
    unfold HiR eB; simp only; omega
   have hsh : HiR (eB i x) := by unfold HiR eB; simp only; omega
   have w2 : IntKind.i64.wrap (100 * (i : Int) + x.Lo) = 100 * i + x.Lo := w64 (by omega)
   have w3 : IntKind.i64.wrap (100 * (i : Int) + x.Hi) = 100 * i + x.Hi := w64 (by omega)
   have fX : lJ [.x (aa.ls .n o'), .st [iT (IntKind.i64.wrap (IntKind.i64.wrap (100 * (i : Int)) + x.Lo)), iT (IntKind.i64.wrap (IntKind.i64.wrap (100 * (i : Int)) + x.Hi))]] = some ⟨[.one (aa.ls .y (cT o' (eB i x)))], []⟩ := by
    rw [w1, w2, w3]; exact pY o' (eB i x) LD LF hsh
   repeat' (first | refine yi (al.el .n s) (Zar hx) ?_ | refine yi (aa.el .n x) (Zar hy) ?_ | refine yw kp (fX) (Z28 rfl (Z2p (fun _ => rfl) _)) ?_ | refine yt1 ?_ | refine yt0 ?_ | refine yt ?_ ?_ | refine yo ?_ | apply zn | refine yc ?_ | intro _)
   refine ih2 (cT o' (eB i x)) ?_ _ _ ?_
   ·rw [aV, Zat hy, List.foldl_append]; rfl
   ·rw [aM (by omega)]; rfl
  ·rintro o' hc2 _ aV
   rw [Y72] at aV
   repeat' (first | refine yi (al.el .n s) (Zar hx) ?_ | refine yt1 ?_ | refine yt0 ?_ | refine yt ?_ ?_ | refine yo ?_ | apply zn | refine yc ?_ | intro _)
   refine ih o' ?_ _ _ ?_
   ·rw [aV, hinv, Zks hx, List.foldl_append]
   ·rw [aM (by omega)]; rfl
 ·rintro o hc _ hinv
  rw [Y72] at hinv
  repeat' (first | refine yt1 ?_ | refine yt0 ?_ | refine yt ?_ ?_ | refine yo ?_ | apply zn | refine yc ?_ | intro _)
  exact fin rfl (by simp only [Zk0, hinv])
end Go.Wr

