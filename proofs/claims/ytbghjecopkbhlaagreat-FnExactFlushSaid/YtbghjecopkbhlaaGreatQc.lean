/-
  What is proved: lemmas on the way to the laws of this seat. No condition.
-/
import Derived.Test.YtbghjecopkbhlaaGreatPa
set_option linter.unusedVariables false
set_option linter.unusedSimpArgs false
namespace Go.Wr
set_option maxRecDepth 20000
theorem Zci {l : List ab} {k : Nat} {x p : ab} (hx : l[k + 1]? = some x) (hp : l[k]? = some p) : fU l (k + 1) = iE p x := by simp [fU, hx, hp]
theorem Zcj {l : List ab} {x : ab} (hx : l[0]? = some x) : fU l 0 = true := by simp [fU, hx]
theorem Zc9 {l : List ab} {k : Nat} {x : ab} (hx : l[k]? = some x) : okE l k = x.ok := by simp [okE, hx]
theorem Zcb {l : List ay} {k : Nat} {x : ay} (hx : l[k]? = some x) : okO l k = x.aL.ok := by simp [okO, hx]
theorem Z78 {l : List ay} {k : Nat} {x : ay} (hx : l[k]? = some x) : fc l k = (x.Gen == (ik (l.take k) x.aL.Key x.aL.cJ : Int)) := by simp [fc, hx]
theorem Zbr {x p : ab} : (decide (x.Key < p.Key) || (x.Key == p.Key && decide (x.cJ <= p.cJ))) = !iE p x := by
 unfold iE
 rw [Y7]
 simp only [Y14, Y2, Y11, Bool.or_eq_false_iff, Bool.and_eq_false_iff, decide_eq_true_eq, decide_eq_false_iff_not, beq_iff_eq, beq_eq_false_iff_ne]
 omega
theorem G0 (h : ao) (hl : h.ae <= 4000000) : wE [.st (h.cs .n)] = some ⟨[.one (.b (fv h))], []⟩ := by
 simp only [ao.ae] at hl
 have hro := Z1t ab.ae h.aH
 have hou := Z1t ay.ae h.aY
 (refine Z6j rfl ?_; show Ev wD.code _ _ _)
 repeat' (first | refine yy ?_ | refine ym ?_ | (apply ze;(iterate 5 exact rfl)) | (apply zf;(iterate 5 exact rfl)) | refine yp ?_ | refine yt1 ?_ | refine yt0 ?_ | refine yt ?_ ?_ | refine yo ?_ | apply zn | refine yc ?_ | exact rfl | intro _)
 refine bq (ab.el .n) h.aH (fun i (_ : Unit) => [(1, .box ⟨0, 0, 0⟩ (h.cs .n)), (3, .x (iT i))]) (fun i _ => ∀ j, j < i -> (okE h.aH j && fU h.aH j) = true) () (by omega) rfl ?_ ?_
 ·rintro i _ e hx hlt hc _ hinv ih
  have hbe : e.ae <= 4000000 := Y77 (Z1v (f := ab.ae) hx) (by omega)
  cases i with
  | zero =>
   have h0 : decide (((0 : Nat) : Int) > 0) = !true := rfl
   have h1 : decide (((0 : Nat) : Int) > 0) = false := rfl
   have h2 : false = false := rfl
   repeat' (first | refine yy ?_ | refine ym ?_ | (apply ze;(iterate 5 exact rfl)) | (apply zf;(iterate 5 exact rfl)) | refine yp ?_ | refine yi (ab.el .n e) (Zar hx) ?_ | refine yk jx (nq e hbe) ?_ | refine yt1 ?_ | refine yt0 ?_ | refine yt ?_ ?_ | refine yo ?_ | apply zn | refine yc ?_ | exact rfl | intro _)
   ·refine fin rfl (bt ?_)
    rename_i h
    have h3 : e.ok = false := by simpa using h
    rw [fv, Ze hlt (by rw [Zc9 hx, h3]; rfl), Y8]
   ·rename_i h
    have h3 : e.ok = true := by simpa using h
    refine ih () (Zl8 hinv (by rw [Zc9 hx, h3, Zcj hx]; rfl)) _ _ ?_
    rw [aM (by omega)]; rfl
  | succ k =>
   have hp := Y34 (show k < h.aH.length by omega)
   generalize h.aH[k]'(by omega) = p at hp
   have hk := Zly (k := k) (by omega)
   have hk0 : 0 <= IntKind.i64.wrap (((k + 1 : Nat) : Int) - 1) := by rw [hk]; omega
   have hkp : (h.aH.map (ab.el .n))[(IntKind.i64.wrap (((k + 1 : Nat) : Int) - 1)).toNat]? = some (ab.el .n p) := by rw [hk]; exact Zar hp
   have h0 : decide (((k + 1 : Nat) : Int) > 0) = true := by simp
   repeat' (first | refine yy ?_ | refine ym ?_ | (apply ze;(iterate 5 exact rfl)) | (apply zf;(iterate 5 exact rfl)) | refine yp ?_ | refine yi (ab.el .n e) (Zar hx) ?_ | refine yj (ab.el .n p) (hk0) (hkp) ?_ | refine yk jx (nq e hbe) ?_ | refine yt1 ?_ | refine yt0 ?_ | refine yt ?_ ?_ | refine yo ?_ | apply zn | refine yc ?_ | exact rfl | intro _)
   ·refine fin rfl (bt ?_)
    rename_i h
    have h3 : e.ok = false := by simpa using h
    rw [fv, Ze hlt (by rw [Zc9 hx, h3]; rfl), Y8]
   ·refine fin rfl (bt ?_)
    rename_i _ h
    rw [Zbr] at h
    have h3 : iE p e = false := by simpa using h
    rw [fv, Ze hlt (by rw [Zci hx hp, h3, Y3]), Y8]
   ·rename_i h4 h
    rw [Zbr] at h
    have h5 : e.ok = true := by simpa using h4
    have h3 : iE p e = true := by simpa using h
    refine ih () (Zl8 hinv (by rw [Zc9 hx, Zci hx hp, h3, h5]; rfl)) _ _ ?_
    rw [aM (i := k + 1) (by omega)]; rfl
 ·rintro _ hc _ hinv
  have h1 := Zf hinv
  repeat' (first | refine yy ?_ | refine ym ?_ | (apply ze;(iterate 5 exact rfl)) | (apply zf;(iterate 5 exact rfl)) | refine yp ?_ | refine yt1 ?_ | refine yt0 ?_ | refine yt ?_ ?_ | refine yo ?_ | apply zn | refine yc ?_ | exact rfl | intro _)
  refine bq (ay.el .n) h.aY (fun i (_ : Unit) => [(1, .box ⟨0, 0, 0⟩ (h.cs .n)), (5, .x (iT i))]) (fun i _ => ∀ j, j < i -> (okO h.aY j && fc h.aY j) = true) () (by omega) rfl ?_ ?_
  ·rintro i _ o hx hlt hc _ hinv ih
   have hbe : o.aL.ae <= 4000000 := Y77 (Z1v (f := ay.ae) hx) (by omega)
   have hsl : 0 <= i /\ i <= (h.aY.map (ay.el .n)).length := by rw [Y45]; omega
   repeat' (first | refine yy ?_ | refine ym ?_ | (apply ze;(iterate 5 exact rfl)) | (apply zf;(iterate 5 exact rfl)) | refine yp ?_ | refine yi (ay.el .n o) (Zar hx) ?_ | refine yk jx (nq o.aL hbe) ?_ | (apply zu;exact rfl;exact Z1k rfl rfl;exact rfl;exact (hsl);exact rfl;exact Zk5;exact rfl;exact rfl) | (apply zk sn;exact rfl;exact rfl;exact (GW (h.aY.take i) _ _ (by rw [Y48]; omega));(iterate 3 exact rfl)) | refine yt1 ?_ | refine yt0 ?_ | refine yt ?_ ?_ | refine yo ?_ | apply zn | refine yc ?_ | exact rfl | intro _)
   ·refine fin rfl (bt ?_)
    rename_i h4
    have h3 : (okO h.aY i && fc h.aY i) = false := by
     rw [Zcb hx, Z78 hx]
     revert h4
     cases o.aL.ok <;> simp
    rw [fv, Ze hlt h3, Y3]
   ·rename_i h4
    refine ih () (Zl8 hinv ?_) _ _ ?_
    ·rw [Zcb hx, Z78 hx]
     revert h4
     cases o.aL.ok <;> simp
    ·rw [aM (by omega)]; rfl
  ·rintro _ hc _ hinv
   repeat' (first | refine yy ?_ | refine ym ?_ | (apply ze;(iterate 5 exact rfl)) | (apply zf;(iterate 5 exact rfl)) | refine yp ?_ | refine yt1 ?_ | refine yt0 ?_ | refine yt ?_ ?_ | refine yo ?_ | apply zn | refine yc ?_ | exact rfl | intro _)
   refine fin rfl (bt ?_)
   rw [fv, h1, Zf hinv]; rfl
end Go.Wr
namespace Go.Wr
set_option maxRecDepth 20000
theorem Z9s {α : Type} {f : α -> T} {l : List α} (n : Nat) : (((l.map f).length : Int) != (n : Nat)) = !decide (l.length = n) := by
 rw [Y45, Y7]
 simp only [bne_iff_ne, ne_eq, Y11, decide_eq_false_iff_not]
 omega
theorem Zbt {h : ao} : (((((((h.aO.map (al.el .n)).length : Int) != 3 || ((h.Rows.map (ai.ls .n)).length : Int) != 3) || ((h.bX.map (au.el .n)).length : Int) != 2) || !inB h.js 0 1000) || !inB h.lA 0 100000) = true) <-> gy h = false := by
 rw [show (3 : Int) = ((3 : Nat) : Int) from rfl, show (2 : Int) = ((2 : Nat) : Int) from rfl, Z9s, Z9s, Z9s, gy]
 cases decide (h.aO.length = 3) <;> cases decide (h.Rows.length = 3) <;> cases decide (h.bX.length = 2) <;> cases inB h.js 0 1000 <;> simp
theorem Zkx {h : ao} (ht : gy h = true) : h.aO.length = 3 /\ h.Rows.length = 3 /\ h.bX.length = 2 := by
 simp only [gy, Y2, decide_eq_true_eq] at ht
 exact ⟨ht.1.1.1.1, ht.1.1.1.2, ht.1.1.2⟩
theorem Zi8 {rin : Nat -> ai -> Bool} {h : ao} {a : Nat} {s : al} {rs : List ai} (h1 : h.aO[a]? = some s) (h2 : h.Rows[a]? = some rs) : eO rin h a = (s.ok h.bP.Per && decide (rs.length = 2) && rs.all (rin a)) := by simp [eO, h1, h2]
theorem Zcw {rin : Nat -> ai -> Bool} {h : ao} {a : Nat} (ha : a < 3) (h1 : eO rin h a = false) : cC rin h = false := by
 rw [cC, Ze ha h1]; simp
theorem Zgz {h : ao} {i k : Nat} {rs : List ai} {r : ai} (hl : h.ae <= 4000000) (hx : h.Rows[i]? = some rs) (hy : rs[k]? = some r) : r.ae <= 4000000 := by
 have h1 := Z1v (f := aF ai.ae) hx
 have h2 := Z1v (f := ai.ae) hy
 unfold ao.ae at hl
 omega
theorem Zia {h : ao} {i : Nat} {s : al} (hl : h.ae <= 4000000) (hx : h.aO[i]? = some s) : s.ae <= 4000000 := by
 have h1 := Z1v (f := al.ae) hx
 unfold ao.ae at hl
 omega
theorem Zl2 {h : ao} {i : Nat} {s : au} (hl : h.ae <= 4000000) (hx : h.bX[i]? = some s) : s.ae <= 4000000 := by
 have h1 := Z1v (f := au.ae) hx
 unfold ao.ae at hl
 omega
theorem Zgs {r : ai} (hl : r.ae <= 4000000) : (dS r).length <= 4194304 := by
 unfold dS
 split
 ·have h1 := Z8y r.Lst []
  have h2 := Z8b r.Lst
  unfold ai.ae at hl
  simp only [Y46] at h1
  omega
 ·simp
theorem G1 (h : ao) (hl : h.ae <= 4000000) : wy [.st (h.cs .n)] = some ⟨[.one (.b (cC dh h))], []⟩ := by
 (refine Z6j rfl ?_; show Ev wx.code _ _ _)
 repeat' (first | refine yy ?_ | refine ym ?_ | (apply ze;(iterate 5 exact rfl)) | (apply zf;(iterate 5 exact rfl)) | refine yp ?_ | refine yk bK (dP _ _ _) ?_ | refine yt1 ?_ | refine yt0 ?_ | refine yt ?_ ?_ | refine yo ?_ | apply zn | refine yc ?_ | exact rfl | intro _)
 ·refine fin rfl (bt ?_)
  rename_i ht
  rw [cC, Zbt.1 ht]; rfl
 ·rename_i ht
  have ht2 : gy h = true := by
   cases e : gy h with
   | true => rfl
   | false => exact absurd (Zbt.2 e) (by rw [ht]; simp)
  obtain ⟨l3, l3r, l2t⟩ := Zkx ht2
  refine bq (al.el .n) h.aO (fun i (_ : Unit) => [(1, .box ⟨0, 0, 0⟩ (h.cs .n)), (3, .x (iT i))]) (fun i _ => ∀ j, j < i -> eO dh h j = true) () (by omega) rfl ?_ ?_
  ·rintro i _ s hx hlt _ _ hinv ih
   have hi3 : i < 3 := by omega
   have hc : decide ((i : Int) < 3) = true := by simp; omega
   have hxr := Y34 (show i < h.Rows.length by omega)
   generalize h.Rows[i]'(by omega) = rs at hxr
   have hbs := Zia hl hx
   repeat' (first | refine yy ?_ | refine ym ?_ | (apply ze;(iterate 5 exact rfl)) | (apply zf;(iterate 5 exact rfl)) | refine yp ?_ | refine yi (al.el .n s) (Zar hx) ?_ | refine yi (ai.ls .n rs) (Zar hxr) ?_ | refine yk sh (GV s _ hbs) ?_ | refine yt1 ?_ | refine yt0 ?_ | refine yt ?_ ?_ | refine yo ?_ | apply zn | refine yc ?_ | exact rfl | intro _)
   ·refine fin rfl (bt ?_)
    rename_i h4
    rw [Zcw hi3]
    rw [Zi8 hx hxr]
    rw [show (2 : Int) = ((2 : Nat) : Int) from rfl, Z9s] at h4
    revert h4
    cases s.ok h.bP.Per <;> cases decide (rs.length = 2) <;> simp
   ·rename_i h4
    rw [show (2 : Int) = ((2 : Nat) : Int) from rfl, Z9s] at h4
    have h5 : (s.ok h.bP.Per && decide (rs.length = 2)) = true := by
     revert h4
     cases s.ok h.bP.Per <;> cases decide (rs.length = 2) <;> simp
    have h6 : rs.length = 2 := by simp only [Y2, decide_eq_true_eq] at h5; exact h5.2
    refine bq (ai.el .n) rs (fun k (_ : Unit) => [(1, .box ⟨0, 0, 0⟩ (h.cs .n)), (3, .x (iT i)), (4, .x (iT k))]) (fun k _ => (rs.take k).all (dh i) = true) () (by simp) rfl ?_ ?_
    ·rintro k _ r hy eW _ _ aV ih2
     have hk2 : decide ((k : Int) < 2) = true := by simp; omega
     have hbr := Zgz hl hxr hy
     have hlr := Zgs hbr
     have hi2 : 0 <= (i : Int) /\ (i : Int) <= 2 := by omega
     have hsr : ∀ x ∈ dS r, cj x := fun x hx => (Zgu r ▸ Zgv r : bQ (dS r)).span hx
     repeat' (first | refine yy ?_ | refine ym ?_ | (apply ze;(iterate 5 exact rfl)) | (apply zf;(iterate 5 exact rfl)) | refine yp ?_ | refine yi (ai.ls .n rs) (Zar hxr) ?_ | refine yi (ai.el .n r) (Zar hy) ?_ | refine yk sg (GY r hbr) ?_ | refine yk lC (zI r hbr) ?_ | refine yv ko (p4 (dS r) _ hlr hi2 hsr) ?_ | refine yv kr (pW (dS r) hlr) ?_ | refine yt1 ?_ | refine yt0 ?_ | refine yt ?_ ?_ | refine yo ?_ | apply zn | refine yc ?_ | exact rfl | intro _)
     ·refine fin rfl (bt ?_)
      rename_i h7
      have h8 : dh i r = false := by
       rw [dh]; revert h7
       rw [bne]
       cases r.ok <;> simp
      rw [Zcw hi3]
      rw [Zi8 hx hxr, Zbs (p := dh i) hy h8, Y3]
     ·rename_i h7
      have h8 : dh i r = true := by
       rw [dh]; revert h7
       rw [bne]
       cases r.ok <;> simp
      refine ih2 () (Zkj (p := dh i) aV hy h8) _ _ ?_
      rw [aM (by omega)]; rfl
    ·rintro _ _ _ aV
     have hk2 : decide ((rs.length : Int) < 2) = false := by simp; omega
     repeat' (first | refine yy ?_ | refine ym ?_ | (apply ze;(iterate 5 exact rfl)) | (apply zf;(iterate 5 exact rfl)) | refine yp ?_ | refine yt1 ?_ | refine yt0 ?_ | refine yt ?_ ?_ | refine yo ?_ | apply zn | refine yc ?_ | exact rfl | intro _)
     refine ih () (Zl8 hinv ?_) _ _ ?_
     ·rw [Zi8 hx hxr, h5, Zkl aV]; rfl
     ·rw [aM (by omega)]; rfl
  ·rintro _ _ _ hinv
   have hc : decide ((h.aO.length : Int) < 3) = false := by simp; omega
   have h7 : bV 3 (eO dh h) = true := Zf (l3 ▸ hinv)
   repeat' (first | refine yy ?_ | refine ym ?_ | (apply ze;(iterate 5 exact rfl)) | (apply zf;(iterate 5 exact rfl)) | refine yp ?_ | refine yt1 ?_ | refine yt0 ?_ | refine yt ?_ ?_ | refine yo ?_ | apply zn | refine yc ?_ | exact rfl | intro _)
   refine bq (au.el .n) h.bX (fun i (_ : Unit) => [(1, .box ⟨0, 0, 0⟩ (h.cs .n)), (6, .x (iT i))]) (fun i _ => (h.bX.take i).all au.ok = true) () (by simp) rfl ?_ ?_
   ·rintro i _ t hx hlt _ _ hinv ih
    have hc : decide ((i : Int) < 2) = true := by simp; omega
    have hbt := Zl2 hl hx
    repeat' (first | refine yy ?_ | refine ym ?_ | (apply ze;(iterate 5 exact rfl)) | (apply zf;(iterate 5 exact rfl)) | refine yp ?_ | refine yi (au.el .n t) (Zar hx) ?_ | refine yk si (GU t hbt) ?_ | refine yt1 ?_ | refine yt0 ?_ | refine yt ?_ ?_ | refine yo ?_ | apply zn | refine yc ?_ | exact rfl | intro _)
    ·refine fin rfl (bt ?_)
     rename_i h4
     have h5 : t.ok = false := by simpa using h4
     rw [cC, Zbs (p := au.ok) hx h5, Y3]
    ·rename_i h4
     have h5 : t.ok = true := by simpa using h4
     refine ih () (Zkj (p := au.ok) hinv hx h5) _ _ ?_
     rw [aM (by omega)]; rfl
   ·rintro _ _ _ hinv
    have hc : decide ((h.bX.length : Int) < 2) = false := by simp; omega
    repeat' (first | refine yy ?_ | refine ym ?_ | (apply ze;(iterate 5 exact rfl)) | (apply zf;(iterate 5 exact rfl)) | refine yp ?_ | refine yt1 ?_ | refine yt0 ?_ | refine yt ?_ ?_ | refine yo ?_ | apply zn | refine yc ?_ | exact rfl | intro _)
    refine fin rfl (bt ?_)
    rw [cC, ht2, h7, Zkl hinv]; rfl
theorem Zbu {h : ao} : ((((((!h.bP.ok || !inB h.lA 0 100000) || ((h.aO.map (al.el .n)).length : Int) != 3) || ((h.Rows.map (ai.ls .n)).length : Int) != 3) || ((h.bX.map (au.el .n)).length : Int) != 2) || !inB h.js 0 1000) = true) <-> (h.bP.ok && gy h) = false := by
 rw [show (3 : Int) = ((3 : Nat) : Int) from rfl, show (2 : Int) = ((2 : Nat) : Int) from rfl, Z9s, Z9s, Z9s, gy]
 cases h.bP.ok <;> cases decide (h.aO.length = 3) <;> cases decide (h.Rows.length = 3) <;> cases decide (h.bX.length = 2) <;> cases inB h.js 0 1000 <;> simp
theorem Z31 {h : ao} (hl : h.ae <= 4000000) : h.bP.bY.length <= 4194304 := by
 unfold ao.ae aN.ae at hl
 omega
theorem bQ.len {s : List aa} (h : bQ s) (hl : s.length <= 4194304) : s.length <= 4194304 := hl
theorem Zds : ∀ (l o : List aa), (l.foldl cX o).length <= o.length + l.length
 | [], o => by simp
 | x :: l, o => by
  have h1 := Zds l (cX o x)
  have h2 := Zdo o x
  simp only [Y28, Y42]
  omega
theorem Zl5 (s : List aa) : (eM s).length <= s.length := by
 have := Zds (ed s) []
 rw [Zjb] at this
 simpa [eM] using this
theorem Z5n {l : List ab} : (l.flatMap ab.Ids).length <= aF ab.ae l := by
 rw [List.flatMap_def]
 exact Z5q (g := ab.ae) (fun e => by unfold ab.ae; omega) l
theorem Zgt {r : ai} (hl : r.ae <= 4000000) : (gd r).length <= 4194304 := by
 rw [Zgu]; exact Zgs hl
theorem Ks (h : ao) (hl : h.ae <= 4000000) : Bw [.st (h.cs .n)] = some ⟨[.one (.b (h.bP.ok && cC dG h && bV h.aH.length (fU h.aH)))], []⟩ := by
 have hcl := Z31 hl
 have hro := Z1t ab.ae h.aH
 (refine Z6j rfl ?_; show Ev Bv.code _ _ _)
 repeat' (first | refine yy ?_ | refine ym ?_ | (apply ze;(iterate 5 exact rfl)) | (apply zf;(iterate 5 exact rfl)) | refine yp ?_ | refine yk cm (fu _ _ _) ?_ | refine yk AK (Ke h.bP hcl) ?_ | refine yt1 ?_ | refine yt0 ?_ | refine yt ?_ ?_ | refine yo ?_ | apply zn | refine yc ?_ | exact rfl | intro _)
 ·refine fin rfl (bt ?_)
  rename_i ht
  rw [cC, <- Bool.and_assoc, <- Bool.and_assoc, Zbu.1 ht]; rfl
 ·rename_i ht
  have ht2 : (h.bP.ok && gy h) = true := by
   cases e : (h.bP.ok && gy h) with
   | true => rfl
   | false => exact absurd (Zbu.2 e) (by rw [ht]; simp)
  have hco : h.bP.ok = true := by simp only [Y2] at ht2; exact ht2.1
  have ht3 : gy h = true := by simp only [Y2] at ht2; exact ht2.2
  obtain ⟨l3, l3r, l2t⟩ := Zkx ht3
  rw [hco, Y15]
  refine bq (al.el .n) h.aO (fun i (_ : Unit) => [(1, .box ⟨0, 0, 0⟩ (h.cs .n)), (46, .x (al.ls .n h.aO)), (47, .x (iT (h.aO.map (al.el .n)).length)), (48, .x (iT i))]) (fun i _ => ∀ j, j < i -> eO dG h j = true) () (by omega) rfl ?_ ?_
  ·rintro i _ s hx hlt hc _ hinv ih
   have hi3 : i < 3 := by omega
   have hxr := Y34 (show i < h.Rows.length by omega)
   generalize h.Rows[i]'(by omega) = rs at hxr
   have hbs := Zia hl hx
   repeat' (first | refine yy ?_ | refine ym ?_ | (apply ze;(iterate 5 exact rfl)) | (apply zf;(iterate 5 exact rfl)) | refine yp ?_ | refine yi (al.el .n s) (Zar hx) ?_ | refine yi (ai.ls .n rs) (Zar hxr) ?_ | refine yk AM (Kk s _ hbs) ?_ | refine yt1 ?_ | refine yt0 ?_ | refine yt ?_ ?_ | refine yo ?_ | apply zn | refine yc ?_ | exact rfl | intro _)
   ·refine fin rfl (bt ?_)
    rename_i h4
    rw [Zcw hi3]; rfl
    rw [Zi8 hx hxr]
    rw [show (2 : Int) = ((2 : Nat) : Int) from rfl, Z9s] at h4
    revert h4
    cases s.ok h.bP.Per <;> cases decide (rs.length = 2) <;> simp
   ·rename_i h4
    rw [show (2 : Int) = ((2 : Nat) : Int) from rfl, Z9s] at h4
    have h5 : (s.ok h.bP.Per && decide (rs.length = 2)) = true := by
     revert h4
     cases s.ok h.bP.Per <;> cases decide (rs.length = 2) <;> simp
    have h6 : rs.length = 2 := by simp only [Y2, decide_eq_true_eq] at h5; exact h5.2
    refine bq (ai.el .n) rs (fun k (_ : Unit) => [(1, .box ⟨0, 0, 0⟩ (h.cs .n)), (3, .x (iT i)), (46, .x (al.ls .n h.aO)), (47, .x (iT (h.aO.map (al.el .n)).length)), (48, .x (iT i)), (72, .x (ai.ls .n rs)), (73, .x (iT (rs.map (ai.el .n)).length)), (74, .x (iT k))]) (fun k _ => (rs.take k).all (dG i) = true) () (by simp) rfl ?_ ?_
    ·rintro k _ r hy eW hc2 _ aV ih2
     have hbr := Zgz hl hxr hy
     have hlr := Zgt hbr
     repeat' (first | refine yy ?_ | refine ym ?_ | (apply ze;(iterate 5 exact rfl)) | (apply zf;(iterate 5 exact rfl)) | refine yp ?_ | refine yi (ai.el .n r) (Zar hy) ?_ | refine yk nN (yI r hbr) ?_ | refine yk AL (Kr r hbr) ?_ | refine yk jh (oZ _ _) ?_ | refine yv lY (yH (gd r) _ _ hlr) ?_ | refine yt1 ?_ | refine yt0 ?_ | refine yt ?_ ?_ | refine yo ?_ | apply zn | refine yc ?_ | exact rfl | intro _)
     ·refine fin rfl (bt ?_)
      rename_i h7
      have h8 : dG i r = false := by
       rw [dG]; revert h7
       cases r.ok <;> simp
      rw [Zcw hi3]; rfl
      rw [Zi8 hx hxr, Zbs (p := dG i) hy h8, Y3]
     ·rename_i h7
      have h8 : dG i r = true := by
       rw [dG]; revert h7
       cases r.ok <;> simp
      refine ih2 () (Zkj (p := dG i) aV hy h8) _ _ ?_
      rw [aM (by omega)]; rfl
    ·rintro _ hc2 _ aV
     repeat' (first | refine yy ?_ | refine ym ?_ | (apply ze;(iterate 5 exact rfl)) | (apply zf;(iterate 5 exact rfl)) | refine yp ?_ | refine yt1 ?_ | refine yt0 ?_ | refine yt ?_ ?_ | refine yo ?_ | apply zn | refine yc ?_ | exact rfl | intro _)
     refine ih () (Zl8 hinv ?_) _ _ ?_
     ·rw [Zi8 hx hxr, h5, Zkl aV]; rfl
     ·rw [aM (by omega)]; rfl
  ·rintro _ hc _ hinv
   have h7 : bV 3 (eO dG h) = true := Zf (l3 ▸ hinv)
   repeat' (first | refine yy ?_ | refine ym ?_ | (apply ze;(iterate 5 exact rfl)) | (apply zf;(iterate 5 exact rfl)) | refine yp ?_ | refine yt1 ?_ | refine yt0 ?_ | refine yt ?_ ?_ | refine yo ?_ | apply zn | refine yc ?_ | exact rfl | intro _)
   refine bq (au.el .n) h.bX (fun i (_ : Unit) => [(1, .box ⟨0, 0, 0⟩ (h.cs .n)), (94, .x (au.ls .n h.bX)), (95, .x (iT (h.bX.map (au.el .n)).length)), (96, .x (iT i))]) (fun i _ => (h.bX.take i).all au.ok = true) () (by simp) rfl ?_ ?_
   ·rintro i _ t hx hlt hc _ hinv ih
    have hbt := Zl2 hl hx
    repeat' (first | refine yy ?_ | refine ym ?_ | (apply ze;(iterate 5 exact rfl)) | (apply zf;(iterate 5 exact rfl)) | refine yp ?_ | refine yi (au.el .n t) (Zar hx) ?_ | refine yk AN (Kj t hbt) ?_ | refine yt1 ?_ | refine yt0 ?_ | refine yt ?_ ?_ | refine yo ?_ | apply zn | refine yc ?_ | exact rfl | intro _)
    ·refine fin rfl (bt ?_)
     rename_i h4
     have h5 : t.ok = false := by simpa using h4
     rw [cC, Zbs (p := au.ok) hx h5, Y3]; rfl
    ·rename_i h4
     have h5 : t.ok = true := by simpa using h4
     refine ih () (Zkj (p := au.ok) hinv hx h5) _ _ ?_
     rw [aM (by omega)]; rfl
   ·rintro _ hc _ hinv
    have h8 : cC dG h = true := by rw [cC, ht3, h7, Zkl hinv]; rfl
    rw [h8, Y15]
    repeat' (first | refine yy ?_ | refine ym ?_ | (apply ze;(iterate 5 exact rfl)) | (apply zf;(iterate 5 exact rfl)) | refine yp ?_ | refine yt1 ?_ | refine yt0 ?_ | refine yt ?_ ?_ | refine yo ?_ | apply zn | refine yc ?_ | exact rfl | intro _)
    refine bq (ab.el .n) h.aH (fun i (_ : Unit) => [(1, .box ⟨0, 0, 0⟩ (h.cs .n)), (105, .x (ab.ls .n h.aH)), (106, .x (iT (h.aH.map (ab.el .n)).length)), (107, .x (iT i))]) (fun i _ => ∀ j, j < i -> fU h.aH j = true) () (by omega) rfl ?_ ?_
    ·rintro i _ e hx hlt hc _ hinv ih
     have MF : h.aH.length <= 4000000 := by unfold ao.ae at hl; omega
     cases i with
     | zero =>
      have h0 : decide (((0 : Nat) : Int) > 0) = !true := rfl
      have h1 : decide (((0 : Nat) : Int) > 0) = false := rfl
      have h2 : false = false := rfl
      repeat' (first | refine yy ?_ | refine ym ?_ | (apply ze;(iterate 5 exact rfl)) | (apply zf;(iterate 5 exact rfl)) | refine yp ?_ | refine yi (ab.el .n e) (Zar hx) ?_ | refine yt1 ?_ | refine yt0 ?_ | refine yt ?_ ?_ | refine yo ?_ | apply zn | refine yc ?_ | exact rfl | intro _)
      refine ih () (Zl8 hinv (Zcj hx)) _ _ ?_
      rw [aM (by omega)]; rfl
     | succ k =>
      have hp := Y34 (show k < h.aH.length by omega)
      generalize h.aH[k]'(by omega) = p at hp
      have hk := Zly (k := k) (by omega)
      have hk0 : 0 <= IntKind.i64.wrap (((k + 1 : Nat) : Int) - 1) := by rw [hk]; omega
      have hkp : (h.aH.map (ab.el .n))[(IntKind.i64.wrap (((k + 1 : Nat) : Int) - 1)).toNat]? = some (ab.el .n p) := by rw [hk]; exact Zar hp
      have h0 : decide (((k + 1 : Nat) : Int) > 0) = true := by simp
      repeat' (first | refine yy ?_ | refine ym ?_ | (apply ze;(iterate 5 exact rfl)) | (apply zf;(iterate 5 exact rfl)) | refine yp ?_ | refine yi (ab.el .n e) (Zar hx) ?_ | refine yj (ab.el .n p) (hk0) (hkp) ?_ | refine yk AO (Ki p e) ?_ | refine yt1 ?_ | refine yt0 ?_ | refine yt ?_ ?_ | refine yo ?_ | apply zn | refine yc ?_ | exact rfl | intro _)
      ·refine fin rfl (bt ?_)
       rename_i h4
       have h3 : iE p e = false := by simpa using h4
       rw [Ze hlt (by rw [Zci hx hp, h3])]
      ·rename_i h4
       have h3 : iE p e = true := by simpa using h4
       refine ih () (Zl8 hinv (by rw [Zci hx hp, h3])) _ _ ?_
       rw [aM (i := k + 1) (by omega)]; rfl
    ·rintro _ hc _ hinv
     rw [Zf hinv]
     repeat' (first | refine yy ?_ | refine ym ?_ | (apply ze;(iterate 5 exact rfl)) | (apply zf;(iterate 5 exact rfl)) | refine yp ?_ | refine yt1 ?_ | refine yt0 ?_ | refine yt ?_ ?_ | refine yo ?_ | apply zn | refine yc ?_ | exact rfl | intro _)
     exact fin rfl rfl
end Go.Wr
namespace Go.Wr
set_option maxRecDepth 20000
def ofs (l : List ab) (a : Int) : Int := (l.map fun e => cE e.Ids a).sum
theorem Zc4 : ∀ (l : List ab) (a : Int), 0 <= ofs l a /\ ofs l a <= 60 * aF ab.ae l
 | [], a => by simp [ofs, aF]
 | e :: l, a => by
  have h1 := Zc4 l a
  have h2 := Zbx e.Ids a
  have h3 : e.Ids.length <= e.ae := by unfold ab.ae; omega
  unfold ofs aF at h1 ⊢
  simp only [Y50, Y69, Y42]
  omega
theorem Zc5 {l : List ab} {i : Nat} {e : ab} {a : Int} (h : l[i]? = some e) : ofs (l.take (i + 1)) a = ofs (l.take i) a + cE e.Ids a := by
 unfold ofs; rw [Y70, h]; simp
theorem Z1w {α : Type} (f : α -> Nat) : ∀ (l : List α) (i : Nat), aF f (l.take i) <= aF f l
 | [], i => by simp
 | x :: l, 0 => by simp [aF]
 | x :: l, i + 1 => by
  have := Z1w f l i
  unfold aF at this ⊢
  simp only [List.take_succ_cons, Y50, Y69, Y42]
  omega
theorem Zcp (l : List ay) : aF ab.ae (l.map ay.aL) = aF ay.ae l := by
 unfold aF; rw [Y45, Y51]; rfl
theorem Z1s {α : Type} (f : α -> Nat) (a b : List α) : aF f (a ++ b) = aF f a + aF f b := by
 unfold aF; rw [Y41, Y49, List.sum_append]; omega
theorem Zh0 (rs : List ai) : aF ab.ae (gq rs) <= aF ai.ae rs := by
 induction rs with
 | nil => simp [gq, aF]
 | cons r rs ih =>
  have : gq (r :: rs) = r.Lst ++ gq rs := rfl
  rw [this, Z1s]
  have e : aF ai.ae (r :: rs) = 1 + r.ae + aF ai.ae rs := by unfold aF; simp; omega
  rw [e]; unfold ai.ae at ih ⊢; omega
theorem Zgp (h : ao) : aF ab.ae (dx h) <= aF (aF ai.ae) h.Rows := by
 rw [Zgq]
 induction h.Rows with
 | nil => simp [aF]
 | cons rs l ih =>
  rw [Y50, Y27, Z1s]
  have e : aF (aF ai.ae) (rs :: l) = 1 + aF ai.ae rs + aF (aF ai.ae) l := by unfold aF; simp; omega
  have := Zh0 rs
  omega
theorem Z2 (h : ao) : aF ab.ae (ct h) = aF ab.ae h.aH + aF ay.ae h.aY := by
 rw [ct, Z1s, Zcp]
theorem Zh {h : ao} (hl : h.ae <= 4000000) : aF ab.ae (bl h) <= 4000000 := by
 rw [bl, Z1s, Z2]
 have := Zgp h
 unfold ao.ae at hl
 omega
theorem Z0 {l : List ab} {k : Nat} {e : ab} (h : l[k]? = some e) : jB l k = cD (cY (l.take k) []) e.Ids := by simp [jB, h]
theorem Zi {h : ao} (hp : cC dh h = true) (hr : fv h = true) : ∀ e ∈ bl h, e.ok = true := by
 have h1 := Zcx (fun a r h => Zgw h) (Zcv h ▸ hp)
 rw [fv, Zb, Zb] at hr
 simp only [Y2] at hr
 intro e he
 rcases Y52.1 he with he | he
 ·exact h1 e he
 ·rcases Y52.1 he with he | he
  ·exact Zca.1 hr.1.1 e he
  ·obtain ⟨o, ho, rfl⟩ := Y60.1 he
   exact Zcc.1 hr.2.1 o ho
theorem Zau {h : ao} {a : Nat} {s : al} (hx : h.aO[a]? = some s) : fe h a = (ofs h.aH a + ofs (h.aY.map ay.aL) a == s.fb) := by
 simp only [fe, hx, ofs, Y51]; rfl
theorem p5 (h : ao) (hl : h.ae <= 4000000) : nf [.st (h.cs .n)] = some ⟨[.one (.b (houseS h))], []⟩ := by
 have hcl := Z31 hl
 (refine Z6j rfl ?_; show Ev wJ.code _ _ _)
 repeat' (first | refine yy ?_ | refine ym ?_ | (apply ze;(iterate 5 exact rfl)) | (apply zf;(iterate 5 exact rfl)) | refine yp ?_ | refine yk se (GR h.bP hcl) ?_ | refine yk sj (G1 h hl) ?_ | refine yk so (G0 h hl) ?_ | refine yk kn (pX h hl) ?_ | refine yt1 ?_ | refine yt0 ?_ | refine yt ?_ ?_ | refine yo ?_ | apply zn | refine yc ?_ | exact rfl | intro _)
 ·refine fin rfl (bt ?_)
  rename_i h1
  rw [houseS]; revert h1
  cases h.bP.ok <;> cases cC dh h <;> cases fv h <;> simp
 ·rename_i h1
  have h2 : h.bP.ok = true /\ cC dh h = true /\ fv h = true := by
   revert h1
   cases h.bP.ok <;> cases cC dh h <;> cases fv h <;> simp
  have hok := Zi h2.2.1 h2.2.2
  have hse := Zcy h2.2.1
  have hab := Zh hl
  have hal := Z1t ab.ae (bl h)
  have hh : ∀ e ∈ bl h, ∀ x ∈ e.Ids, HiR x := fun e he => Ziu (nr (hok e he))
  refine bq (ab.el .n) (bl h) (fun i (ids : List aa) => [(1, .box ⟨0, 0, 0⟩ (h.cs .n)), (3, .own ⟨0, 0, 0⟩ (aa.ls .y ids)), (4, .own ⟨0, 0, 0⟩ (.l .y 10 ((bl h).map (ab.el .n)))), (5, .x (iT i))]) (fun i ids => ids = cY ((bl h).take i) [] /\ ∀ j, j < i -> jB (bl h) j = true) [] ⟨rfl, by omega⟩ rfl ?_ ?_
  ·rintro i ids e hx hlt hc _ ⟨hinv, BG⟩ ih
   have hei := Y62 hx
   have hll : (cY ((bl h).take i) []).length <= _ := Z8y ((bl h).take i) []
   rw [<- hinv] at hll
   have hl3 := Zd9 (f := fun e : ab => e.Ids.length) hx
   have hl4 := Zd8 (f := fun e : ab => e.Ids.length) (l := bl h) (i := i + 1)
   have hsm := Z8b (bl h)
   have hl5 : ids.length + e.Ids.length <= 4194304 := by
    unfold aF at hl4; simp only [pre, Y46] at hll hl3 hl4; omega
   have hl6 : ids.length <= 4194304 := by omega
   have hl7 : e.Ids.length <= 4194304 := by omega
   have hih : ∀ z ∈ ids, HiR z := hinv ▸ Z8x (fun e he => hh e (Y63 he)) (by simp)
   repeat' (first | refine yy ?_ | refine ym ?_ | (apply ze;(iterate 5 exact rfl)) | (apply zf;(iterate 5 exact rfl)) | refine yp ?_ | refine yx (Zcs hlt) ?_ | refine yl (ab.el .n e) (Zbj (Zar hx)) ?_ | refine yv mI (zH ids e.Ids hl6 hl7) ?_ | refine yw kq (pZ ids e.Ids hl5 hih (hh e hei)) (Z28 rfl (Z2p (fun _ => rfl) _)) ?_ | refine yt1 ?_ | refine yt0 ?_ | refine yt ?_ ?_ | refine yo ?_ | apply zn | refine yc ?_ | exact rfl | intro _)
   ·refine fin rfl (bt ?_)
    rename_i h4
    have h5 : jB (bl h) i = false := by rw [Z0 hx, <- hinv]; simpa using h4
    rw [houseS, nS, Ze hlt h5]; simp
   ·rename_i h4
    have h5 : jB (bl h) i = true := by rw [Z0 hx, <- hinv]; simpa using h4
    refine ih (du ids e.Ids) ⟨by rw [hinv, cY, cY, Z5y (f := fun o (e : ab) => du o e.Ids) hx], Zl8 BG h5⟩ _ _ ?_
    rw [aM (by omega)]; rfl
  ·rintro ids hc _ ⟨hinv, BG⟩
   rw [Y72] at hinv
   have h6 : nS (bl h) = true := Zf BG
   have BH : ids.length <= 4194304 := by
    have : (cY (bl h) []).length <= _ := Z8y (bl h) []
    have hsm := Z8b (bl h)
    rw [<- hinv] at this
    simp only [Y46] at this; omega
   repeat' (first | refine yy ?_ | refine ym ?_ | (apply ze;(iterate 5 exact rfl)) | (apply zf;(iterate 5 exact rfl)) | refine yp ?_ | refine yk sq (GZ h hl hse) ?_ | refine yv sr (GX ids ((cu h.aO 0).foldl cT []) BH) ?_ | refine yt1 ?_ | refine yt0 ?_ | refine yt ?_ ?_ | refine yo ?_ | apply zn | refine yc ?_ | exact rfl | intro _)
   ·refine fin rfl (bt ?_)
    rename_i h4
    rw [hinv] at h4
    have h5 : decide (cY (bl h) [] = (cu h.aO 0).foldl cT []) = false := by simpa using h4
    rw [houseS, h5]; simp
   ·rename_i h4
    rw [hinv] at h4
    have h5 : decide (cY (bl h) [] = (cu h.aO 0).foldl cT []) = true := by simpa using h4
    have hro := Z1t ab.ae h.aH
    have hou := Z1t ay.ae h.aY
    have hlb : aF ab.ae h.aH <= 4000000 /\ aF ay.ae h.aY <= 4000000 := by unfold ao.ae at hl; omega
    refine bq (al.el .n) h.aO (fun i (_ : Unit) => [(1, .box ⟨0, 0, 0⟩ (h.cs .n)), (6, .x (iT i))]) (fun i _ => ∀ j, j < i -> fe h j = true) () (by omega) rfl ?_ ?_
    ·rintro i _ s hx hlt _ _ l5 ih
     have hi3 : i < 3 := hse.1 ▸ hlt
     have hc : decide ((i : Int) < 3) = true := by simp; omega
     have hi2 : 0 <= (i : Int) /\ (i : Int) <= 2 := by omega
     repeat' (first | refine yy ?_ | refine ym ?_ | (apply ze;(iterate 5 exact rfl)) | (apply zf;(iterate 5 exact rfl)) | refine yp ?_ | refine yt1 ?_ | refine yt0 ?_ | refine yt ?_ ?_ | refine yo ?_ | apply zn | refine yc ?_ | exact rfl | intro _)
     refine bq (ab.el .n) h.aH (fun k (n : Int) => [(1, .box ⟨0, 0, 0⟩ (h.cs .n)), (6, .x (iT i)), (7, .x (iT n)), (8, .x (iT k))]) (fun k n => n = ofs (h.aH.take k) i) 0 rfl rfl ?_ ?_
     ·rintro k n e hy eW hc2 _ aV ih2
      have hee : e ∈ bl h := Y54 _ (Y53 _ (Y62 hy))
      have hbe : e.Ids.length <= 4194304 := by
       have := Z1v (f := ab.ae) hy
       unfold ab.ae at this hlb; omega
      have hsp : ∀ x ∈ e.Ids, cj x := fun x hx => (ek (hok e hee)).span hx
      have hb1 := Zc4 (h.aH.take k) i
      have hb2 := Zbx e.Ids i
      have hb3 := Z1w ab.ae h.aH k
      repeat' (first | refine yy ?_ | refine ym ?_ | (apply ze;(iterate 5 exact rfl)) | (apply zf;(iterate 5 exact rfl)) | refine yp ?_ | refine yi (ab.el .n e) (Zar hy) ?_ | refine yk ko (p4 e.Ids _ hbe hi2 hsp) ?_ | refine yt1 ?_ | refine yt0 ?_ | refine yt ?_ ?_ | refine yo ?_ | apply zn | refine yc ?_ | exact rfl | intro _)
      refine ih2 _ (Zc5 hy).symm _ _ ?_
      rw [aV, w64 (n := ofs (h.aH.take k) i + cE e.Ids i) (by omega), aM (by omega)]; rfl
     ·rintro n hc2 _ aV
      rw [Y72] at aV
      repeat' (first | refine yy ?_ | refine ym ?_ | (apply ze;(iterate 5 exact rfl)) | (apply zf;(iterate 5 exact rfl)) | refine yp ?_ | refine yt1 ?_ | refine yt0 ?_ | refine yt ?_ ?_ | refine yo ?_ | apply zn | refine yc ?_ | exact rfl | intro _)
      refine bq (ay.el .n) h.aY (fun k (n : Int) => [(1, .box ⟨0, 0, 0⟩ (h.cs .n)), (6, .x (iT i)), (7, .x (iT n)), (9, .x (iT k))]) (fun k m => m = n + ofs ((h.aY.take k).map ay.aL) i) n (by simp [ofs]) rfl ?_ ?_
      ·rintro k m o hy eW hc2 _ hI ih2
       have hee : o.aL ∈ bl h := Y54 _ (Y54 _ (Y60.2 ⟨o, Y62 hy, rfl⟩))
       have hbe : o.aL.Ids.length <= 4194304 := by
        have := Z1v (f := ay.ae) hy
        unfold ay.ae ab.ae at this; unfold ay.ae ab.ae at hlb; omega
       have hsp : ∀ x ∈ o.aL.Ids, cj x := fun x hx => (ek (hok o.aL hee)).span hx
       have hb0 := Zc4 h.aH i
       have hb1 := Zc4 ((h.aY.take k).map ay.aL) i
       have hb2 := Zbx o.aL.Ids i
       have hb3 := Z1w ay.ae h.aY k
       rw [Zcp] at hb1
       have hsu : ofs ((h.aY.take (k + 1)).map ay.aL) i = ofs ((h.aY.take k).map ay.aL) i + cE o.aL.Ids i := by
        rw [Zat hy]; simp [ofs]
       repeat' (first | refine yy ?_ | refine ym ?_ | (apply ze;(iterate 5 exact rfl)) | (apply zf;(iterate 5 exact rfl)) | refine yp ?_ | refine yi (ay.el .n o) (Zar hy) ?_ | refine yk ko (p4 o.aL.Ids _ hbe hi2 hsp) ?_ | refine yt1 ?_ | refine yt0 ?_ | refine yt ?_ ?_ | refine yo ?_ | apply zn | refine yc ?_ | exact rfl | intro _)
       refine ih2 _ rfl _ _ ?_
       rw [hsu, <- Int.add_assoc, <- hI, w64 (n := m + cE o.aL.Ids i) (by omega), aM (by omega)]; rfl
      ·rintro m hc2 _ hI
       rw [Y72, aV] at hI
       repeat' (first | refine yy ?_ | refine ym ?_ | (apply ze;(iterate 5 exact rfl)) | (apply zf;(iterate 5 exact rfl)) | refine yp ?_ | refine yi (al.el .n s) (Zar hx) ?_ | refine yt1 ?_ | refine yt0 ?_ | refine yt ?_ ?_ | refine yo ?_ | apply zn | refine yc ?_ | exact rfl | intro _)
       ·refine fin rfl (bt ?_)
        rename_i h7
        have h8 : fe h i = false := by rw [Zau hx, <- hI]; simpa using h7
        rw [houseS, Ze hi3 h8]; simp
       ·rename_i h7
        have h8 : fe h i = true := by rw [Zau hx, <- hI]; simpa using h7
        refine ih () (Zl8 l5 h8) _ _ ?_
        rw [aM (by omega)]; rfl
    ·rintro _ _ _ l5
     have hc : decide ((h.aO.length : Int) < 3) = false := by rw [hse.1]; rfl
     have h9 : bV 3 (fe h) = true := Zf (hse.1 ▸ l5)
     repeat' (first | refine yy ?_ | refine ym ?_ | (apply ze;(iterate 5 exact rfl)) | (apply zf;(iterate 5 exact rfl)) | refine yp ?_ | refine yt1 ?_ | refine yt0 ?_ | refine yt ?_ ?_ | refine yo ?_ | apply zn | refine yc ?_ | exact rfl | intro _)
     refine fin rfl (bt ?_)
     rw [houseS, h2.1, h2.2.1, h2.2.2, h5, h6, h9]; rfl
end Go.Wr
namespace Go.Wr
set_option maxRecDepth 20000
theorem B8 (h : ao) (hl : h.ae <= 4000000) : tu [.st (h.cs .n)] = some ⟨[.one (.b (gf h))], []⟩ := by
 have hab := Zh hl
 have hal := Z1t ab.ae (bl h)
 have dY : ((dx h).map (ab.el .n)).length + ((ct h).map (ab.el .n)).length < aS := by
  rw [Y45, Y45]; unfold aS
  have e : (bl h).length = (dx h).length + (ct h).length := by rw [bl, Y41]
  omega
 have yO : (dx h).map (ab.el .n) ++ (ct h).map (ab.el .n) = (bl h).map (ab.el .n) := by rw [bl, Y49]
 have LG : pH [.x (.l .n 10 (fzs ((dx h).map (ab.el .n) ++ (ct h).map (ab.el .n))))] = some ⟨[.one (.b (ck (bl h)))], []⟩ := by
  rw [yO, Z6r]; exact B5 (bl h) hab
 have yP := Ks h hl
 cases hp : (h.bP.ok && cC dG h && bV h.aH.length (fU h.aH)) with
 | false =>
  rw [hp] at yP
  have h1 : (!false) = !false := rfl
  have h2 : (!false) = true := rfl
  have h3 : true = true := rfl
  (refine Z6j rfl ?_; show Ev tq.code _ _ _)
  repeat' (first | refine yy ?_ | refine ym ?_ | (apply ze;(iterate 5 exact rfl)) | (apply zf;(iterate 5 exact rfl)) | refine yp ?_ | refine yk rf (yP) ?_ | refine yt1 ?_ | refine yt0 ?_ | refine yt ?_ ?_ | refine yo ?_ | apply zn | refine yc ?_ | exact rfl | intro _)
  refine fin rfl (bt ?_)
  rw [gf, hp]; simp
 | true =>
  rw [hp] at yP
  have h1 : (!true) = false := rfl
  have LH : aF ab.ae (ct h) <= 4000000 := by rw [bl, Z1s] at hab; omega
  have hll : kR [.x (.l .n 10 (fzs ((dx h).map (ab.el .n) ++ (ct h).map (ab.el .n))))] = kR [.x (ab.ls .n (bl h))] := by
   rw [yO, Z6r]
  (refine Z6j rfl ?_; show Ev tq.code _ _ _)
  repeat' (first | refine yy ?_ | refine ym ?_ | (apply ze;(iterate 5 exact rfl)) | (apply zf;(iterate 5 exact rfl)) | refine yp ?_ | refine yk rf (yP) ?_ | refine yk kP (o6 h hl) ?_ | refine yk j9 (o7 h hl) ?_ | (apply zao;(iterate 4 exact rfl);exact (Z6r _);exact (dY);(iterate 3 exact rfl)) | refine yk pB (LG) ?_ | refine yt1 ?_ | refine yt0 ?_ | refine yt ?_ ?_ | refine yo ?_ | apply zn | refine yc ?_ | exact rfl | intro _)
  ·refine fin rfl (bt ?_)
   rename_i h4
   have h5 : ck (bl h) = false := by simpa using h4
   rw [gf, h5]; simp
  ·rename_i h4
   have hea : ck (bl h) = true := by simpa using h4
   have hpp : cC dG h = true := by simp only [Y2] at hp; exact hp.1.2
   have hse := Zcy hpp
   have hah := Z3j hea
   have hdh : ∀ e ∈ ct h, ∀ x ∈ e.Ids, HiR x := fun e he => hah e (Y54 _ he)
   have BH : (cz (ct h)).length <= 4194304 := Y77 (Zl5 _) (Y77 Z5n (by omega))
   have MG : (cz (bl h)).length <= 4194304 := Y77 (Zl5 _) (Y77 Z5n (by omega))
   have LI := o8 (ct h) LH hdh
   have Kt := hll.trans (o8 (bl h) hab hah)
   have htl := Zkp h.aO 0
   have hsb : aF al.ae h.aO <= 4000000 := by unfold ao.ae at hl; omega
   have htr := Zkq (l := h.aO) (a := 0) hse.2 (by rw [hse.1]; omega)
   repeat' (first | refine yy ?_ | refine ym ?_ | (apply ze;(iterate 5 exact rfl)) | (apply zf;(iterate 5 exact rfl)) | refine yp ?_ | refine yw kc (LI) (Z28 rfl (Z2p (fun _ => rfl) _)) ?_ | refine yt1 ?_ | refine yt0 ?_ | refine yt ?_ ?_ | refine yo ?_ | apply zn | refine yc ?_ | exact rfl | intro _)
   refine bq (al.el .n) h.aO (fun i (tk : List aa) => [(1, .box ⟨0, 0, 0⟩ (h.cs .n)), (3, .own ⟨0, 0, 0⟩ (aa.ls .y tk)), (4, .own ⟨0, 0, 0⟩ (aa.ls .y (cz (ct h)))), (29, .x (al.ls .n h.aO)), (30, .x (iT (h.aO.map (al.el .n)).length)), (31, .x (iT i))]) (fun i tk => tk = cu (h.aO.take i) 0 /\ ∀ j, j < i -> fV h j = true) [] ⟨rfl, by omega⟩ rfl ?_ ?_
   ·rintro i tk s hx hlt hc _ ⟨hinv, l5⟩ ih
    have hi3 : i < 3 := hse.1 ▸ hlt
    have hr := hse.2 s (Y62 hx)
    repeat' (first | refine yy ?_ | refine ym ?_ | (apply ze;(iterate 5 exact rfl)) | (apply zf;(iterate 5 exact rfl)) | refine yp ?_ | refine yi (al.el .n s) (Zar hx) ?_ | refine yt1 ?_ | refine yt0 ?_ | refine yt ?_ ?_ | refine yo ?_ | apply zn | refine yc ?_ | exact rfl | intro _)
    refine bq (fun k : Nat => iT k) (List.range 60) (fun k (n : Nat) => [(1, .box ⟨0, 0, 0⟩ (h.cs .n)), (3, .own ⟨0, 0, 0⟩ (aa.ls .y tk)), (4, .own ⟨0, 0, 0⟩ (aa.ls .y (cz (ct h)))), (5, .x (iT i)), (6, .box ⟨0, 0, 0⟩ (s.cs .n)), (7, .x (iT n)), (8, .x (iT ((k : Int) + 1))), (29, .x (al.ls .n h.aO)), (30, .x (iT (h.aO.map (al.el .n)).length)), (31, .x (iT i))]) (fun k n => n = cF (cz (ct h)) i k) 0 rfl rfl ?_ ?_
    ·rintro k n x hy eW _ _ aV ih2
     rw [List.length_range] at eW
     have hc2 : decide ((k : Int) + 1 <= 60) = true := by simp; omega
     have hid := Z88 (a := i) (by omega) (s := (k : Int) + 1) (by omega)
     have hn : n <= k := by rw [aV]; unfold cF; exact Y77 List.countP_le_length (by simp)
     have G2 : cF (cz (ct h)) i (k + 1) = cF (cz (ct h)) i k + if dg (cz (ct h)) (dk i ((k : Int) + 1)) then 1 else 0 := by
      rw [hid]; unfold cF; rw [List.range_succ, List.countP_append, List.countP_singleton]
     have hw8 : IntKind.i64.wrap ((k : Int) + 1 + 1) = ((k + 1 : Nat) : Int) + 1 := by rw [w64 (by omega)]; omega
     repeat' (first | refine yy ?_ | refine ym ?_ | (apply ze;(iterate 5 exact rfl)) | (apply zf;(iterate 5 exact rfl)) | refine yp ?_ | refine yk jh (oZ _ _) ?_ | refine yv pA (B6 (cz (ct h)) _ BH) ?_ | refine yt1 ?_ | refine yt0 ?_ | refine yt ?_ ?_ | refine yo ?_ | apply zn | refine yc ?_ | exact rfl | intro _)
     ·rename_i h5
      refine ih2 (n + 1) (by rw [G2, <- aV, if_pos h5]) _ _ ?_
      rw [aM (i := n) (by omega), hw8]; rfl
     ·rename_i h5
      refine ih2 n (by rw [G2, <- aV, if_neg (by rw [h5]; simp), Y75]) _ _ ?_
      rw [hw8]; rfl
    ·rintro n _ _ aV
     rw [List.length_range] at aV ⊢
     have hc2 : decide (((60 : Nat) : Int) + 1 <= 60) = false := rfl
     repeat' (first | refine yy ?_ | refine ym ?_ | (apply ze;(iterate 5 exact rfl)) | (apply zf;(iterate 5 exact rfl)) | refine yp ?_ | refine yt1 ?_ | refine yt0 ?_ | refine yt ?_ ?_ | refine yo ?_ | apply zn | refine yc ?_ | exact rfl | intro _)
     ·refine fin rfl (bt ?_)
      rename_i h5
      have h6 : fV h i = false := by
       simp only [fV, hx]; rw [<- aV]; simpa using h5
      rw [gf, Ze hi3 h6]; simp
     ·rename_i h5
      have h6 : fV h i = true := by
       simp only [fV, hx]; rw [<- aV]; simpa using h5
      have MH := Zkp (h.aO.take i) 0
      have hbt := Z1w al.ae h.aO i
      have hbs : s.aJ.length <= 4000000 := Y77 (Z1v (f := al.ae) hx) hsb
      have hta : tk.length <= 4000000 := by rw [hinv]; omega
      refine bq (aa.el .n) s.aJ (fun k (o : List aa) => [(1, .box ⟨0, 0, 0⟩ (h.cs .n)), (3, .own ⟨0, 0, 0⟩ (aa.ls .y o)), (4, .own ⟨0, 0, 0⟩ (aa.ls .y (cz (ct h)))), (5, .x (iT i)), (6, .box ⟨0, 0, 0⟩ (s.cs .n)), (29, .x (al.ls .n h.aO)), (30, .x (iT (h.aO.map (al.el .n)).length)), (31, .x (iT i)), (52, .x (aa.ls .n s.aJ)), (53, .x (iT (s.aJ.map (aa.el .n)).length)), (54, .x (iT k))]) (fun k o => o = tk ++ (s.aJ.take k).map (eB i)) tk (by simp) rfl ?_ ?_
      ·rintro k o x hy eW hc2 _ hI ih3
       have hxr := hr x (Y62 hy)
       have hsh : (⟨dk i x.Lo, dk i x.Hi⟩ : aa) = eB i x := by
        rw [Z88 (by omega) (by omega), Z88 (by omega) (by omega)]; rfl
       have yK : (o.map (aa.el .y)).length + ([aa.mk (dk i x.Lo) (dk i x.Hi)].map (aa.el .n)).length < aS := by
        rw [Y45, hI, Y41, Y45, Y48]; simp [aS]; omega
       repeat' (first | refine yy ?_ | refine ym ?_ | (apply ze;(iterate 5 exact rfl)) | (apply zf;(iterate 5 exact rfl)) | refine yp ?_ | refine yi (aa.el .n x) (Zar hy) ?_ | refine yk jh (oZ _ _) ?_ | (apply zv;(iterate 7 exact rfl);exact (yK);exact (rfl);exact rfl;exact rfl) | refine yt1 ?_ | refine yt0 ?_ | refine yt ?_ ?_ | refine yo ?_ | apply zn | refine yc ?_ | exact rfl | intro _)
       refine ih3 (o ++ [⟨dk i x.Lo, dk i x.Hi⟩]) ?_ _ _ ?_
       ·rw [hsh, hI, Zat hy, Y21]
       ·rw [aM (by omega), Zak]; rfl
      ·rintro o hc2 _ hI
       rw [Y72] at hI
       repeat' (first | refine yy ?_ | refine ym ?_ | (apply ze;(iterate 5 exact rfl)) | (apply zf;(iterate 5 exact rfl)) | refine yp ?_ | refine yt1 ?_ | refine yt0 ?_ | refine yt ?_ ?_ | refine yo ?_ | apply zn | refine yc ?_ | exact rfl | intro _)
       refine ih o ⟨by rw [hI, hinv, Zks hx], Zl8 l5 h6⟩ _ _ ?_
       rw [aM (by omega)]; rfl
   ·rintro tk hc _ ⟨hinv, l5⟩
    rw [Y72] at hinv
    have hmr : bV 3 (fV h) = true := Zf (hse.1 ▸ l5)
    have G3 : tk.length <= 4194304 := by rw [hinv]; omega
    have LJ : ∀ x ∈ tk, HiR x := fun x hx => (htr x (hinv ▸ hx)).hi
    have hul : (eM tk).length <= 4194304 := Y77 (Zl5 tk) G3
    repeat' (first | refine yy ?_ | refine ym ?_ | (apply ze;(iterate 5 exact rfl)) | (apply zf;(iterate 5 exact rfl)) | refine yp ?_ | refine yw pE (B7 tk G3 LJ) (Z28 rfl (Z2p (fun _ => rfl) _)) ?_ | refine yk kP (o6 h hl) ?_ | refine yk j9 (o7 h hl) ?_ | (apply zao;(iterate 4 exact rfl);exact (Z6r _);exact (dY);(iterate 3 exact rfl)) | refine yw kc (Kt) (Z28 rfl (Z2p (fun _ => rfl) _)) ?_ | refine yv AQ (Km (eM tk) (cz (bl h)) hul) ?_ | refine yt1 ?_ | refine yt0 ?_ | refine yt ?_ ?_ | refine yo ?_ | apply zn | refine yc ?_ | exact rfl | intro _)
    ·refine fin rfl (bt ?_)
     rename_i h5
     rw [hinv] at h5
     have h6 : decide (eM (cu h.aO 0) = cz (bl h)) = false := by simpa using h5
     rw [gf, h6]; simp
    ·rename_i h5
     rw [hinv] at h5
     have h6 : decide (eM (cu h.aO 0) = cz (bl h)) = true := by simpa using h5
     have hou := Z1t ay.ae h.aY
     have hob : h.aY.length <= 4000000 := by unfold ao.ae at hl; omega
     rw [gf, hp, hea, hmr, h6]
     refine bq (ay.el .n) h.aY (fun i (_ : Unit) => [(1, .box ⟨0, 0, 0⟩ (h.cs .n)), (83, .x (ay.ls .n h.aY)), (84, .x (iT (h.aY.map (ay.el .n)).length)), (85, .x (iT i))]) (fun i _ => ∀ j, j < i -> fc h.aY j = true) () (by omega) rfl ?_ ?_
     ·rintro i _ o hx hlt hc _ aV ih
      have hsl : 0 <= i /\ i <= (h.aY.map (ay.el .n)).length := by rw [Y45]; omega
      repeat' (first | refine yy ?_ | refine ym ?_ | (apply ze;(iterate 5 exact rfl)) | (apply zf;(iterate 5 exact rfl)) | refine yp ?_ | refine yi (ay.el .n o) (Zar hx) ?_ | (apply zu;exact rfl;exact Z1k rfl rfl;exact rfl;exact (hsl);exact rfl;exact Zk5;exact rfl;exact rfl) | (apply zk AP;exact rfl;exact rfl;exact (Kl (h.aY.take i) _ _ (by rw [Y48]; omega));(iterate 3 exact rfl)) | refine yt1 ?_ | refine yt0 ?_ | refine yt ?_ ?_ | refine yo ?_ | apply zn | refine yc ?_ | exact rfl | intro _)
      ·refine fin rfl (bt ?_)
       rename_i h7
       have h8 : fc h.aY i = false := by rw [Z78 hx]; simpa using h7
       rw [Ze hlt h8]; rfl
      ·rename_i h7
       have h8 : fc h.aY i = true := by rw [Z78 hx]; simpa using h7
       refine ih () (Zl8 aV h8) _ _ ?_
       rw [aM (by omega)]; rfl
     ·rintro _ hc _ aV
      rw [Zf aV]
      repeat' (first | refine yy ?_ | refine ym ?_ | (apply ze;(iterate 5 exact rfl)) | (apply zf;(iterate 5 exact rfl)) | refine yp ?_ | refine yt1 ?_ | refine yt0 ?_ | refine yt ?_ ?_ | refine yo ?_ | apply zn | refine yc ?_ | exact rfl | intro _)
      exact fin rfl rfl
end Go.Wr

