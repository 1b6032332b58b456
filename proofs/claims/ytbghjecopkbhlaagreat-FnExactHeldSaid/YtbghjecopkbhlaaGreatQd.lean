/-
  What is proved: lemmas on the way to the laws of this seat. No condition.
-/
import Derived.Test.YtbghjecopkbhlaaGreatQc
import Derived.Test.YtbghjecopkbhlaaGreatPb
import Derived.Test.YtbghjecopkbhlaaGreatHa
import Derived.Test.YtbghjecopkbhlaaGreatHb
import Derived.Test.YtbghjecopkbhlaaGreatTa
set_option linter.unusedVariables false
set_option linter.unusedSimpArgs false
namespace Go.Wr
set_option maxRecDepth 20000
theorem Zml {b : Bool} (h : (!b) = true) : b = false := by cases b with | false => rfl | true => cases h
theorem zK (x : ap) (hl : x.ae <= 4000000) : oT [.st (x.cs .n)] = some ⟨[.one (.b x.ok)], []⟩ := by
 have hs : x.aj.ae <= 4000000 := hl
 (refine Z6j rfl ?_; show Ev wT.code _ _ _)
 repeat' (first | refine yy ?_ | refine ym ?_ | (apply ze;(iterate 5 exact rfl)) | (apply zf;(iterate 5 exact rfl)) | refine yp ?_ | refine yk cm (fu _ _ _) ?_ | refine yk kb (o5 x.aj hs) ?_ | refine yo ?_ | apply zn | refine yc ?_ | exact rfl | intro _)
 exact fin rfl rfl
theorem G4 (x : ap) (hl : x.ae <= 4000000) : yr [.st (x.cs .n)] = some ⟨[.one (.b x.ok)], []⟩ := by
 have hs : x.aj.ae <= 4194304 := Y77 hl (by omega)
 (refine Z6j rfl ?_; show Ev yq.code _ _ _)
 repeat' (first | refine yy ?_ | refine ym ?_ | (apply ze;(iterate 5 exact rfl)) | (apply zf;(iterate 5 exact rfl)) | refine yp ?_ | refine yk bK (dP _ _ _) ?_ | refine yk mK (zC _ _) ?_ | refine yk mJ (zF x.aj hs) ?_ | refine yo ?_ | apply zn | refine yc ?_ | exact rfl | intro _)
 refine fin rfl (bt ?_)
 rw [ap.ok]
 generalize inB x.Seq 1 60 = a
 generalize inB x.mq 0 1 = b
 generalize inB x.Key 0 4 = c
 generalize inB x.cJ 0 20 = d
 generalize x.aj.ok = e
 revert a b c d e; decide
theorem Zmu {a : ak} (hl : a.ae <= 4000000) : a.aX.length <= 4000000 /\ a.aJ.length <= 4194304 /\ ∀ (i : Nat) x, a.aX[i]? = some x -> x.ae <= 4000000 := by
 have h1 := Z1t ap.ae a.aX
 unfold ak.ae at hl
 refine ⟨by omega, by omega, fun i x hx => ?_⟩
 have := Z1v (f := ap.ae) hx
 omega
theorem Znd (n m : Nat) : decide ((n : Int) > (m : Nat)) = !decide (n <= m) := by
 rw [Y7]; simp only [decide_eq_true_eq, Y11, decide_eq_false_iff_not]; omega
theorem Zo1 {a : ak} : ((((!inB a.Id 0 2 || !inB a.gp 0 1000) || !inB a.cP 0 60) || decide (((a.aX.map (ap.el .n)).length : Int) > 60)) || !inB a.Next 0 60) = !eX a := by
 rw [show (60 : Int) = ((60 : Nat) : Int) from rfl, Y45, Znd, eX]
 cases inB a.Id 0 2 <;> cases inB a.gp 0 1000 <;> cases inB a.cP 0 (60 : Nat) <;> cases decide (a.aX.length <= 60) <;> simp
theorem G5 (a : ak) (hl : a.ae <= 4000000) : wX [.st (a.cs .n)] = some ⟨[.one (.b a.ok)], []⟩ := by
 obtain ⟨h1, h2, h3⟩ := Zmu hl
 (refine Z6j rfl ?_; show Ev wW.code _ _ _)
 repeat' (first | refine yy ?_ | refine ym ?_ | (apply ze;(iterate 5 exact rfl)) | (apply zf;(iterate 5 exact rfl)) | refine yp ?_ | refine yk cm (fu _ _ _) ?_ | refine yt1 ?_ | refine yt0 ?_ | refine yt ?_ ?_ | refine yo ?_ | apply zn | refine yc ?_ | exact rfl | intro _)
 ·refine fin rfl (bt ?_)
  rename_i h
  rw [Zo1] at h
  have h4 : eX a = false := by simpa using h
  rw [ak.ok, h4]; rfl
 ·rename_i h
  rw [Zo1] at h
  have h4 : eX a = true := by simpa using h
  refine bq (ap.el .n) a.aX (fun i (_ : Unit) => [(1, .box ⟨0, 0, 0⟩ (a.cs .n)), (34, .x (ap.ls .n a.aX)), (35, .x (iT (a.aX.map (ap.el .n)).length)), (36, .x (iT i))]) (fun i _ => ∀ j, j < i -> hP a.aX j = true) () (by omega) rfl ?_ ?_
  ·rintro i _ x hx hlt hc _ hinv ih
   have hbx := h3 i x hx
   have hw : IntKind.i64.wrap ((i : Int) + 1) = (i : Int) + 1 := w64 (by omega)
   repeat' (first | refine yy ?_ | refine ym ?_ | (apply ze;(iterate 5 exact rfl)) | (apply zf;(iterate 5 exact rfl)) | refine yp ?_ | refine yi (ap.el .n x) (Zar hx) ?_ | refine yk mM (zK x hbx) ?_ | refine yt1 ?_ | refine yt0 ?_ | refine yt ?_ ?_ | refine yo ?_ | apply zn | refine yc ?_ | exact rfl | intro _)
   ·refine fin rfl (bt ?_)
    rename_i h5
    rw [hw, bne] at h5
    have h6 : hP a.aX i = false := by rw [Zo9 hx]; revert h5; cases x.ok <;> simp
    rw [ak.ok, Ze hlt h6, Y3]
   ·rename_i h5
    rw [hw, bne] at h5
    have h6 : hP a.aX i = true := by rw [Zo9 hx]; revert h5; cases x.ok <;> simp
    refine ih () (Zl8 hinv h6) _ _ ?_
    rw [aM (by omega)]; rfl
  ·rintro _ hc _ hinv
   repeat' (first | refine yy ?_ | refine ym ?_ | (apply ze;(iterate 5 exact rfl)) | (apply zf;(iterate 5 exact rfl)) | refine yp ?_ | refine yk lY (yH a.aJ _ _ h2) ?_ | refine yt1 ?_ | refine yt0 ?_ | refine yt ?_ ?_ | refine yo ?_ | apply zn | refine yc ?_ | exact rfl | intro _)
   refine fin rfl (bt ?_)
   rw [ak.ok, h4, Zf hinv, Y45]
   have h7 : inB a.cP 0 60 = true := by simp only [eX, Y2] at h4; exact h4.1.1.2
   have h8 : (a.cP == 0) = !decide (a.cP > 0) := by
    simp only [inB, Y2, decide_eq_true_eq] at h7
    rw [Y7]; simp only [beq_iff_eq, Y11, decide_eq_false_iff_not]; omega
   rw [h8, Y15, Y5]
theorem G6 (a : ak) (hl : a.ae <= 4000000) : yA [.st (a.cs .n)] = some ⟨[.one (.b a.ok)], []⟩ := by
 obtain ⟨h1, h2, h3⟩ := Zmu hl
 (refine Z6j rfl ?_; show Ev yu.code _ _ _)
 repeat' (first | refine yy ?_ | refine ym ?_ | (apply ze;(iterate 5 exact rfl)) | (apply zf;(iterate 5 exact rfl)) | refine yp ?_ | refine yk bK (dP _ _ _) ?_ | refine yk kt (pV _) ?_ | refine yk mL (zG a.aJ _ h2) ?_ | refine yt1 ?_ | refine yt0 ?_ | refine yt ?_ ?_ | refine yo ?_ | apply zn | refine yc ?_ | exact rfl | intro _)
 ·refine fin rfl (bt ?_)
  rename_i h
  rw [Zo1, Y45] at h
  rw [ak.ok]
  revert h
  cases eX a <;> cases ez a.aJ 1 a.aX.length <;> cases a.Live <;> cases decide (a.cP > 0) <;> simp
 ·rename_i h
  rw [Zo1, Y45] at h
  have h4 : (eX a && ez a.aJ 1 a.aX.length && (a.Live || !decide (a.cP > 0))) = true := by
   revert h
   cases eX a <;> cases ez a.aJ 1 a.aX.length <;> cases a.Live <;> cases decide (a.cP > 0) <;> simp
  rw [ak.ok, h4, Y15]
  refine bq (ap.el .n) a.aX (fun i (_ : Unit) => [(1, .box ⟨0, 0, 0⟩ (a.cs .n)), (3, .x (iT i))]) (fun i _ => ∀ j, j < i -> hP a.aX j = true) () (by omega) rfl ?_ ?_
  ·rintro i _ x hx hlt hc _ hinv ih
   have hbx := h3 i x hx
   have hw : IntKind.i64.wrap ((i : Int) + 1) = (i : Int) + 1 := w64 (by omega)
   repeat' (first | refine yy ?_ | refine ym ?_ | (apply ze;(iterate 5 exact rfl)) | (apply zf;(iterate 5 exact rfl)) | refine yp ?_ | refine yi (ap.el .n x) (Zar hx) ?_ | refine yk s5 (G4 x hbx) ?_ | refine yt1 ?_ | refine yt0 ?_ | refine yt ?_ ?_ | refine yo ?_ | apply zn | refine yc ?_ | exact rfl | intro _)
   ·refine fin rfl (bt ?_)
    rename_i h5
    rw [hw, bne] at h5
    have h6 : hP a.aX i = false := by rw [Zo9 hx]; revert h5; cases x.ok <;> simp
    rw [Ze hlt h6]
   ·rename_i h5
    rw [hw, bne] at h5
    have h6 : hP a.aX i = true := by rw [Zo9 hx]; revert h5; cases x.ok <;> simp
    refine ih () (Zl8 hinv h6) _ _ ?_
    rw [aM (by omega)]; rfl
  ·rintro _ hc _ hinv
   rw [Zf hinv]
   repeat' (first | refine yy ?_ | refine ym ?_ | (apply ze;(iterate 5 exact rfl)) | (apply zf;(iterate 5 exact rfl)) | refine yp ?_ | refine yt1 ?_ | refine yt0 ?_ | refine yt ?_ ?_ | refine yo ?_ | apply zn | refine yc ?_ | exact rfl | intro _)
   exact fin rfl rfl
theorem Zp7 {w : aG} (hl : w.ae <= 4000000) : w.bJ.ae <= 4000000 /\ w.bj.length <= 4000000 /\ w.Net.length <= 4000000 /\ ∀ (i : Nat) a, w.bj[i]? = some a -> a.ae <= 4000000 := by
 have h1 := Z1t ak.ae w.bj
 have h2 := Z1t aB.ae w.Net
 unfold aG.ae at hl
 refine ⟨by omega, by omega, by omega, fun i x hx => ?_⟩
 have := Z1v (f := ak.ae) hx
 omega
theorem Zo2 {w : aG} {b : Bool} : ((((w.bj.map (ak.el .n)).length : Int) != 3 || !b) || decide (((w.Net.map (aB.el .n)).length : Int) > 10)) = !(decide (w.bj.length = 3) && b && decide (w.Net.length <= 10)) := by
 rw [show (3 : Int) = ((3 : Nat) : Int) from rfl, show (10 : Int) = ((10 : Nat) : Int) from rfl, Z9s, Y45, Znd]
 cases decide (w.bj.length = 3) <;> cases b <;> simp
theorem G7 (w : aG) (hl : w.ae <= 4000000) : wZ [.st (w.cs .n)] = some ⟨[.one (.b (dw w))], []⟩ := by
 obtain ⟨hh, hal, hnl, hab⟩ := Zp7 hl
 (refine Z6j rfl ?_; show Ev wY.code _ _ _)
 repeat' (first | refine yy ?_ | refine ym ?_ | (apply ze;(iterate 5 exact rfl)) | (apply zf;(iterate 5 exact rfl)) | refine yp ?_ | refine yk lZ (B8 w.bJ hh) ?_ | refine yt1 ?_ | refine yt0 ?_ | refine yt ?_ ?_ | refine yo ?_ | apply zn | refine yc ?_ | exact rfl | intro _)
 ·refine fin rfl (bt ?_)
  rename_i h
  rw [Zo2, Z82] at h
  rw [dw, Zml h]; rfl
 ·rename_i h
  rw [Zo2, Z82] at h
  have h4 : (decide (w.bj.length = 3) && c4 w.bJ && decide (w.Net.length <= 10)) = true := by simpa using h
  have h3 : w.bj.length = 3 := by simp only [Y2, decide_eq_true_eq] at h4; exact h4.1.1
  rw [dw, h4, Y15]
  refine bq (ak.el .n) w.bj (fun i (_ : Unit) => [(1, .box ⟨0, 0, 0⟩ (w.cs .n)), (24, .x (ak.ls .n w.bj)), (25, .x (iT (w.bj.map (ak.el .n)).length)), (26, .x (iT i))]) (fun i _ => ∀ j, j < i -> fW w.bj j = true) () (by omega) rfl ?_ ?_
  ·rintro i _ a hx hlt hc _ hinv ih
   have hba := hab i a hx
   repeat' (first | refine yy ?_ | refine ym ?_ | (apply ze;(iterate 5 exact rfl)) | (apply zf;(iterate 5 exact rfl)) | refine yp ?_ | refine yi (ak.el .n a) (Zar hx) ?_ | refine yk sv (G5 a hba) ?_ | refine yt1 ?_ | refine yt0 ?_ | refine yt ?_ ?_ | refine yo ?_ | apply zn | refine yc ?_ | exact rfl | intro _)
   ·refine fin rfl (bt ?_)
    rename_i h5
    rw [bne] at h5
    have h6 : fW w.bj i = false := by rw [Zmt hx]; revert h5; cases a.ok <;> simp
    rw [Ze (h3 ▸ hlt) h6, Y8]
   ·rename_i h5
    rw [bne] at h5
    have h6 : fW w.bj i = true := by rw [Zmt hx]; revert h5; cases a.ok <;> simp
    refine ih () (Zl8 hinv h6) _ _ ?_
    rw [aM (by omega)]; rfl
  ·rintro _ hc _ hinv
   rw [Zf (h3 ▸ hinv), Y15]
   repeat' (first | refine yy ?_ | refine ym ?_ | (apply ze;(iterate 5 exact rfl)) | (apply zf;(iterate 5 exact rfl)) | refine yp ?_ | refine yt1 ?_ | refine yt0 ?_ | refine yt ?_ ?_ | refine yo ?_ | apply zn | refine yc ?_ | exact rfl | intro _)
   refine bq (aB.el .n) w.Net (fun i (_ : Unit) => [(1, .box ⟨0, 0, 0⟩ (w.cs .n)), (42, .x (aB.ls .n w.Net)), (43, .x (iT (w.Net.map (aB.el .n)).length)), (44, .x (iT i))]) (fun i _ => (w.Net.take i).all (fun p => inB p.To (-1) 2) = true) () (by simp) rfl ?_ ?_
   ·rintro i _ p hx hlt hc _ hinv ih
    repeat' (first | refine yy ?_ | refine ym ?_ | (apply ze;(iterate 5 exact rfl)) | (apply zf;(iterate 5 exact rfl)) | refine yp ?_ | refine yi (aB.el .n p) (Zar hx) ?_ | refine yk cm (fu _ _ _) ?_ | refine yt1 ?_ | refine yt0 ?_ | refine yt ?_ ?_ | refine yo ?_ | apply zn | refine yc ?_ | exact rfl | intro _)
    ·refine fin rfl (bt ?_)
     rename_i h5
     rw [Zbs (p := fun p : aB => inB p.To (-1) 2) hx (by simpa using h5)]
    ·rename_i h5
     refine ih () (Zkj (p := fun p : aB => inB p.To (-1) 2) hinv hx (by simpa using h5)) _ _ ?_
     rw [aM (by omega)]; rfl
   ·rintro _ hc _ hinv
    rw [Zkl hinv]
    repeat' (first | refine yy ?_ | refine ym ?_ | (apply ze;(iterate 5 exact rfl)) | (apply zf;(iterate 5 exact rfl)) | refine yp ?_ | refine yt1 ?_ | refine yt0 ?_ | refine yt ?_ ?_ | refine yo ?_ | apply zn | refine yc ?_ | exact rfl | intro _)
    exact fin rfl rfl
theorem G8 (w : aG) (hl : w.ae <= 4000000) : yC [.st (w.cs .n)] = some ⟨[.one (.b (dw w))], []⟩ := by
 obtain ⟨hh, hal, hnl, hab⟩ := Zp7 hl
 (refine Z6j rfl ?_; show Ev yB.code _ _ _)
 repeat' (first | refine yy ?_ | refine ym ?_ | (apply ze;(iterate 5 exact rfl)) | (apply zf;(iterate 5 exact rfl)) | refine yp ?_ | refine yk iR (p5 w.bJ hh) ?_ | refine yt1 ?_ | refine yt0 ?_ | refine yt ?_ ?_ | refine yo ?_ | apply zn | refine yc ?_ | exact rfl | intro _)
 ·refine fin rfl (bt ?_)
  rename_i h
  rw [Zo2] at h
  rw [dw, Zml h]; rfl
 ·rename_i h
  rw [Zo2] at h
  have h4 : (decide (w.bj.length = 3) && c4 w.bJ && decide (w.Net.length <= 10)) = true := by simpa using h
  have h3 : w.bj.length = 3 := by simp only [Y2, decide_eq_true_eq] at h4; exact h4.1.1
  rw [dw, h4, Y15]
  refine bq (ak.el .n) w.bj (fun i (_ : Unit) => [(1, .box ⟨0, 0, 0⟩ (w.cs .n)), (3, .x (iT i))]) (fun i _ => ∀ j, j < i -> fW w.bj j = true) () (by omega) rfl ?_ ?_
  ·rintro i _ a hx hlt _ _ hinv ih
   have hc : decide ((i : Int) < 3) = true := by simp; omega
   have hba := hab i a hx
   repeat' (first | refine yy ?_ | refine ym ?_ | (apply ze;(iterate 5 exact rfl)) | (apply zf;(iterate 5 exact rfl)) | refine yp ?_ | refine yi (ak.el .n a) (Zar hx) ?_ | refine yk s6 (G6 a hba) ?_ | refine yt1 ?_ | refine yt0 ?_ | refine yt ?_ ?_ | refine yo ?_ | apply zn | refine yc ?_ | exact rfl | intro _)
   ·refine fin rfl (bt ?_)
    rename_i h5
    rw [bne] at h5
    have h6 : fW w.bj i = false := by rw [Zmt hx]; revert h5; cases a.ok <;> simp
    rw [Ze (h3 ▸ hlt) h6, Y8]
   ·rename_i h5
    rw [bne] at h5
    have h6 : fW w.bj i = true := by rw [Zmt hx]; revert h5; cases a.ok <;> simp
    refine ih () (Zl8 hinv h6) _ _ ?_
    rw [aM (by omega)]; rfl
  ·rintro _ _ _ hinv
   have hc : decide ((w.bj.length : Int) < 3) = false := by rw [h3]; rfl
   rw [Zf (h3 ▸ hinv), Y15]
   repeat' (first | refine yy ?_ | refine ym ?_ | (apply ze;(iterate 5 exact rfl)) | (apply zf;(iterate 5 exact rfl)) | refine yp ?_ | refine yt1 ?_ | refine yt0 ?_ | refine yt ?_ ?_ | refine yo ?_ | apply zn | refine yc ?_ | exact rfl | intro _)
   refine bq (aB.el .n) w.Net (fun i (_ : Unit) => [(1, .box ⟨0, 0, 0⟩ (w.cs .n)), (4, .x (iT i))]) (fun i _ => (w.Net.take i).all (fun p => inB p.To (-1) 2) = true) () (by simp) rfl ?_ ?_
   ·rintro i _ p hx hlt hc _ hinv ih
    repeat' (first | refine yy ?_ | refine ym ?_ | (apply ze;(iterate 5 exact rfl)) | (apply zf;(iterate 5 exact rfl)) | refine yp ?_ | refine yi (aB.el .n p) (Zar hx) ?_ | refine yk bK (dP _ _ _) ?_ | refine yt1 ?_ | refine yt0 ?_ | refine yt ?_ ?_ | refine yo ?_ | apply zn | refine yc ?_ | exact rfl | intro _)
    ·refine fin rfl (bt ?_)
     rename_i h5
     rw [Zbs (p := fun p : aB => inB p.To (-1) 2) hx (by simpa using h5)]
    ·rename_i h5
     refine ih () (Zkj (p := fun p : aB => inB p.To (-1) 2) hinv hx (by simpa using h5)) _ _ ?_
     rw [aM (by omega)]; rfl
   ·rintro _ hc _ hinv
    rw [Zkl hinv]
    repeat' (first | refine yy ?_ | refine ym ?_ | (apply ze;(iterate 5 exact rfl)) | (apply zf;(iterate 5 exact rfl)) | refine yp ?_ | refine yt1 ?_ | refine yt0 ?_ | refine yt ?_ ?_ | refine yo ?_ | apply zn | refine yc ?_ | exact rfl | intro _)
    exact fin rfl rfl
end Go.Wr
namespace Go.Wr
set_option maxRecDepth 20000
theorem Zib {s : al} (hl : s.ae <= 4000000) : s.aJ.length <= 4194304 := by unfold al.ae at hl; omega
end Go.Wr
namespace Go.Wr
set_option maxRecDepth 20000
end Go.Wr
namespace Go.Wr
set_option maxRecDepth 20000
end Go.Wr
namespace Go.Wr
set_option maxRecDepth 20000
theorem G9 (s : List aa) (n : Int) (hl : s.length <= 4194304) : yn [.x (aa.ls .n s), .x (iT n)] = some ⟨[.one (.b (dg s n))], []⟩ := by
 (refine Z6j rfl ?_; show Ev yh.code _ _ _)
 repeat' (first | refine yt1 ?_ | refine yt0 ?_ | refine yt ?_ ?_ | refine yo ?_ | apply zn | refine yc ?_ | intro _)
 refine bq (aa.el .n) s (fun i (_ : Unit) => [(0, .x (aa.ls .n s)), (1, .x (iT n)), (5, .x (iT i))]) (fun i _ => (s.take i).all (fun x => !inB n x.Lo x.Hi) = true) () (by simp) rfl ?_ ?_
 ·rintro i _ x hx hlt hc _ hinv ih
  repeat' (first | refine yi (aa.el .n x) (Zar hx) ?_ | refine yk bK (dP _ _ _) ?_ | refine yt1 ?_ | refine yt0 ?_ | refine yt ?_ ?_ | refine yo ?_ | apply zn | refine yc ?_ | intro _)
  ·refine fin rfl (bt ?_)
   rename_i h
   rw [dg, Y20.2 ⟨x, Y62 hx, h⟩]
  ·rename_i h
   refine ih () (Zkj (p := fun x : aa => !inB n x.Lo x.Hi) hinv hx (by rw [h]; rfl)) _ _ ?_
   rw [aM (by omega)]; rfl
 ·rintro _ hc _ hinv
  have h := Zkl hinv
  repeat' (first | refine yt1 ?_ | refine yt0 ?_ | refine yt ?_ ?_ | refine yo ?_ | apply zn | refine yc ?_ | intro _)
  refine fin rfl (bt ?_)
  rw [dg, eq_comm, Y91]
  intro x hx
  have := Y18.1 h x hx
  simpa using this
end Go.Wr
namespace Go.Wr
set_option maxRecDepth 20000
end Go.Wr
namespace Go.Wr
set_option maxRecDepth 20000
end Go.Wr
namespace Go.Wr
set_option maxRecDepth 20000
theorem Ha (n lo hi : Int) : oo [.x (iT n), .x (iT lo), .x (iT hi)] = some ⟨[.one (iT (min (max n lo) hi))], []⟩ := by
 (refine Z6j rfl ?_; show Ev tw.code _ _ _)
 repeat' (first | refine yo ?_ | apply zn | refine yc ?_ | intro _)
 refine fin rfl (lX ?_)
 show (if hi < (if lo > n then lo else n) then hi else (if lo > n then lo else n)) = _
 split <;> split <;> omega
theorem p6 (a b : Int) : lF [.x (iT a), .x (iT b)] = some ⟨[.one (iT (bI a b))], []⟩ := by
 (refine Z6j rfl ?_; show Ev tz.code _ _ _)
 repeat' (first | refine yk og (Ha _ _ _) ?_ | refine yo ?_ | apply zn | refine yc ?_ | intro _)
 refine fin rfl (lX ?_)
 show (if (1000000000 : Int) < IntKind.i64.wrap (min (max a 0) 1000000000 + min (max b 0) 1000000000) then (1000000000 : Int) else IntKind.i64.wrap (min (max a 0) 1000000000 + min (max b 0) 1000000000)) = _
 rw [w64 (by omega), bI]
 split <;> omega
theorem Hb (n m : Int) : oO [.x (iT n), .x (iT m)] = some ⟨[.one (iT (max 0 (min n m)))], []⟩ := by
 (refine Z6j rfl ?_; show Ev wM.code _ _ _)
 repeat' (first | refine yk hD (kW _ _) ?_ | refine yk gr (kV _ _) ?_ | refine yo ?_ | apply zn | refine yc ?_ | intro _)
 exact fin rfl rfl
theorem zN (a b : Int) : nh [.x (iT a), .x (iT b)] = some ⟨[.one (iT (bI a b))], []⟩ := by
 (refine Z6j rfl ?_; show Ev wN.code _ _ _)
 repeat' (first | refine yk oh (Hb _ _) ?_ | refine yk hD (kW _ _) ?_ | refine yo ?_ | apply zn | refine yc ?_ | intro _)
 refine fin rfl (lX ?_)
 rw [w64 (by omega), bI]
theorem B9 : tv [] = some ⟨[.st (ji.cs .y)], []⟩ := by
 (refine Z6j rfl ?_; show Ev BD.code _ _ _)
 repeat' (first | (apply zs;(iterate 3 exact rfl);exact (by decide);exact (by simp [aS]);exact rfl;exact rfl) | refine yo ?_ | apply zn | refine yc ?_ | intro _)
 exact fin rfl rfl
theorem jO : ng [] = some ⟨[.st (ji.cs .y)], []⟩ := by
 (refine Z6j rfl ?_; show Ev wK.code _ _ _)
 repeat' (first | (apply zs;(iterate 3 exact rfl);exact (by decide);exact (by simp [aS]);exact rfl;exact rfl) | refine yo ?_ | apply zn | refine yc ?_ | intro _)
 exact fin rfl rfl
theorem Hc (a s : Int) : yg [.x (iT a), .x (iT s)] = some ⟨[.one (iT (dk a s))], []⟩ := by
 (refine Z6j rfl ?_; show Ev yf.code _ _ _)
 repeat' (first | refine yy ?_ | refine ym ?_ | (apply ze;(iterate 5 exact rfl)) | (apply zf;(iterate 5 exact rfl)) | refine yp ?_ | refine yk kt (pV _) ?_ | refine yk bK (dP _ _ _) ?_ | refine yt1 ?_ | refine yt0 ?_ | refine yt ?_ ?_ | refine yo ?_ | apply zn | refine yc ?_ | exact rfl | intro _)
 all_goals (refine fin rfl ?_; rename_i h)
 ·simp [dk] at h ⊢
  rcases h with h | h <;> simp [h]
 ·simp at h
  have h1 := h.1; have h2 := h.2
  simp only [inB, Y2, decide_eq_true_eq] at h1 h2
  rw [dk, h.1, h.2, w64 (n := 100 * a) (by omega), w64 (by omega)]
  rfl
theorem Hd (n : Int) : yE [.x (iT n)] = some ⟨[.st ((⟨n, n⟩ : aa).cs .y)], []⟩ := by
 (refine Z6j rfl ?_; show Ev yD.code _ _ _)
 repeat' (first | refine yo ?_ | apply zn | refine yc ?_ | intro _)
 exact fin rfl rfl
theorem Zj0 {x : ag} (h : x.ae <= 4194304) : x.aW.length <= 4194304 /\ x.aT.length <= 4194304 /\ x.Rows.length <= 4194304 /\ ∀ (i : Nat) r, x.Rows[i]? = some r -> r.length <= 4194304 := by
 have h1 := Z1t List.length x.Rows
 unfold ag.ae at h
 refine ⟨by omega, by omega, by omega, fun i r hr => ?_⟩
 have := Z1v (f := List.length) hr
 omega
end Go.Wr
namespace Go.Wr
set_option maxRecDepth 20000
theorem p7 (x : ag) (hl : x.ae <= 4194304) : mN [.st (x.cs .n)] = some ⟨[.st (x.cs .y)], []⟩ := by
 obtain ⟨h1, h2, h3, h4⟩ := Zj0 hl
 (refine Z6j rfl ?_; show Ev tA.code _ _ _)
 repeat' (first | refine yk ka (o4 x.aW h1) ?_ | refine yk ka (o4 x.aT h2) ?_ | refine yt1 ?_ | refine yt0 ?_ | refine yt ?_ ?_ | refine yo ?_ | apply zn | refine yc ?_ | intro _)
 refine bq (ints .n) x.Rows (fun i (es : List T) => [(1, .box ⟨0, 0, 0⟩ (x.cs .n)), (2, .box ⟨0, 0, 0⟩ [iT 0, iT 0, iT 0, iT 0, .l .y 1 [], .l .y 1 [], .l .y 1 []]), (3, .box ⟨0, 0, 0⟩ [iT x.Count, iT x.Sum, iT x.Min, iT x.Max, ints .y x.aW, ints .y x.aT, .l .y 1 es]), (17, .x (dE.lss .n x.Rows)), (18, .x (iT (x.Rows.map (ints .n)).length)), (19, .x (iT i))]) (fun i es => es = (x.Rows.take i).map (ints .y)) [] rfl rfl ?_ ?_
 ·rintro i es r hx hlt hc _ hinv ih
  have hrl := h4 i r hx
  have dY : es.length + 1 < aS := by
   rw [hinv, Y45, Y48]; unfold aS; omega
  repeat' (first | refine yi (ints .n r) (Zar hx) ?_ | refine yk ka (o4 r hrl) ?_ | (apply zV;(iterate 8 exact rfl);exact (dY);exact (rfl);exact (dY);exact rfl;exact rfl) | refine yt1 ?_ | refine yt0 ?_ | refine yt ?_ ?_ | refine yo ?_ | apply zn | refine yc ?_ | intro _)
  refine ih (es ++ [ints .y r]) ?_ _ _ ?_
  ·rw [hinv, Zat hx]
  ·rw [aM (by omega)]; rfl
 ·rintro es hc _ hinv
  rw [Y72] at hinv
  subst hinv
  repeat' (first | refine yt1 ?_ | refine yt0 ?_ | refine yt ?_ ?_ | refine yo ?_ | apply zn | refine yc ?_ | intro _)
  refine fin rfl ?_
  try simp only [Zk0]
  try rfl
theorem He (e : ab) (hl : e.ae <= 4194304) : tE [.st (e.cs .n)] = some ⟨[.st (e.cs .y)], []⟩ := by
 have h1 : e.Ids.length <= 4194304 := by unfold ab.ae at hl; omega
 have h2 : e.aj.ae <= 4194304 := by unfold ab.ae at hl; omega
 (refine Z6j rfl ?_; show Ev tD.code _ _ _)
 repeat' (first | refine yk pC (B4 e.Ids h1) ?_ | refine yk ke (p7 e.aj h2) ?_ | refine yo ?_ | apply zn | refine yc ?_ | intro _)
 refine fin rfl ?_
 try simp only [Zk0]
 try rfl
theorem Hf (i : Nat) (x : ap) (hl : x.ae <= 4000000) (hok : x.ok = true) (hid : 0 <= dk i x.Seq) : wV [.x (iT i), .st (x.cs .n)] = some ⟨[.st ((iq i x).cs .y), .one (.b true)], []⟩ := by
 have hs : x.aj.ae <= 4194304 := Y77 hl (by omega)
 have hc : (!x.ok || decide (dk i x.Seq < 0)) = false := by rw [hok]; simp; omega
 (refine Z6j rfl ?_; show Ev wU.code _ _ _)
 repeat' (first | refine yy ?_ | refine ym ?_ | (apply ze;(iterate 5 exact rfl)) | (apply zf;(iterate 5 exact rfl)) | refine yp ?_ | refine yk jh (oZ _ _) ?_ | refine yk mM (zK x hl) ?_ | refine yk ke (p7 x.aj hs) ?_ | refine yt1 ?_ | refine yt0 ?_ | refine yt ?_ ?_ | refine yo ?_ | apply zn | refine yc ?_ | exact rfl | intro _)
 refine fin rfl ?_
 try simp only [Zk0]
 try rfl
theorem Zn8 {α : Type} {p : α -> Bool} {l : List α} {i : Nat} {x : α} (h : l[i]? = some x) : (l.take (i + 1)).filter p = (l.take i).filter p ++ (if p x then [x] else []) := by
 rw [Y70, h, List.filter_append]; simp [List.filter_cons]
theorem Zn7 {α : Type} {p : α -> Bool} {l : List α} {i : Nat} : ((l.take i).filter p).length <= i := Y77 (List.length_filter_le _ _) (by rw [Y48]; omega)
theorem p8 (l : List ab) (k w : Int) (hl : l.length <= 4194304) : mP [.x (ab.ls .n l), .x (iT k), .x (iT w)] = some ⟨[.one (.l .y 10 ((l.filter (atE k w)).map (ab.el .n)))], []⟩ := by
 (refine Z6j rfl ?_; show Ev tH.code _ _ _)
 repeat' (first | refine yy ?_ | refine ym ?_ | (apply ze;(iterate 5 exact rfl)) | (apply zf;(iterate 5 exact rfl)) | refine yp ?_ | refine yt1 ?_ | refine yt0 ?_ | refine yt ?_ ?_ | refine yo ?_ | apply zn | refine yc ?_ | exact rfl | intro _)
 refine bq (ab.el .n) l (fun i (es : List T) => [(1, .x (iT k)), (2, .x (iT w)), (7, .own ⟨0, 0, 0⟩ (.l .y 10 es)), (10, .x (ab.ls .n l)), (11, .x (iT (l.map (ab.el .n)).length)), (12, .x (iT i))]) (fun i es => es = ((l.take i).filter (atE k w)).map (ab.el .n)) [] rfl rfl ?_ ?_
 ·rintro i es e hx hlt hc _ hinv ih
  have hlen : es.length + [e].length <= 4194304 := by
   rw [hinv, Y45]
   have := Zn7 (p := atE k w) (l := l) (i := i)
   simp; omega
  repeat' (first | refine yy ?_ | refine ym ?_ | (apply ze;(iterate 5 exact rfl)) | (apply zf;(iterate 5 exact rfl)) | refine yp ?_ | refine yi (ab.el .n e) (Zar hx) ?_ | (apply zV;(iterate 8 exact rfl);exact (Zo (f := ab.el .n) hlen);exact (rfl);exact (Zo (f := ab.el .n) hlen);exact rfl;exact rfl) | refine yt1 ?_ | refine yt0 ?_ | refine yt ?_ ?_ | refine yo ?_ | apply zn | refine yc ?_ | exact rfl | intro _)
  ·rename_i h
   have h2 : atE k w e = true := h
   refine ih (es ++ [ab.el .n e]) ?_ _ _ ?_
   ·rw [hinv, Zn8 hx, h2]; simp
   ·rw [aM (by omega)]; rfl
  ·rename_i h
   have h2 : atE k w e = false := h
   refine ih es ?_ _ _ ?_
   ·rw [hinv, Zn8 hx, h2]; simp
   ·rw [aM (by omega)]; rfl
 ·rintro es hc _ hinv
  rw [Y72] at hinv
  subst hinv
  repeat' (first | refine yy ?_ | refine ym ?_ | (apply ze;(iterate 5 exact rfl)) | (apply zf;(iterate 5 exact rfl)) | refine yp ?_ | refine yt1 ?_ | refine yt0 ?_ | refine yt ?_ ?_ | refine yo ?_ | apply zn | refine yc ?_ | exact rfl | intro _)
  exact fin rfl (by simp only [Zk0])
theorem Zpd {f : Int -> Int -> Int} {a b : List Int} {i : Nat} {x y : Int} (hx : a[i]? = some x) (hy : b[i]? = some y) : (List.zipWith f a b)[i]? = some (f x y) := by
 rw [List.getElem?_zipWith, hx, hy]
theorem p9 (a b : List Int) (hl : a.length <= 4194304) (hb : a.length <= b.length) : ni [.x (ints .n a), .x (ints .n b)] = some ⟨[.one (ints .y (List.zipWith bI a b))], []⟩ := by
 (refine Z6j rfl ?_; show Ev wO.code _ _ _)
 repeat' (first | refine yt1 ?_ | refine yt0 ?_ | refine yt ?_ ?_ | refine yo ?_ | apply zn | refine yc ?_ | intro _)
 refine bq iT a (fun i (es : List T) => [(0, .x (ints .n a)), (1, .x (ints .n b)), (5, .own ⟨0, 0, 0⟩ (.l .y 1 es)), (6, .x (iT i))]) (fun i es => es = ((List.zipWith bI a b).take i).map iT) [] rfl rfl ?_ ?_
 ·rintro i es x hx hlt hc _ hinv ih
  have hy := Y34 (show i < b.length by omega)
  generalize b[i]'(by omega) = y at hy
  have dY : es.length + [iT (bI x y)].length < aS := by
   show es.length + 1 < aS
   rw [hinv, Y45, Y48]; unfold aS; omega
  repeat' (first | refine yi (iT x) (Zar hx) ?_ | refine yi (iT y) (Zar hy) ?_ | refine yk lD (zN x y) ?_ | (apply zv;(iterate 7 exact rfl);exact (dY);exact (rfl);exact rfl;exact rfl) | refine yt1 ?_ | refine yt0 ?_ | refine yt ?_ ?_ | refine yo ?_ | apply zn | refine yc ?_ | intro _)
  refine ih (es ++ [iT (bI x y)]) ?_ _ _ ?_
  ·rw [hinv, Zat (Zpd hx hy)]
  ·rw [aM (by omega)]; rfl
 ·rintro es hc _ hinv
  rw [Y73 (by rw [List.length_zipWith]; omega)] at hinv
  subst hinv
  repeat' (first | refine yt1 ?_ | refine yt0 ?_ | refine yt ?_ ?_ | refine yo ?_ | apply zn | refine yc ?_ | intro _)
  exact fin rfl (by simp only [Zk0])
set_option maxHeartbeats 2000000 in
theorem qa (a b : ag) (ha : SkR a) (hb : SkR b) : nj [.st (a.cs .n), .st (b.cs .n)] = some ⟨[.st ((bH a b).cs .y)], []⟩ := by
 obtain ⟨ac, az, an, ax, ah, ar, aw⟩ := a
 obtain ⟨bc, bs, bn, bx, bh, br, bw⟩ := b
 obtain ⟨_, _, _, _, ⟨ha5, _⟩, ⟨ha6, _⟩, ha7, ha8⟩ := ha
 obtain ⟨_, _, _, _, ⟨hb5, _⟩, ⟨hb6, _⟩, hb7, hb8⟩ := hb
 simp only at *
 match aw, bw, ha7, hb7 with
 | [p, q], [p', q'], _, _ =>
 have hp := (ha8 p (by simp)).1
 have hq := (ha8 q (by simp)).1
 have hp' := (hb8 p' (by simp)).1
 have hq' := (hb8 q' (by simp)).1
 have k0 : ([p, q].map (ints .n))[(0 : Int).toNat]? = some (ints .n p) := rfl
 have k1 : ([p, q].map (ints .n))[(1 : Int).toNat]? = some (ints .n q) := rfl
 have k0' : ([p', q'].map (ints .n))[(0 : Int).toNat]? = some (ints .n p') := rfl
 have k1' : ([p', q'].map (ints .n))[(1 : Int).toNat]? = some (ints .n q') := rfl
 (refine Z6j rfl ?_; show Ev wP.code _ _ _)
 repeat' (first | refine yk lD (zN _ _) ?_ | refine yk hD (kW _ _) ?_ | refine yk gr (kV _ _) ?_ | (apply zi (ints .n p);exact rfl;exact rfl;exact (by decide);exact (k0);exact rfl;exact rfl) | (apply zi (ints .n q);exact rfl;exact rfl;exact (by decide);exact (k1);exact rfl;exact rfl) | (apply zi (ints .n p');exact rfl;exact rfl;exact (by decide);exact (k0');exact rfl;exact rfl) | (apply zi (ints .n q');exact rfl;exact rfl;exact (by decide);exact (k1');exact rfl;exact rfl) | refine yk ku (p9 ah bh (by omega) (by omega)) ?_ | refine yk ku (p9 p p' (by omega) (by omega)) ?_ | refine yk ku (p9 q q' (by omega) (by omega)) ?_ | refine yt1 ?_ | refine yt0 ?_ | refine yt ?_ ?_ | refine yo ?_ | apply zn | refine yc ?_ | intro _)
 all_goals
  rename_i h1 h2
  simp only [beq_iff_eq, beq_eq_false_iff_ne, ne_eq] at h1 h2
  refine bq iT ar (fun i (es : List T) => [(2, .box ⟨0, 0, 0⟩ ((⟨ac, az, an, ax, ah, ar, [p, q]⟩ : ag).cs .n)), (3, .box ⟨0, 0, 0⟩ ((⟨bc, bs, bn, bx, bh, br, [p', q']⟩ : ag).cs .n)), (4, .box ⟨0, 0, 0⟩ [iT 0, iT 0, iT 0, iT 0, .l .y 1 [], .l .y 1 [], .l .y 1 []]), (5, .box ⟨0, 0, 0⟩ [iT (bI ac bc), iT (bI az bs), iT (if bc = 0 then an else if ac = 0 then bn else min an bn), iT (max ax bx), ints .y (List.zipWith bI ah bh), .l .y 1 es, .l .y 1 [ints .y (List.zipWith bI p p'), ints .y (List.zipWith bI q q')]]), (6, .x (iT i))]) (fun i es => es = ((List.zipWith max ar br).take i).map iT) [] rfl (by first | (rw [if_pos h2]; rfl) | (rw [if_neg h2, if_pos h1]; rfl) | (rw [if_neg h2, if_neg h1]; rfl)) ?_ ?_
  ·rintro i es x hx hlt _ _ hinv ih
   have hc : decide ((i : Int) < 8) = true := by simp; omega
   have hy := Y34 (show i < br.length by omega)
   generalize br[i]'(by omega) = y at hy
   have dY : es.length + [iT (max x y)].length < aS := by
    show es.length + 1 < aS
    rw [hinv, Y45, Y48]; unfold aS; omega
   repeat' (first | refine yi (iT x) (Zar hx) ?_ | refine yi (iT y) (Zar hy) ?_ | refine yk gr (kV x y) ?_ | (apply zv;(iterate 7 exact rfl);exact (dY);exact (rfl);exact rfl;exact rfl) | refine yt1 ?_ | refine yt0 ?_ | refine yt ?_ ?_ | refine yo ?_ | apply zn | refine yc ?_ | intro _)
   refine ih (es ++ [iT (max x y)]) ?_ _ _ ?_
   ·rw [hinv, Zat (Zpd hx hy)]
   ·rw [aM (by omega)]; rfl
  ·rintro es _ _ hinv
   have hc : decide ((ar.length : Int) < 8) = false := by rw [ha6]; rfl
   rw [Y73 (by rw [List.length_zipWith]; omega)] at hinv
   subst hinv
   repeat' (first | refine yt1 ?_ | refine yt0 ?_ | refine yt ?_ ?_ | refine yo ?_ | apply zn | refine yc ?_ | intro _)
   refine fin rfl ?_
   try simp only [Zk0]
   try rfl
end Go.Wr
namespace Go.Wr
set_option maxRecDepth 20000
def fw {α : Type} (f : α -> α -> α) (a b : List α) (i : Nat) : List α := List.zipWith f (a.take i) (b.take i) ++ a.drop i
section
variable {α : Type} {f : α -> α -> α} {a b : List α} {i : Nat} {x y : α}
theorem iU : fw f a b 0 = a := by simp [fw]
theorem Zpb (ha : i <= a.length) (hb : i <= b.length) : (List.zipWith f (a.take i) (b.take i)).length = i := by rw [List.length_zipWith, Y48, Y48]; omega
theorem Zp9 (hx : a[i]? = some x) (hb : i < b.length) : (fw f a b i)[i]? = some x := by
 have ha := (Y36.1 hx).1
 rw [fw, Y30 (by rw [Zpb (by omega) (by omega)]; omega), Zpb (by omega) (by omega), Y33]
 simpa using hx
theorem Zpc (hx : a[i]? = some x) (hy : b[i]? = some y) : (fw f a b i).set i (f x y) = fw f a b (i + 1) := by
 obtain ⟨ha, rfl⟩ := Y36.1 hx
 obtain ⟨hb, rfl⟩ := Y36.1 hy
 have h2 : List.zipWith f (a.take (i + 1)) (b.take (i + 1)) = List.zipWith f (a.take i) (b.take i) ++ [f a[i] b[i]] := by
  rw [Y70, Y70, hx, hy, List.zipWith_append (by rw [Y48, Y48]; omega)]
  rfl
 rw [fw, List.set_append_right _ _ (by rw [Zpb (by omega) (by omega)]; omega), Zpb (by omega) (by omega), Nat.sub_self, List.drop_eq_getElem_cons ha, List.set_cons_zero, fw, h2, Y21]
 rfl
theorem Zpa (h : a.length = b.length) : fw f a b b.length = List.zipWith f a b := by rw [fw, Y73 (by omega), Y73 (by omega), List.drop_eq_nil_of_le (by omega), Y22]
theorem Zpg {l : List α} (h : l[i]? = some x) : l.set i x = l := by
 obtain ⟨_, rfl⟩ := Y36.1 h
 exact List.set_getElem_self ..
theorem Zod {l : List α} (h : i < l.length) : (l.set i x)[i]? = some x := by rw [Y39 h]
end
theorem Zoi {x : ag} (h : SkR x) : x.ae <= 100 := by
 obtain ⟨_, _, _, _, ⟨h5, _⟩, ⟨h6, _⟩, h7, h8⟩ := h
 match hx : x.Rows, h7 with
 | [p, q], _ =>
 have hp := (h8 p (by rw [hx]; simp)).1
 have hq := (h8 q (by rw [hx]; simp)).1
 simp [ag.ae, aF, hx, h5, h6, hp, hq]
theorem Znv (a b : Int) : (if b > a then b else a) = max a b := by split <;> omega
theorem Znx {a b : ag} (ha : SkR a) (hb : SkR b) (h : ((a.Count == 0) || (decide (b.Count > 0) && decide (b.Min < a.Min))) = true) : (bH a b).Min = b.Min := by
 simp only [Y14, beq_iff_eq, Y2, decide_eq_true_eq] at h
 have h1 := ha.mn; have h2 := hb.mn; have h3 := ha.zero; have h4 := hb.zero; have := hb.cnt
 simp only [bH]
 split
 ·omega
 ·split <;> omega
theorem Znw {a b : ag} (ha : SkR a) (hb : SkR b) (h : ((a.Count == 0) || (decide (b.Count > 0) && decide (b.Min < a.Min))) = false) : (bH a b).Min = a.Min := by
 simp only [Bool.or_eq_false_iff, beq_eq_false_iff_ne, Bool.and_eq_false_iff, decide_eq_false_iff_not] at h
 have := hb.cnt
 simp only [bH]
 split
 ·rfl
 ·split
  ·exact absurd ‹_› h.1
  ·omega
set_option maxHeartbeats 2000000 in
theorem Hg (a b : ag) (ha : SkR a) (hb : SkR b) : tC [.st (a.cs .n), .st (b.cs .n)] = some ⟨[.st ((bH a b).cs .y), .one (.b true)], []⟩ := by
 have hla := Zoi ha
 have hlb := Zoi hb
 have hb5 := hb.jj.1
 have hb6 := hb.kC.1
 have hb7 := hb.rows.1
 have hoa := (Zok a).2 ha
 have hob := (Zok b).2 hb
 have hok : (!a.ok || !b.ok) = false := by rw [hoa, hob]; rfl
 have hc : 0 <= b.Count /\ b.Count <= 1000000000 := hb.cnt
 have hmx : (bH a b).Max = if b.Max > a.Max then b.Max else a.Max := (Znv _ _).symm
 (refine Z6j rfl ?_; show Ev tB.code _ _ _)
 repeat' (first | refine yy ?_ | refine ym ?_ | (apply ze;(iterate 5 exact rfl)) | (apply zf;(iterate 5 exact rfl)) | refine yp ?_ | refine yk kb (o5 a (by omega)) ?_ | refine yk kb (o5 b (by omega)) ?_ | refine yk ke (p7 a (by omega)) ?_ | refine yk ju (p6 _ _) ?_ | refine yt1 ?_ | refine yt0 ?_ | refine yt ?_ ?_ | refine yo ?_ | apply zn | refine yc ?_ | exact rfl | intro _)
 all_goals
  rename_i hm
  refine bq iT b.aW (fun i (hs : List Int) => [(3, .box ⟨0, 0, 0⟩ (b.cs .n)), (4, .box ⟨0, 0, 0⟩ [iT 0, iT 0, iT 0, iT 0, .l .y 1 [], .l .y 1 [], .l .y 1 []]), (6, .box ⟨0, 0, 0⟩ [iT (bI a.Count b.Count), iT (bI a.Sum b.Sum), iT (bH a b).Min, iT (bH a b).Max, .l .y 1 (hs.map iT), .l .y 1 (a.aT.map iT), .l .y 1 (a.Rows.map (ints .y))]), (63, .x (ints .n b.aW)), (64, .x (iT (b.aW.map iT).length)), (65, .x (iT i))]) (fun i hs => hs = fw bI a.aW b.aW i) a.aW iU.symm (by first | (rw [hmx, Znx ha hb hm]; rfl) | (rw [hmx, Znw ha hb hm]; rfl)) ?_ ?_
  ·rintro i hs y hy hlt hc2 _ hinv ih
   have hx := Y34 (show i < a.aW.length by rw [ha.jj.1]; rw [hb.jj.1] at hlt; omega)
   generalize a.aW[i]'_ = x at hx
   have hg : hs[i]? = some x := hinv ▸ Zp9 hx hlt
   repeat' (first | refine yy ?_ | refine ym ?_ | (apply ze;(iterate 5 exact rfl)) | (apply zf;(iterate 5 exact rfl)) | refine yp ?_ | refine yi (iT y) (Zar hy) ?_ | refine yx (Zcs (Y36.1 hg).1) ?_ | (apply zl (iT x);exact rfl;exact rfl;exact (by simp [T.nav, T.kid, hg]);(iterate 3 exact rfl)) | refine yk ju (p6 x y) ?_ | (apply zS (iT x) (.a [iT (bI a.Count b.Count), iT (bI a.Sum b.Sum), iT (bH a b).Min, iT (bH a b).Max, .l .y 1 ((hs.set i (bI x y)).map iT), .l .y 1 (a.aT.map iT), .l .y 1 (a.Rows.map (ints .y))]);(iterate 4 exact rfl);exact (by simp [T.nav, T.kid, hg]);exact (by simp [T.cb, Ob.own, hg]);exact rfl;exact (by simp [T.put, T.kid, T.aZ, hg, List.map_set, T.bO, T.cells, bC]);(iterate 3 exact rfl)) | refine yt1 ?_ | refine yt0 ?_ | refine yt ?_ ?_ | refine yo ?_ | apply zn | refine yc ?_ | exact rfl | intro _)
   refine ih (hs.set i (bI x y)) ?_ _ _ ?_
   ·rw [hinv, Zpc hx hy]
   ·rw [aM (by omega)]; rfl
  ·rintro hs hc2 _ hinv
   rw [Zpa (by rw [ha.jj.1, hb.jj.1])] at hinv
   subst hinv
   repeat' (first | refine yy ?_ | refine ym ?_ | (apply ze;(iterate 5 exact rfl)) | (apply zf;(iterate 5 exact rfl)) | refine yp ?_ | refine yt1 ?_ | refine yt0 ?_ | refine yt ?_ ?_ | refine yo ?_ | apply zn | refine yc ?_ | exact rfl | intro _)
   refine bq iT b.aT (fun i (rs : List Int) => [(3, .box ⟨0, 0, 0⟩ (b.cs .n)), (4, .box ⟨0, 0, 0⟩ [iT 0, iT 0, iT 0, iT 0, .l .y 1 [], .l .y 1 [], .l .y 1 []]), (6, .box ⟨0, 0, 0⟩ [iT (bI a.Count b.Count), iT (bI a.Sum b.Sum), iT (bH a b).Min, iT (bH a b).Max, .l .y 1 ((List.zipWith bI a.aW b.aW).map iT), .l .y 1 (rs.map iT), .l .y 1 (a.Rows.map (ints .y))]), (83, .x (ints .n b.aT)), (84, .x (iT (b.aT.map iT).length)), (85, .x (iT i))]) (fun i rs => rs = fw max a.aT b.aT i) a.aT iU.symm rfl ?_ ?_
   ·rintro i rs y hy hlt hc3 _ hinv ih
    have hx := Y34 (show i < a.aT.length by rw [ha.kC.1]; rw [hb.kC.1] at hlt; omega)
    generalize a.aT[i]'_ = x at hx
    have hg : rs[i]? = some x := hinv ▸ Zp9 hx hlt
    repeat' (first | refine yy ?_ | refine ym ?_ | (apply ze;(iterate 5 exact rfl)) | (apply zf;(iterate 5 exact rfl)) | refine yp ?_ | refine yi (iT y) (Zar hy) ?_ | refine yx (Zcs (Y36.1 hg).1) ?_ | (apply zl (iT x);exact rfl;exact rfl;exact (by simp [T.nav, T.kid, hg]);(iterate 3 exact rfl)) | (apply zS (iT x) (.a [iT (bI a.Count b.Count), iT (bI a.Sum b.Sum), iT (bH a b).Min, iT (bH a b).Max, .l .y 1 ((List.zipWith bI a.aW b.aW).map iT), .l .y 1 ((rs.set i (if y > x then y else x)).map iT), .l .y 1 (a.Rows.map (ints .y))]);(iterate 4 exact rfl);exact (by simp [T.nav, T.kid, hg]);exact (by simp [T.cb, Ob.own, hg]);exact rfl;exact (by simp [T.put, T.kid, T.aZ, hg, List.map_set, T.bO, T.cells, bC]);(iterate 3 exact rfl)) | refine yt1 ?_ | refine yt0 ?_ | refine yt ?_ ?_ | refine yo ?_ | apply zn | refine yc ?_ | exact rfl | intro _)
    refine ih (rs.set i (if y > x then y else x)) ?_ _ _ ?_
    ·rw [hinv, Znv, Zpc hx hy]
    ·rw [aM (by omega)]; rfl
   ·rintro rs hc3 _ hinv
    rw [Zpa (by rw [ha.kC.1, hb.kC.1])] at hinv
    subst hinv
    repeat' (first | refine yy ?_ | refine ym ?_ | (apply ze;(iterate 5 exact rfl)) | (apply zf;(iterate 5 exact rfl)) | refine yp ?_ | refine yt1 ?_ | refine yt0 ?_ | refine yt ?_ ?_ | refine yo ?_ | apply zn | refine yc ?_ | exact rfl | intro _)
    refine bq (ints .n) b.Rows (fun k (ws : List (List Int)) => [(3, .box ⟨0, 0, 0⟩ (b.cs .n)), (4, .box ⟨0, 0, 0⟩ [iT 0, iT 0, iT 0, iT 0, .l .y 1 [], .l .y 1 [], .l .y 1 []]), (6, .box ⟨0, 0, 0⟩ [iT (bI a.Count b.Count), iT (bI a.Sum b.Sum), iT (bH a b).Min, iT (bH a b).Max, .l .y 1 ((List.zipWith bI a.aW b.aW).map iT), .l .y 1 ((List.zipWith max a.aT b.aT).map iT), .l .y 1 (ws.map (ints .y))]), (103, .x (dE.lss .n b.Rows)), (104, .x (iT (b.Rows.map (ints .n)).length)), (105, .x (iT k))]) (fun k ws => ws = fw (List.zipWith bI) a.Rows b.Rows k) a.Rows iU.symm rfl ?_ ?_
    ·rintro k ws q hy hlt hc4 _ hinv ih
     have hx := Y34 (show k < a.Rows.length by rw [ha.rows.1]; rw [hb.rows.1] at hlt; omega)
     generalize a.Rows[k]'_ = p at hx
     have hp := (ha.rows.2 p (Y62 hx)).1
     have hq := (hb.rows.2 q (Y62 hy)).1
     have hg : ws[k]? = some p := hinv ▸ Zp9 hx hlt
     have hwl := (Y36.1 hg).1
     repeat' (first | refine yy ?_ | refine ym ?_ | (apply ze;(iterate 5 exact rfl)) | (apply zf;(iterate 5 exact rfl)) | refine yp ?_ | refine yi (ints .n q) (Zar hy) ?_ | refine yt1 ?_ | refine yt0 ?_ | refine yt ?_ ?_ | refine yo ?_ | apply zn | refine yc ?_ | exact rfl | intro _)
     refine bq iT q (fun i (us : List Int) => [(3, .box ⟨0, 0, 0⟩ (b.cs .n)), (4, .box ⟨0, 0, 0⟩ [iT 0, iT 0, iT 0, iT 0, .l .y 1 [], .l .y 1 [], .l .y 1 []]), (6, .box ⟨0, 0, 0⟩ [iT (bI a.Count b.Count), iT (bI a.Sum b.Sum), iT (bH a b).Min, iT (bH a b).Max, .l .y 1 ((List.zipWith bI a.aW b.aW).map iT), .l .y 1 ((List.zipWith max a.aT b.aT).map iT), .l .y 1 ((ws.set k us).map (ints .y))]), (11, .x (iT k)), (12, .x (ints .n q)), (103, .x (dE.lss .n b.Rows)), (104, .x (iT (b.Rows.map (ints .n)).length)), (105, .x (iT k)), (110, .x (ints .n q)), (111, .x (iT (q.map iT).length)), (112, .x (iT i))]) (fun i us => us = fw bI p q i) p iU.symm (by rw [Zpg hg]; rfl) ?_ ?_
     ·rintro i us y hyy eW hc5 _ aV ih2
      have hxx := Y34 (show i < p.length by omega)
      generalize p[i]'_ = x at hxx
      have hg2 : us[i]? = some x := aV ▸ Zp9 hxx eW
      have hg3 : (ws.set k us)[k]? = some us := Zod hwl
      have kY : ws.set k (us.set i (bI x y)) = (ws.set k us).set k (us.set i (bI x y)) := by rw [List.set_set]
      generalize ws.set k us = vs at hg3 kY ⊢
      have n1 : (T.a [iT (bI a.Count b.Count), iT (bI a.Sum b.Sum), iT (bH a b).Min, iT (bH a b).Max, .l .y 1 ((List.zipWith bI a.aW b.aW).map iT), .l .y 1 ((List.zipWith max a.aT b.aT).map iT), .l .y 1 (vs.map (ints .y))]).nav ([6] ++ [0 + ((k : Nat) : Int).toNat]) = some (ints .y us) := by simp [T.nav, T.kid, hg3]
      have n2 : (T.a [iT (bI a.Count b.Count), iT (bI a.Sum b.Sum), iT (bH a b).Min, iT (bH a b).Max, .l .y 1 ((List.zipWith bI a.aW b.aW).map iT), .l .y 1 ((List.zipWith max a.aT b.aT).map iT), .l .y 1 (vs.map (ints .y))]).nav (([6] ++ [0 + ((k : Nat) : Int).toNat]) ++ [0 + ((i : Nat) : Int).toNat]) = some (iT x) := by simp [T.nav, T.kid, hg3, hg2]
      repeat' (first | refine yy ?_ | refine ym ?_ | (apply ze;(iterate 5 exact rfl)) | (apply zf;(iterate 5 exact rfl)) | refine yp ?_ | refine yi (iT y) (Zar hyy) ?_ | refine yx (Zcs (Y36.1 hg3).1) ?_ | refine yx (Zcs (Y36.1 hg2).1) ?_ | refine yl (ints .y us) (n1) ?_ | refine yl (iT x) (n2) ?_ | refine yk ju (p6 x y) ?_ | (apply zS (iT x) (.a [iT (bI a.Count b.Count), iT (bI a.Sum b.Sum), iT (bH a b).Min, iT (bH a b).Max, .l .y 1 ((List.zipWith bI a.aW b.aW).map iT), .l .y 1 ((List.zipWith max a.aT b.aT).map iT), .l .y 1 ((vs.set k (us.set i (bI x y))).map (ints .y))]);(iterate 4 exact rfl);exact (n2);exact (by simp [T.cb, Ob.own, hg3, hg2]);exact rfl;exact (by simp [T.put, T.kid, T.aZ, hg3, hg2, List.map_set, T.bO, T.cells, bC, ints]);(iterate 3 exact rfl)) | refine yt1 ?_ | refine yt0 ?_ | refine yt ?_ ?_ | refine yo ?_ | apply zn | refine yc ?_ | exact rfl | intro _)
      refine ih2 (us.set i (bI x y)) ?_ _ _ ?_
      ·rw [aV, Zpc hxx hyy]
      ·rw [aM (by omega), kY]; rfl
     ·rintro us hc5 _ aV
      rw [Zpa (by omega)] at aV
      subst aV
      repeat' (first | refine yy ?_ | refine ym ?_ | (apply ze;(iterate 5 exact rfl)) | (apply zf;(iterate 5 exact rfl)) | refine yp ?_ | refine yt1 ?_ | refine yt0 ?_ | refine yt ?_ ?_ | refine yo ?_ | apply zn | refine yc ?_ | exact rfl | intro _)
      refine ih (ws.set k (List.zipWith bI p q)) ?_ _ _ ?_
      ·rw [hinv, Zpc (f := List.zipWith bI) hx hy]
      ·rw [aM (by omega)]; rfl
    ·rintro ws hc4 _ hinv
     rw [Zpa (by rw [ha.rows.1, hb.rows.1])] at hinv
     subst hinv
     repeat' (first | refine yy ?_ | refine ym ?_ | (apply ze;(iterate 5 exact rfl)) | (apply zf;(iterate 5 exact rfl)) | refine yp ?_ | refine yt1 ?_ | refine yt0 ?_ | refine yt ?_ ?_ | refine yo ?_ | apply zn | refine yc ?_ | exact rfl | intro _)
     refine fin rfl ?_
     try simp only [Zk0]
     try rfl
end Go.Wr
namespace Go.Wr
set_option maxRecDepth 20000
theorem Zno (l : List Int) : (ints .y l).closed = true := Z2p (fun _ => rfl) l
theorem Zoj (x : ag) : ba (x.cs .y) = true := by
 have h := Z2p Zno x.Rows
 have h1 := Z2p (f := iT) (fun _ => rfl) x.aW
 have h2 := Z2p (f := iT) (fun _ => rfl) x.aT
 simp only [ag.cs, ba, T.closed, h, h1, h2, Y5]
theorem Zn0 {hs : List Hand} (x : ag) (ha : apart hs = true) : db hs ⟨[.st (x.cs .y)], []⟩ = true := by
 simp [db, ha, RV.closed, Zoj, RV.fi]
theorem Zn1 {hs : List Hand} (x : ag) (ha : apart hs = true) : db hs ⟨[.st (x.cs .y), .one (.b true)], []⟩ = true := by
 simp [db, ha, RV.closed, Zoj, RV.fi, T.closed, T.loose]
theorem Zop {α : Type} {f : α -> T} {e : α} {l : List α} : sub ((e :: l).map f) 1 (((e :: l).map f).length - 1) = l.map f := by
 unfold sub; rw [Y50, List.drop_succ_cons, List.drop_zero, Y73 (by simp)]
theorem Zoc : ∀ {s : List aa}, bQ s -> (s.length : Int) <= bS s
 | [], _ => by simp [bS]
 | x :: s, hs => by
  have h1 := Zoc hs.tail
  have h2 := hs.one
  unfold cj at h2
  unfold bS at h1 ⊢
  rw [Y50, Y69, Y42]
  omega
theorem Zob {s : List aa} (hs : bQ s) : s.length <= 10000 := by
 have h1 := Zoc hs
 have h2 := Zoq (lo := 0) (m := 9999) hs (fun x hx => by have := hs.span hx; unfold cj at this; omega) (by omega)
 omega
theorem qn {e : ab} (h : e.ok = true) : e.ae <= 10100 := by
 have h1 := Zob (ek h)
 have h2 := Zoi ((Zok _).1 (kD h))
 unfold ab.ae; omega
theorem Hh (e : ab) (t : List ab) (hl : aF ab.ae (e :: t) <= 4000000) (hok : ∀ x ∈ e :: t, x.ok = true) : tG [.x (ab.ls .n (e :: t))] = some ⟨[.st ((⟨e.Key, e.cJ, cz (e :: t), qb (e :: t)⟩ : ab).cs .y)], []⟩ := by
 have hle := Z1t ab.ae (e :: t)
 rw [Y42] at hle
 have heb := qn (hok e Y57)
 have hes := kD (hok e Y57)
 have hb : ∀ x ∈ e :: t, ∀ y ∈ x.Ids, HiR y := fun x hx => Ziu (nr (hok x hx))
 have LK : 1 <= ((e :: t).map (ab.el .n)).length /\ ((e :: t).map (ab.el .n)).length <= ((e :: t).map (ab.el .n)).length := ⟨by simp, Nat.le_refl _⟩
 (refine Z6j rfl ?_; show Ev tF.code _ _ _)
 repeat' (first | refine yj (ab.el .n e) (Int.le_refl _) (rfl) ?_ | refine yk ri (He e (by omega)) ?_ | (apply zu;exact rfl;exact rfl;exact Z1k (m := 1) rfl rfl;exact LK;exact rfl;exact Zop;exact rfl;exact rfl) | refine yt1 ?_ | refine yt0 ?_ | refine yt ?_ ?_ | refine yo ?_ | apply zn | refine yc ?_ | intro _)
 refine bq (ab.el .n) t (fun i (s : ag) => [(0, .x (ab.ls .n (e :: t))), (2, .box ⟨0, 0, 0⟩ [iT 0, iT 0, .l .y 2 [], iT 0, iT 0, iT 0, iT 0, .l .y 1 [], .l .y 1 [], .l .y 1 []]), (3, .box ⟨0, 0, 0⟩ [iT e.Key, iT e.cJ, aa.ls .y e.Ids, iT s.Count, iT s.Sum, iT s.Min, iT s.Max, ints .y s.aW, ints .y s.aT, dE.lss .y s.Rows]), (11, .x (ab.ls .n t)), (12, .x (iT (t.map (ab.el .n)).length)), (13, .x (iT i))]) (fun i s => s = (t.take i).foldl (fun s e => bH s e.aj) e.aj) e.aj rfl rfl ?_ ?_
 ·rintro i s x hx hlt hc _ hinv ih
  have hs : s.ok = true := hinv ▸ Znb hes fun y hy => hok y (Y56 _ (Y63 hy))
  have hxs := kD (hok x (Y56 _ (Y62 hx)))
  repeat' (first | refine yi (ab.el .n x) (Zar hx) ?_ | refine yw rh (Hg s x.aj ((Zok _).1 hs) ((Zok _).1 hxs)) (Zn1 _ rfl) ?_ | refine yt1 ?_ | refine yt0 ?_ | refine yt ?_ ?_ | refine yo ?_ | apply zn | refine yc ?_ | intro _)
  refine ih (bH s x.aj) ?_ _ _ ?_
  ·rw [hinv, Z5y hx]
  ·rw [aM (by omega)]; rfl
 ·rintro s hc _ hinv
  rw [Y72] at hinv
  have hs : s = qb (e :: t) := hinv
  subst hs
  repeat' (first | refine yk kc (o8 (e :: t) hl hb) ?_ | refine yt1 ?_ | refine yt0 ?_ | refine yt ?_ ?_ | refine yo ?_ | apply zn | refine yc ?_ | intro _)
  refine fin rfl ?_
  simp only [Zk0, fzl, Zoo]
  try rfl
def nT (l : List ab) : List RV := match l with
 | [] => [.st (ji.cs .y), .one (.l .y 2 [])]
 | e :: t => [.st ((qb (e :: t)).cs .y), .one (aa.ls .y (cz (e :: t)))]
theorem nU : mO [.x (ab.ls .n [])] = some ⟨nT [], []⟩ := by
 have h3 : (((([] : List ab).map (ab.el .n)).length : Int) == 0) = true := rfl
 (refine Z6j rfl ?_; show Ev oq.code _ _ _)
 repeat' (first | refine yk pG (B9) ?_ | refine yt1 ?_ | refine yt0 ?_ | refine yt ?_ ?_ | refine yo ?_ | apply zn | refine yc ?_ | intro _)
 exact fin rfl rfl
theorem qo (e : ab) (t : List ab) (hl : aF ab.ae (e :: t) <= 4000000) (hok : ∀ x ∈ e :: t, x.ok = true) : mO [.x (ab.ls .n (e :: t))] = some ⟨nT (e :: t), []⟩ := by
 have h3 : ((((e :: t).map (ab.el .n)).length : Int) == 0) = false := by simp; omega
 (refine Z6j rfl ?_; show Ev oq.code _ _ _)
 repeat' (first | refine yk rj (Hh e t hl hok) ?_ | refine yt1 ?_ | refine yt0 ?_ | refine yt ?_ ?_ | refine yo ?_ | apply zn | refine yc ?_ | intro _)
 refine fin rfl ?_
 try simp only [Zk0]
 try rfl
end Go.Wr
namespace Go.Wr
set_option maxRecDepth 20000
theorem Zmx {α : Type} {f : α -> Nat} (p : α -> Bool) : ∀ l : List α, aF f (l.filter p) <= aF f l
 | [] => Nat.le_refl _
 | x :: l => by
  have h := Zmx (f := f) p l
  unfold aF at h ⊢
  rw [List.filter_cons]
  split <;> simp only [Y50, Y69, Y42] <;> omega
theorem Zmy {α : Type} {f : α -> Nat} {m : Nat} : ∀ {l : List α}, (∀ x ∈ l, f x <= m) -> aF f l <= (m + 1) * l.length
 | [], _ => by simp [aF]
 | x :: l, h => by
  have h1 := Zmy (f := f) (m := m) (l := l) fun y hy => h y (Y56 _ hy)
  have h2 := h x Y57
  unfold aF at h1 ⊢
  simp only [Y50, Y69, Y42]
  have : (m + 1) * (l.length + 1) = (m + 1) * l.length + (m + 1) := by rw [Nat.mul_add, Nat.mul_one]
  omega
theorem Znh {h : ao} {k w : Int} (hh : c4 h = true) : dj h k w = (bl h).filter (atE k w) := if_pos hh
theorem Zng {h : ao} {k w : Int} (hh : c4 h = false) : dj h k w = [] := if_neg (by rw [hh]; simp)
theorem zO (h : ao) (k w : Int) (hl : h.ae <= 4000000) : mR [.st (h.cs .n), .x (iT k), .x (iT w)] = some ⟨nT (dj h k w), []⟩ := by
 have hab := Zh hl
 have hal := Z1t ab.ae (bl h)
 have dY : ((dx h).map (ab.el .n)).length + ((ct h).map (ab.el .n)).length < aS := by
  rw [Y45, Y45]; unfold aS
  have e : (bl h).length = (dx h).length + (ct h).length := by rw [bl, Y41]
  omega
 have yO : (dx h).map (ab.el .n) ++ (ct h).map (ab.el .n) = (bl h).map (ab.el .n) := by rw [bl, Y49]
 have hho := B8 h hl
 rw [Z82] at hho
 cases hh : c4 h with
 | false =>
  rw [hh] at hho
  have h1 : (!false) = true := rfl
  rw [Zng hh]
  (refine Z6j rfl ?_; show Ev mQ.code _ _ _)
  repeat' (first | refine yk lZ (hho) ?_ | refine yk pG (B9) ?_ | refine yt1 ?_ | refine yt0 ?_ | refine yt ?_ ?_ | refine yo ?_ | apply zn | refine yc ?_ | intro _)
  exact fin rfl rfl
 | true =>
  rw [hh] at hho
  have h1 : (!true) = false := rfl
  have hof := p8 (bl h) k w (by omega)
  have hfb := Y77 (Zmx (f := ab.ae) (atE k w) (bl h)) hab
  have hok : ∀ x ∈ (bl h).filter (atE k w), x.ok = true := fun x hx => Znj hh x (Y93.1 hx).1
  have BI : mP [.x (.l .n 10 (fzs ((dx h).map (ab.el .n) ++ (ct h).map (ab.el .n)))), .x (iT k), .x (iT w)] = some ⟨[.one (.l .y 10 (((bl h).filter (atE k w)).map (ab.el .n)))], []⟩ := by
   rw [yO, Z6r]; exact hof
  rw [Znh hh]
  generalize (bl h).filter (atE k w) = l at BI hfb hok ⊢
  rcases l with _ | ⟨e, t⟩
  ·(refine Z6j rfl ?_; show Ev mQ.code _ _ _)
   repeat' (first | refine yk lZ (hho) ?_ | refine yk kP (o6 h hl) ?_ | refine yk j9 (o7 h hl) ?_ | (apply zao;(iterate 4 exact rfl);exact (Z6r _);exact (dY);(iterate 3 exact rfl)) | refine yk jw (BI) ?_ | refine yv jv (nU) ?_ | refine yt1 ?_ | refine yt0 ?_ | refine yt ?_ ?_ | refine yo ?_ | apply zn | refine yc ?_ | intro _)
   exact fin rfl rfl
  ·(refine Z6j rfl ?_; show Ev mQ.code _ _ _)
   repeat' (first | refine yk lZ (hho) ?_ | refine yk kP (o6 h hl) ?_ | refine yk j9 (o7 h hl) ?_ | (apply zao;(iterate 4 exact rfl);exact (Z6r _);exact (dY);(iterate 3 exact rfl)) | refine yk jw (BI) ?_ | (apply zk jv;exact rfl;simp only [Z6r];exact rfl;exact (qo e t hfb hok);exact rfl;exact rfl;exact rfl) | refine yt1 ?_ | refine yt0 ?_ | refine yt ?_ ?_ | refine yo ?_ | apply zn | refine yc ?_ | intro _)
   refine fin rfl ?_
   try rfl
theorem Znq {l : List ab} {e : ab} : cY (l ++ [e]) [] = du (cY l []) e.Ids := by simp [cY]
theorem Zp0 {l : List ab} {e : ab} : dJ (l ++ [e]) = bH (dJ l) e.aj := by simp [dJ]
theorem Znp {l : List ab} (h : ∀ e ∈ l, e.ok = true) : bQ (cY l []) := (Z8z Ziw h).1
theorem Zoa {s : List aa} (h : bQ s) : ∀ y ∈ s, HiR y := fun y hy => (h.span hy).hi
theorem Hj (h : ao) (k w : Int) (hl : h.ae <= 4000000) : wR [.st (h.cs .n), .x (iT k), .x (iT w)] = some ⟨[.st ((dJ (dj h k w)).cs .y), .one (aa.ls .y (cY (dj h k w) []))], []⟩ := by
 have hab := Zh hl
 have hal := Z1t ab.ae (bl h)
 have hho := p5 h hl
 cases hh : c4 h with
 | false =>
  rw [hh] at hho
  have h1 : (!false) = true := rfl
  rw [Zng hh]
  (refine Z6j rfl ?_; show Ev oR.code _ _ _)
  repeat' (first | refine yy ?_ | refine ym ?_ | (apply ze;(iterate 5 exact rfl)) | (apply zf;(iterate 5 exact rfl)) | refine yp ?_ | refine yk iR (hho) ?_ | refine yk im (jO) ?_ | refine yt1 ?_ | refine yt0 ?_ | refine yt ?_ ?_ | refine yo ?_ | apply zn | refine yc ?_ | exact rfl | intro _)
  exact fin rfl rfl
 | true =>
  rw [hh] at hho
  have h1 : (!true) = false := rfl
  have hok := Znj hh
  rw [Znh hh]
  (refine Z6j rfl ?_; show Ev oR.code _ _ _)
  repeat' (first | refine yy ?_ | refine ym ?_ | (apply ze;(iterate 5 exact rfl)) | (apply zf;(iterate 5 exact rfl)) | refine yp ?_ | refine yk iR (hho) ?_ | refine yk im (jO) ?_ | refine yk kn (pX h hl) ?_ | refine yt1 ?_ | refine yt0 ?_ | refine yt ?_ ?_ | refine yo ?_ | apply zn | refine yc ?_ | exact rfl | intro _)
  refine bq (ab.el .n) (bl h) (fun i (p : ag × List aa) => [(1, .x (iT k)), (2, .x (iT w)), (6, .box ⟨0, 0, 0⟩ [iT 0, iT 0, iT 0, iT 0, .l .y 1 [], .l .y 1 [], .l .y 1 []]), (8, .box ⟨0, 0, 0⟩ [iT p.1.Count, iT p.1.Sum, iT p.1.Min, iT p.1.Max, ints .y p.1.aW, ints .y p.1.aT, dE.lss .y p.1.Rows]), (9, .own ⟨0, 0, 0⟩ (aa.ls .y p.2)), (10, .own ⟨0, 0, 0⟩ (.l .y 10 ((bl h).map (ab.el .n)))), (11, .x (iT i))]) (fun i p => p = (dJ (((bl h).take i).filter (atE k w)), cY (((bl h).take i).filter (atE k w)) [])) (ji, []) rfl rfl ?_ ?_
  ·rintro i ⟨s, ids⟩ e hx hlt hc _ hinv ih
   have hpo : ∀ x ∈ ((bl h).take i).filter (atE k w), x.ok = true := fun x hx => hok x (Y63 (Y93.1 hx).1)
   have he := hok e (Y62 hx)
   have hso : SkR s := (Zok _).1 ((Prod.mk.inj hinv).1 ▸ Zoy hpo)
   have hir : bQ ids := (Prod.mk.inj hinv).2 ▸ Znp hpo
   have her := ek he
   have hil := Zob hir
   have hel := Zob her
   repeat' (first | refine yy ?_ | refine ym ?_ | (apply ze;(iterate 5 exact rfl)) | (apply zf;(iterate 5 exact rfl)) | refine yp ?_ | refine yx (Zcs hlt) ?_ | refine yl (ab.el .n e) (Zbj (Zar hx)) ?_ | refine yL (ab.cs .n e) (Zbj (Zar hx)) ?_ | refine yw kv (qa s e.aj hso ((Zok _).1 (kD he))) (Zn0 _ rfl) ?_ | refine yw kq (pZ ids e.Ids (by omega) (Zoa hir) (Zoa her)) (Z28 rfl (Z2p (fun _ => rfl) _)) ?_ | refine yt1 ?_ | refine yt0 ?_ | refine yt ?_ ?_ | refine yo ?_ | apply zn | refine yc ?_ | exact rfl | intro _)
   ·rename_i h5
    have h6 : atE k w e = true := h5
    refine ih (bH s e.aj, du ids e.Ids) ?_ _ _ ?_
    ·rw [Zn8 hx, h6, if_pos rfl, Zp0, Znq, <- (Prod.mk.inj hinv).1, <- (Prod.mk.inj hinv).2]
    ·rw [aM (by omega)]; rfl
   ·rename_i h5
    have h6 : atE k w e = false := h5
    refine ih (s, ids) ?_ _ _ ?_
    ·rw [Zn8 hx, h6, hinv]; simp
    ·rw [aM (by omega)]; rfl
  ·rintro ⟨s, ids⟩ hc _ hinv
   rw [Y72] at hinv
   obtain ⟨rfl, rfl⟩ := Prod.mk.inj hinv
   repeat' (first | refine yy ?_ | refine ym ?_ | (apply ze;(iterate 5 exact rfl)) | (apply zf;(iterate 5 exact rfl)) | refine yp ?_ | refine yt1 ?_ | refine yt0 ?_ | refine yt ?_ ?_ | refine yo ?_ | apply zn | refine yc ?_ | exact rfl | intro _)
   refine fin rfl ?_
   try simp only [Zk0]
   try rfl
end Go.Wr
namespace Go.Wr
set_option maxRecDepth 20000
theorem Zos {w : aG} (hw : dw w = true) {i : Nat} : ∀ e ∈ fg w i, e.ok = true := fun e he => by
 obtain ⟨h3, hhs, hag⟩ := Zp6 hw
 unfold fg at he
 split at he
 ·rename_i a s ha hs
  have hi := (Y36.1 ha).1
  obtain ⟨x, hx, rfl⟩ := Y60.1 he
  have := Zmv (hag i a ha).1 x (Y93.1 hx).1
  exact Zn6 (by omega) this.1 this.2
 ·cases he
theorem Zot {w : aG} (hw : dw w = true) (i : Nat) : (fg w i).length <= 60 := by
 obtain ⟨h3, hhs, hag⟩ := Zp6 hw
 unfold fg
 split
 ·rename_i a s ha hs
  rw [Y45]
  exact Y77 (List.length_filter_le _ _) (Zmw (hag i a ha).1).2.1
 ·simp
def cZ (w : aG) (i : Nat) : List ab := (List.range i).flatMap (fg w)
theorem Zow (w : aG) (i : Nat) : cZ w (i + 1) = cZ w i ++ fg w i := by
 unfold cZ; rw [List.range_succ, List.flatMap_append]; simp
theorem Zou {w : aG} (hw : dw w = true) : ∀ i, (cZ w i).length <= 60 * i
 | 0 => by simp [cZ]
 | i + 1 => by
  have h1 := Zou hw i
  have h2 := Zot hw i
  rw [Zow, Y41]; omega
theorem Zov {w : aG} (hw : dw w = true) {i : Nat} : ∀ e ∈ cZ w i, e.ok = true := fun e he => by
 obtain ⟨j, _, h2⟩ := Y58.1 he
 exact Zos hw e h2
def eC (w : aG) (i : Nat) (a : ak) (s : al) (j : Nat) : List ab := cZ w i ++ ((a.aX.take j).filter fun x => dg s.aJ x.Seq).map (iq i)
section
variable {w : aG} {i j : Nat} {a : ak} {s : al} {x : ap}
theorem Zo7 : eC w i a s 0 = cZ w i := by simp [eC]
theorem Zo6 (h : a.aX[j]? = some x) : eC w i a s (j + 1) = eC w i a s j ++ (if dg s.aJ x.Seq then [iq i x] else []) := by
 rw [eC, eC, Zn8 h, Y49, Y21]
 split <;> rfl
theorem Zo3 (h1 : w.bj[i]? = some a) (h2 : w.bJ.aO[i]? = some s) : eC w i a s a.aX.length = cZ w (i + 1) := by
 rw [eC, Y72, Zow, Zor h1 h2]
theorem Zo4 (hw : dw w = true) : (eC w i a s j).length <= 60 * i + j := by
 have := Zou hw i
 rw [eC, Y41, Y45]
 have := Zn7 (p := fun x : ap => dg s.aJ x.Seq) (l := a.aX) (i := j)
 omega
theorem Zo5 (hw : dw w = true) (hi : i <= 2) (ha : a.ok = true) : ∀ e ∈ eC w i a s j, e.ok = true := fun e he => by
 rcases Y52.1 he with h | h
 ·exact Zov hw e h
 ·obtain ⟨x, hx, rfl⟩ := Y60.1 h
  have := Zmv ha x (Y63 (Y93.1 hx).1)
  exact Zn6 hi this.1 this.2
end
theorem Znc {w : aG} {k n : Int} (hw : dw w = true) : eY w k n = (cZ w 3).filter (atE k n) := if_pos hw
theorem Zna {w : aG} {k n : Int} (hw : dw w = false) : eY w k n = [] := if_neg (by rw [hw]; simp)
theorem Hk (w : aG) (k n : Int) (hl : w.ae <= 4000000) : nk [.st (w.cs .n), .x (iT k), .x (iT n)] = some ⟨nT (eY w k n), []⟩ := by
 obtain ⟨hh, hal, hnl, hab⟩ := Zp7 hl
 have hwo := G7 w hl
 cases hw : dw w with
 | false =>
  rw [hw] at hwo
  have h1 : false = false := rfl
  have hof := p8 [] k n (by simp)
  rw [Zna hw]
  (refine Z6j rfl ?_; show Ev oU.code _ _ _)
  repeat' (first | refine yk oi (hwo) ?_ | refine yk jw (hof) ?_ | refine yv jv (nU) ?_ | refine yt1 ?_ | refine yt0 ?_ | refine yt ?_ ?_ | refine yo ?_ | apply zn | refine yc ?_ | intro _)
  exact fin rfl rfl
 | true =>
  rw [hw] at hwo
  have h1 : true = true := rfl
  obtain ⟨h3, hhs, hag⟩ := Zp6 hw
  obtain ⟨hs3, hr3, hr2, hso⟩ := Z83 hhs
  rw [Znc hw]
  (refine Z6j rfl ?_; show Ev oU.code _ _ _)
  repeat' (first | refine yk oi (hwo) ?_ | refine yt1 ?_ | refine yt0 ?_ | refine yt ?_ ?_ | refine yo ?_ | apply zn | refine yc ?_ | intro _)
  refine bq (ak.el .n) w.bj (fun i (es : List T) => [(1, .x (iT k)), (2, .x (iT n)), (3, .box ⟨0, 0, 0⟩ (w.cs .n)), (6, .box ⟨0, 0, 0⟩ [iT 0, iT 0, iT 0, iT 0, .l .y 1 [], .l .y 1 [], .l .y 1 []]), (8, .own ⟨0, 0, 0⟩ (.l .y 10 es)), (18, .x (ak.ls .n w.bj)), (19, .x (iT (w.bj.map (ak.el .n)).length)), (20, .x (iT i))]) (fun i es => es = (cZ w i).map (ab.el .y)) [] rfl rfl ?_ ?_
  ·rintro i es a hx hlt hc _ hinv ih
   have hxs := Y34 (show i < w.bJ.aO.length by omega)
   generalize w.bJ.aO[i]'_ = s at hxs
   have htl := Zib (Zia hh hxs)
   have nV := (hag i a hx).1
   have hin := Zmu (hab i a hx)
   have h60 := (Zmw nV).2.1
   repeat' (first | refine yi (ak.el .n a) (Zar hx) ?_ | refine yt1 ?_ | refine yt0 ?_ | refine yt ?_ ?_ | refine yo ?_ | apply zn | refine yc ?_ | intro _)
   refine bq (ap.el .n) a.aX (fun j (es : List T) => [(1, .x (iT k)), (2, .x (iT n)), (3, .box ⟨0, 0, 0⟩ (w.cs .n)), (6, .box ⟨0, 0, 0⟩ [iT 0, iT 0, iT 0, iT 0, .l .y 1 [], .l .y 1 [], .l .y 1 []]), (8, .own ⟨0, 0, 0⟩ (.l .y 10 es)), (9, .x (iT i)), (10, .box ⟨0, 0, 0⟩ (a.cs .n)), (18, .x (ak.ls .n w.bj)), (19, .x (iT (w.bj.map (ak.el .n)).length)), (20, .x (iT i)), (26, .x (ap.ls .n a.aX)), (27, .x (iT (a.aX.map (ap.el .n)).length)), (28, .x (iT j))]) (fun j es => es = (eC w i a s j).map (ab.el .y)) es (by rw [hinv, Zo7]) rfl ?_ ?_
   ·rintro j es x hy eW hc2 _ aV ih2
    have hxi := Zmv nV x (Y62 hy)
    have hbx := hin.2.2 j x hy
    have hid : 0 <= dk i x.Seq := by rw [Z88 (by omega) hxi.2]; omega
    have dY : es.length + 1 < aS := by
     have := Zo4 (i := i) (j := j) (a := a) (s := s) hw
     rw [aV, Y45]; unfold aS; omega
    repeat' (first | refine yi (ap.el .n x) (Zar hy) ?_ | refine yi (al.el .n s) (Zar hxs) ?_ | refine yk pA (B6 s.aJ x.Seq htl) ?_ | refine yk su (Hf i x hbx hxi.1 hid) ?_ | (apply zV;(iterate 8 exact rfl);exact (dY);exact (rfl);exact (dY);exact rfl;exact rfl) | refine yt1 ?_ | refine yt0 ?_ | refine yt ?_ ?_ | refine yo ?_ | apply zn | refine yc ?_ | intro _)
    ·rename_i h5
     refine ih2 (es ++ [ab.el .y (iq i x)]) ?_ _ _ ?_
     ·rw [aV, Zo6 hy, h5]; simp
     ·rw [aM (by omega)]; simp only [Zk1]; rfl
    ·rename_i h5
     refine ih2 es ?_ _ _ ?_
     ·rw [aV, Zo6 hy, h5]; simp
     ·rw [aM (by omega)]; rfl
   ·rintro es hc2 _ aV
    rw [Zo3 hx hxs] at aV
    repeat' (first | refine yt1 ?_ | refine yt0 ?_ | refine yt ?_ ?_ | refine yo ?_ | apply zn | refine yc ?_ | intro _)
    refine ih es aV _ _ ?_
    rw [aM (by omega)]; rfl
  ·rintro es hc _ hinv
   rw [h3] at hinv
   subst hinv
   have hol := Zou hw 3
   have hof := p8 (cZ w 3) k n (by omega)
   have hok : ∀ x ∈ (cZ w 3).filter (atE k n), x.ok = true := fun x hx => Zov hw x (Y93.1 hx).1
   have hfb : aF ab.ae ((cZ w 3).filter (atE k n)) <= 4000000 := by
    have h4 := Zmy (f := ab.ae) (m := 10100) fun x hx => qn (hok x hx)
    have h5 : ((cZ w 3).filter (atE k n)).length <= 180 := Y77 (List.length_filter_le _ _) (by omega)
    have h6 : (10100 + 1) * ((cZ w 3).filter (atE k n)).length <= 10101 * 180 := Nat.mul_le_mul_left _ h5
    omega
   generalize (cZ w 3).filter (atE k n) = l at hof hok hfb ⊢
   rcases l with _ | ⟨e, t⟩
   ·repeat' (first | (apply zk jw;exact rfl;simp only [List.map,fzl,Zoo];exact rfl;exact hof;exact rfl;exact rfl;exact rfl) | refine yv jv (nU) ?_ | refine yt1 ?_ | refine yt0 ?_ | refine yt ?_ ?_ | refine yo ?_ | apply zn | refine yc ?_ | intro _)
    exact fin rfl rfl
   ·repeat' (first | (apply zk jw;exact rfl;simp only [List.map,fzl,Zoo];exact rfl;exact hof;exact rfl;exact rfl;exact rfl) | (apply zk jv;exact rfl;simp only [Z6r];exact rfl;exact (qo e t hfb hok);exact rfl;exact rfl;exact rfl) | refine yt1 ?_ | refine yt0 ?_ | refine yt ?_ ?_ | refine yo ?_ | apply zn | refine yc ?_ | intro _)
    exact fin rfl rfl
theorem Hl (w : aG) (k n : Int) (hl : w.ae <= 4000000) : oX [.st (w.cs .n), .x (iT k), .x (iT n)] = some ⟨[.st ((dJ (eY w k n)).cs .y), .one (aa.ls .y (cY (eY w k n) []))], []⟩ := by
 obtain ⟨hh, hal, hnl, hab⟩ := Zp7 hl
 have hwo := G8 w hl
 cases hw : dw w with
 | false =>
  rw [hw] at hwo
  have h1 : (!false) = true := rfl
  rw [Zna hw]
  (refine Z6j rfl ?_; show Ev oW.code _ _ _)
  repeat' (first | refine yy ?_ | refine ym ?_ | (apply ze;(iterate 5 exact rfl)) | (apply zf;(iterate 5 exact rfl)) | refine yp ?_ | refine yk om (hwo) ?_ | refine yk im (jO) ?_ | refine yt1 ?_ | refine yt0 ?_ | refine yt ?_ ?_ | refine yo ?_ | apply zn | refine yc ?_ | exact rfl | intro _)
  exact fin rfl rfl
 | true =>
  rw [hw] at hwo
  have h1 : (!true) = false := rfl
  obtain ⟨h3, hhs, hag⟩ := Zp6 hw
  obtain ⟨hs3, hr3, hr2, hso⟩ := Z83 hhs
  rw [Znc hw]
  (refine Z6j rfl ?_; show Ev oW.code _ _ _)
  repeat' (first | refine yy ?_ | refine ym ?_ | (apply ze;(iterate 5 exact rfl)) | (apply zf;(iterate 5 exact rfl)) | refine yp ?_ | refine yk om (hwo) ?_ | refine yk im (jO) ?_ | refine yt1 ?_ | refine yt0 ?_ | refine yt ?_ ?_ | refine yo ?_ | apply zn | refine yc ?_ | exact rfl | intro _)
  refine bq (ak.el .n) w.bj (fun i (p : ag × List aa) => [(1, .x (iT k)), (2, .x (iT n)), (3, .box ⟨0, 0, 0⟩ (w.cs .n)), (6, .box ⟨0, 0, 0⟩ [iT 0, iT 0, iT 0, iT 0, .l .y 1 [], .l .y 1 [], .l .y 1 []]), (8, .box ⟨0, 0, 0⟩ [iT p.1.Count, iT p.1.Sum, iT p.1.Min, iT p.1.Max, ints .y p.1.aW, ints .y p.1.aT, dE.lss .y p.1.Rows]), (9, .own ⟨0, 0, 0⟩ (aa.ls .y p.2)), (10, .x (iT i))]) (fun i p => p = (dJ ((cZ w i).filter (atE k n)), cY ((cZ w i).filter (atE k n)) [])) (ji, []) rfl rfl ?_ ?_
  ·rintro i ⟨q, ids⟩ a hx hlt _ _ hinv ih
   have hc : decide ((i : Int) < 3) = true := by simp; omega
   have hxs := Y34 (show i < w.bJ.aO.length by omega)
   generalize w.bJ.aO[i]'_ = s at hxs
   have htl := Zib (Zia hh hxs)
   have nV := (hag i a hx).1
   have h60 := (Zmw nV).2.1
   repeat' (first | refine yy ?_ | refine ym ?_ | (apply ze;(iterate 5 exact rfl)) | (apply zf;(iterate 5 exact rfl)) | refine yp ?_ | refine yt1 ?_ | refine yt0 ?_ | refine yt ?_ ?_ | refine yo ?_ | apply zn | refine yc ?_ | exact rfl | intro _)
   refine bq (ap.el .n) a.aX (fun j (p : ag × List aa) => [(1, .x (iT k)), (2, .x (iT n)), (3, .box ⟨0, 0, 0⟩ (w.cs .n)), (6, .box ⟨0, 0, 0⟩ [iT 0, iT 0, iT 0, iT 0, .l .y 1 [], .l .y 1 [], .l .y 1 []]), (8, .box ⟨0, 0, 0⟩ [iT p.1.Count, iT p.1.Sum, iT p.1.Min, iT p.1.Max, ints .y p.1.aW, ints .y p.1.aT, dE.lss .y p.1.Rows]), (9, .own ⟨0, 0, 0⟩ (aa.ls .y p.2)), (10, .x (iT i)), (11, .x (iT j))]) (fun j p => p = (dJ ((eC w i a s j).filter (atE k n)), cY ((eC w i a s j).filter (atE k n)) [])) (q, ids) (by rw [hinv, Zo7]) rfl ?_ ?_
   ·rintro j ⟨q, ids⟩ x hy eW hc2 _ aV ih2
    obtain ⟨hq, hi⟩ := Prod.mk.inj aV
    have hpo : ∀ e ∈ (eC w i a s j).filter (atE k n), e.ok = true := fun e he => Zo5 hw (by omega) nV e (Y93.1 he).1
    have hqo : SkR q := (Zok _).1 (hq ▸ Zoy hpo)
    have hir : bQ ids := hi ▸ Znp hpo
    have hil := Zob hir
    have hxi := Zmv nV x (Y62 hy)
    have hxo : SkR x.aj := (Zok _).1 (by have := hxi.1; simp only [ap.ok, Y2] at this; exact this.2)
    have hid := Z88 (show i <= 2 by omega) hxi.2
    have Ku : HiR ⟨dk i x.Seq, dk i x.Seq⟩ := by rw [hid]; unfold HiR; simp only; omega
    repeat' (first | refine yy ?_ | refine ym ?_ | (apply ze;(iterate 5 exact rfl)) | (apply zf;(iterate 5 exact rfl)) | refine yp ?_ | refine yi (ak.el .n a) (Zar hx) ?_ | refine yi (ap.el .n x) (Zar hy) ?_ | refine yi (al.el .n s) (Zar hxs) ?_ | refine yk s4 (G9 s.aJ x.Seq htl) ?_ | refine yw kv (qa q x.aj hqo hxo) (Zn0 _ rfl) ?_ | refine yk s0 (Hc _ _) ?_ | refine yk s7 (Hd _) ?_ | refine yw kp (pY ids ⟨dk i x.Seq, dk i x.Seq⟩ (by omega) (Zoa hir) Ku) (Z28 rfl (Z2p (fun _ => rfl) _)) ?_ | refine yt1 ?_ | refine yt0 ?_ | refine yt ?_ ?_ | refine yo ?_ | apply zn | refine yc ?_ | exact rfl | intro _)
    ·rename_i h5
     rw [Y2] at h5
     have h6 : atE k n (iq i x) = true := h5.1
     refine ih2 (bH q x.aj, cT ids ⟨dk i x.Seq, dk i x.Seq⟩) ?_ _ _ ?_
     ·rw [Zo6 hy, h5.2, if_pos rfl, List.filter_append, List.filter_cons, h6, if_pos rfl, List.filter_nil, Zp0, Znq, <- hq, <- hi]; rfl
     ·rw [aM (by omega)]; rfl
    ·rename_i h5
     refine ih2 (q, ids) ?_ _ _ ?_
     ·have h7 : (eC w i a s (j + 1)).filter (atE k n) = (eC w i a s j).filter (atE k n) := by
       rw [Zo6 hy, List.filter_append]
       cases h8 : dg s.aJ x.Seq with
       | false => simp
       | true =>
        rw [h8, Y5] at h5
        have h6 : atE k n (iq i x) = false := h5
        simp [List.filter_cons, h6]
      rw [h7, aV]
     ·rw [aM (by omega)]; rfl
   ·rintro ⟨q, ids⟩ hc2 _ aV
    rw [Zo3 hx hxs] at aV
    repeat' (first | refine yy ?_ | refine ym ?_ | (apply ze;(iterate 5 exact rfl)) | (apply zf;(iterate 5 exact rfl)) | refine yp ?_ | refine yi (ak.el .n a) (Zar hx) ?_ | refine yt1 ?_ | refine yt0 ?_ | refine yt ?_ ?_ | refine yo ?_ | apply zn | refine yc ?_ | exact rfl | intro _)
    refine ih (q, ids) aV _ _ ?_
    rw [aM (by omega)]; rfl
  ·rintro ⟨q, ids⟩ _ _ hinv
   have hc : decide ((w.bj.length : Int) < 3) = false := by rw [h3]; rfl
   rw [h3] at hinv
   obtain ⟨rfl, rfl⟩ := Prod.mk.inj hinv
   repeat' (first | refine yy ?_ | refine ym ?_ | (apply ze;(iterate 5 exact rfl)) | (apply zf;(iterate 5 exact rfl)) | refine yp ?_ | refine yt1 ?_ | refine yt0 ?_ | refine yt ?_ ?_ | refine yo ?_ | apply zn | refine yc ?_ | exact rfl | intro _)
   refine fin rfl ?_
   try simp only [Zk0]
   try rfl
end Go.Wr
namespace Go.Wr
set_option maxRecDepth 20000
theorem Zol {s : ag} (h : s.ae <= 1048576) : (1 : Int) + (ag.wS s : Int) <= bL := by
 have := Zp5 s
 unfold bL; omega
theorem Zox {l : List ab} (h : ∀ e ∈ l, e.ok = true) : (dJ l).ae <= 100 := Zoi ((Zok _).1 (Zoy h))
theorem Zof {l : List ab} {e : ab} : eP (l ++ [e]) = eP l + cK e.Ids := by simp [eP]
theorem Hm (h : ao) (k w : Int) (hl : h.ae <= 4000000) : tI [.st (h.cs .n), .x (iT k), .x (iT w)] = some ⟨[.st ((dJ (dj h k w)).cs .y), .one (iT (eP (dj h k w)))], []⟩ := by
 have hhe := zO h k w hl
 have hR := Zne h k w
 have hok := @Znf h k w
 have hz := Zog hR
 generalize dj h k w = l at hhe hR hok hz
 rcases l with _ | ⟨e, t⟩
 ·have hs := yG [] (Nat.zero_le _)
  (refine Z6j rfl ?_; show Ev ot.code _ _ _)
  repeat' (first | refine yk lB (hhe) ?_ | refine yv nO (hs) ?_ | refine yo ?_ | apply zn | refine yc ?_ | intro _)
  refine fin rfl ?_
  try simp only [Zk0]
  try rfl
 ·have hr := (Z89 hR.ok).1
  have hs := yG (cz (e :: t)) (Y77 (Zob hr) (by decide))
  rw [hz] at hs
  rw [<- Zoz hok]
  (refine Z6j rfl ?_; show Ev ot.code _ _ _)
  repeat' (first | refine yk lB (hhe) ?_ | refine yv nO (hs) ?_ | refine yo ?_ | apply zn | refine yc ?_ | intro _)
  refine fin rfl ?_
  try simp only [Zk0]
  try rfl
theorem Hn (h : ao) (k w : Int) (hl : h.ae <= 4000000) : B2 [.st (h.cs .n), .x (iT k), .x (iT w)] = some ⟨[.st ((dJ (dj h k w)).cs .y), .one (iT (eP (dj h k w)))], []⟩ := by
 have hab := Zh hl
 have hal := Z1t ab.ae (bl h)
 have hho := p5 h hl
 cases hh : c4 h with
 | false =>
  rw [hh] at hho
  have h1 : (!false) = true := rfl
  rw [Zng hh]
  (refine Z6j rfl ?_; show Ev oP.code _ _ _)
  repeat' (first | refine yy ?_ | refine ym ?_ | (apply ze;(iterate 5 exact rfl)) | (apply zf;(iterate 5 exact rfl)) | refine yp ?_ | refine yk iR (hho) ?_ | refine yk im (jO) ?_ | refine yt1 ?_ | refine yt0 ?_ | refine yt ?_ ?_ | refine yo ?_ | apply zn | refine yc ?_ | exact rfl | intro _)
  exact fin rfl rfl
 | true =>
  rw [hh] at hho
  have h1 : (!true) = false := rfl
  have hok := Znj hh
  have hR := Zni hh
  rw [Znh hh]
  (refine Z6j rfl ?_; show Ev oP.code _ _ _)
  repeat' (first | refine yy ?_ | refine ym ?_ | (apply ze;(iterate 5 exact rfl)) | (apply zf;(iterate 5 exact rfl)) | refine yp ?_ | refine yk iR (hho) ?_ | refine yk im (jO) ?_ | refine yk kn (pX h hl) ?_ | refine yt1 ?_ | refine yt0 ?_ | refine yt ?_ ?_ | refine yo ?_ | apply zn | refine yc ?_ | exact rfl | intro _)
  refine bq (ab.el .n) (bl h) (fun i (p : ag × Int) => [(1, .x (iT k)), (2, .x (iT w)), (6, .box ⟨0, 0, 0⟩ [iT 0, iT 0, iT 0, iT 0, .l .y 1 [], .l .y 1 [], .l .y 1 []]), (8, .box ⟨0, 0, 0⟩ [iT p.1.Count, iT p.1.Sum, iT p.1.Min, iT p.1.Max, ints .y p.1.aW, ints .y p.1.aT, dE.lss .y p.1.Rows]), (9, .x (iT p.2)), (10, .own ⟨0, 0, 0⟩ (.l .y 10 ((bl h).map (ab.el .n)))), (11, .x (iT i))]) (fun i p => p = (dJ (((bl h).take i).filter (atE k w)), eP (((bl h).take i).filter (atE k w)))) (ji, 0) rfl rfl ?_ ?_
  ·rintro i ⟨s, n⟩ e hx hlt hc _ hinv ih
   have hpo : ∀ x ∈ ((bl h).take i).filter (atE k w), x.ok = true := fun x hx => hok x (Y63 (Y93.1 hx).1)
   have hpR : ee (((bl h).take i).filter (atE k w)) := hR.sub ((List.filter_sublist).trans (List.take_sublist _ _))
   have hpn := Zoh hpR
   have he := hok e (Y62 hx)
   have hso : SkR s := (Zok _).1 ((Prod.mk.inj hinv).1 ▸ Zoy hpo)
   have her := ek he
   have hel := Zob her
   have hn := (Prod.mk.inj hinv).2
   have hsz := Zoq (lo := 0) (m := 9999) her (fun x hx => by have := her.span hx; unfold cj at this; omega) (by omega)
   have hs0 : 0 <= bS e.Ids := by have := Zoc her; omega
   have hse := Zoe her
   repeat' (first | refine yy ?_ | refine ym ?_ | (apply ze;(iterate 5 exact rfl)) | (apply zf;(iterate 5 exact rfl)) | refine yp ?_ | refine yx (Zcs hlt) ?_ | refine yl (ab.el .n e) (Zbj (Zar hx)) ?_ | refine yL (ab.cs .n e) (Zbj (Zar hx)) ?_ | refine yw kv (qa s e.aj hso ((Zok _).1 (kD he))) (Zn0 _ rfl) ?_ | refine yv kr (pW e.Ids (Y77 hel (by decide))) ?_ | refine yt1 ?_ | refine yt0 ?_ | refine yt ?_ ?_ | refine yo ?_ | apply zn | refine yc ?_ | exact rfl | intro _)
   ·rename_i h5
    have h6 : atE k w e = true := h5
    refine ih (bH s e.aj, n + cK e.Ids) ?_ _ _ ?_
    ·rw [Zn8 hx, h6, if_pos rfl, Zp0, Zof, <- (Prod.mk.inj hinv).1, <- (Prod.mk.inj hinv).2]
    ·rw [aM (by omega), w64 (by omega)]; rfl
   ·rename_i h5
    have h6 : atE k w e = false := h5
    refine ih (s, n) ?_ _ _ ?_
    ·rw [Zn8 hx, h6, hinv]; simp
    ·rw [aM (by omega)]; rfl
  ·rintro ⟨s, n⟩ hc _ hinv
   rw [Y72] at hinv
   obtain ⟨rfl, rfl⟩ := Prod.mk.inj hinv
   repeat' (first | refine yy ?_ | refine ym ?_ | (apply ze;(iterate 5 exact rfl)) | (apply zf;(iterate 5 exact rfl)) | refine yp ?_ | refine yt1 ?_ | refine yt0 ?_ | refine yt ?_ ?_ | refine yo ?_ | apply zn | refine yc ?_ | exact rfl | intro _)
   refine fin rfl ?_
   try simp only [Zk0]
   try rfl
end Go.Wr
namespace Go.Wr
set_option maxRecDepth 20000
theorem Zo8 {l : List ab} (h : ∀ e ∈ l, e.ok = true) : nT l = [.st ((dJ l).cs .y), .one (aa.ls .y (cz l))] := by
 rcases l with _ | ⟨e, t⟩
 ·rw [Z8a h]; rfl
 ·rw [nT, Zoz h]
theorem Znn (h : ao) (k w : Int) (hl : h.ae <= 4000000) : mR [.st (h.cs .n), .x (iT k), .x (iT w)] = some ⟨[.st ((dJ (dj h k w)).cs .y), .one (aa.ls .y (cz (dj h k w)))], []⟩ := by
 rw [zO h k w hl, Zo8 Znf]
theorem Zon (h : ao) (k w : Int) (hl : h.ae <= 4000000) : wR [.st (h.cs .n), .x (iT k), .x (iT w)] = some ⟨[.st ((dJ (dj h k w)).cs .y), .one (aa.ls .y (cz (dj h k w)))], []⟩ := by
 rw [Hj h k w hl, Z8a Znf]
theorem Znm (h : aG) (k w : Int) (hl : h.ae <= 4000000) : nk [.st (h.cs .n), .x (iT k), .x (iT w)] = some ⟨[.st ((dJ (eY h k w)).cs .y), .one (aa.ls .y (cz (eY h k w)))], []⟩ := by
 rw [Hk h k w hl, Zo8 Zn9]
theorem Zom (h : aG) (k w : Int) (hl : h.ae <= 4000000) : oX [.st (h.cs .n), .x (iT k), .x (iT w)] = some ⟨[.st ((dJ (eY h k w)).cs .y), .one (aa.ls .y (cz (eY h k w)))], []⟩ := by
 rw [Hl h k w hl, Z8a Zn9]
theorem Znl {l : List ab} (h : ∀ e ∈ l, e.ok = true) : (cz l).length <= 10000 := Zob (Z89 h).1
theorem Zn2 {hs : List Hand} {cs : List T} {sz : Nat} {es : List T} (hc : ba cs = true) (he : ba es = true) (ha : apart hs = true) : db hs ⟨[.st cs, .one (.l .y sz es)], []⟩ = true := by
 simp only [db, ha, Y17, Y19, RV.closed, hc, he, RV.fi, T.closed, Y4, Bool.or_true]
end Go.Wr
namespace Go.Wr
set_option maxRecDepth 20000
theorem Z9k (a : ao) (hl : a.ae <= 1048576) : lG [.st (a.cs .n), .st (a.cs .n)] = some ⟨[.one (.b true)], []⟩ := by rw [zr a a hl]; simp
theorem Znr (a : ag) (hl : a.ae <= 1048576) : fq [.st (a.cs .n), .st (a.cs .n)] = some ⟨[.one (.b true)], []⟩ := by rw [pQ a a hl]; simp
theorem Znt (a : aG) (hl : a.ae <= 1048576) : oV [.st (a.cs .n), .st (a.cs .n)] = some ⟨[.one (.b true)], []⟩ := by rw [GC a a hl]; simp
theorem Zns (a : List aa) (hl : a.length <= 1048576) : gu [.x (aa.ls .n a), .x (aa.ls .n a)] = some ⟨[.one (.b true)], []⟩ := by rw [nl a a hl]; simp
set_option maxHeartbeats 4000000 in
theorem L0 (a : ao) (k : Int) (w : Int) (ha : a.fit) : Jx [.st (a.cs .n), .x (iT k), .x (iT w)] = some ⟨[.one (.b true)], []⟩ := by
 have r0 : Rng 1048576 := ⟨by omega, by omega⟩
 have s1 := pN a 1048576 r0 ha
 cases h1 : decide (left 1048576 a.ae < 0) with
 | true =>
  (refine Z6j rfl ?_; show Ev oQ.code _ _ _)
  repeat' (first | refine yy ?_ | refine ym ?_ | (apply ze;(iterate 5 exact rfl)) | (apply zf;(iterate 5 exact rfl)) | refine yp ?_ | refine yv iP (s1) ?_ | refine yt1 ?_ | refine yt0 ?_ | refine yt ?_ ?_ | refine yo ?_ | apply zn | refine yc ?_ | exact rfl | intro _)
  exact fin rfl rfl
 | false =>
  have o1 := Z9q r0 h1
  have la : a.ae <= 1048576 := by omega
  have lb : a.ae <= 4000000 := by omega
  have k1 : (1 : Int) + (ao.wS a : Int) <= bL := Z84 lb
  have m1 := pR a 1 (by decide) k1
  have c1 := nnd (ao.okS a 1 0 (by decide) k1).1
  have q1 := Hn a k w lb
  have q2 := Hm a k w lb
  have b0 : (dJ (dj a k w)).ae <= 1048576 := Y77 (Zox Znf) (by decide)
  generalize dJ (dj a k w) = r0 at q1 q2 b0
  have w0 : (1 : Int) + (ag.wS r0 : Int) <= bL := Zol b0
  have m20 := pS r0 1 (by decide) w0
  have m30 := pU r0 1 (by decide) w0
  have c20 := nnd (ag.okS r0 1 0 (by decide) w0).1
  have e10 := Znr r0 b0
  have e2 := Z9k a la
  (refine Z6j rfl ?_; show Ev oQ.code _ _ _)
  repeat' (first | refine yy ?_ | refine ym ?_ | (apply ze;(iterate 5 exact rfl)) | (apply zf;(iterate 5 exact rfl)) | refine yp ?_ | refine yv iP (s1) ?_ | refine yv fS (pP a la) ?_ | refine yw B0 (q1) (Zmz (ag.cl _) rfl) ?_ | refine yw rk (q2) (Zmz (ag.cl _) rfl) ?_ | refine yv eA (e10) ?_ | refine yN ki m20 ?_ | refine yv il (m30) ?_ | refine yv kf (e2) ?_ | refine yN kh m1 ?_ | refine yy ?_ (ht := rfl) | refine ym ?_ (ht := rfl) | refine yp ?_ (ht := rfl) | refine yt0 ?_ (ht := rfl) | refine yt0 ?_ (ht := neB _) | refine yt0 ?_ (ht := neI _) | refine yt1 ?_ | refine yt0 ?_ | refine yt ?_ ?_ | refine yo ?_ | apply zn | refine yc ?_ | exact rfl | intro _)
  all_goals exact fin rfl rfl
set_option maxHeartbeats 4000000 in
theorem L1 (a : ao) (k : Int) (w : Int) (ha : a.fit) : Jy [.st (a.cs .n), .x (iT k), .x (iT w)] = some ⟨[.one (.b true)], []⟩ := by
 have r0 : Rng 1048576 := ⟨by omega, by omega⟩
 have s1 := pN a 1048576 r0 ha
 cases h1 : decide (left 1048576 a.ae < 0) with
 | true =>
  (refine Z6j rfl ?_; show Ev oS.code _ _ _)
  repeat' (first | refine yy ?_ | refine ym ?_ | (apply ze;(iterate 5 exact rfl)) | (apply zf;(iterate 5 exact rfl)) | refine yp ?_ | refine yv iP (s1) ?_ | refine yt1 ?_ | refine yt0 ?_ | refine yt ?_ ?_ | refine yo ?_ | apply zn | refine yc ?_ | exact rfl | intro _)
  exact fin rfl rfl
 | false =>
  have o1 := Z9q r0 h1
  have la : a.ae <= 1048576 := by omega
  have lb : a.ae <= 4000000 := by omega
  have k1 : (1 : Int) + (ao.wS a : Int) <= bL := Z84 lb
  have m1 := pR a 1 (by decide) k1
  have c1 := nnd (ao.okS a 1 0 (by decide) k1).1
  have q1 := Zon a k w lb
  have q2 := Znn a k w lb
  have b0 : (dJ (dj a k w)).ae <= 1048576 := Y77 (Zox Znf) (by decide)
  generalize dJ (dj a k w) = r0 at q1 q2 b0
  have w0 : (1 : Int) + (ag.wS r0 : Int) <= bL := Zol b0
  have m20 := pS r0 1 (by decide) w0
  have m30 := pU r0 1 (by decide) w0
  have c20 := nnd (ag.okS r0 1 0 (by decide) w0).1
  have e10 := Znr r0 b0
  have b1 : (cz (dj a k w)).length <= 10000 := Znl Znf
  generalize cz (dj a k w) = r1 at q1 q2 b1
  have n1 : wL aa.w1 r1 = 3 * r1.length := Zll r1
  have d1 := ag.okS r0 1 (wL aa.w1 r1 + 0) (by decide) (by have := Zp5 r0; unfold bL; omega)
  have m21 := jN r1 (ag.mkS r0 1).2 d1.1 (by have := d1.2; omega)
  have m31 := zB r1 (ag.mkS r0 1).2 d1.1 (by have := d1.2; omega)
  have c21 := nnd (Zb6 aa.ok1 r1 (ag.mkS r0 1).2 0 d1.1 (by have := d1.2; omega)).1
  have e11 := Zns r1 (Y77 b1 (by decide))
  have e2 := Z9k a la
  (refine Z6j rfl ?_; show Ev oS.code _ _ _)
  repeat' (first | refine yy ?_ | refine ym ?_ | (apply ze;(iterate 5 exact rfl)) | (apply zf;(iterate 5 exact rfl)) | refine yp ?_ | refine yv iP (s1) ?_ | refine yv fS (pP a la) ?_ | refine yw B1 (q1) (Zn2 (ag.cl _) (Z2p (fun _ => rfl) _) rfl) ?_ | refine yw lB (q2) (Zn2 (ag.cl _) (Z2p (fun _ => rfl) _) rfl) ?_ | refine yv eA (e10) ?_ | refine yN ki m20 ?_ | refine yv il (m30) ?_ | refine yv eV (e11) ?_ | (apply zkM fR;(iterate 6 exact rfl);exact m21;(iterate 3 exact rfl)) | refine yv kw (m31) ?_ | refine yv kf (e2) ?_ | refine yN kh m1 ?_ | refine yy ?_ (ht := rfl) | refine ym ?_ (ht := rfl) | refine yp ?_ (ht := rfl) | refine yt0 ?_ (ht := rfl) | refine yt0 ?_ (ht := neB _) | refine yt0 ?_ (ht := neI _) | refine yt1 ?_ | refine yt0 ?_ | refine yt ?_ ?_ | refine yo ?_ | apply zn | refine yc ?_ | exact rfl | intro _)
  all_goals exact fin rfl rfl
set_option maxHeartbeats 4000000 in
theorem Ho (a : aG) (k : Int) (w : Int) (ha : a.fit) : yF [.st (a.cs .n), .x (iT k), .x (iT w)] = some ⟨[.one (.b true)], []⟩ := by
 have r0 : Rng 1048576 := ⟨by omega, by omega⟩
 have s1 := FW a 1048576 r0 ha
 cases h1 : decide (left 1048576 a.ae < 0) with
 | true =>
  (refine Z6j rfl ?_; show Ev oY.code _ _ _)
  repeat' (first | refine yy ?_ | refine ym ?_ | (apply ze;(iterate 5 exact rfl)) | (apply zf;(iterate 5 exact rfl)) | refine yp ?_ | refine yv ol (s1) ?_ | refine yt1 ?_ | refine yt0 ?_ | refine yt ?_ ?_ | refine yo ?_ | apply zn | refine yc ?_ | exact rfl | intro _)
  exact fin rfl rfl
 | false =>
  have o1 := Z9q r0 h1
  have la : a.ae <= 1048576 := by omega
  have lb : a.ae <= 4000000 := by omega
  have k1 : (1 : Int) + (aG.wS a : Int) <= bL := Zp8 lb
  have m1 := GO a 1 (by decide) k1
  have c1 := nnd (aG.okS a 1 0 (by decide) k1).1
  have q1 := Zom a k w lb
  have q2 := Znm a k w lb
  have b0 : (dJ (eY a k w)).ae <= 1048576 := Y77 (Zox Zn9) (by decide)
  generalize dJ (eY a k w) = r0 at q1 q2 b0
  have w0 : (1 : Int) + (ag.wS r0 : Int) <= bL := Zol b0
  have m20 := pS r0 1 (by decide) w0
  have m30 := pU r0 1 (by decide) w0
  have c20 := nnd (ag.okS r0 1 0 (by decide) w0).1
  have e10 := Znr r0 b0
  have b1 : (cz (eY a k w)).length <= 10000 := Znl Zn9
  generalize cz (eY a k w) = r1 at q1 q2 b1
  have n1 : wL aa.w1 r1 = 3 * r1.length := Zll r1
  have d1 := ag.okS r0 1 (wL aa.w1 r1 + 0) (by decide) (by have := Zp5 r0; unfold bL; omega)
  have m21 := jN r1 (ag.mkS r0 1).2 d1.1 (by have := d1.2; omega)
  have m31 := zB r1 (ag.mkS r0 1).2 d1.1 (by have := d1.2; omega)
  have c21 := nnd (Zb6 aa.ok1 r1 (ag.mkS r0 1).2 0 d1.1 (by have := d1.2; omega)).1
  have e11 := Zns r1 (Y77 b1 (by decide))
  have e2 := Znt a la
  (refine Z6j rfl ?_; show Ev oY.code _ _ _)
  repeat' (first | refine yy ?_ | refine ym ?_ | (apply ze;(iterate 5 exact rfl)) | (apply zf;(iterate 5 exact rfl)) | refine yp ?_ | refine yv ol (s1) ?_ | refine yv lE (Gg a la) ?_ | refine yw s8 (q1) (Zn2 (ag.cl _) (Z2p (fun _ => rfl) _) rfl) ?_ | refine yw oj (q2) (Zn2 (ag.cl _) (Z2p (fun _ => rfl) _) rfl) ?_ | refine yv eA (e10) ?_ | refine yN ki m20 ?_ | refine yv il (m30) ?_ | refine yv eV (e11) ?_ | (apply zkM fR;(iterate 6 exact rfl);exact m21;(iterate 3 exact rfl)) | refine yv kw (m31) ?_ | refine yv sG (e2) ?_ | refine yN sL m1 ?_ | refine yy ?_ (ht := rfl) | refine ym ?_ (ht := rfl) | refine yp ?_ (ht := rfl) | refine yt0 ?_ (ht := rfl) | refine yt0 ?_ (ht := neB _) | refine yt0 ?_ (ht := neI _) | refine yt1 ?_ | refine yt0 ?_ | refine yt ?_ ?_ | refine yo ?_ | apply zn | refine yc ?_ | exact rfl | intro _)
  all_goals exact fin rfl rfl
end Go.Wr

