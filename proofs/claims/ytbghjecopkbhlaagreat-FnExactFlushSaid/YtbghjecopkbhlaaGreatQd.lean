/-
  What is proved: lemmas on the way to the laws of this seat. No condition.
-/
import Derived.Test.YtbghjecopkbhlaaGreatQc
import Derived.Test.YtbghjecopkbhlaaGreatPb
import Derived.Test.YtbghjecopkbhlaaGreatHa
import Derived.Test.YtbghjecopkbhlaaGreatHb
import Derived.Test.YtbghjecopkbhlaaGreatTa
set_option linter.unusedVariables false
set_option linter.unusedSimpArgs false
namespace Go.Wr
set_option maxRecDepth 20000
theorem Zml {b : Bool} (h : (!b) = true) : b = false := by cases b with | false => rfl | true => cases h
theorem Zmk {b : Bool} (h : (!b) = false) : b = true := by cases b with | false => cases h | true => rfl
end Go.Wr
namespace Go.Wr
set_option maxRecDepth 20000
theorem Zib {s : al} (hl : s.ae <= 4000000) : s.aJ.length <= 4194304 := by unfold al.ae at hl; omega
end Go.Wr
namespace Go.Wr
set_option maxRecDepth 20000
end Go.Wr
namespace Go.Wr
set_option maxRecDepth 20000
end Go.Wr
namespace Go.Wr
set_option maxRecDepth 20000
theorem ND (s : List aa) (hl : s.length <= 4194304) : Ol [.x (aa.ls .n s)] = some ⟨[.one (iT (MT s))], []⟩ := by
 rcases Nat.eq_zero_or_pos s.length with h0 | h0
 ·obtain rfl := List.eq_nil_of_length_eq_zero h0
  have h3 : (((([] : List aa).map (aa.el .n)).length : Int) == 0) = true := rfl
  (refine Z6j rfl ?_; show Ev Nl.code _ _ _)
  repeat' (first | refine yt1 ?_ | refine yt0 ?_ | refine yt ?_ ?_ | refine yo ?_ | apply zn | refine yc ?_ | intro _)
  exact fin rfl rfl
 ·have h2 : (((s.map (aa.el .n)).length : Int) == 0) = false := by
   have : ((s.length : Int) == 0) = false := by rw [beq_eq_false_iff_ne]; omega
   rwa [Y45]
  have hb := Y34 (show s.length - 1 < s.length by omega)
  generalize s[s.length - 1]'_ = b at hb
  have hk : IntKind.i64.wrap (((s.map (aa.el .n)).length : Int) - 1) = ((s.length - 1 : Nat) : Int) := by rw [Y45, w64 (by omega)]; omega
  have hk0 : 0 <= IntKind.i64.wrap (((s.map (aa.el .n)).length : Int) - 1) := by rw [hk]; omega
  have hkp : (s.map (aa.el .n))[(IntKind.i64.wrap (((s.map (aa.el .n)).length : Int) - 1)).toNat]? = some (aa.el .n b) := by rw [hk]; exact Zar hb
  (refine Z6j rfl ?_; show Ev Nl.code _ _ _)
  repeat' (first | refine yj (aa.el .n b) (hk0) (hkp) ?_ | refine yt1 ?_ | refine yt0 ?_ | refine yt ?_ ?_ | refine yo ?_ | apply zn | refine yc ?_ | intro _)
  refine fin rfl (lX ?_)
  rw [MT, List.getLast?_eq_getElem?, hb]
end Go.Wr
namespace Go.Wr
set_option maxRecDepth 20000
end Go.Wr
namespace Go.Wr
set_option maxRecDepth 20000
theorem Zmj {c : aN} {n : Int} : (!c.ok || !inB n 0 20) = !(c.ok && inB n 0 20) := by cases c.ok <;> simp
theorem Zm7 {c : aN} {n : Int} (h : (c.ok && inB n 0 20) = true) : IntKind.i64.wrap (IntKind.i64.wrap (c.py * IntKind.i64.wrap (n + 1)) + c.mw) = c.py * (n + 1) + c.mw := by
 simp only [aN.ok, Y2, inB, decide_eq_true_eq] at h
 have h1 : 0 <= c.py * (n + 1) := Int.mul_nonneg (by omega) (by omega)
 have h2 : c.py * (n + 1) <= 20 * 21 := Int.mul_le_mul (by omega) (by omega) (by omega) (by omega)
 rw [w64 (n := n + 1) (by omega), w64 (n := c.py * (n + 1)) (by omega), w64 (by omega)]
theorem PQ (c : aN) (n : Int) (hl : c.bY.length <= 4194304) : OW [.st (c.cs .n), .x (iT n)] = some ⟨[.one (iT (M1 c n))], []⟩ := by
 (refine Z6j rfl ?_; show Ev OV.code _ _ _)
 repeat' (first | refine yy ?_ | refine ym ?_ | (apply ze;(iterate 5 exact rfl)) | (apply zf;(iterate 5 exact rfl)) | refine yp ?_ | refine yk AK (Ke c hl) ?_ | refine yk cm (fu _ _ _) ?_ | refine yt1 ?_ | refine yt0 ?_ | refine yt ?_ ?_ | refine yo ?_ | apply zn | refine yc ?_ | exact rfl | intro _)
 ·refine fin rfl (lX ?_)
  rename_i h
  rw [Zmj] at h
  rw [M1, if_neg (by rw [Zml h]; simp)]
 ·rename_i h
  rw [Zmj] at h
  refine fin rfl (lX ?_)
  rw [Zm7 (Zmk h), M1, if_pos (Zmk h)]
theorem PR (c : aN) (n : Int) (hl : c.bY.length <= 4194304) : Pe [.st (c.cs .n), .x (iT n)] = some ⟨[.one (iT (M1 c n))], []⟩ := by
 (refine Z6j rfl ?_; show Ev OZ.code _ _ _)
 repeat' (first | refine yy ?_ | refine ym ?_ | (apply ze;(iterate 5 exact rfl)) | (apply zf;(iterate 5 exact rfl)) | refine yp ?_ | refine yk se (GR c hl) ?_ | refine yk bK (dP _ _ _) ?_ | refine yt1 ?_ | refine yt0 ?_ | refine yt ?_ ?_ | refine yo ?_ | apply zn | refine yc ?_ | exact rfl | intro _)
 ·refine fin rfl (lX ?_)
  rename_i h
  rw [Zmj] at h
  rw [M1, if_neg (by rw [Zml h]; simp)]
 ·rename_i h
  rw [Zmj] at h
  refine fin rfl (lX ?_)
  rw [Zm7 (Zmk h), M1, if_pos (Zmk h)]
end Go.Wr
namespace Go.Wr
set_option maxRecDepth 20000
theorem Zj0 {x : ag} (h : x.ae <= 4194304) : x.aW.length <= 4194304 /\ x.aT.length <= 4194304 /\ x.Rows.length <= 4194304 /\ ∀ (i : Nat) r, x.Rows[i]? = some r -> r.length <= 4194304 := by
 have h1 := Z1t List.length x.Rows
 unfold ag.ae at h
 refine ⟨by omega, by omega, by omega, fun i r hr => ?_⟩
 have := Z1v (f := List.length) hr
 omega
end Go.Wr
namespace Go.Wr
set_option maxRecDepth 20000
theorem p7 (x : ag) (hl : x.ae <= 4194304) : mN [.st (x.cs .n)] = some ⟨[.st (x.cs .y)], []⟩ := by
 obtain ⟨h1, h2, h3, h4⟩ := Zj0 hl
 (refine Z6j rfl ?_; show Ev tA.code _ _ _)
 repeat' (first | refine yk ka (o4 x.aW h1) ?_ | refine yk ka (o4 x.aT h2) ?_ | refine yt1 ?_ | refine yt0 ?_ | refine yt ?_ ?_ | refine yo ?_ | apply zn | refine yc ?_ | intro _)
 refine bq (ints .n) x.Rows (fun i (es : List T) => [(1, .box ⟨0, 0, 0⟩ (x.cs .n)), (2, .box ⟨0, 0, 0⟩ [iT 0, iT 0, iT 0, iT 0, .l .y 1 [], .l .y 1 [], .l .y 1 []]), (3, .box ⟨0, 0, 0⟩ [iT x.Count, iT x.Sum, iT x.Min, iT x.Max, ints .y x.aW, ints .y x.aT, .l .y 1 es]), (17, .x (dE.lss .n x.Rows)), (18, .x (iT (x.Rows.map (ints .n)).length)), (19, .x (iT i))]) (fun i es => es = (x.Rows.take i).map (ints .y)) [] rfl rfl ?_ ?_
 ·rintro i es r hx hlt hc _ hinv ih
  have hrl := h4 i r hx
  have dY : es.length + 1 < aS := by
   rw [hinv, Y45, Y48]; unfold aS; omega
  repeat' (first | refine yi (ints .n r) (Zar hx) ?_ | refine yk ka (o4 r hrl) ?_ | (apply zV;(iterate 8 exact rfl);exact (dY);exact (rfl);exact (dY);exact rfl;exact rfl) | refine yt1 ?_ | refine yt0 ?_ | refine yt ?_ ?_ | refine yo ?_ | apply zn | refine yc ?_ | intro _)
  refine ih (es ++ [ints .y r]) ?_ _ _ ?_
  ·rw [hinv, Zat hx]
  ·rw [aM (by omega)]; rfl
 ·rintro es hc _ hinv
  rw [Y72] at hinv
  subst hinv
  repeat' (first | refine yt1 ?_ | refine yt0 ?_ | refine yt ?_ ?_ | refine yo ?_ | apply zn | refine yc ?_ | intro _)
  refine fin rfl ?_
  try simp only [Zk0]
  try rfl
theorem He (e : ab) (hl : e.ae <= 4194304) : tE [.st (e.cs .n)] = some ⟨[.st (e.cs .y)], []⟩ := by
 have h1 : e.Ids.length <= 4194304 := by unfold ab.ae at hl; omega
 have h2 : e.aj.ae <= 4194304 := by unfold ab.ae at hl; omega
 (refine Z6j rfl ?_; show Ev tD.code _ _ _)
 repeat' (first | refine yk pC (B4 e.Ids h1) ?_ | refine yk ke (p7 e.aj h2) ?_ | refine yo ?_ | apply zn | refine yc ?_ | intro _)
 refine fin rfl ?_
 try simp only [Zk0]
 try rfl
end Go.Wr
namespace Go.Wr
set_option maxRecDepth 20000
theorem PS (s : al) (hl : s.ae <= 4000000) : Og [.st (s.cs .n)] = some ⟨[.st (s.cs .y)], []⟩ := by
 have hl2 : s.aJ.length <= 4194304 := by simp only [al.ae] at hl; omega
 (refine Z6j rfl ?_; show Ev Of.code _ _ _)
 repeat' (first | refine yk pC (B4 s.aJ hl2) ?_ | refine yo ?_ | apply zn | refine yc ?_ | intro _)
 refine fin rfl ?_
 simp only [Zk0]
 rfl
theorem PT (s : al) (hl : s.ae <= 4000000) : OP [.st (s.cs .n)] = some ⟨[.st (s.cs .y)], []⟩ := by
 have hl2 : s.aJ.length <= 4194304 := by simp only [al.ae] at hl; omega
 (refine Z6j rfl ?_; show Ev OO.code _ _ _)
 repeat' (first | refine yk sf (GS s.aJ hl2) ?_ | refine yo ?_ | apply zn | refine yc ?_ | intro _)
 refine fin rfl ?_
 simp only [Zk0]
 rfl
theorem PU (c : aN) (hl : c.bY.length <= 4194304) : N8 [.st (c.cs .n)] = some ⟨[.st (c.cs .y)], []⟩ := by
 (refine Z6j rfl ?_; show Ev N7.code _ _ _)
 repeat' (first | refine yk ka (o4 c.bY hl) ?_ | refine yo ?_ | apply zn | refine yc ?_ | intro _)
 refine fin rfl ?_
 simp only [Zk0]
 rfl
theorem PV (c : aN) (hl : c.bY.length <= 4194304) : ON [.st (c.cs .n)] = some ⟨[.st (c.cs .y)], []⟩ := by
 (refine Z6j rfl ?_; show Ev OM.code _ _ _)
 repeat' (first | (apply za;(iterate 3 exact rfl);exact (Zp hl);exact (Z5w (fun _ => rfl) _);exact rfl;exact rfl) | refine yo ?_ | apply zn | refine yc ?_ | intro _)
 refine fin rfl ?_
 simp only [Zk0]
 rfl
end Go.Wr
namespace Go.Wr
set_option maxRecDepth 20000
theorem c44 : 4000000 <= 4194304 := Y76 rfl
theorem Z8f {α : Type} {f : α -> Nat} {l : List α} {i n : Nat} {x : α} (hl : aF f l <= n) (h : l[i]? = some x) : f x <= n := Y77 (Z1v h) hl
theorem Zu {α : Type} {f : α -> T} {g : α -> Nat} {l : List α} {i : Nat} {es : List T} (hl : aF g l <= 4000000) (h : es = (l.take i).map f) : es.length + 1 < aS := by
 have := Z1t g l
 rw [h, Y45, Y48]; unfold aS; omega
theorem O2 (l : List ab) (hl : aF ab.ae l <= 4000000) : Nk [.x (ab.ls .n l)] = some ⟨[.one (ab.ls .y l)], []⟩ := by
 (refine Z6j rfl ?_; show Ev N9.code _ _ _)
 repeat' (first | refine yt1 ?_ | refine yt0 ?_ | refine yt ?_ ?_ | refine yo ?_ | apply zn | refine yc ?_ | intro _)
 refine bq (ab.el .n) l (fun i (es : List T) => [(3, .own ⟨0, 0, 0⟩ (.l .y 10 es)), (6, .x (ab.ls .n l)), (7, .x (iT (l.map (ab.el .n)).length)), (8, .x (iT i))]) (fun i es => es = (l.take i).map (ab.el .y)) [] rfl rfl ?_ ?_
 ·rintro i es x hx hlt hc _ hinv ih
  have hb := Z8f hl hx
  have hb2 := Y77 hb c44
  have n1 := Z1t ab.ae l
  have dY := Zu hl hinv
  repeat' (first | refine yi (ab.el .n x) (Zar hx) ?_ | refine yk ri (He x hb2) ?_ | (apply zV;(iterate 8 exact rfl);exact (dY);exact (rfl);exact (dY);exact rfl;exact rfl) | refine yt1 ?_ | refine yt0 ?_ | refine yt ?_ ?_ | refine yo ?_ | apply zn | refine yc ?_ | intro _)
  refine ih (es ++ [ab.el .y x]) ?_ _ _ ?_
  ·rw [hinv, Zat hx]
  ·rw [aM (by omega)]
   first | rfl | (simp only [Zk1]; rfl) | (simp only [Zk0]; rfl)
 ·rintro es hc _ hinv
  rw [Y72] at hinv
  subst hinv
  repeat' (first | refine yt1 ?_ | refine yt0 ?_ | refine yt ?_ ?_ | refine yo ?_ | apply zn | refine yc ?_ | intro _)
  refine fin rfl ?_
  try simp only [Zk0]
  try rfl
theorem PW (l : List ay) (hl : aF ay.ae l <= 4000000) : Oc [.x (ay.ls .n l)] = some ⟨[.one (ay.ls .y l)], []⟩ := by
 (refine Z6j rfl ?_; show Ev Oa.code _ _ _)
 repeat' (first | refine yt1 ?_ | refine yt0 ?_ | refine yt ?_ ?_ | refine yo ?_ | apply zn | refine yc ?_ | intro _)
 refine bq (ay.el .n) l (fun i (es : List T) => [(3, .own ⟨0, 0, 0⟩ (.l .y 11 es)), (6, .x (ay.ls .n l)), (7, .x (iT (l.map (ay.el .n)).length)), (8, .x (iT i))]) (fun i es => es = (l.take i).map (ay.el .y)) [] rfl rfl ?_ ?_
 ·rintro i es x hx hlt hc _ hinv ih
  have hb := Z8f hl hx
  have hb2 := Y77 hb c44
  have n1 := Z1t ay.ae l
  have dY := Zu hl hinv
  repeat' (first | refine yi (ay.el .n x) (Zar hx) ?_ | refine yk ri (He x.aL hb2) ?_ | (apply zV;(iterate 8 exact rfl);exact (dY);exact (rfl);exact (dY);exact rfl;exact rfl) | refine yt1 ?_ | refine yt0 ?_ | refine yt ?_ ?_ | refine yo ?_ | apply zn | refine yc ?_ | intro _)
  refine ih (es ++ [ay.el .y x]) ?_ _ _ ?_
  ·rw [hinv, Zat hx]
  ·rw [aM (by omega)]
   first | rfl | (simp only [Zk1]; rfl) | (simp only [Zk0]; rfl)
 ·rintro es hc _ hinv
  rw [Y72] at hinv
  subst hinv
  repeat' (first | refine yt1 ?_ | refine yt0 ?_ | refine yt ?_ ?_ | refine yo ?_ | apply zn | refine yc ?_ | intro _)
  refine fin rfl ?_
  try simp only [Zk0]
  try rfl
theorem PX (r : ai) (hl : r.ae <= 4000000) : Oe [.st (r.cs .n)] = some ⟨[.st (r.cs .y)], []⟩ := by
 (refine Z6j rfl ?_; show Ev Od.code _ _ _)
 repeat' (first | refine yk M6 (O2 r.Lst hl) ?_ | refine yo ?_ | apply zn | refine yc ?_ | intro _)
 refine fin rfl ?_
 try simp only [Zk0]
 try rfl
theorem PY (t : au) (hl : t.ae <= 4000000) : Oi [.st (t.cs .n)] = some ⟨[.st (t.cs .y)], []⟩ := by
 (refine Z6j rfl ?_; show Ev Oh.code _ _ _)
 repeat' (first | refine yk ka (o4 t.Left (Y77 hl c44)) ?_ | refine yo ?_ | apply zn | refine yc ?_ | intro _)
 refine fin rfl ?_
 try simp only [Zk0]
 try rfl
theorem Z81 {h : ao} (hl : h.ae <= 4000000) : aF al.ae h.aO <= 4000000 /\ aF (aF ai.ae) h.Rows <= 4000000 /\ aF au.ae h.bX <= 4000000 /\ aF ab.ae h.aH <= 4000000 /\ aF ay.ae h.aY <= 4000000 := by
 unfold ao.ae at hl; omega
set_option maxHeartbeats 1000000 in
theorem NE (h : ao) (hl : h.ae <= 4000000) : Na [.st (h.cs .n)] = some ⟨[.st (h.cs .y)], []⟩ := by
 obtain ⟨hb1, hb2, hb3, hb4, hb5⟩ := Z81 hl
 have n1 := Z1t al.ae h.aO
 have n2 := Z1t (aF ai.ae) h.Rows
 have n3 := Z1t au.ae h.bX
 (refine Z6j rfl ?_; show Ev Oj.code _ _ _)
 repeat' (first | refine yk NJ (PU h.bP (Z31 hl)) ?_ | refine yk M6 (O2 h.aH hb4) ?_ | refine yk NK (PW h.aY hb5) ?_ | refine yt1 ?_ | refine yt0 ?_ | refine yt ?_ ?_ | refine yo ?_ | apply zn | refine yc ?_ | intro _)
 refine bq (al.el .n) h.aO (fun i (es : List T) => [(1, .box ⟨0, 0, 0⟩ (h.cs .n)), (2, .box ⟨0, 0, 0⟩ (ao.zero.cs .y)), (3, .box ⟨0, 0, 0⟩ [iT h.bP.Per, iT h.bP.jM, iT h.bP.mr, ints .y h.bP.bY, iT h.bP.px, iT h.bP.py, iT h.bP.mw, iT h.bP.Still, iT h.lA, .b h.pz, .l .y 5 es, .l .y 1 [], .l .y 3 [], iT h.js, ab.ls .y h.aH, ay.ls .y h.aY]), (30, .x (al.ls .n h.aO)), (31, .x (iT (h.aO.map (al.el .n)).length)), (32, .x (iT i))]) (fun i es => es = (h.aO.take i).map (al.el .y)) [] rfl ?_ ?_ ?_
 ·simp only [Zk0]; rfl
 ·rintro i es x hx hlt hc _ hinv ih
  have dY := Zu hb1 hinv
  have hb := Zia hl hx
  repeat' (first | refine yi (al.el .n x) (Zar hx) ?_ | refine yk NM (PS x hb) ?_ | (apply zV;(iterate 8 exact rfl);exact (dY);exact (rfl);exact (dY);exact rfl;exact rfl) | refine yt1 ?_ | refine yt0 ?_ | refine yt ?_ ?_ | refine yo ?_ | apply zn | refine yc ?_ | intro _)
  refine ih (es ++ [al.el .y x]) ?_ _ _ ?_
  ·rw [hinv, Zat hx]
  ·rw [aM (by omega)]
   first | rfl | (simp only [Zk1]; rfl) | (simp only [Zk0]; rfl)
 rintro es hc _ hinv
 rw [Y72] at hinv
 subst hinv
 repeat' (first | refine yt1 ?_ | refine yt0 ?_ | refine yt ?_ ?_ | refine yo ?_ | apply zn | refine yc ?_ | intro _)
 refine bq (fun l => ai.ls .n l) h.Rows (fun i (es : List T) => [(1, .box ⟨0, 0, 0⟩ (h.cs .n)), (2, .box ⟨0, 0, 0⟩ (ao.zero.cs .y)), (3, .box ⟨0, 0, 0⟩ [iT h.bP.Per, iT h.bP.jM, iT h.bP.mr, ints .y h.bP.bY, iT h.bP.px, iT h.bP.py, iT h.bP.mw, iT h.bP.Still, iT h.lA, .b h.pz, al.ls .y h.aO, .l .y 1 es, .l .y 3 [], iT h.js, ab.ls .y h.aH, ay.ls .y h.aY]), (45, .x (ai.lss .n h.Rows)), (46, .x (iT (h.Rows.map (fun l => ai.ls .n l)).length)), (47, .x (iT i))]) (fun i es => es = (h.Rows.take i).map (fun l => ai.ls .y l)) [] rfl rfl ?_ ?_
 ·rintro i es rs hx hlt hc _ hinv ih
  have dY := Zu hb2 hinv
  have hrs := Z8f hb2 hx
  have n4 := Z1t ai.ae rs
  repeat' (first | refine yi (ai.ls .n rs) (Zar hx) ?_ | refine yt1 ?_ | refine yt0 ?_ | refine yt ?_ ?_ | refine yo ?_ | apply zn | refine yc ?_ | intro _)
  refine bq (ai.el .n) rs (fun j (fs : List T) => [(1, .box ⟨0, 0, 0⟩ (h.cs .n)), (2, .box ⟨0, 0, 0⟩ (ao.zero.cs .y)), (3, .box ⟨0, 0, 0⟩ [iT h.bP.Per, iT h.bP.jM, iT h.bP.mr, ints .y h.bP.bY, iT h.bP.px, iT h.bP.py, iT h.bP.mw, iT h.bP.Still, iT h.lA, .b h.pz, al.ls .y h.aO, .l .y 1 es, .l .y 3 [], iT h.js, ab.ls .y h.aH, ay.ls .y h.aY]), (7, .x (ai.ls .n rs)), (8, .own ⟨0, 0, 0⟩ (.l .y 1 fs)), (45, .x (ai.lss .n h.Rows)), (46, .x (iT (h.Rows.map (fun l => ai.ls .n l)).length)), (47, .x (iT i)), (51, .x (ai.ls .n rs)), (52, .x (iT (rs.map (ai.el .n)).length)), (53, .x (iT j))]) (fun j fs => fs = (rs.take j).map (ai.el .y)) [] rfl rfl ?_ ?_
  ·rintro j fs x hy eW hc2 _ aV ih2
   have yK := Zu hrs aV
   have hb := Z8f hrs hy
   repeat' (first | refine yi (ai.el .n x) (Zar hy) ?_ | refine yk NL (PX x hb) ?_ | (apply zV;(iterate 8 exact rfl);exact (yK);exact (rfl);exact (yK);exact rfl;exact rfl) | refine yt1 ?_ | refine yt0 ?_ | refine yt ?_ ?_ | refine yo ?_ | apply zn | refine yc ?_ | intro _)
   refine ih2 (fs ++ [ai.el .y x]) ?_ _ _ ?_
   ·rw [aV, Zat hy]
   ·rw [aM (by omega)]
    first | rfl | (simp only [Zk1]; rfl) | (simp only [Zk0]; rfl)
  ·rintro fs hc2 _ aV
   rw [Y72] at aV
   subst aV
   repeat' (first | (apply zV;(iterate 8 exact rfl);exact (dY);exact (rfl);exact (dY);exact rfl;exact rfl) | refine yt1 ?_ | refine yt0 ?_ | refine yt ?_ ?_ | refine yo ?_ | apply zn | refine yc ?_ | intro _)
   refine ih (es ++ [ai.ls .y rs]) ?_ _ _ ?_
   ·rw [hinv, Zat hx]
   ·rw [aM (by omega)]
    first | rfl | (simp only [Zk1]; rfl) | (simp only [Zk0]; rfl)
 rintro es hc _ hinv
 rw [Y72] at hinv
 subst hinv
 repeat' (first | refine yt1 ?_ | refine yt0 ?_ | refine yt ?_ ?_ | refine yo ?_ | apply zn | refine yc ?_ | intro _)
 refine bq (au.el .n) h.bX (fun i (es : List T) => [(1, .box ⟨0, 0, 0⟩ (h.cs .n)), (2, .box ⟨0, 0, 0⟩ (ao.zero.cs .y)), (3, .box ⟨0, 0, 0⟩ [iT h.bP.Per, iT h.bP.jM, iT h.bP.mr, ints .y h.bP.bY, iT h.bP.px, iT h.bP.py, iT h.bP.mw, iT h.bP.Still, iT h.lA, .b h.pz, al.ls .y h.aO, ai.lss .y h.Rows, .l .y 3 es, iT h.js, ab.ls .y h.aH, ay.ls .y h.aY]), (71, .x (au.ls .n h.bX)), (72, .x (iT (h.bX.map (au.el .n)).length)), (73, .x (iT i))]) (fun i es => es = (h.bX.take i).map (au.el .y)) [] rfl rfl ?_ ?_
 ·rintro i es x hx hlt hc _ hinv ih
  have dY := Zu hb3 hinv
  have hb := Zl2 hl hx
  repeat' (first | refine yi (au.el .n x) (Zar hx) ?_ | refine yk NN (PY x hb) ?_ | (apply zV;(iterate 8 exact rfl);exact (dY);exact (rfl);exact (dY);exact rfl;exact rfl) | refine yt1 ?_ | refine yt0 ?_ | refine yt ?_ ?_ | refine yo ?_ | apply zn | refine yc ?_ | intro _)
  refine ih (es ++ [au.el .y x]) ?_ _ _ ?_
  ·rw [hinv, Zat hx]
  ·rw [aM (by omega)]
   first | rfl | (simp only [Zk1]; rfl) | (simp only [Zk0]; rfl)
 rintro es hc _ hinv
 rw [Y72] at hinv
 subst hinv
 repeat' (first | refine yt1 ?_ | refine yt0 ?_ | refine yt ?_ ?_ | refine yo ?_ | apply zn | refine yc ?_ | intro _)
 refine fin rfl ?_
 try simp only [Zk0]
 try rfl
end Go.Wr
namespace Go.Wr
set_option maxRecDepth 20000
theorem PZ (x : ag) (hl : x.ae <= 4194304) : OF [.st (x.cs .n)] = some ⟨[.st (x.cs .y)], []⟩ := by
 obtain ⟨h1, h2, h3, h4⟩ := Zj0 hl
 (refine Z6j rfl ?_; show Ev OE.code _ _ _)
 repeat' (first | (apply za;(iterate 3 exact rfl);exact (Zp h1);exact (Z5w (fun _ => rfl) _);exact rfl;exact rfl) | (apply za;(iterate 3 exact rfl);exact (Zp h2);exact (Z5w (fun _ => rfl) _);exact rfl;exact rfl) | refine yt1 ?_ | refine yt0 ?_ | refine yt ?_ ?_ | refine yo ?_ | apply zn | refine yc ?_ | intro _)
 refine bq (ints .n) x.Rows (fun i (es : List T) => [(1, .box ⟨0, 0, 0⟩ (x.cs .n)), (2, .box ⟨0, 0, 0⟩ [iT 0, iT 0, iT 0, iT 0, .l .y 1 [], .l .y 1 [], .l .y 1 []]), (3, .box ⟨0, 0, 0⟩ [iT x.Count, iT x.Sum, iT x.Min, iT x.Max, ints .y x.aW, ints .y x.aT, .l .y 1 es]), (4, .x (iT i))]) (fun i es => es = (x.Rows.take i).map (ints .y)) [] rfl rfl ?_ ?_
 ·rintro i es r hx hlt hc _ hinv ih
  have hrl := h4 i r hx
  have dY : es.length + 1 < aS := by
   rw [hinv, Y45, Y48]; unfold aS; omega
  repeat' (first | refine yi (ints .n r) (Zar hx) ?_ | (apply za;(iterate 3 exact rfl);exact (Zp hrl);exact (Z5w (fun _ => rfl) _);exact rfl;exact rfl) | (apply zV;(iterate 8 exact rfl);exact (dY);exact (rfl);exact (dY);exact rfl;exact rfl) | refine yt1 ?_ | refine yt0 ?_ | refine yt ?_ ?_ | refine yo ?_ | apply zn | refine yc ?_ | intro _)
  refine ih (es ++ [ints .y r]) ?_ _ _ ?_
  ·rw [hinv, Zat hx]
  ·rw [aM (by omega)]; rfl
 ·rintro es hc _ hinv
  rw [Y72] at hinv
  subst hinv
  repeat' (first | refine yt1 ?_ | refine yt0 ?_ | refine yt ?_ ?_ | refine yo ?_ | apply zn | refine yc ?_ | intro _)
  refine fin rfl ?_
  try simp only [Zk0]
  try rfl
theorem NF (e : ab) (hl : e.ae <= 4194304) : Nc [.st (e.cs .n)] = some ⟨[.st (e.cs .y)], []⟩ := by
 have h1 : e.Ids.length <= 4194304 := by unfold ab.ae at hl; omega
 have h2 : e.aj.ae <= 4194304 := by unfold ab.ae at hl; omega
 (refine Z6j rfl ?_; show Ev OG.code _ _ _)
 repeat' (first | refine yk sf (GS e.Ids h1) ?_ | refine yk NU (PZ e.aj h2) ?_ | refine yo ?_ | apply zn | refine yc ?_ | intro _)
 refine fin rfl ?_
 try simp only [Zk0]
 try rfl
theorem P0 (r : ai) (hl : r.ae <= 4000000) : OI [.st (r.cs .n)] = some ⟨[.st (r.cs .y)], []⟩ := by
 have hl : aF ab.ae r.Lst <= 4000000 := hl
 have n1 := Z1t ab.ae r.Lst
 (refine Z6j rfl ?_; show Ev OH.code _ _ _)
 repeat' (first | refine yt1 ?_ | refine yt0 ?_ | refine yt ?_ ?_ | refine yo ?_ | apply zn | refine yc ?_ | intro _)
 refine bq (ab.el .n) r.Lst (fun i (es : List T) => [(1, .box ⟨0, 0, 0⟩ (r.cs .n)), (2, .box ⟨0, 0, 0⟩ [.l .y 10 []]), (3, .box ⟨0, 0, 0⟩ [.l .y 10 es]), (4, .x (iT i))]) (fun i es => es = (r.Lst.take i).map (ab.el .y)) [] rfl rfl ?_ ?_
 ·rintro i es x hx hlt hc _ hinv ih
  have hb2 := Y77 (Z8f hl hx) c44
  have dY := Zu hl hinv
  repeat' (first | refine yi (ab.el .n x) (Zar hx) ?_ | refine yk MZ (NF x hb2) ?_ | (apply zV;(iterate 8 exact rfl);exact (dY);exact (rfl);exact (dY);exact rfl;exact rfl) | refine yt1 ?_ | refine yt0 ?_ | refine yt ?_ ?_ | refine yo ?_ | apply zn | refine yc ?_ | intro _)
  refine ih (es ++ [ab.el .y x]) ?_ _ _ ?_
  ·rw [hinv, Zat hx]
  ·rw [aM (by omega)]
   first | rfl | (simp only [Zk1]; rfl) | (simp only [Zk0]; rfl)
 ·rintro es hc _ hinv
  rw [Y72] at hinv
  subst hinv
  repeat' (first | refine yt1 ?_ | refine yt0 ?_ | refine yt ?_ ?_ | refine yo ?_ | apply zn | refine yc ?_ | intro _)
  refine fin rfl ?_
  try simp only [Zk0]
  try rfl
theorem P1 (t : au) (hl : t.ae <= 4000000) : OL [.st (t.cs .n)] = some ⟨[.st (t.cs .y)], []⟩ := by
 (refine Z6j rfl ?_; show Ev OJ.code _ _ _)
 repeat' (first | (apply za;(iterate 3 exact rfl);exact (Zp (Y77 hl c44));exact (Z5w (fun _ => rfl) _);exact rfl;exact rfl) | refine yo ?_ | apply zn | refine yc ?_ | intro _)
 refine fin rfl ?_
 try simp only [Zk0]
 try rfl
set_option maxHeartbeats 1000000 in
theorem M3 (h : ao) (hl : h.ae <= 4000000) : M4 [.st (h.cs .n)] = some ⟨[.st (h.cs .y)], []⟩ := by
 obtain ⟨hb1, hb2, hb3, hb4, hb5⟩ := Z81 hl
 have n1 := Z1t al.ae h.aO
 have n2 := Z1t (aF ai.ae) h.Rows
 have n3 := Z1t au.ae h.bX
 have n4 := Z1t ab.ae h.aH
 have n5 := Z1t ay.ae h.aY
 (refine Z6j rfl ?_; show Ev OQ.code _ _ _)
 repeat' (first | refine yk NX (PV h.bP (Z31 hl)) ?_ | refine yt1 ?_ | refine yt0 ?_ | refine yt ?_ ?_ | refine yo ?_ | apply zn | refine yc ?_ | intro _)
 refine bq (al.el .n) h.aO (fun i (es : List T) => [(1, .box ⟨0, 0, 0⟩ (h.cs .n)), (2, .box ⟨0, 0, 0⟩ (ao.zero.cs .y)), (3, .box ⟨0, 0, 0⟩ [iT h.bP.Per, iT h.bP.jM, iT h.bP.mr, ints .y h.bP.bY, iT h.bP.px, iT h.bP.py, iT h.bP.mw, iT h.bP.Still, iT h.lA, .b h.pz, .l .y 5 es, .l .y 1 [], .l .y 3 [], iT h.js, .l .y 10 [], .l .y 11 []]), (4, .x (iT i))]) (fun i es => es = (h.aO.take i).map (al.el .y)) [] rfl ?_ ?_ ?_
 ·first | rfl | (simp only [Zk0]; rfl)
 ·rintro i es x hx hlt hc _ hinv ih
  have dY := Zu hb1 hinv
  have hb := Zia hl hx
  repeat' (first | refine yi (al.el .n x) (Zar hx) ?_ | refine yk NY (PT x hb) ?_ | (apply zV;(iterate 8 exact rfl);exact (dY);exact (rfl);exact (dY);exact rfl;exact rfl) | refine yt1 ?_ | refine yt0 ?_ | refine yt ?_ ?_ | refine yo ?_ | apply zn | refine yc ?_ | intro _)
  refine ih (es ++ [al.el .y x]) ?_ _ _ ?_
  ·rw [hinv, Zat hx]
  ·rw [aM (by omega)]
   first | rfl | (simp only [Zk1]; rfl) | (simp only [Zk0]; rfl)
 rintro es hc _ hinv
 rw [Y72] at hinv
 subst hinv
 repeat' (first | refine yt1 ?_ | refine yt0 ?_ | refine yt ?_ ?_ | refine yo ?_ | apply zn | refine yc ?_ | intro _)
 refine bq (fun l => ai.ls .n l) h.Rows (fun i (es : List T) => [(1, .box ⟨0, 0, 0⟩ (h.cs .n)), (2, .box ⟨0, 0, 0⟩ (ao.zero.cs .y)), (3, .box ⟨0, 0, 0⟩ [iT h.bP.Per, iT h.bP.jM, iT h.bP.mr, ints .y h.bP.bY, iT h.bP.px, iT h.bP.py, iT h.bP.mw, iT h.bP.Still, iT h.lA, .b h.pz, al.ls .y h.aO, .l .y 1 es, .l .y 3 [], iT h.js, .l .y 10 [], .l .y 11 []]), (5, .x (iT i))]) (fun i es => es = (h.Rows.take i).map (fun l => ai.ls .y l)) [] rfl rfl ?_ ?_
 ·rintro i es rs hx hlt hc _ hinv ih
  have dY := Zu hb2 hinv
  have hrs := Z8f hb2 hx
  have n6 := Z1t ai.ae rs
  repeat' (first | refine yi (ai.ls .n rs) (Zar hx) ?_ | refine yt1 ?_ | refine yt0 ?_ | refine yt ?_ ?_ | refine yo ?_ | apply zn | refine yc ?_ | intro _)
  refine Z3v (fun j (fs : List T) => [(1, .box ⟨0, 0, 0⟩ (h.cs .n)), (2, .box ⟨0, 0, 0⟩ (ao.zero.cs .y)), (3, .box ⟨0, 0, 0⟩ [iT h.bP.Per, iT h.bP.jM, iT h.bP.mr, ints .y h.bP.bY, iT h.bP.px, iT h.bP.py, iT h.bP.mw, iT h.bP.Still, iT h.lA, .b h.pz, al.ls .y h.aO, .l .y 1 es, .l .y 3 [], iT h.js, .l .y 10 [], .l .y 11 []]), (5, .x (iT i)), (6, .own ⟨0, 0, 0⟩ (.l .y 1 fs)), (7, .x (iT j))]) (fun j fs => fs = (rs.take j).map (ai.el .y)) rs.length [] rfl rfl fun j fs hj aV ih2 => ?_
  cases eW : decide ((j : Int) < (rs.map (ai.el .n)).length) with
  | true =>
   have hj2 : j < rs.length := by simpa using eW
   have hy := Y34 hj2
   generalize rs[j]'_ = x at hy
   have yK := Zu hrs aV
   have hb := Z8f hrs hy
   repeat' (first | refine yi (ai.ls .n rs) (Zar hx) ?_ | refine yi (ai.el .n x) (Zar hy) ?_ | refine yk NV (P0 x hb) ?_ | (apply zV;(iterate 8 exact rfl);exact (yK);exact (rfl);exact (yK);exact rfl;exact rfl) | refine yt1 ?_ | refine yt0 ?_ | refine yt ?_ ?_ | refine yo ?_ | apply zn | refine yc ?_ | intro _)
   refine ih2 (fs ++ [ai.el .y x]) hj2 ?_ _ _ ?_
   ·rw [aV, Zat hy]
   ·rw [aM (by omega)]
    first | rfl | (simp only [Zk1]; rfl) | (simp only [Zk0]; rfl)
  | false =>
   have hj2 : j = rs.length := by
    have : ¬ j < rs.length := by simpa using eW
    omega
   rw [hj2, Y72] at aV
   subst aV
   repeat' (first | refine yi (ai.ls .n rs) (Zar hx) ?_ | (apply zV;(iterate 8 exact rfl);exact (dY);exact (rfl);exact (dY);exact rfl;exact rfl) | refine yt1 ?_ | refine yt0 ?_ | refine yt ?_ ?_ | refine yo ?_ | apply zn | refine yc ?_ | intro _)
   refine ih (es ++ [ai.ls .y rs]) ?_ _ _ ?_
   ·rw [hinv, Zat hx]
   ·rw [aM (by omega)]
    first | rfl | (simp only [Zk1]; rfl) | (simp only [Zk0]; rfl)
 rintro es hc _ hinv
 rw [Y72] at hinv
 subst hinv
 repeat' (first | refine yt1 ?_ | refine yt0 ?_ | refine yt ?_ ?_ | refine yo ?_ | apply zn | refine yc ?_ | intro _)
 refine bq (au.el .n) h.bX (fun i (es : List T) => [(1, .box ⟨0, 0, 0⟩ (h.cs .n)), (2, .box ⟨0, 0, 0⟩ (ao.zero.cs .y)), (3, .box ⟨0, 0, 0⟩ [iT h.bP.Per, iT h.bP.jM, iT h.bP.mr, ints .y h.bP.bY, iT h.bP.px, iT h.bP.py, iT h.bP.mw, iT h.bP.Still, iT h.lA, .b h.pz, al.ls .y h.aO, ai.lss .y h.Rows, .l .y 3 es, iT h.js, .l .y 10 [], .l .y 11 []]), (8, .x (iT i))]) (fun i es => es = (h.bX.take i).map (au.el .y)) [] rfl rfl ?_ ?_
 ·rintro i es x hx hlt hc _ hinv ih
  have dY := Zu hb3 hinv
  have hb := Zl2 hl hx
  repeat' (first | refine yi (au.el .n x) (Zar hx) ?_ | refine yk NW (P1 x hb) ?_ | (apply zV;(iterate 8 exact rfl);exact (dY);exact (rfl);exact (dY);exact rfl;exact rfl) | refine yt1 ?_ | refine yt0 ?_ | refine yt ?_ ?_ | refine yo ?_ | apply zn | refine yc ?_ | intro _)
  refine ih (es ++ [au.el .y x]) ?_ _ _ ?_
  ·rw [hinv, Zat hx]
  ·rw [aM (by omega)]
   first | rfl | (simp only [Zk1]; rfl) | (simp only [Zk0]; rfl)
 rintro es hc _ hinv
 rw [Y72] at hinv
 subst hinv
 repeat' (first | refine yt1 ?_ | refine yt0 ?_ | refine yt ?_ ?_ | refine yo ?_ | apply zn | refine yc ?_ | intro _)
 refine bq (ab.el .n) h.aH (fun i (es : List T) => [(1, .box ⟨0, 0, 0⟩ (h.cs .n)), (2, .box ⟨0, 0, 0⟩ (ao.zero.cs .y)), (3, .box ⟨0, 0, 0⟩ [iT h.bP.Per, iT h.bP.jM, iT h.bP.mr, ints .y h.bP.bY, iT h.bP.px, iT h.bP.py, iT h.bP.mw, iT h.bP.Still, iT h.lA, .b h.pz, al.ls .y h.aO, ai.lss .y h.Rows, au.ls .y h.bX, iT h.js, .l .y 10 es, .l .y 11 []]), (9, .x (iT i))]) (fun i es => es = (h.aH.take i).map (ab.el .y)) [] rfl rfl ?_ ?_
 ·rintro i es x hx hlt hc _ hinv ih
  have dY := Zu hb4 hinv
  have hb := Y77 (Z8f hb4 hx) c44
  repeat' (first | refine yi (ab.el .n x) (Zar hx) ?_ | refine yk MZ (NF x hb) ?_ | (apply zV;(iterate 8 exact rfl);exact (dY);exact (rfl);exact (dY);exact rfl;exact rfl) | refine yt1 ?_ | refine yt0 ?_ | refine yt ?_ ?_ | refine yo ?_ | apply zn | refine yc ?_ | intro _)
  refine ih (es ++ [ab.el .y x]) ?_ _ _ ?_
  ·rw [hinv, Zat hx]
  ·rw [aM (by omega)]
   first | rfl | (simp only [Zk1]; rfl) | (simp only [Zk0]; rfl)
 rintro es hc _ hinv
 rw [Y72] at hinv
 subst hinv
 repeat' (first | refine yt1 ?_ | refine yt0 ?_ | refine yt ?_ ?_ | refine yo ?_ | apply zn | refine yc ?_ | intro _)
 refine bq (ay.el .n) h.aY (fun i (es : List T) => [(1, .box ⟨0, 0, 0⟩ (h.cs .n)), (2, .box ⟨0, 0, 0⟩ (ao.zero.cs .y)), (3, .box ⟨0, 0, 0⟩ [iT h.bP.Per, iT h.bP.jM, iT h.bP.mr, ints .y h.bP.bY, iT h.bP.px, iT h.bP.py, iT h.bP.mw, iT h.bP.Still, iT h.lA, .b h.pz, al.ls .y h.aO, ai.lss .y h.Rows, au.ls .y h.bX, iT h.js, ab.ls .y h.aH, .l .y 11 es]), (10, .x (iT i))]) (fun i es => es = (h.aY.take i).map (ay.el .y)) [] rfl rfl ?_ ?_
 ·rintro i es x hx hlt hc _ hinv ih
  have dY := Zu hb5 hinv
  have hb := Y77 (Z8f hb5 hx) c44
  repeat' (first | refine yi (ay.el .n x) (Zar hx) ?_ | refine yk MZ (NF x.aL hb) ?_ | (apply zV;(iterate 8 exact rfl);exact (dY);exact (rfl);exact (dY);exact rfl;exact rfl) | refine yt1 ?_ | refine yt0 ?_ | refine yt ?_ ?_ | refine yo ?_ | apply zn | refine yc ?_ | intro _)
  refine ih (es ++ [ay.el .y x]) ?_ _ _ ?_
  ·rw [hinv, Zat hx]
  ·rw [aM (by omega)]
   first | rfl | (simp only [Zk1]; rfl) | (simp only [Zk0]; rfl)
 rintro es hc _ hinv
 rw [Y72] at hinv
 subst hinv
 repeat' (first | refine yt1 ?_ | refine yt0 ?_ | refine yt ?_ ?_ | refine yo ?_ | apply zn | refine yc ?_ | intro _)
 refine fin rfl ?_
 try simp only [Zk0]
 try rfl
end Go.Wr
namespace Go.Wr
set_option maxRecDepth 20000
theorem NG (s : List aa) (hl : s.length <= 4194304) : OR [.x (aa.ls .n s)] = some ⟨[.one (iT (MT s))], []⟩ := by
 rcases Nat.eq_zero_or_pos s.length with h0 | h0
 ·obtain rfl := List.eq_nil_of_length_eq_zero h0
  have h3 : (((([] : List aa).map (aa.el .n)).length : Int) == 0) = true := rfl
  (refine Z6j rfl ?_; show Ev Nq.code _ _ _)
  repeat' (first | refine yt1 ?_ | refine yt0 ?_ | refine yt ?_ ?_ | refine yo ?_ | apply zn | refine yc ?_ | intro _)
  exact fin rfl rfl
 ·have h2 : (((s.map (aa.el .n)).length : Int) == 0) = false := by
   have : ((s.length : Int) == 0) = false := by rw [beq_eq_false_iff_ne]; omega
   rwa [Y45]
  have hb := Y34 (show s.length - 1 < s.length by omega)
  generalize s[s.length - 1]'_ = b at hb
  have hk : IntKind.i64.wrap (((s.map (aa.el .n)).length : Int) - 1) = ((s.length - 1 : Nat) : Int) := by rw [Y45, w64 (by omega)]; omega
  have hk0 : 0 <= IntKind.i64.wrap (((s.map (aa.el .n)).length : Int) - 1) := by rw [hk]; omega
  have hkp : (s.map (aa.el .n))[(IntKind.i64.wrap (((s.map (aa.el .n)).length : Int) - 1)).toNat]? = some (aa.el .n b) := by rw [hk]; exact Zar hb
  (refine Z6j rfl ?_; show Ev Nq.code _ _ _)
  repeat' (first | refine yj (aa.el .n b) (hk0) (hkp) ?_ | refine yt1 ?_ | refine yt0 ?_ | refine yt ?_ ?_ | refine yo ?_ | apply zn | refine yc ?_ | intro _)
  refine fin rfl (lX ?_)
  rw [MT, List.getLast?_eq_getElem?, hb]
theorem Z2o {h : ao} (hh : (houseS h && !h.pz) = false) : bh h = h := by rw [bh, hh]; rfl
theorem P2 {α : Type} {l : List α} (h : l.length = 3) : ∃ a b c, l = [a, b, c] := by
 match l, h with
 | [a, b, c], _ => exact ⟨a, b, c, rfl⟩
theorem Zid {h : ao} (hl : h.ae <= 4000000) : ∀ s ∈ h.aO, s.aJ.length <= 4194304 := fun s hs => by
 obtain ⟨i, hi⟩ := Y59.1 hs
 exact Zib (Zia hl hi)
set_option maxHeartbeats 1000000 in
theorem P3 (h : ao) (hl : h.ae <= 4000000) : Nn [.st (h.cs .n)] = some ⟨[.st ((bh h).cs .y)], []⟩ := by
 have hho := B8 h hl
 rw [Z82] at hho
 have hcp := NE h hl
 cases hh : houseS h with
 | false =>
  rw [hh] at hho
  rw [Z2o (by rw [hh]; rfl)]
  (refine Z6j rfl ?_; show Ev Nb.code _ _ _)
  repeat' (first | refine yy ?_ | refine ym ?_ | (apply ze;(iterate 5 exact rfl)) | (apply zf;(iterate 5 exact rfl)) | refine yp ?_ | refine yk bw (hcp) ?_ | refine yk lZ (hho) ?_ | refine ym ?_ (ht := rfl) | refine yp ?_ (ht := rfl) | refine yt0 ?_ (ht := rfl) | refine yt1 ?_ | refine yt0 ?_ | refine yt ?_ ?_ | refine yo ?_ | apply zn | refine yc ?_ | exact rfl | intro _)
  refine fin rfl ?_
  try simp only [Zk0]
  try rfl
 | true =>
  rw [hh] at hho
  obtain ⟨s0, s1, s2, h3⟩ := P2 (Z83 hh).1
  have hsl := Zid hl
  obtain ⟨NH, clock, closed, QD, rows, turns, since, root, outs⟩ := h
  simp only at h3
  subst h3
  have t0 := hsl s0 (by simp)
  have t1 := hsl s1 (by simp)
  have t2 := hsl s2 (by simp)
  cases closed with
  | true =>
   rw [Z2o (by rw [hh]; rfl)]
   (refine Z6j rfl ?_; show Ev Nb.code _ _ _)
   repeat' (first | refine yy ?_ | refine ym ?_ | (apply ze;(iterate 5 exact rfl)) | (apply zf;(iterate 5 exact rfl)) | refine yp ?_ | refine yk bw (hcp) ?_ | refine yk lZ (hho) ?_ | refine yy ?_ (ht := rfl) | refine yp ?_ (ht := rfl) | refine yt0 ?_ (ht := rfl) | refine yt1 ?_ | refine yt0 ?_ | refine yt ?_ ?_ | refine yo ?_ | apply zn | refine yc ?_ | exact rfl | intro _)
   refine fin rfl ?_
   try simp only [Zk0]
   try rfl
  | false =>
   have e : bh ⟨NH, clock, false, [s0, s1, s2], rows, turns, since, root, outs⟩ = ⟨NH, clock, true, [MY s0, MY s1, MY s2], rows, turns, since, root, outs⟩ := by
    rw [bh, hh]; rfl
   rw [e]
   (refine Z6j rfl ?_; show Ev Nb.code _ _ _)
   repeat' (first | refine yy ?_ | refine ym ?_ | (apply ze;(iterate 5 exact rfl)) | (apply zf;(iterate 5 exact rfl)) | refine yp ?_ | refine yk bw (hcp) ?_ | refine yk lZ (hho) ?_ | refine O7 ?_ | refine yy ?_ (ht := rfl) | refine yp ?_ (ht := rfl) | refine yt1 ?_ (ht := rfl) | refine yt0 ?_ (ht := rfl) | refine yv M7 (ND s0.aJ t0) ?_ | refine yv M7 (ND s1.aJ t1) ?_ | refine yv M7 (ND s2.aJ t2) ?_ | refine yt1 ?_ | refine yt0 ?_ | refine yt ?_ ?_ | refine yo ?_ | apply zn | refine yc ?_ | exact rfl | intro _)
   refine fin rfl ?_
   try simp only [Zk0]
   try rfl
set_option maxHeartbeats 1000000 in
theorem P4 (h : ao) (hl : h.ae <= 4000000) : OS [.st (h.cs .n)] = some ⟨[.st ((bh h).cs .y)], []⟩ := by
 have hho := p5 h hl
 have hcp := M3 h hl
 cases hh : houseS h with
 | false =>
  rw [hh] at hho
  rw [Z2o (by rw [hh]; rfl)]
  (refine Z6j rfl ?_; show Ev Nd.code _ _ _)
  repeat' (first | refine yy ?_ | refine ym ?_ | (apply ze;(iterate 5 exact rfl)) | (apply zf;(iterate 5 exact rfl)) | refine yp ?_ | refine yk br (hcp) ?_ | refine yk iR (hho) ?_ | refine ym ?_ (ht := rfl) | refine yp ?_ (ht := rfl) | refine yt1 ?_ (ht := rfl) | refine yt1 ?_ | refine yt0 ?_ | refine yt ?_ ?_ | refine yo ?_ | apply zn | refine yc ?_ | exact rfl | intro _)
  refine fin rfl ?_
  try simp only [Zk0]
  try rfl
 | true =>
  rw [hh] at hho
  obtain ⟨s0, s1, s2, h3⟩ := P2 (Z83 hh).1
  have hsl := Zid hl
  obtain ⟨NH, clock, closed, QD, rows, turns, since, root, outs⟩ := h
  simp only at h3
  subst h3
  have t0 := hsl s0 (by simp)
  have t1 := hsl s1 (by simp)
  have t2 := hsl s2 (by simp)
  cases closed with
  | true =>
   rw [Z2o (by rw [hh]; rfl)]
   (refine Z6j rfl ?_; show Ev Nd.code _ _ _)
   repeat' (first | refine yy ?_ | refine ym ?_ | (apply ze;(iterate 5 exact rfl)) | (apply zf;(iterate 5 exact rfl)) | refine yp ?_ | refine yk br (hcp) ?_ | refine yk iR (hho) ?_ | refine yy ?_ (ht := rfl) | refine yp ?_ (ht := rfl) | refine yt1 ?_ (ht := rfl) | refine yt1 ?_ | refine yt0 ?_ | refine yt ?_ ?_ | refine yo ?_ | apply zn | refine yc ?_ | exact rfl | intro _)
   refine fin rfl ?_
   try simp only [Zk0]
   try rfl
  | false =>
   have e : bh ⟨NH, clock, false, [s0, s1, s2], rows, turns, since, root, outs⟩ = ⟨NH, clock, true, [MY s0, MY s1, MY s2], rows, turns, since, root, outs⟩ := by
    rw [bh, hh]; rfl
   rw [e]
   (refine Z6j rfl ?_; show Ev Nd.code _ _ _)
   repeat' (first | refine yy ?_ | refine ym ?_ | (apply ze;(iterate 5 exact rfl)) | (apply zf;(iterate 5 exact rfl)) | refine yp ?_ | refine yk br (hcp) ?_ | refine yk iR (hho) ?_ | refine O7 ?_ | refine yy ?_ (ht := rfl) | refine yp ?_ (ht := rfl) | refine yt1 ?_ (ht := rfl) | refine yt0 ?_ (ht := rfl) | refine yv M9 (NG s0.aJ t0) ?_ | refine yv M9 (NG s1.aJ t1) ?_ | refine yv M9 (NG s2.aJ t2) ?_ | refine yt1 ?_ | refine yt0 ?_ | refine yt ?_ ?_ | refine yo ?_ | apply zn | refine yc ?_ | exact rfl | intro _)
   refine fin rfl ?_
   try simp only [Zk0]
   try rfl
end Go.Wr
namespace Go.Wr
set_option maxRecDepth 20000
theorem Z9k (a : ao) (hl : a.ae <= 1048576) : lG [.st (a.cs .n), .st (a.cs .n)] = some ⟨[.one (.b true)], []⟩ := by rw [zr a a hl]; simp
set_option maxHeartbeats 4000000 in
theorem P5 (a : ao) (ha : a.fit) : OT [.st (a.cs .n)] = some ⟨[.one (.b true)], []⟩ := by
 have r0 : Rng 1048576 := ⟨by omega, by omega⟩
 have s1 := pN a 1048576 r0 ha
 cases h1 : decide (left 1048576 a.ae < 0) with
 | true =>
  (refine Z6j rfl ?_; show Ev Nr.code _ _ _)
  repeat' (first | refine yy ?_ | refine ym ?_ | (apply ze;(iterate 5 exact rfl)) | (apply zf;(iterate 5 exact rfl)) | refine yp ?_ | refine yv iP (s1) ?_ | refine yt1 ?_ | refine yt0 ?_ | refine yt ?_ ?_ | refine yo ?_ | apply zn | refine yc ?_ | exact rfl | intro _)
  exact fin rfl rfl
 | false =>
  have o1 := Z9q r0 h1
  have la : a.ae <= 1048576 := by omega
  have lb : a.ae <= 4000000 := by omega
  have k1 : (1 : Int) + (ao.wS a : Int) <= bL := Z84 lb
  have m1 := pR a 1 (by decide) k1
  have c1 := nnd (ao.okS a 1 0 (by decide) k1).1
  have q1 := P4 a lb
  have q2 := P3 a lb
  have b0 : (bh a).ae <= 1048576 := by rw [Z2n]; exact la
  generalize bh a = r0 at q1 q2 b0
  have w0 : (1 : Int) + (ao.wS r0 : Int) <= bL := Z84 (Y77 b0 (by decide))
  have m20 := pR r0 1 (by decide) w0
  have m30 := NC r0 1 (by decide) w0
  have c20 := nnd (ao.okS r0 1 0 (by decide) w0).1
  have e10 := Z9k r0 b0
  have e2 := Z9k a la
  (refine Z6j rfl ?_; show Ev Nr.code _ _ _)
  repeat' (first | refine yy ?_ | refine ym ?_ | (apply ze;(iterate 5 exact rfl)) | (apply zf;(iterate 5 exact rfl)) | refine yp ?_ | refine yv iP (s1) ?_ | refine yv fS (pP a la) ?_ | refine yw NZ (q1) (Z2f (ao.cl _) rfl) ?_ | refine yw Nf (q2) (Z2f (ao.cl _) rfl) ?_ | refine yv kf (e10) ?_ | refine yN kh m20 ?_ | refine yv MS (m30) ?_ | refine yv kf (e2) ?_ | refine yN kh m1 ?_ | refine yy ?_ (ht := rfl) | refine ym ?_ (ht := rfl) | refine yp ?_ (ht := rfl) | refine yt0 ?_ (ht := rfl) | refine yt0 ?_ (ht := neB _) | refine yt0 ?_ (ht := neI _) | refine yt1 ?_ | refine yt0 ?_ | refine yt ?_ ?_ | refine yo ?_ | apply zn | refine yc ?_ | exact rfl | intro _)
  all_goals exact fin rfl rfl
end Go.Wr
namespace Go.Wr
set_option maxRecDepth 20000
def MV : ab -> Bool := fun _ => true
def MR (c : aN) (clock : Int) : ab -> Bool := fun e => decide (M1 c e.cJ <= clock)
theorem P6 (e : ab) : Pb [.st (e.cs .n)] = some ⟨[.one (.b (MV e))], []⟩ := by
 (refine Z6j rfl ?_; show Ev OU.code _ _ _)
 repeat' (first | refine yo ?_ | apply zn | refine yc ?_ | intro _)
 exact fin rfl rfl
theorem P7 (h : ao) (e : ab) (hl : h.ae <= 4000000) : Pc [.st (e.cs .n), .x (.p (.a (h.cs .n)))] = some ⟨[.one (.b (MR h.bP h.lA e))], []⟩ := by
 (refine Z6j rfl ?_; show Ev OX.code _ _ _)
 repeat' (first | refine yk N4 (PQ h.bP e.cJ (Z31 hl)) ?_ | refine yo ?_ | apply zn | refine yc ?_ | intro _)
 exact fin rfl rfl
def MW (e : ab) : T := .a [iT e.Key, iT e.cJ, .u, iT e.aj.Count, iT e.aj.Sum, iT e.aj.Min, iT e.aj.Max, .u, .u, .u]
structure bn (t : ab -> Bool) (h : ao) (i : Nat) (p : List T × List ab × List ay) : Prop where
 len : p.1.length = h.aH.length
 nth : ∀ j x, i <= j -> h.aH[j]? = some x -> p.1[j]? = some (ab.el .y x)
 res : p.2 = MU t (h.aH.take i) h.aY
theorem bn.init (t : ab -> Bool) (h : ao) : bn t h 0 (h.aH.map (ab.el .y), [], h.aY) := ⟨Y45 _, fun j x _ hx => by rw [Y37, hx]; rfl, rfl⟩
section
variable {t : ab -> Bool} {h : ao} {i : Nat} {es : List T} {left : List ab} {outs : List ay} {x : ab}
theorem bn.mid (f : bn t h i (es, left, outs)) (hx : h.aH[i]? = some x) : ∃ E : List T, es = E.set i (ab.el .y x) /\ i < E.length := by
 have h1 := f.nth i x (Nat.le_refl _) hx
 exact ⟨es, (Zmm h1).symm, (Y36.1 h1).1⟩
theorem bn.next {E : List T} {c : T} (f : bn t h i (E.set i (ab.el .y x), left, outs)) (hx : h.aH[i]? = some x) {q : List ab × List ay} (hq : q = az t (left, outs) x) : bn t h (i + 1) (E.set i c, q) := by
 refine ⟨?_, fun j y hj hy => ?_, ?_⟩
 ·have := f.len; simp only [List.length_set] at this ⊢; exact this
 ·have := f.nth j y (by omega) hy
  simp only at this ⊢
  rw [Y38 (by omega)] at this ⊢
  exact this
 ·have := f.res
  simp only at this ⊢
  rw [hq, Zma hx, <- this]
theorem bn.small (f : bn t h i (es, left, outs)) (hl : h.ae <= 4000000) : left.length + outs.length <= 4000000 := by
 have h1 := Zmd t (h.aH.take i) ([], h.aY)
 have h2 := f.res
 have h3 := Z1w ab.ae h.aH i
 have h4 : aF ab.ae [] = 0 := rfl
 unfold MU at h2
 simp only at h1 h2
 rw [<- h2] at h1
 simp only at h1
 have h5 := Z1t ab.ae left
 have h6 := Z1t ay.ae outs
 unfold ao.ae at hl
 omega
end
theorem Zm2 {left : List ab} {outs : List ay} (h : left.length + outs.length <= 4000000) : (outs.map (ay.el .y)).length + 1 < aS /\ (left.map (ab.el .y)).length + 1 < aS := by
 rw [Y45, Y45]; unfold aS; omega
set_option maxHeartbeats 2000000 in
theorem Zmh (h : ao) (hl : h.ae <= 4000000) : Nt [.bx (h.cs .y), .x (.f Ng [])] = some ⟨[], [(ah (MV) h).cs .y]⟩ := by
 have n4 := Z1t ab.ae h.aH
 have hb4 := (Z81 hl).2.2.2.1
 (refine Z6j rfl ?_; show Ev Ns.code _ _ _)
 repeat' (first | refine yt1 ?_ | refine yt0 ?_ | refine yt ?_ ?_ | refine yo ?_ | apply zn | refine yc ?_ | intro _)
 refine bq (ab.el .y) h.aH (fun i (p : List T × List ab × List ay) => [(0, .box ⟨0, 0, 0⟩ [iT h.bP.Per, iT h.bP.jM, iT h.bP.mr, ints .y h.bP.bY, iT h.bP.px, iT h.bP.py, iT h.bP.mw, iT h.bP.Still, iT h.lA, .b h.pz, al.ls .y h.aO, ai.lss .y h.Rows, au.ls .y h.bX, iT h.js, .u, ay.ls .y p.2.2]), (1, .x (.f Ng [])), (4, .own ⟨0, 0, 0⟩ (.l .y 10 (p.2.1.map (ab.el .y)))), (10, .own ⟨0, 0, 0⟩ (.l .y 10 p.1)), (11, .x (iT (h.aH.map (ab.el .y)).length)), (12, .x (iT i))]) (bn (MV) h) _ (bn.init _ h) ?_ ?_ ?_
 ·first | rfl | (simp only [Zk0]; rfl)
 ·rintro i ⟨es, left, outs⟩ x hx hlt hc _ hinv ih
  have hsm := hinv.small hl
  obtain ⟨ha1, ha2⟩ := Zm2 hsm
  have ho : outs.length <= 4194304 := by omega
  obtain ⟨E, rfl, hi⟩ := hinv.mid hx
  have hd := P6 x
  repeat' (first | refine yx (Zav hi) ?_ | refine yL (ab.cs .y x) (Zax hi rfl) ?_ | (apply zS;exact Zmf rfl rfl (by repeat (first | exact kO.nil _ | apply kO.x | (apply kO.w;exact rfl;exact Zax (by assumption) rfl;exact rfl;exact Zay (by assumption) rfl;exact rfl)));exact rfl;exact rfl;exact rfl;exact rfl;exact rfl;exact rfl;exact rfl;exact rfl;exact rfl;exact rfl) | (apply zd;(iterate 3 exact rfl);simp only [List.map,fzl];exact rfl;exact (hd);(iterate 3 exact rfl)) | refine yv AP (Kl outs x.Key x.cJ ho) ?_ | (apply zVF;exact rfl;exact Zm8 rfl rfl rfl rfl rfl;exact rfl;exact rfl;exact rfl;exact ha1;exact rfl;exact ha1;exact rfl;exact rfl) | (apply zV;(iterate 8 exact rfl);exact (ha2);exact (rfl);exact (ha2);exact rfl;exact rfl) | refine yt1 ?_ | refine yt0 ?_ | refine yt ?_ ?_ | refine yo ?_ | apply zn | refine yc ?_ | intro _)
  ·rename_i hb
   refine ih (E.set i (MW x), left, outs ++ [⟨ik outs x.Key x.cJ, x⟩]) ?_ _ _ ?_
   ·exact hinv.next hx (by rw [az, hb]; rfl)
   ·rw [aM (by omega)]
    simp only [Zk0, ay.ls, Y49]; rfl
  ·rename_i hb
   refine ih (E.set i (MW x), left ++ [x], outs) ?_ _ _ ?_
   ·exact hinv.next hx (by rw [az, hb]; rfl)
   ·rw [aM (by omega)]
    simp only [Zk0, ay.ls, Y49]; rfl
 ·rintro ⟨es, left, outs⟩ hc _ hinv
  have h2 := hinv.res
  rw [Y72] at h2
  simp only at h2
  have e : ah (MV) h = { h with aH := left, aY := outs } := by rw [ah, <- h2]
  rw [e]
  repeat' (first | refine yt1 ?_ | refine yt0 ?_ | refine yt ?_ ?_ | refine yo ?_ | apply zn | refine yc ?_ | intro _)
  refine fin rfl ?_
  try simp only [Zk0]
  try rfl
set_option maxHeartbeats 2000000 in
theorem Zmi (h : ao) (g : ao) (hg : g.ae <= 4000000) (hl : h.ae <= 4000000) : Nt [.bx (h.cs .y), .x (.f Nh [.p (.a (g.cs .n))])] = some ⟨[], [(ah (MR g.bP g.lA) h).cs .y]⟩ := by
 have n4 := Z1t ab.ae h.aH
 have hb4 := (Z81 hl).2.2.2.1
 (refine Z6j rfl ?_; show Ev Ns.code _ _ _)
 repeat' (first | refine yt1 ?_ | refine yt0 ?_ | refine yt ?_ ?_ | refine yo ?_ | apply zn | refine yc ?_ | intro _)
 refine bq (ab.el .y) h.aH (fun i (p : List T × List ab × List ay) => [(0, .box ⟨0, 0, 0⟩ [iT h.bP.Per, iT h.bP.jM, iT h.bP.mr, ints .y h.bP.bY, iT h.bP.px, iT h.bP.py, iT h.bP.mw, iT h.bP.Still, iT h.lA, .b h.pz, al.ls .y h.aO, ai.lss .y h.Rows, au.ls .y h.bX, iT h.js, .u, ay.ls .y p.2.2]), (1, .x (.f Nh [.p (.a (g.cs .n))])), (4, .own ⟨0, 0, 0⟩ (.l .y 10 (p.2.1.map (ab.el .y)))), (10, .own ⟨0, 0, 0⟩ (.l .y 10 p.1)), (11, .x (iT (h.aH.map (ab.el .y)).length)), (12, .x (iT i))]) (bn (MR g.bP g.lA) h) _ (bn.init _ h) ?_ ?_ ?_
 ·first | rfl | (simp only [Zk0]; rfl)
 ·rintro i ⟨es, left, outs⟩ x hx hlt hc _ hinv ih
  have hsm := hinv.small hl
  obtain ⟨ha1, ha2⟩ := Zm2 hsm
  have ho : outs.length <= 4194304 := by omega
  obtain ⟨E, rfl, hi⟩ := hinv.mid hx
  have hd := P7 g x hg
  repeat' (first | refine yx (Zav hi) ?_ | refine yL (ab.cs .y x) (Zax hi rfl) ?_ | (apply zS;exact Zmf rfl rfl (by repeat (first | exact kO.nil _ | apply kO.x | (apply kO.w;exact rfl;exact Zax (by assumption) rfl;exact rfl;exact Zay (by assumption) rfl;exact rfl)));exact rfl;exact rfl;exact rfl;exact rfl;exact rfl;exact rfl;exact rfl;exact rfl;exact rfl;exact rfl) | (apply zd;(iterate 3 exact rfl);simp only [List.map,fzl];exact rfl;exact (hd);(iterate 3 exact rfl)) | refine yv AP (Kl outs x.Key x.cJ ho) ?_ | (apply zVF;exact rfl;exact Zm8 rfl rfl rfl rfl rfl;exact rfl;exact rfl;exact rfl;exact ha1;exact rfl;exact ha1;exact rfl;exact rfl) | (apply zV;(iterate 8 exact rfl);exact (ha2);exact (rfl);exact (ha2);exact rfl;exact rfl) | refine yt1 ?_ | refine yt0 ?_ | refine yt ?_ ?_ | refine yo ?_ | apply zn | refine yc ?_ | intro _)
  ·rename_i hb
   refine ih (E.set i (MW x), left, outs ++ [⟨ik outs x.Key x.cJ, x⟩]) ?_ _ _ ?_
   ·exact hinv.next hx (by rw [az, hb]; rfl)
   ·rw [aM (by omega)]
    simp only [Zk0, ay.ls, Y49]; rfl
  ·rename_i hb
   refine ih (E.set i (MW x), left ++ [x], outs) ?_ _ _ ?_
   ·exact hinv.next hx (by rw [az, hb]; rfl)
   ·rw [aM (by omega)]
    simp only [Zk0, ay.ls, Y49]; rfl
 ·rintro ⟨es, left, outs⟩ hc _ hinv
  have h2 := hinv.res
  rw [Y72] at h2
  simp only at h2
  have e : ah (MR g.bP g.lA) h = { h with aH := left, aY := outs } := by rw [ah, <- h2]
  rw [e]
  repeat' (first | refine yt1 ?_ | refine yt0 ?_ | refine yt ?_ ?_ | refine yo ?_ | apply zn | refine yc ?_ | intro _)
  refine fin rfl ?_
  try simp only [Zk0]
  try rfl
end Go.Wr
namespace Go.Wr
set_option maxRecDepth 20000
def aw (h : ao) : ao := if houseS h then ah MV h else h
def ax (h : ao) : ao := if houseS h then ah (MR h.bP h.lA) h else h
theorem Zm9 (h : ao) : (aw h).ae = h.ae := by
 unfold aw; split
 ·exact Zmc _ h
 ·rfl
theorem Zmb (h : ao) : (ax h).ae = h.ae := by
 unfold ax; split
 ·exact Zmc _ h
 ·rfl
theorem P8 (h : ao) (hl : h.ae <= 4000000) : OY [.st (h.cs .n)] = some ⟨[.st ((aw h).cs .y)], []⟩ := by
 have hho := B8 h hl
 rw [Z82] at hho
 have hcp := NE h hl
 have hfl := Zmh h hl
 cases hh : houseS h with
 | false =>
  rw [hh] at hho
  rw [show aw h = h by rw [aw, hh]; rfl]
  (refine Z6j rfl ?_; show Ev Nu.code _ _ _)
  repeat' (first | refine yk bw (hcp) ?_ | refine yk lZ (hho) ?_ | refine yt0 ?_ (ht := rfl) | refine yt1 ?_ | refine yt0 ?_ | refine yt ?_ ?_ | refine yo ?_ | apply zn | refine yc ?_ | intro _)
  refine fin rfl ?_
  try simp only [Zk0]
  try rfl
 | true =>
  rw [hh] at hho
  rw [show aw h = ah MV h by rw [aw, hh]; rfl]
  generalize ah MV h = r at hfl
  (refine Z6j rfl ?_; show Ev Nu.code _ _ _)
  repeat' (first | refine yk bw (hcp) ?_ | refine yk lZ (hho) ?_ | (apply zk Ni;exact rfl;(first | exact rfl | (simp only [Zk0];exact rfl));exact hfl;exact rfl;exact rfl;exact rfl) | refine yt1 ?_ (ht := rfl) | refine yt1 ?_ | refine yt0 ?_ | refine yt ?_ ?_ | refine yo ?_ | apply zn | refine yc ?_ | intro _)
  refine fin rfl ?_
  try simp only [Zk0]
  try rfl
theorem Zm3 (h : ao) : pe (h.cs .n) = .a (h.cs .n) := by
 unfold pe
 rw [ao.fz]
 rfl
theorem P9 (h : ao) (hl : h.ae <= 4000000) : O0 [.st (h.cs .n)] = some ⟨[.st ((ax h).cs .y)], []⟩ := by
 have hho := B8 h hl
 rw [Z82] at hho
 have hcp := NE h hl
 have hfl := Zmi h h hl hl
 rw [<- Zm3 h] at hfl
 cases hh : houseS h with
 | false =>
  rw [hh] at hho
  rw [show ax h = h by rw [ax, hh]; rfl]
  (refine Z6j rfl ?_; show Ev Nz.code _ _ _)
  repeat' (first | refine yk bw (hcp) ?_ | refine yk lZ (hho) ?_ | refine yt0 ?_ (ht := rfl) | refine yt1 ?_ | refine yt0 ?_ | refine yt ?_ ?_ | refine yo ?_ | apply zn | refine yc ?_ | intro _)
  refine fin rfl ?_
  try simp only [Zk0]
  try rfl
 | true =>
  rw [hh] at hho
  rw [show ax h = ah (MR h.bP h.lA) h by rw [ax, hh]; rfl]
  generalize ah (MR h.bP h.lA) h = r at hfl
  (refine Z6j rfl ?_; show Ev Nz.code _ _ _)
  repeat' (first | refine yk bw (hcp) ?_ | refine yk lZ (hho) ?_ | (apply zk Ni;exact rfl;(first | exact rfl | (simp only [Zk0];exact rfl));exact hfl;exact rfl;exact rfl;exact rfl) | refine yt1 ?_ (ht := rfl) | refine yt1 ?_ | refine yt0 ?_ | refine yt ?_ ?_ | refine yo ?_ | apply zn | refine yc ?_ | intro _)
  refine fin rfl ?_
  try simp only [Zk0]
  try rfl
set_option maxHeartbeats 2000000 in
theorem Zmo (h : ao) (hl : h.ae <= 4000000) : Nw [.st (h.cs .n), .x (.b true)] = some ⟨[.st ((ah (MV) h).cs .y)], []⟩ := by
 have n4 := Z1t ab.ae h.aH
 have hb4 := (Z81 hl).2.2.2.1
 have hcp := M3 h hl
 have g1 : true = (!false) := rfl
 (refine Z6j rfl ?_; show Ev Nv.code _ _ _)
 repeat' (first | refine yy ?_ | refine ym ?_ | (apply ze;(iterate 5 exact rfl)) | (apply zf;(iterate 5 exact rfl)) | refine yp ?_ | refine yk br (hcp) ?_ | refine yt1 ?_ | refine yt0 ?_ | refine yt ?_ ?_ | refine yo ?_ | apply zn | refine yc ?_ | exact rfl | intro _)
 refine Z3v (fun i (p : List T × List ab × List ay) => [(1, .x (.b true)), (2, .box ⟨0, 0, 0⟩ (h.cs .n)), (4, .box ⟨0, 0, 0⟩ (ao.zero.cs .y)), (5, .box ⟨0, 0, 0⟩ [iT h.bP.Per, iT h.bP.jM, iT h.bP.mr, ints .y h.bP.bY, iT h.bP.px, iT h.bP.py, iT h.bP.mw, iT h.bP.Still, iT h.lA, .b h.pz, al.ls .y h.aO, ai.lss .y h.Rows, au.ls .y h.bX, iT h.js, .l .y 10 p.1, ay.ls .y p.2.2]), (6, .own ⟨0, 0, 0⟩ (.l .y 10 (p.2.1.map (ab.el .y)))), (7, .x (iT i))]) (bn (MV) h) h.aH.length _ (bn.init _ h) ?_ ?_
 ·first | rfl | (simp only [Zk0]; rfl)
 ·rintro i ⟨es, left, outs⟩ hil hinv ih
  have hlen := hinv.len
  have hsm := hinv.small hl
  obtain ⟨ha1, ha2⟩ := Zm2 hsm
  have ho : outs.length <= 4194304 := by omega
  simp only at hlen
  rcases Y79 i h.aH.length with hlt | hge
  ·have hx := Y34 hlt
   generalize h.aH[i]'_ = x at hx
   obtain ⟨E, rfl, hi⟩ := hinv.mid hx
   have hc : decide ((i : Int) < ((E.set i (ab.el .y x)).length : Nat)) = true := by simp only [List.length_set, decide_eq_true_eq]; omega
   repeat' (first | refine yy ?_ | refine ym ?_ | (apply ze;(iterate 5 exact rfl)) | (apply zf;(iterate 5 exact rfl)) | refine yp ?_ | refine yx (Zav hi) ?_ | refine yL (ab.cs .y x) (Zm5 rfl (Zax hi rfl)) ?_ | (apply zS;exact Zmf rfl rfl (by repeat (first | exact kO.nil _ | apply kO.x | (apply kO.w;exact rfl;exact Zm5 rfl (Zax (by assumption) rfl);exact rfl;exact Zm6 rfl (Zay (by assumption) rfl) rfl;exact rfl)));exact rfl;exact rfl;exact rfl;exact rfl;exact rfl;exact rfl;exact rfl;exact rfl;exact rfl;exact rfl) | refine yv sn (GW outs x.Key x.cJ ho) ?_ | (apply zV;(iterate 8 exact rfl);exact (ha1);exact (rfl);exact (ha1);exact rfl;exact rfl) | (apply zV;(iterate 8 exact rfl);exact (ha2);exact (rfl);exact (ha2);exact rfl;exact rfl) | refine ym ?_ (ht := rfl) | refine yp ?_ (ht := rfl) | refine yt1 ?_ (ht := rfl) | refine yt1 ?_ | refine yt0 ?_ | refine yt ?_ ?_ | refine yo ?_ | apply zn | refine yc ?_ | exact rfl | intro _)
   refine ih (E.set i (MW x), left, outs ++ [⟨ik outs x.Key x.cJ, x⟩]) hlt ?_ _ _ ?_
   ·exact hinv.next hx (by rw [az, show MV x = true from rfl]; rfl)
   ·rw [aM (by omega)]
    simp only [Zk0, ay.ls, Y49]; rfl
  ·have hie : i = h.aH.length := by omega
   have hc : decide ((i : Int) < (es.length : Nat)) = false := by simp only [decide_eq_false_iff_not]; omega
   have h2 := hinv.res
   rw [hie, Y72] at h2
   simp only at h2
   have e : ah (MV) h = { h with aH := left, aY := outs } := by rw [ah, <- h2]
   rw [e]
   repeat' (first | refine yy ?_ | refine ym ?_ | (apply ze;(iterate 5 exact rfl)) | (apply zf;(iterate 5 exact rfl)) | refine yp ?_ | refine yt1 ?_ | refine yt0 ?_ | refine yt ?_ ?_ | refine yo ?_ | apply zn | refine yc ?_ | exact rfl | intro _)
   refine fin rfl ?_
   try simp only [Zk0]
   try rfl
set_option maxHeartbeats 2000000 in
theorem Zmn (h : ao) (hl : h.ae <= 4000000) : Nw [.st (h.cs .n), .x (.b false)] = some ⟨[.st ((ah (MR h.bP h.lA) h).cs .y)], []⟩ := by
 have n4 := Z1t ab.ae h.aH
 have hb4 := (Z81 hl).2.2.2.1
 have hcp := M3 h hl
 have g1 : false = false := rfl
 (refine Z6j rfl ?_; show Ev Nv.code _ _ _)
 repeat' (first | refine yy ?_ | refine ym ?_ | (apply ze;(iterate 5 exact rfl)) | (apply zf;(iterate 5 exact rfl)) | refine yp ?_ | refine yk br (hcp) ?_ | refine yt1 ?_ | refine yt0 ?_ | refine yt ?_ ?_ | refine yo ?_ | apply zn | refine yc ?_ | exact rfl | intro _)
 refine Z3v (fun i (p : List T × List ab × List ay) => [(1, .x (.b false)), (2, .box ⟨0, 0, 0⟩ (h.cs .n)), (4, .box ⟨0, 0, 0⟩ (ao.zero.cs .y)), (5, .box ⟨0, 0, 0⟩ [iT h.bP.Per, iT h.bP.jM, iT h.bP.mr, ints .y h.bP.bY, iT h.bP.px, iT h.bP.py, iT h.bP.mw, iT h.bP.Still, iT h.lA, .b h.pz, al.ls .y h.aO, ai.lss .y h.Rows, au.ls .y h.bX, iT h.js, .l .y 10 p.1, ay.ls .y p.2.2]), (6, .own ⟨0, 0, 0⟩ (.l .y 10 (p.2.1.map (ab.el .y)))), (7, .x (iT i))]) (bn (MR h.bP h.lA) h) h.aH.length _ (bn.init _ h) ?_ ?_
 ·first | rfl | (simp only [Zk0]; rfl)
 ·rintro i ⟨es, left, outs⟩ hil hinv ih
  have hlen := hinv.len
  have hsm := hinv.small hl
  obtain ⟨ha1, ha2⟩ := Zm2 hsm
  have ho : outs.length <= 4194304 := by omega
  simp only at hlen
  rcases Y79 i h.aH.length with hlt | hge
  ·have hx := Y34 hlt
   generalize h.aH[i]'_ = x at hx
   obtain ⟨E, rfl, hi⟩ := hinv.mid hx
   have hc : decide ((i : Int) < ((E.set i (ab.el .y x)).length : Nat)) = true := by simp only [List.length_set, decide_eq_true_eq]; omega
   repeat' (first | refine yy ?_ | refine ym ?_ | (apply ze;(iterate 5 exact rfl)) | (apply zf;(iterate 5 exact rfl)) | refine yp ?_ | refine yx (Zav hi) ?_ | refine yL (ab.cs .y x) (Zm5 rfl (Zax hi rfl)) ?_ | (apply zS;exact Zmf rfl rfl (by repeat (first | exact kO.nil _ | apply kO.x | (apply kO.w;exact rfl;exact Zm5 rfl (Zax (by assumption) rfl);exact rfl;exact Zm6 rfl (Zay (by assumption) rfl) rfl;exact rfl)));exact rfl;exact rfl;exact rfl;exact rfl;exact rfl;exact rfl;exact rfl;exact rfl;exact rfl;exact rfl) | refine yv sn (GW outs x.Key x.cJ ho) ?_ | (apply zV;(iterate 8 exact rfl);exact (ha1);exact (rfl);exact (ha1);exact rfl;exact rfl) | (apply zV;(iterate 8 exact rfl);exact (ha2);exact (rfl);exact (ha2);exact rfl;exact rfl) | refine yy ?_ (ht := rfl) | refine yp ?_ (ht := rfl) | refine yk O8 (PR h.bP x.cJ (Z31 hl)) ?_ | refine yt1 ?_ | refine yt0 ?_ | refine yt ?_ ?_ | refine yo ?_ | apply zn | refine yc ?_ | exact rfl | intro _)
   ·rename_i hb
    refine ih (E.set i (MW x), left, outs ++ [⟨ik outs x.Key x.cJ, x⟩]) hlt ?_ _ _ ?_
    ·exact hinv.next hx (by rw [az, show MR h.bP h.lA x = true from hb]; rfl)
    ·rw [aM (by omega)]
     simp only [Zk0, ay.ls, Y49]; rfl
   ·rename_i hb
    refine ih (E.set i (MW x), left ++ [x], outs) hlt ?_ _ _ ?_
    ·exact hinv.next hx (by rw [az, show MR h.bP h.lA x = false from hb]; rfl)
    ·rw [aM (by omega)]
     simp only [Zk0, ay.ls, Y49]; rfl
  ·have hie : i = h.aH.length := by omega
   have hc : decide ((i : Int) < (es.length : Nat)) = false := by simp only [decide_eq_false_iff_not]; omega
   have h2 := hinv.res
   rw [hie, Y72] at h2
   simp only at h2
   have e : ah (MR h.bP h.lA) h = { h with aH := left, aY := outs } := by rw [ah, <- h2]
   rw [e]
   repeat' (first | refine yy ?_ | refine ym ?_ | (apply ze;(iterate 5 exact rfl)) | (apply zf;(iterate 5 exact rfl)) | refine yp ?_ | refine yt1 ?_ | refine yt0 ?_ | refine yt ?_ ?_ | refine yo ?_ | apply zn | refine yc ?_ | exact rfl | intro _)
   refine fin rfl ?_
   try simp only [Zk0]
   try rfl
theorem Qa (h : ao) (hl : h.ae <= 4000000) : Pf [.st (h.cs .n)] = some ⟨[.st ((aw h).cs .y)], []⟩ := by
 have hho := p5 h hl
 have hcp := M3 h hl
 have hfl := Zmo h hl
 cases hh : houseS h with
 | false =>
  rw [hh] at hho
  rw [show aw h = h by rw [aw, hh]; rfl]
  (refine Z6j rfl ?_; show Ev Nx.code _ _ _)
  repeat' (first | refine yk br (hcp) ?_ | refine yk iR (hho) ?_ | refine yt1 ?_ (ht := rfl) | refine yt1 ?_ | refine yt0 ?_ | refine yt ?_ ?_ | refine yo ?_ | apply zn | refine yc ?_ | intro _)
  refine fin rfl ?_
  try simp only [Zk0]
  try rfl
 | true =>
  rw [hh] at hho
  rw [show aw h = ah (MV) h by rw [aw, hh]; rfl]
  (refine Z6j rfl ?_; show Ev Nx.code _ _ _)
  repeat' (first | refine yk iR (hho) ?_ | refine yk Nj (hfl) ?_ | refine yt0 ?_ (ht := rfl) | refine yt1 ?_ | refine yt0 ?_ | refine yt ?_ ?_ | refine yo ?_ | apply zn | refine yc ?_ | intro _)
  refine fin rfl ?_
  try simp only [Zk0]
  try rfl
theorem Qb (h : ao) (hl : h.ae <= 4000000) : Ph [.st (h.cs .n)] = some ⟨[.st ((ax h).cs .y)], []⟩ := by
 have hho := p5 h hl
 have hcp := M3 h hl
 have hfl := Zmn h hl
 cases hh : houseS h with
 | false =>
  rw [hh] at hho
  rw [show ax h = h by rw [ax, hh]; rfl]
  (refine Z6j rfl ?_; show Ev NA.code _ _ _)
  repeat' (first | refine yk br (hcp) ?_ | refine yk iR (hho) ?_ | refine yt1 ?_ (ht := rfl) | refine yt1 ?_ | refine yt0 ?_ | refine yt ?_ ?_ | refine yo ?_ | apply zn | refine yc ?_ | intro _)
  refine fin rfl ?_
  try simp only [Zk0]
  try rfl
 | true =>
  rw [hh] at hho
  rw [show ax h = ah (MR h.bP h.lA) h by rw [ax, hh]; rfl]
  (refine Z6j rfl ?_; show Ev NA.code _ _ _)
  repeat' (first | refine yk iR (hho) ?_ | refine yk Nj (hfl) ?_ | refine yt0 ?_ (ht := rfl) | refine yt1 ?_ | refine yt0 ?_ | refine yt ?_ ?_ | refine yo ?_ | apply zn | refine yc ?_ | intro _)
  refine fin rfl ?_
  try simp only [Zk0]
  try rfl
end Go.Wr
namespace Go.Wr
set_option maxRecDepth 20000
theorem Zph (a : ao) (hl : a.ae <= 1048576) : lG [.st (a.cs .n), .st (a.cs .n)] = some ⟨[.one (.b true)], []⟩ := by rw [zr a a hl]; simp
set_option maxHeartbeats 4000000 in
theorem QR (a : ao) (ha : a.fit) : QB [.st (a.cs .n)] = some ⟨[.one (.b true)], []⟩ := by
 have r0 : Rng 1048576 := ⟨by omega, by omega⟩
 have s1 := pN a 1048576 r0 ha
 cases h1 : decide (left 1048576 a.ae < 0) with
 | true =>
  (refine Z6j rfl ?_; show Ev Ny.code _ _ _)
  repeat' (first | refine yy ?_ | refine ym ?_ | (apply ze;(iterate 5 exact rfl)) | (apply zf;(iterate 5 exact rfl)) | refine yp ?_ | refine yv iP (s1) ?_ | refine yt1 ?_ | refine yt0 ?_ | refine yt ?_ ?_ | refine yo ?_ | apply zn | refine yc ?_ | exact rfl | intro _)
  exact fin rfl rfl
 | false =>
  have o1 := Z9q r0 h1
  have la : a.ae <= 1048576 := by omega
  have lb : a.ae <= 4000000 := by omega
  have k1 : (1 : Int) + (ao.wS a : Int) <= bL := Z84 lb
  have m1 := pR a 1 (by decide) k1
  have c1 := nnd (ao.okS a 1 0 (by decide) k1).1
  have q1 := Qa a lb
  have q2 := P8 a lb
  have b0 : (aw a).ae <= 1048576 := by rw [Zm9]; exact la
  generalize aw a = r0 at q1 q2 b0
  have w0 : (1 : Int) + (ao.wS r0 : Int) <= bL := Z84 (Y77 b0 (by decide))
  have m20 := pR r0 1 (by decide) w0
  have m30 := NC r0 1 (by decide) w0
  have c20 := nnd (ao.okS r0 1 0 (by decide) w0).1
  have e10 := Zph r0 b0
  have e2 := Zph a la
  (refine Z6j rfl ?_; show Ev Ny.code _ _ _)
  repeat' (first | refine yy ?_ | refine ym ?_ | (apply ze;(iterate 5 exact rfl)) | (apply zf;(iterate 5 exact rfl)) | refine yp ?_ | refine yv iP (s1) ?_ | refine yv fS (pP a la) ?_ | refine yw O9 (q1) (Z2f (ao.cl _) rfl) ?_ | refine yw N5 (q2) (Z2f (ao.cl _) rfl) ?_ | refine yv kf (e10) ?_ | refine yN kh m20 ?_ | refine yv MS (m30) ?_ | refine yv kf (e2) ?_ | refine yN kh m1 ?_ | refine yy ?_ (ht := rfl) | refine ym ?_ (ht := rfl) | refine yp ?_ (ht := rfl) | refine yt0 ?_ (ht := rfl) | refine yt0 ?_ (ht := neB _) | refine yt0 ?_ (ht := neI _) | refine yt1 ?_ | refine yt0 ?_ | refine yt ?_ ?_ | refine yo ?_ | apply zn | refine yc ?_ | exact rfl | intro _)
  all_goals exact fin rfl rfl
set_option maxHeartbeats 4000000 in
theorem QS (a : ao) (ha : a.fit) : QC [.st (a.cs .n)] = some ⟨[.one (.b true)], []⟩ := by
 have r0 : Rng 1048576 := ⟨by omega, by omega⟩
 have s1 := pN a 1048576 r0 ha
 cases h1 : decide (left 1048576 a.ae < 0) with
 | true =>
  (refine Z6j rfl ?_; show Ev NB.code _ _ _)
  repeat' (first | refine yy ?_ | refine ym ?_ | (apply ze;(iterate 5 exact rfl)) | (apply zf;(iterate 5 exact rfl)) | refine yp ?_ | refine yv iP (s1) ?_ | refine yt1 ?_ | refine yt0 ?_ | refine yt ?_ ?_ | refine yo ?_ | apply zn | refine yc ?_ | exact rfl | intro _)
  exact fin rfl rfl
 | false =>
  have o1 := Z9q r0 h1
  have la : a.ae <= 1048576 := by omega
  have lb : a.ae <= 4000000 := by omega
  have k1 : (1 : Int) + (ao.wS a : Int) <= bL := Z84 lb
  have m1 := pR a 1 (by decide) k1
  have c1 := nnd (ao.okS a 1 0 (by decide) k1).1
  have q1 := Qb a lb
  have q2 := P9 a lb
  have b0 : (ax a).ae <= 1048576 := by rw [Zmb]; exact la
  generalize ax a = r0 at q1 q2 b0
  have w0 : (1 : Int) + (ao.wS r0 : Int) <= bL := Z84 (Y77 b0 (by decide))
  have m20 := pR r0 1 (by decide) w0
  have m30 := NC r0 1 (by decide) w0
  have c20 := nnd (ao.okS r0 1 0 (by decide) w0).1
  have e10 := Zph r0 b0
  have e2 := Zph a la
  (refine Z6j rfl ?_; show Ev NB.code _ _ _)
  repeat' (first | refine yy ?_ | refine ym ?_ | (apply ze;(iterate 5 exact rfl)) | (apply zf;(iterate 5 exact rfl)) | refine yp ?_ | refine yv iP (s1) ?_ | refine yv fS (pP a la) ?_ | refine yw Pa (q1) (Z2f (ao.cl _) rfl) ?_ | refine yw N6 (q2) (Z2f (ao.cl _) rfl) ?_ | refine yv kf (e10) ?_ | refine yN kh m20 ?_ | refine yv MS (m30) ?_ | refine yv kf (e2) ?_ | refine yN kh m1 ?_ | refine yy ?_ (ht := rfl) | refine ym ?_ (ht := rfl) | refine yp ?_ (ht := rfl) | refine yt0 ?_ (ht := rfl) | refine yt0 ?_ (ht := neB _) | refine yt0 ?_ (ht := neI _) | refine yt1 ?_ | refine yt0 ?_ | refine yt ?_ ?_ | refine yo ?_ | apply zn | refine yc ?_ | exact rfl | intro _)
  all_goals exact fin rfl rfl
end Go.Wr

