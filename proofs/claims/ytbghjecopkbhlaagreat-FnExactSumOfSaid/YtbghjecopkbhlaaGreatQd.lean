/-
  What is proved: lemmas on the way to the laws of this seat. No condition.
-/
import Derived.Test.YtbghjecopkbhlaaGreatQc
import Derived.Test.YtbghjecopkbhlaaGreatPb
import Derived.Test.YtbghjecopkbhlaaGreatHa
import Derived.Test.YtbghjecopkbhlaaGreatHb
import Derived.Test.YtbghjecopkbhlaaGreatTa
set_option linter.unusedVariables false
set_option linter.unusedSimpArgs false
namespace Go.Wr
set_option maxRecDepth 20000
end Go.Wr
namespace Go.Wr
set_option maxRecDepth 20000
end Go.Wr
namespace Go.Wr
set_option maxRecDepth 20000
end Go.Wr
namespace Go.Wr
set_option maxRecDepth 20000
end Go.Wr
namespace Go.Wr
set_option maxRecDepth 20000
end Go.Wr
namespace Go.Wr
set_option maxRecDepth 20000
end Go.Wr
namespace Go.Wr
set_option maxRecDepth 20000
end Go.Wr
namespace Go.Wr
set_option maxRecDepth 20000
theorem q10_eq (n lo hi : Int) : F_q10 [.x (iT n), .x (iT lo), .x (iT hi)] = some ⟨[.one (iT (min (max n lo) hi))], []⟩ := by
 (refine Z6j rfl ?_; show Ev m_q10.code _ _ _)
 repeat' (first | refine yo ?_ | apply zn | refine yc ?_ | intro _)
 refine fin rfl (outI ?_)
 show (if hi < (if lo > n then lo else n) then hi else (if lo > n then lo else n)) = _
 split <;> split <;> omega
theorem q11_eq (a b : Int) : F_q11 [.x (iT a), .x (iT b)] = some ⟨[.one (iT (addZ a b))], []⟩ := by
 (refine Z6j rfl ?_; show Ev m_q11.code _ _ _)
 repeat' (first | refine yk g_q10 (q10_eq _ _ _) ?_ | refine yo ?_ | apply zn | refine yc ?_ | intro _)
 refine fin rfl (outI ?_)
 show (if (1000000000 : Int) < IntKind.i64.wrap (min (max a 0) 1000000000 + min (max b 0) 1000000000) then (1000000000 : Int) else IntKind.i64.wrap (min (max a 0) 1000000000 + min (max b 0) 1000000000)) = _
 rw [w64 (by omega), addZ]
 split <;> omega
theorem q41_eq (n m : Int) : F_q41 [.x (iT n), .x (iT m)] = some ⟨[.one (iT (max 0 (min n m)))], []⟩ := by
 (refine Z6j rfl ?_; show Ev m_q41.code _ _ _)
 repeat' (first | refine yk g_q3d (q3d_eq _ _) ?_ | refine yk g_q3c (q3c_eq _ _) ?_ | refine yo ?_ | apply zn | refine yc ?_ | intro _)
 exact fin rfl rfl
theorem q42_eq (a b : Int) : F_q42 [.x (iT a), .x (iT b)] = some ⟨[.one (iT (addZ a b))], []⟩ := by
 (refine Z6j rfl ?_; show Ev m_q42.code _ _ _)
 repeat' (first | refine yk g_q41 (q41_eq _ _) ?_ | refine yk g_q3d (q3d_eq _ _) ?_ | refine yo ?_ | apply zn | refine yc ?_ | intro _)
 refine fin rfl (outI ?_)
 rw [w64 (by omega), addZ]
theorem qz_eq : F_qz [] = some ⟨[.st (newS.cs .y)], []⟩ := by
 (refine Z6j rfl ?_; show Ev m_qz.code _ _ _)
 repeat' (first | (apply zs;(iterate 3 exact rfl);exact (by decide);exact (by simp [lenMax]);exact rfl;exact rfl) | refine yo ?_ | apply zn | refine yc ?_ | intro _)
 exact fin rfl rfl
theorem q40_eq : F_q40 [] = some ⟨[.st (newS.cs .y)], []⟩ := by
 (refine Z6j rfl ?_; show Ev m_q40.code _ _ _)
 repeat' (first | (apply zs;(iterate 3 exact rfl);exact (by decide);exact (by simp [lenMax]);exact rfl;exact rfl) | refine yo ?_ | apply zn | refine yc ?_ | intro _)
 exact fin rfl rfl
theorem Zj0 {x : GSketch} (h : x.bulk <= 4194304) : x.Hist.length <= 4194304 /\ x.Regs.length <= 4194304 /\ x.Rows.length <= 4194304 /\ ∀ (i : Nat) r, x.Rows[i]? = some r -> r.length <= 4194304 := by
 have h1 := Z1t List.length x.Rows
 unfold GSketch.bulk at h
 refine ⟨by omega, by omega, by omega, fun i r hr => ?_⟩
 have := Z1v (f := List.length) hr
 omega
end Go.Wr
namespace Go.Wr
set_option maxRecDepth 20000
theorem q12_eq (x : GSketch) (hl : x.bulk <= 4194304) : F_q12 [.st (x.cs .n)] = some ⟨[.st (x.cs .y)], []⟩ := by
 obtain ⟨h1, h2, h3, h4⟩ := Zj0 hl
 (refine Z6j rfl ?_; show Ev m_q12.code _ _ _)
 repeat' (first | refine yk g_q8 (q8_eq x.Hist h1) ?_ | refine yk g_q8 (q8_eq x.Regs h2) ?_ | refine yt1 ?_ | refine yt0 ?_ | refine yt ?_ ?_ | refine yo ?_ | apply zn | refine yc ?_ | intro _)
 refine zfor (ints .n) x.Rows (fun i (es : List T) => [(1, .box ⟨0, 0, 0⟩ (x.cs .n)), (2, .box ⟨0, 0, 0⟩ [iT 0, iT 0, iT 0, iT 0, .l .y 1 [], .l .y 1 [], .l .y 1 []]), (3, .box ⟨0, 0, 0⟩ [iT x.Count, iT x.Sum, iT x.Min, iT x.Max, ints .y x.Hist, ints .y x.Regs, .l .y 1 es]), (17, .x (GInt.lss .n x.Rows)), (18, .x (iT (x.Rows.map (ints .n)).length)), (19, .x (iT i))]) (fun i es => es = (x.Rows.take i).map (ints .y)) [] rfl rfl ?_ ?_
 ·rintro i es r hx hlt hc _ hinv ih
  have hrl := h4 i r hx
  have happ : es.length + 1 < lenMax := by
   rw [hinv, Y45, Y48]; unfold lenMax; omega
  repeat' (first | refine yi (ints .n r) (Zar hx) ?_ | refine yk g_q8 (q8_eq r hrl) ?_ | (apply zV;(iterate 8 exact rfl);exact (happ);exact (rfl);exact (happ);exact rfl;exact rfl) | refine yt1 ?_ | refine yt0 ?_ | refine yt ?_ ?_ | refine yo ?_ | apply zn | refine yc ?_ | intro _)
  refine ih (es ++ [ints .y r]) ?_ _ _ ?_
  ·rw [hinv, Zat hx]
  ·rw [w64s (by omega)]; rfl
 ·rintro es hc _ hinv
  rw [Y72] at hinv
  subst hinv
  repeat' (first | refine yt1 ?_ | refine yt0 ?_ | refine yt ?_ ?_ | refine yo ?_ | apply zn | refine yc ?_ | intro _)
  refine fin rfl ?_
  try simp only [Zk0]
  try rfl
theorem q14_eq (e : GEntry) (hl : e.bulk <= 4194304) : F_q14 [.st (e.cs .n)] = some ⟨[.st (e.cs .y)], []⟩ := by
 have h1 : e.Ids.length <= 4194304 := by unfold GEntry.bulk at hl; omega
 have h2 : e.Sketch.bulk <= 4194304 := by unfold GEntry.bulk at hl; omega
 (refine Z6j rfl ?_; show Ev m_q14.code _ _ _)
 repeat' (first | refine yk g_qe (qe_eq e.Ids h1) ?_ | refine yk g_q12 (q12_eq e.Sketch h2) ?_ | refine yo ?_ | apply zn | refine yc ?_ | intro _)
 refine fin rfl ?_
 try simp only [Zk0]
 try rfl
theorem Zn8 {α : Type} {p : α -> Bool} {l : List α} {i : Nat} {x : α} (h : l[i]? = some x) : (l.take (i + 1)).filter p = (l.take i).filter p ++ (if p x then [x] else []) := by
 rw [Y70, h, List.filter_append]; simp [List.filter_cons]
theorem Zn7 {α : Type} {p : α -> Bool} {l : List α} {i : Nat} : ((l.take i).filter p).length <= i := Y77 (List.length_filter_le _ _) (by rw [Y48]; omega)
theorem q17_eq (l : List GEntry) (k w : Int) (hl : l.length <= 4194304) : F_q17 [.x (GEntry.ls .n l), .x (iT k), .x (iT w)] = some ⟨[.one (.l .y 10 ((l.filter (atE k w)).map (GEntry.el .n)))], []⟩ := by
 (refine Z6j rfl ?_; show Ev m_q17.code _ _ _)
 repeat' (first | refine yy ?_ | refine ym ?_ | (apply ze;(iterate 5 exact rfl)) | (apply zf;(iterate 5 exact rfl)) | refine yp ?_ | refine yt1 ?_ | refine yt0 ?_ | refine yt ?_ ?_ | refine yo ?_ | apply zn | refine yc ?_ | exact rfl | intro _)
 refine zfor (GEntry.el .n) l (fun i (es : List T) => [(1, .x (iT k)), (2, .x (iT w)), (7, .own ⟨0, 0, 0⟩ (.l .y 10 es)), (10, .x (GEntry.ls .n l)), (11, .x (iT (l.map (GEntry.el .n)).length)), (12, .x (iT i))]) (fun i es => es = ((l.take i).filter (atE k w)).map (GEntry.el .n)) [] rfl rfl ?_ ?_
 ·rintro i es e hx hlt hc _ hinv ih
  have hlen : es.length + [e].length <= 4194304 := by
   rw [hinv, Y45]
   have := Zn7 (p := atE k w) (l := l) (i := i)
   simp; omega
  repeat' (first | refine yy ?_ | refine ym ?_ | (apply ze;(iterate 5 exact rfl)) | (apply zf;(iterate 5 exact rfl)) | refine yp ?_ | refine yi (GEntry.el .n e) (Zar hx) ?_ | (apply zV;(iterate 8 exact rfl);exact (Zo (f := GEntry.el .n) hlen);exact (rfl);exact (Zo (f := GEntry.el .n) hlen);exact rfl;exact rfl) | refine yt1 ?_ | refine yt0 ?_ | refine yt ?_ ?_ | refine yo ?_ | apply zn | refine yc ?_ | exact rfl | intro _)
  ·rename_i h
   have h2 : atE k w e = true := h
   refine ih (es ++ [GEntry.el .n e]) ?_ _ _ ?_
   ·rw [hinv, Zn8 hx, h2]; simp
   ·rw [w64s (by omega)]; rfl
  ·rename_i h
   have h2 : atE k w e = false := h
   refine ih es ?_ _ _ ?_
   ·rw [hinv, Zn8 hx, h2]; simp
   ·rw [w64s (by omega)]; rfl
 ·rintro es hc _ hinv
  rw [Y72] at hinv
  subst hinv
  repeat' (first | refine yy ?_ | refine ym ?_ | (apply ze;(iterate 5 exact rfl)) | (apply zf;(iterate 5 exact rfl)) | refine yp ?_ | refine yt1 ?_ | refine yt0 ?_ | refine yt ?_ ?_ | refine yo ?_ | apply zn | refine yc ?_ | exact rfl | intro _)
  exact fin rfl (by simp only [Zk0])
theorem Zpd {f : Int -> Int -> Int} {a b : List Int} {i : Nat} {x y : Int} (hx : a[i]? = some x) (hy : b[i]? = some y) : (List.zipWith f a b)[i]? = some (f x y) := by
 rw [List.getElem?_zipWith, hx, hy]
theorem q43_eq (a b : List Int) (hl : a.length <= 4194304) (hb : a.length <= b.length) : F_q43 [.x (ints .n a), .x (ints .n b)] = some ⟨[.one (ints .y (List.zipWith addZ a b))], []⟩ := by
 (refine Z6j rfl ?_; show Ev m_q43.code _ _ _)
 repeat' (first | refine yt1 ?_ | refine yt0 ?_ | refine yt ?_ ?_ | refine yo ?_ | apply zn | refine yc ?_ | intro _)
 refine zfor iT a (fun i (es : List T) => [(0, .x (ints .n a)), (1, .x (ints .n b)), (5, .own ⟨0, 0, 0⟩ (.l .y 1 es)), (6, .x (iT i))]) (fun i es => es = ((List.zipWith addZ a b).take i).map iT) [] rfl rfl ?_ ?_
 ·rintro i es x hx hlt hc _ hinv ih
  have hy := Y34 (show i < b.length by omega)
  generalize b[i]'(by omega) = y at hy
  have happ : es.length + [iT (addZ x y)].length < lenMax := by
   show es.length + 1 < lenMax
   rw [hinv, Y45, Y48]; unfold lenMax; omega
  repeat' (first | refine yi (iT x) (Zar hx) ?_ | refine yi (iT y) (Zar hy) ?_ | refine yk g_q42 (q42_eq x y) ?_ | (apply zv;(iterate 7 exact rfl);exact (happ);exact (rfl);exact rfl;exact rfl) | refine yt1 ?_ | refine yt0 ?_ | refine yt ?_ ?_ | refine yo ?_ | apply zn | refine yc ?_ | intro _)
  refine ih (es ++ [iT (addZ x y)]) ?_ _ _ ?_
  ·rw [hinv, Zat (Zpd hx hy)]
  ·rw [w64s (by omega)]; rfl
 ·rintro es hc _ hinv
  rw [Y73 (by rw [List.length_zipWith]; omega)] at hinv
  subst hinv
  repeat' (first | refine yt1 ?_ | refine yt0 ?_ | refine yt ?_ ?_ | refine yo ?_ | apply zn | refine yc ?_ | intro _)
  exact fin rfl (by simp only [Zk0])
set_option maxHeartbeats 2000000 in
theorem q44_eq (a b : GSketch) (ha : SkR a) (hb : SkR b) : F_q44 [.st (a.cs .n), .st (b.cs .n)] = some ⟨[.st ((mergeS a b).cs .y)], []⟩ := by
 obtain ⟨ac, az, an, ax, ah, ar, aw⟩ := a
 obtain ⟨bc, bs, bn, bx, bh, br, bw⟩ := b
 obtain ⟨_, _, _, _, ⟨ha5, _⟩, ⟨ha6, _⟩, ha7, ha8⟩ := ha
 obtain ⟨_, _, _, _, ⟨hb5, _⟩, ⟨hb6, _⟩, hb7, hb8⟩ := hb
 simp only at *
 match aw, bw, ha7, hb7 with
 | [p, q], [p', q'], _, _ =>
 have hp := (ha8 p (by simp)).1
 have hq := (ha8 q (by simp)).1
 have hp' := (hb8 p' (by simp)).1
 have hq' := (hb8 q' (by simp)).1
 have k0 : ([p, q].map (ints .n))[(0 : Int).toNat]? = some (ints .n p) := rfl
 have k1 : ([p, q].map (ints .n))[(1 : Int).toNat]? = some (ints .n q) := rfl
 have k0' : ([p', q'].map (ints .n))[(0 : Int).toNat]? = some (ints .n p') := rfl
 have k1' : ([p', q'].map (ints .n))[(1 : Int).toNat]? = some (ints .n q') := rfl
 (refine Z6j rfl ?_; show Ev m_q44.code _ _ _)
 repeat' (first | refine yk g_q42 (q42_eq _ _) ?_ | refine yk g_q3d (q3d_eq _ _) ?_ | refine yk g_q3c (q3c_eq _ _) ?_ | (apply zi (ints .n p);exact rfl;exact rfl;exact (by decide);exact (k0);exact rfl;exact rfl) | (apply zi (ints .n q);exact rfl;exact rfl;exact (by decide);exact (k1);exact rfl;exact rfl) | (apply zi (ints .n p');exact rfl;exact rfl;exact (by decide);exact (k0');exact rfl;exact rfl) | (apply zi (ints .n q');exact rfl;exact rfl;exact (by decide);exact (k1');exact rfl;exact rfl) | refine yk g_q43 (q43_eq ah bh (by omega) (by omega)) ?_ | refine yk g_q43 (q43_eq p p' (by omega) (by omega)) ?_ | refine yk g_q43 (q43_eq q q' (by omega) (by omega)) ?_ | refine yt1 ?_ | refine yt0 ?_ | refine yt ?_ ?_ | refine yo ?_ | apply zn | refine yc ?_ | intro _)
 all_goals
  rename_i h1 h2
  simp only [beq_iff_eq, beq_eq_false_iff_ne, ne_eq] at h1 h2
  refine zfor iT ar (fun i (es : List T) => [(2, .box ⟨0, 0, 0⟩ ((⟨ac, az, an, ax, ah, ar, [p, q]⟩ : GSketch).cs .n)), (3, .box ⟨0, 0, 0⟩ ((⟨bc, bs, bn, bx, bh, br, [p', q']⟩ : GSketch).cs .n)), (4, .box ⟨0, 0, 0⟩ [iT 0, iT 0, iT 0, iT 0, .l .y 1 [], .l .y 1 [], .l .y 1 []]), (5, .box ⟨0, 0, 0⟩ [iT (addZ ac bc), iT (addZ az bs), iT (if bc = 0 then an else if ac = 0 then bn else min an bn), iT (max ax bx), ints .y (List.zipWith addZ ah bh), .l .y 1 es, .l .y 1 [ints .y (List.zipWith addZ p p'), ints .y (List.zipWith addZ q q')]]), (6, .x (iT i))]) (fun i es => es = ((List.zipWith max ar br).take i).map iT) [] rfl (by first | (rw [if_pos h2]; rfl) | (rw [if_neg h2, if_pos h1]; rfl) | (rw [if_neg h2, if_neg h1]; rfl)) ?_ ?_
  ·rintro i es x hx hlt _ _ hinv ih
   have hc : decide ((i : Int) < 8) = true := by simp; omega
   have hy := Y34 (show i < br.length by omega)
   generalize br[i]'(by omega) = y at hy
   have happ : es.length + [iT (max x y)].length < lenMax := by
    show es.length + 1 < lenMax
    rw [hinv, Y45, Y48]; unfold lenMax; omega
   repeat' (first | refine yi (iT x) (Zar hx) ?_ | refine yi (iT y) (Zar hy) ?_ | refine yk g_q3c (q3c_eq x y) ?_ | (apply zv;(iterate 7 exact rfl);exact (happ);exact (rfl);exact rfl;exact rfl) | refine yt1 ?_ | refine yt0 ?_ | refine yt ?_ ?_ | refine yo ?_ | apply zn | refine yc ?_ | intro _)
   refine ih (es ++ [iT (max x y)]) ?_ _ _ ?_
   ·rw [hinv, Zat (Zpd hx hy)]
   ·rw [w64s (by omega)]; rfl
  ·rintro es _ _ hinv
   have hc : decide ((ar.length : Int) < 8) = false := by rw [ha6]; rfl
   rw [Y73 (by rw [List.length_zipWith]; omega)] at hinv
   subst hinv
   repeat' (first | refine yt1 ?_ | refine yt0 ?_ | refine yt ?_ ?_ | refine yo ?_ | apply zn | refine yc ?_ | intro _)
   refine fin rfl ?_
   try simp only [Zk0]
   try rfl
end Go.Wr
namespace Go.Wr
set_option maxRecDepth 20000
def zipTo {α : Type} (f : α -> α -> α) (a b : List α) (i : Nat) : List α := List.zipWith f (a.take i) (b.take i) ++ a.drop i
section
variable {α : Type} {f : α -> α -> α} {a b : List α} {i : Nat} {x y : α}
theorem zipTo_zero : zipTo f a b 0 = a := by simp [zipTo]
theorem Zpb (ha : i <= a.length) (hb : i <= b.length) : (List.zipWith f (a.take i) (b.take i)).length = i := by rw [List.length_zipWith, Y48, Y48]; omega
theorem Zp9 (hx : a[i]? = some x) (hb : i < b.length) : (zipTo f a b i)[i]? = some x := by
 have ha := (Y36.1 hx).1
 rw [zipTo, Y30 (by rw [Zpb (by omega) (by omega)]; omega), Zpb (by omega) (by omega), Y33]
 simpa using hx
theorem Zpc (hx : a[i]? = some x) (hy : b[i]? = some y) : (zipTo f a b i).set i (f x y) = zipTo f a b (i + 1) := by
 obtain ⟨ha, rfl⟩ := Y36.1 hx
 obtain ⟨hb, rfl⟩ := Y36.1 hy
 have h2 : List.zipWith f (a.take (i + 1)) (b.take (i + 1)) = List.zipWith f (a.take i) (b.take i) ++ [f a[i] b[i]] := by
  rw [Y70, Y70, hx, hy, List.zipWith_append (by rw [Y48, Y48]; omega)]
  rfl
 rw [zipTo, List.set_append_right _ _ (by rw [Zpb (by omega) (by omega)]; omega), Zpb (by omega) (by omega), Nat.sub_self, List.drop_eq_getElem_cons ha, List.set_cons_zero, zipTo, h2, Y21]
 rfl
theorem Zpa (h : a.length = b.length) : zipTo f a b b.length = List.zipWith f a b := by rw [zipTo, Y73 (by omega), Y73 (by omega), List.drop_eq_nil_of_le (by omega), Y22]
theorem Zmm {l : List α} (h : l[i]? = some x) : l.set i x = l := by
 obtain ⟨_, rfl⟩ := Y36.1 h
 exact List.set_getElem_self ..
theorem Zod {l : List α} (h : i < l.length) : (l.set i x)[i]? = some x := by rw [Y39 h]
end
theorem Zoi {x : GSketch} (h : SkR x) : x.bulk <= 100 := by
 obtain ⟨_, _, _, _, ⟨h5, _⟩, ⟨h6, _⟩, h7, h8⟩ := h
 match hx : x.Rows, h7 with
 | [p, q], _ =>
 have hp := (h8 p (by rw [hx]; simp)).1
 have hq := (h8 q (by rw [hx]; simp)).1
 simp [GSketch.bulk, bulks, hx, h5, h6, hp, hq]
theorem Znv (a b : Int) : (if b > a then b else a) = max a b := by split <;> omega
theorem Znx {a b : GSketch} (ha : SkR a) (hb : SkR b) (h : ((a.Count == 0) || (decide (b.Count > 0) && decide (b.Min < a.Min))) = true) : (mergeS a b).Min = b.Min := by
 simp only [Y14, beq_iff_eq, Y2, decide_eq_true_eq] at h
 have h1 := ha.mn; have h2 := hb.mn; have h3 := ha.zero; have h4 := hb.zero; have := hb.cnt
 simp only [mergeS]
 split
 ·omega
 ·split <;> omega
theorem Znw {a b : GSketch} (ha : SkR a) (hb : SkR b) (h : ((a.Count == 0) || (decide (b.Count > 0) && decide (b.Min < a.Min))) = false) : (mergeS a b).Min = a.Min := by
 simp only [Bool.or_eq_false_iff, beq_eq_false_iff_ne, Bool.and_eq_false_iff, decide_eq_false_iff_not] at h
 have := hb.cnt
 simp only [mergeS]
 split
 ·rfl
 ·split
  ·exact absurd ‹_› h.1
  ·omega
set_option maxHeartbeats 2000000 in
theorem q13_eq (a b : GSketch) (ha : SkR a) (hb : SkR b) : F_q13 [.st (a.cs .n), .st (b.cs .n)] = some ⟨[.st ((mergeS a b).cs .y), .one (.b true)], []⟩ := by
 have hla := Zoi ha
 have hlb := Zoi hb
 have hb5 := hb.hist.1
 have hb6 := hb.regs.1
 have hb7 := hb.rows.1
 have hoa := (Zok a).2 ha
 have hob := (Zok b).2 hb
 have hok : (!a.ok || !b.ok) = false := by rw [hoa, hob]; rfl
 have hc : 0 <= b.Count /\ b.Count <= 1000000000 := hb.cnt
 have hmx : (mergeS a b).Max = if b.Max > a.Max then b.Max else a.Max := (Znv _ _).symm
 (refine Z6j rfl ?_; show Ev m_q13.code _ _ _)
 repeat' (first | refine yy ?_ | refine ym ?_ | (apply ze;(iterate 5 exact rfl)) | (apply zf;(iterate 5 exact rfl)) | refine yp ?_ | refine yk g_qa (qa_eq a (by omega)) ?_ | refine yk g_qa (qa_eq b (by omega)) ?_ | refine yk g_q12 (q12_eq a (by omega)) ?_ | refine yk g_q11 (q11_eq _ _) ?_ | refine yt1 ?_ | refine yt0 ?_ | refine yt ?_ ?_ | refine yo ?_ | apply zn | refine yc ?_ | exact rfl | intro _)
 all_goals
  rename_i hm
  refine zfor iT b.Hist (fun i (hs : List Int) => [(3, .box ⟨0, 0, 0⟩ (b.cs .n)), (4, .box ⟨0, 0, 0⟩ [iT 0, iT 0, iT 0, iT 0, .l .y 1 [], .l .y 1 [], .l .y 1 []]), (6, .box ⟨0, 0, 0⟩ [iT (addZ a.Count b.Count), iT (addZ a.Sum b.Sum), iT (mergeS a b).Min, iT (mergeS a b).Max, .l .y 1 (hs.map iT), .l .y 1 (a.Regs.map iT), .l .y 1 (a.Rows.map (ints .y))]), (63, .x (ints .n b.Hist)), (64, .x (iT (b.Hist.map iT).length)), (65, .x (iT i))]) (fun i hs => hs = zipTo addZ a.Hist b.Hist i) a.Hist zipTo_zero.symm (by first | (rw [hmx, Znx ha hb hm]; rfl) | (rw [hmx, Znw ha hb hm]; rfl)) ?_ ?_
  ·rintro i hs y hy hlt hc2 _ hinv ih
   have hx := Y34 (show i < a.Hist.length by rw [ha.hist.1]; rw [hb.hist.1] at hlt; omega)
   generalize a.Hist[i]'_ = x at hx
   have hg : hs[i]? = some x := hinv ▸ Zp9 hx hlt
   repeat' (first | refine yy ?_ | refine ym ?_ | (apply ze;(iterate 5 exact rfl)) | (apply zf;(iterate 5 exact rfl)) | refine yp ?_ | refine yi (iT y) (Zar hy) ?_ | refine yx (Zcs (Y36.1 hg).1) ?_ | (apply zl (iT x);exact rfl;exact rfl;exact (by simp [T.nav, T.kid, hg]);(iterate 3 exact rfl)) | refine yk g_q11 (q11_eq x y) ?_ | (apply zS (iT x) (.a [iT (addZ a.Count b.Count), iT (addZ a.Sum b.Sum), iT (mergeS a b).Min, iT (mergeS a b).Max, .l .y 1 ((hs.set i (addZ x y)).map iT), .l .y 1 (a.Regs.map iT), .l .y 1 (a.Rows.map (ints .y))]);(iterate 4 exact rfl);exact (by simp [T.nav, T.kid, hg]);exact (by simp [T.mine, Ob.own, hg]);exact rfl;exact (by simp [T.put, T.kid, T.setKid, hg, List.map_set, T.ofCells, T.cells, splice]);(iterate 3 exact rfl)) | refine yt1 ?_ | refine yt0 ?_ | refine yt ?_ ?_ | refine yo ?_ | apply zn | refine yc ?_ | exact rfl | intro _)
   refine ih (hs.set i (addZ x y)) ?_ _ _ ?_
   ·rw [hinv, Zpc hx hy]
   ·rw [w64s (by omega)]; rfl
  ·rintro hs hc2 _ hinv
   rw [Zpa (by rw [ha.hist.1, hb.hist.1])] at hinv
   subst hinv
   repeat' (first | refine yy ?_ | refine ym ?_ | (apply ze;(iterate 5 exact rfl)) | (apply zf;(iterate 5 exact rfl)) | refine yp ?_ | refine yt1 ?_ | refine yt0 ?_ | refine yt ?_ ?_ | refine yo ?_ | apply zn | refine yc ?_ | exact rfl | intro _)
   refine zfor iT b.Regs (fun i (rs : List Int) => [(3, .box ⟨0, 0, 0⟩ (b.cs .n)), (4, .box ⟨0, 0, 0⟩ [iT 0, iT 0, iT 0, iT 0, .l .y 1 [], .l .y 1 [], .l .y 1 []]), (6, .box ⟨0, 0, 0⟩ [iT (addZ a.Count b.Count), iT (addZ a.Sum b.Sum), iT (mergeS a b).Min, iT (mergeS a b).Max, .l .y 1 ((List.zipWith addZ a.Hist b.Hist).map iT), .l .y 1 (rs.map iT), .l .y 1 (a.Rows.map (ints .y))]), (83, .x (ints .n b.Regs)), (84, .x (iT (b.Regs.map iT).length)), (85, .x (iT i))]) (fun i rs => rs = zipTo max a.Regs b.Regs i) a.Regs zipTo_zero.symm rfl ?_ ?_
   ·rintro i rs y hy hlt hc3 _ hinv ih
    have hx := Y34 (show i < a.Regs.length by rw [ha.regs.1]; rw [hb.regs.1] at hlt; omega)
    generalize a.Regs[i]'_ = x at hx
    have hg : rs[i]? = some x := hinv ▸ Zp9 hx hlt
    repeat' (first | refine yy ?_ | refine ym ?_ | (apply ze;(iterate 5 exact rfl)) | (apply zf;(iterate 5 exact rfl)) | refine yp ?_ | refine yi (iT y) (Zar hy) ?_ | refine yx (Zcs (Y36.1 hg).1) ?_ | (apply zl (iT x);exact rfl;exact rfl;exact (by simp [T.nav, T.kid, hg]);(iterate 3 exact rfl)) | (apply zS (iT x) (.a [iT (addZ a.Count b.Count), iT (addZ a.Sum b.Sum), iT (mergeS a b).Min, iT (mergeS a b).Max, .l .y 1 ((List.zipWith addZ a.Hist b.Hist).map iT), .l .y 1 ((rs.set i (if y > x then y else x)).map iT), .l .y 1 (a.Rows.map (ints .y))]);(iterate 4 exact rfl);exact (by simp [T.nav, T.kid, hg]);exact (by simp [T.mine, Ob.own, hg]);exact rfl;exact (by simp [T.put, T.kid, T.setKid, hg, List.map_set, T.ofCells, T.cells, splice]);(iterate 3 exact rfl)) | refine yt1 ?_ | refine yt0 ?_ | refine yt ?_ ?_ | refine yo ?_ | apply zn | refine yc ?_ | exact rfl | intro _)
    refine ih (rs.set i (if y > x then y else x)) ?_ _ _ ?_
    ·rw [hinv, Znv, Zpc hx hy]
    ·rw [w64s (by omega)]; rfl
   ·rintro rs hc3 _ hinv
    rw [Zpa (by rw [ha.regs.1, hb.regs.1])] at hinv
    subst hinv
    repeat' (first | refine yy ?_ | refine ym ?_ | (apply ze;(iterate 5 exact rfl)) | (apply zf;(iterate 5 exact rfl)) | refine yp ?_ | refine yt1 ?_ | refine yt0 ?_ | refine yt ?_ ?_ | refine yo ?_ | apply zn | refine yc ?_ | exact rfl | intro _)
    refine zfor (ints .n) b.Rows (fun k (ws : List (List Int)) => [(3, .box ⟨0, 0, 0⟩ (b.cs .n)), (4, .box ⟨0, 0, 0⟩ [iT 0, iT 0, iT 0, iT 0, .l .y 1 [], .l .y 1 [], .l .y 1 []]), (6, .box ⟨0, 0, 0⟩ [iT (addZ a.Count b.Count), iT (addZ a.Sum b.Sum), iT (mergeS a b).Min, iT (mergeS a b).Max, .l .y 1 ((List.zipWith addZ a.Hist b.Hist).map iT), .l .y 1 ((List.zipWith max a.Regs b.Regs).map iT), .l .y 1 (ws.map (ints .y))]), (103, .x (GInt.lss .n b.Rows)), (104, .x (iT (b.Rows.map (ints .n)).length)), (105, .x (iT k))]) (fun k ws => ws = zipTo (List.zipWith addZ) a.Rows b.Rows k) a.Rows zipTo_zero.symm rfl ?_ ?_
    ·rintro k ws q hy hlt hc4 _ hinv ih
     have hx := Y34 (show k < a.Rows.length by rw [ha.rows.1]; rw [hb.rows.1] at hlt; omega)
     generalize a.Rows[k]'_ = p at hx
     have hp := (ha.rows.2 p (Y62 hx)).1
     have hq := (hb.rows.2 q (Y62 hy)).1
     have hg : ws[k]? = some p := hinv ▸ Zp9 hx hlt
     have hwl := (Y36.1 hg).1
     repeat' (first | refine yy ?_ | refine ym ?_ | (apply ze;(iterate 5 exact rfl)) | (apply zf;(iterate 5 exact rfl)) | refine yp ?_ | refine yi (ints .n q) (Zar hy) ?_ | refine yt1 ?_ | refine yt0 ?_ | refine yt ?_ ?_ | refine yo ?_ | apply zn | refine yc ?_ | exact rfl | intro _)
     refine zfor iT q (fun i (us : List Int) => [(3, .box ⟨0, 0, 0⟩ (b.cs .n)), (4, .box ⟨0, 0, 0⟩ [iT 0, iT 0, iT 0, iT 0, .l .y 1 [], .l .y 1 [], .l .y 1 []]), (6, .box ⟨0, 0, 0⟩ [iT (addZ a.Count b.Count), iT (addZ a.Sum b.Sum), iT (mergeS a b).Min, iT (mergeS a b).Max, .l .y 1 ((List.zipWith addZ a.Hist b.Hist).map iT), .l .y 1 ((List.zipWith max a.Regs b.Regs).map iT), .l .y 1 ((ws.set k us).map (ints .y))]), (11, .x (iT k)), (12, .x (ints .n q)), (103, .x (GInt.lss .n b.Rows)), (104, .x (iT (b.Rows.map (ints .n)).length)), (105, .x (iT k)), (110, .x (ints .n q)), (111, .x (iT (q.map iT).length)), (112, .x (iT i))]) (fun i us => us = zipTo addZ p q i) p zipTo_zero.symm (by rw [Zmm hg]; rfl) ?_ ?_
     ·rintro i us y hyy hlt2 hc5 _ hinv2 ih2
      have hxx := Y34 (show i < p.length by omega)
      generalize p[i]'_ = x at hxx
      have hg2 : us[i]? = some x := hinv2 ▸ Zp9 hxx hlt2
      have hg3 : (ws.set k us)[k]? = some us := Zod hwl
      have hset : ws.set k (us.set i (addZ x y)) = (ws.set k us).set k (us.set i (addZ x y)) := by rw [List.set_set]
      generalize ws.set k us = vs at hg3 hset ⊢
      have n1 : (T.a [iT (addZ a.Count b.Count), iT (addZ a.Sum b.Sum), iT (mergeS a b).Min, iT (mergeS a b).Max, .l .y 1 ((List.zipWith addZ a.Hist b.Hist).map iT), .l .y 1 ((List.zipWith max a.Regs b.Regs).map iT), .l .y 1 (vs.map (ints .y))]).nav ([6] ++ [0 + ((k : Nat) : Int).toNat]) = some (ints .y us) := by simp [T.nav, T.kid, hg3]
      have n2 : (T.a [iT (addZ a.Count b.Count), iT (addZ a.Sum b.Sum), iT (mergeS a b).Min, iT (mergeS a b).Max, .l .y 1 ((List.zipWith addZ a.Hist b.Hist).map iT), .l .y 1 ((List.zipWith max a.Regs b.Regs).map iT), .l .y 1 (vs.map (ints .y))]).nav (([6] ++ [0 + ((k : Nat) : Int).toNat]) ++ [0 + ((i : Nat) : Int).toNat]) = some (iT x) := by simp [T.nav, T.kid, hg3, hg2]
      repeat' (first | refine yy ?_ | refine ym ?_ | (apply ze;(iterate 5 exact rfl)) | (apply zf;(iterate 5 exact rfl)) | refine yp ?_ | refine yi (iT y) (Zar hyy) ?_ | refine yx (Zcs (Y36.1 hg3).1) ?_ | refine yx (Zcs (Y36.1 hg2).1) ?_ | refine yl (ints .y us) (n1) ?_ | refine yl (iT x) (n2) ?_ | refine yk g_q11 (q11_eq x y) ?_ | (apply zS (iT x) (.a [iT (addZ a.Count b.Count), iT (addZ a.Sum b.Sum), iT (mergeS a b).Min, iT (mergeS a b).Max, .l .y 1 ((List.zipWith addZ a.Hist b.Hist).map iT), .l .y 1 ((List.zipWith max a.Regs b.Regs).map iT), .l .y 1 ((vs.set k (us.set i (addZ x y))).map (ints .y))]);(iterate 4 exact rfl);exact (n2);exact (by simp [T.mine, Ob.own, hg3, hg2]);exact rfl;exact (by simp [T.put, T.kid, T.setKid, hg3, hg2, List.map_set, T.ofCells, T.cells, splice, ints]);(iterate 3 exact rfl)) | refine yt1 ?_ | refine yt0 ?_ | refine yt ?_ ?_ | refine yo ?_ | apply zn | refine yc ?_ | exact rfl | intro _)
      refine ih2 (us.set i (addZ x y)) ?_ _ _ ?_
      ·rw [hinv2, Zpc hxx hyy]
      ·rw [w64s (by omega), hset]; rfl
     ·rintro us hc5 _ hinv2
      rw [Zpa (by omega)] at hinv2
      subst hinv2
      repeat' (first | refine yy ?_ | refine ym ?_ | (apply ze;(iterate 5 exact rfl)) | (apply zf;(iterate 5 exact rfl)) | refine yp ?_ | refine yt1 ?_ | refine yt0 ?_ | refine yt ?_ ?_ | refine yo ?_ | apply zn | refine yc ?_ | exact rfl | intro _)
      refine ih (ws.set k (List.zipWith addZ p q)) ?_ _ _ ?_
      ·rw [hinv, Zpc (f := List.zipWith addZ) hx hy]
      ·rw [w64s (by omega)]; rfl
    ·rintro ws hc4 _ hinv
     rw [Zpa (by rw [ha.rows.1, hb.rows.1])] at hinv
     subst hinv
     repeat' (first | refine yy ?_ | refine ym ?_ | (apply ze;(iterate 5 exact rfl)) | (apply zf;(iterate 5 exact rfl)) | refine yp ?_ | refine yt1 ?_ | refine yt0 ?_ | refine yt ?_ ?_ | refine yo ?_ | apply zn | refine yc ?_ | exact rfl | intro _)
     refine fin rfl ?_
     try simp only [Zk0]
     try rfl
end Go.Wr
namespace Go.Wr
set_option maxRecDepth 20000
theorem Zno (l : List Int) : (ints .y l).closed = true := Z2p (fun _ => rfl) l
theorem Zoj (x : GSketch) : closeds (x.cs .y) = true := by
 have h := Z2p Zno x.Rows
 have h1 := Z2p (f := iT) (fun _ => rfl) x.Hist
 have h2 := Z2p (f := iT) (fun _ => rfl) x.Regs
 simp only [GSketch.cs, closeds, T.closed, h, h1, h2, Y5]
theorem Zn0 {hs : List Hand} (x : GSketch) (ha : apart hs = true) : callOk hs ⟨[.st (x.cs .y)], []⟩ = true := by
 simp [callOk, ha, RV.closed, Zoj, RV.good]
theorem Zn1 {hs : List Hand} (x : GSketch) (ha : apart hs = true) : callOk hs ⟨[.st (x.cs .y), .one (.b true)], []⟩ = true := by
 simp [callOk, ha, RV.closed, Zoj, RV.good, T.closed, T.loose]
theorem Zop {α : Type} {f : α -> T} {e : α} {l : List α} : sub ((e :: l).map f) 1 (((e :: l).map f).length - 1) = l.map f := by
 unfold sub; rw [Y50, List.drop_succ_cons, List.drop_zero, Y73 (by simp)]
theorem Zoc : ∀ {s : List GSpan}, SetR s -> (s.length : Int) <= sumSpan s
 | [], _ => by simp [sumSpan]
 | x :: s, hs => by
  have h1 := Zoc hs.tail
  have h2 := hs.one
  unfold SpanR at h2
  unfold sumSpan at h1 ⊢
  rw [Y50, Y69, Y42]
  omega
theorem Zob {s : List GSpan} (hs : SetR s) : s.length <= 10000 := by
 have h1 := Zoc hs
 have h2 := Zoq (lo := 0) (m := 9999) hs (fun x hx => by have := hs.span hx; unfold SpanR at this; omega) (by omega)
 omega
theorem ok_bulk {e : GEntry} (h : e.ok = true) : e.bulk <= 10100 := by
 have h1 := Zob (ok_setR h)
 have h2 := Zoi ((Zok _).1 (ok_sk h))
 unfold GEntry.bulk; omega
theorem q15_eq (e : GEntry) (t : List GEntry) (hl : bulks GEntry.bulk (e :: t) <= 4000000) (hok : ∀ x ∈ e :: t, x.ok = true) : F_q15 [.x (GEntry.ls .n (e :: t))] = some ⟨[.st ((⟨e.Key, e.Window, idsOf (e :: t), totI (e :: t)⟩ : GEntry).cs .y)], []⟩ := by
 have hle := Z1t GEntry.bulk (e :: t)
 rw [Y42] at hle
 have heb := ok_bulk (hok e Y57)
 have hes := ok_sk (hok e Y57)
 have hb : ∀ x ∈ e :: t, ∀ y ∈ x.Ids, HiR y := fun x hx => Ziu (ok_ids (hok x hx))
 have hbnd : 1 <= ((e :: t).map (GEntry.el .n)).length /\ ((e :: t).map (GEntry.el .n)).length <= ((e :: t).map (GEntry.el .n)).length := ⟨by simp, Nat.le_refl _⟩
 (refine Z6j rfl ?_; show Ev m_q15.code _ _ _)
 repeat' (first | refine yj (GEntry.el .n e) (Int.le_refl _) (rfl) ?_ | refine yk g_q14 (q14_eq e (by omega)) ?_ | (apply zu;exact rfl;exact rfl;exact Z1k (m := 1) rfl rfl;exact hbnd;exact rfl;exact Zop;exact rfl;exact rfl) | refine yt1 ?_ | refine yt0 ?_ | refine yt ?_ ?_ | refine yo ?_ | apply zn | refine yc ?_ | intro _)
 refine zfor (GEntry.el .n) t (fun i (s : GSketch) => [(0, .x (GEntry.ls .n (e :: t))), (2, .box ⟨0, 0, 0⟩ [iT 0, iT 0, .l .y 2 [], iT 0, iT 0, iT 0, iT 0, .l .y 1 [], .l .y 1 [], .l .y 1 []]), (3, .box ⟨0, 0, 0⟩ [iT e.Key, iT e.Window, GSpan.ls .y e.Ids, iT s.Count, iT s.Sum, iT s.Min, iT s.Max, ints .y s.Hist, ints .y s.Regs, GInt.lss .y s.Rows]), (11, .x (GEntry.ls .n t)), (12, .x (iT (t.map (GEntry.el .n)).length)), (13, .x (iT i))]) (fun i s => s = (t.take i).foldl (fun s e => mergeS s e.Sketch) e.Sketch) e.Sketch rfl rfl ?_ ?_
 ·rintro i s x hx hlt hc _ hinv ih
  have hs : s.ok = true := hinv ▸ Znb hes fun y hy => hok y (Y56 _ (Y63 hy))
  have hxs := ok_sk (hok x (Y56 _ (Y62 hx)))
  repeat' (first | refine yi (GEntry.el .n x) (Zar hx) ?_ | refine yw g_q13 (q13_eq s x.Sketch ((Zok _).1 hs) ((Zok _).1 hxs)) (Zn1 _ rfl) ?_ | refine yt1 ?_ | refine yt0 ?_ | refine yt ?_ ?_ | refine yo ?_ | apply zn | refine yc ?_ | intro _)
  refine ih (mergeS s x.Sketch) ?_ _ _ ?_
  ·rw [hinv, Z5y hx]
  ·rw [w64s (by omega)]; rfl
 ·rintro s hc _ hinv
  rw [Y72] at hinv
  have hs : s = totI (e :: t) := hinv
  subst hs
  repeat' (first | refine yk g_qk (qk_eq (e :: t) hl hb) ?_ | refine yt1 ?_ | refine yt0 ?_ | refine yt ?_ ?_ | refine yo ?_ | apply zn | refine yc ?_ | intro _)
  refine fin rfl ?_
  simp only [Zk0, fzl, Zoo]
  try rfl
def resF (l : List GEntry) : List RV := match l with
 | [] => [.st (newS.cs .y), .one (.l .y 2 [])]
 | e :: t => [.st ((totI (e :: t)).cs .y), .one (GSpan.ls .y (idsOf (e :: t)))]
theorem q16_eq0 : F_q16 [.x (GEntry.ls .n [])] = some ⟨resF [], []⟩ := by
 have h3 : (((([] : List GEntry).map (GEntry.el .n)).length : Int) == 0) = true := rfl
 (refine Z6j rfl ?_; show Ev m_q16.code _ _ _)
 repeat' (first | refine yk g_qz (qz_eq) ?_ | refine yt1 ?_ | refine yt0 ?_ | refine yt ?_ ?_ | refine yo ?_ | apply zn | refine yc ?_ | intro _)
 exact fin rfl rfl
theorem q16_eq1 (e : GEntry) (t : List GEntry) (hl : bulks GEntry.bulk (e :: t) <= 4000000) (hok : ∀ x ∈ e :: t, x.ok = true) : F_q16 [.x (GEntry.ls .n (e :: t))] = some ⟨resF (e :: t), []⟩ := by
 have h3 : ((((e :: t).map (GEntry.el .n)).length : Int) == 0) = false := by simp; omega
 (refine Z6j rfl ?_; show Ev m_q16.code _ _ _)
 repeat' (first | refine yk g_q15 (q15_eq e t hl hok) ?_ | refine yt1 ?_ | refine yt0 ?_ | refine yt ?_ ?_ | refine yo ?_ | apply zn | refine yc ?_ | intro _)
 refine fin rfl ?_
 try simp only [Zk0]
 try rfl
end Go.Wr
namespace Go.Wr
set_option maxRecDepth 20000
theorem Zmx {α : Type} {f : α -> Nat} (p : α -> Bool) : ∀ l : List α, bulks f (l.filter p) <= bulks f l
 | [] => Nat.le_refl _
 | x :: l => by
  have h := Zmx (f := f) p l
  unfold bulks at h ⊢
  rw [List.filter_cons]
  split <;> simp only [Y50, Y69, Y42] <;> omega
theorem Znh {h : GHouse} {k w : Int} (hh : houseS h = true) : heldL h k w = (allE h).filter (atE k w) := if_pos hh
theorem Zng {h : GHouse} {k w : Int} (hh : houseS h = false) : heldL h k w = [] := if_neg (by rw [hh]; simp)
theorem q18_eq (h : GHouse) (k w : Int) (hl : h.bulk <= 4000000) : F_q18 [.st (h.cs .n), .x (iT k), .x (iT w)] = some ⟨resF (heldL h k w), []⟩ := by
 have hab := Zh hl
 have hal := Z1t GEntry.bulk (allE h)
 have happ : ((rowEnts h).map (GEntry.el .n)).length + ((addedE h).map (GEntry.el .n)).length < lenMax := by
  rw [Y45, Y45]; unfold lenMax
  have e : (allE h).length = (rowEnts h).length + (addedE h).length := by rw [allE, Y41]
  omega
 have hmap : (rowEnts h).map (GEntry.el .n) ++ (addedE h).map (GEntry.el .n) = (allE h).map (GEntry.el .n) := by rw [allE, Y49]
 have hho := qy_eq h hl
 rw [Z82] at hho
 cases hh : houseS h with
 | false =>
  rw [hh] at hho
  have h1 : (!false) = true := rfl
  rw [Zng hh]
  (refine Z6j rfl ?_; show Ev m_q18.code _ _ _)
  repeat' (first | refine yk g_qy (hho) ?_ | refine yk g_qz (qz_eq) ?_ | refine yt1 ?_ | refine yt0 ?_ | refine yt ?_ ?_ | refine yo ?_ | apply zn | refine yc ?_ | intro _)
  exact fin rfl rfl
 | true =>
  rw [hh] at hho
  have h1 : (!true) = false := rfl
  have hof := q17_eq (allE h) k w (by omega)
  have hfb := Y77 (Zmx (f := GEntry.bulk) (atE k w) (allE h)) hab
  have hok : ∀ x ∈ (allE h).filter (atE k w), x.ok = true := fun x hx => Znj hh x (Y93.1 hx).1
  have hof2 : F_q17 [.x (.l .n 10 (fzs ((rowEnts h).map (GEntry.el .n) ++ (addedE h).map (GEntry.el .n)))), .x (iT k), .x (iT w)] = some ⟨[.one (.l .y 10 (((allE h).filter (atE k w)).map (GEntry.el .n)))], []⟩ := by
   rw [hmap, Z6r]; exact hof
  rw [Znh hh]
  generalize (allE h).filter (atE k w) = l at hof2 hfb hok ⊢
  rcases l with _ | ⟨e, t⟩
  ·(refine Z6j rfl ?_; show Ev m_q18.code _ _ _)
   repeat' (first | refine yk g_qy (hho) ?_ | refine yk g_qv (qv_eq h hl) ?_ | refine yk g_q6 (q6_eq h hl) ?_ | (apply zao;(iterate 4 exact rfl);exact (Z6r _);exact (happ);(iterate 3 exact rfl)) | refine yk g_q17 (hof2) ?_ | refine yv g_q16 (q16_eq0) ?_ | refine yt1 ?_ | refine yt0 ?_ | refine yt ?_ ?_ | refine yo ?_ | apply zn | refine yc ?_ | intro _)
   exact fin rfl rfl
  ·(refine Z6j rfl ?_; show Ev m_q18.code _ _ _)
   repeat' (first | refine yk g_qy (hho) ?_ | refine yk g_qv (qv_eq h hl) ?_ | refine yk g_q6 (q6_eq h hl) ?_ | (apply zao;(iterate 4 exact rfl);exact (Z6r _);exact (happ);(iterate 3 exact rfl)) | refine yk g_q17 (hof2) ?_ | (apply zk g_q16;exact rfl;simp only [Z6r];exact rfl;exact (q16_eq1 e t hfb hok);exact rfl;exact rfl;exact rfl) | refine yt1 ?_ | refine yt0 ?_ | refine yt ?_ ?_ | refine yo ?_ | apply zn | refine yc ?_ | intro _)
   refine fin rfl ?_
   try rfl
theorem Znq {l : List GEntry} {e : GEntry} : joins (l ++ [e]) [] = joinG (joins l []) e.Ids := by simp [joins]
theorem Zp0 {l : List GEntry} {e : GEntry} : totS (l ++ [e]) = mergeS (totS l) e.Sketch := by simp [totS]
theorem Znp {l : List GEntry} (h : ∀ e ∈ l, e.ok = true) : SetR (joins l []) := (Z8z Ziw h).1
theorem Zoa {s : List GSpan} (h : SetR s) : ∀ y ∈ s, HiR y := fun y hy => (h.span hy).hi
theorem q48_eq (h : GHouse) (k w : Int) (hl : h.bulk <= 4000000) : F_q48 [.st (h.cs .n), .x (iT k), .x (iT w)] = some ⟨[.st ((totS (heldL h k w)).cs .y), .one (GSpan.ls .y (joins (heldL h k w) []))], []⟩ := by
 have hab := Zh hl
 have hal := Z1t GEntry.bulk (allE h)
 have hho := q3z_eq h hl
 cases hh : houseS h with
 | false =>
  rw [hh] at hho
  have h1 : (!false) = true := rfl
  rw [Zng hh]
  (refine Z6j rfl ?_; show Ev m_q48.code _ _ _)
  repeat' (first | refine yy ?_ | refine ym ?_ | (apply ze;(iterate 5 exact rfl)) | (apply zf;(iterate 5 exact rfl)) | refine yp ?_ | refine yk g_q3z (hho) ?_ | refine yk g_q40 (q40_eq) ?_ | refine yt1 ?_ | refine yt0 ?_ | refine yt ?_ ?_ | refine yo ?_ | apply zn | refine yc ?_ | exact rfl | intro _)
  exact fin rfl rfl
 | true =>
  rw [hh] at hho
  have h1 : (!true) = false := rfl
  have hok := Znj hh
  rw [Znh hh]
  (refine Z6j rfl ?_; show Ev m_q48.code _ _ _)
  repeat' (first | refine yy ?_ | refine ym ?_ | (apply ze;(iterate 5 exact rfl)) | (apply zf;(iterate 5 exact rfl)) | refine yp ?_ | refine yk g_q3z (hho) ?_ | refine yk g_q40 (q40_eq) ?_ | refine yk g_q3b (q3b_eq h hl) ?_ | refine yt1 ?_ | refine yt0 ?_ | refine yt ?_ ?_ | refine yo ?_ | apply zn | refine yc ?_ | exact rfl | intro _)
  refine zfor (GEntry.el .n) (allE h) (fun i (p : GSketch × List GSpan) => [(1, .x (iT k)), (2, .x (iT w)), (6, .box ⟨0, 0, 0⟩ [iT 0, iT 0, iT 0, iT 0, .l .y 1 [], .l .y 1 [], .l .y 1 []]), (8, .box ⟨0, 0, 0⟩ [iT p.1.Count, iT p.1.Sum, iT p.1.Min, iT p.1.Max, ints .y p.1.Hist, ints .y p.1.Regs, GInt.lss .y p.1.Rows]), (9, .own ⟨0, 0, 0⟩ (GSpan.ls .y p.2)), (10, .own ⟨0, 0, 0⟩ (.l .y 10 ((allE h).map (GEntry.el .n)))), (11, .x (iT i))]) (fun i p => p = (totS (((allE h).take i).filter (atE k w)), joins (((allE h).take i).filter (atE k w)) [])) (newS, []) rfl rfl ?_ ?_
  ·rintro i ⟨s, ids⟩ e hx hlt hc _ hinv ih
   have hpo : ∀ x ∈ ((allE h).take i).filter (atE k w), x.ok = true := fun x hx => hok x (Y63 (Y93.1 hx).1)
   have he := hok e (Y62 hx)
   have hso : SkR s := (Zok _).1 ((Prod.mk.inj hinv).1 ▸ Zoy hpo)
   have hir : SetR ids := (Prod.mk.inj hinv).2 ▸ Znp hpo
   have her := ok_setR he
   have hil := Zob hir
   have hel := Zob her
   repeat' (first | refine yy ?_ | refine ym ?_ | (apply ze;(iterate 5 exact rfl)) | (apply zf;(iterate 5 exact rfl)) | refine yp ?_ | refine yx (Zcs hlt) ?_ | refine yl (GEntry.el .n e) (Zbj (Zar hx)) ?_ | refine yL (GEntry.cs .n e) (Zbj (Zar hx)) ?_ | refine yw g_q44 (q44_eq s e.Sketch hso ((Zok _).1 (ok_sk he))) (Zn0 _ rfl) ?_ | refine yw g_q3m (q3m_eq ids e.Ids (by omega) (Zoa hir) (Zoa her)) (Z28 rfl (Z2p (fun _ => rfl) _)) ?_ | refine yt1 ?_ | refine yt0 ?_ | refine yt ?_ ?_ | refine yo ?_ | apply zn | refine yc ?_ | exact rfl | intro _)
   ·rename_i h5
    have h6 : atE k w e = true := h5
    refine ih (mergeS s e.Sketch, joinG ids e.Ids) ?_ _ _ ?_
    ·rw [Zn8 hx, h6, if_pos rfl, Zp0, Znq, <- (Prod.mk.inj hinv).1, <- (Prod.mk.inj hinv).2]
    ·rw [w64s (by omega)]; rfl
   ·rename_i h5
    have h6 : atE k w e = false := h5
    refine ih (s, ids) ?_ _ _ ?_
    ·rw [Zn8 hx, h6, hinv]; simp
    ·rw [w64s (by omega)]; rfl
  ·rintro ⟨s, ids⟩ hc _ hinv
   rw [Y72] at hinv
   obtain ⟨rfl, rfl⟩ := Prod.mk.inj hinv
   repeat' (first | refine yy ?_ | refine ym ?_ | (apply ze;(iterate 5 exact rfl)) | (apply zf;(iterate 5 exact rfl)) | refine yp ?_ | refine yt1 ?_ | refine yt0 ?_ | refine yt ?_ ?_ | refine yo ?_ | apply zn | refine yc ?_ | exact rfl | intro _)
   refine fin rfl ?_
   try simp only [Zk0]
   try rfl
end Go.Wr
namespace Go.Wr
set_option maxRecDepth 20000
section
variable {w : GWorld} {i j : Nat} {a : GAgent} {s : GSeat} {x : GItem}
end
end Go.Wr
namespace Go.Wr
set_option maxRecDepth 20000
theorem Zol {s : GSketch} (h : s.bulk <= 1048576) : (1 : Int) + (GSketch.wS s : Int) <= top62 := by
 have := Zp5 s
 unfold top62; omega
theorem Zox {l : List GEntry} (h : ∀ e ∈ l, e.ok = true) : (totS l).bulk <= 100 := Zoi ((Zok _).1 (Zoy h))
theorem Zof {l : List GEntry} {e : GEntry} : sizesE (l ++ [e]) = sizesE l + setSize e.Ids := by simp [sizesE]
theorem q19_eq (h : GHouse) (k w : Int) (hl : h.bulk <= 4000000) : F_q19 [.st (h.cs .n), .x (iT k), .x (iT w)] = some ⟨[.st ((totS (heldL h k w)).cs .y), .one (iT (sizesE (heldL h k w)))], []⟩ := by
 have hhe := q18_eq h k w hl
 have hR := Zne h k w
 have hok := @Znf h k w
 have hz := Zog hR
 generalize heldL h k w = l at hhe hR hok hz
 rcases l with _ | ⟨e, t⟩
 ·have hs := qp_eq [] (Nat.zero_le _)
  (refine Z6j rfl ?_; show Ev m_q19.code _ _ _)
  repeat' (first | refine yk g_q18 (hhe) ?_ | refine yv g_qp (hs) ?_ | refine yo ?_ | apply zn | refine yc ?_ | intro _)
  refine fin rfl ?_
  try simp only [Zk0]
  try rfl
 ·have hr := (Z89 hR.ok).1
  have hs := qp_eq (idsOf (e :: t)) (Y77 (Zob hr) (by decide))
  rw [hz] at hs
  rw [<- Zoz hok]
  (refine Z6j rfl ?_; show Ev m_q19.code _ _ _)
  repeat' (first | refine yk g_q18 (hhe) ?_ | refine yv g_qp (hs) ?_ | refine yo ?_ | apply zn | refine yc ?_ | intro _)
  refine fin rfl ?_
  try simp only [Zk0]
  try rfl
theorem q45_eq (h : GHouse) (k w : Int) (hl : h.bulk <= 4000000) : F_q45 [.st (h.cs .n), .x (iT k), .x (iT w)] = some ⟨[.st ((totS (heldL h k w)).cs .y), .one (iT (sizesE (heldL h k w)))], []⟩ := by
 have hab := Zh hl
 have hal := Z1t GEntry.bulk (allE h)
 have hho := q3z_eq h hl
 cases hh : houseS h with
 | false =>
  rw [hh] at hho
  have h1 : (!false) = true := rfl
  rw [Zng hh]
  (refine Z6j rfl ?_; show Ev m_q45.code _ _ _)
  repeat' (first | refine yy ?_ | refine ym ?_ | (apply ze;(iterate 5 exact rfl)) | (apply zf;(iterate 5 exact rfl)) | refine yp ?_ | refine yk g_q3z (hho) ?_ | refine yk g_q40 (q40_eq) ?_ | refine yt1 ?_ | refine yt0 ?_ | refine yt ?_ ?_ | refine yo ?_ | apply zn | refine yc ?_ | exact rfl | intro _)
  exact fin rfl rfl
 | true =>
  rw [hh] at hho
  have h1 : (!true) = false := rfl
  have hok := Znj hh
  have hR := Zni hh
  rw [Znh hh]
  (refine Z6j rfl ?_; show Ev m_q45.code _ _ _)
  repeat' (first | refine yy ?_ | refine ym ?_ | (apply ze;(iterate 5 exact rfl)) | (apply zf;(iterate 5 exact rfl)) | refine yp ?_ | refine yk g_q3z (hho) ?_ | refine yk g_q40 (q40_eq) ?_ | refine yk g_q3b (q3b_eq h hl) ?_ | refine yt1 ?_ | refine yt0 ?_ | refine yt ?_ ?_ | refine yo ?_ | apply zn | refine yc ?_ | exact rfl | intro _)
  refine zfor (GEntry.el .n) (allE h) (fun i (p : GSketch × Int) => [(1, .x (iT k)), (2, .x (iT w)), (6, .box ⟨0, 0, 0⟩ [iT 0, iT 0, iT 0, iT 0, .l .y 1 [], .l .y 1 [], .l .y 1 []]), (8, .box ⟨0, 0, 0⟩ [iT p.1.Count, iT p.1.Sum, iT p.1.Min, iT p.1.Max, ints .y p.1.Hist, ints .y p.1.Regs, GInt.lss .y p.1.Rows]), (9, .x (iT p.2)), (10, .own ⟨0, 0, 0⟩ (.l .y 10 ((allE h).map (GEntry.el .n)))), (11, .x (iT i))]) (fun i p => p = (totS (((allE h).take i).filter (atE k w)), sizesE (((allE h).take i).filter (atE k w)))) (newS, 0) rfl rfl ?_ ?_
  ·rintro i ⟨s, n⟩ e hx hlt hc _ hinv ih
   have hpo : ∀ x ∈ ((allE h).take i).filter (atE k w), x.ok = true := fun x hx => hok x (Y63 (Y93.1 hx).1)
   have hpR : EntsR (((allE h).take i).filter (atE k w)) := hR.sub ((List.filter_sublist).trans (List.take_sublist _ _))
   have hpn := Zoh hpR
   have he := hok e (Y62 hx)
   have hso : SkR s := (Zok _).1 ((Prod.mk.inj hinv).1 ▸ Zoy hpo)
   have her := ok_setR he
   have hel := Zob her
   have hn := (Prod.mk.inj hinv).2
   have hsz := Zoq (lo := 0) (m := 9999) her (fun x hx => by have := her.span hx; unfold SpanR at this; omega) (by omega)
   have hs0 : 0 <= sumSpan e.Ids := by have := Zoc her; omega
   have hse := Zoe her
   repeat' (first | refine yy ?_ | refine ym ?_ | (apply ze;(iterate 5 exact rfl)) | (apply zf;(iterate 5 exact rfl)) | refine yp ?_ | refine yx (Zcs hlt) ?_ | refine yl (GEntry.el .n e) (Zbj (Zar hx)) ?_ | refine yL (GEntry.cs .n e) (Zbj (Zar hx)) ?_ | refine yw g_q44 (q44_eq s e.Sketch hso ((Zok _).1 (ok_sk he))) (Zn0 _ rfl) ?_ | refine yv g_q3o (q3o_eq e.Ids (Y77 hel (by decide))) ?_ | refine yt1 ?_ | refine yt0 ?_ | refine yt ?_ ?_ | refine yo ?_ | apply zn | refine yc ?_ | exact rfl | intro _)
   ·rename_i h5
    have h6 : atE k w e = true := h5
    refine ih (mergeS s e.Sketch, n + setSize e.Ids) ?_ _ _ ?_
    ·rw [Zn8 hx, h6, if_pos rfl, Zp0, Zof, <- (Prod.mk.inj hinv).1, <- (Prod.mk.inj hinv).2]
    ·rw [w64s (by omega), w64 (by omega)]; rfl
   ·rename_i h5
    have h6 : atE k w e = false := h5
    refine ih (s, n) ?_ _ _ ?_
    ·rw [Zn8 hx, h6, hinv]; simp
    ·rw [w64s (by omega)]; rfl
  ·rintro ⟨s, n⟩ hc _ hinv
   rw [Y72] at hinv
   obtain ⟨rfl, rfl⟩ := Prod.mk.inj hinv
   repeat' (first | refine yy ?_ | refine ym ?_ | (apply ze;(iterate 5 exact rfl)) | (apply zf;(iterate 5 exact rfl)) | refine yp ?_ | refine yt1 ?_ | refine yt0 ?_ | refine yt ?_ ?_ | refine yo ?_ | apply zn | refine yc ?_ | exact rfl | intro _)
   refine fin rfl ?_
   try simp only [Zk0]
   try rfl
end Go.Wr
namespace Go.Wr
set_option maxRecDepth 20000
theorem Zo8 {l : List GEntry} (h : ∀ e ∈ l, e.ok = true) : resF l = [.st ((totS l).cs .y), .one (GSpan.ls .y (idsOf l))] := by
 rcases l with _ | ⟨e, t⟩
 ·rw [Z8a h]; rfl
 ·rw [resF, Zoz h]
theorem Znn (h : GHouse) (k w : Int) (hl : h.bulk <= 4000000) : F_q18 [.st (h.cs .n), .x (iT k), .x (iT w)] = some ⟨[.st ((totS (heldL h k w)).cs .y), .one (GSpan.ls .y (idsOf (heldL h k w)))], []⟩ := by
 rw [q18_eq h k w hl, Zo8 Znf]
theorem Zon (h : GHouse) (k w : Int) (hl : h.bulk <= 4000000) : F_q48 [.st (h.cs .n), .x (iT k), .x (iT w)] = some ⟨[.st ((totS (heldL h k w)).cs .y), .one (GSpan.ls .y (idsOf (heldL h k w)))], []⟩ := by
 rw [q48_eq h k w hl, Z8a Znf]
theorem Znl {l : List GEntry} (h : ∀ e ∈ l, e.ok = true) : (idsOf l).length <= 10000 := Zob (Z89 h).1
theorem Zn2 {hs : List Hand} {cs : List T} {sz : Nat} {es : List T} (hc : closeds cs = true) (he : closeds es = true) (ha : apart hs = true) : callOk hs ⟨[.st cs, .one (.l .y sz es)], []⟩ = true := by
 simp only [callOk, ha, Y17, Y19, RV.closed, hc, he, RV.good, T.closed, Y4, Bool.or_true]
end Go.Wr
namespace Go.Wr
set_option maxRecDepth 20000
theorem Z9k (a : GHouse) (hl : a.bulk <= 1048576) : F_q1r [.st (a.cs .n), .st (a.cs .n)] = some ⟨[.one (.b true)], []⟩ := by rw [q1r_eq a a hl]; simp
theorem Znr (a : GSketch) (hl : a.bulk <= 1048576) : F_q1d [.st (a.cs .n), .st (a.cs .n)] = some ⟨[.one (.b true)], []⟩ := by rw [q1d_eq a a hl]; simp
theorem Zns (a : List GSpan) (hl : a.length <= 1048576) : F_q1f [.x (GSpan.ls .n a), .x (GSpan.ls .n a)] = some ⟨[.one (.b true)], []⟩ := by rw [q1f_eq a a hl]; simp
set_option maxHeartbeats 4000000 in
theorem q46_eq (a : GHouse) (k : Int) (w : Int) (ha : a.fit) : F_q46 [.st (a.cs .n), .x (iT k), .x (iT w)] = some ⟨[.one (.b true)], []⟩ := by
 have r0 : Rng 1048576 := ⟨by omega, by omega⟩
 have s1 := q2n_eq a 1048576 r0 ha
 cases h1 : decide (left 1048576 a.bulk < 0) with
 | true =>
  (refine Z6j rfl ?_; show Ev m_q46.code _ _ _)
  repeat' (first | refine yy ?_ | refine ym ?_ | (apply ze;(iterate 5 exact rfl)) | (apply zf;(iterate 5 exact rfl)) | refine yp ?_ | refine yv g_q2n (s1) ?_ | refine yt1 ?_ | refine yt0 ?_ | refine yt ?_ ?_ | refine yo ?_ | apply zn | refine yc ?_ | exact rfl | intro _)
  exact fin rfl rfl
 | false =>
  have o1 := Z9q r0 h1
  have la : a.bulk <= 1048576 := by omega
  have lb : a.bulk <= 4000000 := by omega
  have k1 : (1 : Int) + (GHouse.wS a : Int) <= top62 := Z84 lb
  have m1 := q25_eq a 1 (by decide) k1
  have c1 := nnd (GHouse.okS a 1 0 (by decide) k1).1
  have q1 := q45_eq a k w lb
  have q2 := q19_eq a k w lb
  have b0 : (totS (heldL a k w)).bulk <= 1048576 := Y77 (Zox Znf) (by decide)
  generalize totS (heldL a k w) = r0 at q1 q2 b0
  have w0 : (1 : Int) + (GSketch.wS r0 : Int) <= top62 := Zol b0
  have m20 := q26_eq r0 1 (by decide) w0
  have m30 := q1u_eq r0 1 (by decide) w0
  have c20 := nnd (GSketch.okS r0 1 0 (by decide) w0).1
  have e10 := Znr r0 b0
  have e2 := Z9k a la
  (refine Z6j rfl ?_; show Ev m_q46.code _ _ _)
  repeat' (first | refine yy ?_ | refine ym ?_ | (apply ze;(iterate 5 exact rfl)) | (apply zf;(iterate 5 exact rfl)) | refine yp ?_ | refine yv g_q2n (s1) ?_ | refine yv g_q35 (q35_eq a la) ?_ | refine yw g_q45 (q1) (Zmz (GSketch.cl _) rfl) ?_ | refine yw g_q19 (q2) (Zmz (GSketch.cl _) rfl) ?_ | refine yv g_q1d (e10) ?_ | refine yN g_q26 m20 ?_ | refine yv g_q1u (m30) ?_ | refine yv g_q1r (e2) ?_ | refine yN g_q25 m1 ?_ | refine yy ?_ (ht := rfl) | refine ym ?_ (ht := rfl) | refine yp ?_ (ht := rfl) | refine yt0 ?_ (ht := rfl) | refine yt0 ?_ (ht := neB _) | refine yt0 ?_ (ht := neI _) | refine yt1 ?_ | refine yt0 ?_ | refine yt ?_ ?_ | refine yo ?_ | apply zn | refine yc ?_ | exact rfl | intro _)
  all_goals exact fin rfl rfl
set_option maxHeartbeats 4000000 in
theorem q49_eq (a : GHouse) (k : Int) (w : Int) (ha : a.fit) : F_q49 [.st (a.cs .n), .x (iT k), .x (iT w)] = some ⟨[.one (.b true)], []⟩ := by
 have r0 : Rng 1048576 := ⟨by omega, by omega⟩
 have s1 := q2n_eq a 1048576 r0 ha
 cases h1 : decide (left 1048576 a.bulk < 0) with
 | true =>
  (refine Z6j rfl ?_; show Ev m_q49.code _ _ _)
  repeat' (first | refine yy ?_ | refine ym ?_ | (apply ze;(iterate 5 exact rfl)) | (apply zf;(iterate 5 exact rfl)) | refine yp ?_ | refine yv g_q2n (s1) ?_ | refine yt1 ?_ | refine yt0 ?_ | refine yt ?_ ?_ | refine yo ?_ | apply zn | refine yc ?_ | exact rfl | intro _)
  exact fin rfl rfl
 | false =>
  have o1 := Z9q r0 h1
  have la : a.bulk <= 1048576 := by omega
  have lb : a.bulk <= 4000000 := by omega
  have k1 : (1 : Int) + (GHouse.wS a : Int) <= top62 := Z84 lb
  have m1 := q25_eq a 1 (by decide) k1
  have c1 := nnd (GHouse.okS a 1 0 (by decide) k1).1
  have q1 := Zon a k w lb
  have q2 := Znn a k w lb
  have b0 : (totS (heldL a k w)).bulk <= 1048576 := Y77 (Zox Znf) (by decide)
  generalize totS (heldL a k w) = r0 at q1 q2 b0
  have w0 : (1 : Int) + (GSketch.wS r0 : Int) <= top62 := Zol b0
  have m20 := q26_eq r0 1 (by decide) w0
  have m30 := q1u_eq r0 1 (by decide) w0
  have c20 := nnd (GSketch.okS r0 1 0 (by decide) w0).1
  have e10 := Znr r0 b0
  have b1 : (idsOf (heldL a k w)).length <= 10000 := Znl Znf
  generalize idsOf (heldL a k w) = r1 at q1 q2 b1
  have n1 : wL GSpan.w1 r1 = 3 * r1.length := Zll r1
  have d1 := GSketch.okS r0 1 (wL GSpan.w1 r1 + 0) (by decide) (by have := Zp5 r0; unfold top62; omega)
  have m21 := q1y_eq r1 (GSketch.mkS r0 1).2 d1.1 (by have := d1.2; omega)
  have m31 := q47_eq r1 (GSketch.mkS r0 1).2 d1.1 (by have := d1.2; omega)
  have c21 := nnd (Zb6 GSpan.ok1 r1 (GSketch.mkS r0 1).2 0 d1.1 (by have := d1.2; omega)).1
  have e11 := Zns r1 (Y77 b1 (by decide))
  have e2 := Z9k a la
  (refine Z6j rfl ?_; show Ev m_q49.code _ _ _)
  repeat' (first | refine yy ?_ | refine ym ?_ | (apply ze;(iterate 5 exact rfl)) | (apply zf;(iterate 5 exact rfl)) | refine yp ?_ | refine yv g_q2n (s1) ?_ | refine yv g_q35 (q35_eq a la) ?_ | refine yw g_q48 (q1) (Zn2 (GSketch.cl _) (Z2p (fun _ => rfl) _) rfl) ?_ | refine yw g_q18 (q2) (Zn2 (GSketch.cl _) (Z2p (fun _ => rfl) _) rfl) ?_ | refine yv g_q1d (e10) ?_ | refine yN g_q26 m20 ?_ | refine yv g_q1u (m30) ?_ | refine yv g_q1f (e11) ?_ | (apply zkM g_q1y;(iterate 6 exact rfl);exact m21;(iterate 3 exact rfl)) | refine yv g_q47 (m31) ?_ | refine yv g_q1r (e2) ?_ | refine yN g_q25 m1 ?_ | refine yy ?_ (ht := rfl) | refine ym ?_ (ht := rfl) | refine yp ?_ (ht := rfl) | refine yt0 ?_ (ht := rfl) | refine yt0 ?_ (ht := neB _) | refine yt0 ?_ (ht := neI _) | refine yt1 ?_ | refine yt0 ?_ | refine yt ?_ ?_ | refine yo ?_ | apply zn | refine yc ?_ | exact rfl | intro _)
  all_goals exact fin rfl rfl
end Go.Wr

