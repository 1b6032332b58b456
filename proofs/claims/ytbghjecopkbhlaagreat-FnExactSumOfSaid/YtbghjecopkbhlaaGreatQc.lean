/-
  What is proved: lemmas on the way to the laws of this seat. No condition.
-/
import Derived.Test.YtbghjecopkbhlaaGreatPa
set_option linter.unusedVariables false
set_option linter.unusedSimpArgs false
namespace Go.Wr
set_option maxRecDepth 20000
theorem Zci {l : List GEntry} {k : Nat} {x p : GEntry} (hx : l[k + 1]? = some x) (hp : l[k]? = some p) : ordAt l (k + 1) = aheadE p x := by simp [ordAt, hx, hp]
theorem Zcj {l : List GEntry} {x : GEntry} (hx : l[0]? = some x) : ordAt l 0 = true := by simp [ordAt, hx]
theorem Zc9 {l : List GEntry} {k : Nat} {x : GEntry} (hx : l[k]? = some x) : okE l k = x.ok := by simp [okE, hx]
theorem Zcb {l : List GOut} {k : Nat} {x : GOut} (hx : l[k]? = some x) : okO l k = x.Entry.ok := by simp [okO, hx]
theorem Z78 {l : List GOut} {k : Nat} {x : GOut} (hx : l[k]? = some x) : gensAt l k = (x.Gen == (toldN (l.take k) x.Entry.Key x.Entry.Window : Int)) := by simp [gensAt, hx]
theorem Zbr {x p : GEntry} : (decide (x.Key < p.Key) || (x.Key == p.Key && decide (x.Window <= p.Window))) = !aheadE p x := by
 unfold aheadE
 rw [Y7]
 simp only [Y14, Y2, Y11, Bool.or_eq_false_iff, Bool.and_eq_false_iff, decide_eq_true_eq, decide_eq_false_iff_not, beq_iff_eq, beq_eq_false_iff_ne]
 omega
theorem q3w_eq (h : GHouse) (hl : h.bulk <= 4000000) : F_q3w [.st (h.cs .n)] = some ⟨[.one (.b (rootS h))], []⟩ := by
 simp only [GHouse.bulk] at hl
 have hro := Z1t GEntry.bulk h.Root
 have hou := Z1t GOut.bulk h.Outs
 (refine Z6j rfl ?_; show Ev m_q3w.code _ _ _)
 repeat' (first | refine yy ?_ | refine ym ?_ | (apply ze;(iterate 5 exact rfl)) | (apply zf;(iterate 5 exact rfl)) | refine yp ?_ | refine yt1 ?_ | refine yt0 ?_ | refine yt ?_ ?_ | refine yo ?_ | apply zn | refine yc ?_ | exact rfl | intro _)
 refine zfor (GEntry.el .n) h.Root (fun i (_ : Unit) => [(1, .box ⟨0, 0, 0⟩ (h.cs .n)), (3, .x (iT i))]) (fun i _ => ∀ j, j < i -> (okE h.Root j && ordAt h.Root j) = true) () (by omega) rfl ?_ ?_
 ·rintro i _ e hx hlt hc _ hinv ih
  have hbe : e.bulk <= 4000000 := Y77 (Z1v (f := GEntry.bulk) hx) (by omega)
  cases i with
  | zero =>
   have h0 : decide (((0 : Nat) : Int) > 0) = !true := rfl
   have h1 : decide (((0 : Nat) : Int) > 0) = false := rfl
   have h2 : false = false := rfl
   repeat' (first | refine yy ?_ | refine ym ?_ | (apply ze;(iterate 5 exact rfl)) | (apply zf;(iterate 5 exact rfl)) | refine yp ?_ | refine yi (GEntry.el .n e) (Zar hx) ?_ | refine yk g_q3i (q3i_eq e hbe) ?_ | refine yt1 ?_ | refine yt0 ?_ | refine yt ?_ ?_ | refine yo ?_ | apply zn | refine yc ?_ | exact rfl | intro _)
   ·refine fin rfl (outB ?_)
    rename_i h
    have h3 : e.ok = false := by simpa using h
    rw [rootS, Ze hlt (by rw [Zc9 hx, h3]; rfl), Y8]
   ·rename_i h
    have h3 : e.ok = true := by simpa using h
    refine ih () (Zl8 hinv (by rw [Zc9 hx, h3, Zcj hx]; rfl)) _ _ ?_
    rw [w64s (by omega)]; rfl
  | succ k =>
   have hp := Y34 (show k < h.Root.length by omega)
   generalize h.Root[k]'(by omega) = p at hp
   have hk := Zly (k := k) (by omega)
   have hk0 : 0 <= IntKind.i64.wrap (((k + 1 : Nat) : Int) - 1) := by rw [hk]; omega
   have hkp : (h.Root.map (GEntry.el .n))[(IntKind.i64.wrap (((k + 1 : Nat) : Int) - 1)).toNat]? = some (GEntry.el .n p) := by rw [hk]; exact Zar hp
   have h0 : decide (((k + 1 : Nat) : Int) > 0) = true := by simp
   repeat' (first | refine yy ?_ | refine ym ?_ | (apply ze;(iterate 5 exact rfl)) | (apply zf;(iterate 5 exact rfl)) | refine yp ?_ | refine yi (GEntry.el .n e) (Zar hx) ?_ | refine yj (GEntry.el .n p) (hk0) (hkp) ?_ | refine yk g_q3i (q3i_eq e hbe) ?_ | refine yt1 ?_ | refine yt0 ?_ | refine yt ?_ ?_ | refine yo ?_ | apply zn | refine yc ?_ | exact rfl | intro _)
   ·refine fin rfl (outB ?_)
    rename_i h
    have h3 : e.ok = false := by simpa using h
    rw [rootS, Ze hlt (by rw [Zc9 hx, h3]; rfl), Y8]
   ·refine fin rfl (outB ?_)
    rename_i _ h
    rw [Zbr] at h
    have h3 : aheadE p e = false := by simpa using h
    rw [rootS, Ze hlt (by rw [Zci hx hp, h3, Y3]), Y8]
   ·rename_i h4 h
    rw [Zbr] at h
    have h5 : e.ok = true := by simpa using h4
    have h3 : aheadE p e = true := by simpa using h
    refine ih () (Zl8 hinv (by rw [Zc9 hx, Zci hx hp, h3, h5]; rfl)) _ _ ?_
    rw [w64s (i := k + 1) (by omega)]; rfl
 ·rintro _ hc _ hinv
  have h1 := Zf hinv
  repeat' (first | refine yy ?_ | refine ym ?_ | (apply ze;(iterate 5 exact rfl)) | (apply zf;(iterate 5 exact rfl)) | refine yp ?_ | refine yt1 ?_ | refine yt0 ?_ | refine yt ?_ ?_ | refine yo ?_ | apply zn | refine yc ?_ | exact rfl | intro _)
  refine zfor (GOut.el .n) h.Outs (fun i (_ : Unit) => [(1, .box ⟨0, 0, 0⟩ (h.cs .n)), (5, .x (iT i))]) (fun i _ => ∀ j, j < i -> (okO h.Outs j && gensAt h.Outs j) = true) () (by omega) rfl ?_ ?_
  ·rintro i _ o hx hlt hc _ hinv ih
   have hbe : o.Entry.bulk <= 4000000 := Y77 (Z1v (f := GOut.bulk) hx) (by omega)
   have hsl : 0 <= i /\ i <= (h.Outs.map (GOut.el .n)).length := by rw [Y45]; omega
   repeat' (first | refine yy ?_ | refine ym ?_ | (apply ze;(iterate 5 exact rfl)) | (apply zf;(iterate 5 exact rfl)) | refine yp ?_ | refine yi (GOut.el .n o) (Zar hx) ?_ | refine yk g_q3i (q3i_eq o.Entry hbe) ?_ | (apply zu;exact rfl;exact Z1k rfl rfl;exact rfl;exact (hsl);exact rfl;exact Zk5;exact rfl;exact rfl) | (apply zk g_q3v;exact rfl;exact rfl;exact (q3v_eq (h.Outs.take i) _ _ (by rw [Y48]; omega));(iterate 3 exact rfl)) | refine yt1 ?_ | refine yt0 ?_ | refine yt ?_ ?_ | refine yo ?_ | apply zn | refine yc ?_ | exact rfl | intro _)
   ·refine fin rfl (outB ?_)
    rename_i h4
    have h3 : (okO h.Outs i && gensAt h.Outs i) = false := by
     rw [Zcb hx, Z78 hx]
     revert h4
     cases o.Entry.ok <;> simp
    rw [rootS, Ze hlt h3, Y3]
   ·rename_i h4
    refine ih () (Zl8 hinv ?_) _ _ ?_
    ·rw [Zcb hx, Z78 hx]
     revert h4
     cases o.Entry.ok <;> simp
    ·rw [w64s (by omega)]; rfl
  ·rintro _ hc _ hinv
   repeat' (first | refine yy ?_ | refine ym ?_ | (apply ze;(iterate 5 exact rfl)) | (apply zf;(iterate 5 exact rfl)) | refine yp ?_ | refine yt1 ?_ | refine yt0 ?_ | refine yt ?_ ?_ | refine yo ?_ | apply zn | refine yc ?_ | exact rfl | intro _)
   refine fin rfl (outB ?_)
   rw [rootS, h1, Zf hinv]; rfl
end Go.Wr
namespace Go.Wr
set_option maxRecDepth 20000
theorem Z9s {α : Type} {f : α -> T} {l : List α} (n : Nat) : (((l.map f).length : Int) != (n : Nat)) = !decide (l.length = n) := by
 rw [Y45, Y7]
 simp only [bne_iff_ne, ne_eq, Y11, decide_eq_false_iff_not]
 omega
theorem Zbt {h : GHouse} : (((((((h.Seats.map (GSeat.el .n)).length : Int) != 3 || ((h.Rows.map (GRow.ls .n)).length : Int) != 3) || ((h.Turns.map (GTurn.el .n)).length : Int) != 2) || !inB h.Since 0 1000) || !inB h.Clock 0 100000) = true) <-> topB h = false := by
 rw [show (3 : Int) = ((3 : Nat) : Int) from rfl, show (2 : Int) = ((2 : Nat) : Int) from rfl, Z9s, Z9s, Z9s, topB]
 cases decide (h.Seats.length = 3) <;> cases decide (h.Rows.length = 3) <;> cases decide (h.Turns.length = 2) <;> cases inB h.Since 0 1000 <;> simp
theorem Zkx {h : GHouse} (ht : topB h = true) : h.Seats.length = 3 /\ h.Rows.length = 3 /\ h.Turns.length = 2 := by
 simp only [topB, Y2, decide_eq_true_eq] at ht
 exact ⟨ht.1.1.1.1, ht.1.1.1.2, ht.1.1.2⟩
theorem Zi8 {rin : Nat -> GRow -> Bool} {h : GHouse} {a : Nat} {s : GSeat} {rs : List GRow} (h1 : h.Seats[a]? = some s) (h2 : h.Rows[a]? = some rs) : seatAt rin h a = (s.ok h.Conf.Per && decide (rs.length = 2) && rs.all (rin a)) := by simp [seatAt, h1, h2]
theorem Zcw {rin : Nat -> GRow -> Bool} {h : GHouse} {a : Nat} (ha : a < 3) (h1 : seatAt rin h a = false) : partsB rin h = false := by
 rw [partsB, Ze ha h1]; simp
theorem Zgz {h : GHouse} {i k : Nat} {rs : List GRow} {r : GRow} (hl : h.bulk <= 4000000) (hx : h.Rows[i]? = some rs) (hy : rs[k]? = some r) : r.bulk <= 4000000 := by
 have h1 := Z1v (f := bulks GRow.bulk) hx
 have h2 := Z1v (f := GRow.bulk) hy
 unfold GHouse.bulk at hl
 omega
theorem Zia {h : GHouse} {i : Nat} {s : GSeat} (hl : h.bulk <= 4000000) (hx : h.Seats[i]? = some s) : s.bulk <= 4000000 := by
 have h1 := Z1v (f := GSeat.bulk) hx
 unfold GHouse.bulk at hl
 omega
theorem Zl2 {h : GHouse} {i : Nat} {s : GTurn} (hl : h.bulk <= 4000000) (hx : h.Turns[i]? = some s) : s.bulk <= 4000000 := by
 have h1 := Z1v (f := GTurn.bulk) hx
 unfold GHouse.bulk at hl
 omega
theorem Zgs {r : GRow} (hl : r.bulk <= 4000000) : (rowIdsS r).length <= 4194304 := by
 unfold rowIdsS
 split
 ·have h1 := Z8y r.Lst []
  have h2 := Z8b r.Lst
  unfold GRow.bulk at hl
  simp only [Y46] at h1
  omega
 ·simp
theorem q3t_eq (h : GHouse) (hl : h.bulk <= 4000000) : F_q3t [.st (h.cs .n)] = some ⟨[.one (.b (partsB rowInS h))], []⟩ := by
 (refine Z6j rfl ?_; show Ev m_q3t.code _ _ _)
 repeat' (first | refine yy ?_ | refine ym ?_ | (apply ze;(iterate 5 exact rfl)) | (apply zf;(iterate 5 exact rfl)) | refine yp ?_ | refine yk g_q36 (q36_eq _ _ _) ?_ | refine yt1 ?_ | refine yt0 ?_ | refine yt ?_ ?_ | refine yo ?_ | apply zn | refine yc ?_ | exact rfl | intro _)
 ·refine fin rfl (outB ?_)
  rename_i ht
  rw [partsB, not_top.1 ht]; rfl
 ·rename_i ht
  have ht2 : topB h = true := by
   cases e : topB h with
   | true => rfl
   | false => exact absurd (not_top.2 e) (by rw [ht]; simp)
  obtain ⟨l3, l3r, l2t⟩ := Zkx ht2
  refine zfor (GSeat.el .n) h.Seats (fun i (_ : Unit) => [(1, .box ⟨0, 0, 0⟩ (h.cs .n)), (3, .x (iT i))]) (fun i _ => ∀ j, j < i -> seatAt rowInS h j = true) () (by omega) rfl ?_ ?_
  ·rintro i _ s hx hlt _ _ hinv ih
   have hi3 : i < 3 := by omega
   have hc : decide ((i : Int) < 3) = true := by simp; omega
   have hxr := Y34 (show i < h.Rows.length by omega)
   generalize h.Rows[i]'(by omega) = rs at hxr
   have hbs := Zia hl hx
   repeat' (first | refine yy ?_ | refine ym ?_ | (apply ze;(iterate 5 exact rfl)) | (apply zf;(iterate 5 exact rfl)) | refine yp ?_ | refine yi (GSeat.el .n s) (Zar hx) ?_ | refine yi (GRow.ls .n rs) (Zar hxr) ?_ | refine yk g_q3q (q3q_eq s _ hbs) ?_ | refine yt1 ?_ | refine yt0 ?_ | refine yt ?_ ?_ | refine yo ?_ | apply zn | refine yc ?_ | exact rfl | intro _)
   ·refine fin rfl (outB ?_)
    rename_i h4
    rw [Zcw hi3]
    rw [Zi8 hx hxr]
    rw [show (2 : Int) = ((2 : Nat) : Int) from rfl, Z9s] at h4
    revert h4
    cases s.ok h.Conf.Per <;> cases decide (rs.length = 2) <;> simp
   ·rename_i h4
    rw [show (2 : Int) = ((2 : Nat) : Int) from rfl, Z9s] at h4
    have h5 : (s.ok h.Conf.Per && decide (rs.length = 2)) = true := by
     revert h4
     cases s.ok h.Conf.Per <;> cases decide (rs.length = 2) <;> simp
    have h6 : rs.length = 2 := by simp only [Y2, decide_eq_true_eq] at h5; exact h5.2
    refine zfor (GRow.el .n) rs (fun k (_ : Unit) => [(1, .box ⟨0, 0, 0⟩ (h.cs .n)), (3, .x (iT i)), (4, .x (iT k))]) (fun k _ => (rs.take k).all (rowInS i) = true) () (by simp) rfl ?_ ?_
    ·rintro k _ r hy hlt2 _ _ hinv2 ih2
     have hk2 : decide ((k : Int) < 2) = true := by simp; omega
     have hbr := Zgz hl hxr hy
     have hlr := Zgs hbr
     have hi2 : 0 <= (i : Int) /\ (i : Int) <= 2 := by omega
     have hsr : ∀ x ∈ rowIdsS r, SpanR x := fun x hx => (Zgu r ▸ Zgv r : SetR (rowIdsS r)).span hx
     repeat' (first | refine yy ?_ | refine ym ?_ | (apply ze;(iterate 5 exact rfl)) | (apply zf;(iterate 5 exact rfl)) | refine yp ?_ | refine yi (GRow.ls .n rs) (Zar hxr) ?_ | refine yi (GRow.el .n r) (Zar hy) ?_ | refine yk g_q3n (q3n_eq r hbr) ?_ | refine yk g_q3j (q3j_eq r hbr) ?_ | refine yv g_q3e (q3e_eq (rowIdsS r) _ hlr hi2 hsr) ?_ | refine yv g_q3o (q3o_eq (rowIdsS r) hlr) ?_ | refine yt1 ?_ | refine yt0 ?_ | refine yt ?_ ?_ | refine yo ?_ | apply zn | refine yc ?_ | exact rfl | intro _)
     ·refine fin rfl (outB ?_)
      rename_i h7
      have h8 : rowInS i r = false := by
       rw [rowInS]; revert h7
       rw [bne]
       cases r.ok <;> simp
      rw [Zcw hi3]
      rw [Zi8 hx hxr, Zbs (p := rowInS i) hy h8, Y3]
     ·rename_i h7
      have h8 : rowInS i r = true := by
       rw [rowInS]; revert h7
       rw [bne]
       cases r.ok <;> simp
      refine ih2 () (Zkj (p := rowInS i) hinv2 hy h8) _ _ ?_
      rw [w64s (by omega)]; rfl
    ·rintro _ _ _ hinv2
     have hk2 : decide ((rs.length : Int) < 2) = false := by simp; omega
     repeat' (first | refine yy ?_ | refine ym ?_ | (apply ze;(iterate 5 exact rfl)) | (apply zf;(iterate 5 exact rfl)) | refine yp ?_ | refine yt1 ?_ | refine yt0 ?_ | refine yt ?_ ?_ | refine yo ?_ | apply zn | refine yc ?_ | exact rfl | intro _)
     refine ih () (Zl8 hinv ?_) _ _ ?_
     ·rw [Zi8 hx hxr, h5, Zkl hinv2]; rfl
     ·rw [w64s (by omega)]; rfl
  ·rintro _ _ _ hinv
   have hc : decide ((h.Seats.length : Int) < 3) = false := by simp; omega
   have h7 : allIx 3 (seatAt rowInS h) = true := Zf (l3 ▸ hinv)
   repeat' (first | refine yy ?_ | refine ym ?_ | (apply ze;(iterate 5 exact rfl)) | (apply zf;(iterate 5 exact rfl)) | refine yp ?_ | refine yt1 ?_ | refine yt0 ?_ | refine yt ?_ ?_ | refine yo ?_ | apply zn | refine yc ?_ | exact rfl | intro _)
   refine zfor (GTurn.el .n) h.Turns (fun i (_ : Unit) => [(1, .box ⟨0, 0, 0⟩ (h.cs .n)), (6, .x (iT i))]) (fun i _ => (h.Turns.take i).all GTurn.ok = true) () (by simp) rfl ?_ ?_
   ·rintro i _ t hx hlt _ _ hinv ih
    have hc : decide ((i : Int) < 2) = true := by simp; omega
    have hbt := Zl2 hl hx
    repeat' (first | refine yy ?_ | refine ym ?_ | (apply ze;(iterate 5 exact rfl)) | (apply zf;(iterate 5 exact rfl)) | refine yp ?_ | refine yi (GTurn.el .n t) (Zar hx) ?_ | refine yk g_q3s (q3s_eq t hbt) ?_ | refine yt1 ?_ | refine yt0 ?_ | refine yt ?_ ?_ | refine yo ?_ | apply zn | refine yc ?_ | exact rfl | intro _)
    ·refine fin rfl (outB ?_)
     rename_i h4
     have h5 : t.ok = false := by simpa using h4
     rw [partsB, Zbs (p := GTurn.ok) hx h5, Y3]
    ·rename_i h4
     have h5 : t.ok = true := by simpa using h4
     refine ih () (Zkj (p := GTurn.ok) hinv hx h5) _ _ ?_
     rw [w64s (by omega)]; rfl
   ·rintro _ _ _ hinv
    have hc : decide ((h.Turns.length : Int) < 2) = false := by simp; omega
    repeat' (first | refine yy ?_ | refine ym ?_ | (apply ze;(iterate 5 exact rfl)) | (apply zf;(iterate 5 exact rfl)) | refine yp ?_ | refine yt1 ?_ | refine yt0 ?_ | refine yt ?_ ?_ | refine yo ?_ | apply zn | refine yc ?_ | exact rfl | intro _)
    refine fin rfl (outB ?_)
    rw [partsB, ht2, h7, Zkl hinv]; rfl
theorem Zbu {h : GHouse} : ((((((!h.Conf.ok || !inB h.Clock 0 100000) || ((h.Seats.map (GSeat.el .n)).length : Int) != 3) || ((h.Rows.map (GRow.ls .n)).length : Int) != 3) || ((h.Turns.map (GTurn.el .n)).length : Int) != 2) || !inB h.Since 0 1000) = true) <-> (h.Conf.ok && topB h) = false := by
 rw [show (3 : Int) = ((3 : Nat) : Int) from rfl, show (2 : Int) = ((2 : Nat) : Int) from rfl, Z9s, Z9s, Z9s, topB]
 cases h.Conf.ok <;> cases decide (h.Seats.length = 3) <;> cases decide (h.Rows.length = 3) <;> cases decide (h.Turns.length = 2) <;> cases inB h.Since 0 1000 <;> simp
theorem Z31 {h : GHouse} (hl : h.bulk <= 4000000) : h.Conf.Weights.length <= 4194304 := by
 unfold GHouse.bulk GConf.bulk at hl
 omega
theorem SetR.len {s : List GSpan} (h : SetR s) (hl : s.length <= 4194304) : s.length <= 4194304 := hl
theorem Zds : ∀ (l o : List GSpan), (l.foldl putLast o).length <= o.length + l.length
 | [], o => by simp
 | x :: l, o => by
  have h1 := Zds l (putLast o x)
  have h2 := Zdo o x
  simp only [Y28, Y42]
  omega
theorem Zl5 (s : List GSpan) : (unionG s).length <= s.length := by
 have := Zds (sortG s) []
 rw [Zjb] at this
 simpa [unionG] using this
theorem Z5n {l : List GEntry} : (l.flatMap GEntry.Ids).length <= bulks GEntry.bulk l := by
 rw [List.flatMap_def]
 exact Z5q (g := GEntry.bulk) (fun e => by unfold GEntry.bulk; omega) l
theorem Zgt {r : GRow} (hl : r.bulk <= 4000000) : (rowIds r).length <= 4194304 := by
 rw [Zgu]; exact Zgs hl
theorem qu_eq (h : GHouse) (hl : h.bulk <= 4000000) : F_qu [.st (h.cs .n)] = some ⟨[.one (.b (h.Conf.ok && partsB rowIn h && allIx h.Root.length (ordAt h.Root)))], []⟩ := by
 have hcl := Z31 hl
 have hro := Z1t GEntry.bulk h.Root
 (refine Z6j rfl ?_; show Ev m_qu.code _ _ _)
 repeat' (first | refine yy ?_ | refine ym ?_ | (apply ze;(iterate 5 exact rfl)) | (apply zf;(iterate 5 exact rfl)) | refine yp ?_ | refine yk g_q0 (q0_eq _ _ _) ?_ | refine yk g_qm (qm_eq h.Conf hcl) ?_ | refine yt1 ?_ | refine yt0 ?_ | refine yt ?_ ?_ | refine yo ?_ | apply zn | refine yc ?_ | exact rfl | intro _)
 ·refine fin rfl (outB ?_)
  rename_i ht
  rw [partsB, <- Bool.and_assoc, <- Bool.and_assoc, not_topI.1 ht]; rfl
 ·rename_i ht
  have ht2 : (h.Conf.ok && topB h) = true := by
   cases e : (h.Conf.ok && topB h) with
   | true => rfl
   | false => exact absurd (not_topI.2 e) (by rw [ht]; simp)
  have hco : h.Conf.ok = true := by simp only [Y2] at ht2; exact ht2.1
  have ht3 : topB h = true := by simp only [Y2] at ht2; exact ht2.2
  obtain ⟨l3, l3r, l2t⟩ := Zkx ht3
  rw [hco, Y15]
  refine zfor (GSeat.el .n) h.Seats (fun i (_ : Unit) => [(1, .box ⟨0, 0, 0⟩ (h.cs .n)), (46, .x (GSeat.ls .n h.Seats)), (47, .x (iT (h.Seats.map (GSeat.el .n)).length)), (48, .x (iT i))]) (fun i _ => ∀ j, j < i -> seatAt rowIn h j = true) () (by omega) rfl ?_ ?_
  ·rintro i _ s hx hlt hc _ hinv ih
   have hi3 : i < 3 := by omega
   have hxr := Y34 (show i < h.Rows.length by omega)
   generalize h.Rows[i]'(by omega) = rs at hxr
   have hbs := Zia hl hx
   repeat' (first | refine yy ?_ | refine ym ?_ | (apply ze;(iterate 5 exact rfl)) | (apply zf;(iterate 5 exact rfl)) | refine yp ?_ | refine yi (GSeat.el .n s) (Zar hx) ?_ | refine yi (GRow.ls .n rs) (Zar hxr) ?_ | refine yk g_qr (qr_eq s _ hbs) ?_ | refine yt1 ?_ | refine yt0 ?_ | refine yt ?_ ?_ | refine yo ?_ | apply zn | refine yc ?_ | exact rfl | intro _)
   ·refine fin rfl (outB ?_)
    rename_i h4
    rw [Zcw hi3]; rfl
    rw [Zi8 hx hxr]
    rw [show (2 : Int) = ((2 : Nat) : Int) from rfl, Z9s] at h4
    revert h4
    cases s.ok h.Conf.Per <;> cases decide (rs.length = 2) <;> simp
   ·rename_i h4
    rw [show (2 : Int) = ((2 : Nat) : Int) from rfl, Z9s] at h4
    have h5 : (s.ok h.Conf.Per && decide (rs.length = 2)) = true := by
     revert h4
     cases s.ok h.Conf.Per <;> cases decide (rs.length = 2) <;> simp
    have h6 : rs.length = 2 := by simp only [Y2, decide_eq_true_eq] at h5; exact h5.2
    refine zfor (GRow.el .n) rs (fun k (_ : Unit) => [(1, .box ⟨0, 0, 0⟩ (h.cs .n)), (3, .x (iT i)), (46, .x (GSeat.ls .n h.Seats)), (47, .x (iT (h.Seats.map (GSeat.el .n)).length)), (48, .x (iT i)), (72, .x (GRow.ls .n rs)), (73, .x (iT (rs.map (GRow.el .n)).length)), (74, .x (iT k))]) (fun k _ => (rs.take k).all (rowIn i) = true) () (by simp) rfl ?_ ?_
    ·rintro k _ r hy hlt2 hc2 _ hinv2 ih2
     have hbr := Zgz hl hxr hy
     have hlr := Zgt hbr
     repeat' (first | refine yy ?_ | refine ym ?_ | (apply ze;(iterate 5 exact rfl)) | (apply zf;(iterate 5 exact rfl)) | refine yp ?_ | refine yi (GRow.el .n r) (Zar hy) ?_ | refine yk g_qn (qn_eq r hbr) ?_ | refine yk g_qo (qo_eq r hbr) ?_ | refine yk g_q1 (q1_eq _ _) ?_ | refine yv g_qq (qq_eq (rowIds r) _ _ hlr) ?_ | refine yt1 ?_ | refine yt0 ?_ | refine yt ?_ ?_ | refine yo ?_ | apply zn | refine yc ?_ | exact rfl | intro _)
     ·refine fin rfl (outB ?_)
      rename_i h7
      have h8 : rowIn i r = false := by
       rw [rowIn]; revert h7
       cases r.ok <;> simp
      rw [Zcw hi3]; rfl
      rw [Zi8 hx hxr, Zbs (p := rowIn i) hy h8, Y3]
     ·rename_i h7
      have h8 : rowIn i r = true := by
       rw [rowIn]; revert h7
       cases r.ok <;> simp
      refine ih2 () (Zkj (p := rowIn i) hinv2 hy h8) _ _ ?_
      rw [w64s (by omega)]; rfl
    ·rintro _ hc2 _ hinv2
     repeat' (first | refine yy ?_ | refine ym ?_ | (apply ze;(iterate 5 exact rfl)) | (apply zf;(iterate 5 exact rfl)) | refine yp ?_ | refine yt1 ?_ | refine yt0 ?_ | refine yt ?_ ?_ | refine yo ?_ | apply zn | refine yc ?_ | exact rfl | intro _)
     refine ih () (Zl8 hinv ?_) _ _ ?_
     ·rw [Zi8 hx hxr, h5, Zkl hinv2]; rfl
     ·rw [w64s (by omega)]; rfl
  ·rintro _ hc _ hinv
   have h7 : allIx 3 (seatAt rowIn h) = true := Zf (l3 ▸ hinv)
   repeat' (first | refine yy ?_ | refine ym ?_ | (apply ze;(iterate 5 exact rfl)) | (apply zf;(iterate 5 exact rfl)) | refine yp ?_ | refine yt1 ?_ | refine yt0 ?_ | refine yt ?_ ?_ | refine yo ?_ | apply zn | refine yc ?_ | exact rfl | intro _)
   refine zfor (GTurn.el .n) h.Turns (fun i (_ : Unit) => [(1, .box ⟨0, 0, 0⟩ (h.cs .n)), (94, .x (GTurn.ls .n h.Turns)), (95, .x (iT (h.Turns.map (GTurn.el .n)).length)), (96, .x (iT i))]) (fun i _ => (h.Turns.take i).all GTurn.ok = true) () (by simp) rfl ?_ ?_
   ·rintro i _ t hx hlt hc _ hinv ih
    have hbt := Zl2 hl hx
    repeat' (first | refine yy ?_ | refine ym ?_ | (apply ze;(iterate 5 exact rfl)) | (apply zf;(iterate 5 exact rfl)) | refine yp ?_ | refine yi (GTurn.el .n t) (Zar hx) ?_ | refine yk g_qs (qs_eq t hbt) ?_ | refine yt1 ?_ | refine yt0 ?_ | refine yt ?_ ?_ | refine yo ?_ | apply zn | refine yc ?_ | exact rfl | intro _)
    ·refine fin rfl (outB ?_)
     rename_i h4
     have h5 : t.ok = false := by simpa using h4
     rw [partsB, Zbs (p := GTurn.ok) hx h5, Y3]; rfl
    ·rename_i h4
     have h5 : t.ok = true := by simpa using h4
     refine ih () (Zkj (p := GTurn.ok) hinv hx h5) _ _ ?_
     rw [w64s (by omega)]; rfl
   ·rintro _ hc _ hinv
    have h8 : partsB rowIn h = true := by rw [partsB, ht3, h7, Zkl hinv]; rfl
    rw [h8, Y15]
    repeat' (first | refine yy ?_ | refine ym ?_ | (apply ze;(iterate 5 exact rfl)) | (apply zf;(iterate 5 exact rfl)) | refine yp ?_ | refine yt1 ?_ | refine yt0 ?_ | refine yt ?_ ?_ | refine yo ?_ | apply zn | refine yc ?_ | exact rfl | intro _)
    refine zfor (GEntry.el .n) h.Root (fun i (_ : Unit) => [(1, .box ⟨0, 0, 0⟩ (h.cs .n)), (105, .x (GEntry.ls .n h.Root)), (106, .x (iT (h.Root.map (GEntry.el .n)).length)), (107, .x (iT i))]) (fun i _ => ∀ j, j < i -> ordAt h.Root j = true) () (by omega) rfl ?_ ?_
    ·rintro i _ e hx hlt hc _ hinv ih
     have hro2 : h.Root.length <= 4000000 := by unfold GHouse.bulk at hl; omega
     cases i with
     | zero =>
      have h0 : decide (((0 : Nat) : Int) > 0) = !true := rfl
      have h1 : decide (((0 : Nat) : Int) > 0) = false := rfl
      have h2 : false = false := rfl
      repeat' (first | refine yy ?_ | refine ym ?_ | (apply ze;(iterate 5 exact rfl)) | (apply zf;(iterate 5 exact rfl)) | refine yp ?_ | refine yi (GEntry.el .n e) (Zar hx) ?_ | refine yt1 ?_ | refine yt0 ?_ | refine yt ?_ ?_ | refine yo ?_ | apply zn | refine yc ?_ | exact rfl | intro _)
      refine ih () (Zl8 hinv (Zcj hx)) _ _ ?_
      rw [w64s (by omega)]; rfl
     | succ k =>
      have hp := Y34 (show k < h.Root.length by omega)
      generalize h.Root[k]'(by omega) = p at hp
      have hk := Zly (k := k) (by omega)
      have hk0 : 0 <= IntKind.i64.wrap (((k + 1 : Nat) : Int) - 1) := by rw [hk]; omega
      have hkp : (h.Root.map (GEntry.el .n))[(IntKind.i64.wrap (((k + 1 : Nat) : Int) - 1)).toNat]? = some (GEntry.el .n p) := by rw [hk]; exact Zar hp
      have h0 : decide (((k + 1 : Nat) : Int) > 0) = true := by simp
      repeat' (first | refine yy ?_ | refine ym ?_ | (apply ze;(iterate 5 exact rfl)) | (apply zf;(iterate 5 exact rfl)) | refine yp ?_ | refine yi (GEntry.el .n e) (Zar hx) ?_ | refine yj (GEntry.el .n p) (hk0) (hkp) ?_ | refine yk g_qt (qt_eq p e) ?_ | refine yt1 ?_ | refine yt0 ?_ | refine yt ?_ ?_ | refine yo ?_ | apply zn | refine yc ?_ | exact rfl | intro _)
      ·refine fin rfl (outB ?_)
       rename_i h4
       have h3 : aheadE p e = false := by simpa using h4
       rw [Ze hlt (by rw [Zci hx hp, h3])]
      ·rename_i h4
       have h3 : aheadE p e = true := by simpa using h4
       refine ih () (Zl8 hinv (by rw [Zci hx hp, h3])) _ _ ?_
       rw [w64s (i := k + 1) (by omega)]; rfl
    ·rintro _ hc _ hinv
     rw [Zf hinv]
     repeat' (first | refine yy ?_ | refine ym ?_ | (apply ze;(iterate 5 exact rfl)) | (apply zf;(iterate 5 exact rfl)) | refine yp ?_ | refine yt1 ?_ | refine yt0 ?_ | refine yt ?_ ?_ | refine yo ?_ | apply zn | refine yc ?_ | exact rfl | intro _)
     exact fin rfl rfl
end Go.Wr
namespace Go.Wr
set_option maxRecDepth 20000
def ofs (l : List GEntry) (a : Int) : Int := (l.map fun e => ofAgent e.Ids a).sum
theorem Zc4 : ∀ (l : List GEntry) (a : Int), 0 <= ofs l a /\ ofs l a <= 60 * bulks GEntry.bulk l
 | [], a => by simp [ofs, bulks]
 | e :: l, a => by
  have h1 := Zc4 l a
  have h2 := Zbx e.Ids a
  have h3 : e.Ids.length <= e.bulk := by unfold GEntry.bulk; omega
  unfold ofs bulks at h1 ⊢
  simp only [Y50, Y69, Y42]
  omega
theorem Zc5 {l : List GEntry} {i : Nat} {e : GEntry} {a : Int} (h : l[i]? = some e) : ofs (l.take (i + 1)) a = ofs (l.take i) a + ofAgent e.Ids a := by
 unfold ofs; rw [Y70, h]; simp
theorem Z1w {α : Type} (f : α -> Nat) : ∀ (l : List α) (i : Nat), bulks f (l.take i) <= bulks f l
 | [], i => by simp
 | x :: l, 0 => by simp [bulks]
 | x :: l, i + 1 => by
  have := Z1w f l i
  unfold bulks at this ⊢
  simp only [List.take_succ_cons, Y50, Y69, Y42]
  omega
theorem Zcp (l : List GOut) : bulks GEntry.bulk (l.map GOut.Entry) = bulks GOut.bulk l := by
 unfold bulks; rw [Y45, Y51]; rfl
theorem Z1s {α : Type} (f : α -> Nat) (a b : List α) : bulks f (a ++ b) = bulks f a + bulks f b := by
 unfold bulks; rw [Y41, Y49, List.sum_append]; omega
theorem Zh0 (rs : List GRow) : bulks GEntry.bulk (rowsE rs) <= bulks GRow.bulk rs := by
 induction rs with
 | nil => simp [rowsE, bulks]
 | cons r rs ih =>
  have : rowsE (r :: rs) = r.Lst ++ rowsE rs := rfl
  rw [this, Z1s]
  have e : bulks GRow.bulk (r :: rs) = 1 + r.bulk + bulks GRow.bulk rs := by unfold bulks; simp; omega
  rw [e]; unfold GRow.bulk at ih ⊢; omega
theorem Zgp (h : GHouse) : bulks GEntry.bulk (rowEnts h) <= bulks (bulks GRow.bulk) h.Rows := by
 rw [Zgq]
 induction h.Rows with
 | nil => simp [bulks]
 | cons rs l ih =>
  rw [Y50, Y27, Z1s]
  have e : bulks (bulks GRow.bulk) (rs :: l) = 1 + bulks GRow.bulk rs + bulks (bulks GRow.bulk) l := by unfold bulks; simp; omega
  have := Zh0 rs
  omega
theorem Z2 (h : GHouse) : bulks GEntry.bulk (addedE h) = bulks GEntry.bulk h.Root + bulks GOut.bulk h.Outs := by
 rw [addedE, Z1s, Zcp]
theorem Zh {h : GHouse} (hl : h.bulk <= 4000000) : bulks GEntry.bulk (allE h) <= 4000000 := by
 rw [allE, Z1s, Z2]
 have := Zgp h
 unfold GHouse.bulk at hl
 omega
theorem Z0 {l : List GEntry} {k : Nat} {e : GEntry} (h : l[k]? = some e) : accAt l k = setApart (joins (l.take k) []) e.Ids := by simp [accAt, h]
theorem Zi {h : GHouse} (hp : partsB rowInS h = true) (hr : rootS h = true) : ∀ e ∈ allE h, e.ok = true := by
 have h1 := Zcx (fun a r h => Zgw h) (Zcv h ▸ hp)
 rw [rootS, Zb, Zb] at hr
 simp only [Y2] at hr
 intro e he
 rcases Y52.1 he with he | he
 ·exact h1 e he
 ·rcases Y52.1 he with he | he
  ·exact okE_iff.1 hr.1.1 e he
  ·obtain ⟨o, ho, rfl⟩ := Y60.1 he
   exact okO_iff.1 hr.2.1 o ho
theorem Zau {h : GHouse} {a : Nat} {s : GSeat} (hx : h.Seats[a]? = some s) : mergedS h a = (ofs h.Root a + ofs (h.Outs.map GOut.Entry) a == s.Merged) := by
 simp only [mergedS, hx, ofs, Y51]; rfl
theorem q3z_eq (h : GHouse) (hl : h.bulk <= 4000000) : F_q3z [.st (h.cs .n)] = some ⟨[.one (.b (houseS h))], []⟩ := by
 have hcl := Z31 hl
 (refine Z6j rfl ?_; show Ev m_q3z.code _ _ _)
 repeat' (first | refine yy ?_ | refine ym ?_ | (apply ze;(iterate 5 exact rfl)) | (apply zf;(iterate 5 exact rfl)) | refine yp ?_ | refine yk g_q38 (q38_eq h.Conf hcl) ?_ | refine yk g_q3t (q3t_eq h hl) ?_ | refine yk g_q3w (q3w_eq h hl) ?_ | refine yk g_q3b (q3b_eq h hl) ?_ | refine yt1 ?_ | refine yt0 ?_ | refine yt ?_ ?_ | refine yo ?_ | apply zn | refine yc ?_ | exact rfl | intro _)
 ·refine fin rfl (outB ?_)
  rename_i h1
  rw [houseS]; revert h1
  cases h.Conf.ok <;> cases partsB rowInS h <;> cases rootS h <;> simp
 ·rename_i h1
  have h2 : h.Conf.ok = true /\ partsB rowInS h = true /\ rootS h = true := by
   revert h1
   cases h.Conf.ok <;> cases partsB rowInS h <;> cases rootS h <;> simp
  have hok := Zi h2.2.1 h2.2.2
  have hse := Zcy h2.2.1
  have hab := Zh hl
  have hal := Z1t GEntry.bulk (allE h)
  have hh : ∀ e ∈ allE h, ∀ x ∈ e.Ids, HiR x := fun e he => Ziu (ok_ids (hok e he))
  refine zfor (GEntry.el .n) (allE h) (fun i (ids : List GSpan) => [(1, .box ⟨0, 0, 0⟩ (h.cs .n)), (3, .own ⟨0, 0, 0⟩ (GSpan.ls .y ids)), (4, .own ⟨0, 0, 0⟩ (.l .y 10 ((allE h).map (GEntry.el .n)))), (5, .x (iT i))]) (fun i ids => ids = joins ((allE h).take i) [] /\ ∀ j, j < i -> accAt (allE h) j = true) [] ⟨rfl, by omega⟩ rfl ?_ ?_
  ·rintro i ids e hx hlt hc _ ⟨hinv, hacc⟩ ih
   have hei := Y62 hx
   have hll : (joins ((allE h).take i) []).length <= _ := Z8y ((allE h).take i) []
   rw [<- hinv] at hll
   have hl3 := Zd9 (f := fun e : GEntry => e.Ids.length) hx
   have hl4 := Zd8 (f := fun e : GEntry => e.Ids.length) (l := allE h) (i := i + 1)
   have hsm := Z8b (allE h)
   have hl5 : ids.length + e.Ids.length <= 4194304 := by
    unfold bulks at hl4; simp only [pre, Y46] at hll hl3 hl4; omega
   have hl6 : ids.length <= 4194304 := by omega
   have hl7 : e.Ids.length <= 4194304 := by omega
   have hih : ∀ z ∈ ids, HiR z := hinv ▸ Z8x (fun e he => hh e (Y63 he)) (by simp)
   repeat' (first | refine yy ?_ | refine ym ?_ | (apply ze;(iterate 5 exact rfl)) | (apply zf;(iterate 5 exact rfl)) | refine yp ?_ | refine yx (Zcs hlt) ?_ | refine yl (GEntry.el .n e) (Zbj (Zar hx)) ?_ | refine yv g_q3a (q3a_eq ids e.Ids hl6 hl7) ?_ | refine yw g_q3m (q3m_eq ids e.Ids hl5 hih (hh e hei)) (Z28 rfl (Z2p (fun _ => rfl) _)) ?_ | refine yt1 ?_ | refine yt0 ?_ | refine yt ?_ ?_ | refine yo ?_ | apply zn | refine yc ?_ | exact rfl | intro _)
   ·refine fin rfl (outB ?_)
    rename_i h4
    have h5 : accAt (allE h) i = false := by rw [Z0 hx, <- hinv]; simpa using h4
    rw [houseS, accB, Ze hlt h5]; simp
   ·rename_i h4
    have h5 : accAt (allE h) i = true := by rw [Z0 hx, <- hinv]; simpa using h4
    refine ih (joinG ids e.Ids) ⟨by rw [hinv, joins, joins, Z5y (f := fun o (e : GEntry) => joinG o e.Ids) hx], Zl8 hacc h5⟩ _ _ ?_
    rw [w64s (by omega)]; rfl
  ·rintro ids hc _ ⟨hinv, hacc⟩
   rw [Y72] at hinv
   have h6 : accB (allE h) = true := Zf hacc
   have hidl : ids.length <= 4194304 := by
    have : (joins (allE h) []).length <= _ := Z8y (allE h) []
    have hsm := Z8b (allE h)
    rw [<- hinv] at this
    simp only [Y46] at this; omega
   repeat' (first | refine yy ?_ | refine ym ?_ | (apply ze;(iterate 5 exact rfl)) | (apply zf;(iterate 5 exact rfl)) | refine yp ?_ | refine yk g_q3x (q3x_eq h hl hse) ?_ | refine yv g_q3y (q3y_eq ids ((takenL h.Seats 0).foldl putG []) hidl) ?_ | refine yt1 ?_ | refine yt0 ?_ | refine yt ?_ ?_ | refine yo ?_ | apply zn | refine yc ?_ | exact rfl | intro _)
   ·refine fin rfl (outB ?_)
    rename_i h4
    rw [hinv] at h4
    have h5 : decide (joins (allE h) [] = (takenL h.Seats 0).foldl putG []) = false := by simpa using h4
    rw [houseS, h5]; simp
   ·rename_i h4
    rw [hinv] at h4
    have h5 : decide (joins (allE h) [] = (takenL h.Seats 0).foldl putG []) = true := by simpa using h4
    have hro := Z1t GEntry.bulk h.Root
    have hou := Z1t GOut.bulk h.Outs
    have hlb : bulks GEntry.bulk h.Root <= 4000000 /\ bulks GOut.bulk h.Outs <= 4000000 := by unfold GHouse.bulk at hl; omega
    refine zfor (GSeat.el .n) h.Seats (fun i (_ : Unit) => [(1, .box ⟨0, 0, 0⟩ (h.cs .n)), (6, .x (iT i))]) (fun i _ => ∀ j, j < i -> mergedS h j = true) () (by omega) rfl ?_ ?_
    ·rintro i _ s hx hlt _ _ hmer ih
     have hi3 : i < 3 := hse.1 ▸ hlt
     have hc : decide ((i : Int) < 3) = true := by simp; omega
     have hi2 : 0 <= (i : Int) /\ (i : Int) <= 2 := by omega
     repeat' (first | refine yy ?_ | refine ym ?_ | (apply ze;(iterate 5 exact rfl)) | (apply zf;(iterate 5 exact rfl)) | refine yp ?_ | refine yt1 ?_ | refine yt0 ?_ | refine yt ?_ ?_ | refine yo ?_ | apply zn | refine yc ?_ | exact rfl | intro _)
     refine zfor (GEntry.el .n) h.Root (fun k (n : Int) => [(1, .box ⟨0, 0, 0⟩ (h.cs .n)), (6, .x (iT i)), (7, .x (iT n)), (8, .x (iT k))]) (fun k n => n = ofs (h.Root.take k) i) 0 rfl rfl ?_ ?_
     ·rintro k n e hy hlt2 hc2 _ hinv2 ih2
      have hee : e ∈ allE h := Y54 _ (Y53 _ (Y62 hy))
      have hbe : e.Ids.length <= 4194304 := by
       have := Z1v (f := GEntry.bulk) hy
       unfold GEntry.bulk at this hlb; omega
      have hsp : ∀ x ∈ e.Ids, SpanR x := fun x hx => (ok_setR (hok e hee)).span hx
      have hb1 := Zc4 (h.Root.take k) i
      have hb2 := Zbx e.Ids i
      have hb3 := Z1w GEntry.bulk h.Root k
      repeat' (first | refine yy ?_ | refine ym ?_ | (apply ze;(iterate 5 exact rfl)) | (apply zf;(iterate 5 exact rfl)) | refine yp ?_ | refine yi (GEntry.el .n e) (Zar hy) ?_ | refine yk g_q3e (q3e_eq e.Ids _ hbe hi2 hsp) ?_ | refine yt1 ?_ | refine yt0 ?_ | refine yt ?_ ?_ | refine yo ?_ | apply zn | refine yc ?_ | exact rfl | intro _)
      refine ih2 _ (Zc5 hy).symm _ _ ?_
      rw [hinv2, w64 (n := ofs (h.Root.take k) i + ofAgent e.Ids i) (by omega), w64s (by omega)]; rfl
     ·rintro n hc2 _ hinv2
      rw [Y72] at hinv2
      repeat' (first | refine yy ?_ | refine ym ?_ | (apply ze;(iterate 5 exact rfl)) | (apply zf;(iterate 5 exact rfl)) | refine yp ?_ | refine yt1 ?_ | refine yt0 ?_ | refine yt ?_ ?_ | refine yo ?_ | apply zn | refine yc ?_ | exact rfl | intro _)
      refine zfor (GOut.el .n) h.Outs (fun k (n : Int) => [(1, .box ⟨0, 0, 0⟩ (h.cs .n)), (6, .x (iT i)), (7, .x (iT n)), (9, .x (iT k))]) (fun k m => m = n + ofs ((h.Outs.take k).map GOut.Entry) i) n (by simp [ofs]) rfl ?_ ?_
      ·rintro k m o hy hlt2 hc2 _ hinv3 ih2
       have hee : o.Entry ∈ allE h := Y54 _ (Y54 _ (Y60.2 ⟨o, Y62 hy, rfl⟩))
       have hbe : o.Entry.Ids.length <= 4194304 := by
        have := Z1v (f := GOut.bulk) hy
        unfold GOut.bulk GEntry.bulk at this; unfold GOut.bulk GEntry.bulk at hlb; omega
       have hsp : ∀ x ∈ o.Entry.Ids, SpanR x := fun x hx => (ok_setR (hok o.Entry hee)).span hx
       have hb0 := Zc4 h.Root i
       have hb1 := Zc4 ((h.Outs.take k).map GOut.Entry) i
       have hb2 := Zbx o.Entry.Ids i
       have hb3 := Z1w GOut.bulk h.Outs k
       rw [Zcp] at hb1
       have hsu : ofs ((h.Outs.take (k + 1)).map GOut.Entry) i = ofs ((h.Outs.take k).map GOut.Entry) i + ofAgent o.Entry.Ids i := by
        rw [Zat hy]; simp [ofs]
       repeat' (first | refine yy ?_ | refine ym ?_ | (apply ze;(iterate 5 exact rfl)) | (apply zf;(iterate 5 exact rfl)) | refine yp ?_ | refine yi (GOut.el .n o) (Zar hy) ?_ | refine yk g_q3e (q3e_eq o.Entry.Ids _ hbe hi2 hsp) ?_ | refine yt1 ?_ | refine yt0 ?_ | refine yt ?_ ?_ | refine yo ?_ | apply zn | refine yc ?_ | exact rfl | intro _)
       refine ih2 _ rfl _ _ ?_
       rw [hsu, <- Int.add_assoc, <- hinv3, w64 (n := m + ofAgent o.Entry.Ids i) (by omega), w64s (by omega)]; rfl
      ·rintro m hc2 _ hinv3
       rw [Y72, hinv2] at hinv3
       repeat' (first | refine yy ?_ | refine ym ?_ | (apply ze;(iterate 5 exact rfl)) | (apply zf;(iterate 5 exact rfl)) | refine yp ?_ | refine yi (GSeat.el .n s) (Zar hx) ?_ | refine yt1 ?_ | refine yt0 ?_ | refine yt ?_ ?_ | refine yo ?_ | apply zn | refine yc ?_ | exact rfl | intro _)
       ·refine fin rfl (outB ?_)
        rename_i h7
        have h8 : mergedS h i = false := by rw [Zau hx, <- hinv3]; simpa using h7
        rw [houseS, Ze hi3 h8]; simp
       ·rename_i h7
        have h8 : mergedS h i = true := by rw [Zau hx, <- hinv3]; simpa using h7
        refine ih () (Zl8 hmer h8) _ _ ?_
        rw [w64s (by omega)]; rfl
    ·rintro _ _ _ hmer
     have hc : decide ((h.Seats.length : Int) < 3) = false := by rw [hse.1]; rfl
     have h9 : allIx 3 (mergedS h) = true := Zf (hse.1 ▸ hmer)
     repeat' (first | refine yy ?_ | refine ym ?_ | (apply ze;(iterate 5 exact rfl)) | (apply zf;(iterate 5 exact rfl)) | refine yp ?_ | refine yt1 ?_ | refine yt0 ?_ | refine yt ?_ ?_ | refine yo ?_ | apply zn | refine yc ?_ | exact rfl | intro _)
     refine fin rfl (outB ?_)
     rw [houseS, h2.1, h2.2.1, h2.2.2, h5, h6, h9]; rfl
end Go.Wr
namespace Go.Wr
set_option maxRecDepth 20000
theorem qy_eq (h : GHouse) (hl : h.bulk <= 4000000) : F_qy [.st (h.cs .n)] = some ⟨[.one (.b (houseI h))], []⟩ := by
 have hab := Zh hl
 have hal := Z1t GEntry.bulk (allE h)
 have happ : ((rowEnts h).map (GEntry.el .n)).length + ((addedE h).map (GEntry.el .n)).length < lenMax := by
  rw [Y45, Y45]; unfold lenMax
  have e : (allE h).length = (rowEnts h).length + (addedE h).length := by rw [allE, Y41]
  omega
 have hmap : (rowEnts h).map (GEntry.el .n) ++ (addedE h).map (GEntry.el .n) = (allE h).map (GEntry.el .n) := by rw [allE, Y49]
 have hapt : F_qd [.x (.l .n 10 (fzs ((rowEnts h).map (GEntry.el .n) ++ (addedE h).map (GEntry.el .n))))] = some ⟨[.one (.b (entsApart (allE h)))], []⟩ := by
  rw [hmap, Z6r]; exact qd_eq (allE h) hab
 have hpar := qu_eq h hl
 cases hp : (h.Conf.ok && partsB rowIn h && allIx h.Root.length (ordAt h.Root)) with
 | false =>
  rw [hp] at hpar
  have h1 : (!false) = !false := rfl
  have h2 : (!false) = true := rfl
  have h3 : true = true := rfl
  (refine Z6j rfl ?_; show Ev m_qy.code _ _ _)
  repeat' (first | refine yy ?_ | refine ym ?_ | (apply ze;(iterate 5 exact rfl)) | (apply zf;(iterate 5 exact rfl)) | refine yp ?_ | refine yk g_qu (hpar) ?_ | refine yt1 ?_ | refine yt0 ?_ | refine yt ?_ ?_ | refine yo ?_ | apply zn | refine yc ?_ | exact rfl | intro _)
  refine fin rfl (outB ?_)
  rw [houseI, hp]; simp
 | true =>
  rw [hp] at hpar
  have h1 : (!true) = false := rfl
  have hadb : bulks GEntry.bulk (addedE h) <= 4000000 := by rw [allE, Z1s] at hab; omega
  have hll : F_qk [.x (.l .n 10 (fzs ((rowEnts h).map (GEntry.el .n) ++ (addedE h).map (GEntry.el .n))))] = F_qk [.x (GEntry.ls .n (allE h))] := by
   rw [hmap, Z6r]
  (refine Z6j rfl ?_; show Ev m_qy.code _ _ _)
  repeat' (first | refine yy ?_ | refine ym ?_ | (apply ze;(iterate 5 exact rfl)) | (apply zf;(iterate 5 exact rfl)) | refine yp ?_ | refine yk g_qu (hpar) ?_ | refine yk g_qv (qv_eq h hl) ?_ | refine yk g_q6 (q6_eq h hl) ?_ | (apply zao;(iterate 4 exact rfl);exact (Z6r _);exact (happ);(iterate 3 exact rfl)) | refine yk g_qd (hapt) ?_ | refine yt1 ?_ | refine yt0 ?_ | refine yt ?_ ?_ | refine yo ?_ | apply zn | refine yc ?_ | exact rfl | intro _)
  ·refine fin rfl (outB ?_)
   rename_i h4
   have h5 : entsApart (allE h) = false := by simpa using h4
   rw [houseI, h5]; simp
  ·rename_i h4
   have hea : entsApart (allE h) = true := by simpa using h4
   have hpp : partsB rowIn h = true := by simp only [Y2] at hp; exact hp.1.2
   have hse := Zcy hpp
   have hah := Z3j hea
   have hdh : ∀ e ∈ addedE h, ∀ x ∈ e.Ids, HiR x := fun e he => hah e (Y54 _ he)
   have hidl : (idsOf (addedE h)).length <= 4194304 := Y77 (Zl5 _) (Y77 Z5n (by omega))
   have hial : (idsOf (allE h)).length <= 4194304 := Y77 (Zl5 _) (Y77 Z5n (by omega))
   have hids := qk_eq (addedE h) hadb hdh
   have hids2 := hll.trans (qk_eq (allE h) hab hah)
   have htl := Zkp h.Seats 0
   have hsb : bulks GSeat.bulk h.Seats <= 4000000 := by unfold GHouse.bulk at hl; omega
   have htr := Zkq (l := h.Seats) (a := 0) hse.2 (by rw [hse.1]; omega)
   repeat' (first | refine yy ?_ | refine ym ?_ | (apply ze;(iterate 5 exact rfl)) | (apply zf;(iterate 5 exact rfl)) | refine yp ?_ | refine yw g_qk (hids) (Z28 rfl (Z2p (fun _ => rfl) _)) ?_ | refine yt1 ?_ | refine yt0 ?_ | refine yt ?_ ?_ | refine yo ?_ | apply zn | refine yc ?_ | exact rfl | intro _)
   refine zfor (GSeat.el .n) h.Seats (fun i (tk : List GSpan) => [(1, .box ⟨0, 0, 0⟩ (h.cs .n)), (3, .own ⟨0, 0, 0⟩ (GSpan.ls .y tk)), (4, .own ⟨0, 0, 0⟩ (GSpan.ls .y (idsOf (addedE h)))), (29, .x (GSeat.ls .n h.Seats)), (30, .x (iT (h.Seats.map (GSeat.el .n)).length)), (31, .x (iT i))]) (fun i tk => tk = takenL (h.Seats.take i) 0 /\ ∀ j, j < i -> mergedI h j = true) [] ⟨rfl, by omega⟩ rfl ?_ ?_
   ·rintro i tk s hx hlt hc _ ⟨hinv, hmer⟩ ih
    have hi3 : i < 3 := hse.1 ▸ hlt
    have hr := hse.2 s (Y62 hx)
    repeat' (first | refine yy ?_ | refine ym ?_ | (apply ze;(iterate 5 exact rfl)) | (apply zf;(iterate 5 exact rfl)) | refine yp ?_ | refine yi (GSeat.el .n s) (Zar hx) ?_ | refine yt1 ?_ | refine yt0 ?_ | refine yt ?_ ?_ | refine yo ?_ | apply zn | refine yc ?_ | exact rfl | intro _)
    refine zfor (fun k : Nat => iT k) (List.range 60) (fun k (n : Nat) => [(1, .box ⟨0, 0, 0⟩ (h.cs .n)), (3, .own ⟨0, 0, 0⟩ (GSpan.ls .y tk)), (4, .own ⟨0, 0, 0⟩ (GSpan.ls .y (idsOf (addedE h)))), (5, .x (iT i)), (6, .box ⟨0, 0, 0⟩ (s.cs .n)), (7, .x (iT n)), (8, .x (iT ((k : Int) + 1))), (29, .x (GSeat.ls .n h.Seats)), (30, .x (iT (h.Seats.map (GSeat.el .n)).length)), (31, .x (iT i))]) (fun k n => n = cntHas (idsOf (addedE h)) i k) 0 rfl rfl ?_ ?_
    ·rintro k n x hy hlt2 _ _ hinv2 ih2
     rw [List.length_range] at hlt2
     have hc2 : decide ((k : Int) + 1 <= 60) = true := by simp; omega
     have hid := Z88 (a := i) (by omega) (s := (k : Int) + 1) (by omega)
     have hn : n <= k := by rw [hinv2]; unfold cntHas; exact Y77 List.countP_le_length (by simp)
     have hcnt : cntHas (idsOf (addedE h)) i (k + 1) = cntHas (idsOf (addedE h)) i k + if setHas (idsOf (addedE h)) (idOf i ((k : Int) + 1)) then 1 else 0 := by
      rw [hid]; unfold cntHas; rw [List.range_succ, List.countP_append, List.countP_singleton]
     have hw8 : IntKind.i64.wrap ((k : Int) + 1 + 1) = ((k + 1 : Nat) : Int) + 1 := by rw [w64 (by omega)]; omega
     repeat' (first | refine yy ?_ | refine ym ?_ | (apply ze;(iterate 5 exact rfl)) | (apply zf;(iterate 5 exact rfl)) | refine yp ?_ | refine yk g_q1 (q1_eq _ _) ?_ | refine yv g_q5 (q5_eq (idsOf (addedE h)) _ hidl) ?_ | refine yt1 ?_ | refine yt0 ?_ | refine yt ?_ ?_ | refine yo ?_ | apply zn | refine yc ?_ | exact rfl | intro _)
     ·rename_i h5
      refine ih2 (n + 1) (by rw [hcnt, <- hinv2, if_pos h5]) _ _ ?_
      rw [w64s (i := n) (by omega), hw8]; rfl
     ·rename_i h5
      refine ih2 n (by rw [hcnt, <- hinv2, if_neg (by rw [h5]; simp), Y75]) _ _ ?_
      rw [hw8]; rfl
    ·rintro n _ _ hinv2
     rw [List.length_range] at hinv2 ⊢
     have hc2 : decide (((60 : Nat) : Int) + 1 <= 60) = false := rfl
     repeat' (first | refine yy ?_ | refine ym ?_ | (apply ze;(iterate 5 exact rfl)) | (apply zf;(iterate 5 exact rfl)) | refine yp ?_ | refine yt1 ?_ | refine yt0 ?_ | refine yt ?_ ?_ | refine yo ?_ | apply zn | refine yc ?_ | exact rfl | intro _)
     ·refine fin rfl (outB ?_)
      rename_i h5
      have h6 : mergedI h i = false := by
       simp only [mergedI, hx]; rw [<- hinv2]; simpa using h5
      rw [houseI, Ze hi3 h6]; simp
     ·rename_i h5
      have h6 : mergedI h i = true := by
       simp only [mergedI, hx]; rw [<- hinv2]; simpa using h5
      have htl2 := Zkp (h.Seats.take i) 0
      have hbt := Z1w GSeat.bulk h.Seats i
      have hbs : s.Taken.length <= 4000000 := Y77 (Z1v (f := GSeat.bulk) hx) hsb
      have hta : tk.length <= 4000000 := by rw [hinv]; omega
      refine zfor (GSpan.el .n) s.Taken (fun k (o : List GSpan) => [(1, .box ⟨0, 0, 0⟩ (h.cs .n)), (3, .own ⟨0, 0, 0⟩ (GSpan.ls .y o)), (4, .own ⟨0, 0, 0⟩ (GSpan.ls .y (idsOf (addedE h)))), (5, .x (iT i)), (6, .box ⟨0, 0, 0⟩ (s.cs .n)), (29, .x (GSeat.ls .n h.Seats)), (30, .x (iT (h.Seats.map (GSeat.el .n)).length)), (31, .x (iT i)), (52, .x (GSpan.ls .n s.Taken)), (53, .x (iT (s.Taken.map (GSpan.el .n)).length)), (54, .x (iT k))]) (fun k o => o = tk ++ (s.Taken.take k).map (shiftS i)) tk (by simp) rfl ?_ ?_
      ·rintro k o x hy hlt2 hc2 _ hinv3 ih3
       have hxr := hr x (Y62 hy)
       have hsh : (⟨idOf i x.Lo, idOf i x.Hi⟩ : GSpan) = shiftS i x := by
        rw [Z88 (by omega) (by omega), Z88 (by omega) (by omega)]; rfl
       have happ2 : (o.map (GSpan.el .y)).length + ([GSpan.mk (idOf i x.Lo) (idOf i x.Hi)].map (GSpan.el .n)).length < lenMax := by
        rw [Y45, hinv3, Y41, Y45, Y48]; simp [lenMax]; omega
       repeat' (first | refine yy ?_ | refine ym ?_ | (apply ze;(iterate 5 exact rfl)) | (apply zf;(iterate 5 exact rfl)) | refine yp ?_ | refine yi (GSpan.el .n x) (Zar hy) ?_ | refine yk g_q1 (q1_eq _ _) ?_ | (apply zv;(iterate 7 exact rfl);exact (happ2);exact (rfl);exact rfl;exact rfl) | refine yt1 ?_ | refine yt0 ?_ | refine yt ?_ ?_ | refine yo ?_ | apply zn | refine yc ?_ | exact rfl | intro _)
       refine ih3 (o ++ [⟨idOf i x.Lo, idOf i x.Hi⟩]) ?_ _ _ ?_
       ·rw [hsh, hinv3, Zat hy, Y21]
       ·rw [w64s (by omega), Zak]; rfl
      ·rintro o hc2 _ hinv3
       rw [Y72] at hinv3
       repeat' (first | refine yy ?_ | refine ym ?_ | (apply ze;(iterate 5 exact rfl)) | (apply zf;(iterate 5 exact rfl)) | refine yp ?_ | refine yt1 ?_ | refine yt0 ?_ | refine yt ?_ ?_ | refine yo ?_ | apply zn | refine yc ?_ | exact rfl | intro _)
       refine ih o ⟨by rw [hinv3, hinv, Zks hx], Zl8 hmer h6⟩ _ _ ?_
       rw [w64s (by omega)]; rfl
   ·rintro tk hc _ ⟨hinv, hmer⟩
    rw [Y72] at hinv
    have hmr : allIx 3 (mergedI h) = true := Zf (hse.1 ▸ hmer)
    have htk4 : tk.length <= 4194304 := by rw [hinv]; omega
    have htkh : ∀ x ∈ tk, HiR x := fun x hx => (htr x (hinv ▸ hx)).hi
    have hul : (unionG tk).length <= 4194304 := Y77 (Zl5 tk) htk4
    repeat' (first | refine yy ?_ | refine ym ?_ | (apply ze;(iterate 5 exact rfl)) | (apply zf;(iterate 5 exact rfl)) | refine yp ?_ | refine yw g_qj (qj_eq tk htk4 htkh) (Z28 rfl (Z2p (fun _ => rfl) _)) ?_ | refine yk g_qv (qv_eq h hl) ?_ | refine yk g_q6 (q6_eq h hl) ?_ | (apply zao;(iterate 4 exact rfl);exact (Z6r _);exact (happ);(iterate 3 exact rfl)) | refine yw g_qk (hids2) (Z28 rfl (Z2p (fun _ => rfl) _)) ?_ | refine yv g_qx (qx_eq (unionG tk) (idsOf (allE h)) hul) ?_ | refine yt1 ?_ | refine yt0 ?_ | refine yt ?_ ?_ | refine yo ?_ | apply zn | refine yc ?_ | exact rfl | intro _)
    ·refine fin rfl (outB ?_)
     rename_i h5
     rw [hinv] at h5
     have h6 : decide (unionG (takenL h.Seats 0) = idsOf (allE h)) = false := by simpa using h5
     rw [houseI, h6]; simp
    ·rename_i h5
     rw [hinv] at h5
     have h6 : decide (unionG (takenL h.Seats 0) = idsOf (allE h)) = true := by simpa using h5
     have hou := Z1t GOut.bulk h.Outs
     have hob : h.Outs.length <= 4000000 := by unfold GHouse.bulk at hl; omega
     rw [houseI, hp, hea, hmr, h6]
     refine zfor (GOut.el .n) h.Outs (fun i (_ : Unit) => [(1, .box ⟨0, 0, 0⟩ (h.cs .n)), (83, .x (GOut.ls .n h.Outs)), (84, .x (iT (h.Outs.map (GOut.el .n)).length)), (85, .x (iT i))]) (fun i _ => ∀ j, j < i -> gensAt h.Outs j = true) () (by omega) rfl ?_ ?_
     ·rintro i _ o hx hlt hc _ hinv2 ih
      have hsl : 0 <= i /\ i <= (h.Outs.map (GOut.el .n)).length := by rw [Y45]; omega
      repeat' (first | refine yy ?_ | refine ym ?_ | (apply ze;(iterate 5 exact rfl)) | (apply zf;(iterate 5 exact rfl)) | refine yp ?_ | refine yi (GOut.el .n o) (Zar hx) ?_ | (apply zu;exact rfl;exact Z1k rfl rfl;exact rfl;exact (hsl);exact rfl;exact Zk5;exact rfl;exact rfl) | (apply zk g_qw;exact rfl;exact rfl;exact (qw_eq (h.Outs.take i) _ _ (by rw [Y48]; omega));(iterate 3 exact rfl)) | refine yt1 ?_ | refine yt0 ?_ | refine yt ?_ ?_ | refine yo ?_ | apply zn | refine yc ?_ | exact rfl | intro _)
      ·refine fin rfl (outB ?_)
       rename_i h7
       have h8 : gensAt h.Outs i = false := by rw [Z78 hx]; simpa using h7
       rw [Ze hlt h8]; rfl
      ·rename_i h7
       have h8 : gensAt h.Outs i = true := by rw [Z78 hx]; simpa using h7
       refine ih () (Zl8 hinv2 h8) _ _ ?_
       rw [w64s (by omega)]; rfl
     ·rintro _ hc _ hinv2
      rw [Zf hinv2]
      repeat' (first | refine yy ?_ | refine ym ?_ | (apply ze;(iterate 5 exact rfl)) | (apply zf;(iterate 5 exact rfl)) | refine yp ?_ | refine yt1 ?_ | refine yt0 ?_ | refine yt ?_ ?_ | refine yo ?_ | apply zn | refine yc ?_ | exact rfl | intro _)
      exact fin rfl rfl
end Go.Wr

