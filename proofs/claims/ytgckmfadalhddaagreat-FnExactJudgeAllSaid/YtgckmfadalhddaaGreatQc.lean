/-
  What is proved: lemmas on the way to the laws of this seat. No condition.
-/
import Derived.Test.YtgckmfadalhddaaGreatPa
set_option linter.unusedVariables false
set_option linter.unusedSimpArgs false
namespace Go.Wr
set_option maxRecDepth 20000
theorem ordAt_succ {l : List GEntry} {k : Nat} {x p : GEntry} (hx : l[k + 1]? = some x) (hp : l[k]? = some p) : ordAt l (k + 1) = aheadE p x := by simp [ordAt, hx, hp]
theorem ordAt_zero {l : List GEntry} {x : GEntry} (hx : l[0]? = some x) : ordAt l 0 = true := by simp [ordAt, hx]
theorem okE_at {l : List GEntry} {k : Nat} {x : GEntry} (hx : l[k]? = some x) : okE l k = x.ok := by simp [okE, hx]
theorem okO_at {l : List GOut} {k : Nat} {x : GOut} (hx : l[k]? = some x) : okO l k = x.Entry.ok := by simp [okO, hx]
theorem gensAt_at {l : List GOut} {k : Nat} {x : GOut} (hx : l[k]? = some x) : gensAt l k = (x.Gen == (toldN (l.take k) x.Entry.Key x.Entry.Window : Int)) := by simp [gensAt, hx]
theorem not_ahead {x p : GEntry} : (decide (x.Key < p.Key) || (x.Key == p.Key && decide (x.Window <= p.Window))) = !aheadE p x := by
 unfold aheadE
 rw [Bool.eq_iff_iff]
 simp only [Bool.or_eq_true, Bool.and_eq_true, Bool.not_eq_true', Bool.or_eq_false_iff, Bool.and_eq_false_iff, decide_eq_true_eq, decide_eq_false_iff_not, beq_iff_eq, beq_eq_false_iff_ne]
 omega
theorem q3z_eq (h : GHouse) (hl : h.bulk <= 4000000) : F_q3z [.st (h.cs .n)] = some ⟨[.one (.b (rootS h))], []⟩ := by
 simp only [GHouse.bulk] at hl
 have hro := bulks_len GEntry.bulk h.Root
 have hou := bulks_len GOut.bulk h.Outs
 (refine fun_ev rfl ?_; show Ev m_q3z.code _ _ _)
 repeat' (first | refine yy ?_ | refine ym ?_ | (apply ze;(iterate 5 exact rfl)) | (apply zf;(iterate 5 exact rfl)) | refine yp ?_ | refine yt1 ?_ | refine yt0 ?_ | refine yt ?_ ?_ | refine yo ?_ | apply zn | refine yc ?_ | exact rfl | intro _)
 refine zfor (GEntry.el .n) h.Root (fun i (_ : Unit) => [(1, .box ⟨0, 0, 0⟩ (h.cs .n)), (3, .x (iT i))]) (fun i _ => ∀ j, j < i -> (okE h.Root j && ordAt h.Root j) = true) () (by omega) rfl ?_ ?_
 ·rintro i _ e hx hlt hc _ hinv ih
  have hbe : e.bulk <= 4000000 := Nat.le_trans (bulks_mem (f := GEntry.bulk) hx) (by omega)
  cases i with
  | zero =>
   have h0 : decide (((0 : Nat) : Int) > 0) = !true := rfl
   have h1 : decide (((0 : Nat) : Int) > 0) = false := rfl
   have h2 : false = false := rfl
   repeat' (first | refine yy ?_ | refine ym ?_ | (apply ze;(iterate 5 exact rfl)) | (apply zf;(iterate 5 exact rfl)) | refine yp ?_ | refine yi (GEntry.el .n e) (map_at hx) ?_ | refine yk g_q3n (q3n_eq e hbe) ?_ | refine yt1 ?_ | refine yt0 ?_ | refine yt ?_ ?_ | refine yo ?_ | apply zn | refine yc ?_ | exact rfl | intro _)
   ·refine fin rfl (outB ?_)
    rename_i h
    have h3 : e.ok = false := by simpa using h
    rw [rootS, allIx_not hlt (by rw [okE_at hx, h3]; rfl), Bool.false_and]
   ·rename_i h
    have h3 : e.ok = true := by simpa using h
    refine ih () (upto_succ hinv (by rw [okE_at hx, h3, ordAt_zero hx]; rfl)) _ _ ?_
    rw [w64s (by omega)]; rfl
  | succ k =>
   have hp := List.getElem?_eq_getElem (show k < h.Root.length by omega)
   generalize h.Root[k]'(by omega) = p at hp
   have hk := wrap_pred (k := k) (by omega)
   have hk0 : 0 <= IntKind.i64.wrap (((k + 1 : Nat) : Int) - 1) := by rw [hk]; omega
   have hkp : (h.Root.map (GEntry.el .n))[(IntKind.i64.wrap (((k + 1 : Nat) : Int) - 1)).toNat]? = some (GEntry.el .n p) := by rw [hk]; exact map_at hp
   have h0 : decide (((k + 1 : Nat) : Int) > 0) = true := by simp
   repeat' (first | refine yy ?_ | refine ym ?_ | (apply ze;(iterate 5 exact rfl)) | (apply zf;(iterate 5 exact rfl)) | refine yp ?_ | refine yi (GEntry.el .n e) (map_at hx) ?_ | refine yj (GEntry.el .n p) (hk0) (hkp) ?_ | refine yk g_q3n (q3n_eq e hbe) ?_ | refine yt1 ?_ | refine yt0 ?_ | refine yt ?_ ?_ | refine yo ?_ | apply zn | refine yc ?_ | exact rfl | intro _)
   ·refine fin rfl (outB ?_)
    rename_i h
    have h3 : e.ok = false := by simpa using h
    rw [rootS, allIx_not hlt (by rw [okE_at hx, h3]; rfl), Bool.false_and]
   ·refine fin rfl (outB ?_)
    rename_i _ h
    rw [not_ahead] at h
    have h3 : aheadE p e = false := by simpa using h
    rw [rootS, allIx_not hlt (by rw [ordAt_succ hx hp, h3, Bool.and_false]), Bool.false_and]
   ·rename_i h4 h
    rw [not_ahead] at h
    have h5 : e.ok = true := by simpa using h4
    have h3 : aheadE p e = true := by simpa using h
    refine ih () (upto_succ hinv (by rw [okE_at hx, ordAt_succ hx hp, h3, h5]; rfl)) _ _ ?_
    rw [w64s (i := k + 1) (by omega)]; rfl
 ·rintro _ hc _ hinv
  have h1 := allIx_of hinv
  repeat' (first | refine yy ?_ | refine ym ?_ | (apply ze;(iterate 5 exact rfl)) | (apply zf;(iterate 5 exact rfl)) | refine yp ?_ | refine yt1 ?_ | refine yt0 ?_ | refine yt ?_ ?_ | refine yo ?_ | apply zn | refine yc ?_ | exact rfl | intro _)
  refine zfor (GOut.el .n) h.Outs (fun i (_ : Unit) => [(1, .box ⟨0, 0, 0⟩ (h.cs .n)), (5, .x (iT i))]) (fun i _ => ∀ j, j < i -> (okO h.Outs j && gensAt h.Outs j) = true) () (by omega) rfl ?_ ?_
  ·rintro i _ o hx hlt hc _ hinv ih
   have hbe : o.Entry.bulk <= 4000000 := Nat.le_trans (bulks_mem (f := GOut.bulk) hx) (by omega)
   have hsl : 0 <= i /\ i <= (h.Outs.map (GOut.el .n)).length := by rw [List.length_map]; omega
   repeat' (first | refine yy ?_ | refine ym ?_ | (apply ze;(iterate 5 exact rfl)) | (apply zf;(iterate 5 exact rfl)) | refine yp ?_ | refine yi (GOut.el .n o) (map_at hx) ?_ | refine yk g_q3n (q3n_eq o.Entry hbe) ?_ | (apply zu;exact rfl;exact bound_at rfl rfl;exact rfl;exact (hsl);exact rfl;exact sub_take;exact rfl;exact rfl) | (apply zk g_q3y;exact rfl;exact rfl;exact (q3y_eq (h.Outs.take i) _ _ (by rw [List.length_take]; omega));(iterate 3 exact rfl)) | refine yt1 ?_ | refine yt0 ?_ | refine yt ?_ ?_ | refine yo ?_ | apply zn | refine yc ?_ | exact rfl | intro _)
   ·refine fin rfl (outB ?_)
    rename_i h4
    have h3 : (okO h.Outs i && gensAt h.Outs i) = false := by
     rw [okO_at hx, gensAt_at hx]
     revert h4
     cases o.Entry.ok <;> simp
    rw [rootS, allIx_not hlt h3, Bool.and_false]
   ·rename_i h4
    refine ih () (upto_succ hinv ?_) _ _ ?_
    ·rw [okO_at hx, gensAt_at hx]
     revert h4
     cases o.Entry.ok <;> simp
    ·rw [w64s (by omega)]; rfl
  ·rintro _ hc _ hinv
   repeat' (first | refine yy ?_ | refine ym ?_ | (apply ze;(iterate 5 exact rfl)) | (apply zf;(iterate 5 exact rfl)) | refine yp ?_ | refine yt1 ?_ | refine yt0 ?_ | refine yt ?_ ?_ | refine yo ?_ | apply zn | refine yc ?_ | exact rfl | intro _)
   refine fin rfl (outB ?_)
   rw [rootS, h1, allIx_of hinv]; rfl
end Go.Wr
namespace Go.Wr
set_option maxRecDepth 20000
theorem len_ne {α : Type} {f : α -> T} {l : List α} (n : Nat) : (((l.map f).length : Int) != (n : Nat)) = !decide (l.length = n) := by
 rw [List.length_map, Bool.eq_iff_iff]
 simp only [bne_iff_ne, ne_eq, Bool.not_eq_true', decide_eq_false_iff_not]
 omega
theorem not_top {h : GHouse} : (((((((h.Seats.map (GSeat.el .n)).length : Int) != 3 || ((h.Rows.map (GRow.ls .n)).length : Int) != 3) || ((h.Turns.map (GTurn.el .n)).length : Int) != 2) || !inB h.Since 0 1000) || !inB h.Clock 0 100000) = true) <-> topB h = false := by
 rw [show (3 : Int) = ((3 : Nat) : Int) from rfl, show (2 : Int) = ((2 : Nat) : Int) from rfl, len_ne, len_ne, len_ne, topB]
 cases decide (h.Seats.length = 3) <;> cases decide (h.Rows.length = 3) <;> cases decide (h.Turns.length = 2) <;> cases inB h.Since 0 1000 <;> simp
theorem top_at {h : GHouse} (ht : topB h = true) : h.Seats.length = 3 /\ h.Rows.length = 3 /\ h.Turns.length = 2 := by
 simp only [topB, Bool.and_eq_true, decide_eq_true_eq] at ht
 exact ⟨ht.1.1.1.1, ht.1.1.1.2, ht.1.1.2⟩
theorem seatAt_at {rin : Nat -> GRow -> Bool} {h : GHouse} {a : Nat} {s : GSeat} {rs : List GRow} (h1 : h.Seats[a]? = some s) (h2 : h.Rows[a]? = some rs) : seatAt rin h a = (s.ok h.Conf.Per && decide (rs.length = 2) && rs.all (rin a)) := by simp [seatAt, h1, h2]
theorem parts_no {rin : Nat -> GRow -> Bool} {h : GHouse} {a : Nat} (ha : a < 3) (h1 : seatAt rin h a = false) : partsB rin h = false := by
 rw [partsB, allIx_not ha h1]; simp
theorem row_in {h : GHouse} {i k : Nat} {rs : List GRow} {r : GRow} (hl : h.bulk <= 4000000) (hx : h.Rows[i]? = some rs) (hy : rs[k]? = some r) : r.bulk <= 4000000 := by
 have h1 := bulks_mem (f := bulks GRow.bulk) hx
 have h2 := bulks_mem (f := GRow.bulk) hy
 unfold GHouse.bulk at hl
 omega
theorem seat_in {h : GHouse} {i : Nat} {s : GSeat} (hl : h.bulk <= 4000000) (hx : h.Seats[i]? = some s) : s.bulk <= 4000000 := by
 have h1 := bulks_mem (f := GSeat.bulk) hx
 unfold GHouse.bulk at hl
 omega
theorem turn_in {h : GHouse} {i : Nat} {s : GTurn} (hl : h.bulk <= 4000000) (hx : h.Turns[i]? = some s) : s.bulk <= 4000000 := by
 have h1 := bulks_mem (f := GTurn.bulk) hx
 unfold GHouse.bulk at hl
 omega
theorem rowIdsS_len {r : GRow} (hl : r.bulk <= 4000000) : (rowIdsS r).length <= 4194304 := by
 unfold rowIdsS
 split
 ·have h1 := joins_len r.Lst []
  have h2 := ids_sum r.Lst
  unfold GRow.bulk at hl
  simp only [List.length_nil] at h1
  omega
 ·simp
theorem q3w_eq (h : GHouse) (hl : h.bulk <= 4000000) : F_q3w [.st (h.cs .n)] = some ⟨[.one (.b (partsB rowInS h))], []⟩ := by
 (refine fun_ev rfl ?_; show Ev m_q3w.code _ _ _)
 repeat' (first | refine yy ?_ | refine ym ?_ | (apply ze;(iterate 5 exact rfl)) | (apply zf;(iterate 5 exact rfl)) | refine yp ?_ | refine yk g_q37 (q37_eq _ _ _) ?_ | refine yt1 ?_ | refine yt0 ?_ | refine yt ?_ ?_ | refine yo ?_ | apply zn | refine yc ?_ | exact rfl | intro _)
 ·refine fin rfl (outB ?_)
  rename_i ht
  rw [partsB, not_top.1 ht]; rfl
 ·rename_i ht
  have ht2 : topB h = true := by
   cases e : topB h with
   | true => rfl
   | false => exact absurd (not_top.2 e) (by rw [ht]; simp)
  obtain ⟨l3, l3r, l2t⟩ := top_at ht2
  refine zfor (GSeat.el .n) h.Seats (fun i (_ : Unit) => [(1, .box ⟨0, 0, 0⟩ (h.cs .n)), (3, .x (iT i))]) (fun i _ => ∀ j, j < i -> seatAt rowInS h j = true) () (by omega) rfl ?_ ?_
  ·rintro i _ s hx hlt _ _ hinv ih
   have hi3 : i < 3 := by omega
   have hc : decide ((i : Int) < 3) = true := by simp; omega
   have hxr := List.getElem?_eq_getElem (show i < h.Rows.length by omega)
   generalize h.Rows[i]'(by omega) = rs at hxr
   have hbs := seat_in hl hx
   repeat' (first | refine yy ?_ | refine ym ?_ | (apply ze;(iterate 5 exact rfl)) | (apply zf;(iterate 5 exact rfl)) | refine yp ?_ | refine yi (GSeat.el .n s) (map_at hx) ?_ | refine yi (GRow.ls .n rs) (map_at hxr) ?_ | refine yk g_q3u (q3u_eq s _ hbs) ?_ | refine yt1 ?_ | refine yt0 ?_ | refine yt ?_ ?_ | refine yo ?_ | apply zn | refine yc ?_ | exact rfl | intro _)
   ·refine fin rfl (outB ?_)
    rename_i h4
    rw [parts_no hi3]
    rw [seatAt_at hx hxr]
    rw [show (2 : Int) = ((2 : Nat) : Int) from rfl, len_ne] at h4
    revert h4
    cases s.ok h.Conf.Per <;> cases decide (rs.length = 2) <;> simp
   ·rename_i h4
    rw [show (2 : Int) = ((2 : Nat) : Int) from rfl, len_ne] at h4
    have h5 : (s.ok h.Conf.Per && decide (rs.length = 2)) = true := by
     revert h4
     cases s.ok h.Conf.Per <;> cases decide (rs.length = 2) <;> simp
    have h6 : rs.length = 2 := by simp only [Bool.and_eq_true, decide_eq_true_eq] at h5; exact h5.2
    refine zfor (GRow.el .n) rs (fun k (_ : Unit) => [(1, .box ⟨0, 0, 0⟩ (h.cs .n)), (3, .x (iT i)), (4, .x (iT k))]) (fun k _ => (rs.take k).all (rowInS i) = true) () (by simp) rfl ?_ ?_
    ·rintro k _ r hy hlt2 _ _ hinv2 ih2
     have hk2 : decide ((k : Int) < 2) = true := by simp; omega
     have hbr := row_in hl hxr hy
     have hlr := rowIdsS_len hbr
     have hi2 : 0 <= (i : Int) /\ (i : Int) <= 2 := by omega
     have hsr : ∀ x ∈ rowIdsS r, SpanR x := fun x hx => (rowIds_same r ▸ rowIds_setR r : SetR (rowIdsS r)).span hx
     repeat' (first | refine yy ?_ | refine ym ?_ | (apply ze;(iterate 5 exact rfl)) | (apply zf;(iterate 5 exact rfl)) | refine yp ?_ | refine yi (GRow.ls .n rs) (map_at hxr) ?_ | refine yi (GRow.el .n r) (map_at hy) ?_ | refine yk g_q3s (q3s_eq r hbr) ?_ | refine yk g_q3o (q3o_eq r hbr) ?_ | refine yv g_q3m (q3m_eq (rowIdsS r) _ hlr hi2 hsr) ?_ | refine yv g_q3t (q3t_eq (rowIdsS r) hlr) ?_ | refine yt1 ?_ | refine yt0 ?_ | refine yt ?_ ?_ | refine yo ?_ | apply zn | refine yc ?_ | exact rfl | intro _)
     ·refine fin rfl (outB ?_)
      rename_i h7
      have h8 : rowInS i r = false := by
       rw [rowInS]; revert h7
       rw [bne]
       cases r.ok <;> simp
      rw [parts_no hi3]
      rw [seatAt_at hx hxr, not_all (p := rowInS i) hy h8, Bool.and_false]
     ·rename_i h7
      have h8 : rowInS i r = true := by
       rw [rowInS]; revert h7
       rw [bne]
       cases r.ok <;> simp
      refine ih2 () (take_all (p := rowInS i) hinv2 hy h8) _ _ ?_
      rw [w64s (by omega)]; rfl
    ·rintro _ _ _ hinv2
     have hk2 : decide ((rs.length : Int) < 2) = false := by simp; omega
     repeat' (first | refine yy ?_ | refine ym ?_ | (apply ze;(iterate 5 exact rfl)) | (apply zf;(iterate 5 exact rfl)) | refine yp ?_ | refine yt1 ?_ | refine yt0 ?_ | refine yt ?_ ?_ | refine yo ?_ | apply zn | refine yc ?_ | exact rfl | intro _)
     refine ih () (upto_succ hinv ?_) _ _ ?_
     ·rw [seatAt_at hx hxr, h5, take_end hinv2]; rfl
     ·rw [w64s (by omega)]; rfl
  ·rintro _ _ _ hinv
   have hc : decide ((h.Seats.length : Int) < 3) = false := by simp; omega
   have h7 : allIx 3 (seatAt rowInS h) = true := allIx_of (l3 ▸ hinv)
   repeat' (first | refine yy ?_ | refine ym ?_ | (apply ze;(iterate 5 exact rfl)) | (apply zf;(iterate 5 exact rfl)) | refine yp ?_ | refine yt1 ?_ | refine yt0 ?_ | refine yt ?_ ?_ | refine yo ?_ | apply zn | refine yc ?_ | exact rfl | intro _)
   refine zfor (GTurn.el .n) h.Turns (fun i (_ : Unit) => [(1, .box ⟨0, 0, 0⟩ (h.cs .n)), (6, .x (iT i))]) (fun i _ => (h.Turns.take i).all GTurn.ok = true) () (by simp) rfl ?_ ?_
   ·rintro i _ t hx hlt _ _ hinv ih
    have hc : decide ((i : Int) < 2) = true := by simp; omega
    have hbt := turn_in hl hx
    repeat' (first | refine yy ?_ | refine ym ?_ | (apply ze;(iterate 5 exact rfl)) | (apply zf;(iterate 5 exact rfl)) | refine yp ?_ | refine yi (GTurn.el .n t) (map_at hx) ?_ | refine yk g_q3v (q3v_eq t hbt) ?_ | refine yt1 ?_ | refine yt0 ?_ | refine yt ?_ ?_ | refine yo ?_ | apply zn | refine yc ?_ | exact rfl | intro _)
    ·refine fin rfl (outB ?_)
     rename_i h4
     have h5 : t.ok = false := by simpa using h4
     rw [partsB, not_all (p := GTurn.ok) hx h5, Bool.and_false]
    ·rename_i h4
     have h5 : t.ok = true := by simpa using h4
     refine ih () (take_all (p := GTurn.ok) hinv hx h5) _ _ ?_
     rw [w64s (by omega)]; rfl
   ·rintro _ _ _ hinv
    have hc : decide ((h.Turns.length : Int) < 2) = false := by simp; omega
    repeat' (first | refine yy ?_ | refine ym ?_ | (apply ze;(iterate 5 exact rfl)) | (apply zf;(iterate 5 exact rfl)) | refine yp ?_ | refine yt1 ?_ | refine yt0 ?_ | refine yt ?_ ?_ | refine yo ?_ | apply zn | refine yc ?_ | exact rfl | intro _)
    refine fin rfl (outB ?_)
    rw [partsB, ht2, h7, take_end hinv]; rfl
theorem not_topI {h : GHouse} : ((((((!h.Conf.ok || !inB h.Clock 0 100000) || ((h.Seats.map (GSeat.el .n)).length : Int) != 3) || ((h.Rows.map (GRow.ls .n)).length : Int) != 3) || ((h.Turns.map (GTurn.el .n)).length : Int) != 2) || !inB h.Since 0 1000) = true) <-> (h.Conf.ok && topB h) = false := by
 rw [show (3 : Int) = ((3 : Nat) : Int) from rfl, show (2 : Int) = ((2 : Nat) : Int) from rfl, len_ne, len_ne, len_ne, topB]
 cases h.Conf.ok <;> cases decide (h.Seats.length = 3) <;> cases decide (h.Rows.length = 3) <;> cases decide (h.Turns.length = 2) <;> cases inB h.Since 0 1000 <;> simp
theorem conf_in {h : GHouse} (hl : h.bulk <= 4000000) : h.Conf.Weights.length <= 4194304 := by
 unfold GHouse.bulk GConf.bulk at hl
 omega
theorem SetR.len {s : List GSpan} (h : SetR s) (hl : s.length <= 4194304) : s.length <= 4194304 := hl
theorem putLasts_len : ∀ (l o : List GSpan), (l.foldl putLast o).length <= o.length + l.length
 | [], o => by simp
 | x :: l, o => by
  have h1 := putLasts_len l (putLast o x)
  have h2 := putLast_len o x
  simp only [List.foldl_cons, List.length_cons]
  omega
theorem unionG_len (s : List GSpan) : (unionG s).length <= s.length := by
 have := putLasts_len (sortG s) []
 rw [sortG_len] at this
 simpa [unionG] using this
theorem flatIds_len {l : List GEntry} : (l.flatMap GEntry.Ids).length <= bulks GEntry.bulk l := by
 rw [List.flatMap_def]
 exact flat_len (g := GEntry.bulk) (fun e => by unfold GEntry.bulk; omega) l
theorem rowIds_len {r : GRow} (hl : r.bulk <= 4000000) : (rowIds r).length <= 4194304 := by
 rw [rowIds_same]; exact rowIdsS_len hl
theorem qw_eq (h : GHouse) (hl : h.bulk <= 4000000) : F_qw [.st (h.cs .n)] = some ⟨[.one (.b (h.Conf.ok && partsB rowIn h && allIx h.Root.length (ordAt h.Root)))], []⟩ := by
 have hcl := conf_in hl
 have hro := bulks_len GEntry.bulk h.Root
 (refine fun_ev rfl ?_; show Ev m_qw.code _ _ _)
 repeat' (first | refine yy ?_ | refine ym ?_ | (apply ze;(iterate 5 exact rfl)) | (apply zf;(iterate 5 exact rfl)) | refine yp ?_ | refine yk g_q2 (q2_eq _ _ _) ?_ | refine yk g_qp (qp_eq h.Conf hcl) ?_ | refine yt1 ?_ | refine yt0 ?_ | refine yt ?_ ?_ | refine yo ?_ | apply zn | refine yc ?_ | exact rfl | intro _)
 ·refine fin rfl (outB ?_)
  rename_i ht
  rw [partsB, <- Bool.and_assoc, <- Bool.and_assoc, not_topI.1 ht]; rfl
 ·rename_i ht
  have ht2 : (h.Conf.ok && topB h) = true := by
   cases e : (h.Conf.ok && topB h) with
   | true => rfl
   | false => exact absurd (not_topI.2 e) (by rw [ht]; simp)
  have hco : h.Conf.ok = true := by simp only [Bool.and_eq_true] at ht2; exact ht2.1
  have ht3 : topB h = true := by simp only [Bool.and_eq_true] at ht2; exact ht2.2
  obtain ⟨l3, l3r, l2t⟩ := top_at ht3
  rw [hco, Bool.true_and]
  refine zfor (GSeat.el .n) h.Seats (fun i (_ : Unit) => [(1, .box ⟨0, 0, 0⟩ (h.cs .n)), (46, .x (GSeat.ls .n h.Seats)), (47, .x (iT (h.Seats.map (GSeat.el .n)).length)), (48, .x (iT i))]) (fun i _ => ∀ j, j < i -> seatAt rowIn h j = true) () (by omega) rfl ?_ ?_
  ·rintro i _ s hx hlt hc _ hinv ih
   have hi3 : i < 3 := by omega
   have hxr := List.getElem?_eq_getElem (show i < h.Rows.length by omega)
   generalize h.Rows[i]'(by omega) = rs at hxr
   have hbs := seat_in hl hx
   repeat' (first | refine yy ?_ | refine ym ?_ | (apply ze;(iterate 5 exact rfl)) | (apply zf;(iterate 5 exact rfl)) | refine yp ?_ | refine yi (GSeat.el .n s) (map_at hx) ?_ | refine yi (GRow.ls .n rs) (map_at hxr) ?_ | refine yk g_qt (qt_eq s _ hbs) ?_ | refine yt1 ?_ | refine yt0 ?_ | refine yt ?_ ?_ | refine yo ?_ | apply zn | refine yc ?_ | exact rfl | intro _)
   ·refine fin rfl (outB ?_)
    rename_i h4
    rw [parts_no hi3]; rfl
    rw [seatAt_at hx hxr]
    rw [show (2 : Int) = ((2 : Nat) : Int) from rfl, len_ne] at h4
    revert h4
    cases s.ok h.Conf.Per <;> cases decide (rs.length = 2) <;> simp
   ·rename_i h4
    rw [show (2 : Int) = ((2 : Nat) : Int) from rfl, len_ne] at h4
    have h5 : (s.ok h.Conf.Per && decide (rs.length = 2)) = true := by
     revert h4
     cases s.ok h.Conf.Per <;> cases decide (rs.length = 2) <;> simp
    have h6 : rs.length = 2 := by simp only [Bool.and_eq_true, decide_eq_true_eq] at h5; exact h5.2
    refine zfor (GRow.el .n) rs (fun k (_ : Unit) => [(1, .box ⟨0, 0, 0⟩ (h.cs .n)), (3, .x (iT i)), (46, .x (GSeat.ls .n h.Seats)), (47, .x (iT (h.Seats.map (GSeat.el .n)).length)), (48, .x (iT i)), (72, .x (GRow.ls .n rs)), (73, .x (iT (rs.map (GRow.el .n)).length)), (74, .x (iT k))]) (fun k _ => (rs.take k).all (rowIn i) = true) () (by simp) rfl ?_ ?_
    ·rintro k _ r hy hlt2 hc2 _ hinv2 ih2
     have hbr := row_in hl hxr hy
     have hlr := rowIds_len hbr
     repeat' (first | refine yy ?_ | refine ym ?_ | (apply ze;(iterate 5 exact rfl)) | (apply zf;(iterate 5 exact rfl)) | refine yp ?_ | refine yi (GRow.el .n r) (map_at hy) ?_ | refine yk g_qq (qq_eq r hbr) ?_ | refine yk g_qr (qr_eq r hbr) ?_ | refine yk g_q8 (q8_eq _ _) ?_ | refine yv g_q6 (q6_eq (rowIds r) _ _ hlr) ?_ | refine yt1 ?_ | refine yt0 ?_ | refine yt ?_ ?_ | refine yo ?_ | apply zn | refine yc ?_ | exact rfl | intro _)
     ·refine fin rfl (outB ?_)
      rename_i h7
      have h8 : rowIn i r = false := by
       rw [rowIn]; revert h7
       cases r.ok <;> simp
      rw [parts_no hi3]; rfl
      rw [seatAt_at hx hxr, not_all (p := rowIn i) hy h8, Bool.and_false]
     ·rename_i h7
      have h8 : rowIn i r = true := by
       rw [rowIn]; revert h7
       cases r.ok <;> simp
      refine ih2 () (take_all (p := rowIn i) hinv2 hy h8) _ _ ?_
      rw [w64s (by omega)]; rfl
    ·rintro _ hc2 _ hinv2
     repeat' (first | refine yy ?_ | refine ym ?_ | (apply ze;(iterate 5 exact rfl)) | (apply zf;(iterate 5 exact rfl)) | refine yp ?_ | refine yt1 ?_ | refine yt0 ?_ | refine yt ?_ ?_ | refine yo ?_ | apply zn | refine yc ?_ | exact rfl | intro _)
     refine ih () (upto_succ hinv ?_) _ _ ?_
     ·rw [seatAt_at hx hxr, h5, take_end hinv2]; rfl
     ·rw [w64s (by omega)]; rfl
  ·rintro _ hc _ hinv
   have h7 : allIx 3 (seatAt rowIn h) = true := allIx_of (l3 ▸ hinv)
   repeat' (first | refine yy ?_ | refine ym ?_ | (apply ze;(iterate 5 exact rfl)) | (apply zf;(iterate 5 exact rfl)) | refine yp ?_ | refine yt1 ?_ | refine yt0 ?_ | refine yt ?_ ?_ | refine yo ?_ | apply zn | refine yc ?_ | exact rfl | intro _)
   refine zfor (GTurn.el .n) h.Turns (fun i (_ : Unit) => [(1, .box ⟨0, 0, 0⟩ (h.cs .n)), (94, .x (GTurn.ls .n h.Turns)), (95, .x (iT (h.Turns.map (GTurn.el .n)).length)), (96, .x (iT i))]) (fun i _ => (h.Turns.take i).all GTurn.ok = true) () (by simp) rfl ?_ ?_
   ·rintro i _ t hx hlt hc _ hinv ih
    have hbt := turn_in hl hx
    repeat' (first | refine yy ?_ | refine ym ?_ | (apply ze;(iterate 5 exact rfl)) | (apply zf;(iterate 5 exact rfl)) | refine yp ?_ | refine yi (GTurn.el .n t) (map_at hx) ?_ | refine yk g_qu (qu_eq t hbt) ?_ | refine yt1 ?_ | refine yt0 ?_ | refine yt ?_ ?_ | refine yo ?_ | apply zn | refine yc ?_ | exact rfl | intro _)
    ·refine fin rfl (outB ?_)
     rename_i h4
     have h5 : t.ok = false := by simpa using h4
     rw [partsB, not_all (p := GTurn.ok) hx h5, Bool.and_false]; rfl
    ·rename_i h4
     have h5 : t.ok = true := by simpa using h4
     refine ih () (take_all (p := GTurn.ok) hinv hx h5) _ _ ?_
     rw [w64s (by omega)]; rfl
   ·rintro _ hc _ hinv
    have h8 : partsB rowIn h = true := by rw [partsB, ht3, h7, take_end hinv]; rfl
    rw [h8, Bool.true_and]
    repeat' (first | refine yy ?_ | refine ym ?_ | (apply ze;(iterate 5 exact rfl)) | (apply zf;(iterate 5 exact rfl)) | refine yp ?_ | refine yt1 ?_ | refine yt0 ?_ | refine yt ?_ ?_ | refine yo ?_ | apply zn | refine yc ?_ | exact rfl | intro _)
    refine zfor (GEntry.el .n) h.Root (fun i (_ : Unit) => [(1, .box ⟨0, 0, 0⟩ (h.cs .n)), (105, .x (GEntry.ls .n h.Root)), (106, .x (iT (h.Root.map (GEntry.el .n)).length)), (107, .x (iT i))]) (fun i _ => ∀ j, j < i -> ordAt h.Root j = true) () (by omega) rfl ?_ ?_
    ·rintro i _ e hx hlt hc _ hinv ih
     have hro2 : h.Root.length <= 4000000 := by unfold GHouse.bulk at hl; omega
     cases i with
     | zero =>
      have h0 : decide (((0 : Nat) : Int) > 0) = !true := rfl
      have h1 : decide (((0 : Nat) : Int) > 0) = false := rfl
      have h2 : false = false := rfl
      repeat' (first | refine yy ?_ | refine ym ?_ | (apply ze;(iterate 5 exact rfl)) | (apply zf;(iterate 5 exact rfl)) | refine yp ?_ | refine yi (GEntry.el .n e) (map_at hx) ?_ | refine yt1 ?_ | refine yt0 ?_ | refine yt ?_ ?_ | refine yo ?_ | apply zn | refine yc ?_ | exact rfl | intro _)
      refine ih () (upto_succ hinv (ordAt_zero hx)) _ _ ?_
      rw [w64s (by omega)]; rfl
     | succ k =>
      have hp := List.getElem?_eq_getElem (show k < h.Root.length by omega)
      generalize h.Root[k]'(by omega) = p at hp
      have hk := wrap_pred (k := k) (by omega)
      have hk0 : 0 <= IntKind.i64.wrap (((k + 1 : Nat) : Int) - 1) := by rw [hk]; omega
      have hkp : (h.Root.map (GEntry.el .n))[(IntKind.i64.wrap (((k + 1 : Nat) : Int) - 1)).toNat]? = some (GEntry.el .n p) := by rw [hk]; exact map_at hp
      have h0 : decide (((k + 1 : Nat) : Int) > 0) = true := by simp
      repeat' (first | refine yy ?_ | refine ym ?_ | (apply ze;(iterate 5 exact rfl)) | (apply zf;(iterate 5 exact rfl)) | refine yp ?_ | refine yi (GEntry.el .n e) (map_at hx) ?_ | refine yj (GEntry.el .n p) (hk0) (hkp) ?_ | refine yk g_qv (qv_eq p e) ?_ | refine yt1 ?_ | refine yt0 ?_ | refine yt ?_ ?_ | refine yo ?_ | apply zn | refine yc ?_ | exact rfl | intro _)
      ·refine fin rfl (outB ?_)
       rename_i h4
       have h3 : aheadE p e = false := by simpa using h4
       rw [allIx_not hlt (by rw [ordAt_succ hx hp, h3])]
      ·rename_i h4
       have h3 : aheadE p e = true := by simpa using h4
       refine ih () (upto_succ hinv (by rw [ordAt_succ hx hp, h3])) _ _ ?_
       rw [w64s (i := k + 1) (by omega)]; rfl
    ·rintro _ hc _ hinv
     rw [allIx_of hinv]
     repeat' (first | refine yy ?_ | refine ym ?_ | (apply ze;(iterate 5 exact rfl)) | (apply zf;(iterate 5 exact rfl)) | refine yp ?_ | refine yt1 ?_ | refine yt0 ?_ | refine yt ?_ ?_ | refine yo ?_ | apply zn | refine yc ?_ | exact rfl | intro _)
     exact fin rfl rfl
end Go.Wr
namespace Go.Wr
set_option maxRecDepth 20000
def ofs (l : List GEntry) (a : Int) : Int := (l.map fun e => ofAgent e.Ids a).sum
theorem ofs_bnd : ∀ (l : List GEntry) (a : Int), 0 <= ofs l a /\ ofs l a <= 60 * bulks GEntry.bulk l
 | [], a => by simp [ofs, bulks]
 | e :: l, a => by
  have h1 := ofs_bnd l a
  have h2 := ofAgent_bnd e.Ids a
  have h3 : e.Ids.length <= e.bulk := by unfold GEntry.bulk; omega
  unfold ofs bulks at h1 ⊢
  simp only [List.map_cons, List.sum_cons, List.length_cons]
  omega
theorem ofs_succ {l : List GEntry} {i : Nat} {e : GEntry} {a : Int} (h : l[i]? = some e) : ofs (l.take (i + 1)) a = ofs (l.take i) a + ofAgent e.Ids a := by
 unfold ofs; rw [List.take_add_one, h]; simp
theorem bulks_take {α : Type} (f : α -> Nat) : ∀ (l : List α) (i : Nat), bulks f (l.take i) <= bulks f l
 | [], i => by simp
 | x :: l, 0 => by simp [bulks]
 | x :: l, i + 1 => by
  have := bulks_take f l i
  unfold bulks at this ⊢
  simp only [List.take_succ_cons, List.map_cons, List.sum_cons, List.length_cons]
  omega
theorem outs_bulk (l : List GOut) : bulks GEntry.bulk (l.map GOut.Entry) = bulks GOut.bulk l := by
 unfold bulks; rw [List.length_map, List.map_map]; rfl
theorem bulks_append {α : Type} (f : α -> Nat) (a b : List α) : bulks f (a ++ b) = bulks f a + bulks f b := by
 unfold bulks; rw [List.length_append, List.map_append, List.sum_append]; omega
theorem rowsE_bulk (rs : List GRow) : bulks GEntry.bulk (rowsE rs) <= bulks GRow.bulk rs := by
 induction rs with
 | nil => simp [rowsE, bulks]
 | cons r rs ih =>
  have : rowsE (r :: rs) = r.Lst ++ rowsE rs := rfl
  rw [this, bulks_append]
  have e : bulks GRow.bulk (r :: rs) = 1 + r.bulk + bulks GRow.bulk rs := by unfold bulks; simp; omega
  rw [e]; unfold GRow.bulk at ih ⊢; omega
theorem rowEnts_bulk (h : GHouse) : bulks GEntry.bulk (rowEnts h) <= bulks (bulks GRow.bulk) h.Rows := by
 rw [rowEnts_eq]
 induction h.Rows with
 | nil => simp [bulks]
 | cons rs l ih =>
  rw [List.map_cons, List.flatten_cons, bulks_append]
  have e : bulks (bulks GRow.bulk) (rs :: l) = 1 + bulks GRow.bulk rs + bulks (bulks GRow.bulk) l := by unfold bulks; simp; omega
  have := rowsE_bulk rs
  omega
theorem added_bulk (h : GHouse) : bulks GEntry.bulk (addedE h) = bulks GEntry.bulk h.Root + bulks GOut.bulk h.Outs := by
 rw [addedE, bulks_append, outs_bulk]
theorem all_bulk {h : GHouse} (hl : h.bulk <= 4000000) : bulks GEntry.bulk (allE h) <= 4000000 := by
 rw [allE, bulks_append, added_bulk]
 have := rowEnts_bulk h
 unfold GHouse.bulk at hl
 omega
theorem accAt_at {l : List GEntry} {k : Nat} {e : GEntry} (h : l[k]? = some e) : accAt l k = setApart (joins (l.take k) []) e.Ids := by simp [accAt, h]
theorem all_ok {h : GHouse} (hp : partsB rowInS h = true) (hr : rootS h = true) : ∀ e ∈ allE h, e.ok = true := by
 have h1 := parts_rows (fun a r h => rowIn_ok h) (partsB_same h ▸ hp)
 rw [rootS, allIx_and, allIx_and] at hr
 simp only [Bool.and_eq_true] at hr
 intro e he
 rcases List.mem_append.1 he with he | he
 ·exact h1 e he
 ·rcases List.mem_append.1 he with he | he
  ·exact okE_iff.1 hr.1.1 e he
  ·obtain ⟨o, ho, rfl⟩ := List.mem_map.1 he
   exact okO_iff.1 hr.2.1 o ho
theorem mergedS_at {h : GHouse} {a : Nat} {s : GSeat} (hx : h.Seats[a]? = some s) : mergedS h a = (ofs h.Root a + ofs (h.Outs.map GOut.Entry) a == s.Merged) := by
 simp only [mergedS, hx, ofs, List.map_map]; rfl
theorem q42_eq (h : GHouse) (hl : h.bulk <= 4000000) : F_q42 [.st (h.cs .n)] = some ⟨[.one (.b (houseS h))], []⟩ := by
 have hcl := conf_in hl
 (refine fun_ev rfl ?_; show Ev m_q42.code _ _ _)
 repeat' (first | refine yy ?_ | refine ym ?_ | (apply ze;(iterate 5 exact rfl)) | (apply zf;(iterate 5 exact rfl)) | refine yp ?_ | refine yk g_q3h (q3h_eq h.Conf hcl) ?_ | refine yk g_q3w (q3w_eq h hl) ?_ | refine yk g_q3z (q3z_eq h hl) ?_ | refine yk g_q3j (q3j_eq h hl) ?_ | refine yt1 ?_ | refine yt0 ?_ | refine yt ?_ ?_ | refine yo ?_ | apply zn | refine yc ?_ | exact rfl | intro _)
 ·refine fin rfl (outB ?_)
  rename_i h1
  rw [houseS]; revert h1
  cases h.Conf.ok <;> cases partsB rowInS h <;> cases rootS h <;> simp
 ·rename_i h1
  have h2 : h.Conf.ok = true /\ partsB rowInS h = true /\ rootS h = true := by
   revert h1
   cases h.Conf.ok <;> cases partsB rowInS h <;> cases rootS h <;> simp
  have hok := all_ok h2.2.1 h2.2.2
  have hse := parts_seats h2.2.1
  have hab := all_bulk hl
  have hal := bulks_len GEntry.bulk (allE h)
  have hh : ∀ e ∈ allE h, ∀ x ∈ e.Ids, HiR x := fun e he => setOk_hi (ok_ids (hok e he))
  refine zfor (GEntry.el .n) (allE h) (fun i (ids : List GSpan) => [(1, .box ⟨0, 0, 0⟩ (h.cs .n)), (3, .own ⟨0, 0, 0⟩ (GSpan.ls .y ids)), (4, .own ⟨0, 0, 0⟩ (.l .y 10 ((allE h).map (GEntry.el .n)))), (5, .x (iT i))]) (fun i ids => ids = joins ((allE h).take i) [] /\ ∀ j, j < i -> accAt (allE h) j = true) [] ⟨rfl, by omega⟩ rfl ?_ ?_
  ·rintro i ids e hx hlt hc _ ⟨hinv, hacc⟩ ih
   have hei := List.mem_of_getElem? hx
   have hll : (joins ((allE h).take i) []).length <= _ := joins_len ((allE h).take i) []
   rw [<- hinv] at hll
   have hl3 := pre_succ (f := fun e : GEntry => e.Ids.length) hx
   have hl4 := pre_le (f := fun e : GEntry => e.Ids.length) (l := allE h) (i := i + 1)
   have hsm := ids_sum (allE h)
   have hl5 : ids.length + e.Ids.length <= 4194304 := by
    unfold bulks at hl4; simp only [pre, List.length_nil] at hll hl3 hl4; omega
   have hl6 : ids.length <= 4194304 := by omega
   have hl7 : e.Ids.length <= 4194304 := by omega
   have hih : ∀ z ∈ ids, HiR z := hinv ▸ joins_hi (fun e he => hh e (List.mem_of_mem_take he)) (by simp)
   repeat' (first | refine yy ?_ | refine ym ?_ | (apply ze;(iterate 5 exact rfl)) | (apply zf;(iterate 5 exact rfl)) | refine yp ?_ | refine yx (own_lt hlt) ?_ | refine yl (GEntry.el .n e) (nav_at (map_at hx)) ?_ | refine yv g_q3i (q3i_eq ids e.Ids hl6 hl7) ?_ | refine yw g_q3r (q3r_eq ids e.Ids hl5 hih (hh e hei)) (callOk_l rfl (closeds_map (fun _ => rfl) _)) ?_ | refine yt1 ?_ | refine yt0 ?_ | refine yt ?_ ?_ | refine yo ?_ | apply zn | refine yc ?_ | exact rfl | intro _)
   ·refine fin rfl (outB ?_)
    rename_i h4
    have h5 : accAt (allE h) i = false := by rw [accAt_at hx, <- hinv]; simpa using h4
    rw [houseS, accB, allIx_not hlt h5]; simp
   ·rename_i h4
    have h5 : accAt (allE h) i = true := by rw [accAt_at hx, <- hinv]; simpa using h4
    refine ih (joinG ids e.Ids) ⟨by rw [hinv, joins, joins, fold_succ (f := fun o (e : GEntry) => joinG o e.Ids) hx], upto_succ hacc h5⟩ _ _ ?_
    rw [w64s (by omega)]; rfl
  ·rintro ids hc _ ⟨hinv, hacc⟩
   rw [List.take_length] at hinv
   have h6 : accB (allE h) = true := allIx_of hacc
   have hidl : ids.length <= 4194304 := by
    have : (joins (allE h) []).length <= _ := joins_len (allE h) []
    have hsm := ids_sum (allE h)
    rw [<- hinv] at this
    simp only [List.length_nil] at this; omega
   repeat' (first | refine yy ?_ | refine ym ?_ | (apply ze;(iterate 5 exact rfl)) | (apply zf;(iterate 5 exact rfl)) | refine yp ?_ | refine yk g_q40 (q40_eq h hl hse) ?_ | refine yv g_q41 (q41_eq ids ((takenL h.Seats 0).foldl putG []) hidl) ?_ | refine yt1 ?_ | refine yt0 ?_ | refine yt ?_ ?_ | refine yo ?_ | apply zn | refine yc ?_ | exact rfl | intro _)
   ·refine fin rfl (outB ?_)
    rename_i h4
    rw [hinv] at h4
    have h5 : decide (joins (allE h) [] = (takenL h.Seats 0).foldl putG []) = false := by simpa using h4
    rw [houseS, h5]; simp
   ·rename_i h4
    rw [hinv] at h4
    have h5 : decide (joins (allE h) [] = (takenL h.Seats 0).foldl putG []) = true := by simpa using h4
    have hro := bulks_len GEntry.bulk h.Root
    have hou := bulks_len GOut.bulk h.Outs
    have hlb : bulks GEntry.bulk h.Root <= 4000000 /\ bulks GOut.bulk h.Outs <= 4000000 := by unfold GHouse.bulk at hl; omega
    refine zfor (GSeat.el .n) h.Seats (fun i (_ : Unit) => [(1, .box ⟨0, 0, 0⟩ (h.cs .n)), (6, .x (iT i))]) (fun i _ => ∀ j, j < i -> mergedS h j = true) () (by omega) rfl ?_ ?_
    ·rintro i _ s hx hlt _ _ hmer ih
     have hi3 : i < 3 := hse.1 ▸ hlt
     have hc : decide ((i : Int) < 3) = true := by simp; omega
     have hi2 : 0 <= (i : Int) /\ (i : Int) <= 2 := by omega
     repeat' (first | refine yy ?_ | refine ym ?_ | (apply ze;(iterate 5 exact rfl)) | (apply zf;(iterate 5 exact rfl)) | refine yp ?_ | refine yt1 ?_ | refine yt0 ?_ | refine yt ?_ ?_ | refine yo ?_ | apply zn | refine yc ?_ | exact rfl | intro _)
     refine zfor (GEntry.el .n) h.Root (fun k (n : Int) => [(1, .box ⟨0, 0, 0⟩ (h.cs .n)), (6, .x (iT i)), (7, .x (iT n)), (8, .x (iT k))]) (fun k n => n = ofs (h.Root.take k) i) 0 rfl rfl ?_ ?_
     ·rintro k n e hy hlt2 hc2 _ hinv2 ih2
      have hee : e ∈ allE h := List.mem_append_right _ (List.mem_append_left _ (List.mem_of_getElem? hy))
      have hbe : e.Ids.length <= 4194304 := by
       have := bulks_mem (f := GEntry.bulk) hy
       unfold GEntry.bulk at this hlb; omega
      have hsp : ∀ x ∈ e.Ids, SpanR x := fun x hx => (ok_setR (hok e hee)).span hx
      have hb1 := ofs_bnd (h.Root.take k) i
      have hb2 := ofAgent_bnd e.Ids i
      have hb3 := bulks_take GEntry.bulk h.Root k
      repeat' (first | refine yy ?_ | refine ym ?_ | (apply ze;(iterate 5 exact rfl)) | (apply zf;(iterate 5 exact rfl)) | refine yp ?_ | refine yi (GEntry.el .n e) (map_at hy) ?_ | refine yk g_q3m (q3m_eq e.Ids _ hbe hi2 hsp) ?_ | refine yt1 ?_ | refine yt0 ?_ | refine yt ?_ ?_ | refine yo ?_ | apply zn | refine yc ?_ | exact rfl | intro _)
      refine ih2 _ (ofs_succ hy).symm _ _ ?_
      rw [hinv2, w64 (n := ofs (h.Root.take k) i + ofAgent e.Ids i) (by omega), w64s (by omega)]; rfl
     ·rintro n hc2 _ hinv2
      rw [List.take_length] at hinv2
      repeat' (first | refine yy ?_ | refine ym ?_ | (apply ze;(iterate 5 exact rfl)) | (apply zf;(iterate 5 exact rfl)) | refine yp ?_ | refine yt1 ?_ | refine yt0 ?_ | refine yt ?_ ?_ | refine yo ?_ | apply zn | refine yc ?_ | exact rfl | intro _)
      refine zfor (GOut.el .n) h.Outs (fun k (n : Int) => [(1, .box ⟨0, 0, 0⟩ (h.cs .n)), (6, .x (iT i)), (7, .x (iT n)), (9, .x (iT k))]) (fun k m => m = n + ofs ((h.Outs.take k).map GOut.Entry) i) n (by simp [ofs]) rfl ?_ ?_
      ·rintro k m o hy hlt2 hc2 _ hinv3 ih2
       have hee : o.Entry ∈ allE h := List.mem_append_right _ (List.mem_append_right _ (List.mem_map.2 ⟨o, List.mem_of_getElem? hy, rfl⟩))
       have hbe : o.Entry.Ids.length <= 4194304 := by
        have := bulks_mem (f := GOut.bulk) hy
        unfold GOut.bulk GEntry.bulk at this; unfold GOut.bulk GEntry.bulk at hlb; omega
       have hsp : ∀ x ∈ o.Entry.Ids, SpanR x := fun x hx => (ok_setR (hok o.Entry hee)).span hx
       have hb0 := ofs_bnd h.Root i
       have hb1 := ofs_bnd ((h.Outs.take k).map GOut.Entry) i
       have hb2 := ofAgent_bnd o.Entry.Ids i
       have hb3 := bulks_take GOut.bulk h.Outs k
       rw [outs_bulk] at hb1
       have hsu : ofs ((h.Outs.take (k + 1)).map GOut.Entry) i = ofs ((h.Outs.take k).map GOut.Entry) i + ofAgent o.Entry.Ids i := by
        rw [map_succ hy]; simp [ofs]
       repeat' (first | refine yy ?_ | refine ym ?_ | (apply ze;(iterate 5 exact rfl)) | (apply zf;(iterate 5 exact rfl)) | refine yp ?_ | refine yi (GOut.el .n o) (map_at hy) ?_ | refine yk g_q3m (q3m_eq o.Entry.Ids _ hbe hi2 hsp) ?_ | refine yt1 ?_ | refine yt0 ?_ | refine yt ?_ ?_ | refine yo ?_ | apply zn | refine yc ?_ | exact rfl | intro _)
       refine ih2 _ rfl _ _ ?_
       rw [hsu, <- Int.add_assoc, <- hinv3, w64 (n := m + ofAgent o.Entry.Ids i) (by omega), w64s (by omega)]; rfl
      ·rintro m hc2 _ hinv3
       rw [List.take_length, hinv2] at hinv3
       repeat' (first | refine yy ?_ | refine ym ?_ | (apply ze;(iterate 5 exact rfl)) | (apply zf;(iterate 5 exact rfl)) | refine yp ?_ | refine yi (GSeat.el .n s) (map_at hx) ?_ | refine yt1 ?_ | refine yt0 ?_ | refine yt ?_ ?_ | refine yo ?_ | apply zn | refine yc ?_ | exact rfl | intro _)
       ·refine fin rfl (outB ?_)
        rename_i h7
        have h8 : mergedS h i = false := by rw [mergedS_at hx, <- hinv3]; simpa using h7
        rw [houseS, allIx_not hi3 h8]; simp
       ·rename_i h7
        have h8 : mergedS h i = true := by rw [mergedS_at hx, <- hinv3]; simpa using h7
        refine ih () (upto_succ hmer h8) _ _ ?_
        rw [w64s (by omega)]; rfl
    ·rintro _ _ _ hmer
     have hc : decide ((h.Seats.length : Int) < 3) = false := by rw [hse.1]; rfl
     have h9 : allIx 3 (mergedS h) = true := allIx_of (hse.1 ▸ hmer)
     repeat' (first | refine yy ?_ | refine ym ?_ | (apply ze;(iterate 5 exact rfl)) | (apply zf;(iterate 5 exact rfl)) | refine yp ?_ | refine yt1 ?_ | refine yt0 ?_ | refine yt ?_ ?_ | refine yo ?_ | apply zn | refine yc ?_ | exact rfl | intro _)
     refine fin rfl (outB ?_)
     rw [houseS, h2.1, h2.2.1, h2.2.2, h5, h6, h9]; rfl
end Go.Wr
namespace Go.Wr
set_option maxRecDepth 20000
theorem q10_eq (h : GHouse) (hl : h.bulk <= 4000000) : F_q10 [.st (h.cs .n)] = some ⟨[.one (.b (houseI h))], []⟩ := by
 have hab := all_bulk hl
 have hal := bulks_len GEntry.bulk (allE h)
 have happ : ((rowEnts h).map (GEntry.el .n)).length + ((addedE h).map (GEntry.el .n)).length < lenMax := by
  rw [List.length_map, List.length_map]; unfold lenMax
  have e : (allE h).length = (rowEnts h).length + (addedE h).length := by rw [allE, List.length_append]
  omega
 have hmap : (rowEnts h).map (GEntry.el .n) ++ (addedE h).map (GEntry.el .n) = (allE h).map (GEntry.el .n) := by rw [allE, List.map_append]
 have hapt : F_qg [.x (.l .n 10 (fzs ((rowEnts h).map (GEntry.el .n) ++ (addedE h).map (GEntry.el .n))))] = some ⟨[.one (.b (entsApart (allE h)))], []⟩ := by
  rw [hmap, fz_ents]; exact qg_eq (allE h) hab
 have hpar := qw_eq h hl
 cases hp : (h.Conf.ok && partsB rowIn h && allIx h.Root.length (ordAt h.Root)) with
 | false =>
  rw [hp] at hpar
  have h1 : (!false) = !false := rfl
  have h2 : (!false) = true := rfl
  have h3 : true = true := rfl
  (refine fun_ev rfl ?_; show Ev m_q10.code _ _ _)
  repeat' (first | refine yy ?_ | refine ym ?_ | (apply ze;(iterate 5 exact rfl)) | (apply zf;(iterate 5 exact rfl)) | refine yp ?_ | refine yk g_qw (hpar) ?_ | refine yt1 ?_ | refine yt0 ?_ | refine yt ?_ ?_ | refine yo ?_ | apply zn | refine yc ?_ | exact rfl | intro _)
  refine fin rfl (outB ?_)
  rw [houseI, hp]; simp
 | true =>
  rw [hp] at hpar
  have h1 : (!true) = false := rfl
  have hadb : bulks GEntry.bulk (addedE h) <= 4000000 := by rw [allE, bulks_append] at hab; omega
  have hll : F_qn [.x (.l .n 10 (fzs ((rowEnts h).map (GEntry.el .n) ++ (addedE h).map (GEntry.el .n))))] = F_qn [.x (GEntry.ls .n (allE h))] := by
   rw [hmap, fz_ents]
  (refine fun_ev rfl ?_; show Ev m_q10.code _ _ _)
  repeat' (first | refine yy ?_ | refine ym ?_ | (apply ze;(iterate 5 exact rfl)) | (apply zf;(iterate 5 exact rfl)) | refine yp ?_ | refine yk g_qw (hpar) ?_ | refine yk g_qx (qx_eq h hl) ?_ | refine yk g_qd (qd_eq h hl) ?_ | (apply zao;(iterate 4 exact rfl);exact (fz_ents _);exact (happ);(iterate 3 exact rfl)) | refine yk g_qg (hapt) ?_ | refine yt1 ?_ | refine yt0 ?_ | refine yt ?_ ?_ | refine yo ?_ | apply zn | refine yc ?_ | exact rfl | intro _)
  ·refine fin rfl (outB ?_)
   rename_i h4
   have h5 : entsApart (allE h) = false := by simpa using h4
   rw [houseI, h5]; simp
  ·rename_i h4
   have hea : entsApart (allE h) = true := by simpa using h4
   have hpp : partsB rowIn h = true := by simp only [Bool.and_eq_true] at hp; exact hp.1.2
   have hse := parts_seats hpp
   have hah := ents_hi hea
   have hdh : ∀ e ∈ addedE h, ∀ x ∈ e.Ids, HiR x := fun e he => hah e (List.mem_append_right _ he)
   have hidl : (idsOf (addedE h)).length <= 4194304 := Nat.le_trans (unionG_len _) (Nat.le_trans flatIds_len (by omega))
   have hial : (idsOf (allE h)).length <= 4194304 := Nat.le_trans (unionG_len _) (Nat.le_trans flatIds_len (by omega))
   have hids := qn_eq (addedE h) hadb hdh
   have hids2 := hll.trans (qn_eq (allE h) hab hah)
   have htl := takenL_len h.Seats 0
   have hsb : bulks GSeat.bulk h.Seats <= 4000000 := by unfold GHouse.bulk at hl; omega
   have htr := takenL_r (l := h.Seats) (a := 0) hse.2 (by rw [hse.1]; omega)
   repeat' (first | refine yy ?_ | refine ym ?_ | (apply ze;(iterate 5 exact rfl)) | (apply zf;(iterate 5 exact rfl)) | refine yp ?_ | refine yw g_qn (hids) (callOk_l rfl (closeds_map (fun _ => rfl) _)) ?_ | refine yt1 ?_ | refine yt0 ?_ | refine yt ?_ ?_ | refine yo ?_ | apply zn | refine yc ?_ | exact rfl | intro _)
   refine zfor (GSeat.el .n) h.Seats (fun i (tk : List GSpan) => [(1, .box ⟨0, 0, 0⟩ (h.cs .n)), (3, .own ⟨0, 0, 0⟩ (GSpan.ls .y tk)), (4, .own ⟨0, 0, 0⟩ (GSpan.ls .y (idsOf (addedE h)))), (29, .x (GSeat.ls .n h.Seats)), (30, .x (iT (h.Seats.map (GSeat.el .n)).length)), (31, .x (iT i))]) (fun i tk => tk = takenL (h.Seats.take i) 0 /\ ∀ j, j < i -> mergedI h j = true) [] ⟨rfl, by omega⟩ rfl ?_ ?_
   ·rintro i tk s hx hlt hc _ ⟨hinv, hmer⟩ ih
    have hi3 : i < 3 := hse.1 ▸ hlt
    have hr := hse.2 s (List.mem_of_getElem? hx)
    repeat' (first | refine yy ?_ | refine ym ?_ | (apply ze;(iterate 5 exact rfl)) | (apply zf;(iterate 5 exact rfl)) | refine yp ?_ | refine yi (GSeat.el .n s) (map_at hx) ?_ | refine yt1 ?_ | refine yt0 ?_ | refine yt ?_ ?_ | refine yo ?_ | apply zn | refine yc ?_ | exact rfl | intro _)
    refine zfor (fun k : Nat => iT k) (List.range 60) (fun k (n : Nat) => [(1, .box ⟨0, 0, 0⟩ (h.cs .n)), (3, .own ⟨0, 0, 0⟩ (GSpan.ls .y tk)), (4, .own ⟨0, 0, 0⟩ (GSpan.ls .y (idsOf (addedE h)))), (5, .x (iT i)), (6, .box ⟨0, 0, 0⟩ (s.cs .n)), (7, .x (iT n)), (8, .x (iT ((k : Int) + 1))), (29, .x (GSeat.ls .n h.Seats)), (30, .x (iT (h.Seats.map (GSeat.el .n)).length)), (31, .x (iT i))]) (fun k n => n = cntHas (idsOf (addedE h)) i k) 0 rfl rfl ?_ ?_
    ·rintro k n x hy hlt2 _ _ hinv2 ih2
     rw [List.length_range] at hlt2
     have hc2 : decide ((k : Int) + 1 <= 60) = true := by simp; omega
     have hid := idOf_in (a := i) (by omega) (s := (k : Int) + 1) (by omega)
     have hn : n <= k := by rw [hinv2]; unfold cntHas; exact Nat.le_trans List.countP_le_length (by simp)
     have hcnt : cntHas (idsOf (addedE h)) i (k + 1) = cntHas (idsOf (addedE h)) i k + if setHas (idsOf (addedE h)) (idOf i ((k : Int) + 1)) then 1 else 0 := by
      rw [hid]; unfold cntHas; rw [List.range_succ, List.countP_append, List.countP_singleton]
     have hw8 : IntKind.i64.wrap ((k : Int) + 1 + 1) = ((k + 1 : Nat) : Int) + 1 := by rw [w64 (by omega)]; omega
     repeat' (first | refine yy ?_ | refine ym ?_ | (apply ze;(iterate 5 exact rfl)) | (apply zf;(iterate 5 exact rfl)) | refine yp ?_ | refine yk g_q8 (q8_eq _ _) ?_ | refine yv g_qc (qc_eq (idsOf (addedE h)) _ hidl) ?_ | refine yt1 ?_ | refine yt0 ?_ | refine yt ?_ ?_ | refine yo ?_ | apply zn | refine yc ?_ | exact rfl | intro _)
     ·rename_i h5
      refine ih2 (n + 1) (by rw [hcnt, <- hinv2, if_pos h5]) _ _ ?_
      rw [w64s (i := n) (by omega), hw8]; rfl
     ·rename_i h5
      refine ih2 n (by rw [hcnt, <- hinv2, if_neg (by rw [h5]; simp), Nat.add_zero]) _ _ ?_
      rw [hw8]; rfl
    ·rintro n _ _ hinv2
     rw [List.length_range] at hinv2 ⊢
     have hc2 : decide (((60 : Nat) : Int) + 1 <= 60) = false := rfl
     repeat' (first | refine yy ?_ | refine ym ?_ | (apply ze;(iterate 5 exact rfl)) | (apply zf;(iterate 5 exact rfl)) | refine yp ?_ | refine yt1 ?_ | refine yt0 ?_ | refine yt ?_ ?_ | refine yo ?_ | apply zn | refine yc ?_ | exact rfl | intro _)
     ·refine fin rfl (outB ?_)
      rename_i h5
      have h6 : mergedI h i = false := by
       simp only [mergedI, hx]; rw [<- hinv2]; simpa using h5
      rw [houseI, allIx_not hi3 h6]; simp
     ·rename_i h5
      have h6 : mergedI h i = true := by
       simp only [mergedI, hx]; rw [<- hinv2]; simpa using h5
      have htl2 := takenL_len (h.Seats.take i) 0
      have hbt := bulks_take GSeat.bulk h.Seats i
      have hbs : s.Taken.length <= 4000000 := Nat.le_trans (bulks_mem (f := GSeat.bulk) hx) hsb
      have hta : tk.length <= 4000000 := by rw [hinv]; omega
      refine zfor (GSpan.el .n) s.Taken (fun k (o : List GSpan) => [(1, .box ⟨0, 0, 0⟩ (h.cs .n)), (3, .own ⟨0, 0, 0⟩ (GSpan.ls .y o)), (4, .own ⟨0, 0, 0⟩ (GSpan.ls .y (idsOf (addedE h)))), (5, .x (iT i)), (6, .box ⟨0, 0, 0⟩ (s.cs .n)), (29, .x (GSeat.ls .n h.Seats)), (30, .x (iT (h.Seats.map (GSeat.el .n)).length)), (31, .x (iT i)), (52, .x (GSpan.ls .n s.Taken)), (53, .x (iT (s.Taken.map (GSpan.el .n)).length)), (54, .x (iT k))]) (fun k o => o = tk ++ (s.Taken.take k).map (shiftS i)) tk (by simp) rfl ?_ ?_
      ·rintro k o x hy hlt2 hc2 _ hinv3 ih3
       have hxr := hr x (List.mem_of_getElem? hy)
       have hsh : (⟨idOf i x.Lo, idOf i x.Hi⟩ : GSpan) = shiftS i x := by
        rw [idOf_in (by omega) (by omega), idOf_in (by omega) (by omega)]; rfl
       have happ2 : (o.map (GSpan.el .y)).length + ([GSpan.mk (idOf i x.Lo) (idOf i x.Hi)].map (GSpan.el .n)).length < lenMax := by
        rw [List.length_map, hinv3, List.length_append, List.length_map, List.length_take]; simp [lenMax]; omega
       repeat' (first | refine yy ?_ | refine ym ?_ | (apply ze;(iterate 5 exact rfl)) | (apply zf;(iterate 5 exact rfl)) | refine yp ?_ | refine yi (GSpan.el .n x) (map_at hy) ?_ | refine yk g_q8 (q8_eq _ _) ?_ | (apply zv;(iterate 7 exact rfl);exact (happ2);exact (rfl);exact rfl;exact rfl) | refine yt1 ?_ | refine yt0 ?_ | refine yt ?_ ?_ | refine yo ?_ | apply zn | refine yc ?_ | exact rfl | intro _)
       refine ih3 (o ++ [⟨idOf i x.Lo, idOf i x.Hi⟩]) ?_ _ _ ?_
       ·rw [hsh, hinv3, map_succ hy, List.append_assoc]
       ·rw [w64s (by omega), ls_snoc]; rfl
      ·rintro o hc2 _ hinv3
       rw [List.take_length] at hinv3
       repeat' (first | refine yy ?_ | refine ym ?_ | (apply ze;(iterate 5 exact rfl)) | (apply zf;(iterate 5 exact rfl)) | refine yp ?_ | refine yt1 ?_ | refine yt0 ?_ | refine yt ?_ ?_ | refine yo ?_ | apply zn | refine yc ?_ | exact rfl | intro _)
       refine ih o ⟨by rw [hinv3, hinv, takenL_succ hx], upto_succ hmer h6⟩ _ _ ?_
       rw [w64s (by omega)]; rfl
   ·rintro tk hc _ ⟨hinv, hmer⟩
    rw [List.take_length] at hinv
    have hmr : allIx 3 (mergedI h) = true := allIx_of (hse.1 ▸ hmer)
    have htk4 : tk.length <= 4194304 := by rw [hinv]; omega
    have htkh : ∀ x ∈ tk, HiR x := fun x hx => (htr x (hinv ▸ hx)).hi
    have hul : (unionG tk).length <= 4194304 := Nat.le_trans (unionG_len tk) htk4
    repeat' (first | refine yy ?_ | refine ym ?_ | (apply ze;(iterate 5 exact rfl)) | (apply zf;(iterate 5 exact rfl)) | refine yp ?_ | refine yw g_qm (qm_eq tk htk4 htkh) (callOk_l rfl (closeds_map (fun _ => rfl) _)) ?_ | refine yk g_qx (qx_eq h hl) ?_ | refine yk g_qd (qd_eq h hl) ?_ | (apply zao;(iterate 4 exact rfl);exact (fz_ents _);exact (happ);(iterate 3 exact rfl)) | refine yw g_qn (hids2) (callOk_l rfl (closeds_map (fun _ => rfl) _)) ?_ | refine yv g_qz (qz_eq (unionG tk) (idsOf (allE h)) hul) ?_ | refine yt1 ?_ | refine yt0 ?_ | refine yt ?_ ?_ | refine yo ?_ | apply zn | refine yc ?_ | exact rfl | intro _)
    ·refine fin rfl (outB ?_)
     rename_i h5
     rw [hinv] at h5
     have h6 : decide (unionG (takenL h.Seats 0) = idsOf (allE h)) = false := by simpa using h5
     rw [houseI, h6]; simp
    ·rename_i h5
     rw [hinv] at h5
     have h6 : decide (unionG (takenL h.Seats 0) = idsOf (allE h)) = true := by simpa using h5
     have hou := bulks_len GOut.bulk h.Outs
     have hob : h.Outs.length <= 4000000 := by unfold GHouse.bulk at hl; omega
     rw [houseI, hp, hea, hmr, h6]
     refine zfor (GOut.el .n) h.Outs (fun i (_ : Unit) => [(1, .box ⟨0, 0, 0⟩ (h.cs .n)), (83, .x (GOut.ls .n h.Outs)), (84, .x (iT (h.Outs.map (GOut.el .n)).length)), (85, .x (iT i))]) (fun i _ => ∀ j, j < i -> gensAt h.Outs j = true) () (by omega) rfl ?_ ?_
     ·rintro i _ o hx hlt hc _ hinv2 ih
      have hsl : 0 <= i /\ i <= (h.Outs.map (GOut.el .n)).length := by rw [List.length_map]; omega
      repeat' (first | refine yy ?_ | refine ym ?_ | (apply ze;(iterate 5 exact rfl)) | (apply zf;(iterate 5 exact rfl)) | refine yp ?_ | refine yi (GOut.el .n o) (map_at hx) ?_ | (apply zu;exact rfl;exact bound_at rfl rfl;exact rfl;exact (hsl);exact rfl;exact sub_take;exact rfl;exact rfl) | (apply zk g_qy;exact rfl;exact rfl;exact (qy_eq (h.Outs.take i) _ _ (by rw [List.length_take]; omega));(iterate 3 exact rfl)) | refine yt1 ?_ | refine yt0 ?_ | refine yt ?_ ?_ | refine yo ?_ | apply zn | refine yc ?_ | exact rfl | intro _)
      ·refine fin rfl (outB ?_)
       rename_i h7
       have h8 : gensAt h.Outs i = false := by rw [gensAt_at hx]; simpa using h7
       rw [allIx_not hlt h8]; rfl
      ·rename_i h7
       have h8 : gensAt h.Outs i = true := by rw [gensAt_at hx]; simpa using h7
       refine ih () (upto_succ hinv2 h8) _ _ ?_
       rw [w64s (by omega)]; rfl
     ·rintro _ hc _ hinv2
      rw [allIx_of hinv2]
      repeat' (first | refine yy ?_ | refine ym ?_ | (apply ze;(iterate 5 exact rfl)) | (apply zf;(iterate 5 exact rfl)) | refine yp ?_ | refine yt1 ?_ | refine yt0 ?_ | refine yt ?_ ?_ | refine yo ?_ | apply zn | refine yc ?_ | exact rfl | intro _)
      exact fin rfl rfl
end Go.Wr

