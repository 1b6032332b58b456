/-
  What is proved: lemmas on the way to the laws of this seat. No condition.
-/
import Derived.Test.YtbghjecopkbhlaaGreatPa
import Derived.Test.YtbghjecopkbhlaaGreatTa
set_option linter.unusedVariables false
set_option linter.unusedSimpArgs false
namespace Go.Wr
def GItem.ok (x : GItem) : Bool := inB x.Seq 1 60 && inB x.Class 0 1 && inB x.Key 0 4 && inB x.Window 0 20 && x.Sketch.ok
def sealAt (l : List GItem) (i : Nat) : Bool := match l[i]? with
 | some x => x.ok && x.Seq == (i : Int) + 1
 | none => false
def agentTop (a : GAgent) : Bool := inB a.Id 0 2 && inB a.Epoch 0 1000 && inB a.Granted 0 60 && decide (a.Sealed.length <= 60) && inB a.Next 0 60
def GAgent.ok (a : GAgent) : Bool := agentTop a && allIn a.Taken 1 a.Sealed.length && (a.Live || !decide (a.Granted > 0)) && allIx a.Sealed.length (sealAt a.Sealed)
theorem Zoq : ∀ {s : List GSpan} {lo m : Int}, SetR s -> (∀ x ∈ s, lo <= x.Lo /\ x.Hi <= m) -> lo <= m + 1 -> sumSpan s <= m - lo + 1
 | [], lo, m, _, _, h => by simp [sumSpan]; omega
 | x :: s, lo, m, hs, h, _ => by
  have hx := h x Y57
  have hsp := hs.one
  unfold SpanR at hsp
  have h1 := Zoq (s := s) (lo := x.Hi + 1) (m := m) hs.tail (fun y hy => by have := hs.head y hy; have := h y (Y56 _ hy); omega) (by omega)
  unfold sumSpan at h1 ⊢
  simp only [Y50, Y69]
  omega
end Go.Wr
namespace Go.Wr
def addZ (a b : Int) : Int := min (max 0 (min a 1000000000) + max 0 (min b 1000000000)) 1000000000
def mergeS (a b : GSketch) : GSketch := ⟨addZ a.Count b.Count, addZ a.Sum b.Sum, if b.Count = 0 then a.Min else if a.Count = 0 then b.Min else min a.Min b.Min, max a.Max b.Max, List.zipWith addZ a.Hist b.Hist, List.zipWith max a.Regs b.Regs, List.zipWith (List.zipWith addZ) a.Rows b.Rows⟩
def newS : GSketch := ⟨0, 0, 0, 0, List.replicate 8 0, List.replicate 8 0, [List.replicate 4 0, List.replicate 4 0]⟩
theorem Zmq (a b : Int) : 0 <= addZ a b /\ addZ a b <= 1000000000 := by unfold addZ; omega
theorem Zms {b : Int} (h : 0 <= b /\ b <= 1000000000) : addZ 0 b = b := by unfold addZ; omega
theorem Zmr {a b : Int} (ha : 0 <= a /\ a <= 1000000000) (hb : 0 <= b /\ b <= 1000000000) : addZ a b = 0 <-> a = 0 /\ b = 0 := by unfold addZ; omega
theorem Zo0 : newS.ok = true := by decide
theorem Znu {l : List Int} {n : Nat} {m : Int} {z : Bool} : lstOk l n m z = true <-> l.length = n /\ ∀ x ∈ l, 0 <= x /\ x <= m /\ (z = true -> x = 0) := by
 simp only [lstOk, Y2, decide_eq_true_eq, Y18, inB, Y11, Bool.and_eq_false_iff, bne_eq_false_iff_eq]
 constructor
 ·rintro ⟨h, h2⟩
  refine ⟨h, fun x hx => ⟨(h2 x hx).1.1, (h2 x hx).1.2, fun hz => ?_⟩⟩
  rcases (h2 x hx).2 with h3 | h3
  ·rw [hz] at h3; cases h3
  ·exact h3
 ·rintro ⟨h, h2⟩
  refine ⟨h, fun x hx => ⟨⟨(h2 x hx).1, (h2 x hx).2.1⟩, ?_⟩⟩
  cases z with
  | false => exact .inl rfl
  | true => exact .inr ((h2 x hx).2.2 rfl)
structure SkR (x : GSketch) : Prop where
 cnt : 0 <= x.Count /\ x.Count <= 1000000000
 sum : 0 <= x.Sum /\ x.Sum <= 1000000000
 mn : 0 <= x.Min /\ x.Min <= x.Max /\ x.Max <= 1000000
 zero : x.Count = 0 -> x.Sum = 0 /\ x.Max = 0
 hist : x.Hist.length = 8 /\ ∀ y ∈ x.Hist, 0 <= y /\ y <= 1000000000 /\ (x.Count = 0 -> y = 0)
 regs : x.Regs.length = 8 /\ ∀ y ∈ x.Regs, 0 <= y /\ y <= 17 /\ (x.Count = 0 -> y = 0)
 rows : x.Rows.length = 2 /\ ∀ r ∈ x.Rows, r.length = 4 /\ ∀ y ∈ r, 0 <= y /\ y <= 1000000000 /\ (x.Count = 0 -> y = 0)
theorem Zok (x : GSketch) : x.ok = true <-> SkR x := by
 simp only [GSketch.ok, Y2, Znu, decide_eq_true_eq, inB, Y18, Y11, Bool.and_eq_false_iff, Bool.or_eq_false_iff, beq_eq_false_iff_ne, bne_eq_false_iff_eq, beq_iff_eq]
 constructor
 ·rintro ⟨⟨⟨⟨⟨⟨⟨⟨⟨h1, h2⟩, h3⟩, h4⟩, h5⟩, h6⟩, h7⟩, h8⟩, h9⟩, h10⟩
  exact ⟨h1, h2, ⟨h3.1, h5, h4.2⟩, fun h => h7.resolve_left (fun h2 => h2 h), h8, h9, h6, h10⟩
 ·rintro ⟨h1, h2, h3, h4, h5, h6, h7, h8⟩
  refine ⟨⟨⟨⟨⟨⟨⟨⟨⟨h1, h2⟩, by omega, by omega⟩, by omega, by omega⟩, h3.2.1⟩, h7⟩, ?_⟩, h5⟩, h6⟩, h8⟩
  by_cases h : x.Count = 0
  ·exact .inr (h4 h)
  ·exact .inl h
theorem Zpe {α β γ : Type} {f : α -> β -> γ} : ∀ {a : List α} {b : List β} {z : γ}, z ∈ List.zipWith f a b -> ∃ x ∈ a, ∃ y ∈ b, z = f x y
 | [], _, z, h => by simp at h
 | _ :: _, [], z, h => by simp at h
 | x :: a, y :: b, z, h => by
  rw [List.zipWith_cons_cons, Y55] at h
  rcases h with rfl | h
  ·exact ⟨x, Y57, y, Y57, rfl⟩
  ·obtain ⟨x', hx, y', hy, rfl⟩ := Zpe h
   exact ⟨x', Y56 _ hx, y', Y56 _ hy, rfl⟩
theorem Znz {a b : GSketch} (ha : a.ok = true) (hb : b.ok = true) : (mergeS a b).ok = true := by
 rw [Zok] at *
 have h0 := Zmr ha.cnt hb.cnt
 refine ⟨Zmq _ _, Zmq _ _, ?_, ?_, ⟨?_, ?_⟩, ⟨?_, ?_⟩, ⟨?_, ?_⟩⟩
 ·have := ha.mn; have := hb.mn; simp only [mergeS]; split <;> (try split) <;> omega
 ·intro h
  obtain ⟨h1, h2⟩ := h0.1 h
  have := ha.zero h1; have := hb.zero h2
  refine ⟨(Zmr ha.sum hb.sum).2 ⟨by omega, by omega⟩, ?_⟩
  simp only [mergeS]; omega
 ·simp [mergeS, ha.hist.1, hb.hist.1]
 ·intro z hz
  obtain ⟨x, hx, y, hy, rfl⟩ := Zpe hz
  refine ⟨(Zmq _ _).1, (Zmq _ _).2, fun h => ?_⟩
  have := ha.hist.2 x hx; have := hb.hist.2 y hy
  exact (Zmr ⟨by omega, by omega⟩ ⟨by omega, by omega⟩).2 ⟨(ha.hist.2 x hx).2.2 (h0.1 h).1, (hb.hist.2 y hy).2.2 (h0.1 h).2⟩
 ·simp [mergeS, ha.regs.1, hb.regs.1]
 ·intro z hz
  obtain ⟨x, hx, y, hy, rfl⟩ := Zpe hz
  have h1 := ha.regs.2 x hx; have h2 := hb.regs.2 y hy
  refine ⟨by omega, by omega, fun h => ?_⟩
  have := h1.2.2 (h0.1 h).1; have := h2.2.2 (h0.1 h).2; omega
 ·simp [mergeS, ha.rows.1, hb.rows.1]
 ·intro r hr
  obtain ⟨p, hp, q, hq, rfl⟩ := Zpe hr
  refine ⟨by simp [(ha.rows.2 p hp).1, (hb.rows.2 q hq).1], fun z hz => ?_⟩
  obtain ⟨x, hx, y, hy, rfl⟩ := Zpe hz
  have h1 := (ha.rows.2 p hp).2 x hx; have h2 := (hb.rows.2 q hq).2 y hy
  exact ⟨(Zmq _ _).1, (Zmq _ _).2, fun h => (Zmr ⟨h1.1, h1.2.1⟩ ⟨h2.1, h2.2.1⟩).2 ⟨h1.2.2 (h0.1 h).1, h2.2.2 (h0.1 h).2⟩⟩
theorem Zpf {f : Int -> Int -> Int} : ∀ {b : List Int}, (∀ y ∈ b, f 0 y = y) -> List.zipWith f (List.replicate b.length 0) b = b
 | [], _ => rfl
 | y :: b, h => by rw [Y42, List.replicate_succ, List.zipWith_cons_cons, h y Y57, Zpf fun z hz => h z (Y56 _ hz)]
theorem Zny {b : GSketch} (hb : b.ok = true) : mergeS newS b = b := by
 rw [Zok] at hb
 obtain ⟨c, s, mn, mx, hi, re, ro⟩ := b
 obtain ⟨h1, h2, h3, h4, ⟨h5, h5'⟩, ⟨h6, h6'⟩, h7, h7'⟩ := hb
 simp only at *
 have e1 : List.zipWith addZ (List.replicate 8 0) hi = hi := h5 ▸ Zpf fun y hy => Zms ⟨(h5' y hy).1, (h5' y hy).2.1⟩
 have e2 : List.zipWith max (List.replicate 8 0) re = re := h6 ▸ Zpf fun y hy => by have := h6' y hy; omega
 match ro, h7 with
 | [p, q], _ =>
  have hp := h7' p (by simp)
  have hq := h7' q (by simp)
  have e3 : List.zipWith addZ (List.replicate 4 0) p = p := hp.1 ▸ Zpf fun y hy => Zms ⟨(hp.2 y hy).1, (hp.2 y hy).2.1⟩
  have e4 : List.zipWith addZ (List.replicate 4 0) q = q := hq.1 ▸ Zpf fun y hy => Zms ⟨(hq.2 y hy).1, (hq.2 y hy).2.1⟩
  simp only [mergeS, newS, e1, e2, e3, e4, List.zipWith_cons_cons, List.zipWith_nil_left, Zms h1, Zms h2]
  have e5 : (if c = 0 then (0 : Int) else if True then mn else min 0 mn) = mn := by
   split
   ·have := h4 ‹_›; omega
   ·exact if_pos trivial
  rw [e5, show max (0 : Int) mx = mx by omega]
def totS (l : List GEntry) : GSketch := l.foldl (fun s e => mergeS s e.Sketch) newS
def totI (l : List GEntry) : GSketch := match l with
 | [] => newS
 | e :: l => l.foldl (fun s e => mergeS s e.Sketch) e.Sketch
theorem ok_sk {e : GEntry} (h : e.ok = true) : e.Sketch.ok = true := by simp only [GEntry.ok, Y2] at h; exact h.2
theorem Znb : ∀ {l : List GEntry} {s : GSketch}, s.ok = true -> (∀ e ∈ l, e.ok = true) -> (l.foldl (fun s e => mergeS s e.Sketch) s).ok = true
 | [], _, h, _ => h
 | e :: l, _, h, h2 => Znb (l := l) (Znz h (ok_sk (h2 e Y57))) fun e he => h2 e (Y56 _ he)
theorem Zoz {l : List GEntry} (h : ∀ e ∈ l, e.ok = true) : totI l = totS l := by
 cases l with
 | nil => rfl
 | cons e l => rw [totI, totS, Y28, Zny (ok_sk (h e Y57))]
theorem Zoy {l : List GEntry} (h : ∀ e ∈ l, e.ok = true) : (totS l).ok = true := Znb Zo0 h
def atE (k w : Int) (e : GEntry) : Bool := e.Key == k && e.Window == w
def heldL (h : GHouse) (k w : Int) : List GEntry := if houseS h then (allE h).filter (atE k w) else []
theorem Znj {h : GHouse} (hh : houseS h = true) : ∀ e ∈ allE h, e.ok = true := by
 rw [<- Z82] at hh
 simp only [houseI, Y2] at hh
 exact (entsApart_iff.1 hh.1.1.1.2).ok
theorem Znf {h : GHouse} {k w : Int} : ∀ e ∈ heldL h k w, e.ok = true := fun e he => by
 unfold heldL at he
 split at he
 ·exact Znj ‹_› e (Y93.1 he).1
 ·cases he
end Go.Wr
namespace Go.Wr
def GAgent.zero : GAgent := ⟨0, 0, false, 0, [], [], 0⟩
def GSeat.zero : GSeat := ⟨0, 0, [], 0, 0⟩
def GConf.zero : GConf := ⟨0, 0, 0, [], 0, 0, 0, 0⟩
def GHouse.zero : GHouse := ⟨GConf.zero, 0, false, [], [], [], 0, [], []⟩
theorem Zlk {α : Type} : ∀ (l : List α), wL one1 l = 2 * l.length
 | [] => rfl
 | x :: l => by have := Zlk l; simp only [wL, Y50, Y69, Y42, one1] at *; omega
theorem Zlg {α : Type} (w : α -> Nat) (x : α) (l : List α) : wL w (x :: l) = 1 + w x + wL w l := rfl
end Go.Wr
namespace Go.Wr
theorem Zli {α : Type} {w : α -> Nat} {f : α -> Nat} (h : ∀ x, w x + 1 <= 8 * (f x + 1)) : ∀ l : List α, wL w l <= 8 * bulks f l
 | [] => by simp [wL]
 | x :: l => by
  have h1 := Zli h l
  have h2 := h x
  rw [Zlg]
  unfold bulks at h1 ⊢
  simp only [Y50, Y69, Y42]
  omega
theorem Zll : ∀ l : List GSpan, wL GSpan.w1 l = 3 * l.length
 | [] => rfl
 | x :: l => by rw [Zlg, Zll l, Y42]; unfold GSpan.w1; omega
theorem Zlh : ∀ l : List (List Int), wL (wL one1) l <= 2 * bulks List.length l
 | [] => by simp [wL]
 | x :: l => by
  have h1 := Zlh l
  have h2 := Zlk x
  rw [Zlg, h2]
  unfold bulks at h1 ⊢
  simp only [Y50, Y69, Y42]
  omega
theorem Zp5 (x : GSketch) : GSketch.wS x <= 2 * x.bulk := by
 have h3 := Zlh x.Rows
 unfold GSketch.wS GSketch.bulk
 simp only [Zlk]; omega
theorem Zlm (x : GEntry) : GEntry.w1 x + 2 <= 8 * (x.bulk + 1) := by
 have h3 := Zlh x.Sketch.Rows
 unfold GEntry.w1 GEntry.bulk GSketch.bulk
 first | (simp only [GSketch.w1, Zlk, Zll]; omega) | (simp only [Zlk, Zll]; omega)
theorem Zlo (x : GOut) : GOut.w1 x + 1 <= 8 * (x.bulk + 1) := by
 have h := Zlm x.Entry
 unfold GOut.w1 GOut.bulk; omega
theorem Zlp (x : GRow) : GRow.w1 x + 1 <= 8 * (x.bulk + 1) := by
 have h := Zli (w := GEntry.w1) (f := GEntry.bulk) (fun x => by have := Zlm x; omega) x.Lst
 unfold GRow.w1 GRow.bulk; omega
theorem Zlq (x : GSeat) : GSeat.w1 x + 1 <= 8 * (x.bulk + 1) := by
 unfold GSeat.w1 GSeat.bulk; rw [Zll]; omega
theorem Zlr (x : GTurn) : GTurn.w1 x + 1 <= 8 * (x.bulk + 1) := by
 unfold GTurn.w1 GTurn.bulk; rw [Zlk]; omega
theorem Zln (h : GHouse) : GHouse.wS h <= 8 * h.bulk := by
 have h1 := Zli Zlq h.Seats
 have h2 := Zli (w := wL GRow.w1) (f := bulks GRow.bulk) (fun x => by have := Zli Zlp x; omega) h.Rows
 have h3 := Zli Zlr h.Turns
 have h4 := Zli (w := GEntry.w1) (f := GEntry.bulk) (fun x => by have := Zlm x; omega) h.Root
 have h5 := Zli Zlo h.Outs
 have h6 := Zlk h.Conf.Weights
 unfold GHouse.wS GConf.wS GHouse.bulk GConf.bulk; omega
theorem Z84 {h : GHouse} (hl : h.bulk <= 4000000) : (1 : Int) + (GHouse.wS h : Int) <= top62 := by
 have := Zln h
 unfold top62; omega
end Go.Wr
namespace Go.Wr
theorem Zn4 {x : GSpan} (h : SpanR x) : (cntHas [x] (-1) 10100 : Int) = x.Hi - x.Lo + 1 := by
 have h1 := Z30 (x.Lo + 100) (x.Hi + 100) 10100
 have e : cntHas [x] (-1) 10100 = (List.range 10100).countP (fun (k : Nat) => decide (x.Lo + 100 <= (k : Int) + 1) && decide ((k : Int) + 1 <= x.Hi + 100)) := by
  unfold cntHas
  congr 1
  funext k
  simp only [setHas, List.any_cons, List.any_nil, Bool.or_false, inB]
  congr 1 <;> (rw [decide_eq_decide]; omega)
 unfold SpanR at h
 rw [e, h1]
 omega
theorem Zn5 : ∀ {s : List GSpan}, SetR s -> (cntHas s (-1) 10100 : Int) = sumSpan s
 | [], _ => by rw [Z2x]; rfl
 | x :: s, h => by
  have hd : Disj [x] s := fun n ⟨h1, h2⟩ => by
   rw [Z8j] at h1
   have := h.gt h2
   omega
  rw [show x :: s = [x] ++ s from rfl, Z2t hd, Int.natCast_add, Zn4 h.one, Zn5 h.tail]
  rfl
def sizesE (l : List GEntry) : Int := (l.map fun e => setSize e.Ids).sum
theorem Zoe {s : List GSpan} (h : SetR s) : setSize s = sumSpan s := if_pos ((Ziv _).2 h)
theorem Zn3 : ∀ {l : List GEntry}, EntsR l -> (cntHas (l.flatMap GEntry.Ids) (-1) 10100 : Int) = sizesE l
 | [], _ => by simp [Z2x, sizesE]
 | e :: l, h => by
  obtain ⟨h1, h2⟩ := Y67.1 h.dis
  have hl : EntsR l := ⟨fun x hx => h.ok x (Y56 _ hx), h2⟩
  have he := ok_setR (h.ok e Y57)
  rw [Y92, Z2t (Z39 h1), Int.natCast_add, Zn5 he, Zn3 hl, sizesE, sizesE, Y50, Y69, Zoe he]
theorem Zog {l : List GEntry} (h : EntsR l) : setSize (idsOf l) = sizesE l := by
 have h1 := Z89 h.ok
 rw [Zoe h1.1, <- Zn5 h1.1, Z2u h1.2, Zn3 h]
theorem Zoh {l : List GEntry} (h : EntsR l) : 0 <= sizesE l /\ sizesE l <= 10100 := by
 rw [<- Zn3 h]
 have : cntHas (l.flatMap GEntry.Ids) (-1) 10100 <= 10100 := by
  unfold cntHas
  exact Y77 List.countP_le_length (by rw [List.length_range]; exact Nat.le_refl _)
 omega
theorem EntsR.sub {a b : List GEntry} (h : EntsR b) (hs : a.Sublist b) : EntsR a := ⟨fun e he => h.ok e (hs.subset he), h.dis.sublist hs⟩
theorem Zni {h : GHouse} (hh : houseS h = true) : EntsR (allE h) := by
 rw [<- Z82] at hh
 simp only [houseI, Y2] at hh
 exact entsApart_iff.1 hh.1.1.1.2
theorem Zne (h : GHouse) (k w : Int) : EntsR (heldL h k w) := by
 unfold heldL
 split
 ·rename_i hh; exact (Zni hh).sub List.filter_sublist
 ·exact ⟨fun e he => (by cases he), List.Pairwise.nil⟩
end Go.Wr

