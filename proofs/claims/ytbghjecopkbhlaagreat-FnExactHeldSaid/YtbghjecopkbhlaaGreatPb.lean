/-
  What is proved: lemmas on the way to the laws of this seat. No condition.
-/
import Derived.Test.YtbghjecopkbhlaaGreatPa
import Derived.Test.YtbghjecopkbhlaaGreatTa
set_option linter.unusedVariables false
set_option linter.unusedSimpArgs false
namespace Go.Wr
def ap.ok (x : ap) : Bool := inB x.Seq 1 60 && inB x.mq 0 1 && inB x.Key 0 4 && inB x.cJ 0 20 && x.aj.ok
def hP (l : List ap) (i : Nat) : Bool := match l[i]? with
 | some x => x.ok && x.Seq == (i : Int) + 1
 | none => false
def eX (a : ak) : Bool := inB a.Id 0 2 && inB a.gp 0 1000 && inB a.cP 0 60 && decide (a.aX.length <= 60) && inB a.Next 0 60
def ak.ok (a : ak) : Bool := eX a && ez a.aJ 1 a.aX.length && (a.Live || !decide (a.cP > 0)) && bV a.aX.length (hP a.aX)
def fW (l : List ak) (i : Nat) : Bool := match l[i]? with
 | some a => a.ok && a.Id == (i : Int)
 | none => false
def dw (w : aG) : Bool := decide (w.bj.length = 3) && c4 w.bJ && decide (w.Net.length <= 10) && bV 3 (fW w.bj) && w.Net.all fun p => inB p.To (-1) 2
theorem Zo9 {l : List ap} {i : Nat} {x : ap} (h : l[i]? = some x) : hP l i = (x.ok && x.Seq == (i : Int) + 1) := by simp [hP, h]
theorem Zmt {l : List ak} {i : Nat} {x : ak} (h : l[i]? = some x) : fW l i = (x.ok && x.Id == (i : Int)) := by simp [fW, h]
theorem Zoq : ∀ {s : List aa} {lo m : Int}, bQ s -> (∀ x ∈ s, lo <= x.Lo /\ x.Hi <= m) -> lo <= m + 1 -> bS s <= m - lo + 1
 | [], lo, m, _, _, h => by simp [bS]; omega
 | x :: s, lo, m, hs, h, _ => by
  have hx := h x Y57
  have hsp := hs.one
  unfold cj at hsp
  have h1 := Zoq (s := s) (lo := x.Hi + 1) (m := m) hs.tail (fun y hy => by have := hs.head y hy; have := h y (Y56 _ hy); omega) (by omega)
  unfold bS at h1 ⊢
  simp only [Y50, Y69]
  omega
theorem Zmw {a : ak} (h : a.ok = true) : cK a.aJ <= a.aX.length /\ a.aX.length <= 60 /\ bQ a.aJ /\ ∀ x ∈ a.aJ, 1 <= x.Lo /\ x.Hi <= a.aX.length := by
 simp only [ak.ok, eX, ez, Y2, decide_eq_true_eq, Y18] at h
 obtain ⟨⟨⟨⟨⟨_, h60⟩, _⟩, hok, hin⟩, _⟩, _⟩ := h
 have hs := (Ziv _).1 hok
 refine ⟨?_, h60, hs, hin⟩
 rw [cK, if_pos hok]
 have := Zoq (lo := 1) (m := a.aX.length) hs hin (by omega)
 omega
theorem Zp6 {w : aG} (h : dw w = true) : w.bj.length = 3 /\ c4 w.bJ = true /\ ∀ (i : Nat) (a : ak), w.bj[i]? = some a -> a.ok = true /\ a.Id = i := by
 simp only [dw, Y2, decide_eq_true_eq, Zd] at h
 obtain ⟨⟨⟨⟨h3, hh⟩, _⟩, ha⟩, _⟩ := h
 refine ⟨h3, hh, fun i a hi => ?_⟩
 have hil : i < w.bj.length := (Y36.1 hi).1
 have := ha i (by omega)
 rw [Zmt hi] at this
 simpa using this
theorem Z83 {h : ao} (hh : c4 h = true) : h.aO.length = 3 /\ h.Rows.length = 3 /\ (∀ rs ∈ h.Rows, rs.length = 2) /\ ∀ s ∈ h.aO, s.ok h.bP.Per = true := by
 have hp : cC dh h = true := by simp only [c4, Y2] at hh; exact hh.1.1.1.1.2
 simp only [cC, gy, Y2, decide_eq_true_eq, Zd] at hp
 obtain ⟨⟨⟨⟨⟨⟨h3, h3r⟩, _⟩, _⟩, _⟩, hs⟩, _⟩ := hp
 refine ⟨h3, h3r, fun rs hr => ?_, fun s hs2 => ?_⟩
 ·obtain ⟨i, hi⟩ := Y59.1 hr
  have hil := (Y36.1 hi).1
  exact (Zi7 (Y34 (show i < h.aO.length by omega)) hi (hs i (by omega))).2.1
 ·obtain ⟨i, hi⟩ := Y59.1 hs2
  have hil := (Y36.1 hi).1
  exact (Zi7 hi (Y34 (show i < h.Rows.length by omega)) (hs i (by omega))).1
end Go.Wr
namespace Go.Wr
def bI (a b : Int) : Int := min (max 0 (min a 1000000000) + max 0 (min b 1000000000)) 1000000000
def bH (a b : ag) : ag := ⟨bI a.Count b.Count, bI a.Sum b.Sum, if b.Count = 0 then a.Min else if a.Count = 0 then b.Min else min a.Min b.Min, max a.Max b.Max, List.zipWith bI a.aW b.aW, List.zipWith max a.aT b.aT, List.zipWith (List.zipWith bI) a.Rows b.Rows⟩
def ji : ag := ⟨0, 0, 0, 0, List.replicate 8 0, List.replicate 8 0, [List.replicate 4 0, List.replicate 4 0]⟩
theorem Zmq (a b : Int) : 0 <= bI a b /\ bI a b <= 1000000000 := by unfold bI; omega
theorem Zms {b : Int} (h : 0 <= b /\ b <= 1000000000) : bI 0 b = b := by unfold bI; omega
theorem Zmr {a b : Int} (ha : 0 <= a /\ a <= 1000000000) (hb : 0 <= b /\ b <= 1000000000) : bI a b = 0 <-> a = 0 /\ b = 0 := by unfold bI; omega
theorem Zo0 : ji.ok = true := by decide
theorem Znu {l : List Int} {n : Nat} {m : Int} {z : Bool} : jt l n m z = true <-> l.length = n /\ ∀ x ∈ l, 0 <= x /\ x <= m /\ (z = true -> x = 0) := by
 simp only [jt, Y2, decide_eq_true_eq, Y18, inB, Y11, Bool.and_eq_false_iff, bne_eq_false_iff_eq]
 constructor
 ·rintro ⟨h, h2⟩
  refine ⟨h, fun x hx => ⟨(h2 x hx).1.1, (h2 x hx).1.2, fun hz => ?_⟩⟩
  rcases (h2 x hx).2 with h3 | h3
  ·rw [hz] at h3; cases h3
  ·exact h3
 ·rintro ⟨h, h2⟩
  refine ⟨h, fun x hx => ⟨⟨(h2 x hx).1, (h2 x hx).2.1⟩, ?_⟩⟩
  cases z with
  | false => exact .inl rfl
  | true => exact .inr ((h2 x hx).2.2 rfl)
structure SkR (x : ag) : Prop where
 cnt : 0 <= x.Count /\ x.Count <= 1000000000
 sum : 0 <= x.Sum /\ x.Sum <= 1000000000
 mn : 0 <= x.Min /\ x.Min <= x.Max /\ x.Max <= 1000000
 zero : x.Count = 0 -> x.Sum = 0 /\ x.Max = 0
 jj : x.aW.length = 8 /\ ∀ y ∈ x.aW, 0 <= y /\ y <= 1000000000 /\ (x.Count = 0 -> y = 0)
 kC : x.aT.length = 8 /\ ∀ y ∈ x.aT, 0 <= y /\ y <= 17 /\ (x.Count = 0 -> y = 0)
 rows : x.Rows.length = 2 /\ ∀ r ∈ x.Rows, r.length = 4 /\ ∀ y ∈ r, 0 <= y /\ y <= 1000000000 /\ (x.Count = 0 -> y = 0)
theorem Zok (x : ag) : x.ok = true <-> SkR x := by
 simp only [ag.ok, Y2, Znu, decide_eq_true_eq, inB, Y18, Y11, Bool.and_eq_false_iff, Bool.or_eq_false_iff, beq_eq_false_iff_ne, bne_eq_false_iff_eq, beq_iff_eq]
 constructor
 ·rintro ⟨⟨⟨⟨⟨⟨⟨⟨⟨h1, h2⟩, h3⟩, h4⟩, h5⟩, h6⟩, h7⟩, h8⟩, h9⟩, h10⟩
  exact ⟨h1, h2, ⟨h3.1, h5, h4.2⟩, fun h => h7.resolve_left (fun h2 => h2 h), h8, h9, h6, h10⟩
 ·rintro ⟨h1, h2, h3, h4, h5, h6, h7, h8⟩
  refine ⟨⟨⟨⟨⟨⟨⟨⟨⟨h1, h2⟩, by omega, by omega⟩, by omega, by omega⟩, h3.2.1⟩, h7⟩, ?_⟩, h5⟩, h6⟩, h8⟩
  by_cases h : x.Count = 0
  ·exact .inr (h4 h)
  ·exact .inl h
theorem Zpe {α β γ : Type} {f : α -> β -> γ} : ∀ {a : List α} {b : List β} {z : γ}, z ∈ List.zipWith f a b -> ∃ x ∈ a, ∃ y ∈ b, z = f x y
 | [], _, z, h => by simp at h
 | _ :: _, [], z, h => by simp at h
 | x :: a, y :: b, z, h => by
  rw [List.zipWith_cons_cons, Y55] at h
  rcases h with rfl | h
  ·exact ⟨x, Y57, y, Y57, rfl⟩
  ·obtain ⟨x', hx, y', hy, rfl⟩ := Zpe h
   exact ⟨x', Y56 _ hx, y', Y56 _ hy, rfl⟩
theorem Znz {a b : ag} (ha : a.ok = true) (hb : b.ok = true) : (bH a b).ok = true := by
 rw [Zok] at *
 have h0 := Zmr ha.cnt hb.cnt
 refine ⟨Zmq _ _, Zmq _ _, ?_, ?_, ⟨?_, ?_⟩, ⟨?_, ?_⟩, ⟨?_, ?_⟩⟩
 ·have := ha.mn; have := hb.mn; simp only [bH]; split <;> (try split) <;> omega
 ·intro h
  obtain ⟨h1, h2⟩ := h0.1 h
  have := ha.zero h1; have := hb.zero h2
  refine ⟨(Zmr ha.sum hb.sum).2 ⟨by omega, by omega⟩, ?_⟩
  simp only [bH]; omega
 ·simp [bH, ha.jj.1, hb.jj.1]
 ·intro z hz
  obtain ⟨x, hx, y, hy, rfl⟩ := Zpe hz
  refine ⟨(Zmq _ _).1, (Zmq _ _).2, fun h => ?_⟩
  have := ha.jj.2 x hx; have := hb.jj.2 y hy
  exact (Zmr ⟨by omega, by omega⟩ ⟨by omega, by omega⟩).2 ⟨(ha.jj.2 x hx).2.2 (h0.1 h).1, (hb.jj.2 y hy).2.2 (h0.1 h).2⟩
 ·simp [bH, ha.kC.1, hb.kC.1]
 ·intro z hz
  obtain ⟨x, hx, y, hy, rfl⟩ := Zpe hz
  have h1 := ha.kC.2 x hx; have h2 := hb.kC.2 y hy
  refine ⟨by omega, by omega, fun h => ?_⟩
  have := h1.2.2 (h0.1 h).1; have := h2.2.2 (h0.1 h).2; omega
 ·simp [bH, ha.rows.1, hb.rows.1]
 ·intro r hr
  obtain ⟨p, hp, q, hq, rfl⟩ := Zpe hr
  refine ⟨by simp [(ha.rows.2 p hp).1, (hb.rows.2 q hq).1], fun z hz => ?_⟩
  obtain ⟨x, hx, y, hy, rfl⟩ := Zpe hz
  have h1 := (ha.rows.2 p hp).2 x hx; have h2 := (hb.rows.2 q hq).2 y hy
  exact ⟨(Zmq _ _).1, (Zmq _ _).2, fun h => (Zmr ⟨h1.1, h1.2.1⟩ ⟨h2.1, h2.2.1⟩).2 ⟨h1.2.2 (h0.1 h).1, h2.2.2 (h0.1 h).2⟩⟩
theorem Zpf {f : Int -> Int -> Int} : ∀ {b : List Int}, (∀ y ∈ b, f 0 y = y) -> List.zipWith f (List.replicate b.length 0) b = b
 | [], _ => rfl
 | y :: b, h => by rw [Y42, List.replicate_succ, List.zipWith_cons_cons, h y Y57, Zpf fun z hz => h z (Y56 _ hz)]
theorem Zny {b : ag} (hb : b.ok = true) : bH ji b = b := by
 rw [Zok] at hb
 obtain ⟨c, s, mn, mx, hi, re, ro⟩ := b
 obtain ⟨h1, h2, h3, h4, ⟨h5, h5'⟩, ⟨h6, h6'⟩, h7, h7'⟩ := hb
 simp only at *
 have e1 : List.zipWith bI (List.replicate 8 0) hi = hi := h5 ▸ Zpf fun y hy => Zms ⟨(h5' y hy).1, (h5' y hy).2.1⟩
 have e2 : List.zipWith max (List.replicate 8 0) re = re := h6 ▸ Zpf fun y hy => by have := h6' y hy; omega
 match ro, h7 with
 | [p, q], _ =>
  have hp := h7' p (by simp)
  have hq := h7' q (by simp)
  have e3 : List.zipWith bI (List.replicate 4 0) p = p := hp.1 ▸ Zpf fun y hy => Zms ⟨(hp.2 y hy).1, (hp.2 y hy).2.1⟩
  have e4 : List.zipWith bI (List.replicate 4 0) q = q := hq.1 ▸ Zpf fun y hy => Zms ⟨(hq.2 y hy).1, (hq.2 y hy).2.1⟩
  simp only [bH, ji, e1, e2, e3, e4, List.zipWith_cons_cons, List.zipWith_nil_left, Zms h1, Zms h2]
  have e5 : (if c = 0 then (0 : Int) else if True then mn else min 0 mn) = mn := by
   split
   ·have := h4 ‹_›; omega
   ·exact if_pos trivial
  rw [e5, show max (0 : Int) mx = mx by omega]
def dJ (l : List ab) : ag := l.foldl (fun s e => bH s e.aj) ji
def qb (l : List ab) : ag := match l with
 | [] => ji
 | e :: l => l.foldl (fun s e => bH s e.aj) e.aj
theorem kD {e : ab} (h : e.ok = true) : e.aj.ok = true := by simp only [ab.ok, Y2] at h; exact h.2
theorem Znb : ∀ {l : List ab} {s : ag}, s.ok = true -> (∀ e ∈ l, e.ok = true) -> (l.foldl (fun s e => bH s e.aj) s).ok = true
 | [], _, h, _ => h
 | e :: l, _, h, h2 => Znb (l := l) (Znz h (kD (h2 e Y57))) fun e he => h2 e (Y56 _ he)
theorem Zoz {l : List ab} (h : ∀ e ∈ l, e.ok = true) : qb l = dJ l := by
 cases l with
 | nil => rfl
 | cons e l => rw [qb, dJ, Y28, Zny (kD (h e Y57))]
theorem Zoy {l : List ab} (h : ∀ e ∈ l, e.ok = true) : (dJ l).ok = true := Znb Zo0 h
def atE (k w : Int) (e : ab) : Bool := e.Key == k && e.cJ == w
def dj (h : ao) (k w : Int) : List ab := if c4 h then (bl h).filter (atE k w) else []
def iq (i : Nat) (x : ap) : ab := ⟨x.Key, x.cJ, [⟨dk i x.Seq, dk i x.Seq⟩], x.aj⟩
def fg (w : aG) (i : Nat) : List ab := match w.bj[i]?, w.bJ.aO[i]? with
 | some a, some s => (a.aX.filter fun x => dg s.aJ x.Seq).map (iq i)
 | _, _ => []
theorem Zor {w : aG} {i : Nat} {a : ak} {s : al} (h1 : w.bj[i]? = some a) (h2 : w.bJ.aO[i]? = some s) : fg w i = (a.aX.filter fun x => dg s.aJ x.Seq).map (iq i) := by simp [fg, h1, h2]
def eY (w : aG) (k wn : Int) : List ab := if dw w then ((List.range 3).flatMap (fg w)).filter (atE k wn) else []
theorem Znj {h : ao} (hh : c4 h = true) : ∀ e ∈ bl h, e.ok = true := by
 rw [<- Z82] at hh
 simp only [gf, Y2] at hh
 exact (Z3h.1 hh.1.1.1.2).ok
theorem Znf {h : ao} {k w : Int} : ∀ e ∈ dj h k w, e.ok = true := fun e he => by
 unfold dj at he
 split at he
 ·exact Znj ‹_› e (Y93.1 he).1
 ·cases he
theorem Zmv {a : ak} (h : a.ok = true) : ∀ x ∈ a.aX, x.ok = true /\ 1 <= x.Seq /\ x.Seq <= 60 := fun x hx => by
 obtain ⟨i, hi⟩ := Y59.1 hx
 simp only [ak.ok, Y2, Zd] at h
 have h2 := h.2 i (Y36.1 hi).1
 rw [Zo9 hi, Y2] at h2
 have h3 := h2.1
 simp only [ap.ok, Y2, inB, decide_eq_true_eq] at h3
 exact ⟨h2.1, h3.1.1.1.1⟩
theorem Zn6 {i : Nat} {x : ap} (hi : i <= 2) (h : x.ok = true) (h2 : 1 <= x.Seq /\ x.Seq <= 60) : (iq i x).ok = true := by
 have e := Z88 hi h2
 simp only [ap.ok, Y2, decide_eq_true_eq] at h
 have h3 : cf [⟨dk i x.Seq, dk i x.Seq⟩] = true := (Ziv _).2 (Zix (by rw [e]; refine ⟨?_, ?_, ?_⟩ <;> simp only <;> omega))
 simp only [ab.ok, iq, Y2, decide_eq_true_eq]
 exact ⟨⟨⟨⟨h.1.1.2, h.1.2⟩, h3⟩, by simp⟩, h.2⟩
theorem Zn9 {w : aG} {k wn : Int} : ∀ e ∈ eY w k wn, e.ok = true := fun e he => by
 unfold eY at he
 split at he
 ·rename_i hw
  obtain ⟨h3, hhs, hag⟩ := Zp6 hw
  obtain ⟨i, hi, h2⟩ := Y58.1 (Y93.1 he).1
  rw [Y64] at hi
  unfold fg at h2
  split at h2
  ·rename_i a s ha hs
   obtain ⟨x, hx, rfl⟩ := Y60.1 h2
   have := Zmv (hag i a ha).1 x (Y93.1 hx).1
   exact Zn6 (by omega) this.1 this.2
  ·cases h2
 ·cases he
end Go.Wr
namespace Go.Wr
def ak.zero : ak := ⟨0, 0, false, 0, [], [], 0⟩
def al.zero : al := ⟨0, 0, [], 0, 0⟩
def aN.zero : aN := ⟨0, 0, 0, [], 0, 0, 0, 0⟩
def ao.zero : ao := ⟨aN.zero, 0, false, [], [], [], 0, [], []⟩
theorem Zlk {α : Type} : ∀ (l : List α), wL aI l = 2 * l.length
 | [] => rfl
 | x :: l => by have := Zlk l; simp only [wL, Y50, Y69, Y42, aI] at *; omega
theorem Zlg {α : Type} (w : α -> Nat) (x : α) (l : List α) : wL w (x :: l) = 1 + w x + wL w l := rfl
end Go.Wr
namespace Go.Wr
theorem Zli {α : Type} {w : α -> Nat} {f : α -> Nat} (h : ∀ x, w x + 1 <= 8 * (f x + 1)) : ∀ l : List α, wL w l <= 8 * aF f l
 | [] => by simp [wL]
 | x :: l => by
  have h1 := Zli h l
  have h2 := h x
  rw [Zlg]
  unfold aF at h1 ⊢
  simp only [Y50, Y69, Y42]
  omega
theorem Zll : ∀ l : List aa, wL aa.w1 l = 3 * l.length
 | [] => rfl
 | x :: l => by rw [Zlg, Zll l, Y42]; unfold aa.w1; omega
theorem Zlh : ∀ l : List (List Int), wL (wL aI) l <= 2 * aF List.length l
 | [] => by simp [wL]
 | x :: l => by
  have h1 := Zlh l
  have h2 := Zlk x
  rw [Zlg, h2]
  unfold aF at h1 ⊢
  simp only [Y50, Y69, Y42]
  omega
theorem Zp5 (x : ag) : ag.wS x <= 2 * x.ae := by
 have h3 := Zlh x.Rows
 unfold ag.wS ag.ae
 simp only [Zlk]; omega
theorem Zlm (x : ab) : ab.w1 x + 2 <= 8 * (x.ae + 1) := by
 have h3 := Zlh x.aj.Rows
 unfold ab.w1 ab.ae ag.ae
 first | (simp only [ag.w1, Zlk, Zll]; omega) | (simp only [Zlk, Zll]; omega)
theorem Zlo (x : ay) : ay.w1 x + 1 <= 8 * (x.ae + 1) := by
 have h := Zlm x.aL
 unfold ay.w1 ay.ae; omega
theorem Zlp (x : ai) : ai.w1 x + 1 <= 8 * (x.ae + 1) := by
 have h := Zli (w := ab.w1) (f := ab.ae) (fun x => by have := Zlm x; omega) x.Lst
 unfold ai.w1 ai.ae; omega
theorem Zlq (x : al) : al.w1 x + 1 <= 8 * (x.ae + 1) := by
 unfold al.w1 al.ae; rw [Zll]; omega
theorem Zlr (x : au) : au.w1 x + 1 <= 8 * (x.ae + 1) := by
 unfold au.w1 au.ae; rw [Zlk]; omega
theorem Zln (h : ao) : ao.wS h <= 8 * h.ae := by
 have h1 := Zli Zlq h.aO
 have h2 := Zli (w := wL ai.w1) (f := aF ai.ae) (fun x => by have := Zli Zlp x; omega) h.Rows
 have h3 := Zli Zlr h.bX
 have h4 := Zli (w := ab.w1) (f := ab.ae) (fun x => by have := Zlm x; omega) h.aH
 have h5 := Zli Zlo h.aY
 have h6 := Zlk h.bP.bY
 unfold ao.wS aN.wS ao.ae aN.ae; omega
theorem Z84 {h : ao} (hl : h.ae <= 4000000) : (1 : Int) + (ao.wS h : Int) <= bL := by
 have := Zln h
 unfold bL; omega
theorem Zp1 {α : Type} {w : α -> Nat} {f : α -> Nat} (h : ∀ x, w x + 1 <= 16 * (f x + 1)) : ∀ l : List α, wL w l <= 16 * aF f l
 | [] => by simp [wL]
 | x :: l => by
  have h1 := Zp1 h l
  have h2 := h x
  rw [Zlg]
  unfold aF at h1 ⊢
  simp only [Y50, Y69, Y42]
  omega
theorem Zp3 (x : ap) : ap.w1 x + 1 <= 16 * (x.ae + 1) := by
 have h3 := Zlh x.aj.Rows
 unfold ap.w1 ap.ae ag.ae
 simp only [ag.w1, Zlk]; omega
theorem Zp2 (x : ak) : ak.w1 x + 1 <= 16 * (x.ae + 1) := by
 have h := Zp1 Zp3 x.aX
 unfold ak.w1 ak.ae; rw [Zll]; omega
theorem Zp4 (x : aB) : aB.w1 x + 1 <= 16 * (x.ae + 1) := by
 unfold aB.w1 aB.ae; rw [Zlk]; omega
theorem Zp8 {w : aG} (hl : w.ae <= 4000000) : (1 : Int) + (aG.wS w : Int) <= bL := by
 have h1 := Zp1 Zp2 w.bj
 have h2 := Zln w.bJ
 have h3 := Zp1 Zp4 w.Net
 unfold aG.ae at hl
 unfold aG.wS bL; omega
end Go.Wr
namespace Go.Wr
theorem Zn4 {x : aa} (h : cj x) : (cF [x] (-1) 10100 : Int) = x.Hi - x.Lo + 1 := by
 have h1 := Z30 (x.Lo + 100) (x.Hi + 100) 10100
 have e : cF [x] (-1) 10100 = (List.range 10100).countP (fun (k : Nat) => decide (x.Lo + 100 <= (k : Int) + 1) && decide ((k : Int) + 1 <= x.Hi + 100)) := by
  unfold cF
  congr 1
  funext k
  simp only [dg, List.any_cons, List.any_nil, Bool.or_false, inB]
  congr 1 <;> (rw [decide_eq_decide]; omega)
 unfold cj at h
 rw [e, h1]
 omega
theorem Zn5 : ∀ {s : List aa}, bQ s -> (cF s (-1) 10100 : Int) = bS s
 | [], _ => by rw [Z2x]; rfl
 | x :: s, h => by
  have hd : jk [x] s := fun n ⟨h1, h2⟩ => by
   rw [Z8j] at h1
   have := h.gt h2
   omega
  rw [show x :: s = [x] ++ s from rfl, Z2t hd, Int.natCast_add, Zn4 h.one, Zn5 h.tail]
  rfl
def eP (l : List ab) : Int := (l.map fun e => cK e.Ids).sum
theorem Zoe {s : List aa} (h : bQ s) : cK s = bS s := if_pos ((Ziv _).2 h)
theorem Zn3 : ∀ {l : List ab}, ee l -> (cF (l.flatMap ab.Ids) (-1) 10100 : Int) = eP l
 | [], _ => by simp [Z2x, eP]
 | e :: l, h => by
  obtain ⟨h1, h2⟩ := Y67.1 h.dis
  have hl : ee l := ⟨fun x hx => h.ok x (Y56 _ hx), h2⟩
  have he := ek (h.ok e Y57)
  rw [Y92, Z2t (Z39 h1), Int.natCast_add, Zn5 he, Zn3 hl, eP, eP, Y50, Y69, Zoe he]
theorem Zog {l : List ab} (h : ee l) : cK (cz l) = eP l := by
 have h1 := Z89 h.ok
 rw [Zoe h1.1, <- Zn5 h1.1, Z2u h1.2, Zn3 h]
theorem Zoh {l : List ab} (h : ee l) : 0 <= eP l /\ eP l <= 10100 := by
 rw [<- Zn3 h]
 have : cF (l.flatMap ab.Ids) (-1) 10100 <= 10100 := by
  unfold cF
  exact Y77 List.countP_le_length (by rw [List.length_range]; exact Nat.le_refl _)
 omega
theorem ee.sub {a b : List ab} (h : ee b) (hs : a.Sublist b) : ee a := ⟨fun e he => h.ok e (hs.subset he), h.dis.sublist hs⟩
theorem Zni {h : ao} (hh : c4 h = true) : ee (bl h) := by
 rw [<- Z82] at hh
 simp only [gf, Y2] at hh
 exact Z3h.1 hh.1.1.1.2
theorem Zne (h : ao) (k w : Int) : ee (dj h k w) := by
 unfold dj
 split
 ·rename_i hh; exact (Zni hh).sub List.filter_sublist
 ·exact ⟨fun e he => (by cases he), List.Pairwise.nil⟩
end Go.Wr

