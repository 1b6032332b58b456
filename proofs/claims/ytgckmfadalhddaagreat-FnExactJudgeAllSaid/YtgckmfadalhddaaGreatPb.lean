/-
  What is proved: lemmas on the way to the laws of this seat. No condition.
-/
import Derived.Test.YtgckmfadalhddaaGreatPa
set_option linter.unusedVariables false
set_option linter.unusedSimpArgs false
namespace Go.Wr
def GItem.ok (x : GItem) : Bool := inB x.Seq 1 60 && inB x.Class 0 1 && inB x.Key 0 4 && inB x.Window 0 20 && x.Sketch.ok
def sealAt (l : List GItem) (i : Nat) : Bool := match l[i]? with
 | some x => x.ok && x.Seq == (i : Int) + 1
 | none => false
def agentTop (a : GAgent) : Bool := inB a.Id 0 2 && inB a.Epoch 0 1000 && inB a.Granted 0 60 && decide (a.Sealed.length <= 60) && inB a.Next 0 60
def GAgent.ok (a : GAgent) : Bool := agentTop a && allIn a.Taken 1 a.Sealed.length && (a.Live || !decide (a.Granted > 0)) && allIx a.Sealed.length (sealAt a.Sealed)
def agentAt (l : List GAgent) (i : Nat) : Bool := match l[i]? with
 | some a => a.ok && a.Id == (i : Int)
 | none => false
def worldB (w : GWorld) : Bool := decide (w.Agents.length = 3) && houseS w.House && decide (w.Net.length <= 10) && allIx 3 (agentAt w.Agents) && w.Net.all fun p => inB p.To (-1) 2
theorem sealAt_at {l : List GItem} {i : Nat} {x : GItem} (h : l[i]? = some x) : sealAt l i = (x.ok && x.Seq == (i : Int) + 1) := by simp [sealAt, h]
theorem agentAt_at {l : List GAgent} {i : Nat} {x : GAgent} (h : l[i]? = some x) : agentAt l i = (x.ok && x.Id == (i : Int)) := by simp [agentAt, h]
def sumZ {α : Type} (f : α -> Int) (l : List α) : Int := (l.map f).sum
theorem sumZ_succ {α : Type} {f : α -> Int} {l : List α} {i : Nat} {x : α} (h : l[i]? = some x) : sumZ f (l.take (i + 1)) = sumZ f (l.take i) + f x := by
 unfold sumZ; rw [List.take_add_one, h]; simp
theorem sumZ_bnd {α : Type} {f : α -> Int} {m : Int} (hm : 0 <= m) : ∀ {l : List α}, (∀ x ∈ l, 0 <= f x /\ f x <= m) -> 0 <= sumZ f l /\ sumZ f l <= m * l.length
 | [], _ => by simp [sumZ]
 | x :: l, h => by
  have h1 := sumZ_bnd hm (l := l) fun y hy => h y (List.mem_cons_of_mem _ hy)
  have h2 := h x List.mem_cons_self
  unfold sumZ at h1 ⊢
  simp only [List.map_cons, List.sum_cons, List.length_cons]
  have : m * ((l.length + 1 : Nat) : Int) = m * l.length + m := by rw [Int.natCast_add, Int.mul_add]; simp
  omega
theorem setSize_bnd {s : List GSpan} (hl : s.length <= 4194304) : 0 <= setSize s /\ setSize s <= 41943040000 := by
 unfold setSize
 split
 ·rename_i h
  have := sumSpan_bnd fun x hx => setOk_bnd h hx
  omega
 ·omega
theorem sumSpan_le : ∀ {s : List GSpan} {lo m : Int}, SetR s -> (∀ x ∈ s, lo <= x.Lo /\ x.Hi <= m) -> lo <= m + 1 -> sumSpan s <= m - lo + 1
 | [], lo, m, _, _, h => by simp [sumSpan]; omega
 | x :: s, lo, m, hs, h, _ => by
  have hx := h x List.mem_cons_self
  have hsp := hs.one
  unfold SpanR at hsp
  have h1 := sumSpan_le (s := s) (lo := x.Hi + 1) (m := m) hs.tail (fun y hy => by have := hs.head y hy; have := h y (List.mem_cons_of_mem _ hy); omega) (by omega)
  unfold sumSpan at h1 ⊢
  simp only [List.map_cons, List.sum_cons]
  omega
theorem agent_size {a : GAgent} (h : a.ok = true) : setSize a.Taken <= a.Sealed.length /\ a.Sealed.length <= 60 /\ SetR a.Taken /\ ∀ x ∈ a.Taken, 1 <= x.Lo /\ x.Hi <= a.Sealed.length := by
 simp only [GAgent.ok, agentTop, allIn, Bool.and_eq_true, decide_eq_true_eq, List.all_eq_true] at h
 obtain ⟨⟨⟨⟨⟨_, h60⟩, _⟩, hok, hin⟩, _⟩, _⟩ := h
 have hs := (setOk_iff _).1 hok
 refine ⟨?_, h60, hs, hin⟩
 rw [setSize, if_pos hok]
 have := sumSpan_le (lo := 1) (m := a.Sealed.length) hs hin (by omega)
 omega
theorem world_agents {w : GWorld} (h : worldB w = true) : w.Agents.length = 3 /\ houseS w.House = true /\ ∀ (i : Nat) (a : GAgent), w.Agents[i]? = some a -> a.ok = true /\ a.Id = i := by
 simp only [worldB, Bool.and_eq_true, decide_eq_true_eq, allIx_iff] at h
 obtain ⟨⟨⟨⟨h3, hh⟩, _⟩, ha⟩, _⟩ := h
 refine ⟨h3, hh, fun i a hi => ?_⟩
 have hil : i < w.Agents.length := (List.getElem?_eq_some_iff.1 hi).1
 have := ha i (by omega)
 rw [agentAt_at hi] at this
 simpa using this
theorem house_seats {h : GHouse} (hh : houseS h = true) : h.Seats.length = 3 /\ h.Rows.length = 3 /\ (∀ rs ∈ h.Rows, rs.length = 2) /\ ∀ s ∈ h.Seats, s.ok h.Conf.Per = true := by
 have hp : partsB rowInS h = true := by simp only [houseS, Bool.and_eq_true] at hh; exact hh.1.1.1.1.2
 simp only [partsB, topB, Bool.and_eq_true, decide_eq_true_eq, allIx_iff] at hp
 obtain ⟨⟨⟨⟨⟨⟨h3, h3r⟩, _⟩, _⟩, _⟩, hs⟩, _⟩ := hp
 refine ⟨h3, h3r, fun rs hr => ?_, fun s hs2 => ?_⟩
 ·obtain ⟨i, hi⟩ := List.mem_iff_getElem?.1 hr
  have hil := (List.getElem?_eq_some_iff.1 hi).1
  exact (seatAt_all (List.getElem?_eq_getElem (show i < h.Seats.length by omega)) hi (hs i (by omega))).2.1
 ·obtain ⟨i, hi⟩ := List.mem_iff_getElem?.1 hs2
  have hil := (List.getElem?_eq_some_iff.1 hi).1
  exact (seatAt_all hi (List.getElem?_eq_getElem (show i < h.Rows.length by omega)) (hs i (by omega))).1
def owedS (s : GSeat) : Int := if inB s.Granted 0 60 && inB s.Merged 0 60 then max (s.Granted - s.Merged) 0 else 0
def rowsN (rs : List GRow) : Int := sumZ (fun r : GRow => (r.Lst.length : Int)) rs
def creditAt (w : GWorld) (i : Nat) : Bool := match w.Agents[i]?, w.House.Seats[i]?, w.House.Rows[i]? with
 | some a, some s, some rs => !decide (owedS s > w.House.Conf.Per) && !decide (rowsN rs > setSize s.Taken - s.Merged) && !decide (a.Epoch > s.Epoch) && !(a.Epoch == s.Epoch && (decide (a.Granted > w.House.Conf.Per + s.Merged) || !w.House.Closed && decide (a.Granted > s.Granted)))
 | _, _, _ => false
def creditW (w : GWorld) : Bool := worldB w && allIx 3 (creditAt w)
def membersL (s : List GSpan) : List Int := s.flatMap fun x => (List.range (x.Hi - x.Lo + 1).toNat).map fun k => x.Lo + (k : Nat)
theorem mem_members {s : List GSpan} {n : Int} : n ∈ membersL s <-> In n s := by
 unfold membersL
 rw [List.mem_flatMap]
 constructor
 ·rintro ⟨x, hx, h⟩
  obtain ⟨k, hk, rfl⟩ := List.mem_map.1 h
  rw [List.mem_range] at hk
  exact ⟨x, hx, by omega, by omega⟩
 ·rintro ⟨x, hx, h1, h2⟩
  exact ⟨x, hx, List.mem_map.2 ⟨(n - x.Lo).toNat, by rw [List.mem_range]; omega, by omega⟩⟩
def greatestS (s : List GSpan) : Int := match s.getLast? with
 | some x => x.Hi
 | none => 0
theorem greatest_ge : ∀ {s : List GSpan}, SetR s -> ∀ n, In n s -> n <= greatestS s := fun {s} hs n hn => by
 rcases List.eq_nil_or_concat s with rfl | ⟨o, p, rfl⟩
 ·exact absurd hn in_nil
 ·rw [List.concat_eq_append] at hs hn ⊢
  have e : greatestS (o ++ [p]) = p.Hi := by simp [greatestS]
  rw [e]
  rw [in_append, in_one] at hn
  rcases hn with ⟨x, hx, h⟩ | h
  ·have := (List.pairwise_append.1 hs.ord).2.2 x hx p (by simp)
   have := (hs.span (x := p) (by simp))
   unfold SpanR at this; omega
  ·exact h.2
theorem greatest_in {s : List GSpan} (hs : SetR s) (h : s ≠ []) : In (greatestS s) s := by
 rcases List.eq_nil_or_concat s with rfl | ⟨o, p, rfl⟩
 ·exact absurd rfl h
 ·rw [List.concat_eq_append] at hs ⊢
  have e : greatestS (o ++ [p]) = p.Hi := by simp [greatestS]
  rw [e]
  have := (hs.span (x := p) (by simp))
  unfold SpanR at this
  exact ⟨p, by simp, by omega, Int.le_refl _⟩
def knownSeq (a : GAgent) (s : GSeat) (k : Nat) : Bool := !(setHas a.Taken ((k : Int) + 1) && !setHas s.Taken ((k : Int) + 1) || setHas s.Taken ((k : Int) + 1) && decide ((k : Int) + 1 > a.Sealed.length))
def knownAt (w : GWorld) (i : Nat) : Bool := match w.Agents[i]?, w.House.Seats[i]? with
 | some a, some s => allIx 60 (knownSeq a s)
 | _, _ => false
def knownI (a : GAgent) (s : GSeat) : Bool := !((membersL a.Taken).any fun n => !setHas s.Taken n) && !decide (greatestS s.Taken > a.Sealed.length)
theorem known_same {a : GAgent} {s : GSeat} {per : Int} (ha : a.ok = true) (hs : s.ok per = true) : knownI a s = allIx 60 (knownSeq a s) := by
 obtain ⟨_, h60, har, hai⟩ := agent_size ha
 simp only [GSeat.ok, allIn, Bool.and_eq_true, List.all_eq_true, inB, decide_eq_true_eq] at hs
 obtain ⟨⟨⟨⟨⟨⟨_, _⟩, hg⟩, hok, hin⟩, _⟩, _⟩, _⟩ := hs
 have hsr := (setOk_iff _).1 hok
 have hr1 : ∀ n, In n a.Taken -> 1 <= n /\ n <= 60 := by
  rintro n ⟨x, hx, h1, h2⟩
  have := hai x hx; omega
 have hr2 : ∀ n, In n s.Taken -> 1 <= n /\ n <= 60 := by
  rintro n ⟨x, hx, h1, h2⟩
  have := hin x hx; omega
 rw [Bool.eq_iff_iff, allIx_iff]
 simp only [knownI, knownSeq, Bool.and_eq_true, Bool.not_eq_true', Bool.or_eq_false_iff, Bool.and_eq_false_iff, List.any_eq_false, decide_eq_false_iff_not, Bool.not_eq_false', Bool.not_eq_true, mem_members]
 constructor
 ·rintro ⟨h1, h2⟩ k hk
  constructor
  ·by_cases h3 : In ((k : Int) + 1) a.Taken
   ·exact .inr (by simpa using h1 _ h3)
   ·exact .inl (by rw [<- Bool.not_eq_true, setHas_iff]; exact h3)
  ·by_cases h3 : In ((k : Int) + 1) s.Taken
   ·have := greatest_ge hsr _ h3
    exact .inr (by omega)
   ·exact .inl (by rw [<- Bool.not_eq_true, setHas_iff]; exact h3)
 ·intro h
  constructor
  ·intro n hn
   have h4 := hr1 n hn
   have h5 := (h (n - 1).toNat (by omega)).1
   rw [show (((n - 1).toNat : Nat) : Int) + 1 = n by omega] at h5
   rcases h5 with h5 | h5
   ·rw [<- Bool.not_eq_true, setHas_iff] at h5; exact absurd hn h5
   ·simpa using h5
  ·rcases List.eq_nil_or_concat s.Taken with h6 | _
   ·rw [h6]; simp [greatestS]
   ·by_cases h7 : s.Taken = []
    ·rw [h7]; simp [greatestS]
    ·have h8 := greatest_in hsr h7
     have h9 := hr2 _ h8
     have h5 := (h (greatestS s.Taken - 1).toNat (by omega)).2
     rw [show (((greatestS s.Taken - 1).toNat : Nat) : Int) + 1 = greatestS s.Taken by omega] at h5
     rcases h5 with h5 | h5
     ·rw [<- Bool.not_eq_true, setHas_iff] at h5; exact absurd h8 h5
     ·exact h5
def knownJ (w : GWorld) : Bool := worldB w && allIx 3 (knownAt w)
def dueOf (c : GConf) (n : Int) : Int := if c.ok && inB n 0 20 then c.Long * (n + 1) + c.Grace else -1
def sealedIn (w : GWorld) (id key window : Int) : Bool := inB (id.tdiv 100) 0 2 && match w.Agents[(id.tdiv 100).toNat]? with
 | some a => inB (id.tmod 100) 1 a.Sealed.length && (match a.Sealed[(id.tmod 100 - 1).toNat]? with
  | some x => x.Key == key && x.Window == window
  | none => false)
 | none => false
def toldO (w : GWorld) (o : GOut) : Bool := (membersL o.Entry.Ids).all (fun n => sealedIn w n o.Entry.Key o.Entry.Window) && !(o.Gen == 0 && !w.House.Closed && decide (dueOf w.House.Conf o.Entry.Window > w.House.Clock))
def toldJ (w : GWorld) : Bool := worldB w && w.House.Outs.all (toldO w)
end Go.Wr
namespace Go.Wr
def addZ (a b : Int) : Int := min (max 0 (min a 1000000000) + max 0 (min b 1000000000)) 1000000000
def mergeS (a b : GSketch) : GSketch := ⟨addZ a.Count b.Count, addZ a.Sum b.Sum, if b.Count = 0 then a.Min else if a.Count = 0 then b.Min else min a.Min b.Min, max a.Max b.Max, List.zipWith addZ a.Hist b.Hist, List.zipWith max a.Regs b.Regs, List.zipWith (List.zipWith addZ) a.Rows b.Rows⟩
def newS : GSketch := ⟨0, 0, 0, 0, List.replicate 8 0, List.replicate 8 0, [List.replicate 4 0, List.replicate 4 0]⟩
theorem addZ_bnd (a b : Int) : 0 <= addZ a b /\ addZ a b <= 1000000000 := by unfold addZ; omega
theorem addZ_zero {b : Int} (h : 0 <= b /\ b <= 1000000000) : addZ 0 b = b := by unfold addZ; omega
theorem addZ_eq0 {a b : Int} (ha : 0 <= a /\ a <= 1000000000) (hb : 0 <= b /\ b <= 1000000000) : addZ a b = 0 <-> a = 0 /\ b = 0 := by unfold addZ; omega
theorem newS_ok : newS.ok = true := by decide
theorem lstOk_iff {l : List Int} {n : Nat} {m : Int} {z : Bool} : lstOk l n m z = true <-> l.length = n /\ ∀ x ∈ l, 0 <= x /\ x <= m /\ (z = true -> x = 0) := by
 simp only [lstOk, Bool.and_eq_true, decide_eq_true_eq, List.all_eq_true, inB, Bool.not_eq_true', Bool.and_eq_false_iff, bne_eq_false_iff_eq]
 constructor
 ·rintro ⟨h, h2⟩
  refine ⟨h, fun x hx => ⟨(h2 x hx).1.1, (h2 x hx).1.2, fun hz => ?_⟩⟩
  rcases (h2 x hx).2 with h3 | h3
  ·rw [hz] at h3; cases h3
  ·exact h3
 ·rintro ⟨h, h2⟩
  refine ⟨h, fun x hx => ⟨⟨(h2 x hx).1, (h2 x hx).2.1⟩, ?_⟩⟩
  cases z with
  | false => exact .inl rfl
  | true => exact .inr ((h2 x hx).2.2 rfl)
structure SkR (x : GSketch) : Prop where
 cnt : 0 <= x.Count /\ x.Count <= 1000000000
 sum : 0 <= x.Sum /\ x.Sum <= 1000000000
 mn : 0 <= x.Min /\ x.Min <= x.Max /\ x.Max <= 1000000
 zero : x.Count = 0 -> x.Sum = 0 /\ x.Max = 0
 hist : x.Hist.length = 8 /\ ∀ y ∈ x.Hist, 0 <= y /\ y <= 1000000000 /\ (x.Count = 0 -> y = 0)
 regs : x.Regs.length = 8 /\ ∀ y ∈ x.Regs, 0 <= y /\ y <= 17 /\ (x.Count = 0 -> y = 0)
 rows : x.Rows.length = 2 /\ ∀ r ∈ x.Rows, r.length = 4 /\ ∀ y ∈ r, 0 <= y /\ y <= 1000000000 /\ (x.Count = 0 -> y = 0)
theorem sk_iff (x : GSketch) : x.ok = true <-> SkR x := by
 simp only [GSketch.ok, Bool.and_eq_true, lstOk_iff, decide_eq_true_eq, inB, List.all_eq_true, Bool.not_eq_true', Bool.and_eq_false_iff, Bool.or_eq_false_iff, beq_eq_false_iff_ne, bne_eq_false_iff_eq, beq_iff_eq]
 constructor
 ·rintro ⟨⟨⟨⟨⟨⟨⟨⟨⟨h1, h2⟩, h3⟩, h4⟩, h5⟩, h6⟩, h7⟩, h8⟩, h9⟩, h10⟩
  exact ⟨h1, h2, ⟨h3.1, h5, h4.2⟩, fun h => h7.resolve_left (fun h2 => h2 h), h8, h9, h6, h10⟩
 ·rintro ⟨h1, h2, h3, h4, h5, h6, h7, h8⟩
  refine ⟨⟨⟨⟨⟨⟨⟨⟨⟨h1, h2⟩, by omega, by omega⟩, by omega, by omega⟩, h3.2.1⟩, h7⟩, ?_⟩, h5⟩, h6⟩, h8⟩
  by_cases h : x.Count = 0
  ·exact .inr (h4 h)
  ·exact .inl h
theorem zip_mem {α β γ : Type} {f : α -> β -> γ} : ∀ {a : List α} {b : List β} {z : γ}, z ∈ List.zipWith f a b -> ∃ x ∈ a, ∃ y ∈ b, z = f x y
 | [], _, z, h => by simp at h
 | _ :: _, [], z, h => by simp at h
 | x :: a, y :: b, z, h => by
  rw [List.zipWith_cons_cons, List.mem_cons] at h
  rcases h with rfl | h
  ·exact ⟨x, List.mem_cons_self, y, List.mem_cons_self, rfl⟩
  ·obtain ⟨x', hx, y', hy, rfl⟩ := zip_mem h
   exact ⟨x', List.mem_cons_of_mem _ hx, y', List.mem_cons_of_mem _ hy, rfl⟩
theorem merge_ok {a b : GSketch} (ha : a.ok = true) (hb : b.ok = true) : (mergeS a b).ok = true := by
 rw [sk_iff] at *
 have h0 := addZ_eq0 ha.cnt hb.cnt
 refine ⟨addZ_bnd _ _, addZ_bnd _ _, ?_, ?_, ⟨?_, ?_⟩, ⟨?_, ?_⟩, ⟨?_, ?_⟩⟩
 ·have := ha.mn; have := hb.mn; simp only [mergeS]; split <;> (try split) <;> omega
 ·intro h
  obtain ⟨h1, h2⟩ := h0.1 h
  have := ha.zero h1; have := hb.zero h2
  refine ⟨(addZ_eq0 ha.sum hb.sum).2 ⟨by omega, by omega⟩, ?_⟩
  simp only [mergeS]; omega
 ·simp [mergeS, ha.hist.1, hb.hist.1]
 ·intro z hz
  obtain ⟨x, hx, y, hy, rfl⟩ := zip_mem hz
  refine ⟨(addZ_bnd _ _).1, (addZ_bnd _ _).2, fun h => ?_⟩
  have := ha.hist.2 x hx; have := hb.hist.2 y hy
  exact (addZ_eq0 ⟨by omega, by omega⟩ ⟨by omega, by omega⟩).2 ⟨(ha.hist.2 x hx).2.2 (h0.1 h).1, (hb.hist.2 y hy).2.2 (h0.1 h).2⟩
 ·simp [mergeS, ha.regs.1, hb.regs.1]
 ·intro z hz
  obtain ⟨x, hx, y, hy, rfl⟩ := zip_mem hz
  have h1 := ha.regs.2 x hx; have h2 := hb.regs.2 y hy
  refine ⟨by omega, by omega, fun h => ?_⟩
  have := h1.2.2 (h0.1 h).1; have := h2.2.2 (h0.1 h).2; omega
 ·simp [mergeS, ha.rows.1, hb.rows.1]
 ·intro r hr
  obtain ⟨p, hp, q, hq, rfl⟩ := zip_mem hr
  refine ⟨by simp [(ha.rows.2 p hp).1, (hb.rows.2 q hq).1], fun z hz => ?_⟩
  obtain ⟨x, hx, y, hy, rfl⟩ := zip_mem hz
  have h1 := (ha.rows.2 p hp).2 x hx; have h2 := (hb.rows.2 q hq).2 y hy
  exact ⟨(addZ_bnd _ _).1, (addZ_bnd _ _).2, fun h => (addZ_eq0 ⟨h1.1, h1.2.1⟩ ⟨h2.1, h2.2.1⟩).2 ⟨h1.2.2 (h0.1 h).1, h2.2.2 (h0.1 h).2⟩⟩
theorem zip_zero {f : Int -> Int -> Int} : ∀ {b : List Int}, (∀ y ∈ b, f 0 y = y) -> List.zipWith f (List.replicate b.length 0) b = b
 | [], _ => rfl
 | y :: b, h => by rw [List.length_cons, List.replicate_succ, List.zipWith_cons_cons, h y List.mem_cons_self, zip_zero fun z hz => h z (List.mem_cons_of_mem _ hz)]
theorem merge_new {b : GSketch} (hb : b.ok = true) : mergeS newS b = b := by
 rw [sk_iff] at hb
 obtain ⟨c, s, mn, mx, hi, re, ro⟩ := b
 obtain ⟨h1, h2, h3, h4, ⟨h5, h5'⟩, ⟨h6, h6'⟩, h7, h7'⟩ := hb
 simp only at *
 have e1 : List.zipWith addZ (List.replicate 8 0) hi = hi := h5 ▸ zip_zero fun y hy => addZ_zero ⟨(h5' y hy).1, (h5' y hy).2.1⟩
 have e2 : List.zipWith max (List.replicate 8 0) re = re := h6 ▸ zip_zero fun y hy => by have := h6' y hy; omega
 match ro, h7 with
 | [p, q], _ =>
  have hp := h7' p (by simp)
  have hq := h7' q (by simp)
  have e3 : List.zipWith addZ (List.replicate 4 0) p = p := hp.1 ▸ zip_zero fun y hy => addZ_zero ⟨(hp.2 y hy).1, (hp.2 y hy).2.1⟩
  have e4 : List.zipWith addZ (List.replicate 4 0) q = q := hq.1 ▸ zip_zero fun y hy => addZ_zero ⟨(hq.2 y hy).1, (hq.2 y hy).2.1⟩
  simp only [mergeS, newS, e1, e2, e3, e4, List.zipWith_cons_cons, List.zipWith_nil_left, addZ_zero h1, addZ_zero h2]
  have e5 : (if c = 0 then (0 : Int) else if True then mn else min 0 mn) = mn := by
   split
   ·have := h4 ‹_›; omega
   ·exact if_pos trivial
  rw [e5, show max (0 : Int) mx = mx by omega]
def totS (l : List GEntry) : GSketch := l.foldl (fun s e => mergeS s e.Sketch) newS
def totI (l : List GEntry) : GSketch := match l with
 | [] => newS
 | e :: l => l.foldl (fun s e => mergeS s e.Sketch) e.Sketch
theorem ok_sk {e : GEntry} (h : e.ok = true) : e.Sketch.ok = true := by simp only [GEntry.ok, Bool.and_eq_true] at h; exact h.2
theorem fold_ok : ∀ {l : List GEntry} {s : GSketch}, s.ok = true -> (∀ e ∈ l, e.ok = true) -> (l.foldl (fun s e => mergeS s e.Sketch) s).ok = true
 | [], _, h, _ => h
 | e :: l, _, h, h2 => fold_ok (l := l) (merge_ok h (ok_sk (h2 e List.mem_cons_self))) fun e he => h2 e (List.mem_cons_of_mem _ he)
theorem tot_same {l : List GEntry} (h : ∀ e ∈ l, e.ok = true) : totI l = totS l := by
 cases l with
 | nil => rfl
 | cons e l => rw [totI, totS, List.foldl_cons, merge_new (ok_sk (h e List.mem_cons_self))]
theorem tot_ok {l : List GEntry} (h : ∀ e ∈ l, e.ok = true) : (totS l).ok = true := fold_ok newS_ok h
def atE (k w : Int) (e : GEntry) : Bool := e.Key == k && e.Window == w
def heldL (h : GHouse) (k w : Int) : List GEntry := if houseS h then (allE h).filter (atE k w) else []
def entOf (i : Nat) (x : GItem) : GEntry := ⟨x.Key, x.Window, [⟨idOf i x.Seq, idOf i x.Seq⟩], x.Sketch⟩
def takenAt (w : GWorld) (i : Nat) : List GEntry := match w.Agents[i]?, w.House.Seats[i]? with
 | some a, some s => (a.Sealed.filter fun x => setHas s.Taken x.Seq).map (entOf i)
 | _, _ => []
theorem takenAt_at {w : GWorld} {i : Nat} {a : GAgent} {s : GSeat} (h1 : w.Agents[i]? = some a) (h2 : w.House.Seats[i]? = some s) : takenAt w i = (a.Sealed.filter fun x => setHas s.Taken x.Seq).map (entOf i) := by simp [takenAt, h1, h2]
def foldL (w : GWorld) (k wn : Int) : List GEntry := if worldB w then ((List.range 3).flatMap (takenAt w)).filter (atE k wn) else []
theorem house_ents {h : GHouse} (hh : houseS h = true) : ∀ e ∈ allE h, e.ok = true := by
 rw [<- house_same] at hh
 simp only [houseI, Bool.and_eq_true] at hh
 exact (entsApart_iff.1 hh.1.1.1.2).ok
theorem held_ents {h : GHouse} {k w : Int} : ∀ e ∈ heldL h k w, e.ok = true := fun e he => by
 unfold heldL at he
 split at he
 ·exact house_ents ‹_› e (List.mem_filter.1 he).1
 ·cases he
theorem agent_items {a : GAgent} (h : a.ok = true) : ∀ x ∈ a.Sealed, x.ok = true /\ 1 <= x.Seq /\ x.Seq <= 60 := fun x hx => by
 obtain ⟨i, hi⟩ := List.mem_iff_getElem?.1 hx
 simp only [GAgent.ok, Bool.and_eq_true, allIx_iff] at h
 have h2 := h.2 i (List.getElem?_eq_some_iff.1 hi).1
 rw [sealAt_at hi, Bool.and_eq_true] at h2
 have h3 := h2.1
 simp only [GItem.ok, Bool.and_eq_true, inB, decide_eq_true_eq] at h3
 exact ⟨h2.1, h3.1.1.1.1⟩
theorem entOf_ok {i : Nat} {x : GItem} (hi : i <= 2) (h : x.ok = true) (h2 : 1 <= x.Seq /\ x.Seq <= 60) : (entOf i x).ok = true := by
 have e := idOf_in hi h2
 simp only [GItem.ok, Bool.and_eq_true, decide_eq_true_eq] at h
 have h3 : setOk [⟨idOf i x.Seq, idOf i x.Seq⟩] = true := (setOk_iff _).2 (setR_one (by rw [e]; refine ⟨?_, ?_, ?_⟩ <;> simp only <;> omega))
 simp only [GEntry.ok, entOf, Bool.and_eq_true, decide_eq_true_eq]
 exact ⟨⟨⟨⟨h.1.1.2, h.1.2⟩, h3⟩, by simp⟩, h.2⟩
theorem fold_ents {w : GWorld} {k wn : Int} : ∀ e ∈ foldL w k wn, e.ok = true := fun e he => by
 unfold foldL at he
 split at he
 ·rename_i hw
  obtain ⟨h3, hhs, hag⟩ := world_agents hw
  obtain ⟨i, hi, h2⟩ := List.mem_flatMap.1 (List.mem_filter.1 he).1
  rw [List.mem_range] at hi
  unfold takenAt at h2
  split at h2
  ·rename_i a s ha hs
   obtain ⟨x, hx, rfl⟩ := List.mem_map.1 h2
   have := agent_items (hag i a ha).1 x (List.mem_filter.1 hx).1
   exact entOf_ok (by omega) this.1 this.2
  ·cases h2
 ·cases he
def foldAt (w : GWorld) (k wn : Nat) : Bool := decide (totS (foldL w k wn) = totS (heldL w.House k wn)) && decide (idsOf (foldL w k wn) = idsOf (heldL w.House k wn))
def foldJ (w : GWorld) : Bool := worldB w && allIx 5 fun k => allIx 21 (foldAt w k)
end Go.Wr

