/-
  What is proved: lemmas on the way to the laws of this seat. No condition.
-/
import Derived.Test.YtgckmfadalhddaaGreatPa
set_option linter.unusedVariables false
set_option linter.unusedSimpArgs false
namespace Go.Wr
set_option linter.unusedVariables false
set_option linter.unusedSimpArgs false
def GItem.ok (x : GItem) : Bool := inB x.Seq 1 60 && inB x.Class 0 1 && inB x.Key 0 4 && inB x.Window 0 20 && x.Sketch.ok
def sealAt (l : List GItem) (i : Nat) : Bool := match l[i]? with
 | some x => x.ok && x.Seq == (i : Int) + 1
 | none => false
def agentTop (a : GAgent) : Bool := inB a.Id 0 2 && inB a.Epoch 0 1000 && inB a.Granted 0 60 && decide (a.Sealed.length <= 60) && inB a.Next 0 60
def GAgent.ok (a : GAgent) : Bool := agentTop a && allIn a.Taken 1 a.Sealed.length && (a.Live || !decide (a.Granted > 0)) && allIx a.Sealed.length (sealAt a.Sealed)
def agentAt (l : List GAgent) (i : Nat) : Bool := match l[i]? with
 | some a => a.ok && a.Id == (i : Int)
 | none => false
def worldB (w : GWorld) : Bool := decide (w.Agents.length = 3) && houseS w.House && decide (w.Net.length <= 10) && allIx 3 (agentAt w.Agents) && w.Net.all fun p => inB p.To (-1) 2
theorem sealAt_at {l : List GItem} {i : Nat} {x : GItem} (h : l[i]? = some x) : sealAt l i = (x.ok && x.Seq == (i : Int) + 1) := by simp [sealAt, h]
theorem agentAt_at {l : List GAgent} {i : Nat} {x : GAgent} (h : l[i]? = some x) : agentAt l i = (x.ok && x.Id == (i : Int)) := by simp [agentAt, h]
theorem sumSpan_le : ∀ {s : List GSpan} {lo m : Int}, SetR s -> (∀ x ∈ s, lo <= x.Lo /\ x.Hi <= m) -> lo <= m + 1 -> sumSpan s <= m - lo + 1
 | [], lo, m, _, _, h => by simp [sumSpan]; omega
 | x :: s, lo, m, hs, h, _ => by
  have hx := h x List.mem_cons_self
  have hsp := hs.one
  unfold SpanR at hsp
  have h1 := sumSpan_le (s := s) (lo := x.Hi + 1) (m := m) hs.tail (fun y hy => by have := hs.head y hy; have := h y (List.mem_cons_of_mem _ hy); omega) (by omega)
  unfold sumSpan at h1 ⊢
  simp only [List.map_cons, List.sum_cons]
  omega
theorem agent_size {a : GAgent} (h : a.ok = true) : setSize a.Taken <= a.Sealed.length /\ a.Sealed.length <= 60 /\ SetR a.Taken /\ ∀ x ∈ a.Taken, 1 <= x.Lo /\ x.Hi <= a.Sealed.length := by
 simp only [GAgent.ok, agentTop, allIn, Bool.and_eq_true, decide_eq_true_eq, List.all_eq_true] at h
 obtain ⟨⟨⟨⟨⟨_, h60⟩, _⟩, hok, hin⟩, _⟩, _⟩ := h
 have hs := (setOk_iff _).1 hok
 refine ⟨?_, h60, hs, hin⟩
 rw [setSize, if_pos hok]
 have := sumSpan_le (lo := 1) (m := a.Sealed.length) hs hin (by omega)
 omega
theorem world_agents {w : GWorld} (h : worldB w = true) : w.Agents.length = 3 /\ houseS w.House = true /\ ∀ (i : Nat) (a : GAgent), w.Agents[i]? = some a -> a.ok = true /\ a.Id = i := by
 simp only [worldB, Bool.and_eq_true, decide_eq_true_eq, allIx_iff] at h
 obtain ⟨⟨⟨⟨h3, hh⟩, _⟩, ha⟩, _⟩ := h
 refine ⟨h3, hh, fun i a hi => ?_⟩
 have hil : i < w.Agents.length := (List.getElem?_eq_some_iff.1 hi).1
 have := ha i (by omega)
 rw [agentAt_at hi] at this
 simpa using this
theorem house_seats {h : GHouse} (hh : houseS h = true) : h.Seats.length = 3 /\ h.Rows.length = 3 /\ (∀ rs ∈ h.Rows, rs.length = 2) /\ ∀ s ∈ h.Seats, s.ok h.Conf.Per = true := by
 have hp : partsB rowInS h = true := by simp only [houseS, Bool.and_eq_true] at hh; exact hh.1.1.1.1.2
 simp only [partsB, topB, Bool.and_eq_true, decide_eq_true_eq, allIx_iff] at hp
 obtain ⟨⟨⟨⟨⟨⟨h3, h3r⟩, _⟩, _⟩, _⟩, hs⟩, _⟩ := hp
 refine ⟨h3, h3r, fun rs hr => ?_, fun s hs2 => ?_⟩
 ·obtain ⟨i, hi⟩ := List.mem_iff_getElem?.1 hr
  have hil := (List.getElem?_eq_some_iff.1 hi).1
  exact (seatAt_all (List.getElem?_eq_getElem (show i < h.Seats.length by omega)) hi (hs i (by omega))).2.1
 ·obtain ⟨i, hi⟩ := List.mem_iff_getElem?.1 hs2
  have hil := (List.getElem?_eq_some_iff.1 hi).1
  exact (seatAt_all hi (List.getElem?_eq_getElem (show i < h.Rows.length by omega)) (hs i (by omega))).1
def membersL (s : List GSpan) : List Int := s.flatMap fun x => (List.range (x.Hi - x.Lo + 1).toNat).map fun k => x.Lo + (k : Nat)
theorem mem_members {s : List GSpan} {n : Int} : n ∈ membersL s <-> In n s := by
 unfold membersL
 rw [List.mem_flatMap]
 constructor
 ·rintro ⟨x, hx, h⟩
  obtain ⟨k, hk, rfl⟩ := List.mem_map.1 h
  rw [List.mem_range] at hk
  exact ⟨x, hx, by omega, by omega⟩
 ·rintro ⟨x, hx, h1, h2⟩
  exact ⟨x, hx, List.mem_map.2 ⟨(n - x.Lo).toNat, by rw [List.mem_range]; omega, by omega⟩⟩
def greatestS (s : List GSpan) : Int := match s.getLast? with
 | some x => x.Hi
 | none => 0
theorem greatest_ge : ∀ {s : List GSpan}, SetR s -> ∀ n, In n s -> n <= greatestS s := fun {s} hs n hn => by
 rcases List.eq_nil_or_concat s with rfl | ⟨o, p, rfl⟩
 ·exact absurd hn in_nil
 ·rw [List.concat_eq_append] at hs hn ⊢
  have e : greatestS (o ++ [p]) = p.Hi := by simp [greatestS]
  rw [e]
  rw [in_append, in_one] at hn
  rcases hn with ⟨x, hx, h⟩ | h
  ·have := (List.pairwise_append.1 hs.ord).2.2 x hx p (by simp)
   have := (hs.span (x := p) (by simp))
   unfold SpanR at this; omega
  ·exact h.2
theorem greatest_in {s : List GSpan} (hs : SetR s) (h : s ≠ []) : In (greatestS s) s := by
 rcases List.eq_nil_or_concat s with rfl | ⟨o, p, rfl⟩
 ·exact absurd rfl h
 ·rw [List.concat_eq_append] at hs ⊢
  have e : greatestS (o ++ [p]) = p.Hi := by simp [greatestS]
  rw [e]
  have := (hs.span (x := p) (by simp))
  unfold SpanR at this
  exact ⟨p, by simp, by omega, Int.le_refl _⟩
def knownSeq (a : GAgent) (s : GSeat) (k : Nat) : Bool := !(setHas a.Taken ((k : Int) + 1) && !setHas s.Taken ((k : Int) + 1) || setHas s.Taken ((k : Int) + 1) && decide ((k : Int) + 1 > a.Sealed.length))
def knownAt (w : GWorld) (i : Nat) : Bool := match w.Agents[i]?, w.House.Seats[i]? with
 | some a, some s => allIx 60 (knownSeq a s)
 | _, _ => false
def knownI (a : GAgent) (s : GSeat) : Bool := !((membersL a.Taken).any fun n => !setHas s.Taken n) && !decide (greatestS s.Taken > a.Sealed.length)
theorem known_same {a : GAgent} {s : GSeat} {per : Int} (ha : a.ok = true) (hs : s.ok per = true) : knownI a s = allIx 60 (knownSeq a s) := by
 obtain ⟨_, h60, har, hai⟩ := agent_size ha
 simp only [GSeat.ok, allIn, Bool.and_eq_true, List.all_eq_true, inB, decide_eq_true_eq] at hs
 obtain ⟨⟨⟨⟨⟨⟨_, _⟩, hg⟩, hok, hin⟩, _⟩, _⟩, _⟩ := hs
 have hsr := (setOk_iff _).1 hok
 have hr1 : ∀ n, In n a.Taken -> 1 <= n /\ n <= 60 := by
  rintro n ⟨x, hx, h1, h2⟩
  have := hai x hx; omega
 have hr2 : ∀ n, In n s.Taken -> 1 <= n /\ n <= 60 := by
  rintro n ⟨x, hx, h1, h2⟩
  have := hin x hx; omega
 rw [Bool.eq_iff_iff, allIx_iff]
 simp only [knownI, knownSeq, Bool.and_eq_true, Bool.not_eq_true', Bool.or_eq_false_iff, Bool.and_eq_false_iff, List.any_eq_false, decide_eq_false_iff_not, Bool.not_eq_false', Bool.not_eq_true, mem_members]
 constructor
 ·rintro ⟨h1, h2⟩ k hk
  constructor
  ·by_cases h3 : In ((k : Int) + 1) a.Taken
   ·exact .inr (by simpa using h1 _ h3)
   ·exact .inl (by rw [<- Bool.not_eq_true, setHas_iff]; exact h3)
  ·by_cases h3 : In ((k : Int) + 1) s.Taken
   ·have := greatest_ge hsr _ h3
    exact .inr (by omega)
   ·exact .inl (by rw [<- Bool.not_eq_true, setHas_iff]; exact h3)
 ·intro h
  constructor
  ·intro n hn
   have h4 := hr1 n hn
   have h5 := (h (n - 1).toNat (by omega)).1
   rw [show (((n - 1).toNat : Nat) : Int) + 1 = n by omega] at h5
   rcases h5 with h5 | h5
   ·rw [<- Bool.not_eq_true, setHas_iff] at h5; exact absurd hn h5
   ·simpa using h5
  ·rcases List.eq_nil_or_concat s.Taken with h6 | _
   ·rw [h6]; simp [greatestS]
   ·by_cases h7 : s.Taken = []
    ·rw [h7]; simp [greatestS]
    ·have h8 := greatest_in hsr h7
     have h9 := hr2 _ h8
     have h5 := (h (greatestS s.Taken - 1).toNat (by omega)).2
     rw [show (((greatestS s.Taken - 1).toNat : Nat) : Int) + 1 = greatestS s.Taken by omega] at h5
     rcases h5 with h5 | h5
     ·rw [<- Bool.not_eq_true, setHas_iff] at h5; exact absurd h8 h5
     ·exact h5
def knownJ (w : GWorld) : Bool := worldB w && allIx 3 (knownAt w)
def dueOf (c : GConf) (n : Int) : Int := if c.ok && inB n 0 20 then c.Long * (n + 1) + c.Grace else -1
def sealedIn (w : GWorld) (id key window : Int) : Bool := inB (id.tdiv 100) 0 2 && match w.Agents[(id.tdiv 100).toNat]? with
 | some a => inB (id.tmod 100) 1 a.Sealed.length && (match a.Sealed[(id.tmod 100 - 1).toNat]? with
  | some x => x.Key == key && x.Window == window
  | none => false)
 | none => false
def toldO (w : GWorld) (o : GOut) : Bool := (membersL o.Entry.Ids).all (fun n => sealedIn w n o.Entry.Key o.Entry.Window) && !(o.Gen == 0 && !w.House.Closed && decide (dueOf w.House.Conf o.Entry.Window > w.House.Clock))
def toldJ (w : GWorld) : Bool := worldB w && w.House.Outs.all (toldO w)
end Go.Wr
namespace Go.Wr
set_option linter.unusedVariables false
set_option linter.unusedSimpArgs false
structure SkR (x : GSketch) : Prop where
 cnt : 0 <= x.Count /\ x.Count <= 1000000000
 sum : 0 <= x.Sum /\ x.Sum <= 1000000000
 mn : 0 <= x.Min /\ x.Min <= x.Max /\ x.Max <= 1000000
 zero : x.Count = 0 -> x.Sum = 0 /\ x.Max = 0
 hist : x.Hist.length = 8 /\ ∀ y ∈ x.Hist, 0 <= y /\ y <= 1000000000 /\ (x.Count = 0 -> y = 0)
 regs : x.Regs.length = 8 /\ ∀ y ∈ x.Regs, 0 <= y /\ y <= 17 /\ (x.Count = 0 -> y = 0)
 rows : x.Rows.length = 2 /\ ∀ r ∈ x.Rows, r.length = 4 /\ ∀ y ∈ r, 0 <= y /\ y <= 1000000000 /\ (x.Count = 0 -> y = 0)
theorem house_ents {h : GHouse} (hh : houseS h = true) : ∀ e ∈ allE h, e.ok = true := by
 rw [<- house_same] at hh
 simp only [houseI, Bool.and_eq_true] at hh
 exact (entsApart_iff.1 hh.1.1.1.2).ok
end Go.Wr

