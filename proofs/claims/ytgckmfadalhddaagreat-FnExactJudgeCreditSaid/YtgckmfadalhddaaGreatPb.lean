/-
  What is proved: lemmas on the way to the laws of this seat. No condition.
-/
import Derived.Test.YtgckmfadalhddaaGreatPa
set_option linter.unusedVariables false
set_option linter.unusedSimpArgs false
namespace Go.Wr
set_option linter.unusedVariables false
set_option linter.unusedSimpArgs false
def GItem.ok (x : GItem) : Bool := inB x.Seq 1 60 && inB x.Class 0 1 && inB x.Key 0 4 && inB x.Window 0 20 && x.Sketch.ok
def sealAt (l : List GItem) (i : Nat) : Bool := match l[i]? with
 | some x => x.ok && x.Seq == (i : Int) + 1
 | none => false
def agentTop (a : GAgent) : Bool := inB a.Id 0 2 && inB a.Epoch 0 1000 && inB a.Granted 0 60 && decide (a.Sealed.length <= 60) && inB a.Next 0 60
def GAgent.ok (a : GAgent) : Bool := agentTop a && allIn a.Taken 1 a.Sealed.length && (a.Live || !decide (a.Granted > 0)) && allIx a.Sealed.length (sealAt a.Sealed)
def agentAt (l : List GAgent) (i : Nat) : Bool := match l[i]? with
 | some a => a.ok && a.Id == (i : Int)
 | none => false
def worldB (w : GWorld) : Bool := decide (w.Agents.length = 3) && houseS w.House && decide (w.Net.length <= 10) && allIx 3 (agentAt w.Agents) && w.Net.all fun p => inB p.To (-1) 2
theorem sealAt_at {l : List GItem} {i : Nat} {x : GItem} (h : l[i]? = some x) : sealAt l i = (x.ok && x.Seq == (i : Int) + 1) := by simp [sealAt, h]
theorem agentAt_at {l : List GAgent} {i : Nat} {x : GAgent} (h : l[i]? = some x) : agentAt l i = (x.ok && x.Id == (i : Int)) := by simp [agentAt, h]
def sumZ {α : Type} (f : α -> Int) (l : List α) : Int := (l.map f).sum
theorem sumZ_succ {α : Type} {f : α -> Int} {l : List α} {i : Nat} {x : α} (h : l[i]? = some x) : sumZ f (l.take (i + 1)) = sumZ f (l.take i) + f x := by
 unfold sumZ; rw [List.take_add_one, h]; simp
theorem sumZ_bnd {α : Type} {f : α -> Int} {m : Int} (hm : 0 <= m) : ∀ {l : List α}, (∀ x ∈ l, 0 <= f x /\ f x <= m) -> 0 <= sumZ f l /\ sumZ f l <= m * l.length
 | [], _ => by simp [sumZ]
 | x :: l, h => by
  have h1 := sumZ_bnd hm (l := l) fun y hy => h y (List.mem_cons_of_mem _ hy)
  have h2 := h x List.mem_cons_self
  unfold sumZ at h1 ⊢
  simp only [List.map_cons, List.sum_cons, List.length_cons]
  have : m * ((l.length + 1 : Nat) : Int) = m * l.length + m := by rw [Int.natCast_add, Int.mul_add]; simp
  omega
theorem setSize_bnd {s : List GSpan} (hl : s.length <= 4194304) : 0 <= setSize s /\ setSize s <= 41943040000 := by
 unfold setSize
 split
 ·rename_i h
  have := sumSpan_bnd fun x hx => setOk_bnd h hx
  omega
 ·omega
def takenW (w : GWorld) : Int := if worldB w then sumZ (fun s : GSeat => setSize s.Taken) w.House.Seats else 0
theorem sumSpan_le : ∀ {s : List GSpan} {lo m : Int}, SetR s -> (∀ x ∈ s, lo <= x.Lo /\ x.Hi <= m) -> lo <= m + 1 -> sumSpan s <= m - lo + 1
 | [], lo, m, _, _, h => by simp [sumSpan]; omega
 | x :: s, lo, m, hs, h, _ => by
  have hx := h x List.mem_cons_self
  have hsp := hs.one
  unfold SpanR at hsp
  have h1 := sumSpan_le (s := s) (lo := x.Hi + 1) (m := m) hs.tail (fun y hy => by have := hs.head y hy; have := h y (List.mem_cons_of_mem _ hy); omega) (by omega)
  unfold sumSpan at h1 ⊢
  simp only [List.map_cons, List.sum_cons]
  omega
theorem agent_size {a : GAgent} (h : a.ok = true) : setSize a.Taken <= a.Sealed.length /\ a.Sealed.length <= 60 /\ SetR a.Taken /\ ∀ x ∈ a.Taken, 1 <= x.Lo /\ x.Hi <= a.Sealed.length := by
 simp only [GAgent.ok, agentTop, allIn, Bool.and_eq_true, decide_eq_true_eq, List.all_eq_true] at h
 obtain ⟨⟨⟨⟨⟨_, h60⟩, _⟩, hok, hin⟩, _⟩, _⟩ := h
 have hs := (setOk_iff _).1 hok
 refine ⟨?_, h60, hs, hin⟩
 rw [setSize, if_pos hok]
 have := sumSpan_le (lo := 1) (m := a.Sealed.length) hs hin (by omega)
 omega
theorem world_agents {w : GWorld} (h : worldB w = true) : w.Agents.length = 3 /\ houseS w.House = true /\ ∀ (i : Nat) (a : GAgent), w.Agents[i]? = some a -> a.ok = true /\ a.Id = i := by
 simp only [worldB, Bool.and_eq_true, decide_eq_true_eq, allIx_iff] at h
 obtain ⟨⟨⟨⟨h3, hh⟩, _⟩, ha⟩, _⟩ := h
 refine ⟨h3, hh, fun i a hi => ?_⟩
 have hil : i < w.Agents.length := (List.getElem?_eq_some_iff.1 hi).1
 have := ha i (by omega)
 rw [agentAt_at hi] at this
 simpa using this
theorem house_seats {h : GHouse} (hh : houseS h = true) : h.Seats.length = 3 /\ h.Rows.length = 3 /\ (∀ rs ∈ h.Rows, rs.length = 2) /\ ∀ s ∈ h.Seats, s.ok h.Conf.Per = true := by
 have hp : partsB rowInS h = true := by simp only [houseS, Bool.and_eq_true] at hh; exact hh.1.1.1.1.2
 simp only [partsB, topB, Bool.and_eq_true, decide_eq_true_eq, allIx_iff] at hp
 obtain ⟨⟨⟨⟨⟨⟨h3, h3r⟩, _⟩, _⟩, _⟩, hs⟩, _⟩ := hp
 refine ⟨h3, h3r, fun rs hr => ?_, fun s hs2 => ?_⟩
 ·obtain ⟨i, hi⟩ := List.mem_iff_getElem?.1 hr
  have hil := (List.getElem?_eq_some_iff.1 hi).1
  exact (seatAt_all (List.getElem?_eq_getElem (show i < h.Seats.length by omega)) hi (hs i (by omega))).2.1
 ·obtain ⟨i, hi⟩ := List.mem_iff_getElem?.1 hs2
  have hil := (List.getElem?_eq_some_iff.1 hi).1
  exact (seatAt_all hi (List.getElem?_eq_getElem (show i < h.Rows.length by omega)) (hs i (by omega))).1
def settledW (w : GWorld) : Bool := worldB w && decide ((rowEnts w.House).length = 0) && w.Agents.all fun a => setSize a.Taken == (a.Sealed.length : Int)
def lackA (a : GAgent) : Int := a.Sealed.length - setSize a.Taken
def enoughW (w : GWorld) : Int := if worldB w then 2 * (w.Agents.foldl (fun n a => max n (lackA a)) 0) + 3 else 0
def owedS (s : GSeat) : Int := if inB s.Granted 0 60 && inB s.Merged 0 60 then max (s.Granted - s.Merged) 0 else 0
def rowsN (rs : List GRow) : Int := sumZ (fun r : GRow => (r.Lst.length : Int)) rs
def creditAt (w : GWorld) (i : Nat) : Bool := match w.Agents[i]?, w.House.Seats[i]?, w.House.Rows[i]? with
 | some a, some s, some rs => !decide (owedS s > w.House.Conf.Per) && !decide (rowsN rs > setSize s.Taken - s.Merged) && !decide (a.Epoch > s.Epoch) && !(a.Epoch == s.Epoch && (decide (a.Granted > w.House.Conf.Per + s.Merged) || !w.House.Closed && decide (a.Granted > s.Granted)))
 | _, _, _ => false
def creditW (w : GWorld) : Bool := worldB w && allIx 3 (creditAt w)
end Go.Wr

