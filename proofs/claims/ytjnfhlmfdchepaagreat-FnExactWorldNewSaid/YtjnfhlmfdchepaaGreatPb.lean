/-
  What is proved: lemmas on the way to the laws of this seat. No condition.
-/
import Derived.Test.YtjnfhlmfdchepaaGreatPa
import Derived.Test.YtjnfhlmfdchepaaGreatTa
set_option linter.unusedVariables false
set_option linter.unusedSimpArgs false
namespace Go.Wr
def GItem.ok (x : GItem) : Bool := inB x.Seq 1 60 && inB x.Class 0 1 && inB x.Key 0 4 && inB x.Window 0 20 && x.Sketch.ok
def sealAt (l : List GItem) (i : Nat) : Bool := match l[i]? with
 | some x => x.ok && x.Seq == (i : Int) + 1
 | none => false
def agentTop (a : GAgent) : Bool := inB a.Id 0 2 && inB a.Epoch 0 1000 && inB a.Granted 0 60 && decide (a.Sealed.length <= 60) && inB a.Next 0 60
def GAgent.ok (a : GAgent) : Bool := agentTop a && allIn a.Taken 1 a.Sealed.length && (a.Live || !decide (a.Granted > 0)) && allIx a.Sealed.length (sealAt a.Sealed)
theorem sealAt_at {l : List GItem} {i : Nat} {x : GItem} (h : l[i]? = some x) : sealAt l i = (x.ok && x.Seq == (i : Int) + 1) := by simp [sealAt, h]
end Go.Wr
namespace Go.Wr
def GAgent.zero : GAgent := ⟨0, 0, false, 0, [], [], 0⟩
def agentNew (i : Int) : GAgent × Bool := if ({ GAgent.zero with Id := i } : GAgent).ok then ({ GAgent.zero with Id := i }, true) else (GAgent.zero, false)
def GSeat.zero : GSeat := ⟨0, 0, [], 0, 0⟩
def seatGrant (s : GSeat) (per : Int) : GSeat := if s.ok per then { s with Granted := min 60 (IntKind.i64.wrap (s.Merged + per)) } else s
def turnNew : GTurn := ⟨0, true, [0, 0, 0]⟩
def GConf.zero : GConf := ⟨0, 0, 0, [], 0, 0, 0, 0⟩
def GHouse.zero : GHouse := ⟨GConf.zero, 0, false, [], [], [], 0, [], []⟩
def houseNew (c : GConf) : GHouse × Bool :=
 if c.ok then (⟨c, 0, false, [seatGrant GSeat.zero c.Per, seatGrant GSeat.zero c.Per, seatGrant GSeat.zero c.Per], [[⟨[]⟩, ⟨[]⟩], [⟨[]⟩, ⟨[]⟩], [⟨[]⟩, ⟨[]⟩]], [turnNew, turnNew], 0, [], []⟩, true) else (GHouse.zero, false)
def worldNew (c : GConf) : GWorld × Bool :=
 if c.ok then (⟨[(agentNew 0).1, (agentNew 1).1, (agentNew 2).1], (houseNew c).1, []⟩, true) else (⟨[], GHouse.zero, []⟩, false)
theorem wL_one {α : Type} : ∀ (l : List α), wL one1 l = 2 * l.length
 | [] => rfl
 | x :: l => by have := wL_one l; simp only [wL, List.map_cons, List.sum_cons, List.length_cons, one1] at *; omega
theorem wL_nil {α : Type} (w : α -> Nat) : wL w [] = 0 := rfl
theorem wL_cons {α : Type} (w : α -> Nat) (x : α) (l : List α) : wL w (x :: l) = 1 + w x + wL w l := rfl
theorem agentNew_l (i : Int) : (agentNew i).1.Sealed = [] /\ (agentNew i).1.Taken = [] := by unfold agentNew; split <;> exact ⟨rfl, rfl⟩
theorem seatNew_l (p : Int) : (seatGrant GSeat.zero p).Taken = [] := by unfold seatGrant; split <;> rfl
theorem ok_weights {c : GConf} (h : c.ok = true) : c.Weights.length = 3 := by
 simp only [GConf.ok, numsOk, Bool.and_eq_true, decide_eq_true_eq] at h
 exact h.1.1.1.1.2.1
theorem worldNew_bulk (c : GConf) : (worldNew c).1.bulk <= 1048576 := by
 cases h : c.ok with
 | false => rw [worldNew, h, if_neg Bool.false_ne_true]; decide
 | true =>
  have h3 := ok_weights h
  have a0 := agentNew_l 0
  have a1 := agentNew_l 1
  have a2 := agentNew_l 2
  have s0 := seatNew_l c.Per
  rw [worldNew, h, houseNew, h]
  simp only [if_true, GWorld.bulk, GHouse.bulk, GConf.bulk, bulks, List.map_cons, List.map_nil, List.sum_cons, List.sum_nil, List.length_cons, List.length_nil, GAgent.bulk, a0.1, a0.2, a1.1, a1.2, a2.1, a2.2, GSeat.bulk, s0, GRow.bulk, GTurn.bulk, turnNew, h3]
  omega
theorem worldNew_w (c : GConf) : (1 : Int) + (GWorld.wS (worldNew c).1 : Int) <= top62 := by
 cases h : c.ok with
 | false => rw [worldNew, h, if_neg Bool.false_ne_true]; decide
 | true =>
  have h3 := ok_weights h
  have a0 := agentNew_l 0
  have a1 := agentNew_l 1
  have a2 := agentNew_l 2
  have s0 := seatNew_l c.Per
  rw [worldNew, h, houseNew, h]
  simp only [if_true, GWorld.wS, GHouse.wS, GConf.wS, wL_one, GAgent.w1, GSeat.w1, GRow.w1, GTurn.w1, wL_nil, wL_cons, a0.1, a0.2, a1.1, a1.2, a2.1, a2.2, s0, turnNew, h3, top62, show one1 (0 : Int) = 1 from rfl]
  omega
end Go.Wr

