/-
  What is proved: lemmas on the way to the laws of this seat. No condition.
-/
import Derived.Test.YtgckmfadalhddaaGreatPa
set_option linter.unusedVariables false
set_option linter.unusedSimpArgs false
namespace Go.Wr
set_option linter.unusedVariables false
set_option linter.unusedSimpArgs false
def GItem.ok (x : GItem) : Bool := inB x.Seq 1 60 && inB x.Class 0 1 && inB x.Key 0 4 && inB x.Window 0 20 && x.Sketch.ok
def sealAt (l : List GItem) (i : Nat) : Bool := match l[i]? with
 | some x => x.ok && x.Seq == (i : Int) + 1
 | none => false
def agentTop (a : GAgent) : Bool := inB a.Id 0 2 && inB a.Epoch 0 1000 && inB a.Granted 0 60 && decide (a.Sealed.length <= 60) && inB a.Next 0 60
def GAgent.ok (a : GAgent) : Bool := agentTop a && allIn a.Taken 1 a.Sealed.length && (a.Live || !decide (a.Granted > 0)) && allIx a.Sealed.length (sealAt a.Sealed)
def agentAt (l : List GAgent) (i : Nat) : Bool := match l[i]? with
 | some a => a.ok && a.Id == (i : Int)
 | none => false
def worldB (w : GWorld) : Bool := decide (w.Agents.length = 3) && houseS w.House && decide (w.Net.length <= 10) && allIx 3 (agentAt w.Agents) && w.Net.all fun p => inB p.To (-1) 2
theorem sealAt_at {l : List GItem} {i : Nat} {x : GItem} (h : l[i]? = some x) : sealAt l i = (x.ok && x.Seq == (i : Int) + 1) := by simp [sealAt, h]
theorem agentAt_at {l : List GAgent} {i : Nat} {x : GAgent} (h : l[i]? = some x) : agentAt l i = (x.ok && x.Id == (i : Int)) := by simp [agentAt, h]
def sumZ {α : Type} (f : α -> Int) (l : List α) : Int := (l.map f).sum
theorem sumZ_succ {α : Type} {f : α -> Int} {l : List α} {i : Nat} {x : α} (h : l[i]? = some x) : sumZ f (l.take (i + 1)) = sumZ f (l.take i) + f x := by
 unfold sumZ; rw [List.take_add_one, h]; simp
theorem sumZ_bnd {α : Type} {f : α -> Int} {m : Int} (hm : 0 <= m) : ∀ {l : List α}, (∀ x ∈ l, 0 <= f x /\ f x <= m) -> 0 <= sumZ f l /\ sumZ f l <= m * l.length
 | [], _ => by simp [sumZ]
 | x :: l, h => by
  have h1 := sumZ_bnd hm (l := l) fun y hy => h y (List.mem_cons_of_mem _ hy)
  have h2 := h x List.mem_cons_self
  unfold sumZ at h1 ⊢
  simp only [List.map_cons, List.sum_cons, List.length_cons]
  have : m * ((l.length + 1 : Nat) : Int) = m * l.length + m := by rw [Int.natCast_add, Int.mul_add]; simp
  omega
def sealedW (w : GWorld) : Int := if worldB w then sumZ (fun a : GAgent => (a.Sealed.length : Int)) w.Agents else 0
end Go.Wr

