/-
  What is proved: lemmas on the way to the laws of this seat. No condition.
-/
import Derived.Test.YtbghjecopkbhlaaGreatPa
import Derived.Test.YtbghjecopkbhlaaGreatTa
set_option linter.unusedVariables false
set_option linter.unusedSimpArgs false
namespace Go.Wr
def ap.ok (x : ap) : Bool := inB x.Seq 1 60 && inB x.mq 0 1 && inB x.Key 0 4 && inB x.cJ 0 20 && x.aj.ok
def hP (l : List ap) (i : Nat) : Bool := match l[i]? with
 | some x => x.ok && x.Seq == (i : Int) + 1
 | none => false
def eX (a : ak) : Bool := inB a.Id 0 2 && inB a.gp 0 1000 && inB a.cP 0 60 && decide (a.aX.length <= 60) && inB a.Next 0 60
def ak.ok (a : ak) : Bool := eX a && ez a.aJ 1 a.aX.length && (a.Live || !decide (a.cP > 0)) && bV a.aX.length (hP a.aX)
theorem Z83 {h : ao} (hh : houseS h = true) : h.aO.length = 3 /\ h.Rows.length = 3 /\ (∀ rs ∈ h.Rows, rs.length = 2) /\ ∀ s ∈ h.aO, s.ok h.bP.Per = true := by
 have hp : cC dh h = true := by simp only [houseS, Y2] at hh; exact hh.1.1.1.1.2
 simp only [cC, gy, Y2, decide_eq_true_eq, Zd] at hp
 obtain ⟨⟨⟨⟨⟨⟨h3, h3r⟩, _⟩, _⟩, _⟩, hs⟩, _⟩ := hp
 refine ⟨h3, h3r, fun rs hr => ?_, fun s hs2 => ?_⟩
 ·obtain ⟨i, hi⟩ := Y59.1 hr
  have hil := (Y36.1 hi).1
  exact (Zi7 (Y34 (show i < h.aO.length by omega)) hi (hs i (by omega))).2.1
 ·obtain ⟨i, hi⟩ := Y59.1 hs2
  have hil := (Y36.1 hi).1
  exact (Zi7 hi (Y34 (show i < h.Rows.length by omega)) (hs i (by omega))).1
def MT (s : List aa) : Int := match s.getLast? with
 | some x => x.Hi
 | none => 0
def M1 (c : aN) (n : Int) : Int := if c.ok && inB n 0 20 then c.py * (n + 1) + c.mw else -1
end Go.Wr
namespace Go.Wr
structure SkR (x : ag) : Prop where
 cnt : 0 <= x.Count /\ x.Count <= 1000000000
 sum : 0 <= x.Sum /\ x.Sum <= 1000000000
 mn : 0 <= x.Min /\ x.Min <= x.Max /\ x.Max <= 1000000
 zero : x.Count = 0 -> x.Sum = 0 /\ x.Max = 0
 jj : x.aW.length = 8 /\ ∀ y ∈ x.aW, 0 <= y /\ y <= 1000000000 /\ (x.Count = 0 -> y = 0)
 kC : x.aT.length = 8 /\ ∀ y ∈ x.aT, 0 <= y /\ y <= 17 /\ (x.Count = 0 -> y = 0)
 rows : x.Rows.length = 2 /\ ∀ r ∈ x.Rows, r.length = 4 /\ ∀ y ∈ r, 0 <= y /\ y <= 1000000000 /\ (x.Count = 0 -> y = 0)
end Go.Wr
namespace Go.Wr
def ak.zero : ak := ⟨0, 0, false, 0, [], [], 0⟩
def al.zero : al := ⟨0, 0, [], 0, 0⟩
def aN.zero : aN := ⟨0, 0, 0, [], 0, 0, 0, 0⟩
def ao.zero : ao := ⟨aN.zero, 0, false, [], [], [], 0, [], []⟩
theorem Zlk {α : Type} : ∀ (l : List α), wL aI l = 2 * l.length
 | [] => rfl
 | x :: l => by have := Zlk l; simp only [wL, Y50, Y69, Y42, aI] at *; omega
theorem Zlg {α : Type} (w : α -> Nat) (x : α) (l : List α) : wL w (x :: l) = 1 + w x + wL w l := rfl
end Go.Wr
namespace Go.Wr
theorem Zli {α : Type} {w : α -> Nat} {f : α -> Nat} (h : ∀ x, w x + 1 <= 8 * (f x + 1)) : ∀ l : List α, wL w l <= 8 * aF f l
 | [] => by simp [wL]
 | x :: l => by
  have h1 := Zli h l
  have h2 := h x
  rw [Zlg]
  unfold aF at h1 ⊢
  simp only [Y50, Y69, Y42]
  omega
theorem Zll : ∀ l : List aa, wL aa.w1 l = 3 * l.length
 | [] => rfl
 | x :: l => by rw [Zlg, Zll l, Y42]; unfold aa.w1; omega
theorem Zlh : ∀ l : List (List Int), wL (wL aI) l <= 2 * aF List.length l
 | [] => by simp [wL]
 | x :: l => by
  have h1 := Zlh l
  have h2 := Zlk x
  rw [Zlg, h2]
  unfold aF at h1 ⊢
  simp only [Y50, Y69, Y42]
  omega
theorem Zlm (x : ab) : ab.w1 x + 2 <= 8 * (x.ae + 1) := by
 have h3 := Zlh x.aj.Rows
 unfold ab.w1 ab.ae ag.ae
 first | (simp only [ag.w1, Zlk, Zll]; omega) | (simp only [Zlk, Zll]; omega)
theorem Zlo (x : ay) : ay.w1 x + 1 <= 8 * (x.ae + 1) := by
 have h := Zlm x.aL
 unfold ay.w1 ay.ae; omega
theorem Zlp (x : ai) : ai.w1 x + 1 <= 8 * (x.ae + 1) := by
 have h := Zli (w := ab.w1) (f := ab.ae) (fun x => by have := Zlm x; omega) x.Lst
 unfold ai.w1 ai.ae; omega
theorem Zlq (x : al) : al.w1 x + 1 <= 8 * (x.ae + 1) := by
 unfold al.w1 al.ae; rw [Zll]; omega
theorem Zlr (x : au) : au.w1 x + 1 <= 8 * (x.ae + 1) := by
 unfold au.w1 au.ae; rw [Zlk]; omega
theorem Zln (h : ao) : ao.wS h <= 8 * h.ae := by
 have h1 := Zli Zlq h.aO
 have h2 := Zli (w := wL ai.w1) (f := aF ai.ae) (fun x => by have := Zli Zlp x; omega) h.Rows
 have h3 := Zli Zlr h.bX
 have h4 := Zli (w := ab.w1) (f := ab.ae) (fun x => by have := Zlm x; omega) h.aH
 have h5 := Zli Zlo h.aY
 have h6 := Zlk h.bP.bY
 unfold ao.wS aN.wS ao.ae aN.ae; omega
theorem Z84 {h : ao} (hl : h.ae <= 4000000) : (1 : Int) + (ao.wS h : Int) <= bL := by
 have := Zln h
 unfold bL; omega
def MY (s : al) : al := { s with cP := MT s.aJ }
def bh (h : ao) : ao := if houseS h && !h.pz then { h with pz := true, aO := h.aO.map MY } else h
theorem Z1u {α β : Type} {f : α -> Nat} {g : β -> α} {k : β -> Nat} (h : ∀ x, f (g x) = k x) (l : List β) : aF f (l.map g) = aF k l := by
 unfold aF
 rw [Y45, Y51]
 congr 2
 exact List.map_congr_left fun x _ => h x
theorem Z2n (h : ao) : (bh h).ae = h.ae := by
 unfold bh
 split
 ·simp only [ao.ae, Z1u (f := al.ae) (g := MY) (k := al.ae) fun _ => rfl]
 ·rfl
def az (t : ab -> Bool) (p : List ab × List ay) (e : ab) : List ab × List ay := if t e then (p.1, p.2 ++ [⟨ik p.2 e.Key e.cJ, e⟩]) else (p.1 ++ [e], p.2)
def MU (t : ab -> Bool) (root : List ab) (outs : List ay) : List ab × List ay := root.foldl (az t) ([], outs)
def ah (t : ab -> Bool) (h : ao) : ao := { h with aH := (MU t h.aH h.aY).1, aY := (MU t h.aH h.aY).2 }
theorem Zm4 {α : Type} (f : α -> Nat) (l : List α) (x : α) : aF f (l ++ [x]) = aF f l + f x + 1 := by
 unfold aF
 simp only [Y41, Y42, Y46, Y49, Y50, List.map_nil, List.sum_append, Y69, List.sum_nil]
 omega
theorem Zmd (t : ab -> Bool) : ∀ (root : List ab) (p : List ab × List ay), aF ab.ae (root.foldl (az t) p).1 + aF ay.ae (root.foldl (az t) p).2 = aF ab.ae root + aF ab.ae p.1 + aF ay.ae p.2
 | [], p => by simp [aF]
 | e :: root, p => by
  rw [Y28, Zmd t root]
  have e1 : aF ab.ae (e :: root) = aF ab.ae root + e.ae + 1 := by unfold aF; simp only [Y50, Y69, Y42]; omega
  unfold az
  split
  ·simp only [Zm4, e1, ay.ae]; omega
  ·simp only [Zm4, e1]; omega
theorem Zmc (t : ab -> Bool) (h : ao) : (ah t h).ae = h.ae := by
 have h1 := Zmd t h.aH ([], h.aY)
 have h2 : aF ab.ae [] = 0 := rfl
 unfold ah MU ao.ae
 simp only at *
 omega
theorem Zma {t : ab -> Bool} {l : List ab} {o : List ay} {i : Nat} {e : ab} (h : l[i]? = some e) : MU t (l.take (i + 1)) o = az t (MU t (l.take i) o) e := by
 unfold MU; rw [Z5y h]
end Go.Wr

