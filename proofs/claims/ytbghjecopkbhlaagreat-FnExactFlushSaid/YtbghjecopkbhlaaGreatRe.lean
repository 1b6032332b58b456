/-
  What is proved: lemmas on the way to the laws of this seat. No condition.
-/
import Derived.Test.YtbghjecopkbhlaaGreatRc
import Derived.Sort.Defs
import Derived.Lib.BitFns
import Derived.Lib.Small
import Derived.Shelf.SlSortCmp.NoneTotal
set_option linter.unusedVariables false
set_option linter.unusedSimpArgs false
namespace Go.Wr
def y3 : T -> Option (Int × Int)
 | .a [.i .i64 a, .i .i64 b] => some (a, b)
 | _ => none
def ie : List T -> Option (List (Int × Int))
 | [] => some []
 | t :: ts => match y3 t, ie ts with
  | some x, some xs => some (x :: xs)
  | _, _ => none
def fm (x : Int × Int) : T := .a [.i .i64 x.1, .i .i64 x.2]
theorem Zjo : ∀ {es : List T} {l : List (Int × Int)}, ie es = some l -> es = l.map fm
 | [], l, h => by
  simp only [ie, Y89] at h
  subst h; rfl
 | t :: ts, l, h => by
  simp only [ie] at h
  split at h
  ·rename_i x xs h1 h2
   simp only [Y89] at h
   subst h
   rw [Zjo h2]
   have : t = fm x := by
    unfold y3 at h1
    split at h1
    ·simp only [Y89] at h1
     subst h1; rfl
    ·cases h1
   rw [this]; rfl
  ·cases h
theorem Zjn (l : List (Int × Int)) : ie (l.map fm) = some l := by
 induction l with
 | nil => rfl
 | cons x l ih => simp only [Y50, ie, ih]; rfl
def pv (x y : Int × Int) : Int := Go.Lib.compareInt x.1 y.1
def lV (x y : Int × Int) : Bool := decide (pv x y < 0)
def dQ (l : List (Int × Int)) : List (Int × Int) := (Go.Sort.pdq lV l.toArray 0 l.length (Go.Lib.bitLen l.length) true true).toList
def ly (gc : Nat) : Fun
 | [.mu (.l .y 2 es), .x (.f g [])] => if g = gc then match ie es with
   | some l => if l.length < 4611686018427387904 then some ⟨[], [[.l .y 2 ((dQ l).map fm)]]⟩ else none
   | none => none
  else none
 | _ => none
theorem Zj8 {gc : Nat} (l : List (Int × Int)) (h : l.length < 4611686018427387904) : ly gc [.mu (.l .y 2 (l.map fm)), .x (.f gc [])] = some ⟨[], [[.l .y 2 ((dQ l).map fm)]]⟩ := by
 simp only [ly, if_true, Zjn, h]
theorem Zj9 {gc : Nat} {ags : List Arg} {out : Out} (h : ly gc ags = some out) : ∃ l, ags = [.mu (.l .y 2 (l.map fm)), .x (.f gc [])] /\ l.length < 4611686018427387904 /\ out = ⟨[], [[.l .y 2 ((dQ l).map fm)]]⟩ := by
 unfold ly at h
 split at h
 ·split at h
  ·rename_i hg
   subst hg
   split at h
   ·rename_i l hl
    split at h
    ·rename_i hlt
     simp only [Y89] at h
     exact ⟨l, by rw [Zjo hl], hlt, h.symm⟩
    ·cases h
   ·cases h
  ·cases h
 ·cases h
end Go.Wr
namespace Go.Wr
open Go.Sort Go.Shelf Go.Proofs
def cN (x : Int × Int) : List Value := [.int .i64 x.1, .int .i64 x.2]
theorem Zam : Go.Proofs.ltOf pv = lV := rfl
theorem Zan (x y : Int × Int) : lV x y = decide (x.1 < y.1) := by
 unfold lV pv Lib.compareInt
 by_cases h1 : x.1 < y.1
 ·simp [h1]
 ·by_cases h2 : y.1 < x.1 <;> simp [h1, h2]
theorem BS : SWO lV where
 irrefl x := by rw [Zan]; simp
 trans x y z h1 h2 := by rw [Zan] at *; simp at *; omega
 ntrans x y z h1 h2 := by rw [Zan] at *; simp at *; omega
theorem Zjf (l : List (Int × Int)) : (dQ l).Perm l /\ (dQ l).Pairwise fun x y => x.1 <= y.1 := by
 obtain ⟨h1, h2⟩ := pdq_sorts lV BS l.toArray 0 l.length (Lib.bitLen l.length) true true (Nat.zero_le _) (by simp) (Or.inl rfl)
 unfold dQ
 generalize pdq lV l.toArray 0 l.length (Lib.bitLen l.length) true true = d at h1 h2
 have hs : d.size = l.length := by simpa using h1.1
 refine ⟨?_, ?_⟩
 ·have := h1.2.2
  rw [<- hs] at this
  have e1 : d.extract 0 d.size = d := by simp
  have e2 : l.toArray.extract 0 d.size = l.toArray := by rw [hs]; simp
  rw [e1, e2] at this
  simpa using this
 ·rw [Y68]
  intro i j hi hj hij
  have hj' : j < l.length := by simpa [hs] using hj
  have := h2 i j (Nat.zero_le _) hij hj'
  rw [Zan] at this
  have hi2 : i < d.size := by omega
  have hj2 : j < d.size := by omega
  rw [getElem!_pos d i hi2, getElem!_pos d j hj2] at this
  simp only [decide_eq_false_iff_not] at this
  simp only [Array.getElem_toList]
  omega
theorem Zje (l : List (Int × Int)) : (dQ l).length = l.length := (Zjf l).1.length_eq
theorem Z5p (l : List (Int × Int)) {i : Nat} {x : Int × Int} (h : l[i]? = some x) : (flatK cN 2 l.toArray)[i * 2]! = .int .i64 x.1 /\ (flatK cN 2 l.toArray)[i * 2 + 1]! = .int .i64 x.2 := by
 obtain ⟨hi, rfl⟩ := Y36.1 h
 rw [get_flatK _ _ _ _ (by simp; omega), get_flatK _ _ _ _ (by simp; omega)]
 have e1 : i * 2 / 2 = i := by omega
 have e2 : (i * 2 + 1) / 2 = i := by omega
 have e3 : i * 2 % 2 = 0 := by omega
 have e4 : (i * 2 + 1) % 2 = 1 := by omega
 rw [e1, e2, e3, e4]
 simp [hi, cN]
section
variable {P : Program} {tab : Nat -> FuncId} {ρ : Ren}
theorem Zfr {w : World} {ow : Nat -> Ow} {mv : Nat -> Value} {c : Loc} (l : List (Int × Int)) : bg tab mv w ow c 2 0 (l.map fm) (flatK cN 2 l.toArray).toList := by
 have key : ∀ (l : List (Int × Int)) (k : Nat), bg tab mv w ow c 2 k (l.map fm) (l.flatMap cN) := by
  intro l
  induction l with
  | nil => intro k; simp [bg]
  | cons x l ih =>
   intro k
   simp only [Y50, List.flatMap_cons, bg]
   exact ⟨cN x, l.flatMap cN, rfl, rfl, by simp [cN, fm, rep, aR], ih (k + 1)⟩
 have e : (flatK cN 2 l.toArray).toList = l.flatMap cN := by
  have hl : ∀ l : List (Int × Int), (l.flatMap cN).length = l.length * 2 := by
   intro l
   induction l with
   | nil => rfl
   | cons x l ih => simp [List.flatMap_cons, ih, cN]; omega
  have hg : ∀ (l : List (Int × Int)) (i : Nat) x, l[i]? = some x -> (l.flatMap cN)[i * 2]? = some (.int .i64 x.1) /\ (l.flatMap cN)[i * 2 + 1]? = some (.int .i64 x.2) := by
   intro l
   induction l with
   | nil => intro i x h; simp at h
   | cons y l ih =>
    intro i x h
    cases i with
    | zero => simp at h; subst h; simp [cN]
    | succ i =>
     have := ih i x (by simpa using h)
     simp only [List.flatMap_cons, cN, Y24, Y66]
     rw [show (i + 1) * 2 = (i * 2) + 1 + 1 by omega]
     simpa using this
  apply Y25
  intro j
  by_cases hj : j < l.length * 2
  ·have hi : l[j / 2]? = some l[j / 2] := Y34 (by omega)
   obtain ⟨h1, h2⟩ := hg l _ _ hi
   obtain ⟨h3, h4⟩ := Z5p l hi
   have hs : ∀ t, t < l.length * 2 -> (flatK cN 2 l.toArray).toList[t]? = some (flatK cN 2 l.toArray)[t]! := fun t ht => by
    have : t < (flatK cN 2 l.toArray).size := by simpa using ht
    rw [getElem!_pos _ t this]; simp [this]
   rcases Nat.mod_two_eq_zero_or_one j with hm | hm
   ·have : j = j / 2 * 2 := by omega
    rw [this, h1, hs _ (by omega), h3]
   ·have : j = j / 2 * 2 + 1 := by omega
    rw [this, h2, hs _ (by omega), h4]
  ·rw [Y35 (by simp; omega), Y35 (by rw [hl]; omega)]
 rw [e]
 exact key l 0
theorem Zjg {gs gc : Nat} (L : SlLaysF0.n6 P ρ) (aE : ∀ w, (isAgg (ρ.t 24)).run P w = .ok true w) (zE : ∀ w, (Go.sizeOf (ρ.t 24)).run P w = .ok 2 w) (hs : tab gs = ρ.f 6) (eg : ∀ args w, (callFunc (tab gc) args).run P w = .ok (.enter (tab gc) args) w)
  (hc : ∀ (x y : Int × Int) (W : World), Calls P (tab gc) #[.agg #[.int .i64 x.1, .int .i64 x.2], .agg #[.int .i64 y.1, .int .i64 y.2]] W fun e w' => e = .returned (.int .i64 (Lib.compareInt x.1 y.1)) /\ ∃ q os', w' = grow (W.drewN q) os') :
  dB P tab gs (ly gc) := by
 intro xs vs w ow out hF hl hA dX ij
 obtain ⟨l, rfl, hlen, rfl⟩ := Zj9 hF
 match vs, hl with
 | [v0, v1], _ =>
 have h0 := hA 0 _ v0 rfl rfl
 have h1 := hA 1 _ v1 rfl rfl
 simp only [fL, rep, aR] at h1
 obtain ⟨cQ, hv1, lp⟩ := h1
 have CG : cQ = #[] := by simpa using lp
 subst CG
 have Lt : v1 = .func (.func (tab gc)) #[] #[] := by simpa using hv1
 subst Lt
 obtain ⟨_, h0⟩ := h0
 simp only [rep, Y45] at h0
 obtain ⟨_, A, cap, hv0, dV, _, hA0⟩ := h0
 have Lu : v0 = .slice A l.length cap := by simpa using hv0
 subst Lu
 rw [hs]
 have Mi : ∀ b, ow b ≠ .no -> b < w.heap.size := dX
 by_cases hl0 : l = []
 ·subst hl0
  refine Calls.mono (AnyF.slices_SortFunc_none L A cap (.func (.func (tab gc)) #[] #[]) w) fun e w' he => ?_
  obtain ⟨rfl, rfl⟩ := he
  refine ⟨ow, ⟨fun b hb => ⟨hb, rfl⟩, fun b _ hb => ⟨hb, rfl⟩, dX, Nat.le_refl _, rfl, rfl, ⟨#[], rfl, rfl, fun j r u hj => by simp at hj⟩, ?_, fun b j q hb => by obtain ⟨i, h, _⟩ := ij b _ q hb; cases h⟩⟩
  have : dQ [] = [] := Y44.1 (Zje [])
  rw [this]
  exact ⟨⟨_, rfl, ⟨_, _, rfl⟩, by simp only [rep]; exact ⟨fun _ => by simp, A, cap, rfl, dV, (fun k hk => by cases hk), hA0⟩⟩, trivial⟩
 ·have hY : 0 < l.length := Y47.2 hl0
  cases A with
  | none => simp only at hA0; omega
  | some ad =>
  obtain ⟨hsp, hob, arr, ty, fr, vs', hh, hfr, hvs, hes⟩ := hA0 (.inl rfl)
  obtain ⟨Az, CH⟩ := hfr rfl
  obtain ⟨blk, off, sp⟩ := ad
  simp only at hsp hob hh CH hvs
  subst hsp
  have hblk : blk < w.heap.size := dX blk (by rw [hob]; simp [Ob.loc, Ob.own, Loc.ow])
  have hH : HoldsK cN 2 w blk off l.toArray := fun j hj => by
   have hj' : j < l.length * 2 := by simpa using hj
   have hi : l[j / 2]? = some l[j / 2] := Y34 (by omega)
   obtain ⟨h3, h4⟩ := Z5p l hi
   have hi2 : (l.map fm)[j / 2]? = some (fm l[j / 2]) := by rw [Y37, hi]; rfl
   obtain ⟨u1, hu1, hu2, hu3⟩ := Zfh hes hi2
   have hu : u1 = cN l[j / 2] := by
    simp only [fm, rep, aR] at hu2
    obtain ⟨a1, r1, e1, e2, a2, r2, e3, e4, e5⟩ := hu2
    rw [e1, e3, e5]
    simp only [Y23, and_true] at e2 e4
    rw [e2, e4]; rfl
   have hT : off + j < arr.size := by
    have : l.length * 2 <= cap * 2 := Y80 2 dV
    omega
   refine ⟨?_, ?_⟩
   ·simp only [World.cell?, hh, id]
    rcases Nat.mod_two_eq_zero_or_one j with hm | hm
    ·have hj2 : j = j / 2 * 2 := by omega
     have := hvs _ _ (hu3 0 (.int .i64 l[j / 2].1) (by rw [hu]; rfl))
     rw [Y75, <- hj2] at this
     rw [<- hj2] at h3
     simp [this, h3]
    ·have hj2 : j = j / 2 * 2 + 1 := by omega
     have := hvs _ _ (hu3 1 (.int .i64 l[j / 2].2) (by rw [hu]; rfl))
     rw [<- hj2] at this
     rw [<- hj2] at h4
     simp [this, h4]
   ·simp only [World.frozen?, hh]
    obtain ⟨lo, hi⟩ := fr
    simp only at Az ⊢
    by_cases h5 : lo <= off + j
    ·have : ¬ (off + j < hi) := by
      rcases Az with h | h
      ·omega
      ·omega
     simp [this]
    ·simp [h5]
  have pw := AnyQ.slices_SortFunc_eq L 2 aE zE cN (fun _ => rfl) (fun x v hv => by simp [cN] at hv; rcases hv with rfl | rfl <;> rfl) pv BS (tab gc) #[] blk off cap l.toArray w eg (fun _ _ _ _ x y => hc x y _) hH hblk (by simpa using hlen)
  simp only [List.size_toArray] at pw
  refine Calls.mono pw fun e w' he => ?_
  obtain ⟨rfl, n, os, rfl⟩ := he
  have hd : pdq (Go.Proofs.ltOf pv) l.toArray 0 l.length (Lib.bitLen l.length) true true = (dQ l).toArray := by unfold dQ; rw [Zam]
  rw [hd]
  have fK : ∀ b, b < w.heap.size -> (sortWorldK cN 2 w blk off n (dQ l).toArray os).heap[b]? = if b = blk then some (.cells (Go.Sort.putCells id off (flatK cN 2 (dQ l).toArray) arr) ty fr) else w.heap[b]? := fun b hb => by
   show (w.heap.modify blk (onCells (Go.Sort.putCells id off (flatK cN 2 (dQ l).toArray))) ++ os)[b]? = _
   rw [Array.getElem?_append_left (by simpa using hb), Array.getElem?_modify]
   by_cases h : blk = b
   ·subst h; simp [hh, onCells]
   ·rw [if_neg h, if_neg (fun e => h e.symm)]
  have BT : w.heap.size <= (sortWorldK cN 2 w blk off n (dQ l).toArray os).heap.size := by
   show _ <= (w.heap.modify blk (onCells (Go.Sort.putCells id off (flatK cN 2 (dQ l).toArray))) ++ os).size
   simp
  refine ⟨ow, ⟨fun b hb => ⟨hb, ?_⟩, fun b hb hn => ⟨hn, ?_⟩, fun b hb => Y78 (dX b hb) BT, BT, rfl, rfl, ⟨#[], rfl, rfl, fun j r u hj => by simp at hj⟩, ⟨⟨_, rfl, ⟨_, _, rfl⟩, ?_⟩, trivial⟩, fun b j q hb => by obtain ⟨i, h, _⟩ := ij b _ q hb; cases h⟩⟩
  ·rw [fK b (dX b (by rw [hb]; simp)), if_neg]
   intro e; subst e; rw [hob] at hb; cases hb
  ·rw [fK b hb, if_neg]
   intro e; subst e; rw [hob] at hn; cases hn
  ·simp only [rep, Y45, Zje]
   refine ⟨fun _ => by simp, some ⟨blk, off, none⟩, cap, rfl, dV, (fun k hk => by cases hk), fun _ => ⟨rfl, hob, _, ty, fr, (flatK cN 2 (dQ l).toArray).toList, by rw [fK blk hblk, if_pos rfl], fun _ => ⟨?_, ?_⟩, fun j v hj => ?_, Zfr _⟩⟩
   ·simpa [Go.Sort.putCells] using Az
   ·simpa [Go.Sort.putCells] using CH
   ·have hj2 : j < (flatK cN 2 (dQ l).toArray).size := by
     have := (Y36.1 hj).1
     simpa using this
    have hj3 : j < l.length * 2 := by simpa [Zje] using hj2
    have hT : off + j < arr.size := by
     have : l.length * 2 <= cap * 2 := Y80 2 dV
     omega
    have hv : (flatK cN 2 (dQ l).toArray)[j]! = v := by
     rw [getElem!_pos _ j hj2]
     have := (Y36.1 hj).2
     simpa using this
    simp only [Go.Sort.putCells, Array.getElem?_mapIdx]
    rw [Array.getElem?_eq_getElem hT]
    simp only [Y88, id]
    rw [if_pos ⟨by omega, by omega⟩, Nat.add_sub_cancel_left, hv]
end
end Go.Wr

