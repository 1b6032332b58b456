/-
  What is proved: lemmas on the way to the laws of this seat. No condition.
-/
import Derived.Test.YtbghjecopkbhlaaGreatRg
import Derived.Tactics
import Derived.ChangeArms
import Derived.ChangeSame
import Derived.WideKeyArgs
set_option linter.unusedVariables false
set_option linter.unusedSimpArgs false
namespace Go.Wr
section
variable {X : Cx} {U : Nat -> Prop} {J J' : Nat} {σ σ' σ2 : St} {a a' a2 : Act} {w w' w2 : World} {ow ow' ow2 : Nat -> Ow} {e : Nat} {o : Oper}
theorem Zg8 (σ : St) : ∀ (bd : List Nat) (s : Nat), cL bd σ s = if s ∈ bd /\ s < 1000 then renew bd σ (σ s) else .u := by
 intro bd
 have gen : ∀ (ks full : List Nat) (s : Nat), (ks.foldr (fun s τ => if s < 1000 then upd τ s (renew full σ (σ s)) else τ) (fun _ => AV.u)) s = if s ∈ ks /\ s < 1000 then renew full σ (σ s) else .u := by
  intro ks full
  induction ks with
  | nil => intro s; simp
  | cons k ks ih =>
   intro s
   simp only [List.foldr_cons, Y55]
   by_cases hk : k < 1000
   ·rw [if_pos hk]
    by_cases hs : s = k
    ·subst hs; simp [upd, hk]
    ·have : ∀ (τ : St) (v : AV), upd τ k v s = τ s := fun τ v => by simp [upd, hs]
     rw [this, ih]
     simp [hs]
   ·rw [if_neg hk, ih]
    by_cases hs : s = k
    ·subst hs; simp [hk]
    ·simp [hs]
 intro s
 exact gen bd bd s
theorem Zf1 {bd : List Nat} {v : AV} {c' : RC} (h : (renew bd σ v).rc = some c') : ∃ c, v.rc = some c /\ c' = { c with k := ⟨0, 0, 0⟩ } := by
 cases v with
 | own k t => simp only [renew, AV.rc, Y89] at h; subst h; exact ⟨_, rfl, rfl⟩
 | box k t => simp only [renew, AV.rc, Y89] at h; subst h; exact ⟨_, rfl, rfl⟩
 | w r k p z lo n =>
  simp only [renew] at h
  cases hk : eD bd σ r k (dl · p) <;> rw [hk] at h <;> simp [AV.rc] at h
 | ptr r k p off =>
  simp only [renew] at h
  cases hk : eD bd σ r k (fh · p) <;> rw [hk] at h <;> simp [AV.rc] at h
 | _ => simp [renew, AV.rc] at h
theorem Zg5 {bd : List Nat} {r : Nat} {k k' : K} {lvl : Bool -> Nat} (h : eD bd σ r k lvl = some k') : r ∈ bd /\ ∃ c, (σ r).rc = some c /\ c.k.ok k (lvl c.bi) = true /\ k' = ⟨0, 0, 0⟩ := by
 unfold eD at h
 split at h
 ·rename_i hm
  split at h
  ·rename_i c hc
   split at h
   ·rename_i hk
    cases h
    exact ⟨by simpa using hm, c, hc, hk, rfl⟩
   ·cases h
  ·cases h
 ·cases h
theorem Zg9 (h : Rel X U J σ a w ow) (bd : List Nat) : Rel X (fun x => x = 0) J (cL bd σ) a w ow := by
 have hat := Zg8 σ bd
 have root : ∀ r c', (cL bd σ r).rc = some c' -> ∃ c, (σ r).rc = some c /\ c' = { c with k := ⟨0, 0, 0⟩ } := fun r c' hc => by
  rw [hat] at hc
  split at hc
  ·exact Zf1 hc
  ·simp [AV.rc] at hc
 refine ⟨h.size, h.small, h.defers, fun s => ?_, fun s => ?_, h.low, h.air, h.grown, h.same, h.os, h.output, h.bu, fun s hs hu => ?_⟩
 ·rw [hat]
  split
  ·have hs := h.slot s
   cases hσ : σ s <;> rw [hσ] at hs <;> simp only [renew]
   case u => trivial
   case x t => exact hs
   case own k t => exact hs
   case w r k p z lo n =>
    cases hk : eD bd σ r k (dl · p) with
    | none => trivial
    | some k' =>
     obtain ⟨hm, c, hc, hok, rfl⟩ := Zg5 hk
     refine ⟨hs.1, fun c' hc' _ => ?_⟩
     obtain ⟨c2, hc2, rfl⟩ := root r c' hc'
     rw [hc] at hc2
     cases hc2
     exact hs.2 c hc hok
   case st cs => trivial
   case box k cs => exact hs
   case ptr r k p off =>
    cases hk : eD bd σ r k (fh · p) with
    | none => trivial
    | some k' =>
     obtain ⟨hm, c, hc, hok, rfl⟩ := Zg5 hk
     refine ⟨hs.1, fun c' hc' _ bo hbo => ?_⟩
     obtain ⟨c2, hc2, rfl⟩ := root r c' hc'
     rw [hc] at hc2
     cases hc2
     exact hs.2 c hc hok bo hbo
   case q t off => exact hs
   case tup n => trivial
  ·trivial
 ·rw [hat]
  split
  ·cases hσ : σ s <;> simp only [renew, AV.stamps]
   case w r k p z lo n =>
    cases hk : eD bd σ r k (dl · p) with
    | none => trivial
    | some k' =>
     obtain ⟨hm, c, hc, hok, rfl⟩ := Zg5 hk
     exact ⟨rfl, rfl, rfl⟩
   case ptr r k p off =>
    cases hk : eD bd σ r k (fh · p) with
    | none => trivial
    | some k' =>
     obtain ⟨hm, c, hc, hok, rfl⟩ := Zg5 hk
     exact ⟨rfl, rfl, rfl⟩
   all_goals trivial
  ·trivial
 ·rw [hat, if_neg (by omega)] at hu
  exact absurd rfl hu
end
end Go.Wr
namespace Go.Wr
def Blk (id x : Nat) : Prop := (id * 1000 + 1) * 8 <= x /\ x < (id * 1000 + 1000) * 8
def Lg (U : Nat -> Prop) (us : List Nat) : Prop := ∀ id, id ∉ us -> ∀ x, Blk id x -> ¬ U x
structure Good (X : Cx) (s : Sg) (a : Act) (w : World) : Prop where
 out : ∃ U J ow, Rel X U J s.σ a w ow /\ Lg U s.us
def Ex.Jp : Ex -> Exit
 | .nx => .normal
 | .exit id => .exit id
 | .ret => .ret
def fM (P : Program) (tab : Nat -> FuncId) (n : Nat) (bu : List Nat) (ops : Array Oper) : List aC -> List Oper -> Bool
 | [], [] => true
 | m :: ms, o :: os => iD P tab n bu ops m o && fM P tab n bu ops ms os
 | _, _ => false
theorem Zcg {P : Program} {tab : Nat -> FuncId} {n : Nat} {bu : List Nat} {ops : Array Oper} : ∀ {ms : List aC} {os : List Oper}, fM P tab n bu ops ms os = true ->
  ms.length = os.length /\ ∀ (j : Nat) m, ms[j]? = some m -> ∃ o, os[j]? = some o /\ iD P tab n bu ops m o = true
 | [], [], _ => ⟨rfl, fun j m h => by simp at h⟩
 | [], _ :: _, h => by simp [fM] at h
 | _ :: _, [], h => by simp [fM] at h
 | m :: ms, o :: os, h => by
  simp only [fM, Y2] at h
  obtain ⟨h1, h2⟩ := Zcg h.2
  refine ⟨by simp [h1], fun j m' hj => ?_⟩
  cases j with
  | zero => simp at hj; subst hj; exact ⟨o, rfl, h.1⟩
  | succ j => obtain ⟨o', h3, h4⟩ := h2 j m' (by simpa using hj); exact ⟨o', by simpa using h3, h4⟩
def CC (l : List Nat) (x : Nat) : List Nat := if l.contains x then l else x :: l
def nI : List Oper -> List (List Nat) -> List (List Nat)
 | [], acc => acc
 | o :: os, acc => nI os (acc ++ [o.after.toList.foldl (fun l x => if Region.binds .any x then (x.on :: acc.getD x.on []).foldl CC l else l) []])
def ov (x y : Nat) : Bool := Nat.beq x y || (Nat.ble 100000 y && Nat.blt x 100000 && Nat.beq (y % 100000) x) || (Nat.ble 100000 x && Nat.blt y 100000 && Nat.beq (x % 100000) y)
def nJ (a b : List Nat) : Bool := a.all fun x => !b.any (ov x)
def indep (f g : List Nat × List Nat) : Bool := nJ f.2 g.1 && nJ f.2 g.2 && nJ g.2 f.1
def kL (ops : List Oper) (fs : List (List Nat × List Nat)) (c : List (List Nat)) : Bool :=
 fs.length == ops.length && (List.range ops.length).all fun i =>
  (match ops[i]? with
   | some o => o.after.toList.all (fun x => !Region.binds .any x || decide (x.on < i)) &&
    (c.getD i []).all (fun j => o.after.toList.any fun x => Region.binds .any x && (x.on == j || (c.getD x.on []).contains j))
   | none => false) &&
  (List.range i).all fun j => (c.getD i []).contains j || indep (fs.getD j ([], [])) (fs.getD i ([], []))
def dq (P : Program) (tab : Nat -> FuncId) (n : Nat) (bu : List Nat) : bR -> Code -> Bool
 | .sk, .skip => true
 | .reg id none ms, .region id' ops false => id == id' && decide (ms.length < 999) && fM P tab n bu ops ms ops.toList
 | .reg id (some fs) ms, .region id' ops true => id == id' && decide (ms.length < 999) && fM P tab n bu ops ms ops.toList && kL ops.toList fs (nI ops.toList [])
 | .seq a b, .seq x y => dq P tab n bu a x && dq P tab n bu b y
 | .cond c a b, .cond y x z => c.is tab y && dq P tab n bu a x && dq P tab n bu b z
 | .blk id c, .block id' x => id == id' && dq P tab n bu c x
 | .loop _ c, .loop x => dq P tab n bu c x
 | .exit id, .exit id' => id == id'
 | .ret, .ret => true
 | .bad, _ => true
 | _, _ => false
def bR.calls : bR -> List (Nat × Fun)
 | .reg _ _ ms => ms.flatMap fun m => m.op.calls
 | .seq a b => a.calls ++ b.calls
 | .cond _ a b => a.calls ++ b.calls
 | .blk _ c => c.calls
 | .loop _ c => c.calls
 | _ => []
section
variable {X : Cx} {U : Nat -> Prop} {J J' : Nat} {σ σ' σ2 : St} {a a' a2 : Act} {w w' w2 : World} {ow ow' ow2 : Nat -> Ow} {e : Nat} {o : Oper}
theorem Good.cL {s : Sg} (h : Good X s a w) (bd : List Nat) : Good X ⟨Wr.cL bd s.σ, []⟩ a w := by
 obtain ⟨U, J, ow, hr, _⟩ := h.out
 refine ⟨_, J, ow, Zg9 hr bd, fun id _ x hx h0 => ?_⟩
 have := hx.1
 omega
theorem Z8t (f : Sg -> Option (Ex × Sg)) (n : Nat) (s : Sg) : iter f (n + 1) s = match f s with | some (.nx, s') => iter f n s' | r => r := rfl
theorem Zet (hmv : X.mv = mv0) {id : Nat} {ms : List aC} {ops : Array Oper} {s : Sg} {σ' : St} (hg : Good X s a w) (hid : id ∉ s.us) (hl : ms.length < 999) (hm : fM X.P X.tab X.n X.bu ops ms ops.toList = true)
  (hF : ∀ m ∈ ms, ∀ p ∈ m.op.calls, dB X.P X.tab p.1 p.2) (af : (jW id 0 ms).run s.σ = some ((), σ')) {Q : Exit -> Act -> World -> Prop} (hK : ∀ a' w', Good X ⟨σ', id :: s.us⟩ a' w' -> Q .normal a' w') :
  (Code.region id ops false).wp X.P Q a w := by
 obtain ⟨U, J, ow, hr, hf⟩ := hg.out
 obtain ⟨hlen, dp⟩ := Zcg hm
 have iL : ops.size = ms.length := by rw [hlen, Y0]
 refine wp_region ?_
 rw [iL, List.range_eq_range']
 have hfr : ∀ x, (id * 1000 + 0 + 1) * 8 <= x -> x < (id * 1000 + 1000) * 8 -> ¬ U x := fun x h1 h2 => hf id hid x ⟨h1, h2⟩
 have hl2 : 0 + ms.length < 1000 := by omega
 refine Zch hmv id ms 0 hr hfr hl2 hF (fun j m hj => ?_) af (fun a' w' ow' J' hr' => hK a' w' ⟨_, J', ow', hr', fun id' lQ x hx hU => ?_⟩)
 ·obtain ⟨o, h1, h2⟩ := dp j m hj
  exact ⟨o, by rw [Y83]; simpa using h1, h2⟩
 ·simp only [Y55, not_or] at lQ
  rcases hU with hU | hU
  ·exact hf id' lQ.2 x hx hU
  ·have h3 := hx.1
   have h4 := hx.2
   have : id' = id := by omega
   exact lQ.1 this
end
end Go.Wr
namespace Go.Wr
def AV.fr : AV -> AV
 | .box k cs => .box k (List.replicate cs.length .u)
 | v => v
def AV.at (v : AV) : Option Nat -> AV × Option T
 | none => (v.fr, none)
 | some c => (.u, v.bc c)
theorem Z67 {v : AV} {k : K} {cs : List T} (h : v.fr = (AV.box k cs).fr) : ∃ cs', v = .box k cs' /\ cs'.length = cs.length := by
 cases v <;> simp only [AV.fr, AV.box.injEq, reduceCtorEq] at h
 rename_i k2 cs2
 obtain ⟨rfl, h⟩ := h
 have := congrArg List.length h
 simp only [List.length_replicate] at this
 exact ⟨cs2, rfl, this⟩
theorem Z14 {v v' : AV} (h : ∀ a, v.at a = v'.at a) : v = v' := by
 have h0 : v.fr = v'.fr := congrArg Prod.fst (h none)
 have hc : ∀ c, v.bc c = v'.bc c := fun c => congrArg Prod.snd (h (some c))
 cases v' with
 | box k cs =>
  obtain ⟨cs', rfl, hl⟩ := Z67 h0
  have : cs' = cs := Y25 fun c => hc c
  rw [this]
 | _ => cases v <;> first | exact h0 | (simp only [AV.fr, reduceCtorEq] at h0)
theorem Z66 {v v' : AV} (h : v.at none = v'.at none) : v.bk = v'.bk := by
 have h0 : v.fr = v'.fr := congrArg Prod.fst h
 cases v' with
 | box k cs => obtain ⟨cs', rfl, _⟩ := Z67 h0; rfl
 | _ => cases v <;> first | rfl | (simp only [AV.fr, reduceCtorEq] at h0)
theorem Zin {v v2 : AV} {c : Nat} {t : T} (h : v.dO c t = some v2) : ∃ k cs, v = .box k cs /\ c < cs.length /\ v2 = .box k (cs.set c t) := by
 cases v <;> simp only [AV.dO, reduceCtorEq] at h
 split at h
 ·simp only [Y89] at h
  exact ⟨_, _, rfl, ‹_›, h.symm⟩
 ·cases h
theorem Zip {v v2 : AV} {c : Nat} {t : T} (h : v.dO c t = some v2) {a : Option Nat} (ha : a ≠ some c) : v2.at a = v.at a := by
 obtain ⟨k, cs, rfl, hc, rfl⟩ := Zin h
 cases a with
 | none => simp [AV.at, AV.fr]
 | some c' =>
  have : c ≠ c' := fun e => ha (by rw [e])
  simp [AV.at, AV.bc, Y38 this]
theorem Zio {v v2 : AV} {c : Nat} {t : T} (h : v.dO c t = some v2) : v2.at (some c) = (.u, some t) := by
 obtain ⟨k, cs, rfl, hc, rfl⟩ := Zin h
 simp [AV.at, AV.bc, hc]
theorem Ziq {v v' v2 : AV} {c : Nat} {t : T} (h : v.dO c t = some v2) (hf : v'.at none = v.at none) : ∃ v3, v'.dO c t = some v3 := by
 obtain ⟨k, cs, rfl, hc, rfl⟩ := Zin h
 obtain ⟨cs', rfl, hl⟩ := Z67 (congrArg Prod.fst hf)
 exact ⟨_, if_pos (by omega)⟩
def kM (s : Nat) : Option Nat -> Nat
 | none => 100000 + s
 | some c => 100000 * (c + 2) + s
def Names (R : List Nat) (s : Nat) (a : Option Nat) : Prop := s ∈ R \/ (s < 100000 /\ kM s a ∈ R)
theorem Zlv {α : Type} {R W : List Nat} : ∀ (p : Pg α) {σ σ' : St} {x : α}, (p.within R W).run σ = some (x, σ') -> p.run σ = some (x, σ')
 | .ret y, σ, σ', x, h => h
 | .fail, σ, σ', x, h => by simp [Pg.within, Pg.run] at h
 | .get s k, σ, σ', x, h => by
  simp only [Pg.within] at h
  split at h
  ·exact Zlv (k (σ s)) h
  ·simp [Pg.run] at h
 | .set s v k, σ, σ', x, h => by
  simp only [Pg.within] at h
  split at h
  ·exact Zlv k h
  ·simp [Pg.run] at h
 | .jR s k, σ, σ', x, h => by
  simp only [Pg.within] at h
  split at h
  ·exact Zlv (k _) h
  ·simp [Pg.run] at h
 | .jS s c k, σ, σ', x, h => by
  simp only [Pg.within] at h
  split at h
  ·exact Zlv (k _) h
  ·simp [Pg.run] at h
 | .dO s c t k, σ, σ', x, h => by
  simp only [Pg.within] at h
  split at h
  ·simp only [Pg.run] at h ⊢
   cases hv : (σ s).dO c t with
   | none => rw [hv] at h; cases h
   | some v => rw [hv] at h; exact Zlv k h
  ·simp [Pg.run] at h
 | .bind p f, σ, σ', x, h => by
  simp only [Pg.within, Pg.run] at h ⊢
  cases h1 : (p.within R W).run σ with
  | none => rw [h1] at h; cases h
  | some y =>
   obtain ⟨y, σ1⟩ := y
   rw [h1] at h
   rw [Zlv p h1]
   exact Zlv (f y) h
theorem Zbg {R : List Nat} {s : Nat} (h : R.contains s = true) (a : Option Nat) : Names R s a := .inl (by simpa using h)
theorem Zbh {R : List Nat} {s : Nat} {a : Option Nat} (h : (R.contains s || (Nat.blt s 100000 && R.contains (kM s a))) = true) : Names R s a := by
 rcases Bool.or_eq_true_iff.1 h with h | h
 ·exact .inl (by simpa using h)
 ·simp only [Y2] at h
  exact .inr ⟨Y76 h.1, by simpa using h.2⟩
theorem Zlt {α : Type} {R W : List Nat} : ∀ (p : Pg α) {σ σ' τ : St} {x : α}, (p.within R W).run σ = some (x, σ') -> (∀ s a, Names R s a -> (τ s).at a = (σ s).at a) ->
  (∀ s a, ¬ Names W s a -> (σ' s).at a = (σ s).at a) /\ ∃ τ', (p.within R W).run τ = some (x, τ') /\ (∀ s a, ¬ Names W s a -> (τ' s).at a = (τ s).at a) /\ ∀ s a, Names W s a -> (τ' s).at a = (σ' s).at a \/ ((τ' s).at a = (τ s).at a /\ (σ' s).at a = (σ s).at a)
 | .ret y, σ, σ', τ, x, h, hr => by
  simp only [Pg.within, Pg.run, Y89, Y90] at h
  obtain ⟨rfl, rfl⟩ := h
  exact ⟨fun _ _ _ => rfl, τ, rfl, fun _ _ _ => rfl, fun _ _ _ => .inr ⟨rfl, rfl⟩⟩
 | .fail, σ, σ', τ, x, h, hr => by simp [Pg.within, Pg.run] at h
 | .get s k, σ, σ', τ, x, h, hr => by
  simp only [Pg.within] at h ⊢
  split at h
  ·rename_i hs
   simp only [Pg.run] at h
   rw [if_pos hs]
   simp only [Pg.run]
   rw [Z14 (fun a => hr s a (Zbg hs a))]
   exact Zlt (k (σ s)) h hr
  ·simp [Pg.run] at h
 | .set s v k, σ, σ', τ, x, h, hr => by
  simp only [Pg.within] at h ⊢
  split at h
  ·rename_i hs
   simp only [Pg.run] at h
   rw [if_pos hs]
   simp only [Pg.run]
   obtain ⟨h1, τ', h2, h3, h4⟩ := Zlt k (τ := upd τ s v) h (fun t a ht => by unfold upd; split <;> first | rfl | exact hr t a ht)
   have hne : ∀ t a, ¬ Names W t a -> t ≠ s := fun t a ht e => ht (e ▸ Zbg hs a)
   refine ⟨fun t a ht => by rw [h1 t a ht]; simp [upd, hne t a ht], τ', h2, fun t a ht => by rw [h3 t a ht]; simp [upd, hne t a ht], fun t a ht => ?_⟩
   rcases h4 t a ht with h5 | ⟨h5, h6⟩
   ·exact .inl h5
   ·by_cases hts : t = s
    ·subst hts
     left
     rw [h5, h6]; simp [upd]
    ·right
     exact ⟨by rw [h5]; simp [upd, hts], by rw [h6]; simp [upd, hts]⟩
  ·simp [Pg.run] at h
 | .jR s k, σ, σ', τ, x, h, hr => by
  simp only [Pg.within] at h ⊢
  split at h
  ·rename_i hs
   simp only [Pg.run] at h
   rw [if_pos hs]
   simp only [Pg.run]
   rw [Z66 (hr s none (Zbh (a := none) hs))]
   exact Zlt (k _) h hr
  ·simp [Pg.run] at h
 | .jS s c k, σ, σ', τ, x, h, hr => by
  simp only [Pg.within] at h ⊢
  split at h
  ·rename_i hs
   simp only [Pg.run] at h
   rw [if_pos hs]
   simp only [Pg.run]
   have e : (τ s).bc c = (σ s).bc c := congrArg Prod.snd (hr s (some c) (Zbh (a := some c) hs))
   rw [e]
   exact Zlt (k _) h hr
  ·simp [Pg.run] at h
 | .dO s c t k, σ, σ', τ, x, h, hr => by
  simp only [Pg.within] at h ⊢
  split at h
  ·rename_i hs
   simp only [Pg.run] at h
   rw [if_pos hs]
   simp only [Pg.run]
   rw [Y2] at hs
   have hW : Names W s (some c) := Zbh (a := some c) hs.2
   cases hv : (σ s).dO c t with
   | none => rw [hv] at h; cases h
   | some v =>
    rw [hv] at h
    obtain ⟨v', hv'⟩ := Ziq hv (hr s none (Zbh (a := none) hs.1))
    rw [hv']
    obtain ⟨h1, τ', h2, h3, h4⟩ := Zlt k (τ := upd τ s v') h (fun t' a ht => by
     unfold upd
     split
     ·by_cases ha : a = some c
      ·subst ha; rw [Zio hv, Zio hv']
      ·rename_i e; subst e; rw [Zip hv ha, Zip hv' ha]; exact hr _ a ht
     ·exact hr t' a ht)
    have hk : ∀ (ρ : St) (v1 : AV), (ρ s).dO c t = some v1 -> ∀ t' a, ¬ (t' = s /\ a = some c) -> (upd ρ s v1 t').at a = (ρ t').at a := fun ρ v1 hu t' a ht => by
     unfold upd
     split
     ·rename_i e; subst e; exact Zip hu fun e => ht ⟨rfl, e⟩
     ·rfl
    have hne : ∀ t' a, ¬ Names W t' a -> ¬ (t' = s /\ a = some c) := fun t' a ht e => ht (by rw [e.1, e.2]; exact hW)
    refine ⟨fun t' a ht => by rw [h1 t' a ht]; exact hk σ v hv t' a (hne t' a ht), τ', h2, fun t' a ht => by rw [h3 t' a ht]; exact hk τ v' hv' t' a (hne t' a ht), fun t' a ht => ?_⟩
    rcases h4 t' a ht with h5 | ⟨h5, h6⟩
    ·exact .inl h5
    ·by_cases hts : t' = s /\ a = some c
     ·obtain ⟨rfl, rfl⟩ := hts
      left
      rw [h5, h6]; simp only [upd, if_true]; rw [Zio hv, Zio hv']
     ·right
      exact ⟨by rw [h5]; exact hk τ v' hv' t' a hts, by rw [h6]; exact hk σ v hv t' a hts⟩
  ·simp [Pg.run] at h
 | .bind p f, σ, σ', τ, x, h, hr => by
  simp only [Pg.within, Pg.run] at h ⊢
  cases h1 : (p.within R W).run σ with
  | none => rw [h1] at h; cases h
  | some y =>
   obtain ⟨y, σ1⟩ := y
   rw [h1] at h
   obtain ⟨a1, τ1, a2, a3, a4⟩ := Zlt p h1 hr
   have hr1 : ∀ s a, Names R s a -> (τ1 s).at a = (σ1 s).at a := fun s a hs => by
    by_cases hw : Names W s a
    ·rcases a4 s a hw with h5 | ⟨h5, h6⟩
     ·exact h5
     ·rw [h5, h6, hr s a hs]
    ·rw [a3 s a hw, a1 s a hw, hr s a hs]
   obtain ⟨b1, τ2, b2, b3, b4⟩ := Zlt (f y) h hr1
   refine ⟨fun s a hs => (b1 s a hs).trans (a1 s a hs), τ2, by rw [a2]; exact b2, fun s a hs => (b3 s a hs).trans (a3 s a hs), fun s a hs => ?_⟩
   rcases b4 s a hs with h5 | ⟨h5, h6⟩
   ·exact .inl h5
   ·rcases a4 s a hs with h7 | ⟨h7, h8⟩
    ·exact .inl (by rw [h5, h6, h7])
    ·exact .inr ⟨h5.trans h7, h6.trans h8⟩
theorem Zcq {s : Nat} (a : Option Nat) (hs : s < 100000) : 100000 <= kM s a /\ kM s a % 100000 = s := by
 cases a with
 | none => simp only [kM]; omega
 | some c => simp only [kM]; omega
theorem Z3b {a b : List Nat} (h : nJ a b = true) {x y : Nat} (hx : x ∈ a) (hy : y ∈ b) : ov x y = false := by
 unfold nJ at h
 have := Y18.1 h x hx
 simp only [Y11] at this
 exact Y10 _ ▸ (List.any_eq_false.1 this y hy)
theorem Z3a {a b : List Nat} (h : nJ a b = true) {s : Nat} {p : Option Nat} (hx : Names a s p) : ¬ Names b s p := fun hy => by
 rcases hx with hx | ⟨hs, hx⟩ <;> rcases hy with hy | ⟨hs', hy⟩
 ·have := Z3b h hx hy; simp [ov, Nat.beq_refl] at this
 ·have h1 := Zcq p hs'
  have := Z3b h hx hy
  unfold ov at this
  have e1 : Nat.ble 100000 (kM s p) = true := Nat.ble_eq_true_of_le h1.1
  have e2 : Nat.blt s 100000 = true := Nat.ble_eq_true_of_le hs'
  rw [h1.2, e1, e2, Nat.beq_refl] at this
  simp at this
 ·have h1 := Zcq p hs
  have := Z3b h hx hy
  unfold ov at this
  have e1 : Nat.ble 100000 (kM s p) = true := Nat.ble_eq_true_of_le h1.1
  have e2 : Nat.blt s 100000 = true := Nat.ble_eq_true_of_le hs
  rw [h1.2, e1, e2, Nat.beq_refl] at this
  simp at this
 ·have := Z3b h hx hy; simp [ov, Nat.beq_refl] at this
theorem Zka {f g : List Nat × List Nat} {p q : Pg Unit} {σ σ1 σ2 : St} (hi : indep f g = true) (hp : (p.within f.1 f.2).run σ = some ((), σ1)) (hq : (q.within g.1 g.2).run σ1 = some ((), σ2)) :
  ∃ τ1, (q.within g.1 g.2).run σ = some ((), τ1) /\ (p.within f.1 f.2).run τ1 = some ((), σ2) := by
 unfold indep at hi
 simp only [Y2] at hi
 obtain ⟨⟨h1, h2⟩, h3⟩ := hi
 have hp1 := (Zlt p (τ := σ) hp (fun _ _ _ => rfl)).1
 obtain ⟨hq1, τ1, hq2, hq3, hq4⟩ := Zlt q (τ := σ) hq (fun s a hs => (hp1 s a (fun hw => Z3a h1 hw hs)).symm)
 obtain ⟨_, τ2, hp2, hp3, hp4⟩ := Zlt p (τ := τ1) hp (fun s a hs => hq3 s a (fun hw => Z3a h3 hw hs))
 refine ⟨τ1, hq2, ?_⟩
 rw [hp2]
 congr 2
 funext s
 refine Z14 fun a => ?_
 by_cases hs : Names f.2 s a
 ·have hs2 : ¬ Names g.2 s a := Z3a h2 hs
  rw [hq1 s a hs2]
  rcases hp4 s a hs with h5 | ⟨h5, h6⟩
  ·exact h5
  ·rw [h5, hq3 s a hs2, h6]
 ·rw [hp3 s a hs]
  by_cases hs2 : Names g.2 s a
  ·rcases hq4 s a hs2 with h5 | ⟨h5, h6⟩
   ·exact h5
   ·rw [h5, h6, hp1 s a hs]
  ·rw [hq3 s a hs2, hq1 s a hs2, hp1 s a hs]
def gm (id : Nat) (ms : List aC) (fs : List (List Nat × List Nat)) (i : Nat) : Pg Unit :=
 match ms[i]? with
 | some m => (m.exec ((id * 1000 + i + 1) * 8)).within (fs.getD i ([], [])).1 (fs.getD i ([], [])).2
 | none => .fail
def je (ps : Nat -> Pg Unit) : List Nat -> Pg Unit
 | [] => pure ()
 | i :: l => do
  ps i
  je ps l
theorem Z57 {id : Nat} {ms : List aC} {fs : List (List Nat × List Nat)} (hl : fs.length = ms.length) : ∀ (os : List aC) (i : Nat), ms.drop i = os -> ir id i os (fs.drop i) = je (gm id ms fs) (List.range' i os.length)
 | [], i, h => by
  have : fs.drop i = [] := by
   have h1 := congrArg List.length h
   simp only [List.length_drop, Y46] at h1
   exact List.drop_eq_nil_of_le (by omega)
  rw [this]; rfl
 | o :: os, i, h => by
  have hi : i < ms.length := by
   by_cases hlt : i < ms.length
   ·exact hlt
   ·rw [List.drop_eq_nil_of_le (by omega)] at h; cases h
  have hmi : ms[i]? = some o := by
   have := congrArg (fun l => l[0]?) h
   simpa using this
  have hfi : i < fs.length := by omega
  have hf : fs.drop i = fs[i] :: fs.drop (i + 1) := List.drop_eq_getElem_cons hfi
  have ho : ms.drop (i + 1) = os := by rw [<- List.drop_drop, h]; rfl
  rw [hf]
  show ir id i (o :: os) ((fs[i].1, fs[i].2) :: fs.drop (i + 1)) = je _ (List.range' i (os.length + 1))
  rw [List.range'_succ]
  simp only [ir, je]
  rw [Z57 hl os (i + 1) ho]
  congr 1
  simp [gm, hmi, hfi]
theorem Zbe {id : Nat} {ms : List aC} {fs : List (List Nat × List Nat)} {i : Nat} : ∀ (l1 l2 : List Nat) {σ σf : St}, (∀ j ∈ l1, indep (fs.getD j ([], [])) (fs.getD i ([], [])) = true) ->
  (je (gm id ms fs) (l1 ++ i :: l2)).run σ = some ((), σf) -> ∃ σ1, (gm id ms fs i).run σ = some ((), σ1) /\ (je (gm id ms fs) (l1 ++ l2)).run σ1 = some ((), σf)
 | [], l2, σ, σf, hi, h => by
  simp only [Y66, je] at h
  obtain ⟨_, σ1, h1, h2⟩ := Zh3 h
  exact ⟨σ1, h1, h2⟩
 | j :: l1, l2, σ, σf, hi, h => by
  simp only [Y24, je] at h
  obtain ⟨_, σ1, h1, h2⟩ := Zh3 h
  obtain ⟨σ2, h3, h4⟩ := Zbe l1 l2 (fun k hk => hi k (Y56 _ hk)) h2
  have h5 := h1
  have h6 := h3
  unfold gm at h5 h6
  cases hj : ms[j]? with
  | none => simp [hj, Pg.run] at h5
  | some mj =>
   cases hmi : ms[i]? with
   | none => simp [hmi, Pg.run] at h6
   | some mi =>
    simp only [hj] at h5
    simp only [hmi] at h6
    obtain ⟨τ1, h7, h8⟩ := Zka (hi j Y57) h5 h6
    refine ⟨τ1, by unfold gm; simp only [hmi]; exact h7, ?_⟩
    simp only [Y24, je]
    rw [run_bind]
    have : (gm id ms fs j).run τ1 = some ((), σ2) := by unfold gm; simp only [hj]; exact h8
    rw [this]
    exact h4
section
variable {X : Cx} {U : Nat -> Prop} {J J' : Nat} {σ σ' σ2 : St} {a a' a2 : Act} {w w' w2 : World} {ow ow' ow2 : Nat -> Ow} {e : Nat} {o : Oper}
theorem Z5b {id i x : Nat} (hi : i < 999) (h : Fam ((id * 1000 + i + 1) * 8) x) : Blk id x := by
 obtain ⟨h1, h2⟩ := h
 refine ⟨Y77 (Y80 8 (by omega)) h1, Y78 h2 ?_⟩
 rw [<- Y82]
 exact Y80 8 (by omega)
theorem Z5c {id i k x : Nat} (h : Fam ((id * 1000 + i + 1) * 8) x) (h2 : Fam ((id * 1000 + k + 1) * 8) x) : k = i := by
 unfold Fam at h h2; omega
theorem Z1i {id k x : Nat} (h : Blk id x) (h2 : Blk k x) : k = id := by
 obtain ⟨h1, h3⟩ := h
 obtain ⟨h4, h5⟩ := h2
 rcases Nat.lt_trichotomy k id with hlt | hlt | hlt
 ·omega
 ·exact hlt
 ·omega
def unl (n : Nat) (bB : Array Bool) : List Nat := (List.range n).filter fun i => !bB.getD i true
theorem Zl7 {n i : Nat} {bB : Array Bool} (hn : bB.size = n) (hi : bB.getD i true = false) : ∃ l1 l2, unl n bB = l1 ++ i :: l2 /\ unl n (bB.setIfInBounds i true) = l1 ++ l2 /\ (∀ j ∈ l1, j < i /\ bB.getD j true = false) := by
 have hin : i < n := by
  rcases Y79 i n with h | h
  ·exact h
  ·rw [<- hn] at h; simp [Array.getElem?_eq_none h] at hi
 have hs : List.range n = List.range i ++ i :: List.range' (i + 1) (n - i - 1) := by
  rw [List.range_eq_range', List.range_eq_range', <- List.range'_succ]
  have := @List.range'_append_1 0 i (n - i - 1 + 1)
  rw [Y83] at this
  rw [this]
  congr 1; omega
 have hne : ∀ j, j ≠ i -> (bB.setIfInBounds i true).getD j true = bB.getD j true := fun j hj => getD_set_ne true (Ne.symm hj)
 refine ⟨(List.range i).filter fun j => !bB.getD j true, (List.range' (i + 1) (n - i - 1)).filter fun j => !bB.getD j true, ?_, ?_, fun j hj => ?_⟩
 ·unfold unl
  rw [hs, List.filter_append, List.filter_cons_of_pos (by simp [hi])]
 ·unfold unl
  rw [hs, List.filter_append, List.filter_cons_of_neg (by simp [show i < bB.size by omega])]
  congr 1
  ·exact List.filter_congr fun j hj => by rw [hne j (by have := Y64.1 hj; omega)]
  ·exact List.filter_congr fun j hj => by rw [hne j (by have := List.mem_range'_1.1 hj; omega)]
 ·obtain ⟨h1, h2⟩ := List.mem_filter.1 hj
  exact ⟨Y64.1 h1, by simpa using h2⟩
def Down (c : List (List Nat)) (bB : Array Bool) : Prop := ∀ i, bB.getD i false = true -> ∀ j ∈ c.getD i [], bB.getD j false = true
theorem Z79 {bB : Array Bool} {i : Nat} (h : i < bB.size) : bB.getD i true = bB.getD i false := by simp [h]
theorem Zlw (hmv : X.mv = mv0) {ops : Array Oper} {Q : Exit -> Act -> World -> Prop} {id : Nat} {ms : List aC} {fs : List (List Nat × List Nat)} {c : List (List Nat)} (hl : ms.length < 999)
  (Lh : ops.size = ms.length) (hdr : kL ops.toList fs c = true) (hF : ∀ m ∈ ms, ∀ p ∈ m.op.calls, dB X.P X.tab p.1 p.2) (hm : ∀ (j : Nat) m, ms[j]? = some m -> ∃ o, ops[j]? = some o /\ iD X.P X.tab X.n X.bu ops m o = true)
  {U0 : Nat -> Prop} (hfr : ∀ x, Blk id x -> ¬ U0 x) {σf : St} (hK : ∀ a' w' ow' J', Rel X (fun x => U0 x \/ Blk id x) J' σf a' w' ow' -> Q .normal a' w') :
  ∀ (fj : Nat) {bB : Array Bool} {U : Nat -> Prop} {J : Nat} {σ : St} {a : Act} {w : World} {ow : Nat -> Ow}, Rel X U J σ a w ow -> bB.size = ms.length -> fj = (unl ms.length bB).length -> Down c bB ->
   (∀ x, U x -> U0 x \/ ∃ i, bB.getD i false = true /\ Fam ((id * 1000 + i + 1) * 8) x) -> (je (gm id ms fs) (unl ms.length bB)).run σ = some ((), σf) -> wpAny X.P .any ops Q fj bB a w := by
 unfold kL at hdr
 simp only [Y2, beq_iff_eq, Y18, Y64] at hdr
 obtain ⟨hfl, cc⟩ := hdr
 have Mg : ops.toList.length = ms.length := by rw [Y0]; exact Lh
 have qT : ∀ i o, ops[i]? = some o -> (∀ x ∈ o.after, Region.binds .any x = true -> x.on < i) /\ (∀ j ∈ c.getD i [], ∃ x ∈ o.after, Region.binds .any x = true /\ (x.on = j \/ j ∈ c.getD x.on [])) /\
   ∀ j, j < i -> j ∈ c.getD i [] \/ indep (fs.getD j ([], [])) (fs.getD i ([], [])) = true := fun i o ho => by
  have hi : i < ops.toList.length := by have := (Array.getElem?_eq_some_iff.1 ho).1; simpa using this
  obtain ⟨h1, h2⟩ := cc i hi
  have ho' : ops.toList[i]? = some o := by simpa using ho
  simp only [ho', Y2, Y18, Y14, Y11, decide_eq_true_eq] at h1
  refine ⟨fun x hx hb => ?_, fun j hj => ?_, fun j hj => ?_⟩
  ·rcases h1.1 x (by simpa using hx) with h | h
   ·rw [hb] at h; cases h
   ·exact h
  ·have := h1.2 j hj
   rw [Y20] at this
   obtain ⟨x, hx, h3⟩ := this
   simp only [Y2, Y14, beq_iff_eq] at h3
   exact ⟨x, by simpa using hx, h3.1, h3.2.imp (fun h => h) (by simp)⟩
  ·rcases Bool.or_eq_true_iff.1 (h2 j hj) with h | h
   ·exact .inl (by simpa using h)
   ·exact .inr h
 have CD : ∀ {bB : Array Bool} {i : Nat}, bB.size = ms.length -> i ∈ Region.ready .any ops bB -> Down c bB -> ∀ j ∈ c.getD i [], bB.getD j false = true := fun {bB i} hsz hi hd j hj => by
  obtain ⟨h1, o, ho, h2⟩ := mem_ready.1 hi
  obtain ⟨x, hx, hb, h3⟩ := (qT i o ho).2.1 j hj
  have h4 := h2 x hx hb
  rcases h3 with h3 | h3
  ·rw [<- h3]; exact h4
  ·exact hd x.on h4 j h3
 intro fj
 induction fj with
 | zero =>
  intro bB U J σ a w ow h hsz hf hd hU af
  have nK : unl ms.length bB = [] := Y44.1 hf.symm
  rw [nK] at af
  obtain ⟨_, rfl⟩ := Zhk af
  refine ⟨?_, hK _ _ _ _ (h.mono (fun x hx => ?_) (Nat.le_refl _))⟩
  ·cases hr : Region.ready .any ops bB with
   | nil => rfl
   | cons i l =>
    have hi : i ∈ Region.ready .any ops bB := by rw [hr]; exact Y57
    obtain ⟨h1, o, ho, h2⟩ := mem_ready.1 hi
    obtain ⟨l1, l2, h3, _⟩ := Zl7 hsz h1
    rw [nK] at h3
    simp at h3
  ·rcases hU x hx with h1 | ⟨i, h1, h2⟩
   ·exact .inl h1
   ·right
    have hi : i < ms.length := by
     rcases Y79 i bB.size with h | h
     ·omega
     ·simp [Array.getElem?_eq_none h] at h1
    exact Z5b (by omega) h2
 | succ fj ih =>
  intro bB U J σ a w ow h hsz hf hd hU af
  refine ⟨fun hr => ?_, fun i hi => ?_⟩
  ·-- the first Mh is not bB is ready
   exfalso
   cases hu : unl ms.length bB with
   | nil => rw [hu] at hf; simp at hf
   | cons i0 l =>
    have hi0 : i0 ∈ unl ms.length bB := by rw [hu]; exact Y57
    obtain ⟨h1, h2⟩ := List.mem_filter.1 hi0
    have h2' : bB.getD i0 true = false := by simpa using h2
    have h1' : i0 < ms.length := Y64.1 h1
    have Ax : ∀ j, j < i0 -> bB.getD j false = true := fun j hj => by
     cases hb : bB.getD j false with
     | true => rfl
     | false =>
      have hjt : bB.getD j true = false := by rw [Z79 (by omega)]; exact hb
      obtain ⟨m1, m2, h3, _, h4⟩ := Zl7 hsz hjt
      rw [hu] at h3
      cases m1 with
      | nil => simp at h3; omega
      | cons x m1 =>
       simp only [Y24, Y23] at h3
       have := (h4 x Y57).1
       omega
    have hoi : ops[i0]? = some ops[i0] := Array.getElem?_eq_getElem (by omega)
    have : i0 ∈ Region.ready .any ops bB := mem_ready.2 ⟨h2', ops[i0], hoi, fun x hx hb => Ax _ ((qT i0 _ hoi).1 x hx hb)⟩
    rw [hr] at this
    cases this
  ·obtain ⟨h1, o, ho, h2⟩ := mem_ready.1 hi
   obtain ⟨l1, l2, h3, h4, h5⟩ := Zl7 hsz h1
   have hcl := CD hsz hi hd
   rw [h3] at af
   obtain ⟨σ1, h6, h7⟩ := Zbe l1 l2 (fun j hj => by
    obtain ⟨h8, h9⟩ := h5 j hj
    rcases (qT i o ho).2.2 j h8 with h10 | h10
    ·have := hcl j h10
     have hjs : j < bB.size := by
      rcases Y79 j bB.size with h | h
      ·exact h
      ·simp [Array.getElem?_eq_none h] at this
     rw [Z79 hjs] at h9
     rw [this] at h9; cases h9
    ·exact h10) af
   have h8 := h6
   unfold gm at h8
   cases hmi : ms[i]? with
   | none => simp [hmi, Pg.run] at h8
   | some m =>
    simp only [hmi] at h8
    obtain ⟨o', ho', hmo⟩ := hm i m hmi
    have hil : i < ms.length := (Y36.1 hmi).1
    have hif : bB.getD i false = false := by rw [<- Z79 (by omega)]; exact h1
    refine Zcf h hmv (fun x hx hUx => ?_) (hF m (Y62 hmi)) ho' hmo (Zlv _ h8) _ Q (fun a' w' ow' J' jc => ?_)
    ·rcases hU x hUx with h9 | ⟨k, h9, h10⟩
     ·exact hfr x (Z5b (by omega) hx) h9
     ·have : k = i := Z5c hx h10
      subst this
      rw [hif] at h9; cases h9
    ·refine ih jc (by simp [hsz]) ?_ ?_ ?_ (by rw [h4]; exact h7)
     ·rw [h4]; rw [h3] at hf; simp at hf ⊢; omega
     ·intro k hk j hj
      by_cases hki : k = i
      ·subst hki
       exact getD_set_true (hcl j hj)
      ·rw [getD_set_ne false (Ne.symm hki)] at hk
       exact getD_set_true (hd k hk j hj)
     ·intro x hx
      rcases hx with hx | hx
      ·rcases hU x hx with h9 | ⟨k, h9, h10⟩
       ·exact .inl h9
       ·exact .inr ⟨k, getD_set_true h9, h10⟩
      ·refine .inr ⟨i, ?_, hx⟩
       simp [show i < bB.size by omega]
theorem Z3d (h : Rel X U J σ a w ow) (n : Nat) : Rel X U J σ a { w with drawn := n } ow := by
 have := Zm0 (dst := none) (av := .u) (v := undef) (w' := { w with drawn := n }) (ow' := ow) (J' := J) h (U' := U) (fun x hx => hx) ⟨fun b hb => ⟨hb, rfl⟩, fun b s q _ hb => ⟨hb, rfl⟩, h.low, h.air, Nat.le_refl _, fun b _ hb => ⟨hb, rfl⟩, rfl, rfl⟩ (fun d hd => by cases hd) trivial (fun c hc => by simp [AV.rc] at hc) (fun d hd => by cases hd)
 exact this.1
theorem Z3c (hmv : X.mv = mv0) (ic : X.P.follows .mixedOrders = true) {id : Nat} {ms : List aC} {ops : Array Oper} {fs : List (List Nat × List Nat)} {s : Sg} {σ' : St} (hg : Good X s a w) (hid : id ∉ s.us) (hl : ms.length < 999) (hm : fM X.P X.tab X.n X.bu ops ms ops.toList = true)
  (hdr : kL ops.toList fs (nI ops.toList []) = true)
  (hF : ∀ m ∈ ms, ∀ p ∈ m.op.calls, dB X.P X.tab p.1 p.2) (af : (ir id 0 ms fs).run s.σ = some ((), σ')) {Q : Exit -> Act -> World -> Prop} (hK : ∀ a' w', Good X ⟨σ', id :: s.us⟩ a' w' -> Q .normal a' w') :
  (Code.region id ops true).wp X.P Q a w := by
 obtain ⟨U, J, ow, hr, hf⟩ := hg.out
 obtain ⟨hlen, dp⟩ := Zcg hm
 have iL : ops.size = ms.length := by rw [hlen, Y0]
 have hfl : fs.length = ms.length := by
  have := hdr
  unfold kL at this
  simp only [Y2, beq_iff_eq] at this
  rw [this.1, <- hlen]
 refine wp_region_any ic ?_
 have hu : unl ms.length (Array.replicate ms.length false) = List.range' 0 ms.length := by
  unfold unl
  rw [List.filter_eq_self.2, List.range_eq_range']
  intro i hi
  have := Y64.1 hi
  simp [this]
 have iK : (je (gm id ms fs) (unl ms.length (Array.replicate ms.length false))).run s.σ = some ((), σ') := by
  rw [hu, <- Z57 hfl ms 0 rfl]
  exact af
 rw [iL]
 refine Zlw hmv hl iL hdr hF (fun j m hj => ?_) (U0 := U) (fun x hx => hf id hid x hx) (fun a' w' ow' J' jc => hK a' w' ⟨_, J', ow', jc, fun id' lQ x hx hU => ?_⟩) ms.length (Z3d hr _) (by simp) ?_ ?_ (fun x hx => .inl hx) iK
 ·obtain ⟨o, h1, h2⟩ := dp j m hj
  exact ⟨o, by simpa using h1, h2⟩
 ·simp only [Y55, not_or] at lQ
  rcases hU with hU | hU
  ·exact hf id' lQ.2 x hx hU
  ·exact lQ.1 (Z1i hU hx)
 ·rw [hu]; simp
 ·intro i hi
  rcases Y79 i ms.length with h | h <;> simp [h] at hi
end
end Go.Wr
namespace Go.Wr
section
variable {X : Cx} {a a' : Act} {w w' : World}
theorem Z9l (p : Nat -> Prop) {n : Nat} (h : p n) : ∃ m, p m /\ ∀ k, p k -> m <= k := by
 induction n using Nat.strongRecOn with
 | _ n ih =>
  by_cases hx : ∃ k, k < n /\ p k
  ·obtain ⟨k, hk, hp⟩ := hx
   exact ih k hk hp
  ·exact ⟨n, h, fun k hk => Nat.le_of_not_lt fun hlt => hx ⟨k, hlt, hk⟩⟩
open Classical in
noncomputable def least (p : Nat -> Prop) : Nat := if h : ∃ m, p m /\ ∀ k, p k -> m <= k then h.choose else 0
theorem Z9m {p : Nat -> Prop} {n : Nat} (h : p n) : p (least p) /\ ∀ k, p k -> least p <= k := by
 have := Z9l p h
 unfold least
 rw [dif_pos this]
 exact this.choose_spec
theorem Z38 (hmv : X.mv = mv0) (ic : X.P.follows .mixedOrders = true) : ∀ (m : bR) (c : Code) {s s' : Sg} {ex : Ex} {a : Act} {w : World} {Q : Exit -> Act -> World -> Prop}, dq X.P X.tab X.n X.bu m c = true -> (∀ p ∈ m.calls, dB X.P X.tab p.1 p.2) ->
  Good X s a w -> den m s = some (ex, s') -> (∀ a' w', Good X s' a' w' -> Q ex.Jp a' w') -> c.wp X.P Q a w
 | .sk, c, s, s', ex, a, w, Q, hc, hF, hg, hd, hK => by
  cases c <;> try simp only [dq, Y9] at hc
  simp only [den, Y89, Y90] at hd
  obtain ⟨rfl, rfl⟩ := hd
  exact wp_skip (hK _ _ hg)
 | .reg id none ms, c, s, s', ex, a, w, Q, hc, hF, hg, hd, hK => by
  cases c <;> try simp only [dq, Y9] at hc
  rename_i id' ops dr
  cases dr <;> simp only [dq, Y9] at hc
  simp only [Y2, beq_iff_eq, decide_eq_true_eq] at hc
  obtain ⟨⟨rfl, hl⟩, hm⟩ := hc
  simp only [den] at hd
  split at hd
  ·cases hd
  ·rename_i hid
   split at hd
   ·rename_i u σ' af
    simp only [Y89, Y90] at hd
    obtain ⟨rfl, rfl⟩ := hd
    exact Zet hmv hg (by simpa using hid) hl hm (fun m hm' p hp => hF p (Y58.2 ⟨m, hm', hp⟩)) af hK
   ·cases hd
 | .reg id (some fs) ms, c, s, s', ex, a, w, Q, hc, hF, hg, hd, hK => by
  cases c <;> try simp only [dq, Y9] at hc
  rename_i id' ops dr
  cases dr <;> simp only [dq, Y9] at hc
  simp only [Y2, beq_iff_eq, decide_eq_true_eq] at hc
  obtain ⟨⟨⟨rfl, hl⟩, hm⟩, hdr⟩ := hc
  simp only [den] at hd
  split at hd
  ·cases hd
  ·rename_i hid
   split at hd
   ·rename_i u σ' af
    simp only [Y89, Y90] at hd
    obtain ⟨rfl, rfl⟩ := hd
    exact Z3c hmv ic hg (by simpa using hid) hl hm hdr (fun m hm' p hp => hF p (Y58.2 ⟨m, hm', hp⟩)) af hK
   ·cases hd
 | .seq x y, c, s, s', ex, a, w, Q, hc, hF, hg, hd, hK => by
  cases c <;> simp only [dq, Y9] at hc
  simp only [Y2] at hc
  simp only [den] at hd
  cases hx : den x s with
  | none => simp [hx] at hd
  | some r =>
   obtain ⟨ex1, s1⟩ := r
   refine wp_seq (Z38 hmv ic x _ hc.1 (fun p hp => hF p (Y53 _ hp)) hg hx fun a1 w1 hg1 => ?_)
   cases ex1 with
   | nx =>
    simp only [hx] at hd
    exact Z38 hmv ic y _ hc.2 (fun p hp => hF p (Y54 _ hp)) hg1 hd hK
   | exit id =>
    simp only [hx, Y89, Y90] at hd
    obtain ⟨rfl, rfl⟩ := hd
    exact hK _ _ hg1
   | ret =>
    simp only [hx, Y89, Y90] at hd
    obtain ⟨rfl, rfl⟩ := hd
    exact hK _ _ hg1
 | .cond o x y, c, s, s', ex, a, w, Q, hc, hF, hg, hd, hK => by
  cases c <;> simp only [dq, Y9] at hc
  rename_i o' cx cy
  simp only [Y2] at hc
  simp only [den] at hd
  obtain ⟨U, J, ow, hr, hf⟩ := hg.out
  split at hd
  ·rename_i t σ1 af
   obtain ⟨_, bm⟩ := Zem hr hc.1.1 af
   have hv : a.eval o' = .bool t := by simpa [cw, rep] using bm
   refine wp_cond hv ?_
   cases t with
   | true => exact Z38 hmv ic x _ hc.1.2 (fun p hp => hF p (Y53 _ hp)) hg hd hK
   | false => exact Z38 hmv ic y _ hc.2 (fun p hp => hF p (Y54 _ hp)) hg hd hK
  ·cases hd
 | .blk id x, c, s, s', ex, a, w, Q, hc, hF, hg, hd, hK => by
  cases c <;> simp only [dq, Y9] at hc
  simp only [Y2, beq_iff_eq] at hc
  obtain ⟨rfl, hc⟩ := hc
  simp only [den] at hd
  cases hx : den x s with
  | none => simp [hx] at hd
  | some r =>
   obtain ⟨ex1, s1⟩ := r
   refine wp_block (Z38 hmv ic x _ hc hF hg hx fun a1 w1 hg1 => ?_)
   cases ex1 with
   | nx =>
    simp only [hx, Y89, Y90] at hd
    obtain ⟨rfl, rfl⟩ := hd
    exact hK _ _ hg1
   | exit id2 =>
    simp only [hx] at hd
    show Exit.inBlock id Q (.exit id2) a1 w1
    simp only [Exit.inBlock]
    split at hd
    ·rename_i he
     simp only [Y89, Y90] at hd
     obtain ⟨rfl, rfl⟩ := hd
     rw [if_pos he]
     exact hK _ _ hg1
    ·rename_i he
     simp only [Y89, Y90] at hd
     obtain ⟨rfl, rfl⟩ := hd
     rw [if_neg he]
     exact hK _ _ hg1
   | ret =>
    simp only [hx, Y89, Y90] at hd
    obtain ⟨rfl, rfl⟩ := hd
    exact hK _ _ hg1
 | .loop bd x, c, s, s', ex, a, w, Q, hc, hF, hg, hd, hK => by
  cases c <;> simp only [dq, Y9] at hc
  rename_i cx
  simp only [den, rounds] at hd
  split at hd
  ·rename_i hex
   generalize hex.choose = n at hd
   refine wp_loop (fun a w => ∃ n s, Good X s a w /\ iter (fun s => den x ⟨cL bd s.σ, []⟩) n s = some (ex, s')) (fun a w => least fun n => ∃ s, Good X s a w /\ iter (fun s => den x ⟨cL bd s.σ, []⟩) n s = some (ex, s')) ⟨n, s, hg, hd⟩ ?_
   rintro a1 w1 ⟨n1, s1, hg1, hi1⟩
   obtain ⟨⟨s2, hg2, hi2⟩, Ax⟩ := Z9m (p := fun n => ∃ s, Good X s a1 w1 /\ iter (fun s => den x ⟨cL bd s.σ, []⟩) n s = some (ex, s')) ⟨s1, hg1, hi1⟩
   generalize hm : least (fun n => ∃ s, Good X s a1 w1 /\ iter (fun s => den x ⟨cL bd s.σ, []⟩) n s = some (ex, s')) = m at hi2 Ax
   cases m with
   | zero => simp [iter] at hi2
   | succ m =>
    rw [Z8t] at hi2
    cases hx : den x ⟨cL bd s2.σ, []⟩ with
    | none => simp [hx] at hi2
    | some r =>
     obtain ⟨ex1, s3⟩ := r
     refine Z38 hmv ic x _ hc hF (hg2.cL bd) hx fun a3 w3 hg3 => ?_
     cases ex1 with
     | nx =>
      simp only [hx] at hi2
      refine ⟨⟨m, s3, hg3, hi2⟩, ?_⟩
      have := (Z9m (p := fun n => ∃ s, Good X s a3 w3 /\ iter (fun s => den x ⟨cL bd s.σ, []⟩) n s = some (ex, s')) ⟨s3, hg3, hi2⟩).2 m ⟨s3, hg3, hi2⟩
      omega
     | exit id =>
      simp only [hx, Y89, Y90] at hi2
      obtain ⟨rfl, rfl⟩ := hi2
      exact hK _ _ hg3
     | ret =>
      simp only [hx, Y89, Y90] at hi2
      obtain ⟨rfl, rfl⟩ := hi2
      exact hK _ _ hg3
  ·cases hd
 | .exit id, c, s, s', ex, a, w, Q, hc, hF, hg, hd, hK => by
  cases c <;> simp only [dq, Y9] at hc
  simp only [beq_iff_eq] at hc
  subst hc
  simp only [den, Y89, Y90] at hd
  obtain ⟨rfl, rfl⟩ := hd
  exact wp_exit (hK _ _ hg)
 | .ret, c, s, s', ex, a, w, Q, hc, hF, hg, hd, hK => by
  cases c <;> simp only [dq, Y9] at hc
  simp only [den, Y89, Y90] at hd
  obtain ⟨rfl, rfl⟩ := hd
  exact wp_ret (hK _ _ hg)
 | .bad, c, s, s', ex, a, w, Q, hc, hF, hg, hd, hK => by simp [den] at hd
end
end Go.Wr
namespace Go.Wr
def eU (ow : Nat -> Ow) : Nat -> Ow := fun b => match ow b with | .own (.ar i) q => .own (.sl i) q | o => o
theorem Z8m : ∀ (as : List Arg) (i : Nat) (σ : St) (s : Nat), ep i as σ s = match as[s - i]? with | some x => if i <= s then x.av s else σ s | none => σ s
 | [], i, σ, s => by simp [ep]
 | x :: as, i, σ, s => by
  simp only [ep]
  rw [Z8m as (i + 1)]
  by_cases h1 : s < i
  ·have h2 : s - i = 0 := by omega
   have h3 : s - (i + 1) = 0 := by omega
   rw [h2, h3]
   simp only [Y32, if_neg (by omega : ¬ i <= s)]
   cases as with
   | nil => simp [upd, Y81 h1]
   | cons y ys => simp [upd, Y81 h1]; omega
  ·by_cases h2 : s = i
   ·subst h2
    rw [Nat.sub_self]
    simp only [Y32, if_pos (Nat.le_refl s)]
    have h3 : s - (s + 1) = 0 := by omega
    rw [h3]
    cases as with
    | nil => simp [upd]
    | cons y ys => simp [upd]; omega
   ·have h3 : s - i = (s - (i + 1)) + 1 := by omega
    rw [h3, Y31]
    cases h4 : as[s - (i + 1)]? with
    | none => simp [upd, h2]
    | some y => simp only [if_pos (by omega : i + 1 <= s), if_pos (by omega : i <= s)]
end Go.Wr
namespace Go.Wr
section
variable {w : World} {ow : Nat -> Ow}
theorem Z8d : Zs w ow w (eU ow) := fun b hb => ⟨by simp [eU, hb], rfl⟩
theorem Z8c {b i : Nat} {q : List Nat} (hb : ow b = .own (.ar i) q) : eU ow b = .own (.sl i) q := by simp [eU, hb]
theorem Z8n {as : List Arg} {s : Nat} : ep 0 as (fun _ => .u) s = match as[s]? with | some x => x.av s | none => .u := by
 rw [Z8m, Nat.sub_zero]
 cases as[s]? <;> simp
theorem Z8k (X : Cx) (hmv : X.mv = mv0) {as : List Arg} {vs : List Value} (hl : vs.length = as.length) (hn : as.length <= X.n) (hsm : X.n <= 1000) (hw0 : X.w0 = w) (how : X.ow0 = eU ow) (eH : X.args = vs.toArray)
  (Li : ∀ i ∈ X.bu, i < as.length) (hA : ∀ (i : Nat) x v, as[i]? = some x -> vs[i]? = some v -> fL X.tab w ow i x v) (dX : ∀ b, ow b ≠ .no -> b < w.heap.size) (ij : ∀ b r q, ow b = .own r q -> ∃ i, r = .ar i /\ i < as.length)
  (hown : ∀ (i : Nat) t, as[i]? = some (.own t) -> ∃ sz es, t = .l .y sz es) :
  Rel X (fun x => x = 0) 0 (ep 0 as fun _ => .u) { tmps := vs.toArray ++ Array.replicate (X.n - vs.toArray.size) undef, defers := [] } w (eU ow) := by
 have bz : ∀ (s : Nat) v, vs[s]? = some v -> aK { tmps := vs.toArray ++ Array.replicate (X.n - vs.toArray.size) undef, defers := [] } s = v := fun s v hv => by
  have hs := (Y36.1 hv).1
  unfold aK
  rw [if_pos (by omega)]
  simp only [Array.getD_eq_getD_getElem?]
  rw [Array.getElem?_append_left (by simpa using hs)]
  simp [hv]
 refine ⟨by simp [hl]; omega, hsm, rfl, fun s => ?_, fun s => ?_, fun b hb => dX b fun e => hb (by simp [eU, e]), fun b i q hb => ?_, by rw [hw0]; exact Nat.le_refl _, fun b hb hr => ⟨by rw [hw0], by rw [how]⟩, by rw [hw0], by rw [hw0], fun i hi => ?_, fun s hs hu => ?_⟩
 ·rw [Z8n]
  cases hx : as[s]? with
  | none => trivial
  | some x =>
   have hs := (Y36.1 hx).1
   have hv : vs[s]? = some vs[s] := Y34 (by omega)
   rw [bz s _ hv]
   have ha := hA s x _ hx hv
   cases x with
   | x t =>
    show rep X.tab X.mv w (eU ow) none t [vs[s]]
    rw [hmv]
    exact Zg1 Z8d t (c := none) (c' := none) trivial ha
   | bx cs =>
    obtain ⟨b, arr, ty, fr, e1, e2, e3, e4, e5⟩ := ha
    refine ⟨b, arr, ty, fr, e1, Z8c e2, e3, e4, ?_⟩
    rw [hmv]
    exact Zfb Z8d cs (c := some (.ar s, [])) (c' := some (.sl s, [])) (fun b q hb => ⟨Z8c hb, rfl⟩) e5
   | own t =>
    obtain ⟨sz, es, rfl⟩ := hown s t hx
    refine ⟨⟨_, _, _, rfl, rfl⟩, ?_⟩
    rw [hmv]
    exact Zg1 Z8d _ (c := some (.ar s, [])) (c' := some (.sl s, [])) (fun b q hb => ⟨Z8c hb, rfl⟩) ha
   | st cs =>
    obtain ⟨vv, e1, e2⟩ := ha
    refine ⟨vv, e1, Z2j _ 0 vv.toList (by rw [Zf8 e2]; simp) fun j c u h1 h2 => ?_⟩
    rw [Y37] at h1
    obtain ⟨t, ht, rfl⟩ := Y87.1 h1
    obtain ⟨u', h3, h4⟩ := Zf7 e2 ht
    rw [h2] at h3
    cases h3
    show rep X.tab X.mv w (eU ow) _ t [u]
    rw [hmv]
    exact Zg1 Z8d t (c := none) trivial h4
   | mu t =>
    obtain ⟨⟨sz, es, rfl⟩, ha⟩ := ha
    refine ⟨⟨_, _, _, rfl, rfl⟩, ?_⟩
    rw [hmv]
    exact Zg1 Z8d _ (c := some (.ar s, [])) (c' := some (.sl s, [])) (fun b q hb => ⟨Z8c hb, rfl⟩) ha
   | ms cs =>
    obtain ⟨vv, e1, e2⟩ := ha
    refine ⟨vv, e1, Z2j _ 0 vv.toList (by rw [Zf8 e2]; simp) fun j c u h1 h2 => ?_⟩
    rw [Y37] at h1
    obtain ⟨t, ht, rfl⟩ := Y87.1 h1
    obtain ⟨u', h3, h4⟩ := Zf7 e2 ht
    rw [h2] at h3
    cases h3
    show rep X.tab X.mv w (eU ow) _ t [u]
    rw [hmv]
    exact Zg1 Z8d t (c := some (.ar s, [0 + j])) (c' := some (.sl s, [0 + j])) (fun b q hb => ⟨Z8c hb, rfl⟩) h4
 ·rw [Z8n]
  cases hx : as[s]? with
  | none => trivial
  | some x =>
   cases x with
   | x t => trivial
   | bx cs => exact ⟨rfl, rfl, rfl⟩
   | own t => exact ⟨rfl, rfl, rfl⟩
   | st cs =>
    intro c hc
    obtain ⟨t, _, rfl⟩ := Y60.1 hc
    trivial
   | mu t => exact ⟨rfl, rfl, rfl⟩
   | ms cs =>
    intro c hc
    obtain ⟨t, _, rfl⟩ := Y60.1 hc
    trivial
 ·unfold eU at hb
  cases ho : ow b with
  | no => simp [ho] at hb
  | z => simp [ho] at hb
  | own r q' =>
   obtain ⟨j, rfl, _⟩ := ij b r q' ho
   simp [ho] at hb
 ·rw [eH]
  have := Li i hi
  rw [Array.getElem?_append_left (by simp; omega)]
 ·rw [Z8n] at hu
  have : as[s]? = none := Y35 (by omega)
  rw [this] at hu
  exact absurd rfl hu
end
end Go.Wr
namespace Go.Wr
section
variable {X : Cx} {U : Nat -> Prop} {J J' : Nat} {σ σ' σ2 : St} {a a' a2 : Act} {w w' w2 : World} {ow ow' ow2 : Nat -> Ow} {e : Nat} {o : Oper}
def Lj (X : Cx) (w : World) (ow : Nat -> Ow) (lo hi : Nat) (ix : Nat -> Nat) (r : RV) (v : Value) : Prop :=
 match r with
 | .one t => Air X w ow lo hi [t] [v] ix
 | .st cs => ∃ vs : Array Value, v = .agg vs /\ Air X w ow lo hi cs vs.toList ix
def jr (P : Program) : gA -> ResultVar -> Bool
 | .tmp s, .tmp t => s == t && decide (s < 1000)
 | .cell s none, .cell b t => s == b && decide (s < 1000) && fk P t false
 | .cell s (some n), .cell b t => s == b && decide (s < 1000) && fk P t true && fB P t n
 | _, _ => false
def gU (tmps : Array Value) : ResultVar -> Sem Value
 | .tmp t => pure (tmps.getD t undef)
 | .cell b t => do loadVar t (<- asAddr (tmps.getD b undef))
theorem Z1r (h : Rel X U J σ a w ow) {s : Nat} {k : K} {cs : List T} (hσ : σ s = .box k cs) : ∃ ow' b arr ty fr, aK a s = .pointer (some ⟨b, 0, none⟩) /\ w.heap[b]? = some (.cells arr ty fr) /\
  Gh X U J (J + cs.length) σ a w ow (upd σ s .u) ow' /\ Air X w ow' J (J + cs.length) cs arr.toList (fun j => J + j) := by
 have hs := h.slot s
 rw [hσ] at hs
 obtain ⟨b, arr, ty, fr, e1, e2, e3, e4, e5⟩ := hs
 have hz : Zs w ow w (cI ow s J cs.length) := fun b hb => ⟨by simp [cI, hb], rfl⟩
 have hg := Z7b (J' := J + cs.length) (v' := .u) (ow' := cI ow s J cs.length) h (r := s) (by simp [aP]) (by simp [AV.stamps]) hz (fun b r' q hr hb => by
   unfold cI; rw [hb]
   cases r' with
   | sl y => simp only; rw [if_neg (fun e => hr (by rw [e]))]
   | ar y => rfl
   | rs y => rfl) (fun b hb => by simp [cI, hb]) (fun b i q hb => by
   unfold cI at hb
   cases hob : ow b with
   | no => simp [hob] at hb
   | z => simp [hob] at hb
   | own r' q' =>
    rw [hob] at hb
    cases r' with
    | sl y =>
     simp only at hb
     split at hb
     ·split at hb
      ·split at hb
       ·simp at hb; omega
       ·cases hb
      ·cases hb
     ·cases hb
    | ar y => have := h.air b y q' hob; simp at hb; omega
    | rs y => cases hb) (aQ.fresh fun c' hc' => by simp [upd, AV.rc] at hc') (by rw [hσ]; simp) (fun n => by rw [hσ]; simp)
 refine ⟨cI ow s J cs.length, b, arr, ty, fr, e1, e3, ⟨hg.1, hz, fun b i q _ hb => by simp [cI, hb], hg.2⟩, ⟨Zf8 e5, fun j t v ht hv => ?_, fun j hj => ⟨by omega, by omega⟩, fun i j _ _ e => by omega⟩⟩
 obtain ⟨u, h1, h2⟩ := Zf7 e5 ht
 rw [hv] at h1
 cases h1
 have hjl := (Y36.1 ht).1
 rw [Y83] at h2
 exact Zg1 hz t (c := some (.sl s, [j])) (fun b q hb => ⟨by simp only [Y24, Y66] at hb; simp [cI, hb, hjl], rfl⟩) h2
theorem Zg2 (h : Rel X U J σ a w ow) {x : gA} {y : ResultVar} (hx : jr X.P x y = true) {r : RV} (af : (nY x).run σ = some (r, σ')) :
  ∃ v J' ow' ix, J <= J' /\ Gh X U J J' σ a w ow σ' ow' /\ (gU a.tmps y).run X.P w = .ok v w /\ Lj X w ow' J J' ix r v := by
 cases x with
 | tmp s =>
  cases y <;> simp only [jr, Y9, Y2, beq_iff_eq, decide_eq_true_eq] at hx
  obtain ⟨rfl, hs1⟩ := hx
  simp only [nY] at af
  obtain ⟨v0, σ1, h1, h2⟩ := Zh3 af
  obtain ⟨rfl, rfl⟩ := Zhj h1
  obtain ⟨ts, σ2, h3, h4⟩ := Zh3 h2
  obtain ⟨J', ow', ix, hJ, hg, bF⟩ := Z7l h (x := .t s) (o := .tmp s) (by simp [Opd.is, hs1]) h3
  have hev : a.eval (.tmp s) = aK a s := Z43 hs1
  rw [hev] at bF
  have hs := h.slot s
  have hrr : (gU a.tmps (.tmp s)).run X.P w = .ok (aK a s) w := by
   unfold aK
   rw [if_pos hs1]
   rfl
  by_cases hst : ∃ cs, σ1 s = .st cs
  ·obtain ⟨cs, hσ⟩ := hst
   rw [hσ] at h4 hs
   obtain ⟨rfl, rfl⟩ := Zhk h4
   obtain ⟨vs, hv, _⟩ := hs
   refine ⟨_, J', ow', ix, hJ, hg, hrr, vs, hv, ?_⟩
   rw [hv] at bF
   exact bF
  ·have h5 : ∃ t, ts = [t] /\ r = .one t /\ σ' = σ2 := by
    cases hσ : σ1 s <;> rw [hσ] at h4
    case st cs => exact absurd ⟨cs, hσ⟩ hst
    all_goals
     match ts, h4 with
     | [t], h4 => obtain ⟨rfl, rfl⟩ := Zhk h4; exact ⟨t, rfl, rfl, rfl⟩
     | [], h4 => simp [Pg.run] at h4
     | _ :: _ :: _, h4 => simp [Pg.run] at h4
   obtain ⟨t, rfl, rfl, rfl⟩ := h5
   refine ⟨_, J', ow', ix, hJ, hg, hrr, ?_⟩
   have hone : dK (aK a s) = true := by
    have h6 := h3
    unfold dz at h6
    obtain ⟨v1, σ3, h7, h8⟩ := Zh3 h6
    simp only [raw] at h7
    obtain ⟨rfl, rfl⟩ := Zhj h7
    cases hσ : σ3 s <;> rw [hσ] at h8 hs <;> try simp only [Pg.run, reduceCtorEq] at h8
    case x t0 => simpa using Zfo _ hs
    case own k t0 => simpa using Zfo _ hs.2
    case w r k p z lo n =>
     obtain ⟨⟨A, C, hv, _⟩, _⟩ := hs
     rw [hv]; rfl
    case st cs => exact absurd ⟨_, hσ⟩ hst
   have bA : (aK a s).cells.toList = [aK a s] := by
    cases hv : aK a s <;> rw [hv] at hone <;> first | rfl | simp [dK] at hone
   rw [bA] at bF
   exact bF
 | cell s agg =>
  simp only [nY] at af
  obtain ⟨v0, σ1, h1, h2⟩ := Zh3 af
  obtain ⟨rfl, rfl⟩ := Zhj h1
  cases hσ : σ1 s <;> rw [hσ] at h2 <;> try simp only [Pg.run, reduceCtorEq] at h2
  rename_i k cs
  obtain ⟨ow', b, arr, ty, fr, hv, hh, hg, bF⟩ := Z1r h hσ
  have hwr : ∀ (rv : RV), ((Pg.wr s .u).bind fun _ => (pure rv : Pg RV)).run σ1 = some (rv, upd σ1 s .u) := fun rv => rfl
  cases y <;> cases agg <;> simp only [jr, Y9, Y2, beq_iff_eq, decide_eq_true_eq] at hx
  ·obtain ⟨⟨rfl, hs1⟩, hty⟩ := hx
   match cs, h2, bF, hg with
   | [], h2, _, _ => simp [Pg.run] at h2
   | _ :: _ :: _, h2, _, _ => simp [Pg.run] at h2
   | [t], h2, bF, hg =>
    simp only at h2
    rw [hwr] at h2
    simp only [Y89, Y90] at h2
    obtain ⟨rfl, rfl⟩ := h2
    have hal := bF.len
    obtain ⟨u, hu⟩ : ∃ u, arr.toList = [u] := Y43.1 hal
    rw [hu] at bF
    refine ⟨u, J + 1, ow', fun j => J + j, by omega, hg, ?_, bF⟩
    unfold aK at hv
    rw [if_pos hs1] at hv
    simp only [gU, hv]
    rw [Zhl (x := ⟨b, 0, none⟩) (w' := w) rfl]
    refine Zhc hty ?_
    rw [Z2h hh, <- Array.getElem?_toList, hu]
    rfl
  ·obtain ⟨⟨⟨rfl, hs1⟩, hty⟩, hsz⟩ := hx
   simp only at h2
   split at h2
   ·rename_i hcl
    rw [hwr] at h2
    simp only [Y89, Y90] at h2
    obtain ⟨rfl, rfl⟩ := h2
    refine ⟨.agg arr, J + cs.length, ow', fun j => J + j, by omega, hg, ?_, arr, rfl, bF⟩
    unfold aK at hv
    rw [if_pos hs1] at hv
    simp only [gU, hv]
    rw [Zhl (x := ⟨b, 0, none⟩) (w' := w) rfl]
    have := Zhd (w := w) (P := X.P) hty hsz (Z13 hh) (by rw [bF.len]; exact hcl)
    simpa using this
   ·simp [Pg.run] at h2
end
end Go.Wr
namespace Go.Wr
theorem Zaq {P : Program} {w : World} {f : ResultVar -> Sem Value} : ∀ (ys : List ResultVar) (vs : List Value), vs.length = ys.length -> (∀ (k : Nat) y v, ys[k]? = some y -> vs[k]? = some v -> (f y).run P w = .ok v w) -> (ys.mapM f).run P w = .ok vs w
 | [], [], _, _ => by simp [Pure.pure, Sem.run]
 | [], _ :: _, h, _ => by simp at h
 | _ :: _, [], h, _ => by simp at h
 | y :: ys, v :: vs, hl, hr => by
  rw [List.mapM_cons, Zhl (hr 0 y v rfl rfl), Zhl (Zaq ys vs (by simpa using hl) fun k y' v' h1 h2 => hr (k + 1) y' v' (by simpa using h1) (by simpa using h2))]
  rfl
theorem Zgb {P : Program} {fn : Func} {tmps : Array Value} {w : World} {ys : List ResultVar} (h : fn.results.toList = ys) {vs : List Value} (hl : vs.length = ys.length)
  (hr : ∀ (k : Nat) y v, ys[k]? = some y -> vs[k]? = some v -> (gU tmps y).run P w = .ok v w) :
  (Go.results fn tmps).run P w = .ok (match vs with | [v] => v | vs => .tuple vs.toArray) w := by
 have ha : fn.results = ys.toArray := by rw [<- h]
 have key : ∀ {α β : Type} (s : Sem α) (f : α -> Sem β) {x : α}, s.run P w = .ok x w -> (s >>= f).run P w = (f x).run P w := fun s f x hs => Zhl hs
 unfold Go.results
 rw [ha]
 have go : ∀ (r : Sem (Array Value)), r.run P w = .ok vs.toArray w -> (do let vs <- r; pure (if h : vs.size = 1 then vs[0] else .tuple vs) : Sem Value).run P w = .ok (match vs with | [v] => v | vs => .tuple vs.toArray) w := fun r hr => by
  rw [key _ _ hr]
  match vs with
  | [] => rfl
  | [v] => rfl
  | v1 :: v2 :: vs => simp [Pure.pure, Sem.run]
 refine go _ ?_
 suffices hs : (ys.toArray.mapM (gU tmps)).run P w = .ok vs.toArray w by
  have hf : ∀ (f : ResultVar -> Sem Value), (∀ x, f x = gU tmps x) -> (ys.toArray.mapM f).run P w = .ok vs.toArray w := fun f h => by rw [funext h]; exact hs
  exact hf _ (fun x => by cases x <;> rfl)
 rw [List.mapM_toArray]
 have hl2 := Zaq (P := P) (w := w) ys vs hl hr
 show ((List.toArray <$> ys.mapM (gU tmps) : Sem _)).run P w = _
 rw [map_eq_pure_bind, key _ _ hl2]
 rfl
section
variable {X : Cx} {U : Nat -> Prop} {J J' : Nat} {σ σ' σ2 : St} {a a' a2 : Act} {w w' w2 : World} {ow ow' ow2 : Nat -> Ow} {e : Nat} {o : Oper}
def RvM (X : Cx) (w : World) (ow : Nat -> Ow) (B : Nat) (M : Nat -> Option (Nat × List Nat)) (j : Nat) (r : RV) (v : Value) : Prop :=
 match r with
 | .one t => ∃ n, n < B /\ M n = some (j, []) /\ rep X.tab X.mv w ow (some (.ar n, [])) t [v]
 | .st cs => ∃ (vs : Array Value) (ix : Nat -> Nat), v = .agg vs /\ vs.size = cs.length /\ ∀ (k : Nat) t u, cs[k]? = some t -> vs[k]? = some u -> ix k < B /\ M (ix k) = some (j, [k]) /\ rep X.tab X.mv w ow (some (.ar (ix k), [])) t [u]
def nL (lo hi j : Nat) (one : Bool) (n : Nat) (ix : Nat -> Nat) (M : Nat -> Option (Nat × List Nat)) : Nat -> Option (Nat × List Nat) := fun i =>
 if lo <= i /\ i < hi then (eu n ix (fun k => if one then [] else [k]) i).map fun p => (j, p) else M i
theorem Zg4 : ∀ (xs : List gA) (ys : List ResultVar) {J : Nat} {σ σ' : St} {ow : Nat -> Ow} {rs : List RV} (j0 : Nat) (M : Nat -> Option (Nat × List Nat)), Rel X U J σ a w ow -> xs.length = ys.length -> (∀ (k : Nat) x y, xs[k]? = some x -> ys[k]? = some y -> jr X.P x y = true) ->
  (pf xs).run σ = some (rs, σ') ->
  ∃ (vs : List Value) (J' : Nat) (ow' : Nat -> Ow) (M' : Nat -> Option (Nat × List Nat)), J <= J' /\ Gh X U J J' σ a w ow σ' ow' /\ vs.length = ys.length /\ rs.length = ys.length /\ (∀ (k : Nat) y v, ys[k]? = some y -> vs[k]? = some v -> (gU a.tmps y).run X.P w = .ok v w) /\
   (∀ n, n < J -> M' n = M n) /\ (∀ n j p, J <= n -> n < J' -> M' n = some (j, p) -> j < j0 + rs.length) /\ (∀ (k : Nat) r v, rs[k]? = some r -> vs[k]? = some v -> RvM X w ow' J' M' (j0 + k) r v)
 | [], [], J, σ, σ', ow, rs, j0, M, h, hl, hx, af => by
  obtain ⟨rfl, rfl⟩ := Zhk af
  exact ⟨[], J, ow, M, Nat.le_refl _, Gh.refl h (Nat.le_refl _), rfl, rfl, fun k y v hy => by simp at hy, fun _ _ => rfl, fun n j p h1 h2 => by omega, fun k r v hr => by simp at hr⟩
 | [], _ :: _, _, _, _, _, _, _, _, h, hl, hx, af => by simp at hl
 | _ :: _, [], _, _, _, _, _, _, _, h, hl, hx, af => by simp at hl
 | x :: xs, y :: ys, J, σ, σ', ow, rs, j0, M, h, hl, hx, af => by
  simp only [pf] at af
  obtain ⟨r, σ1, h1, h2⟩ := Zh3 af
  obtain ⟨rs', σ2, h3, h4⟩ := Zh3 h2
  obtain ⟨rfl, rfl⟩ := Zhk h4
  obtain ⟨v, J1, ow1, ix, hJ1, hg1, hv, hrv⟩ := Zg2 h (hx 0 x y rfl rfl) h1
  obtain ⟨n, one, hM⟩ : ∃ (n : Nat) (one : Bool), RvM X w ow1 J1 (nL J J1 j0 one n ix M) j0 r v := by
   cases r with
   | one t =>
    have h5 := hrv.bnd 0 (by simp)
    refine ⟨1, true, ix 0, h5.2, ?_, ?_⟩
    ·unfold nL
     rw [if_pos h5, Z5j (fun i j hi hj _ => by omega) (by omega)]
     rfl
    ·exact hrv.rep 0 t v rfl rfl
   | st cs =>
    obtain ⟨vs, rfl, ha⟩ := hrv
    refine ⟨cs.length, false, vs, ix, rfl, by simpa using ha.len, fun k t u ht hu => ⟨(ha.bnd k (Y36.1 ht).1).2, ?_, ha.rep k t u ht (by simpa using hu)⟩⟩
    have hk := (Y36.1 ht).1
    have h5 := ha.bnd k hk
    unfold nL
    rw [if_pos h5, Z5j ha.inj hk]
    rfl
  obtain ⟨vs, J2, ow2, M2, hJ2, hg2, hl2, hl3, hvs, hM1, hM2, hM3⟩ := Zg4 xs ys (j0 + 1) (nL J J1 j0 one n ix M) hg1.rel (by simpa using hl) (fun k x' y' h5 h6 => hx (k + 1) x' y' (by simpa using h5) (by simpa using h6)) h3
  refine ⟨v :: vs, J2, ow2, M2, by omega, hg1.trans hg2 hJ1, by simp [hl2], by simp [hl3], fun k y' v' hy hv' => ?_, fun m hm => ?_, fun m j p hm1 hm2 hmm => ?_, fun k r' v' hr hv' => ?_⟩
  ·cases k with
   | zero => simp at hy hv'; subst hy hv'; exact hv
   | succ k => exact hvs k y' v' (by simpa using hy) (by simpa using hv')
  ·rw [hM1 m (by omega)]
   unfold nL
   rw [if_neg (by omega)]
  ·simp only [Y42]
   by_cases hm : m < J1
   ·rw [hM1 m hm] at hmm
    unfold nL at hmm
    rw [if_pos ⟨hm1, hm⟩] at hmm
    obtain ⟨p', _, hp⟩ := Y87.1 hmm
    simp only [Y90] at hp
    omega
   ·have := hM2 m j p (by omega) hm2 hmm
    omega
  ·cases k with
   | succ k =>
    have := hM3 k r' v' (by simpa using hr) (by simpa using hv')
    rw [show j0 + 1 + k = j0 + (k + 1) by omega] at this
    exact this
   | zero =>
    simp at hr hv'
    subst hr hv'
    have air : ∀ i t u q, i < J1 -> rep X.tab X.mv w ow1 (some (.ar i, q)) t u -> rep X.tab X.mv w ow2 (some (.ar i, q)) t u := fun i t u q hi hr => Zg1 hg2.z t (c := some (.ar i, q)) (fun b q' hb => ⟨hg2.air b i _ hi hb, rfl⟩) hr
    cases r with
    | one t =>
     obtain ⟨i, h5, h6, h7⟩ := hM
     exact ⟨i, by omega, by rw [Y75, hM1 i h5]; exact h6, air i t _ _ h5 h7⟩
    | st cs =>
     obtain ⟨us, ix', rfl, h5, h6⟩ := hM
     refine ⟨us, ix', rfl, h5, fun k t u ht hu => ?_⟩
     obtain ⟨h7, h8, h9⟩ := h6 k t u ht hu
     exact ⟨by omega, by rw [Y75, hM1 _ h7]; exact h8, air _ t _ _ h7 h9⟩
end
end Go.Wr
namespace Go.Wr
def fl (bu : List Nat) (M : Nat -> Option (Nat × List Nat)) (ow : Nat -> Ow) : Nat -> Ow := fun b =>
 match ow b with
 | .no => .no
 | .z => .z
 | .own (.sl s) q => if s ∈ bu then .own (.ar s) q else .no
 | .own (.ar n) q => match M n with
  | some (j, p) => .own (.rs j) (p ++ q)
  | none => .no
 | .own (.rs _) _ => .no
section
variable {X : Cx} {U : Nat -> Prop} {J J' : Nat} {σ σ' σ2 : St} {a a' a2 : Act} {w w' w2 : World} {ow ow' ow2 : Nat -> Ow} {e : Nat} {o : Oper}
theorem Zco {bu : List Nat} {M : Nat -> Option (Nat × List Nat)} : Zs w ow w (fl bu M ow) := fun b hb => ⟨by simp [fl, hb], rfl⟩
theorem Zcn {bu : List Nat} {M : Nat -> Option (Nat × List Nat)} {n j : Nat} {p : List Nat} (hM : M n = some (j, p)) : Tr w ow w (fl bu M ow) (some (.ar n, [])) (some (.rs j, p)) := fun b q hb => ⟨by simp only [Y66] at hb; simp [fl, hb, hM], rfl⟩
theorem Zhz {bu : List Nat} {M : Nat -> Option (Nat × List Nat)} (hmv : X.mv = mv0) {B j : Nat} {r : RV} {v : Value} (h : RvM X w ow B M j r v) : j3 X.tab w (fl bu M ow) j r v := by
 unfold RvM at h
 rw [hmv] at h
 cases r with
 | one t =>
  obtain ⟨n, _, h1, h2⟩ := h
  exact Zg1 Zco t (Zcn h1) h2
 | st cs =>
  obtain ⟨us, ix, rfl, h1, h2⟩ := h
  refine ⟨us, rfl, Zfa (by simpa using h1) fun k t u ht hu => ?_⟩
  obtain ⟨_, h3, h4⟩ := h2 k t u ht (by simpa using hu)
  rw [Y83]
  exact Zg1 Zco t (Zcn h3) h4
theorem Z1g (h : Rel X U J σ a w ow) (hmv : X.mv = mv0) {M : Nat -> Option (Nat × List Nat)} {vs0 : List Value} (eH : X.args = vs0.toArray) (hsm : vs0.length <= 1000) : ∀ (as : List Arg) (vs : List Value) (i : Nat) {bs : List (List T)} {σ' : St}, vs.length = as.length -> vs0.drop i = vs -> (∀ k ∈ e8 i as, k ∈ X.bu) ->
  as.all Arg.gv = true -> (l8 (e8 i as)).run σ = some (bs, σ') -> σ' = σ /\ cR X.tab w (fl X.bu M ow) i as vs bs
 | [], [], i, bs, σ', hl, hd, hp, hf, af => by
  simp only [e8, l8] at af
  obtain ⟨rfl, rfl⟩ := Zhk af
  exact ⟨rfl, trivial⟩
 | [], _ :: _, i, bs, σ', hl, hd, hp, hf, af => by simp at hl
 | _ :: _, [], i, bs, σ', hl, hd, hp, hf, af => by simp at hl
 | x :: as, v :: vs, i, bs, σ', hl, hd, hp, hf, af => by
  simp only [Y17, Y2] at hf
  have hd' : vs0.drop (i + 1) = vs := by
   rw [<- List.drop_drop, hd]; rfl
  have hi : i < vs0.length := by
   by_cases hlt : i < vs0.length
   ·exact hlt
   ·rw [List.drop_eq_nil_of_le (by omega)] at hd; cases hd
  have hvi : vs0[i]? = some v := by
   have := congrArg (fun l => l[0]?) hd
   simpa using this
  cases x with
  | bx cs =>
   simp only [e8, l8] at af hp
   obtain ⟨av, σ1, h1, h2⟩ := Zh3 af
   obtain ⟨hav, hse⟩ := Zhj h1
   rw [hse, hav] at h2
   cases hσ : σ i <;> rw [hσ] at h2 <;> try simp only [Pg.run, reduceCtorEq] at h2
   rename_i k cs'
   split at h2
   ·obtain ⟨bs', σ2, h3, h4⟩ := Zh3 h2
    obtain ⟨rfl, Lk⟩ := Zhk h4
    obtain ⟨e1, h5⟩ := Z1g h hmv eH hsm as vs (i + 1) (by simpa using hl) hd' (fun k hk => hp k (Y56 _ hk)) hf.2 h3
    refine ⟨Lk.trans e1, ?_, h5⟩
    have hs := h.slot i
    rw [hσ] at hs
    obtain ⟨b, arr, ty, fr, e1, e2, e3, e4, e5⟩ := hs
    have hip : i ∈ X.bu := hp i Y57
    have bz : aK a i = v := by
     have := h.bu i hip
     unfold aK
     rw [if_pos (by omega), Array.getD_eq_getD_getElem?, this, eH]
     simp [hvi]
    rw [bz] at e1
    have hc : ∀ b q, ow b = .own (.sl i) q -> fl X.bu M ow b = .own (.ar i) q := fun b q hb => by simp [fl, hb, hip]
    refine ⟨b, arr, ty, fr, e1, hc b [] e2, e3, e4, ?_⟩
    rw [hmv] at e5
    exact Zfb Zco cs' (c := some (.sl i, [])) (c' := some (.ar i, [])) (fun b q hb => ⟨hc b _ hb, rfl⟩) e5
   ·simp [Pg.run] at h2
  | x t => exact Z1g h hmv eH hsm as vs (i + 1) (by simpa using hl) hd' hp hf.2 af
  | own t => exact Z1g h hmv eH hsm as vs (i + 1) (by simpa using hl) hd' hp hf.2 af
  | st cs => exact Z1g h hmv eH hsm as vs (i + 1) (by simpa using hl) hd' hp hf.2 af
  | mu t => simp [Arg.gv] at hf
  | ms t => simp [Arg.gv] at hf
theorem Z9o (h : Rel X U J σ a w ow) (hmv : X.mv = mv0) {f : aA} {fn : Func} {as : List Arg} {vs : List Value} {ow0 : Nat -> Ow} {out : Out} (how : X.ow0 = eU ow0) (dX : ∀ b, ow0 b ≠ .no -> b < X.w0.heap.size)
  (eH : X.args = vs.toArray) (hsm : vs.length <= 1000) (hl : vs.length = as.length) (hp : X.bu = f.bu) (hok : kG f as = true)
  (hxl : f.res.length = fn.results.toList.length) (hx : ∀ (k : Nat) x y, f.res[k]? = some x -> fn.results.toList[k]? = some y -> jr X.P x y = true) (af : (leave f).run σ = some (out, σ')) :
  ∃ v ow', (Go.results fn a.tmps).run X.P w = .ok v w /\ gS X.tab as vs out X.w0 ow0 w ow' v := by
 unfold leave at af
 obtain ⟨rs, σ1, h1, h2⟩ := Zh3 af
 obtain ⟨bs, σ2, h3, h4⟩ := Zh3 h2
 obtain ⟨rfl, rfl⟩ := Zhk h4
 unfold kG at hok
 simp only [Y2, beq_iff_eq] at hok
 obtain ⟨⟨hal, hpo⟩, qU⟩ := hok
 obtain ⟨us, J1, ow1, M, hJ, hg, hul, hrl, hus, hM1, hM2, hM3⟩ := Zg4 f.res fn.results.toList 0 (fun _ => none) h hxl hx h1
 have hR := hg.rel
 rw [<- hpo] at h3
 obtain ⟨e1, mf⟩ := Z1g (M := M) hR hmv eH hsm as vs 0 hl (by simp) (fun k hk => by rw [hp, <- hpo]; exact hk) qU h3
 have pt : ∀ b, b < X.w0.heap.size -> (∀ r q, X.ow0 b ≠ .own r q) -> w.heap[b]? = X.w0.heap[b]? /\ ow1 b = X.ow0 b := hR.same
 refine ⟨_, fl X.bu M ow1, Zgb rfl hul hus, ?_, ?_, ?_, hR.grown, hR.os, hR.output, ?_, mf, ?_⟩
 ·intro b hb
  have hb0 : X.ow0 b = .z := by rw [how]; simp [eU, hb]
  obtain ⟨h5, h6⟩ := pt b (dX b (by rw [hb]; simp)) (fun r q => by rw [hb0]; simp)
  exact ⟨by simp [fl, h6, hb0], h5⟩
 ·intro b hlt hb
  have hb0 : X.ow0 b = .no := by rw [how]; simp [eU, hb]
  obtain ⟨h5, h6⟩ := pt b hlt (fun r q => by rw [hb0]; simp)
  exact ⟨by simp [fl, h6, hb0], h5⟩
 ·intro b hb
  exact hR.low b fun e => hb (by simp [fl, e])
 ·-- the results
  have hone : ∀ (k : Nat) r v, rs[k]? = some r -> us[k]? = some v -> j3 X.tab w (fl X.bu M ow1) k r v := fun k r v h5 h6 => by
   have := hM3 k r v h5 h6
   rw [Y83] at this
   exact Zhz hmv this
  unfold n9
  match rs, us, (hrl.trans hul.symm : rs.length = us.length), hone with
  | [r], [v], _, hone => exact hone 0 r v rfl rfl
  | [], [], _, hone => exact ⟨#[], rfl, rfl, fun j r u hr => by simp at hr⟩
  | r :: r2 :: rs, v :: v2 :: us, hlen, hone => exact ⟨(v :: v2 :: us).toArray, rfl, by simp at hlen; simp [hlen], fun j r u hr hu => hone j r u hr (by simpa using hu)⟩
  | [_], _ :: _ :: _, hlen, _ => simp at hlen
  | _ :: _ :: _, [_], hlen, _ => simp at hlen
  | [], _ :: _, hlen, _ => simp at hlen
  | _ :: _, [], hlen, _ => simp at hlen
 ·intro b j q hb
  unfold fl at hb
  cases hob : ow1 b with
  | no => simp [hob] at hb
  | z => simp [hob] at hb
  | own r q' =>
   rw [hob] at hb
   cases r with
   | sl s => simp only at hb; split at hb <;> cases hb
   | rs s => cases hb
   | ar n =>
    simp only at hb
    split at hb
    ·rename_i j' p hMn
     simp only [Ow.own.injEq, aH.rs.injEq] at hb
     have hn := hR.air b n q' hob
     by_cases hnJ : n < J
     ·rw [hM1 n hnJ] at hMn; cases hMn
     ·have := hM2 n j' p (by omega) hn hMn
      show j < rs.length
      omega
    ·cases hb
end
end Go.Wr
namespace Go.Wr
def jJ (P : Program) : List gA -> List ResultVar -> Bool
 | [], [] => true
 | x :: xs, y :: ys => jr P x y && jJ P xs ys
 | _, _ => false
theorem Zg3 {P : Program} : ∀ {xs : List gA} {ys : List ResultVar}, jJ P xs ys = true -> xs.length = ys.length /\ ∀ (k : Nat) x y, xs[k]? = some x -> ys[k]? = some y -> jr P x y = true
 | [], [], _ => ⟨rfl, fun k x y h => by simp at h⟩
 | [], _ :: _, h => by simp [jJ] at h
 | _ :: _, [], h => by simp [jJ] at h
 | x :: xs, y :: ys, h => by
  simp only [jJ, Y2] at h
  obtain ⟨h1, h2⟩ := Zg3 h.2
  refine ⟨by simp [h1], fun k x' y' hx hy => ?_⟩
  cases k with
  | zero => simp at hx hy; subst hx hy; exact h.1
  | succ k => exact h2 k x' y' (by simpa using hx) (by simpa using hy)
def aq (P : Program) (tab : Nat -> FuncId) (f : aA) (fn : Func) : Bool :=
 match fn.body with
 | some c => dq P tab fn.ntmps f.bu f.code c && jJ P f.res fn.results.toList && decide (f.ar <= fn.ntmps) && decide (fn.ntmps <= 1000)
 | none => false
theorem Zdb : ∀ {as : List Arg} {i k : Nat}, k ∈ e8 i as -> i <= k /\ k < i + as.length
 | [], i, k, h => by simp [e8] at h
 | x :: as, i, k, h => by
  have key : k ∈ e8 (i + 1) as -> i <= k /\ k < i + (x :: as).length := fun h => by
   have := Zdb h
   simp only [Y42]
   omega
  cases x <;> simp only [e8, Y55] at h <;> try exact key h
  rcases h with h | h
  ·simp only [Y42]; omega
  ·exact key h
theorem Z6k {P : Program} {tab : Nat -> FuncId} {g : Nat} {f : aA} {fn : Func} (ic : P.follows .mixedOrders = true) (hf : P.funcs[tab g]? = some fn) (his : aq P tab f fn = true) (hF : ∀ p ∈ f.code.calls, dB P tab p.1 p.2) : dB P tab g (aD f) := by
 intro as vs w ow out dt hl hA dX ij
 unfold aq at his
 cases hb : fn.body with
 | none => simp [hb] at his
 | some c =>
  simp only [hb, Y2, decide_eq_true_eq] at his
  obtain ⟨⟨⟨hc, j6⟩, har⟩, qV⟩ := his
  unfold aD at dt
  split at dt
  ·rename_i hok
   have lR := hok
   unfold kG at lR
   simp only [Y2, beq_iff_eq] at lR
   obtain ⟨⟨hal, hpo⟩, qU⟩ := lR
   obtain ⟨hxl, hx⟩ := Zg3 j6
   let X : Cx := { P := P, tab := tab, mv := mv0, w0 := w, ow0 := eU ow, n := fn.ntmps, args := vs.toArray, bu := f.bu }
   have hin := Z8k X rfl (as := as) (vs := vs) (w := w) (ow := ow) hl (by show as.length <= fn.ntmps; omega) qV rfl rfl rfl (fun i hi => by
     have hi' : i ∈ e8 0 as := by rw [hpo]; exact hi
     have := Zdb hi'
     omega) hA dX ij (fun i t ht => by
     have := Y18.1 qU _ (Y62 ht)
     cases t <;> simp only [Arg.gv, Y9] at this
     rename_i o sz es
     cases o <;> simp only [Arg.gv, Y9] at this
     exact ⟨sz, es, rfl⟩)
   have j5 : Good X ⟨ep 0 as fun _ => .u, []⟩ { tmps := vs.toArray ++ Array.replicate (fn.ntmps - vs.toArray.size) undef, defers := [] } w :=
    ⟨_, _, _, hin, fun id _ x hx h0 => by have := hx.1; omega⟩
   refine calls_of_wp hf hb ?_
   cases hd : den f.code ⟨ep 0 as fun _ => .u, []⟩ with
   | none => simp [hd] at dt
   | some r =>
    obtain ⟨ex, s⟩ := r
    have hlv : (ex = .nx \/ ex = .ret) /\ ∃ σ', (leave f).run s.σ = some (out, σ') := by
     rw [hd] at dt
     cases ex with
     | exit id => simp at dt
     | nx =>
      simp only at dt
      split at dt
      ·rename_i o σ' hr
       cases dt
       exact ⟨.inl rfl, σ', hr⟩
      ·cases dt
     | ret =>
      simp only at dt
      split at dt
      ·rename_i o σ' hr
       cases dt
       exact ⟨.inr rfl, σ', hr⟩
      ·cases dt
    obtain ⟨hex, σ', af⟩ := hlv
    refine Z38 (X := X) rfl ic f.code c hc hF j5 hd fun a' w' hg => ?_
    obtain ⟨U, J, ow', hr, _⟩ := hg.out
    obtain ⟨v, ow2, h1, h2⟩ := Z9o (X := X) hr rfl (f := f) (fn := fn) (as := as) (vs := vs) (ow0 := ow) rfl dX rfl (by omega) hl rfl hok hxl hx af
    rcases hex with rfl | rfl
    ·exact ⟨hr.defers, v, h1, ow2, h2⟩
    ·exact ⟨hr.defers, v, h1, ow2, h2⟩
  ·cases dt
end Go.Wr
namespace Go.Wr
def ew (M : Nat -> Option (Nat × List Nat)) (G : Nat -> Option (List Nat)) (mu : Bool) (ow : Nat -> Ow) : Nat -> Ow := fun b =>
 match ow b with
 | .no => .no
 | .z => .z
 | .own (.sl s) q => if mu && s == 0 then .own (.ar 0) q else .no
 | .own (.ar n) q => match M n with
  | some (j, p) => .own (.rs j) (p ++ q)
  | none => match G n with
   | some p => .own (.ar 0) (p ++ q)
   | none => .no
 | .own (.rs _) _ => .no
section
variable {X : Cx} {U : Nat -> Prop} {J J' : Nat} {σ σ' σ2 : St} {a a' a2 : Act} {w w' w2 : World} {ow ow' ow2 : Nat -> Ow} {e : Nat} {o : Oper}
variable {M : Nat -> Option (Nat × List Nat)} {G : Nat -> Option (List Nat)} {mu : Bool}
theorem Zcm : Zs w ow w (ew M G mu ow) := fun b hb => ⟨by simp [ew, hb], rfl⟩
theorem Zck {n j : Nat} {p : List Nat} (hM : M n = some (j, p)) : Tr w ow w (ew M G mu ow) (some (.ar n, [])) (some (.rs j, p)) := fun b q hb => ⟨by simp only [Y66] at hb; simp [ew, hb, hM], rfl⟩
theorem Zi0 (hmv : X.mv = mv0) {B j : Nat} {r : RV} {v : Value} (h : RvM X w ow B M j r v) : j3 X.tab w (ew M G mu ow) j r v := by
 unfold RvM at h
 rw [hmv] at h
 cases r with
 | one t =>
  obtain ⟨n, _, h1, h2⟩ := h
  exact Zg1 Zcm t (Zck h1) h2
 | st cs =>
  obtain ⟨us, ix, rfl, h1, h2⟩ := h
  refine ⟨us, rfl, Zfa (by simpa using h1) fun k t u ht hu => ?_⟩
  obtain ⟨_, h3, h4⟩ := h2 k t u ht (by simpa using hu)
  rw [Y83]
  exact Zg1 Zcm t (Zck h3) h4
theorem Zhy {J1 : Nat} {ow1 : Nat -> Ow} {σ1 : St} (hg : Gh X U J J1 σ a w ow σ1 ow1) {j : Nat} {r : RV} {v : Value} (h : RvM X w ow J M j r v) : RvM X w ow1 J M j r v := by
 unfold RvM at h ⊢
 cases r with
 | one t =>
  obtain ⟨n, h0, h1, h2⟩ := h
  exact ⟨n, h0, h1, Zg1 hg.z t (c := some (.ar n, [])) (fun b q hb => ⟨hg.air b n _ h0 hb, rfl⟩) h2⟩
 | st cs =>
  obtain ⟨us, ix, rfl, h1, h2⟩ := h
  refine ⟨us, ix, rfl, h1, fun k t u ht hu => ?_⟩
  obtain ⟨h0, h3, h4⟩ := h2 k t u ht hu
  exact ⟨h0, h3, Zg1 hg.z t (c := some (.ar (ix k), [])) (fun b q hb => ⟨hg.air b (ix k) _ h0 hb, rfl⟩) h4⟩
def gB (ix : Nat -> Nat) (len lo : Nat) (i : Nat) : Option (List Nat) := if lo <= i then ((List.range len).find? (fun j => ix j == i)).map fun j => [j] else none
theorem Z6z {ix : Nat -> Nat} {len lo j : Nat} (po : ∀ i j, i < len -> j < len -> ix i = ix j -> i = j) (hj : j < len) (hlo : lo <= ix j) : gB ix len lo (ix j) = some [j] := by
 unfold gB
 rw [if_pos hlo]
 cases h : (List.range len).find? (fun i => ix i == ix j) with
 | none =>
  have := List.find?_eq_none.1 h j (Y64.2 hj)
  simp at this
 | some i =>
  have h1 := Y26 h
  have h2 := Y61 h
  rw [Y64] at h2
  have := po i j h2 hj (by simpa using h1)
  subst this
  rfl
theorem Z1f {tab : Nat -> FuncId} {i : Nat} : ∀ (as : List Arg) (vs : List Value), vs.length = as.length -> as.all Arg.isS = true -> ∀ i, cR tab w ow i as vs []
 | [], [], _, _, i => trivial
 | [], _ :: _, h, _, _ => by simp at h
 | _ :: _, [], h, _, _ => by simp at h
 | x :: as, v :: vs, hl, h, i => by
  simp only [Y17, Y2] at h
  have ih := Z1f (tab := tab) (i := i) as vs (by simpa using hl) h.2 (i + 1)
  cases x <;> simp only [Arg.isS, Y9] at h <;> first | exact ih | exact h.1.elim
theorem Z9n (h : Rel X U J σ a w ow) (hmv : X.mv = mv0) {f : aA} {fn : Func} {as : List Arg} {vs : List Value} {ow0 : Nat -> Ow} {out : Out} (how : X.ow0 = eU ow0) (dX : ∀ b, ow0 b ≠ .no -> b < X.w0.heap.size)
  (eH : X.args = vs.toArray) (hsm : vs.length <= 1000) (hl : vs.length = as.length) (hp : X.bu = f.bu) (hok : jG f as = true) (hA : ∀ (i : Nat) x v, as[i]? = some x -> vs[i]? = some v -> fL X.tab X.w0 ow0 i x v)
  (hxl : f.res.length = fn.results.toList.length) (hx : ∀ (k : Nat) x y, f.res[k]? = some x -> fn.results.toList[k]? = some y -> jr X.P x y = true) (af : (iZ f).run σ = some (out, σ')) :
  ∃ v ow', (Go.results fn a.tmps).run X.P w = .ok v w /\ gS X.tab as vs out X.w0 ow0 w ow' v := by
 unfold iZ at af
 obtain ⟨rs, σ1, h1, h2⟩ := Zh3 af
 obtain ⟨cs, σ2, h3, h4⟩ := Zh3 h2
 obtain ⟨rfl, rfl⟩ := Zhk h4
 unfold jG at hok
 simp only [Y2, beq_iff_eq] at hok
 obtain ⟨⟨hal, hpo⟩, hm⟩ := hok
 match as, vs, hl, hm, hA with
 | xa :: as, v0 :: vs, hl, hm, hA =>
 simp only [Y2] at hm
 obtain ⟨hxm, hSS⟩ := hm
 have hA0 := hA 0 xa v0 rfl rfl
 obtain ⟨us, J1, ow1, M0, hJ, hg, hul, hrl, hus, hM1, hM2, hM3⟩ := Zg4 f.res fn.results.toList 0 (fun _ => none) h hxl hx h1
 have hR := hg.rel
 obtain ⟨M, Ll, Lm, hMr⟩ : ∃ M : Nat -> Option (Nat × List Nat), (∀ n, J1 <= n -> M n = none) /\ (∀ n j p, M n = some (j, p) -> j < rs.length) /\ ∀ (k : Nat) r v, rs[k]? = some r -> us[k]? = some v -> RvM X w ow1 J1 M k r v := by
  refine ⟨fun n => if n < J1 then M0 n else none, fun n hn => if_neg (by omega), fun n j p hn => ?_, fun k r v hr hv => ?_⟩
  ·by_cases hn1 : n < J1
   ·simp only [if_pos hn1] at hn
    by_cases hnJ : n < J
    ·rw [hM1 n hnJ] at hn; cases hn
    ·have := hM2 n j p (by omega) hn1 hn
     omega
   ·simp only [if_neg hn1, reduceCtorEq] at hn
  ·have h5 := hM3 k r v hr hv
   rw [Y83] at h5
   unfold RvM at h5 ⊢
   cases r with
   | one t =>
    obtain ⟨n, h6, h7, h8⟩ := h5
    exact ⟨n, h6, by simp only [if_pos h6, h7], h8⟩
   | st cs =>
    obtain ⟨vv, ix, h6, h7, h8⟩ := h5
    refine ⟨vv, ix, h6, h7, fun k t u ht hu => ?_⟩
    obtain ⟨h9, h10, h11⟩ := h8 k t u ht hu
    exact ⟨h9, by simp only [if_pos h9, h10], h11⟩
 have hv0 : aK a 0 = v0 := by
  have := hR.bu 0 (by rw [hp, hpo]; simp)
  unfold aK
  rw [if_pos (by omega), Array.getD_eq_getD_getElem?, this, eH]
  simp
 have fin : ∀ {J2 : Nat} {ow2 : Nat -> Ow} {G : Nat -> Option (List Nat)} {mu : Bool}, Gh X U J1 J2 σ1 a w ow1 σ' ow2 -> cR X.tab w (ew M G mu ow2) 0 (xa :: as) (v0 :: vs) [cs] ->
   ∃ v ow', (Go.results fn a.tmps).run X.P w = .ok v w /\ gS X.tab (xa :: as) (v0 :: vs) ⟨rs, [cs]⟩ X.w0 ow0 w ow' v := fun {J2 ow2 G mu} hg2 mf => by
  have hR2 := hg2.rel
  have pt : ∀ b, b < X.w0.heap.size -> (∀ r q, X.ow0 b ≠ .own r q) -> w.heap[b]? = X.w0.heap[b]? /\ ow2 b = X.ow0 b := hR2.same
  refine ⟨_, ew M G mu ow2, Zgb rfl hul hus, ?_, ?_, ?_, hR2.grown, hR2.os, hR2.output, ?_, mf, ?_⟩
  ·intro b hb
   have hb0 : X.ow0 b = .z := by rw [how]; simp [eU, hb]
   obtain ⟨h5, h6⟩ := pt b (dX b (by rw [hb]; simp)) (fun r q => by rw [hb0]; simp)
   exact ⟨by simp [ew, h6, hb0], h5⟩
  ·intro b hlt hb
   have hb0 : X.ow0 b = .no := by rw [how]; simp [eU, hb]
   obtain ⟨h5, h6⟩ := pt b hlt (fun r q => by rw [hb0]; simp)
   exact ⟨by simp [ew, h6, hb0], h5⟩
  ·intro b hb
   exact hR2.low b fun e => hb (by simp [ew, e])
  ·have hone : ∀ (k : Nat) r v, rs[k]? = some r -> us[k]? = some v -> j3 X.tab w (ew M G mu ow2) k r v := fun k r v h5 h6 => Zi0 hmv (Zhy hg2 (hMr k r v h5 h6))
   unfold n9
   match rs, us, (hrl.trans hul.symm : rs.length = us.length), hone with
   | [r], [v], _, hone => exact hone 0 r v rfl rfl
   | [], [], _, hone => exact ⟨#[], rfl, rfl, fun j r u hr => by simp at hr⟩
   | r :: r2 :: rs, v :: v2 :: us, hlen, hone => exact ⟨(v :: v2 :: us).toArray, rfl, by simp at hlen; simp [hlen], fun j r u hr hu => hone j r u hr (by simpa using hu)⟩
   | [_], _ :: _ :: _, hlen, _ => simp at hlen
   | _ :: _ :: _, [_], hlen, _ => simp at hlen
   | [], _ :: _, hlen, _ => simp at hlen
   | _ :: _, [], hlen, _ => simp at hlen
  ·intro b j q hb
   unfold ew at hb
   cases hob : ow2 b with
   | no => simp [hob] at hb
   | z => simp [hob] at hb
   | own r q' =>
    rw [hob] at hb
    cases r with
    | sl s => simp only at hb; split at hb <;> cases hb
    | rs s => cases hb
    | ar n =>
     simp only at hb
     split at hb
     ·rename_i j' p hMn
      simp only [Ow.own.injEq, aH.rs.injEq] at hb
      have := Lm n j' p hMn
      show j < rs.length
      omega
     ·split at hb <;> cases hb
 have hBS : ∀ {ow2 : Nat -> Ow}, cR X.tab w ow2 1 as vs [] := Z1f (tab := X.tab) (i := 1) as vs (by simpa using hl) hSS 1
 unfold yY at h3
 obtain ⟨av, σ3, h5, h6⟩ := Zh3 h3
 obtain ⟨hav, e3⟩ := Zhj h5
 rw [e3, hav] at h6
 have gi := hR.slot 0
 rw [hv0] at gi
 cases hσ : σ1 0 <;> rw [hσ] at h6 gi <;> try simp only [Pg.run, reduceCtorEq] at h6
 case own k t =>
  cases t <;> try simp only [Pg.run, reduceCtorEq] at h6
  rename_i o sz es
  cases o <;> try simp only [Pg.run, reduceCtorEq] at h6
  obtain ⟨rfl, rfl⟩ := Zhk h6
  obtain ⟨_, bG⟩ := gi
  obtain ⟨A, C, hv, _⟩ := Zfu bG
  cases xa <;> simp only [Arg.isM, Y9] at hxm
  case mu t0 =>
   refine fin (G := fun _ => none) (mu := true) (Gh.refl hR (Nat.le_refl _)) ⟨⟨_, rfl, ⟨_, _, rfl⟩, ?_⟩, hBS⟩
   rw [hmv] at bG
   exact Zg1 Zcm _ (c := some (.sl 0, [])) (c' := some (.ar 0, [])) (fun b q hb => ⟨by simp [ew, hb], rfl⟩) bG
  case ms cs0 =>
   obtain ⟨vv, e1, _⟩ := hA0
   rw [e1] at hv
   simp at hv
 case st cells =>
  obtain ⟨vv, hv, _⟩ := gi
  obtain ⟨J2, ow2, ix, hJ2, hg2, bF⟩ := Z7l hR (x := .t 0) (o := .tmp 0) (by simp [Opd.is]) h6
  cases xa <;> simp only [Arg.isM, Y9] at hxm
  case mu t0 =>
   obtain ⟨⟨sz, es, rfl⟩, bG⟩ := hA0
   obtain ⟨A, C, hv2, _⟩ := Zfu bG
   rw [hv] at hv2
   simp at hv2
  case ms cs0 =>
   have hev : a.eval (.tmp 0) = v0 := by
    rw [<- hv0]; exact Z43 (by omega)
   rw [hev, hv] at bF
   refine fin (G := gB ix cs.length J1) (mu := false) hg2 ⟨⟨vv, hv, Zfa bF.len fun k t u ht hu => ?_⟩, hBS⟩
   have hk := (Y36.1 ht).1
   have hb := bF.bnd k hk
   have bG := bF.rep k t u ht hu
   rw [hmv] at bG
   rw [Y83]
   refine Zg1 Zcm t (c := some (.ar (ix k), [])) (c' := some (.ar 0, [k])) (fun b q hbq => ⟨?_, rfl⟩) bG
   simp only [Y66] at hbq
   simp only [ew, hbq, Ll (ix k) hb.1, Z6z bF.inj hk hb.1]
theorem Z6i {P : Program} {tab : Nat -> FuncId} {g : Nat} {f : aA} {fn : Func} (ic : P.follows .mixedOrders = true) (hf : P.funcs[tab g]? = some fn) (his : aq P tab f fn = true) (hF : ∀ p ∈ f.code.calls, dB P tab p.1 p.2) : dB P tab g (dA f) := by
 intro as vs w ow out dt hl hA dX ij
 unfold aq at his
 cases hb : fn.body with
 | none => simp [hb] at his
 | some c =>
  simp only [hb, Y2, decide_eq_true_eq] at his
  obtain ⟨⟨⟨hc, j6⟩, har⟩, qV⟩ := his
  unfold dA at dt
  split at dt
  ·rename_i hok
   have lR := hok
   unfold jG at lR
   simp only [Y2, beq_iff_eq] at lR
   obtain ⟨⟨hal, hpo⟩, hm⟩ := lR
   have hY : 0 < as.length := by
    cases as with
    | nil => simp at hm
    | cons _ _ => simp
   obtain ⟨hxl, hx⟩ := Zg3 j6
   let X : Cx := { P := P, tab := tab, mv := mv0, w0 := w, ow0 := eU ow, n := fn.ntmps, args := vs.toArray, bu := f.bu }
   have hin := Z8k X rfl (as := as) (vs := vs) (w := w) (ow := ow) hl (by show as.length <= fn.ntmps; omega) qV rfl rfl rfl (fun i hi => by
     have hi' : i ∈ f.bu := hi
     rw [hpo] at hi'
     simp at hi'
     omega) hA dX ij (fun i t ht => by
     exfalso
     match as, hm, ht with
     | x :: as, hm, ht =>
      simp only [Y2] at hm
      cases i with
      | zero =>
       simp only [Y32, Y89] at ht
       subst ht
       simp [Arg.isM] at hm
      | succ i =>
       have := Y18.1 hm.2 _ (Y62 (by simpa using ht))
       simp [Arg.isS] at this)
   have j5 : Good X ⟨ep 0 as fun _ => .u, []⟩ { tmps := vs.toArray ++ Array.replicate (fn.ntmps - vs.toArray.size) undef, defers := [] } w :=
    ⟨_, _, _, hin, fun id _ x hx h0 => by have := hx.1; omega⟩
   refine calls_of_wp hf hb ?_
   cases hd : den f.code ⟨ep 0 as fun _ => .u, []⟩ with
   | none => simp [hd] at dt
   | some r =>
    obtain ⟨ex, s⟩ := r
    have hlv : (ex = .nx \/ ex = .ret) /\ ∃ σ', (iZ f).run s.σ = some (out, σ') := by
     rw [hd] at dt
     cases ex with
     | exit id => simp at dt
     | nx =>
      simp only at dt
      split at dt
      ·rename_i o σ' hr
       cases dt
       exact ⟨.inl rfl, σ', hr⟩
      ·cases dt
     | ret =>
      simp only at dt
      split at dt
      ·rename_i o σ' hr
       cases dt
       exact ⟨.inr rfl, σ', hr⟩
      ·cases dt
    obtain ⟨hex, σ', af⟩ := hlv
    refine Z38 (X := X) rfl ic f.code c hc hF j5 hd fun a' w' hg => ?_
    obtain ⟨U, J, ow', hr, _⟩ := hg.out
    obtain ⟨v, ow2, h1, h2⟩ := Z9n (X := X) hr rfl (f := f) (fn := fn) (as := as) (vs := vs) (ow0 := ow) rfl dX rfl (by omega) hl rfl hok hA hxl hx af
    rcases hex with rfl | rfl
    ·exact ⟨hr.defers, v, h1, ow2, h2⟩
    ·exact ⟨hr.defers, v, h1, ow2, h2⟩
  ·cases dt
end
end Go.Wr
namespace Go.Wr
inductive Ty where
 | i (k : IntKind)
 | b
 | s
 | st (fs : List Ty)
 | l (e : Ty)
 deriving Inhabited
mutual
def Ty.size : Ty -> Nat
 | .st fs => lr fs
 | _ => 1
def lr : List Ty -> Nat
 | [] => 0
 | f :: fs => f.size + lr fs
end
def Ty.agg : Ty -> Bool
 | .st _ => true
 | _ => false
mutual
def bE : Ty -> List T -> Prop
 | .i k, ts => ∃ n, ts = [.i k n] /\ k.min <= n /\ n <= k.max
 | .b, ts => ∃ x, ts = [.b x]
 | .s, ts => ∃ x, ts = [.s x] /\ x.size <= maxLen
 | .st fs, ts => fC fs ts
 | .l e, ts => ∃ es, ts = [.l .n e.size es] /\ es.length <= maxLen /\ ∀ x ∈ es, ∃ cs, bE e cs /\ x = gG e.agg cs
def fC : List Ty -> List T -> Prop
 | [], ts => ts = []
 | f :: fs, ts => ∃ a b, ts = a ++ b /\ bE f a /\ fC fs b
end
mutual
def gV (P : Program) : TypeId -> Ty -> Bool
 | t, .i k => (match P.underlying t with | some (.int k') => decide (k' = k) | _ => false) && P.cellsOf t == 1
 | t, .b => (match P.underlying t with | some .bool => true | _ => false) && P.cellsOf t == 1
 | t, .s => (match P.underlying t with | some .string => true | _ => false) && P.cellsOf t == 1
 | t, .st fs => (match P.underlying t with | some (.struct ff) => gE P ff.toList fs 0 | _ => false) && P.cellsOf t == lr fs
 | t, .l e => (match P.underlying t with | some (.slice t') => gV P t' e && decide (0 < e.size) | _ => false) && P.cellsOf t == 1
def gE (P : Program) : List Field -> List Ty -> Nat -> Bool
 | [], [], _ => true
 | f :: ff, e :: es, off => f.offset == off && gV P f.type e && gE P ff es (off + e.size)
 | _, _, _ => false
end
theorem Zl3 {P : Program} {t : TypeId} {e : Ty} (h : gV P t e = true) : P.cellsOf t = e.size := by
 cases e <;> simp only [gV, Y2, beq_iff_eq] at h <;> exact h.2
theorem Zap {α β : Type} {f : α -> Option β} : ∀ {l : List α} {ys : List β}, l.mapM f = some ys -> ys.length = l.length /\ ∀ (i : Nat) x, l[i]? = some x -> ∃ y, ys[i]? = some y /\ f x = some y
 | [], ys, h => by simp at h; subst h; exact ⟨rfl, fun i x h => by simp at h⟩
 | a :: l, ys, h => by
  rw [List.mapM_cons] at h
  cases ha : f a with
  | none => simp [ha] at h
  | some b =>
   cases hl : l.mapM f with
   | none => simp [ha, hl] at h
   | some bs =>
    simp [ha, hl] at h
    subst h
    obtain ⟨h1, h2⟩ := Zap hl
    refine ⟨by simp [h1], fun i x hx => ?_⟩
    cases i with
    | zero => simp at hx; subst hx; exact ⟨b, rfl, ha⟩
    | succ i => exact h2 i x (by simpa using hx)
def fN (w : World) : Nat -> Ow := fun b => if b < w.heap.size then .z else .no
theorem Zf2 {tab : Nat -> FuncId} {mv : Nat -> Value} {w : World} {ow : Nat -> Ow} : ∀ (a : List T) {b : List T} {k k' : Nat} {u v : List Value}, aR tab mv w ow none k a u -> aR tab mv w ow none k' b v -> aR tab mv w ow none k (a ++ b) (u ++ v)
 | [], b, k, k', u, v, h1, h2 => by
  simp only [aR] at h1
  subst h1
  have : ∀ (b : List T) (k k' : Nat) (v : List Value), aR tab mv w ow none k' b v -> aR tab mv w ow none k b v := fun b => by
   induction b with
   | nil => intro k k' v h; simpa only [aR] using h
   | cons t ts ih =>
    intro k k' v h
    simp only [aR] at h ⊢
    obtain ⟨x, rest, rfl, h3, h4⟩ := h
    exact ⟨x, rest, rfl, h3, ih _ _ _ h4⟩
  exact this b k k' v h2
 | t :: a, b, k, k', u, v, h1, h2 => by
  simp only [aR] at h1
  obtain ⟨x, rest, rfl, h3, h4⟩ := h1
  simp only [Y24, aR]
  exact ⟨x, rest ++ v, rfl, h3, Zf2 a h4 h2⟩
section
variable {tab : Nat -> FuncId} {mv : Nat -> Value} {w : World}
theorem Z2l {base : Nat} {a : Addr} {n : Nat} {cs : List Value} (h : w.cells? base a n = some cs) (hn : 0 < n) : cs.length = n /\ a.spot = none /\ ∃ arr ty fr, w.heap[a.block]? = some (.cells arr ty fr) /\ ∀ j v, cs[j]? = some v -> arr[a.off + j]? = some v := by
 unfold World.cells? at h
 split at h
 ·obtain ⟨h1, h2⟩ := Zap h
  rw [List.length_range] at h1
  obtain ⟨y, _, h3⟩ := h2 0 0 (by simp [hn])
  have h4 : a.add 0 = a := by simp [Addr.add]
  rw [h4] at h3
  unfold World.cell? at h3
  split at h3
  ·rename_i arr ty fr hh
   split at h3
   ·cases h3
   ·rename_i hs
    have hs' : a.spot = none := by cases hsp : a.spot <;> simp [hsp] at hs ⊢
    refine ⟨h1, hs', arr, ty, fr, hh, fun j v hv => ?_⟩
    have hj : j < n := by have := (Y36.1 hv).1; omega
    obtain ⟨y', h5, h6⟩ := h2 j j (by simp [hj])
    rw [hv] at h5
    cases h5
    have ha : a.add j = ⟨a.block, a.off + j, none⟩ := by
     obtain ⟨b, o, sp⟩ := a
     simp only at hs'
     subst hs'
     unfold Addr.add
     split
     ·rename_i hj0; subst hj0; rfl
     ·rfl
    rw [ha, Z2h hh] at h6
    exact h6
  ·cases h3
 ·cases h
theorem Z3g {P : T -> Prop} {arr : Array Value} {sz : Nat} : ∀ (n off : Nat), (∀ i, i < n -> ∃ cells x, cells.length = sz /\ (∀ j v, cells[j]? = some v -> arr[off + i * sz + j]? = some v) /\ rep tab mv w (fN w) none x cells /\ P x) ->
  ∃ es vs, es.length = n /\ (∀ k, bg tab mv w (fN w) none sz k es vs) /\ (∀ x ∈ es, P x) /\ ∀ (j : Nat) v, vs[j]? = some v -> arr[off + j]? = some v
 | 0, off, h => ⟨[], [], rfl, fun k => by simp [bg], fun x hx => by simp at hx, fun j v hv => by simp at hv⟩
 | n + 1, off, h => by
  obtain ⟨cells, x, h1, h2, h3, h4⟩ := h 0 (by omega)
  obtain ⟨es, vs, h5, h6, h7, h8⟩ := Z3g n (off + sz) (fun i hi => by
   obtain ⟨cells, x, h1, h2, h3, h4⟩ := h (i + 1) (by omega)
   refine ⟨cells, x, h1, fun j v hv => ?_, h3, h4⟩
   have := h2 j v hv
   rw [Y82] at this
   rw [show off + sz + i * sz + j = off + (i * sz + sz) + j by omega]
   exact this)
  refine ⟨x :: es, cells ++ vs, by simp [h5], fun k => ?_, fun y hy => ?_, fun j v hv => ?_⟩
  ·simp only [bg]
   exact ⟨cells, vs, rfl, h1, h3, h6 _⟩
  ·rcases Y55.1 hy with rfl | hy
   ·exact h4
   ·exact h7 y hy
  ·by_cases hj : j < sz
   ·rw [Y29 (by omega)] at hv
    have := h2 j v hv
    simpa using this
   ·rw [Y30 (by omega)] at hv
    have := h8 _ v hv
    rw [show off + sz + (j - cells.length) = off + j by omega] at this
    exact this
theorem Z7v {e : Ty} {cs : List T} (h : bE e cs) (ha : e.agg = false) : ∃ x, cs = [x] /\ ∀ cs, x ≠ .a cs := by
 cases e <;> simp only [bE] at h
 case i k => obtain ⟨n, rfl, _⟩ := h; exact ⟨_, rfl, by simp⟩
 case b => obtain ⟨n, rfl⟩ := h; exact ⟨_, rfl, by simp⟩
 case s => obtain ⟨n, rfl, _⟩ := h; exact ⟨_, rfl, by simp⟩
 case st fs => simp [Ty.agg] at ha
 case l e => obtain ⟨es, rfl, _⟩ := h; exact ⟨_, rfl, by simp⟩
theorem Zky {H : Type} {enc : TypeId × Value -> H} {P : Program} {base : Nat} {spare : Nat -> Bool} {held : Bool} : ∀ (fj : Nat) (e : Ty) {t : TypeId} {cs : List Value} {x : DataW H × List MemPlace}, gV P t e = true ->
  DataW.trod enc P w base spare held fj t cs = some x -> ∃ ts, bE e ts /\ cs.length = e.size /\ ∀ k, aR tab mv w (fN w) none k ts cs
 | 0, e, t, cs, x, hty, h => by simp [DataW.trod] at h
 | fj + 1, .i k, t, cs, x, hty, h => by
  simp only [gV, Y2] at hty
  obtain ⟨hty, _⟩ := hty
  split at hty
  ·rename_i k' hu
   simp only [decide_eq_true_eq] at hty
   subst hty
   obtain ⟨n, rfl, _, hw⟩ := DataW.trod_int hu h
   simp only [Lit.wf, Y2, decide_eq_true_eq] at hw
   exact ⟨[.i k' n], ⟨n, rfl, hw.1, hw.2⟩, rfl, fun k => by simp [aR, rep]⟩
  ·cases hty
 | fj + 1, .b, t, cs, x, hty, h => by
  simp only [gV, Y2] at hty
  obtain ⟨hty, _⟩ := hty
  split at hty
  ·rename_i hu
   obtain ⟨n, rfl, _⟩ := DataW.trod_bool hu h
   exact ⟨[.b n], ⟨n, rfl⟩, rfl, fun k => by simp [aR, rep]⟩
  ·cases hty
 | fj + 1, .s, t, cs, x, hty, h => by
  simp only [gV, Y2] at hty
  obtain ⟨hty, _⟩ := hty
  split at hty
  ·rename_i hu
   obtain ⟨n, rfl, _, hl⟩ := DataW.trod_string hu h
   exact ⟨[.s n], ⟨n, rfl, hl⟩, rfl, fun k => by simp [aR, rep]⟩
  ·cases hty
 | fj + 1, .st fs, t, cs, x, hty, h => by
  simp only [gV, Y2, beq_iff_eq] at hty
  obtain ⟨hty, hsz⟩ := hty
  split at hty
  ·rename_i ff hu
   simp only [DataW.trod, hu] at h
   split at h
   ·rename_i hl
    rw [hsz] at hl
    cases hm : (ff.toList.mapM fun f => DataW.trod enc P w base spare held fj f.type ((cs.drop f.offset).take (P.cellsOf f.type))) with
    | none => simp [hm] at h
    | some ys =>
     obtain ⟨h1, h2⟩ := Zap hm
     have : ∀ (gs : List Field) (es : List Ty) (off : Nat), gE P gs es off = true -> (∀ g ∈ gs, ∃ y, DataW.trod enc P w base spare held fj g.type ((cs.drop g.offset).take (P.cellsOf g.type)) = some y) -> (cs.drop off).length = lr es ->
       ∃ ts, fC es ts /\ ∀ k, aR tab mv w (fN w) none k ts (cs.drop off) := by
      intro gs
      induction gs with
      | nil =>
       intro es off hf _ hlen
       cases es with
       | nil => simp only [lr] at hlen; rw [Y44.1 hlen]; exact ⟨[], by simp [fC], fun k => by simp [aR]⟩
       | cons e es => simp [gE] at hf
      | cons g gs ih =>
       intro es off hf cc hlen
       cases es with
       | nil => simp [gE] at hf
       | cons e es =>
        simp only [gE, Y2, beq_iff_eq] at hf
        obtain ⟨⟨h3, h4⟩, h5⟩ := hf
        simp only [lr] at hlen
        obtain ⟨y, h6⟩ := cc g Y57
        obtain ⟨ts, h7, h8, h9⟩ := Zky fj e h4 h6
        obtain ⟨ts2, h10, h11⟩ := ih es (off + e.size) h5 (fun g' hg => cc g' (Y56 _ hg)) (by simp at hlen ⊢; omega)
        refine ⟨ts ++ ts2, by simp only [fC]; exact ⟨ts, ts2, rfl, h7, h10⟩, fun k => ?_⟩
        have h12 := Zf2 ts (h9 k) (h11 0)
        rw [h3, Zl3 h4] at h12
        have h13 : (cs.drop off).take e.size ++ cs.drop (off + e.size) = cs.drop off := by
         rw [<- List.drop_drop]; exact Y71 _ _
        rw [h13] at h12
        exact h12
     obtain ⟨ts, h3, h4⟩ := this ff.toList fs 0 hty (fun g hg => by
      obtain ⟨i, hi⟩ := Y59.1 hg
      obtain ⟨y, _, hy⟩ := h2 i g hi
      exact ⟨y, hy⟩) (by simpa using hl)
     exact ⟨ts, h3, hl, by simpa using h4⟩
   ·cases h
  ·cases hty
 | fj + 1, .l e, t, cs, x, hty, h => by
  simp only [gV, Y2, beq_iff_eq] at hty
  obtain ⟨hty, hsz⟩ := hty
  split at hty
  ·rename_i t' hu
   simp only [Y2, decide_eq_true_eq] at hty
   obtain ⟨hte, hY⟩ := hty
   have bD := Zl3 hte
   rcases DataW.trod_slice hu h with ⟨rfl, _⟩ | ⟨a, len, cap, L3, rest, n, hn, rfl, _, _, hle, dV, hel, cc, _, _⟩
   ·refine ⟨[.l .n e.size []], ⟨[], rfl, by simp, by simp⟩, rfl, fun k => ?_⟩
    simp only [aR, rep]
    exact ⟨_, [], rfl, ⟨fun x => by simp [Ob.own] at x, none, 0, rfl, by simp, (fun _ hk => by cases hk), rfl⟩, rfl⟩
   ·obtain rfl : n = fj := by omega
    by_cases hl0 : len = 0
    ·subst hl0
     refine ⟨[.l .n e.size []], ⟨[], rfl, by simp, by simp⟩, rfl, fun k => ?_⟩
     simp only [aR, rep]
     exact ⟨_, [], rfl, ⟨fun x => by simp [Ob.own] at x, some a, cap, rfl, by simp, (fun _ hk => by cases hk), fun hor => by rcases hor with x | x <;> simp [Ob.own] at x⟩, rfl⟩
    ·have hone : ∀ i, i < len -> ∃ cells y, w.cells? base (a.add (i * P.cellsOf t')) (P.cellsOf t') = some cells /\ DataW.trod enc P w base spare held n t' cells = some y := fun i hi => by
      have h1 := cc i hi
      rw [Y34 (by omega)] at h1
      obtain ⟨cells, h2, h3⟩ := Y84.1 h1
      exact ⟨cells, _, h2, h3⟩
     rw [bD] at hone
     obtain ⟨c0, _, h0, _⟩ := hone 0 (by omega)
     have ha0 : a.add (0 * e.size) = a := by simp [Addr.add]
     rw [ha0] at h0
     obtain ⟨_, qW, arr, ty, fr, hh, _⟩ := Z2l h0 hY
     have nF : ∀ m, a.add m = ⟨a.block, a.off + m, none⟩ := fun m => by
      obtain ⟨b, o, sp⟩ := a
      simp only at qW
      subst qW
      unfold Addr.add
      split
      ·rename_i hj0; subst hj0; rfl
      ·rfl
     obtain ⟨es, vs, h5, h6, h7, h8⟩ := Z3g (tab := tab) (mv := mv) (w := w) (P := fun x => ∃ cs, bE e cs /\ x = gG e.agg cs) (arr := arr) (sz := e.size) len a.off (fun i hi => by
      obtain ⟨cells, y, h1, h2⟩ := hone i hi
      obtain ⟨hcl, _, cW, ty', fr', hh', hat⟩ := Z2l h1 hY
      rw [nF] at hh' hat
      simp only at hh' hat
      rw [hh] at hh'
      cases hh'
      obtain ⟨ts, h3, _, h4⟩ := Zky n e hte h2
      refine ⟨cells, gG e.agg ts, hcl, fun j v hv => hat j v hv, ?_, ts, h3, rfl⟩
      unfold gG
      split
      ·simp only [rep]; exact h4 0
      ·rename_i hag
       obtain ⟨x, rfl, _⟩ := Z7v h3 (by simpa using hag)
       have := h4 0
       simp only [aR] at this
       obtain ⟨v, rest, rfl, h9, rfl⟩ := this
       exact h9)
     refine ⟨[.l .n e.size es], ⟨es, rfl, by omega, h7⟩, rfl, fun k => ?_⟩
     simp only [aR, rep]
     refine ⟨_, [], rfl, ⟨fun x => by simp [Ob.own] at x, some a, cap, by rw [h5], by omega, (fun _ hk => by cases hk), fun _ => ⟨qW, ?_, arr, ty, fr, vs, hh, fun x => by simp [Ob.own] at x, h8, h6 0⟩⟩, rfl⟩
     have : a.block < w.heap.size := by
      rcases Y79 a.block w.heap.size with h | h
      ·exact h
      ·rw [Array.getElem?_eq_none h] at hh; cases hh
     simp [fN, this, Ob.loc, Ob.own, Loc.ow]
  ·cases hty
end
end Go.Wr
namespace Go.Wr
open Go.ChangeShapes
def qX : Ty -> List T -> Arg
 | .st _, ts => .st ts
 | _, ts => .x (ts.headD .u)
def Jq (e : Ty) (x : Arg) : Prop := ∃ ts, bE e ts /\ x = qX e ts
def mg : List Ty -> List Arg -> Prop
 | [], as => as = []
 | e :: es, as => ∃ x xs, as = x :: xs /\ Jq e x /\ mg es xs
def ey (P : Program) : List TypeId -> List Ty -> Bool
 | [], [] => true
 | t :: ts, e :: es => gV P t e && P.readableRec t && decide (t < P.types.size) && ey P ts es
 | _, _ => false
section
variable {H : Type} {enc : TypeId × Value -> H} {P : Program} {tab : Nat -> FuncId} {W W' : World}
theorem Z10 {base : Nat} {e : Ty} {t : TypeId} {v : Value} (hty : gV P t e = true) (hok : Value.okWide P W .any base t v) {ts : List T} (hts : bE e ts) (hr : ∀ k, aR tab mv0 W (fN W) none k ts v.cells.toList) (i : Nat) :
  fL tab W (fN W) i (qX e ts) v := by
 have mh : e.agg = false -> (∀ cs, v ≠ .agg cs) -> fL tab W (fN W) i (.x (ts.headD .u)) v := fun ha hv => by
  obtain ⟨x, rfl, _⟩ := Z7v hts ha
  have hc : v.cells = #[v] := by cases v <;> first | rfl | exact absurd rfl (hv _)
  have := hr 0
  rw [hc] at this
  simp only [aR] at this
  obtain ⟨u, rest, h1, h2, h3⟩ := this
  simp at h1
  obtain ⟨rfl, rfl⟩ := h1
  exact h2
 have bD : e.agg = false -> ∀ cs, v ≠ .agg cs := fun ha cs hv => by
  subst hv
  unfold Value.okWide at hok
  cases e <;> simp only [gV, Y2, Ty.agg, Bool.true_eq_false] at hty ha
  all_goals
   obtain ⟨hty, _⟩ := hty
   split at hty <;> first | (cases hty; done) | skip
   rename_i hu
   simp [hu, Cell.okWide, Cell.ok] at hok
 cases e with
 | st fs =>
  simp only [gV, Y2] at hty
  obtain ⟨hty, _⟩ := hty
  split at hty
  ·rename_i ff hu
   unfold Value.okWide at hok
   simp only [hu] at hok
   obtain ⟨cs, rfl, _⟩ := hok
   exact ⟨cs, rfl, hr 0⟩
  ·cases hty
 | i k => exact mh rfl (bD rfl)
 | b => exact mh rfl (bD rfl)
 | s => exact mh rfl (bD rfl)
 | l e => exact mh rfl (bD rfl)
theorem Z11 {base Jr : Nat} {sp : Nat -> Bool} {held : Bool} : ∀ (es : List Ty) (ts : List TypeId) (vs : List Value) {ds : List (DataW H)} {ps : List MemPlace} (i : Nat), ey P ts es = true -> (∀ (j : Nat) t v, ts[j]? = some t -> vs[j]? = some v -> Value.okWide P W .any base t v) ->
  DataW.TrodAll enc P W Jr sp held ts vs ds ps -> ∃ as, mg es as /\ vs.length = as.length /\ ∀ (k : Nat) x v, as[k]? = some x -> vs[k]? = some v -> fL tab W (fN W) (i + k) x v
 | [], [], vs, ds, ps, i, hty, hok, h => by
  obtain ⟨rfl, _, _⟩ := trodAll_nil h
  exact ⟨[], rfl, rfl, fun k x v hx => by simp at hx⟩
 | [], _ :: _, vs, ds, ps, i, hty, hok, h => by simp [ey] at hty
 | _ :: _, [], vs, ds, ps, i, hty, hok, h => by simp [ey] at hty
 | e :: es, t :: ts, vs, ds, ps, i, hty, hok, h => by
  obtain ⟨v, vs', d, ds', p, q, rfl, rfl, rfl, h1, h2⟩ := trodAll_cons h
  simp only [ey, Y2] at hty
  obtain ⟨as, h3, h4, h5⟩ := Z11 es ts vs' (i + 1) hty.2 (fun j t' v' hj hv => hok (j + 1) t' v' (by simpa using hj) (by simpa using hv)) h2
  obtain ⟨fj, h6⟩ := h1
  obtain ⟨tt, h7, _, h8⟩ := Zky (tab := tab) (mv := mv0) fj e hty.1.1.1 h6
  refine ⟨qX e tt :: as, ⟨_, _, rfl, ⟨tt, h7, rfl⟩, h3⟩, by simp [h4], fun k x u hx hu => ?_⟩
  cases k with
  | zero =>
   simp at hx hu
   subst hx hu
   exact Z10 hty.1.1.1 (hok 0 t v rfl rfl) h7 h8 _
  | succ k =>
   have := h5 k x u (by simpa using hx) (by simpa using hu)
   rw [show i + (k + 1) = i + 1 + k by omega]; exact this
theorem Z12 (hlo : laidOutB P = true) {sp' : Nat -> Bool} : ∀ (es : List Ty) (ts : List TypeId) (vs : List Value) {ds : List (DataW H)} {ps : List MemPlace}, ey P ts es = true -> DataW.TrodAll enc P W 0 (fun _ => true) true ts vs ds ps -> (∀ p ∈ ps, W.sameAt W' p) -> (∀ p ∈ ps, sp' p.block = true) ->
  DataW.TrodAll enc P W' 0 sp' true ts vs ds ps
 | [], [], vs, ds, ps, hty, h, _, _ => by
  obtain ⟨rfl, rfl, rfl⟩ := trodAll_nil h
  rfl
 | [], _ :: _, vs, ds, ps, hty, h, _, _ => by simp [ey] at hty
 | _ :: _, [], vs, ds, ps, hty, h, _, _ => by simp [ey] at hty
 | e :: es, t :: ts, vs, ds, ps, hty, h, hs, hp => by
  obtain ⟨v, vs', d, ds', p, q, rfl, rfl, rfl, h1, h2⟩ := trodAll_cons h
  simp only [ey, Y2, decide_eq_true_eq] at hty
  exact ⟨p, q, WideElems.Trod_stays hlo hty.1.1.2 hty.1.2 h1 (fun x hx => hs x (Y53 _ hx)) (fun x hx => hp x (Y53 _ hx)),
   Z12 hlo es ts vs' hty.2 h2 (fun x hx => hs x (Y54 _ hx)) (fun x hx => hp x (Y54 _ hx)), rfl⟩
def lS (P : Program) (fn : Func) : Bool :=
 match fn.resultTypes.toList with
 | [tb] => match P.underlying tb with
  | some .bool => true
  | _ => false
 | _ => false
theorem Zgd {P : Program} {fn : Func} (h : lS P fn = true) : ∃ tb, fn.resultTypes = #[tb] /\ P.underlying tb = some .bool := by
 unfold lS at h
 split at h
 ·rename_i tb hl
  split at h
  ·rename_i hu; exact ⟨tb, by rw [<- Array.toArray_toList (xs := fn.resultTypes), hl], hu⟩
  ·cases h
 ·cases h
theorem Z9j (hlo : laidOutB P = true) {g : Nat} {f : FuncId} {F : Fun} {fn : Func} (hF : dB P tab g F) (hg : tab g = f) {es : List Ty} (hty : ey P fn.params.toList es = true) (Ln : lS P fn = true)
  (Lp : ∀ as, mg es as -> F as = some ⟨[.one (.b true)], []⟩) {s : ChangeSpec} (hsv : s.vars = []) (hsf : ∀ ds : List (DataW H), ds.length = es.length -> s.fn H ds = { results := [.lit (.bool true)], args := ds })
  {base : Nat} {args : Array Value} {ds gs : List (DataW H)} {before : List MemPlace} (bz : ∀ (j : Nat) t v, fn.params[j]? = some t -> args[j]? = some v -> Value.okWide P W .any base t v) (hW : DataW.Whole enc P fn.params.toList s.vars false W args.toList ds gs before) :
  Calls P f args W fun e W' => ∃ v, e = .returned v /\ s.post enc P fn false true false false W args v W' := by
 obtain ⟨tb, j6, htb⟩ := Zgd Ln
 have hW0 := hW
 obtain ⟨p, q, hA, hV, rfl, hfz, hnd⟩ := hW
 rw [hsv] at hV
 obtain ⟨rfl, rfl⟩ := trodVars_none hV
 obtain ⟨as, h1, h2, h3⟩ := Z11 (tab := tab) es fn.params.toList args.toList 0 hty (fun j t v hj hv => bz j t v (by simpa using hj) (by simpa using hv)) hA
 have hdl : ∀ (ts : List TypeId) (vs : List Value) (ds : List (DataW H)) (ps : List MemPlace) (es : List Ty), ey P ts es = true -> DataW.TrodAll enc P W 0 (fun _ => true) true ts vs ds ps -> ds.length = es.length := by
  intro ts
  induction ts with
  | nil =>
   intro vs ds ps es ht h
   obtain ⟨_, rfl, _⟩ := trodAll_nil h
   cases es with
   | nil => rfl
   | cons => simp [ey] at ht
  | cons t ts ih =>
   intro vs ds ps es ht h
   obtain ⟨v, vs', d, ds', p, q, rfl, rfl, rfl, _, h2⟩ := trodAll_cons h
   cases es with
   | nil => simp [ey] at ht
   | cons e es =>
    simp only [ey, Y2] at ht
    simp [ih vs' ds' q es ht.2 h2]
 have hlen := hdl _ _ _ _ _ hty hA
 have lq := hF as args.toList W (fN W) _ (Lp as h1) h2 (fun i x v hx hv => by have := h3 i x v hx hv; rwa [Y83] at this) (fun b hb => by
  unfold fN at hb
  split at hb
  ·assumption
  ·exact absurd rfl hb) (fun b r q hb => by unfold fN at hb; split at hb <;> cases hb)
 rw [hg] at lq
 refine Calls.mono lq fun e W' he => ?_
 cases e with
 | panicked c => exact he.elim
 | outgrown => exact he.elim
 | returned v =>
  obtain ⟨ow', hA'⟩ := he
  have hv : v = .bool true := by
   have := hA'.res
   simpa [n9, j3, rep] using this
  subst hv
  have fK : ∀ b, b < W.heap.size -> W'.heap[b]? = W.heap[b]? := fun b hb => (hA'.z b (by simp [fN, hb])).2
  have hlt : ∀ x ∈ p ++ [], x.block < W.heap.size := fun x hx => hW0.lt x hx
  rw [Y22] at hlt
  have Js : ∀ x ∈ p, W.sameAt W' x := fun x hx => by
   have h5 := fK x.block (hlt x hx)
   cases x with
   | cell b o => simp only [World.sameAt, World.cell?]; rw [show W'.heap[b]? = W.heap[b]? from h5]
   | map b => exact h5
  refine ⟨_, rfl, ds, [], p ++ [], [], p, [], hW0, ?_, ?_, ?_, ?_, fun h => by cases h⟩
  ·rw [Y22, hsf ds hlen, j6]
   refine trodAll_mk1 (v := .bool true) ⟨1, ?_⟩
   simp [DataW.trod, htb, Value.cells]
  ·rw [Y22, hsf ds hlen]
   exact Z12 hlo es _ _ hty hA Js (fun x hx => by simpa using hlt x hx)
  ·rw [Y22, hsf ds hlen, hsv]
   rfl
  ·refine ⟨hA'.os, hA'.output, fun i hi => ?_⟩
   rw [fK i hi]
   cases W.heap[i]? with
   | none => rfl
   | some o => cases o <;> first | exact ⟨rfl, rfl, rfl, fun _ _ => rfl⟩ | exact .inr ⟨rfl, rfl⟩ | rfl
end
end Go.Wr
namespace Go.Wr
abbrev LS := List (Nat × AV)
def LS.get : LS -> Nat -> AV
 | [], _ => .u
 | (k, v) :: l, s => bif Nat.beq k s then v else LS.get l s
def LS.lT {β : Type} : LS -> Nat -> (AV -> β) -> β
 | [], _, k => k .u
 | (a, v) :: l, s, k => bif Nat.beq a s then k v else LS.lT l s k
theorem LS.fO {β : Type} : ∀ (l : LS) (s : Nat) (k : AV -> β), l.lT s k = k (l.get s)
 | [], _, _ => rfl
 | (a, v) :: l, s, k => by
  simp only [LS.lT, LS.get]
  cases Nat.beq a s with
  | true => rfl
  | false => exact LS.fO l s k
def LS.ins {β : Type} : LS -> Nat -> AV -> (LS -> β) -> β
 | [], s, v, k => k [(s, v)]
 | (a, b) :: l, s, v, k => bif Nat.beq a s then k ((s, v) :: l) else LS.ins l s v fun l' => k ((a, b) :: l')
def LS.del {β : Type} : LS -> Nat -> (LS -> β) -> β
 | [], s, k => k []
 | (a, b) :: l, s, k => bif Nat.beq a s then LS.del l s k else LS.del l s fun l' => k ((a, b) :: l')
def T.force {β : Type} : T -> (T -> β) -> β
 | .i kd n, k => k (.i kd n)
 | .b x, k => k (.b x)
 | .s x, k => k (.s x)
 | .a cs, k => k (.a cs)
 | .l o sz es, k => k (.l o sz es)
 | .f g env, k => k (.f g env)
 | .p t, k => k (.p t)
 | .u, k => k .u
def jK {α β : Type} : List α -> (List α -> β) -> β
 | [], k => k []
 | x :: l, k => jK l fun l => k (x :: l)
def jL {β : Type} : List T -> (List T -> β) -> β
 | [], k => k []
 | x :: l, k => x.force fun x => jL l fun l => k (x :: l)
def ml {β : Type} (n : Nat) (k : Nat -> β) : β := match n with | 0 => k 0 | m + 1 => k (m + 1)
def K.force {β : Type} (c : K) (k : K -> β) : β := match c with | ⟨e, h, d⟩ => ml e fun e => ml h fun h => ml d fun d => k ⟨e, h, d⟩
def Cell.force {β : Type} (c : Cell) (k : Cell -> β) : β :=
 match c with
 | .x t => t.force fun t => k (.x t)
 | .w r kk p z lo n => kk.force fun kk => jK p fun p => k (.w r kk p z lo n)
def lu {β : Type} : List Cell -> (List Cell -> β) -> β
 | [], k => k []
 | x :: l, k => x.force fun x => lu l fun l => k (x :: l)
def LS.put {β : Type} (l : LS) (s : Nat) (v : AV) (k : LS -> β) : β :=
 match v with
 | .u => l.del s k
 | .x t => t.force fun t => l.ins s (.x t) k
 | .own kk t => kk.force fun kk => t.force fun t => l.ins s (.own kk t) k
 | .w r kk p z lo n => kk.force fun kk => jK p fun p => l.ins s (.w r kk p z lo n) k
 | .st cs => lu cs fun cs => l.ins s (.st cs) k
 | .box kk cs => kk.force fun kk => jL cs fun cs => l.ins s (.box kk cs) k
 | .ptr r kk p off => kk.force fun kk => jK p fun p => l.ins s (.ptr r kk p off) k
 | .q t off => t.force fun t => l.ins s (.q t off) k
 | .tup n => l.ins s (.tup n) k
def LS.of (l : LS) : St := l.get
theorem LS.yZ {β : Type} : ∀ (l : LS) (s : Nat) (v : AV) (k : LS -> β), ∃ l', l.ins s v k = k l' /\ l'.of = upd l.of s v
 | [], s, v, k => ⟨[(s, v)], rfl, by
  funext j
  simp only [LS.of, LS.get, upd]
  by_cases h : j = s
  ·subst h; simp
  ·have : Nat.beq s j = false := by rw [<- Y10, Nat.beq_eq]; exact fun e => h e.symm
   simp [this, h]⟩
 | (a, b) :: l, s, v, k => by
  simp only [LS.ins]
  cases h : Nat.beq a s with
  | true =>
   have h1 := Nat.eq_of_beq_eq_true h
   subst h1
   refine ⟨(a, v) :: l, rfl, ?_⟩
   funext j
   simp only [LS.of, LS.get, upd]
   by_cases hj : j = a
   ·subst hj; simp
   ·have : Nat.beq a j = false := by rw [<- Y10, Nat.beq_eq]; exact fun e => hj e.symm
    simp [this, hj]
  | false =>
   obtain ⟨l', h1, h2⟩ := LS.yZ l s v (fun l' => k ((a, b) :: l'))
   refine ⟨(a, b) :: l', h1, ?_⟩
   have hne : a ≠ s := fun e => by subst e; simp at h
   funext j
   have h3 := congrFun h2 j
   simp only [LS.of, LS.get, upd] at h3 ⊢
   by_cases hj : j = a
   ·subst hj; simp [hne]
   ·have : Nat.beq a j = false := by rw [<- Y10, Nat.beq_eq]; exact fun e => hj e.symm
    simp only [this, cond_false]
    exact h3
theorem LS.del_eq {β : Type} : ∀ (l : LS) (s : Nat) (k : LS -> β), ∃ l', l.del s k = k l' /\ l'.of = upd l.of s .u
 | [], s, k => ⟨[], rfl, by funext j; simp [LS.of, LS.get, upd]⟩
 | (a, b) :: l, s, k => by
  simp only [LS.del]
  cases h : Nat.beq a s with
  | true =>
   have h1 := Nat.eq_of_beq_eq_true h
   subst h1
   obtain ⟨l', h2, h3⟩ := LS.del_eq l a k
   refine ⟨l', h2, ?_⟩
   rw [h3]
   funext j
   simp only [LS.of, LS.get, upd]
   by_cases hj : j = a
   ·subst hj; simp
   ·have : Nat.beq a j = false := by rw [<- Y10, Nat.beq_eq]; exact fun e => hj e.symm
    simp [this, hj]
  | false =>
   obtain ⟨l', h1, h2⟩ := LS.del_eq l s (fun l' => k ((a, b) :: l'))
   refine ⟨(a, b) :: l', h1, ?_⟩
   have hne : a ≠ s := fun e => by subst e; simp at h
   funext j
   have h3 := congrFun h2 j
   simp only [LS.of, LS.get, upd] at h3 ⊢
   by_cases hj : j = a
   ·subst hj; simp [hne]
   ·have : Nat.beq a j = false := by rw [<- Y10, Nat.beq_eq]; exact fun e => hj e.symm
    simp only [this, cond_false]
    exact h3
theorem T.force_eq {β : Type} (t : T) (k : T -> β) : t.force k = k t := by cases t <;> rfl
theorem Z61 {α β : Type} : ∀ (l : List α) (k : List α -> β), jK l k = k l
 | [], _ => rfl
 | x :: l, k => by simp only [jK, Z61 l]
theorem Z63 {β : Type} : ∀ (l : List T) (k : List T -> β), jL l k = k l
 | [], _ => rfl
 | x :: l, k => by simp only [jL, T.force_eq, Z63 l]
theorem Z62 {β : Type} (n : Nat) (k : Nat -> β) : ml n k = k n := by cases n <;> rfl
theorem K.force_eq {β : Type} (c : K) (k : K -> β) : c.force k = k c := by
 obtain ⟨e, h, d⟩ := c
 simp only [K.force, Z62]
theorem Cell.force_eq {β : Type} (c : Cell) (k : Cell -> β) : c.force k = k c := by
 cases c
 ·simp only [Cell.force, T.force_eq]
 ·simp only [Cell.force, K.force_eq, Z61]
theorem Z60 {β : Type} : ∀ (l : List Cell) (k : List Cell -> β), lu l k = k l
 | [], _ => rfl
 | x :: l, k => by simp only [lu, Cell.force_eq, Z60 l]
theorem LS.put_eq {β : Type} (l : LS) (s : Nat) (v : AV) (k : LS -> β) : ∃ l', l.put s v k = k l' /\ l'.of = upd l.of s v := by
 cases v <;> simp only [LS.put, T.force_eq, K.force_eq, Z61, Z63, Z60]
 case u => exact LS.del_eq l s k
 all_goals exact LS.yZ l s _ k
def Pg.evK {α β : Type} : Pg α -> LS -> (α -> LS -> Option β) -> Option β
 | .ret a, l, k => k a l
 | .fail, _, _ => none
 | .get s q, l, k => l.lT s fun v => (q v).evK l k
 | .set s v q, l, k => l.put s v fun l => q.evK l k
 | .bind p f, l, k => p.evK l fun a l => (f a).evK l k
 | .jR s q, l, k => l.lT s fun v => (q v.bk).evK l k
 | .jS s c q, l, k => l.lT s fun v => (q (v.bc c)).evK l k
 | .dO s c t q, l, k => l.lT s fun v => match v.dO c t with
  | some v => l.put s v fun l => q.evK l k
  | none => none
def Pg.ev {α : Type} (p : Pg α) (l : LS) : Option (α × LS) := p.evK l fun a l => some (a, l)
theorem Ze4 {β γ : Type} (acc : LS) (s : Nat) (v : AV) (g : LS -> β) (k : β -> γ) : acc.put s v (fun l => k (g l)) = k (acc.put s v g) := by
 have Lq : ∀ (acc : LS) (v : AV) (g : LS -> β), acc.ins s v (fun l => k (g l)) = k (acc.ins s v g) := by
  intro acc
  induction acc with
  | nil => intro v g; rfl
  | cons x acc ih2 =>
   intro v g
   obtain ⟨a, b⟩ := x
   simp only [LS.ins]
   cases Nat.beq a s with
   | true => rfl
   | false => exact ih2 v fun l' => g ((a, b) :: l')
 have Lr : ∀ (acc : LS) (g : LS -> β), acc.del s (fun l => k (g l)) = k (acc.del s g) := by
  intro acc
  induction acc with
  | nil => intro g; rfl
  | cons x acc ih2 =>
   intro g
   obtain ⟨a, b⟩ := x
   simp only [LS.del]
   cases Nat.beq a s with
   | true => exact ih2 g
   | false => exact ih2 fun l' => g ((a, b) :: l')
 cases v <;> simp only [LS.put, T.force_eq, K.force_eq, Z61, Z63, Z60]
 case u => exact Lr acc g
 all_goals exact Lq acc _ g
def andThen {α β : Type} (r : Option (α × LS)) (k : α -> LS -> Option β) : Option β := match r with | some (a, l) => k a l | none => none
theorem Z3o {α : Type} : ∀ (p : Pg α) {β : Type} (l : LS) (k : α -> LS -> Option β), p.evK l k = andThen (p.ev l) k
 | .ret a, β, l, k => rfl
 | .fail, β, l, k => rfl
 | .get s q, β, l, k => by
  simp only [Pg.ev, Pg.evK, LS.fO]
  exact Z3o (q (l.get s)) l k
 | .set s v q, β, l, k => by
  simp only [Pg.ev, Pg.evK]
  rw [<- Ze4 l s v (fun l => q.evK l fun a l => some (a, l)) fun r => andThen r k]
  congr 1
  funext l'
  exact Z3o q l' k
 | .jR s q, β, l, k => by
  simp only [Pg.ev, Pg.evK, LS.fO]
  exact Z3o (q _) l k
 | .jS s c q, β, l, k => by
  simp only [Pg.ev, Pg.evK, LS.fO]
  exact Z3o (q _) l k
 | .dO s c t q, β, l, k => by
  simp only [Pg.ev, Pg.evK, LS.fO]
  cases (l.get s).dO c t with
  | none => rfl
  | some v =>
   simp only
   rw [<- Ze4 l s v (fun l => q.evK l fun a l => some (a, l)) fun r => andThen r k]
   congr 1
   funext l'
   exact Z3o q l' k
 | .bind p f, β, l, k => by
  simp only [Pg.ev, Pg.evK]
  rw [Z3o p l, Z3o p l]
  cases p.ev l with
  | none => rfl
  | some x => exact Z3o (f x.1) x.2 k
theorem Z3p {α β : Type} (p : Pg α) (f : α -> Pg β) (l : LS) : (p.bind f).ev l = match p.ev l with | some (a, l') => (f a).ev l' | none => none := by
 show p.evK l _ = _
 rw [Z3o]
 cases p.ev l <;> rfl
theorem Z3w {α : Type} (s : Nat) (q : AV -> Pg α) (l : LS) : (Pg.get s q).ev l = (q (l.get s)).ev l := by
 simp only [Pg.ev, Pg.evK, LS.fO]
theorem Z3y {α : Type} (a : α) (l : LS) : (Pg.ret a).ev l = some (a, l) := rfl
theorem Z40 {α : Type} : ∀ (p : Pg α) {l l' : LS} {x : α}, p.ev l = some (x, l') -> p.run l.of = some (x, l'.of)
 | .ret a, l, l', x, h => by
  simp only [Z3y, Y89, Y90] at h
  obtain ⟨rfl, rfl⟩ := h
  rfl
 | .fail, l, l', x, h => by cases h
 | .get s k, l, l', x, h => by
  rw [Z3w] at h
  exact Z40 (k (l.get s)) h
 | .set s v k, l, l', x, h => by
  simp only [Pg.ev, Pg.evK] at h
  obtain ⟨l2, h1, h2⟩ := LS.put_eq l s v fun l => k.evK l fun a l => some (a, l)
  rw [h1] at h
  have := Z40 k h
  rw [h2] at this
  exact this
 | .jR s k, l, l', x, h => by
  simp only [Pg.ev, Pg.evK, LS.fO] at h
  exact Z40 (k _) h
 | .jS s c k, l, l', x, h => by
  simp only [Pg.ev, Pg.evK, LS.fO] at h
  exact Z40 (k _) h
 | .dO s c t k, l, l', x, h => by
  simp only [Pg.ev, Pg.evK, LS.fO] at h
  simp only [Pg.run]
  show (match (l.get s).dO c t with | some v => k.run (upd l.of s v) | none => none) = _
  cases hv : (l.get s).dO c t with
  | none => rw [hv] at h; cases h
  | some v =>
   rw [hv] at h
   simp only at h ⊢
   obtain ⟨l2, h1, h2⟩ := LS.put_eq l s v fun l => k.evK l fun a l => some (a, l)
   rw [h1] at h
   have := Z40 k h
   rw [h2] at this
   exact this
 | .bind p f, l, l', x, h => by
  rw [Z3p] at h
  simp only [Pg.run]
  cases h1 : p.ev l with
  | none => rw [h1] at h; cases h
  | some y =>
   rw [h1] at h
   rw [Z40 p h1]
   exact Z40 (f y.1) h
structure EvP {α : Type} (p : Pg α) (l : LS) (K : α -> LS -> Prop) : Prop where
 out : ∃ x l', p.ev l = some (x, l') /\ K x l'
structure EvO (id i : Nat) (os : List aC) (l : LS) (K : Unit -> LS -> Prop) : Prop where
 out : EvP (jW id i os) l K
structure EvD (id i : Nat) (os : List aC) (fs : List (List Nat × List Nat)) (l : LS) (K : Unit -> LS -> Prop) : Prop where
 out : EvP (ir id i os fs) l K
def eh (e : Nat) (args : List (Pass × Opd)) (env : List T) : Pg (List Hand) := do
 let ts <- gH e args
 let hs0 <- fI e args ts
 pure (hs0 ++ env.map fun t => { arg := .x t })
def db (hs : List Hand) (o : Out) : Bool := apart hs && (((hs.all fun h => h.bor.isEmpty) || (o.res.all RV.closed && o.back.all ba)) && o.res.all RV.fi)
def dC (e : Nat) (d : Option Nat) (hs : List Hand) (o : Out) : Pg Unit := do
 dy e hs o.back
 results e d o.res
theorem Z44 {e : Nat} {d : Option Nat} {F : Fun} {args : List (Pass × Opd)} {env : List T} {l l1 l2 : LS} {hs : List Hand} {o : Out} (h1 : (eh e args env).ev l = some (hs, l1)) (h2 : F (hs.map Hand.arg) = some o) (h3 : db hs o = true)
  (h4 : (dC e d hs o).ev l1 = some ((), l2)) : (ga e d F args env).ev l = some ((), l2) := by
 unfold db at h3
 simp only [Y2] at h3
 obtain ⟨ha, hb, hc⟩ := h3
 unfold eh at h1
 unfold ga
 simp only [Bind.bind, Z3p, Pure.pure, Z3y] at h1 ⊢
 cases e1 : (gH e args).ev l with
 | none => simp [e1] at h1
 | some x1 =>
  obtain ⟨ts, l3⟩ := x1
  simp only [e1] at h1 ⊢
  cases e2 : (fI e args ts).ev l3 with
  | none => simp [e2] at h1
  | some x2 =>
   obtain ⟨hs0, l4⟩ := x2
   simp only [e2, Y89, Y90] at h1 ⊢
   obtain ⟨rfl, rfl⟩ := h1
   simp only [ha, if_true, h2, hb, hc, Y4]
   exact h4
theorem Zls {α β : Type} {r w : List Nat} (p : Pg α) (f : α -> Pg β) : (p.bind f).within r w = (p.within r w).bind fun x => (f x).within r w := rfl
theorem Zlu {α : Type} {r w : List Nat} (a : α) : (Pg.ret a).within r w = Pg.ret a := rfl
theorem Z45 {e : Nat} {d : Option Nat} {F : Fun} {args : List (Pass × Opd)} {env : List T} {r w : List Nat} {l l1 l2 : LS} {hs : List Hand} {o : Out} (h1 : ((eh e args env).within r w).ev l = some (hs, l1)) (h2 : F (hs.map Hand.arg) = some o) (h3 : db hs o = true)
  (h4 : ((dC e d hs o).within r w).ev l1 = some ((), l2)) : ((ga e d F args env).within r w).ev l = some ((), l2) := by
 unfold db at h3
 simp only [Y2] at h3
 obtain ⟨ha, hb, hc⟩ := h3
 unfold eh at h1
 unfold ga
 simp only [Bind.bind, Zls, Z3p, Pure.pure, Zlu, Z3y] at h1 ⊢
 cases e1 : ((gH e args).within r w).ev l with
 | none => simp [e1] at h1
 | some x1 =>
  obtain ⟨ts, l3⟩ := x1
  simp only [e1] at h1 ⊢
  cases e2 : ((fI e args ts).within r w).ev l3 with
  | none => simp [e2] at h1
  | some x2 =>
   obtain ⟨hs0, l4⟩ := x2
   simp only [e2, Y89, Y90] at h1 ⊢
   obtain ⟨rfl, rfl⟩ := h1
   simp only [ha, if_true, h2, hb, hc, Y4]
   exact h4
structure Ev (c : bR) (l : LS) (us : List Nat) (K : Ex -> LS -> List Nat -> Prop) : Prop where
 out : ∃ ex l' us', den c ⟨l.of, us⟩ = some (ex, ⟨l'.of, us'⟩) /\ K ex l' us'
section
variable {l : LS} {us : List Nat} {K : Ex -> LS -> List Nat -> Prop}
theorem Z42 (h : K .nx l us) : Ev .sk l us K := ⟨.nx, l, us, rfl, h⟩
theorem Z3z (h : K .ret l us) : Ev .ret l us K := ⟨.ret, l, us, rfl, h⟩
theorem Z3u {id : Nat} (h : K (.exit id) l us) : Ev (.exit id) l us K := ⟨.exit id, l, us, rfl, h⟩
def CE (b : bR) (K : Ex -> LS -> List Nat -> Prop) : Ex -> LS -> List Nat -> Prop
 | .nx, l', us' => Ev b l' us' K
 | ex, l', us' => K ex l' us'
theorem Z41 {a b : bR} (h : Ev a l us (CE b K)) : Ev (.seq a b) l us K := by
 obtain ⟨ex, l', us', h1, h2⟩ := h
 cases ex with
 | nx =>
  obtain ⟨ex2, l2, us2, h3, h4⟩ := h2
  exact ⟨ex2, l2, us2, by simp only [den, h1]; exact h3, h4⟩
 | exit id => exact ⟨_, l', us', by simp only [den, h1], h2⟩
 | ret => exact ⟨_, l', us', by simp only [den, h1], h2⟩
theorem Z3r {c : Opd} {a b : bR} {t : Bool} {l1 : LS} (h : (raw 0 c).ev l = some (.x (.b t), l1)) (h1 : t = true -> Ev a l us K) (h2 : t = false -> Ev b l us K) : Ev (.cond c a b) l us K := by
 have h3 := Z40 _ h
 cases t with
 | true =>
  obtain ⟨ex, l', us', h4, h5⟩ := h1 rfl
  exact ⟨ex, l', us', by simp only [den, h3, if_true]; exact h4, h5⟩
 | false =>
  obtain ⟨ex, l', us', h4, h5⟩ := h2 rfl
  exact ⟨ex, l', us', by simp only [den, h3, Y9, if_false]; exact h4, h5⟩
def Ay (id : Nat) (K : Ex -> LS -> List Nat -> Prop) : Ex -> LS -> List Nat -> Prop
 | .exit id', l', us' => bif Nat.beq id' id then K .nx l' us' else K (.exit id') l' us'
 | ex, l', us' => K ex l' us'
theorem Z3q {id : Nat} {c : bR} (h : Ev c l us (Ay id K)) : Ev (.blk id c) l us K := by
 obtain ⟨ex, l', us', h1, h2⟩ := h
 cases ex with
 | nx => exact ⟨.nx, l', us', by simp only [den, h1], h2⟩
 | ret => exact ⟨.ret, l', us', by simp only [den, h1], h2⟩
 | exit id' =>
  simp only [Ay] at h2
  cases hb : Nat.beq id' id with
  | true =>
   have := Nat.eq_of_beq_eq_true hb
   subst this
   rw [hb] at h2
   exact ⟨.nx, l', us', by simp only [den, h1, if_true], h2⟩
  | false =>
   rw [hb] at h2
   have hne : id' ≠ id := fun e => by subst e; simp at hb
   exact ⟨.exit id', l', us', by simp only [den, h1, if_neg hne], h2⟩
def e9 {β : Type} (l : LS) (full : List Nat) : List Nat -> LS -> (LS -> β) -> β
 | [], acc, k => k acc
 | s :: ks, acc, k => if s < 1000 then acc.put s (renew full l.of (l.get s)) fun acc => e9 l full ks acc k else e9 l full ks acc k
end
theorem Zg6 {β : Type} (l : LS) (full : List Nat) : ∀ (ks : List Nat) (acc : LS) (k : LS -> β), ∃ l', e9 l full ks acc k = k l' /\ ∀ s, l'.of s = if s ∈ ks /\ s < 1000 then renew full l.of (l.of s) else acc.of s
 | [], acc, k => ⟨acc, rfl, fun s => by simp⟩
 | s :: ks, acc, k => by
  simp only [e9]
  split
  ·rename_i hs
   obtain ⟨Ls, h1, h2⟩ := LS.put_eq acc s (renew full l.of (l.get s)) fun acc => e9 l full ks acc k
   obtain ⟨l', h3, h4⟩ := Zg6 l full ks Ls k
   refine ⟨l', h1.trans h3, fun j => ?_⟩
   rw [h4 j, h2]
   by_cases hj : j = s
   ·subst hj
    simp [upd, hs, LS.of]
   ·simp [upd, hj]
  ·rename_i hs
   obtain ⟨l', h3, h4⟩ := Zg6 l full ks acc k
   refine ⟨l', h3, fun j => ?_⟩
   rw [h4 j]
   by_cases hj : j = s
   ·subst hj; simp [hs]
   ·simp [hj]
def LS.cL {β : Type} (l : LS) (bd : List Nat) (k : LS -> β) : β := e9 l bd bd [] k
theorem Zgo {f : Sg -> Option (Ex × Sg)} {s s' : Sg} {r : Ex × Sg} (h : f s = some (.nx, s')) (hr : rounds f s' = some r) : rounds f s = some r := by
 unfold rounds at hr
 split at hr
 ·rename_i hex
  have mono : ∀ (n m : Nat) (s : Sg) (r : Ex × Sg), n <= m -> iter f n s = some r -> iter f m s = some r := by
   intro n
   induction n with
   | zero => intro m s r _ h; simp [iter] at h
   | succ n ih =>
    intro m s r hnm h
    obtain ⟨m, rfl⟩ : ∃ k, m = k + 1 := ⟨m - 1, by omega⟩
    simp only [iter] at h ⊢
    cases hf : f s with
    | none => simp [hf] at h
    | some x =>
     obtain ⟨ex, s1⟩ := x
     cases ex <;> simp only [hf] at h ⊢ <;> first | exact h | exact ih m s1 r (by omega) h
  have h1 : iter f (hex.choose + 1) s = some r := by simp only [iter, h]; exact hr
  unfold rounds
  have lU : ∃ n, (iter f n s).isSome := ⟨_, by rw [h1]; rfl⟩
  rw [dif_pos lU]
  have h2 := lU.choose_spec
  obtain ⟨r2, h3⟩ := Option.isSome_iff_exists.1 h2
  rw [h3]
  rcases Nat.le_total lU.choose (hex.choose + 1) with hle | hle
  ·have := mono _ _ _ _ hle h3
   rw [h1] at this
   exact this.symm
  ·have := mono _ _ _ _ hle h1
   rw [h3] at this
   exact this
 ·cases hr
theorem Zgn {f : Sg -> Option (Ex × Sg)} {s : Sg} {ex : Ex} {s' : Sg} (h : f s = some (ex, s')) (hne : ex ≠ .nx) : rounds f s = some (ex, s') := by
 have h1 : ∀ n, iter f (n + 1) s = some (ex, s') := fun n => by
  simp only [iter, h]
  cases ex <;> first | exact absurd rfl hne | rfl
 unfold rounds
 have lU : ∃ n, (iter f n s).isSome := ⟨1, by rw [h1]; rfl⟩
 rw [dif_pos lU]
 have h2 := lU.choose_spec
 cases hn : lU.choose with
 | zero => rw [hn] at h2; simp [iter] at h2
 | succ n => exact h1 n
def fP (bd : List Nat) (c : bR) (K : Ex -> LS -> List Nat -> Prop) : Ex -> LS -> List Nat -> Prop
 | .nx, l', us' => Ev (.loop bd c) l' us' K
 | ex, l', us' => K ex l' us'
theorem Z3x {bd : List Nat} {c : bR} {l : LS} {us : List Nat} {K : Ex -> LS -> List Nat -> Prop} (h : l.cL bd fun l' => Ev c l' [] (fP bd c K)) : Ev (.loop bd c) l us K := by
 unfold LS.cL at h
 obtain ⟨l', h1, h2⟩ := Zg6 l bd bd [] fun l' => Ev c l' [] (fP bd c K)
 rw [h1] at h
 have hσ : l'.of = Wr.cL bd l.of := by
  funext s
  rw [h2 s, Zg8]
  rfl
 obtain ⟨ex, l2, us2, h3, h4⟩ := h
 rw [hσ] at h3
 cases ex with
 | nx =>
  obtain ⟨ex3, l3, us3, h5, h6⟩ := h4
  exact ⟨ex3, l3, us3, Zgo (f := fun s => den c ⟨Wr.cL bd s.σ, []⟩) h3 h5, h6⟩
 | exit id => exact ⟨_, l2, us2, Zgn (f := fun s => den c ⟨Wr.cL bd s.σ, []⟩) h3 (by simp), h4⟩
 | ret => exact ⟨_, l2, us2, Zgn (f := fun s => den c ⟨Wr.cL bd s.σ, []⟩) h3 (by simp), h4⟩
def lv {β : Type} : Nat -> List Arg -> LS -> (LS -> β) -> β
 | _, [], l, k => k l
 | i, a :: as, l, k => l.put i (a.av i) fun l => lv (i + 1) as l k
theorem Z8l {β : Type} : ∀ (as : List Arg) (i : Nat) (l : LS) (k : LS -> β), ∃ l', lv i as l k = k l' /\ l'.of = ep i as l.of
 | [], i, l, k => ⟨l, rfl, rfl⟩
 | a :: as, i, l, k => by
  simp only [lv, ep]
  obtain ⟨l1, h1, h2⟩ := LS.put_eq l i (a.av i) fun l => lv (i + 1) as l k
  obtain ⟨l2, h3, h4⟩ := Z8l as (i + 1) l1 k
  exact ⟨l2, h1.trans h3, by rw [h4, h2]⟩
def CF (f : aA) (o : Out) : Ex -> LS -> List Nat -> Prop
 | .exit _, _, _ => False
 | _, l, _ => ∃ l', (leave f).ev l = some (o, l')
theorem Zad (f : Fun) : ∃ g, g = f := ⟨f, rfl⟩
noncomputable def lock (f : Fun) : Fun := Classical.choose (Zad f)
theorem Zac (f : Fun) : lock f = f := Classical.choose_spec (Zad f)
theorem Z6j {f : aA} {as : List Arg} {o : Out} (h0 : kG f as = true) (h : lv 0 as [] fun l => Ev f.code l [] (CF f o)) : lock (aD f) as = some o := by
 rw [Zac]
 obtain ⟨l, h1, h2⟩ := Z8l as 0 [] fun l => Ev f.code l [] (CF f o)
 rw [h1] at h
 obtain ⟨ex, l', us', h3, h4⟩ := h
 rw [h2] at h3
 have h5 : (LS.of [] : St) = fun _ => AV.u := rfl
 rw [h5] at h3
 unfold aD
 rw [if_pos h0, h3]
 cases ex with
 | exit id => exact h4.elim
 | nx =>
  obtain ⟨l2, h6⟩ := h4
  simp only [Z40 _ h6]
 | ret =>
  obtain ⟨l2, h6⟩ := h4
  simp only [Z40 _ h6]
end Go.Wr
namespace Go.Wr
section
variable {id i : Nat} {d : Option Nat} {op : MOp} {os : List aC} {l l1 l2 : LS} {K : Unit -> LS -> Prop} {s : Nat} {b want : Bool} {r w : List Nat} {fs : List (List Nat × List Nat)} {kl : List Nat}
theorem Z75 {e : Nat} (hg : l.get s = .x (.b b)) (ht : b = want) : (aC.exec e ⟨d, op, some (s, want), kl⟩).ev l = (aC.exec e ⟨d, op, none, kl⟩).ev l := by
 simp only [aC.exec, aC.go, Bind.bind, Z3p, Pg.rd, Z3w, Z3y, hg, ht, if_true]
theorem Z72 {e : Nat} (hg : l.get s = .x (.b b)) (ht : b = !want) : (aC.exec e ⟨d, op, some (s, want), kl⟩).ev l = ((bT d (.tup 0)).bind fun _ => forget kl).ev l := by
 have hne : b ≠ want := by subst ht; cases want <;> simp
 simp only [aC.exec, aC.go, Bind.bind, Z3p, Pg.rd, Z3w, Z3y, hg, if_neg hne]
theorem Z76 {e : Nat} (hr : r.contains s = true) (hg : l.get s = .x (.b b)) (ht : b = want) : ((aC.exec e ⟨d, op, some (s, want), kl⟩).within r w).ev l = ((aC.exec e ⟨d, op, none, kl⟩).within r w).ev l := by
 simp only [aC.exec, aC.go, Bind.bind, Zls, Z3p, Pg.rd, Pg.within, hr, if_true, Z3w, Z3y, hg, ht]
theorem Z73 {e : Nat} (hr : r.contains s = true) (hg : l.get s = .x (.b b)) (ht : b = !want) : ((aC.exec e ⟨d, op, some (s, want), kl⟩).within r w).ev l = (((bT d (.tup 0)).bind fun _ => forget kl).within r w).ev l := by
 have hne : b ≠ want := by subst ht; cases want <;> simp
 simp only [aC.exec, aC.go, Bind.bind, Zls, Z3p, Pg.rd, Pg.within, hr, if_true, Z3w, Z3y, hg, if_neg hne]
def qY (s : Nat) : List aC -> (Nat -> Prop) -> Prop
 | [], k => k 0
 | o :: os, k => match o.op with
  | .pick (.t c) _ _ => bif Nat.beq c s then k 1 else qY s os fun n => k (n + 1)
  | _ => qY s os fun n => k (n + 1)
def qZ : List aC -> (Nat -> Prop) -> Prop
 | [], k => k 0
 | [o], k => match o.d with | some d => k d | none => k 0
 | _ :: os, k => qZ os k
def LS.pu : LS -> Nat -> AV -> LS
 | [], _, _ => []
 | (a, b) :: l, s, v => bif Nat.beq a s then (a, v) :: l else (a, b) :: LS.pu l s v
def LS.j7 {β : Type} : LS -> Nat -> AV -> (LS -> β) -> β
 | [], _, _, k => k []
 | (a, b) :: l, s, v, k => bif Nat.beq a s then k ((a, v) :: l) else LS.j7 l s v fun l' => k ((a, b) :: l')
theorem Zik {β : Type} : ∀ (l : LS) (s : Nat) (v : AV) (k : LS -> β), l.j7 s v k = k (l.pu s v)
 | [], _, _, _ => rfl
 | (a, b) :: l, s, v, k => by
  simp only [LS.j7, LS.pu]
  cases Nat.beq a s with
  | true => rfl
  | false => simp only [cond_false]; rw [Zik l s v]
theorem Zil : ∀ (l : LS) (s : Nat) (v : AV), l.get s = v -> l.pu s v = l
 | [], _, _, _ => rfl
 | (a, b) :: l, s, v, h => by
  simp only [LS.get, LS.pu] at h ⊢
  cases hb : Nat.beq a s with
  | true => rw [hb] at h; simp only [cond_true] at h ⊢; rw [h]
  | false => rw [hb] at h; simp only [cond_false] at h ⊢; rw [Zil l s v h]
end
theorem Z3t {c : Opd} {a b : bR} {t : Bool} {l l1 : LS} {us : List Nat} {K : Ex -> LS -> List Nat -> Prop} (h : (raw 0 c).ev l = some (.x (.b t), l1)) (ht : t = true) (h1 : Ev a l us K) : Ev (.cond c a b) l us K :=
 Z3r h (fun _ => h1) (fun h2 => by rw [ht] at h2; cases h2)
theorem Z3s {c : Opd} {a b : bR} {t : Bool} {l l1 : LS} {us : List Nat} {K : Ex -> LS -> List Nat -> Prop} (h : (raw 0 c).ev l = some (.x (.b t), l1)) (ht : t = false) (h1 : Ev b l us K) : Ev (.cond c a b) l us K :=
 Z3r h (fun h2 => by rw [ht] at h2; cases h2) (fun _ => h1)
theorem fin {f : aA} {o o' : Out} {l l' : LS} (h : (leave f).ev l = some (o', l')) (ho : o' = o) : ∃ l', (leave f).ev l = some (o, l') := ⟨l', by rw [h, ho]⟩
theorem Zg7 {β : Type} (l : LS) (full : List Nat) : ∀ (ks : List Nat) (acc : LS) (k : LS -> β), e9 l full ks acc k = k (e9 l full ks acc fun x => x)
 | [], acc, k => rfl
 | s :: ks, acc, k => by
  simp only [e9]
  split
  ·have h5 : ∀ (l1 : LS), e9 l full ks l1 k = k (e9 l full ks l1 fun x => x) := fun l1 => Zg7 l full ks l1 k
   simp only [h5]
   exact Ze4 acc s _ (fun l1 => e9 l full ks l1 fun x => x) k
  ·exact Zg7 l full ks acc k
theorem Z3v {bd : List Nat} {c : bR} {l : LS} {us : List Nat} {K : Ex -> LS -> List Nat -> Prop} {α : Type} (S : Nat -> α -> LS) (Inv : Nat -> α -> Prop) (n : Nat) (x0 : α) (h0 : Inv 0 x0) (hS : (l.cL bd fun x => x) = S 0 x0)
  (step : ∀ i x, i <= n -> Inv i x -> (∀ x', i < n -> Inv (i + 1) x' -> ∀ l' us', (l'.cL bd fun x => x) = S (i + 1) x' -> fP bd c K .nx l' us') -> Ev c (S i x) [] (fP bd c K)) : Ev (.loop bd c) l us K := by
 have key : ∀ (d i : Nat) (x : α) (l : LS) (us : List Nat), i + d = n -> Inv i x -> (l.cL bd fun x => x) = S i x -> Ev (.loop bd c) l us K := by
  intro d
  induction d with
  | zero =>
   intro i x l us hi hx hl
   refine Z3x ?_
   unfold LS.cL at hl ⊢
   rw [Zg7, hl]
   exact step i x (by omega) hx fun x' hlt => by omega
  | succ d ih =>
   intro i x l us hi hx hl
   refine Z3x ?_
   unfold LS.cL at hl ⊢
   rw [Zg7, hl]
   exact step i x (by omega) hx fun x' hlt hx' l' us' hl' => ih (i + 1) x' l' us' (by omega) hx' hl'
 exact key n 0 x0 l us (by omega) h0 hS
section
variable {id i : Nat} {d : Option Nat} {os : List aC} {l l1 l2 : LS} {K : Unit -> LS -> Prop} {r w : List Nat} {fs : List (List Nat × List Nat)} {sz : Nat} {x ix : Opd} {k : IntKind} {n : Int} {es : List T} {t : T} {kl : List Nat}
end
end Go.Wr
namespace Go.Wr
section
variable {id i : Nat} {d : Option Nat} {os : List aC} {l l1 l2 : LS} {K : Unit -> LS -> Prop} {r w : List Nat} {fs : List (List Nat × List Nat)} {kl : List Nat}
def oc (c : RC) (p : List Nat) (off : Nat) (node : T) (new : List T) : Bool := c.eZ p && Nat.ble (off + new.length) node.cells.length && !new.isEmpty && new.all T.jl && !(new.any T.pinned)
theorem Zde {e : Nat} {c : RC} {p : List Nat} {off : Nat} {new : List T} {node t : T} {k : Wr.K} (hn : c.t.nav p = some node) (hm : c.t.cb p = true) (hok : oc c p off node new = true)
  (hk : (bif (sub node.cells off new.length).all T.scalar && new.all T.scalar then c.k else bump e c p) = k) (ht : c.t.put p (node.bO (bC node.cells off new)) = t) : putCells e c p off new = some { c with k := k, t := t } := by
 unfold oc at hok
 simp only [Y2] at hok
 obtain ⟨⟨⟨⟨h1, h2⟩, h3⟩, h4⟩, h5⟩ := hok
 unfold putCells
 simp only [hn, h1, hm, decide_eq_true (Y76 h2), h3, h4, h5, Y4, if_true, ht]
 congr 2
 rw [<- hk]
 cases ((sub node.cells off new.length).all T.scalar && new.all T.scalar) <;> rfl
end
def fil {α : Type} (f : α -> T) (z : T) (l : List α) (i : Nat) : List T := (l.take i).map f ++ List.replicate (l.length - i) z
theorem Z5h {α : Type} (f : α -> T) (z : T) (l : List α) : fil f z l 0 = List.replicate l.length z := by simp [fil]
theorem Z5d {α : Type} (f : α -> T) (z : T) (l : List α) {i : Nat} (h : l.length <= i) : fil f z l i = l.map f := by
 simp [fil, Y73 h, Nat.sub_eq_zero_of_le h]
theorem Z5f {α : Type} (f : α -> T) (z : T) (l : List α) {i : Nat} (h : i <= l.length) : (fil f z l i).length = l.length := by
 simp [fil]; omega
theorem Z5e {α : Type} (f : α -> T) (z : T) (l : List α) {i : Nat} (h : i < l.length) : (fil f z l i)[i]? = some z := by
 unfold fil
 rw [Y30 (by simp; omega)]
 simp [Nat.min_eq_left (Nat.le_of_lt h), List.getElem?_replicate]
 omega
theorem Z5g {α : Type} (f : α -> T) (z : T) (l : List α) {i : Nat} {x : α} (h : l[i]? = some x) : (fil f z l i).set i (f x) = fil f z l (i + 1) := by
 obtain ⟨hi, rfl⟩ := Y36.1 h
 unfold fil
 have hl : ((l.take i).map f).length = i := by simp; omega
 rw [List.set_append_right _ _ (by omega), hl, Nat.sub_self, List.take_succ_eq_append_getElem hi, Y49, Y21]
 congr 1
 obtain ⟨m, hm⟩ : ∃ m, l.length - i = m + 1 := ⟨l.length - i - 1, by omega⟩
 rw [hm, show l.length - (i + 1) = m by omega, List.replicate_succ]
 rfl
end Go.Wr
namespace Go.Wr
section
variable {id i : Nat} {d : Option Nat} {os : List aC} {l l1 l2 : LS} {K : Unit -> LS -> Prop} {r w : List Nat} {fs : List (List Nat × List Nat)} {kl : List Nat}
end
end Go.Wr

