/-
  What is proved: lemmas on the way to the laws of this seat. No condition.
-/
import Derived.Test.YtbghjecopkbhlaaGreatRa
set_option linter.unusedVariables false
set_option linter.unusedSimpArgs false
namespace Go.Wr
section
variable {X : Cx} {U : Nat -> Prop} {J J' : Nat} {σ σ' σ2 : St} {a a2 : Act} {w w' w2 : World} {ow ow' ow2 : Nat -> Ow} {e : Nat} {o : Oper}
def eR (X : Cx) (U : Nat -> Prop) (σ : St) (a : Act) (w : World) (ow : Nat -> Ow) (J e : Nat) (v : Value) : AV -> Prop
 | .own k t => k = ⟨e, e, e⟩ /\ (∃ o sz es, t = .l o sz es /\ o.own = true) /\ rep X.tab X.mv w ow (some (.ar J, [])) t [v]
 | .st cs => ∃ vs : Array Value, v = .agg vs /\ vs.toList.length = cs.length /\ ∀ (j : Nat) c u, cs[j]? = some c -> vs.toList[j]? = some u -> match c with
   | .x t => rep X.tab X.mv w ow (some (.ar (J + j), [])) t [u]
   | .w r k p z lo n => dc σ a w r k p z lo n u /\ U k.e /\ U k.h /\ U k.d
 | av => di X U σ a w ow e v av
def AV.jY : AV -> Nat
 | .own _ _ => 1
 | .st cs => cs.length
 | _ => 0
def AV.jq (J : Nat) (i : Nat) : AV -> Option (List Nat)
 | .own _ _ => if i = J then some [] else none
 | .st cs => if J <= i /\ i < J + cs.length then some [i - J] else none
 | _ => none
def cr (ow : Nat -> Ow) (d : Nat) (g : Nat -> Option (List Nat)) : Nat -> Ow := fun b =>
 match ow b with
 | .own (.sl s) q => if s = d then .no else .own (.sl s) q
 | .own (.ar i) q => match g i with
  | some pre => .own (.sl d) (pre ++ q)
  | none => .own (.ar i) q
 | o => o
theorem Z98 {d : Nat} {g : Nat -> Option (List Nat)} : Zs w ow w (cr ow d g) := fun b hb => ⟨by simp [cr, hb], rfl⟩
theorem Z96 {d i b : Nat} {g : Nat -> Option (List Nat)} {pre q : List Nat} (hg : g i = some pre) (hb : ow b = .own (.ar i) q) : cr ow d g b = .own (.sl d) (pre ++ q) := by
 simp [cr, hb, hg]
theorem Z95 {d i b : Nat} {g : Nat -> Option (List Nat)} {q : List Nat} (hb : cr ow d g b = .own (.ar i) q) : ow b = .own (.ar i) q := by
 unfold cr at hb
 cases h : ow b with
 | no => simp [h] at hb
 | z => simp [h] at hb
 | own r q' =>
  rw [h] at hb
  cases r with
  | sl s => simp only at hb; split at hb <;> cases hb
  | ar j => simp only at hb; split at hb <;> first | exact hb | cases hb
  | rs j => cases hb
theorem Z9f (h : Rel X U J σ a w ow) (d : Nat) (g : Nat -> Option (List Nat)) : gO X U J w ow w (cr ow d g) (some d) where
 z := Z98
 other := fun b s q hs hb => ⟨by simp only [ne_eq, Y89] at hs; simp only [cr, hb, if_neg (Ne.symm hs)], rfl⟩
 low := fun b hb => h.low b fun e => hb (by simp [cr, e])
 air := fun b i q hb => h.air b i q (Z95 hb)
 grown := Nat.le_refl _
 no := fun b _ hb => ⟨by simp [cr, hb], rfl⟩
 os := rfl
 output := rfl
theorem Z9e {av : AV} {v : Value} (hl : eR X U σ a w ow J e v av) {d : Nat} (hr : ∀ r, aQ U σ a w σ' a2 w r) : aP X σ' a2 w (cr ow d (fun i => av.jq J i)) d av v := by
 have hz : Zs w ow w (cr ow d (fun i => av.jq J i)) := Z98
 cases av
 case own k t =>
  obtain ⟨_, h1, h2⟩ := hl
  exact ⟨h1, Zg1 hz t (c := some (.ar J, [])) (fun b q hb => ⟨by rw [Z96 (pre := []) (by simp [AV.jq]) hb]; rfl, rfl⟩) h2⟩
 case st cs =>
  obtain ⟨vs, rfl, hlen, hc⟩ := hl
  refine ⟨vs, rfl, Z2j cs 0 vs.toList hlen fun j c u h1 h2 => ?_⟩
  have hj := (Y36.1 h1).1
  have := hc j c u h1 h2
  cases c with
  | x t => exact Zg1 hz t (c := some (.ar (J + j), [])) (c' := some (.sl d, [0 + j])) (fun b q hb => ⟨by
    rw [Z96 (pre := [j]) (by simp [AV.jq, hj]) hb]; simp, rfl⟩) this
  | w r k p z lo n => exact (hr r).iu this.2.1 this.2.2.1 this.2.2.2 this.1
 all_goals (simp only [eR] at hl; exact Zai hl hz hr)
theorem Z9 {av : AV} {v : Value} (hl : eR X U σ a w ow J e v av) : av.stamps (fun x => U x \/ Fam e x) := by
 cases av
 case own k t =>
  obtain ⟨rfl, _⟩ := hl
  exact ⟨.inr (Fam.self _), .inr (Fam.self _), .inr (Fam.self _)⟩
 case st cs =>
  obtain ⟨vs, rfl, hlen, hc⟩ := hl
  intro c hm
  obtain ⟨j, hj⟩ := Y59.1 hm
  have hjl := (Y36.1 hj).1
  have := hc j c vs.toList[j] hj (by simp)
  cases c with
  | x t => simp [Cell.stamps]
  | w r k p z lo n => exact ⟨.inl this.2.1, .inl this.2.2.1, .inl this.2.2.2⟩
 all_goals (simp only [eR] at hl; exact Zaj hl)
theorem Z7 {av : AV} {v : Value} (hl : eR X U σ a w ow J e v av) (c : RC) (hc : av.rc = some c) : c.k.e = e := by
 cases av
 case own k t =>
  obtain ⟨rfl, _⟩ := hl
  simp only [AV.rc, Y89] at hc
  subst hc; rfl
 case st cs => simp [AV.rc] at hc
 all_goals (simp only [eR] at hl; exact Zag hl c hc)
theorem Zjh (h : Rel X U J' σ a w ow) {v : Value} {av : AV} (hv : (execOp a.eval o).run X.P w = .ok (.value v) w) (hd : ca X o) (he : ∀ x, Fam e x -> ¬ U x)
  (hl : eR X U σ a w ow J e v av) (af : (bT o.dst av).run σ = some ((), σ')) : Sound X U a w e o σ' := by
 rw [Zhm] at af
 simp only [Y89, Y90, true_and] at af
 subst af
 cases bW : o.dst with
 | none =>
  have := Zjl (av := av) (v := v) (J' := J') h hv (ow' := ow) (gO.rfl h o.dst (Nat.le_refl _)) hd (Z9 hl) (Z7 hl) he (fun d hdd => by rw [bW] at hdd; cases hdd)
  rw [bW] at this
  exact this
 | some d =>
  have ht := Z9f h d (fun i => av.jq J i)
  have := Zjl (av := av) (v := v) (J' := J') h hv (ow' := cr ow d (fun i => av.jq J i)) (by rw [bW]; exact ht) hd (Z9 hl) (Z7 hl) he
   (fun d' hdd σ' a' hr => by rw [bW] at hdd; cases hdd; exact Z9e hl hr)
  rw [bW] at this
  exact this
theorem Zkm (h : Rel X U J σ a w ow) {s : Nat} {av : AV} (af : (iH e s).run σ = some (av, σ')) :
  ∃ ow', Gh X U J (J + av.jY) σ a w ow σ' ow' /\ eR X U σ' a w ow' J e (aK a s) av /\ (∀ r, r ≠ s -> σ' r = σ r) /\ (∀ r, σ' r ≠ .u -> σ r ≠ .u) := by
 unfold iH at af
 obtain ⟨v, σ1, h1, h2⟩ := Zh3 af
 obtain ⟨rfl, rfl⟩ := Zhj h1
 have hs := h.slot s
 have hst := h.bZ s
 have loose : ∀ av', di X U σ1 a w ow e (aK a s) av' -> (∀ k t, av' ≠ .own k t) -> (∀ cs, av' ≠ .st cs) -> av'.jY = 0 /\ eR X U σ1 a w ow J e (aK a s) av' := fun av' hl h3 h4 => by
  cases av'
  case own k t => exact absurd rfl (h3 k t)
  case st cs => exact absurd rfl (h4 cs)
  all_goals exact ⟨rfl, hl⟩
 cases hσ : σ1 s <;> rw [hσ] at hs hst h2 <;> simp only [Pg.run, reduceCtorEq] at h2
 case own k t =>
  simp only [aP] at hs
  simp only [Pg.wr, Pg.run, Pure.pure, Y89, Y90] at h2
  obtain ⟨rfl, rfl⟩ := h2
  have hz : Zs w ow w (ec ow s J) := fun b hb => ⟨by simp [ec, hb], rfl⟩
  have hg := Z7b (J' := J + 1) (v' := .u) (ow' := ec ow s J) h (r := s) (by simp [aP]) (by simp [AV.stamps]) hz (fun b r' q hr hb => by
    unfold ec; rw [hb]
    cases r' with
    | sl y => simp only; rw [if_neg (fun e => hr (by rw [e]))]
    | ar y => rfl
    | rs y => rfl) (fun b hb => by simp [ec, hb]) (fun b i q hb => by
    unfold ec at hb
    cases hob : ow b with
    | no => simp [hob] at hb
    | z => simp [hob] at hb
    | own r' q' =>
     rw [hob] at hb
     cases r' with
     | sl y =>
      simp only at hb
      split at hb
      ·simp at hb; omega
      ·cases hb
     | ar y => have := h.air b y q' hob; simp at hb; omega
     | rs y => cases hb) (aQ.fresh fun c' hc' => by simp [upd, AV.rc] at hc') (by rw [hσ]; simp) (fun n => by rw [hσ]; simp)
  refine ⟨ec ow s J, ⟨hg.1, hz, fun b i q _ hb => by simp [ec, hb], hg.2⟩, ⟨rfl, hs.1, ?_⟩, fun r hr => by simp [upd, hr], fun r hr => ?_⟩
  ·exact Zg1 hz t (c := some (.sl s, [])) (fun b q hb => ⟨by simp only [Y66] at hb; simp [ec, hb], rfl⟩) hs.2
  ·by_cases e1 : r = s
   ·subst e1; simp [upd] at hr
   ·simpa [upd, e1] using hr
 case st cs =>
  simp only [aP] at hs
  obtain ⟨vs, bz, bA⟩ := hs
  obtain ⟨hlen, dp⟩ := Z2i bA
  split at h2
  ·have h3 := run_bind (Pg.wr s .u) (fun _ => (pure (.st cs) : Pg AV)) σ1
   simp only [Bind.bind] at h3
   rw [h3] at h2
   simp only [Pg.wr, Pg.run, Pure.pure, Y86, Y89, Y90] at h2
   obtain ⟨rfl, rfl⟩ := h2
   have hz : Zs w ow w (cI ow s J cs.length) := fun b hb => ⟨by simp [cI, hb], rfl⟩
   have hg := Z7b (J' := J + cs.length) (v' := .u) (ow' := cI ow s J cs.length) h (r := s) (by simp [aP]) (by simp [AV.stamps]) hz (fun b r' q hr hb => by
     unfold cI; rw [hb]
     cases r' with
     | sl y => simp only; rw [if_neg (fun e => hr (by rw [e]))]
     | ar y => rfl
     | rs y => rfl) (fun b hb => by simp [cI, hb]) (fun b i q hb => by
     unfold cI at hb
     cases hob : ow b with
     | no => simp [hob] at hb
     | z => simp [hob] at hb
     | own r' q' =>
      rw [hob] at hb
      cases r' with
      | sl y =>
       simp only at hb
       split at hb
       ·split at hb
        ·split at hb
         ·simp at hb; omega
         ·cases hb
        ·cases hb
       ·cases hb
      | ar y => have := h.air b y q' hob; simp at hb; omega
      | rs y => cases hb) (aQ.fresh fun c' hc' => by simp [upd, AV.rc] at hc') (by rw [hσ]; simp) (fun n => by rw [hσ]; simp)
   refine ⟨cI ow s J cs.length, ⟨hg.1, hz, fun b i q _ hb => by simp [cI, hb], hg.2⟩, ⟨vs, bz, hlen, fun j c u hj hu => ?_⟩, fun r hr => by simp [upd, hr], fun r hr => ?_⟩
   ·have h5 := dp j c u hj hu
    rw [Y83] at h5
    have hjl := (Y36.1 hj).1
    cases c with
    | x t =>
     simp only [dm] at h5
     exact Zg1 hz t (c := some (.sl s, [j])) (fun b q hb => ⟨by simp only [Y24, Y66] at hb; simp [cI, hb, hjl], rfl⟩) h5
    | w r k p z lo n =>
     simp only [dm] at h5
     have hst := hst _ (Y62 hj)
     simp only [Cell.stamps] at hst
     exact ⟨(hg.2 r).iu hst.1 hst.2.1 hst.2.2 h5, hst⟩
   ·by_cases e1 : r = s
    ·subst e1; simp [upd] at hr
    ·simpa [upd, e1] using hr
  ·rename_i hno
   obtain ⟨rfl, rfl⟩ := Zhk h2
   refine ⟨ow, Gh.refl h (by omega), ⟨vs, bz, hlen, fun j c u hj hu => ?_⟩, fun r hr => rfl, fun r hr => hr⟩
   have h5 := dp j c u hj hu
   rw [Y83] at h5
   have hm := Y62 hj
   cases c with
   | x t =>
    simp only [dm] at h5
    refine Zah ?_ h5
    cases ht : t.loose with
    | true => rfl
    | false => exact absurd (Y20.2 ⟨_, hm, by simp [Cell.fy, ht]⟩) hno
   | w r k p z lo n =>
    simp only [dm] at h5
    exact ⟨h5, hst _ hm⟩
 case u =>
  obtain ⟨rfl, rfl⟩ := Zhk h2
  exact ⟨ow, Gh.refl h (by simp [AV.jY]), trivial, fun r hr => rfl, fun r hr => hr⟩
 case x t =>
  obtain ⟨rfl, rfl⟩ := Zhk h2
  exact ⟨ow, Gh.refl h (by simp [AV.jY]), hs, fun r hr => rfl, fun r hr => hr⟩
 case w r k p z lo n =>
  obtain ⟨rfl, rfl⟩ := Zhk h2
  exact ⟨ow, Gh.refl h (by simp [AV.jY]), ⟨hs, hst⟩, fun r hr => rfl, fun r hr => hr⟩
 case ptr r k p off =>
  obtain ⟨rfl, rfl⟩ := Zhk h2
  exact ⟨ow, Gh.refl h (by simp [AV.jY]), ⟨hs, hst⟩, fun r hr => rfl, fun r hr => hr⟩
 case q t off =>
  obtain ⟨rfl, rfl⟩ := Zhk h2
  exact ⟨ow, Gh.refl h (by simp [AV.jY]), hs, fun r hr => rfl, fun r hr => hr⟩
end
end Go.Wr
namespace Go.Wr
section
variable {X : Cx} {U : Nat -> Prop} {J J' : Nat} {σ σ' σ2 : St} {a a2 : Act} {w w' w2 : World} {ow ow' ow2 : Nat -> Ow} {e : Nat} {o : Oper}
theorem Rel.mono (h : Rel X U J σ a w ow) {U' : Nat -> Prop} (hU : ∀ x, U x -> U' x) (hJ : J <= J') : Rel X U' J' σ a w ow :=
 { h with bZ := fun s => AV.dR hU (h.bZ s), air := fun b i q hb => Y78 (h.air b i q hb) hJ }
theorem Z7d (h : Rel X U J σ a w ow) {U' : Nat -> Prop} (hU : ∀ x, U x -> U' x) {d J0 : Nat} {av : AV} (hl : eR X U σ a w ow J0 e (aK a d) av) (hd : σ d = .u)
  (hst : av.stamps U') (hrc : ∀ c, av.rc = some c -> ¬ U c.k.e) (qz : 1000 <= d /\ ∃ n, σ (d % 1000) = .tup n /\ d / 1000 <= n) :
  Rel X U' J (upd σ d av) a w (cr ow d (fun i => av.jq J0 i)) := by
 have ht := Z9f h d (fun i => av.jq J0 i)
 have cc : ∀ r, aQ U σ a w (upd σ d av) a w r := fun r => by
  by_cases h1 : r = d
  ·subst h1
   exact aQ.fresh fun c hc => by
    simp only [upd, if_true] at hc
    exact hrc c hc
  ·exact Zer (h.slot r) (by simp [upd, h1]) rfl ht.z (fun b q hb => rfl)
 refine ⟨h.size, h.small, h.defers, fun s => ?_, fun s => ?_, ht.low, ht.air, h.grown, fun b hb hr => Zi3 ht.z ht.no (Y78 hb h.grown) (h.same b hb hr) hr, h.os, h.output, h.bu, fun s hs hu => ?_⟩
 ·by_cases h1 : s = d
  ·subst h1
   simp only [upd, if_true]
   exact Z9e hl cc
  ·have := Zj6 (σ' := upd σ d av) (a' := a) (h.slot s) (h.bZ s) ht.z cc (fun b q hb => ht.other b s q (by simpa using Ne.symm h1) hb)
   simpa [upd, h1] using this
 ·by_cases h1 : s = d
  ·subst h1; simpa [upd] using hst
  ·simpa [upd, h1] using AV.dR hU (h.bZ s)
 ·have key : ∀ m, σ m ≠ .u -> m ≠ d := fun m hm e => hm (e ▸ hd)
  by_cases h1 : s = d
  ·subst h1
   obtain ⟨n, h2, h3⟩ := qz.2
   refine ⟨n, ?_, h3⟩
   simp only [upd, if_neg (key _ (by rw [h2]; simp))]
   exact h2
  ·simp only [upd, if_neg h1] at hu
   obtain ⟨n, h2, h3⟩ := h.gI s hs hu
   refine ⟨n, ?_, h3⟩
   simp only [upd, if_neg (key _ (by rw [h2]; simp))]
   exact h2
theorem Z33 {c : T} {v : Value} (hc : c.isConst v = true) (hf : ∀ g env, c ≠ .f g env) : eR X U σ a w ow J e v (eJ e c) := by
 unfold eJ
 split
 ·obtain ⟨rfl, rfl, _⟩ := Z8s hc
  exact ⟨rfl, ⟨_, _, _, rfl, rfl⟩, Z35 (.l .y _ []) _ _ (by simp [T.isConst]) (fun e => by cases e) (fun _ => by simp)⟩
 ·rename_i cs
  cases v <;> simp only [T.isConst, Y9] at hc
  rename_i vs
  refine ⟨vs, rfl, by rw [Zy _ _ hc]; simp, fun j c' u h1 h2 => ?_⟩
  rw [Y37] at h1
  obtain ⟨t, ht, rfl⟩ := Y87.1 h1
  obtain ⟨h3, h4⟩ := Zx cs vs.toList j hc ht h2
  exact Z35 t u _ h3 (fun e => by cases e) h4
 ·rename_i h1 h2
  refine Z35 c v none hc (fun _ sz es e => ?_) (fun cs e => h2 cs e)
  exact h1 sz es e
theorem Zcd {c : T} {y : Operand} (hx : (Opd.k c).is X.tab y = true) : eR X U σ a w ow J e (a.eval y) (eJ e c) := by
 cases y with
 | tmp m => cases c <;> simp [Opd.is] at hx
 | global g => cases c <;> simp [Opd.is] at hx
 | func f =>
  cases c <;> simp [Opd.is] at hx
  rename_i g env
  cases env <;> simp [Opd.is] at hx
  subst hx
  simp only [eJ, eR, di, rep, Act.eval]
  exact ⟨#[], rfl, by simp [aR]⟩
 | const v =>
  have hx' : c.isConst v = true := by cases c <;> simp only [Opd.is] at hx <;> exact hx
  simp only [Act.eval]
  exact Z33 hx' (fun g env e => by subst e; simp [T.isConst] at hx')
theorem Zkz (h : Rel X U J σ a w ow) {s n : Nat} (hs : σ s = .tup n) (hs1 : s < 1000) : ∃ vs : Array Value, a.tmps.getD s undef = .tuple vs /\ vs.size = n /\ ∀ j, aK a (vt s j) = vs.getD j undef := by
 have := h.slot s
 rw [hs] at this
 obtain ⟨vs, h1, h2⟩ := this
 unfold aK at h1
 rw [if_pos hs1] at h1
 refine ⟨vs, h1, h2, fun j => ?_⟩
 unfold aK vt
 rw [if_neg (by omega)]
 have h3 : (s + 1000 * (j + 1)) % 1000 = s := by omega
 have h4 : (s + 1000 * (j + 1)) / 1000 - 1 = j := by omega
 rw [h3, h4, h1]
theorem Zbd {s d n : Nat} (hsd : s ≠ d) (hs1 : s < 1000) (hd1 : d < 1000) {vs : Array Value} : ∀ (m : Nat) {σ σ' : St} {ow : Nat -> Ow} {J : Nat}, Rel X U J σ a w ow -> (∀ x, Fam e x -> x ≠ e -> ¬ U x) ->
  σ s = .tup n -> σ d = .tup n -> (∀ j, aK a (vt s j) = vs.getD j undef) -> (∀ j, aK a (vt d j) = vs.getD j undef) -> (∀ j, σ (vt d j) = .u) -> m <= n -> (lk e s d m).run σ = some ((), σ') ->
  ∃ J' ow', Rel X (fun x => U x \/ (e < x /\ x <= e + m /\ x < e + 8)) J' σ' a w ow' /\ σ' s = .tup n /\ σ' d = .tup n /\ (∀ j, m <= j -> σ' (vt d j) = .u)
 | 0, σ, σ', ow, J, h, he, h1, h2, h3, h4, h5, hm, af => by
  obtain ⟨_, rfl⟩ := Zhk af
  exact ⟨J, ow, h.mono (fun x hx => .inl hx) (Nat.le_refl _), h1, h2, fun j _ => h5 j⟩
 | m + 1, σ, σ', ow, J, h, he, h1, h2, h3, h4, h5, hm, af => by
  obtain ⟨_, σ1, hr1, hr2⟩ := Zh3 af
  obtain ⟨J1, ow1, g1, g2, g3, g4⟩ := Zbd hsd hs1 hd1 (vs := vs) m h he h1 h2 h3 h4 h5 (by omega) hr1
  split at hr2
  ·rename_i hm7
   obtain ⟨v, σ2, hr3, hr4⟩ := Zh3 hr2
   have := Zhu hr4
   subst this
   obtain ⟨ow2, k1, k2, k3, k4⟩ := Zkm g1 hr3
   have hne : ∀ j, vt s m ≠ vt d j := fun j => by unfold vt; omega
   have hns : s ≠ vt s m := by unfold vt; omega
   have hnd : d ≠ vt s m := by unfold vt; omega
   have KT : s ≠ vt d m := by unfold vt; omega
   have KU : d ≠ vt d m := by unfold vt; omega
   have bz : aK a (vt s m) = aK a (vt d m) := by rw [h3, h4]
   rw [bz] at k2
   have KV : Fam e (e + m + 1) := ⟨by omega, by omega⟩
   have hnU : ¬ (U (e + m + 1) \/ (e < e + m + 1 /\ e + m + 1 <= e + m /\ e + m + 1 < e + 8)) := fun hx => by
    rcases hx with hx | hx
    ·exact he _ KV (by omega) hx
    ·omega
   have KW : v.stamps (fun x => U x \/ (e < x /\ x <= e + (m + 1) /\ x < e + 8)) := by
    have hU2 : ∀ x, (U x \/ (e < x /\ x <= e + m /\ x < e + 8)) -> (U x \/ (e < x /\ x <= e + (m + 1) /\ x < e + 8)) := fun x hx => hx.imp id (fun y => ⟨y.1, by omega, y.2.2⟩)
    cases v
    case own k t =>
     obtain ⟨rfl, _⟩ := k2
     have : (e < e + m + 1 /\ e + m + 1 <= e + (m + 1) /\ e + m + 1 < e + 8) := by omega
     exact ⟨.inr this, .inr this, .inr this⟩
    case st cs =>
     obtain ⟨vs', _, hlen, hc⟩ := k2
     intro c hm'
     obtain ⟨j, hj⟩ := Y59.1 hm'
     have hjl := (Y36.1 hj).1
     have := hc j c vs'.toList[j] hj (by simp)
     cases c with
     | x t => simp [Cell.stamps]
     | w r k p z lo n => exact ⟨hU2 _ this.2.1, hU2 _ this.2.2.1, hU2 _ this.2.2.2⟩
    case w => exact ⟨hU2 _ k2.2.1, hU2 _ k2.2.2.1, hU2 _ k2.2.2.2⟩
    case ptr => exact ⟨hU2 _ k2.2.1, hU2 _ k2.2.2.1, hU2 _ k2.2.2.2⟩
    case box => exact k2.elim
    all_goals trivial
   have hu : σ2 (vt d m) = .u := by rw [k3 _ (Ne.symm (hne m))]; exact g4 m (Nat.le_refl _)
   have gx := Z7d (e := e + m + 1) k1.rel (U' := fun x => U x \/ (e < x /\ x <= e + (m + 1) /\ x < e + 8)) (fun x hx => hx.imp id (fun y => ⟨y.1, by omega, y.2.2⟩)) k2 hu KW
    (fun c hc => by
     have := Z7 k2 c hc
     rw [this]; exact hnU) ⟨by unfold vt; omega, n, by
      have : vt d m % 1000 = d := by unfold vt; omega
      rw [this, k3 _ hnd, g3], by unfold vt; omega⟩
   refine ⟨_, _, gx, ?_, ?_, fun j hj => ?_⟩
   ·simp only [upd, if_neg KT]; rw [k3 _ hns, g2]
   ·simp only [upd, if_neg KU]; rw [k3 _ hnd, g3]
   ·have h6 : vt d j ≠ vt d m := by unfold vt; omega
    simp only [upd, if_neg h6]
    rw [k3 _ (Ne.symm (hne j))]
    exact g4 j (by omega)
  ·simp [Pg.run] at hr2
theorem Zce {s : Nat} {y : Operand} (hx : (Opd.t s).is X.tab y = true) : y = .tmp s /\ s < 1000 := by
 cases y <;> simp [Opd.is] at hx
 exact ⟨by rw [hx.1], hx.2⟩
theorem Zbc (h : Rel X U J σ a w ow) (hd : ca X o) (he : ∀ x, Fam e x -> ¬ U x) {x : Opd} {y : Operand} (hx : x.is X.tab y = true) (hv : (execOp a.eval o).run X.P w = .ok (.value (a.eval y)) w) {d : Nat} (bW : o.dst = some d)
  (af : (l6 e d x).run σ = some ((), σ')) : Sound X U a w e o σ' := by
 cases x with
 | k c =>
  have hl : eR X U σ a w ow J e (a.eval y) (eJ e c) := Zcd hx
  refine Zjh (h.mono (fun x hx => hx) (Nat.le_refl J)) hv hd he hl ?_
  rw [bW]; exact af
 | t s =>
  obtain ⟨rfl, hs1⟩ := Zce hx
  simp only [l6] at af
  obtain ⟨v0, σ1, h1, h2⟩ := Zh3 af
  obtain ⟨rfl, rfl⟩ := Zhj h1
  by_cases jX : ∃ n, σ1 s = .tup n
  ·obtain ⟨n, hn⟩ := jX
   simp only [hn] at h2
   split at h2
   ·simp [Pg.run] at h2
   ·rename_i hsd
    have h3 := run_bind (setS d (.tup n)) (fun _ => lk e s d n) σ1
    simp only [Bind.bind] at h3
    rw [h3, Zhn] at h2
    simp only [Y86] at h2
    obtain ⟨hdn, hdp⟩ := hd d bW
    have hd1 : d < 1000 := Y78 hdn h.small
    have hdt : d < a.tmps.size := by rw [h.size]; exact hdn
    obtain ⟨vs, p1, p2, p3⟩ := Zkz h hn hs1
    have hev : a.eval (.tmp s) = .tuple vs := p1
    have hw := Zm0 h (U' := fun x => U x \/ x = e) (fun x hx => .inl hx) (gO.rfl h (some d) (Nat.le_refl J)) (av := .tup n) (v := a.eval (.tmp s)) (fun d' hd' => by cases hd'; exact ⟨hdn, hdp⟩) (by simp [AV.stamps]) (by simp [AV.rc])
     (fun d' hd' σ' a' hr => ⟨vs, hev, p2⟩)
    simp only [iw] at hw
    have hat := fun k => Ziy h hd1 (.tup n) k
    obtain ⟨J2, ow2, q1, q2, q3, q4⟩ := Zbd (n := n) (vs := vs) hsd hs1 hd1 n hw.1 (fun x hx hne hU => by
      rcases hU with hU | hU
      ·exact he x hx hU
      ·exact hne hU) (by rw [hat, if_neg hsd, if_neg (by omega), hn]) (by rw [hat, if_pos rfl])
     (fun j => by rw [Zl9 (by unfold vt; omega) (fun _ => by unfold vt; omega)]; exact p3 j) (fun j => by rw [hev]; exact Zlb hdt hd1)
     (fun j => by rw [hat, if_neg (by unfold vt; omega), if_pos (by unfold vt; omega)]) (Nat.le_refl n) h2
    intro K Q hK
    left
    unfold Oper.wp
    rw [hv, Oper.upon_value, bW]
    refine hK _ _ _ _ (q1.mono (fun x hx => ?_) (Nat.le_refl _))
    rcases hx with (hx | hx) | hx
    ·exact .inl hx
    ·exact .inr (hx ▸ Fam.self e)
    ·exact .inr ⟨by omega, hx.2.2⟩
  ·have h3 : (do let v <- iH e s; setS d v).run σ1 = some ((), σ') := by
    cases hσ : σ1 s <;> rw [hσ] at h2 <;> first | exact h2 | exact absurd ⟨_, hσ⟩ jX
   obtain ⟨v, σ2, h4, h5⟩ := Zh3 h3
   obtain ⟨ow', g1, g2, g3, g4⟩ := Zkm h h4
   rw [<- Z43 hs1] at g2
   have : Sound X U a w e o σ' := Zjh g1.rel hv hd he g2 (by rw [bW]; exact h5)
   exact this
theorem Z49 (h : Rel X U J σ a w ow) (hd : ca X o) (he : ∀ x, Fam e x -> ¬ U x) {x : Opd} {x' : Operand} (hx : x.is X.tab x' = true) (hop : o.op = .assign x')
  (af : (exec e o.dst (.asg x)).run σ = some ((), σ')) : Sound X U a w e o σ' := by
 have bz : (execOp a.eval o).run X.P w = .ok (.value (a.eval x')) w := by simp only [execOp, hop]; rfl
 simp only [exec] at af
 cases bW : o.dst with
 | none => simp [bW, Pg.run] at af
 | some d =>
  simp only [bW] at af
  exact Zbc h hd he hx bz bW af
theorem Z4w (h : Rel X U J σ a w ow) (hd : ca X o) (he : ∀ x, Fam e x -> ¬ U x) {x : Opd} {x' : Operand} (hx : x.is X.tab x' = true) (hop : o.op = .move x')
  (af : (exec e o.dst (.mv x)).run σ = some ((), σ')) : Sound X U a w e o σ' := by
 by_cases hnt : ∀ n, x = .t n -> ∀ m, σ n ≠ .tup m
 ·exact Z4x h hd he hx hop hnt af
 ·simp only [Classical.not_forall] at hnt
  obtain ⟨s, rfl, m, hm⟩ := hnt
  have hm : σ s = .tup m := by simpa using hm
  have bz : (execOp a.eval o).run X.P w = .ok (.value (a.eval x')) w := by simp only [execOp, hop]; rfl
  obtain ⟨av, σ1, h1, h2⟩ := Zh3 af
  have h1' : av = .tup m /\ σ1 = σ := by
   simp only [look] at h1
   obtain ⟨v0, σ2, h3, h4⟩ := Zh3 h1
   obtain ⟨rfl, rfl⟩ := Zhj h3
   rw [hm] at h4
   exact Zhk h4
  obtain ⟨rfl, rfl⟩ := h1'
  simp only at h2
  cases bW : o.dst with
  | none => simp [bW, Pg.run] at h2
  | some d =>
   simp only [bW] at h2
   exact Zbc h hd he hx bz bW h2
theorem Z4m (h : Rel X U J σ a w ow) (hd : ca X o) (he : ∀ x, Fam e x -> ¬ U x) {x : Opd} {x' : Operand} {j : Nat} (hx : x.is X.tab x' = true) (hop : o.op = .extract x' j)
  (af : (exec e o.dst (.ext x j)).run σ = some ((), σ')) : Sound X U a w e o σ' := by
 cases x with
 | k c => simp [exec, Pg.run] at af
 | t s =>
  obtain ⟨rfl, hs1⟩ := Zce hx
  simp only [exec] at af
  obtain ⟨v0, σ1, h1, h2⟩ := Zh3 af
  obtain ⟨rfl, rfl⟩ := Zhj h1
  cases hσ : σ1 s <;> rw [hσ] at h2 <;> try simp only [Pg.run, reduceCtorEq] at h2
  rename_i n
  split at h2
  ·rename_i hj
   have h3 := run_bind (iH e (vt s j)) (fun v => bT o.dst v) σ1
   simp only [Bind.bind] at h3
   rw [h3] at h2
   obtain ⟨⟨v, σ2⟩, h4, h5⟩ := Y84.1 h2
   obtain ⟨ow', g1, g2, g3, g4⟩ := Zkm h h4
   obtain ⟨vs, p1, p2, p3⟩ := Zkz h hσ hs1
   have hev : a.eval (.tmp s) = .tuple vs := p1
   refine Zjh g1.rel (v := aK a (vt s j)) ?_ hd he g2 h5
   simp only [execOp, hop, hev]
   refine Zht ?_
   have hjl : j < vs.size := by omega
   rw [p3 j]
   simp [Instr.extract, hjl, Pure.pure, Sem.run]
  ·simp [Pg.run] at h2
end
end Go.Wr
namespace Go.Wr
def qA (P : Program) (str : Bool) (t : Option TypeId) : Bool :=
 match t with
 | some t => (match P.underlying t with | some (.slice _) => !str | some .string => str | _ => false)
 | none => false
section
variable {X : Cx} {U : Nat -> Prop} {J J' : Nat} {σ σ' σ2 : St} {a a2 : Act} {w w' w2 : World} {ow ow' ow2 : Nat -> Ow} {e : Nat} {o : Oper}
theorem Zh4 {c : Call} {b : Builtin} (hop : o.op = .call c) (hc : c.callee = .builtin b) :
  execOp a.eval o = Go.builtin b c.argTypes o.type (c.args.map fun | .const _ => true | _ => false) (c.args.map a.eval) := by
 simp only [execOp, hop, resolve, hc]
 rfl
theorem Z4t (h : Rel X U J σ a w ow) (hd : ca X o) (he : ∀ x, Fam e x -> ¬ U x) {str : Bool} {x : Opd} {x' : Operand} {c : Call} (hx : x.is X.tab x' = true) (hop : o.op = .call c) (hc : c.callee = .builtin .len) (ha : c.args = #[x'])
  (hg : qA X.P str c.argTypes[0]? = true) (af : (exec e o.dst (.len str x)).run σ = some ((), σ')) : Sound X U a w e o σ' := by
 obtain ⟨av, σ1, h1, h2⟩ := Zh3 af
 obtain ⟨rfl, bm, hq1, hq2⟩ := Zaf h hx h1
 cases hl : jU str av with
 | none => simp [hl, Pg.run] at h2
 | some n =>
  simp only [hl] at h2
  refine Zjj h (v := .int .i64 n) (av := .x (.i .i64 n)) ?_ hd he (by simp [di, rep]) h2
  rw [Zh4 hop hc, ha]
  show (do pure (.value (<- Builtin.len_ c.argTypes o.type (#[x'].map a.eval))) : Sem Next).run X.P w = _
  refine Zht ?_
  unfold qA at hg
  cases htt : c.argTypes[0]? with
  | none => simp [htt] at hg
  | some t =>
   simp only [htt] at hg
   have KX : (#[x'].map a.eval)[0]? = some (a.eval x') := by simp
   unfold Builtin.len_
   rw [htt, KX]
   simp only
   cases str with
   | false =>
    obtain ⟨el, hu⟩ : ∃ el, X.P.underlying t = some (.slice el) := by
     revert hg
     cases X.P.underlying t with
     | none => simp
     | some d => cases d <;> simp
    rw [Zhl (Zhs hu)]
    have hv : ∃ A C, a.eval x' = .slice A n.toNat C /\ 0 <= n := by
     cases av <;> simp only [jU, reduceCtorEq] at hl
     case x t =>
      cases t <;> simp only [jU, reduceCtorEq, Y89] at hl
      subst hl
      simp only [cw] at bm
      obtain ⟨A, C, hv, _⟩ := Zfu bm
      exact ⟨A, C, by simpa using hv, by omega⟩
     case own k t =>
      cases t <;> simp only [jU, reduceCtorEq, Y89] at hl
      subst hl
      obtain ⟨c0, rfl⟩ := hq1 _ _ rfl
      obtain ⟨sz, h3, h4⟩ := bm
      cases h3
      exact ⟨none, 0, by simpa using h4, by simp⟩
     case w r k p z lo m =>
      simp only [Y89] at hl
      subst hl
      obtain ⟨⟨⟨A, C, hv, _⟩, _⟩, _⟩ := bm
      exact ⟨A, C, by simpa using hv, by omega⟩
    obtain ⟨A, C, hv, h0⟩ := hv
    rw [hv]
    simp only [goInt, Pure.pure, Sem.run]
    rw [Int.toNat_of_nonneg h0]
   | true =>
    have hu : X.P.underlying t = some .string := by
     revert hg
     cases X.P.underlying t with
     | none => simp
     | some d => cases d <;> simp
    rw [Zhl (Zhs hu)]
    cases av <;> simp only [jU, reduceCtorEq] at hl
    rename_i t
    cases t <;> simp only [jU, reduceCtorEq, Y89] at hl
    subst hl
    simp only [cw, rep, Y23, and_true] at bm
    rw [bm]
    rfl
theorem Zbv (h : Rel X U J σ a w ow) {x : Opd} {x' : Operand} (hx : x.is X.tab x' = true) {n : Int} (af : (num e x).run σ = some (n, σ')) : σ' = σ /\ a.eval x' = .int .i64 n := by
 unfold num at af
 obtain ⟨av, σ1, h1, h2⟩ := Zh3 af
 obtain ⟨rfl, bm⟩ := Zem h hx h1
 cases av <;> try simp only [Pg.run, reduceCtorEq] at h2
 rename_i t
 cases t <;> try simp only [Pg.run, reduceCtorEq] at h2
 rename_i k m
 cases k <;> try simp only [Pg.run, reduceCtorEq] at h2
 obtain ⟨rfl, rfl⟩ := Zhk h2
 exact ⟨rfl, by simpa [cw, rep] using bm⟩
def dW (tab : Nat -> FuncId) : List Opd -> List Operand -> Bool
 | [], [] => true
 | x :: xs, y :: ys => x.is tab y && dW tab xs ys
 | _, _ => false
theorem Zbw (h : Rel X U J σ a w ow) : ∀ (xs : List Opd) (ys : List Operand) {ns : List Int} {σ' : St}, dW X.tab xs ys = true -> (pd e xs).run σ = some (ns, σ') -> σ' = σ /\ ys.map a.eval = ns.map (.int .i64)
 | [], [], ns, σ', hx, af => by
  obtain ⟨rfl, rfl⟩ := Zhk af
  exact ⟨rfl, rfl⟩
 | [], _ :: _, ns, σ', hx, af => by simp [dW] at hx
 | _ :: _, [], ns, σ', hx, af => by simp [dW] at hx
 | x :: xs, y :: ys, ns, σ', hx, af => by
  simp only [dW, Y2] at hx
  simp only [pd] at af
  obtain ⟨n, σ1, h1, h2⟩ := Zh3 af
  obtain ⟨e1, hn⟩ := Zbv h hx.1 h1
  obtain ⟨ns', σ2, h3, h4⟩ := Zh3 h2
  rw [e1] at h3
  obtain ⟨e2, hns⟩ := Zbw h xs ys hx.2 h3
  obtain ⟨rfl, rfl⟩ := Zhk h4
  exact ⟨e2, by simp [hn, hns]⟩
theorem Zhg {P : Program} : ∀ (ns : List Int) (n : Int), ((ns.map (Value.int .i64)).foldlM Builtin.min2 (Value.int .i64 n)).run P w = .ok (.int .i64 (ns.foldl (fun a b => if b < a then b else a) n)) w
 | [], n => rfl
 | m :: ns, n => by
  simp only [Y50, List.foldlM_cons, Y28]
  rw [Zhl (x := .int .i64 (if m < n then m else n)) (w' := w) (by simp [Builtin.min2, Pure.pure, Sem.run])]
  exact Zhg ns _
theorem Zhf {P : Program} : ∀ (ns : List Int) (n : Int), ((ns.map (Value.int .i64)).foldlM Builtin.max2 (Value.int .i64 n)).run P w = .ok (.int .i64 (ns.foldl (fun a b => if b > a then b else a) n)) w
 | [], n => rfl
 | m :: ns, n => by
  simp only [Y50, List.foldlM_cons, Y28]
  rw [Zhl (x := .int .i64 (if m > n then m else n)) (w' := w) (by simp [Builtin.max2, Pure.pure, Sem.run])]
  exact Zhf ns _
theorem Z4v (h : Rel X U J σ a w ow) (hd : ca X o) (he : ∀ x, Fam e x -> ¬ U x) {xs : List Opd} {c : Call} (hx : dW X.tab xs c.args.toList = true) (hop : o.op = .call c) (hc : c.callee = .builtin .min)
  (af : (exec e o.dst (.mn xs)).run σ = some ((), σ')) : Sound X U a w e o σ' := by
 obtain ⟨ns, σ1, h1, h2⟩ := Zh3 af
 obtain ⟨rfl, hns⟩ := Zbw h xs _ hx h1
 cases ns with
 | nil => simp [Pg.run] at h2
 | cons n ns =>
  simp only at h2
  refine Zjj h (v := .int .i64 (ns.foldl (fun a b => if b < a then b else a) n)) (av := .x (.i .i64 _)) ?_ hd he (by simp [di, rep]) h2
  rw [Zh4 hop hc]
  show (do pure (.value (<- Builtin.min_ c.argTypes o.type (c.args.map a.eval))) : Sem Next).run X.P w = _
  refine Zht ?_
  unfold Builtin.min_
  rw [Y1, hns]
  exact Zhg ns n
theorem Z4y (h : Rel X U J σ a w ow) (hd : ca X o) (he : ∀ x, Fam e x -> ¬ U x) {xs : List Opd} {c : Call} (hx : dW X.tab xs c.args.toList = true) (hop : o.op = .call c) (hc : c.callee = .builtin .max)
  (af : (exec e o.dst (.mx xs)).run σ = some ((), σ')) : Sound X U a w e o σ' := by
 obtain ⟨ns, σ1, h1, h2⟩ := Zh3 af
 obtain ⟨rfl, hns⟩ := Zbw h xs _ hx h1
 cases ns with
 | nil => simp [Pg.run] at h2
 | cons n ns =>
  simp only at h2
  refine Zjj h (v := .int .i64 (ns.foldl (fun a b => if b > a then b else a) n)) (av := .x (.i .i64 _)) ?_ hd he (by simp [di, rep]) h2
  rw [Zh4 hop hc]
  show (do pure (.value (<- Builtin.max_ c.argTypes o.type (c.args.map a.eval))) : Sem Next).run X.P w = _
  refine Zht ?_
  unfold Builtin.max_
  rw [Y1, hns]
  exact Zhf ns n
def jZ (tab : Nat -> FuncId) : Option Opd -> Option Operand -> Bool
 | none, none => true
 | some x, some y => x.is tab y
 | _, _ => false
theorem Z1l (h : Rel X U J σ a w ow) {x : Option Opd} {x' : Option Operand} (hx : jZ X.tab x x' = true) {df n : Nat} (af : (gF e df x).run σ = some (n, σ')) :
  σ' = σ /\ ((x' = none /\ n = df) \/ ∃ y k, x' = some y /\ a.eval y = .int k n) := by
 cases x with
 | none =>
  cases x' <;> simp [jZ] at hx
  obtain ⟨rfl, rfl⟩ := Zhk af
  exact ⟨rfl, .inl ⟨rfl, rfl⟩⟩
 | some x =>
  cases x' <;> simp only [jZ, Y9] at hx
  rename_i y
  simp only [gF] at af
  obtain ⟨av, σ1, h1, h2⟩ := Zh3 af
  obtain ⟨rfl, bm⟩ := Zem h hx h1
  cases av <;> try simp only [Pg.run, reduceCtorEq] at h2
  rename_i t
  cases t <;> try simp only [Pg.run, reduceCtorEq] at h2
  rename_i k m
  split at h2
  ·rename_i h0
   obtain ⟨rfl, rfl⟩ := Zhk h2
   refine ⟨rfl, .inr ⟨y, k, rfl, ?_⟩⟩
   rw [Int.toNat_of_nonneg h0]
   simpa [cw, rep] using bm
  ·simp [Pg.run] at h2
theorem Zhp {P : Program} {t : TypeId} {sz : Nat} {A : Option Addr} {N C l h : Nat} {lo hi : Option Value} (hg : iz P t sz = true)
  (hlo : (lo = none /\ l = 0) \/ ∃ k, lo = some (.int k l)) (hhi : (hi = none /\ h = N) \/ ∃ k, hi = some (.int k h)) (hlh : l <= h) (hhN : h <= N) (hNC : N <= C) :
  (Instr.sliceAt t (.slice A N C) lo hi none).run P w = .ok (.slice (if C = l then A else A.map (·.add (l * sz))) (h - l) (C - l)) w := by
 unfold iz at hg
 split at hg
 ·rename_i el hu
  unfold Instr.sliceAt
  rw [Zhl (Zhs hu)]
  simp only
  unfold Instr.slice
  rw [Zhl (Zhs hu)]
  simp only
  have hb1 : ∀ (v : Value) (y m : Nat) (k : IntKind) (cd : BoundsCode), v = .int k m -> m <= y -> (Instr.sliceBound v y cd).run P w = .ok m w := fun v y m k cd hv hm => by
   subst hv
   unfold Instr.sliceBound
   rw [Zhl (x := (k, (m : Int))) (w' := w) rfl]
   simp only
   rw [if_pos (by omega)]
   simp [Pure.pure, Sem.run]
  have hb : (Instr.sliceBounds true N C lo hi none).run P w = .ok (l, h, C) w := by
   unfold Instr.sliceBounds
   rw [Zhl (x := C) (w' := w) rfl]
   simp only
   rcases hhi with ⟨rfl, rfl⟩ | ⟨k2, rfl⟩
   ·rw [Zhl (x := h) (w' := w) rfl]
    rcases hlo with ⟨rfl, rfl⟩ | ⟨k, rfl⟩
    ·rfl
    ·simp only
     rw [Zhl (hb1 _ h l k _ rfl hlh)]
     rfl
   ·simp only
    rw [Zhl (hb1 _ C h k2 _ rfl (by omega))]
    rcases hlo with ⟨rfl, rfl⟩ | ⟨k, rfl⟩
    ·rfl
    ·simp only
     rw [Zhl (hb1 _ h l k _ rfl hlh)]
     rfl
  rw [Zhl hb]
  simp only
  rw [Zhl (Zho hg)]
  rfl
 ·cases hg
theorem Zjz {hv : Value} {sz lo n l h C : Nat} {A : Option Addr} (hs : kH hv sz lo n (.slice A n C)) (hl : l <= h) (hh : h <= n) (hsz : 0 < sz) (hA : 0 < n -> ∃ b o, A = some ⟨b, o, none⟩) (hnN : ∀ A N C, hv = .slice A N C -> n <= N) :
  kH hv sz (lo + l) (h - l) (.slice (if C = l then A else A.map (·.add (l * sz))) (h - l) (C - l)) := by
 obtain ⟨A0, N0, C0, A1, c1, rfl, he, hnc, dV, hor, nZ⟩ := hs
 simp only [Value.slice.injEq, true_and] at he
 obtain ⟨rfl, rfl⟩ := he
 refine ⟨A0, N0, C0, _, C - l, rfl, rfl, by omega, by omega, ?_, fun h0 hN => ?_⟩
 ·by_cases hC : C = l
  ·rw [if_pos hC]
   rcases hor with ⟨rfl, _⟩ | ⟨ad, x, rfl, rfl, hx⟩
   ·exact .inl ⟨rfl, .inr (by omega)⟩
   ·refine .inr ⟨ad, x, rfl, rfl, .inr ⟨by omega, ?_⟩⟩
    rcases hx with rfl | ⟨_, hx⟩
    ·have : lo * sz <= C0 * sz := Y80 _ (by omega)
     omega
    ·exact hx
  ·rw [if_neg hC]
   by_cases hn : n = 0
   ·have hl0 : l = 0 := by omega
    subst hl0
    have : (A.map fun x => x.add (0 * sz)) = A := by
     cases A <;> simp [Addr.add]
    rw [this]
    rcases hor with ⟨rfl, hx⟩ | ⟨ad, x, rfl, rfl, hx⟩
    ·exact .inl ⟨rfl, by simpa using hx⟩
    ·exact .inr ⟨ad, x, rfl, rfl, by simpa using hx⟩
   ·obtain ⟨b, of, rfl⟩ := hA (by omega)
    simp only [Y88, Z3]
    rcases hor with ⟨rfl, hx⟩ | ⟨ad, x, rfl, e2, hx⟩
    ·refine .inr ⟨⟨b, of, none⟩, of + l * sz, rfl, rfl, .inl ?_⟩
     rcases hx with rfl | hx
     ·simp
     ·omega
    ·simp only [Y89, Addr.mk.injEq, and_true] at e2
     obtain ⟨rfl, rfl⟩ := e2
     refine .inr ⟨ad, of + l * sz, rfl, rfl, .inl ?_⟩
     rcases hx with rfl | ⟨hx, _⟩
     ·rw [Nat.add_mul, Y74]
     ·omega
 ·have hl0 : l = 0 := by omega
  have KY : lo = 0 := by omega
  subst hl0
  have hnh : n = N0 := by
   have := hnN _ _ _ rfl
   omega
  have hhn : h - 0 = n := by omega
  have := nZ KY hnh
  rw [<- this]
  have hA2 : (if C = 0 then A else A.map fun x => x.add (0 * sz)) = A := by
   split
   ·rfl
   ·cases A <;> simp [Addr.add]
  rw [hA2, hhn]
  simp
theorem Zgi (h : Rel X U J σ a w ow) {r : Nat} {c : RC} (hc : (σ r).rc = some c) {p : List Nat} {o : Ob} {sz : Nat} {es : List T} (hn : c.t.nav p = some (.l o sz es)) {A : Option Addr} {N C : Nat}
  (hh : hdr w c (aK a r) p = some (.slice A N C)) : N = es.length := by
 obtain ⟨hv, h1, h2⟩ := Zgh (w := w) hc (h.slot r) hn
 rw [hh] at h1
 cases h1
 obtain ⟨A', C', he, _⟩ := Zfu h2
 simp only [Y23, Value.slice.injEq, and_true] at he
 exact he.2.1
theorem Zld (jc : Rel X U J σ a w ow) {r : Nat} {k : K} {p : List Nat} {z lo n l h : Nat} {A : Option Addr} {C : Nat} (hv : dc σ a w r k p z lo n (.slice A n C)) (hl : l <= h) (hh : h <= n) (hz : 0 < z) (hnC : n <= C) :
  dc σ a w r k p z (lo + l) (h - l) (.slice (if C = l then A else A.map (·.add (l * z))) (h - l) (C - l)) := by
 obtain ⟨⟨A0, C0, he, _, hA⟩, iJ⟩ := hv
 simp only [Value.slice.injEq, true_and] at he
 obtain ⟨rfl, rfl⟩ := he
 refine ⟨⟨_, _, rfl, by omega, fun h0 => ?_⟩, fun c hc hk => ?_⟩
 ·obtain ⟨b, of, rfl⟩ := hA (by omega)
  rw [if_neg (by omega)]
  exact ⟨b, of + l * z, by simp [Z3]⟩
 ·obtain ⟨h1, h2⟩ := iJ c hc hk
  refine ⟨h1, fun o sz es hn A2 N2 C2 hh2 => ?_⟩
  obtain ⟨rfl, h3, h4⟩ := h2 o sz es hn A2 N2 C2 hh2
  have hN := Zgi jc hc hn hh2
  exact ⟨rfl, by omega, Zjz h4 hl hh hz hA (fun A3 N3 C3 e => by cases e; omega)⟩
theorem Zj4 {P : Program} {t : TypeId} {lo hi : Option Operand} {x' : Operand} (hop : o.op = .slice t x' lo hi none) {v : Value}
  (hv : (Instr.sliceAt t (a.eval x') (lo.map a.eval) (hi.map a.eval) none).run P w = .ok v w) : (execOp a.eval o).run P w = .ok (.value v) w := by
 simp only [execOp, hop]
 exact Zht hv
theorem Z1m {x' : Option Operand} {df n : Nat} (h : (x' = none /\ n = df) \/ ∃ y k, x' = some y /\ a.eval y = .int k n) : (x'.map a.eval = none /\ n = df) \/ ∃ k, x'.map a.eval = some (.int k n) := by
 rcases h with ⟨rfl, rfl⟩ | ⟨y, k, rfl, hy⟩
 ·exact .inl ⟨rfl, rfl⟩
 ·exact .inr ⟨k, by simp [hy]⟩
theorem Zcr {t : T} {v : Value} (hr : rep X.tab X.mv w ow (some (.ar J, [])) t [v]) (ht : (∃ sz es, t = .l .n sz es) \/ ∃ sz es, t = .l .y sz es) : eR X U σ a w ow J e v (nX e t) := by
 rcases ht with ⟨sz, es, rfl⟩ | ⟨sz, es, rfl⟩
 ·exact Zah (by rfl) hr
 ·exact ⟨rfl, ⟨_, _, _, rfl, rfl⟩, hr⟩
theorem Z51 (h : Rel X U J σ a w ow) (hd : ca X o) (he : ∀ x, Fam e x -> ¬ U x) {sz : Nat} {tk : Bool} {x : Opd} {lo hi : Option Opd} {x' : Operand} {lo' hi' : Option Operand} {t : TypeId} (hx : x.is X.tab x' = true)
  (hlo : jZ X.tab lo lo' = true) (hhi : jZ X.tab hi hi' = true) (hg : iz X.P t sz = true) (hop : o.op = .slice t x' lo' hi' none) (af : (exec e o.dst (.slc sz tk x lo hi)).run σ = some ((), σ')) : Sound X U a w e o σ' := by
 obtain ⟨av, σ1, h1, h2⟩ := Zh3 af
 unfold slice at h1
 obtain ⟨xv, σ2, h3, h4⟩ := Zh3 h1
 obtain ⟨e1, hxr, hq1, hq2⟩ := Zaf h hx h3
 rw [e1] at h4
 clear h1 h3 e1 σ2 hq1 hq2
 cases xv <;> try simp only [Pg.run, reduceCtorEq] at h4
 case x tx =>
  cases tx <;> try simp only [Pg.run, reduceCtorEq] at h4
  rename_i ob sz' es
  cases ob <;> try simp only [Pg.run, reduceCtorEq] at h4
  obtain ⟨hh, σ3, h5, h6⟩ := Zh3 h4
  obtain ⟨e1, hbh⟩ := Z1l h hhi h5
  rw [e1] at h6
  obtain ⟨ll, σ4, h7, h8⟩ := Zh3 h6
  obtain ⟨e2, hbl⟩ := Z1l h hlo h7
  rw [e2] at h8
  split at h8
  ·rename_i hc
   obtain ⟨rfl, hsz, hlh, hhn⟩ := hc
   obtain ⟨rfl, rfl⟩ := Zhk h8
   simp only [cw] at hxr
   obtain ⟨A, C, hv, dV, _⟩ := Zfu hxr
   have hv' : a.eval x' = .slice A es.length C := by simpa using hv
   have hA : 0 < es.length -> ∃ b of, A = some ⟨b, of, none⟩ := fun h0 => by
    obtain ⟨ad, cap, he1, _, hsp, _⟩ := Zfv hxr (by intro e; subst e; simp at h0)
    rw [hv] at he1
    simp only [Y23, Value.slice.injEq, and_true] at he1
    obtain ⟨b, of, spot⟩ := ad
    simp only at hsp
    subst hsp
    exact ⟨b, of, he1.1⟩
   have hrs := Zhp (w := w) (P := X.P) (A := A) (N := es.length) (C := C) (l := ll) (h := hh) hg (Z1m hbl) (Z1m hbh) hlh hhn dV
   refine Zjj h (Zj4 hop (hv'.symm ▸ hrs)) hd he (av := .x (.l .n sz' (sub es ll (hh - ll)))) ?_ h2
   have Jj : kH (.slice A es.length C) sz' 0 es.length (.slice A es.length C) := ⟨A, _, C, A, C, rfl, rfl, dV, by omega, .inl ⟨rfl, .inl rfl⟩, fun _ _ => rfl⟩
   have hss := Zjz Jj hlh hhn hsz hA (fun A N C e => by cases e; omega)
   rw [Y83] at hss
   rw [hv] at hxr
   exact Zg0 (c := none) (c' := none) (fun b hb => ⟨hb, rfl⟩) (fun _ => by simp) hxr hss (by omega) (fun x => by simp [Ob.own] at x) (fun b hb => ⟨hb, rfl⟩) (fun i _ => by simp [Ob.loc, Ob.own, Loc.push, Tr])
  ·simp [Pg.run] at h8
 case w r k p z lo0 n =>
  obtain ⟨hh, σ3, h5, h6⟩ := Zh3 h4
  obtain ⟨e1, hbh⟩ := Z1l h hhi h5
  rw [e1] at h6
  obtain ⟨ll, σ4, h7, h8⟩ := Zh3 h6
  obtain ⟨e2, hbl⟩ := Z1l h hlo h7
  rw [e2] at h8
  split at h8
  ·rename_i hc
   obtain ⟨rfl, hsz, hlh, hhn⟩ := hc
   simp only [cw] at hxr
   obtain ⟨iJ, hst⟩ := hxr
   obtain ⟨A, C, hv', hnC, hA⟩ := iJ.1
   have hrs := Zhp (w := w) (P := X.P) (A := A) (N := n) (C := C) (l := ll) (h := hh) hg (Z1m hbl) (Z1m hbh) hlh hhn hnC
   have bz := Zj4 hop (hv'.symm ▸ hrs)
   rw [hv'] at iJ
   have hvs := Zld h iJ hlh hhn hsz hnC
   split at h8
   ·have h9 := run_bind (dL true r k p (lo0 + ll) (hh - ll)) (fun t => (pure (nX e t) : Pg AV)) σ
    simp only [Bind.bind] at h9
    rw [h9] at h8
    obtain ⟨⟨t1, σ5⟩, h10, h11⟩ := Y84.1 h8
    obtain ⟨rfl, rfl⟩ := Zhk h11
    obtain ⟨ow', hgh, hr⟩ := Z7i h hvs h10
    refine Zjh hgh.rel bz hd he (Zcr hr ?_) h2
    obtain ⟨c, o2, sz2, es, _, _, _, et⟩ := Z7j h10
    rcases et with ⟨_, rfl, _⟩ | ⟨_, rfl, _⟩ | ⟨_, rfl, _⟩
    ·exact .inl ⟨_, _, rfl⟩
    ·exact .inr ⟨_, _, rfl⟩
    ·exact .inl ⟨_, _, rfl⟩
   ·obtain ⟨rfl, rfl⟩ := Zhk h8
    exact Zjj h bz hd he (av := .w r k p z (lo0 + ll) (hh - ll)) ⟨hvs, hst⟩ h2
  ·simp [Pg.run] at h8
end
end Go.Wr
namespace Go.Wr
theorem Zi5 {t : T} (h : t.scalar = true) (k : Nat) : t.kid k = none := by
 cases t <;> simp [T.scalar] at h <;> rfl
theorem Sh.bC {w' w : World} (hs : Hs w' w) {node : T} {off : Nat} {new : List T} (hle : off + new.length <= node.cells.length) (hne : new ≠ []) (ho : (sub node.cells off new.length).all T.scalar = true)
  (hn : new.all T.scalar = true) : Sh w' (node.bO (bC node.cells off new)) w node := by
 have hlen := Zjq node.cells off new hle
 have dp := Zjp node.cells off new hle
 have cn : ∀ (j : Nat) (t : T), new[j]? = some t -> t.scalar = true := fun j t hj => Y18.1 hn t (Y62 hj)
 by_cases hna : ∃ cs, node = .a cs
 ·obtain ⟨cs, rfl⟩ := hna
  simp only [T.cells] at hle ho hlen dp
  simp only [T.bO, T.cells]
  constructor
  ·intro b o p bo hl
   cases p with
   | nil => exact hl
   | cons k p =>
    simp only [bp] at hl ⊢
    rw [dp k] at hl
    by_cases hk : off <= k /\ k < off + new.length
    ·rw [if_pos hk] at hl
     split at hl
     ·rename_i t ht
      have hsc := cn _ _ ht
      cases p with
      | nil =>
       have KZ : k < cs.length := by omega
       rw [Y34 KZ]
       simp only
       have : ∀ x : T, bp w x b (o + k) [] = some (b, o + k) := fun x => by cases x <;> rfl
       rw [this]
       have : ∀ x : T, bp w' x b (o + k) [] = some (b, o + k) := fun x => by cases x <;> rfl
       rw [this] at hl
       exact hl
      | cons k2 p => cases t <;> simp [T.scalar] at hsc <;> simp [bp] at hl
     ·cases hl
    ·rw [if_neg hk] at hl
     split at hl
     ·rename_i t ht
      exact Za6 hs _ _ _ _ _ hl
     ·cases hl
  ·intro A p bo hl; simp [cG] at hl
  ·intro p o' sz es' hp
   cases p with
   | nil => simp [T.nav] at hp
   | cons k p =>
    simp only [T.nav, T.kid] at hp ⊢
    rw [dp k] at hp
    by_cases hk : off <= k /\ k < off + new.length
    ·rw [if_pos hk] at hp
     obtain ⟨t, ht, hp⟩ := Y84.1 hp
     have hsc := cn _ _ ht
     cases p with
     | nil => simp only [T.nav, Y89] at hp; subst hp; simp [T.scalar] at hsc
     | cons k2 p => simp [T.nav, Zi5 hsc] at hp
    ·rw [if_neg hk] at hp
     exact ⟨o', es', hp, rfl⟩
  ·intro p cs' hp
   cases p with
   | nil => exact ⟨cs, rfl⟩
   | cons k p =>
    simp only [T.nav, T.kid] at hp ⊢
    rw [dp k] at hp
    by_cases hk : off <= k /\ k < off + new.length
    ·rw [if_pos hk] at hp
     obtain ⟨t, ht, hp⟩ := Y84.1 hp
     have hsc := cn _ _ ht
     cases p with
     | nil => simp only [T.nav, Y89] at hp; subst hp; simp [T.scalar] at hsc
     | cons k2 p => simp [T.nav, Zi5 hsc] at hp
    ·rw [if_neg hk] at hp
     exact ⟨cs', hp⟩
 ·have bA : node.cells = [node] := by cases node <;> first | rfl | exact absurd ⟨_, rfl⟩ hna
  rw [bA] at hle hlen dp ⊢
  have hnl : new.length = 1 /\ off = 0 := by
   have : 0 < new.length := Y47.2 hne
   simp at hle; omega
  obtain ⟨hn1, rfl⟩ := hnl
  obtain ⟨x, rfl⟩ := Y43.1 hn1
  have hx : node.bO (Wr.bC [node] 0 [x]) = x := by cases node <;> first | rfl | exact absurd ⟨_, rfl⟩ hna
  rw [hx]
  have hsc := cn 0 x rfl
  exact Sh.scalar _ (fun k => Zi5 hsc k) (fun o sz es e => by subst e; simp [T.scalar] at hsc) (fun cs e => by subst e; simp [T.scalar] at hsc)
theorem Z1z {e : Nat} {c : RC} {k : K} {p : List Nat} {U : Nat -> Prop} (he : ∀ x, Fam e x -> ¬ U x) (hk : (bump e c p).ok k 2 = true) (h1 : U k.h) (h2 : U k.d) : False := by
 unfold bump at hk
 split at hk <;> simp only [K.ok, Y2, beq_iff_eq] at hk
 ·exact he e (Fam.self e) (hk.1.2 ▸ h1)
 ·exact he e (Fam.self e) (hk.2 ▸ h2)
theorem Z20 {e : Nat} {c : RC} {k : K} {U : Nat -> Prop} (he : ∀ x, Fam e x -> ¬ U x) (hb : c.bi = true) (hk : (bump e c []).ok k 1 = true) (h1 : U k.h) : False := by
 unfold bump at hk
 rw [hb] at hk
 simp only [K.ok, Y2, beq_iff_eq] at hk
 exact he e (Fam.self e) (hk.2 ▸ h1)
theorem Z1x (e : Nat) (c : RC) (p : List Nat) (k : K) : (bump e c p).ok k 0 = c.k.ok k 0 := by
 unfold bump
 split <;> rfl
theorem Z1y (e : Nat) (c : RC) (p : List Nat) (k : K) (hp : p ≠ []) : (bump e c p).ok k 1 = c.k.ok k 1 := by
 unfold bump
 split
 ·exact absurd rfl hp
 ·rfl
section
variable {X : Cx} {U : Nat -> Prop} {J J' : Nat} {σ σ' σ2 : St} {a a' a2 : Act} {w w' w2 : World} {ow ow' ow2 : Nat -> Ow} {e : Nat} {o : Oper}
theorem Zeq {r : Nat} {c : RC} {p : List Nat} {x : T} (hc : (σ r).rc = some c) (hc' : (σ' r).rc = some { c with k := bump e c p, t := c.t.put p x }) (he : ∀ x, Fam e x -> ¬ U x) (hv : aK a' r = aK a r)
  (hok : c.eZ p = true) (hx : p = [] -> ∃ cs, x = .a cs) (bD : ∀ b, c.bi = true -> p ≠ [] -> aK a r = .pointer (some ⟨b, 0, none⟩) -> w'.heap[b]? = w.heap[b]?)
  (fY : c.bi = true -> ∃ b, aK a r = .pointer (some ⟨b, 0, none⟩)) : aQ U σ a w σ' a' w' r := by
 rcases Zen hc with ⟨hb, cs, hct, hσ⟩ | ⟨hb, hσ⟩
 ·-- a box
  obtain ⟨b, hvb⟩ := fY hb
  have qC : ∀ (k : K) p2, U k.e -> U k.h -> U k.d -> (bump e c p).ok k (fh true p2) = true -> p2 = [] \/ (p ≠ [] /\ ∃ i j, p2 = [i, j]) := fun k p2 _ h1 h2 hk => by
   rcases p2 with _ | ⟨i, _ | ⟨j, _ | ⟨l, p2⟩⟩⟩
   ·exact .inl rfl
   ·exact (Z1z he hk h1 h2).elim
   ·refine .inr ⟨fun e => ?_, i, j, rfl⟩
    subst e
    exact Z20 he hb hk h1
   ·exact (Z1z he hk h1 h2).elim
  have mb : ∀ (k : K) p2, U k.e -> U k.h -> U k.d -> (bump e c p).ok k (dl true p2) = true -> p ≠ [] /\ ∃ i, p2 = [i] := fun k p2 _ h1 h2 hk => by
   rcases p2 with _ | ⟨i, _ | ⟨j, p2⟩⟩
   ·exact (Z1z he hk h1 h2).elim
   ·refine ⟨fun e => ?_, i, rfl⟩
    subst e
    exact Z20 he hb hk h1
   ·exact (Z1z he hk h1 h2).elim
  have path : p ≠ [] -> ∃ (i j : Nat) (p' : List Nat) (ob : Ob) (sz : Nat) (es : List T), p = i :: j :: p' /\ cs[i]? = some (.l ob sz es) := fun hp => by
   unfold RC.eZ at hok
   rw [hb, hct] at hok
   rcases p with _ | ⟨i, _ | ⟨j, p'⟩⟩
   ·exact absurd rfl hp
   ·cases hok
   ·simp only [T.kid] at hok
    cases hi : cs[i]? with
    | none => simp [hi] at hok
    | some t =>
     cases t <;> simp [hi] at hok
     exact ⟨i, j, p', _, _, _, rfl, hi⟩
  have kids : p ≠ [] -> ∃ cs', c.t.put p x = .a cs' /\ ∀ (i2 : Nat) (t' : T), cs'[i2]? = some t' -> (cs[i2]? = some t') \/ ∃ (ob : Ob) (sz : Nat) (es es' : List T), cs[i2]? = some (.l ob sz es) /\ t' = .l ob sz es' /\ es'.length = es.length := fun hp => by
   obtain ⟨i, j, p', ob, sz, es, rfl, hi⟩ := path hp
   rw [hct]
   have hil := (Y36.1 hi).1
   simp only [T.put, T.kid, hi, T.aZ]
   refine ⟨_, rfl, fun i2 t' ht' => ?_⟩
   by_cases h2 : i2 = i
   ·subst h2
    rw [Y39 hil] at ht'
    refine .inr ⟨ob, sz, es, ?_⟩
    cases hj : es[j]? with
    | none => simp only [hj, Y89] at ht'; exact ⟨es, hi, ht'.symm, rfl⟩
    | some tj => simp only [hj, Y89] at ht'; exact ⟨_, hi, ht'.symm, by simp⟩
   ·rw [Y38 (Ne.symm h2)] at ht'
    exact .inl ht'
  have qD : p ≠ [] -> ∀ o, w'.cell? ⟨b, o, none⟩ = w.cell? ⟨b, o, none⟩ := fun hp o => by
   simp only [World.cell?, bD b hb hp hvb]
  constructor
  ·intro k p2 bo c2 h0 h1 h2 h3 h4 h5
   rw [hc'] at h3
   cases h3
   simp only [hb] at h4
   rcases qC k p2 h0 h1 h2 h4 with rfl | ⟨hp, i2, j2, rfl⟩
   ·refine ⟨c, hc, ?_, ?_⟩
    ·rw [hb]
     have : (bump e c p).ok k 0 = true := h4
     rw [Z1x] at this
     exact this
    ·rw [hv, hvb] at h5
     rw [hvb]
     unfold place at h5 ⊢
     simp only [hb, hct] at h5 ⊢
     have : ∀ (w : World) (x : T), bp w x b 0 [] = some (b, 0) := fun w x => by cases x <;> rfl
     rw [this] at h5 ⊢
     exact h5
   ·refine ⟨c, hc, ?_, ?_⟩
    ·rw [hb]
     have : (bump e c p).ok k 1 = true := h4
     rw [Z1y _ _ _ _ hp] at this
     exact this
    ·obtain ⟨cs', e1, hk⟩ := kids hp
     rw [hv, hvb] at h5
     rw [hvb]
     unfold place at h5 ⊢
     simp only [hb, hct, e1] at h5 ⊢
     rw [hct] at e1
     simp only [e1, bp] at h5 ⊢
     split at h5
     ·rename_i t' ht'
      rcases hk i2 t' ht' with h6 | ⟨ob, sz, es, es', h6, rfl, h7⟩
      ·rw [h6]
       cases t' <;> simp only [bp, reduceCtorEq] at h5 ⊢
       ·exact h5
       ·rw [qD hp] at h5
        exact h5
      ·rw [h6]
       simp only [bp] at h5 ⊢
       rw [qD hp] at h5
       split at h5
       ·rename_i ad N C t2 he1 he2
        have hj := (Y36.1 he2).1
        rw [he1, Y34 (by omega)]
        exact h5
       ·cases h5
     ·cases h5
  ·intro k p2 o' sz es' A N C c2 h0 h1 h2 h3 h4 h5 h6
   rw [hc'] at h3
   cases h3
   simp only [hb] at h4
   obtain ⟨hp, i2, rfl⟩ := mb k p2 h0 h1 h2 h4
   obtain ⟨cs', e1, hk⟩ := kids hp
   simp only [e1, T.nav, T.kid] at h5
   obtain ⟨t', ht', h5⟩ := Y84.1 h5
   simp only [Y89] at h5
   subst h5
   have e2 : (T.a cs).put p x = .a cs' := by rw [<- hct]; exact e1
   have hh : ∀ ob es, cs[i2]? = some (.l ob sz es) -> hdr w c (aK a r) [i2] = some (.slice A N C) := fun ob es hi => by
    rw [hv, hvb] at h6
    rw [hvb]
    unfold hdr place at h6 ⊢
    simp only [hb, Y13, Y8, Y9, if_false, e1, e2, hct, bp, ht', hi] at h6 ⊢
    rw [qD hp] at h6
    exact h6
   have qE : c.k.ok k (dl c.bi [i2]) = true := by
    rw [hb]
    have : (bump e c p).ok k 1 = true := h4
    rw [Z1y _ _ _ _ hp] at this
    exact this
   rcases hk i2 _ ht' with h7 | ⟨ob, sz2, es, es2, h7, h8, h9⟩
   ·exact ⟨c, o', es', hc, qE, by rw [hct]; simp only [T.nav, T.kid, h7, Y86], rfl, hh _ _ h7⟩
   ·cases h8
    exact ⟨c, o', es, hc, qE, by rw [hct]; simp only [T.nav, T.kid, h7, Y86], h9.symm, hh _ _ h7⟩
  ·intro k p2 cs' c2 h0 h1 h2 h3 h4 h5
   rw [hc'] at h3
   cases h3
   simp only [hb] at h4
   obtain ⟨hp, i2, rfl⟩ := mb k p2 h0 h1 h2 h4
   obtain ⟨cs2, e1, hk⟩ := kids hp
   simp only [e1, T.nav, T.kid] at h5
   obtain ⟨t', ht', h5⟩ := Y84.1 h5
   simp only [Y89] at h5
   subst h5
   rcases hk i2 _ ht' with h7 | ⟨ob, sz2, es, es2, h7, h8, h9⟩
   ·refine ⟨c, cs', hc, ?_, by rw [hct]; simp only [T.nav, T.kid, h7, Y86]⟩
    rw [hb]
    have : (bump e c p).ok k 1 = true := h4
    rw [Z1y _ _ _ _ hp] at this
    exact this
   ·cases h8
 ·-- a slice
  have hp : ∃ i p', p = i :: p' := by
   unfold RC.eZ at hok
   rw [hb] at hok
   rcases p with _ | ⟨i, p'⟩
   ·cases hok
   ·exact ⟨i, p', rfl⟩
  obtain ⟨i, p', rfl⟩ := hp
  have qC : ∀ (k : K) p2, U k.e -> U k.h -> U k.d -> (bump e c (i :: p')).ok k (fh false p2) = true -> ∃ j, p2 = [j] := fun k p2 _ h1 h2 hk => by
   rcases p2 with _ | ⟨j, _ | ⟨l, p2⟩⟩
   ·exact (Z1z he hk h1 h2).elim
   ·exact ⟨j, rfl⟩
   ·exact (Z1z he hk h1 h2).elim
  have mb : ∀ (k : K) p2, U k.e -> U k.h -> U k.d -> (bump e c (i :: p')).ok k (dl false p2) = true -> p2 = [] := fun k p2 _ h1 h2 hk => by
   rcases p2 with _ | ⟨j, p2⟩
   ·rfl
   ·exact (Z1z he hk h1 h2).elim
  have kids : ∀ ob sz es', c.t.put (i :: p') x = .l ob sz es' -> ∃ es, c.t = .l ob sz es /\ es.length = es'.length := fun ob sz es' h => by
   cases hct : c.t <;> rw [hct] at h <;> simp only [T.put, T.kid] at h <;> try cases h
   ·split at h <;> simp [T.aZ] at h
   ·split at h
    ·simp only [T.aZ, T.l.injEq] at h
     obtain ⟨rfl, rfl, rfl⟩ := h
     exact ⟨_, rfl, by simp⟩
    ·cases h
     exact ⟨_, rfl, rfl⟩
  constructor
  ·intro k p2 bo c2 h0 h1 h2 h3 h4 h5
   rw [hc'] at h3
   cases h3
   simp only [hb] at h4
   obtain ⟨j, rfl⟩ := qC k p2 h0 h1 h2 h4
   refine ⟨c, hc, ?_, ?_⟩
   ·rw [hb]
    have : (bump e c (i :: p')).ok k 0 = true := h4
    rw [Z1x] at this
    exact this
   ·rw [hv] at h5
    cases hva : aK a r <;> rw [hva] at h5 <;> simp only [place, hb, reduceCtorEq] at h5 ⊢
    rename_i A N C
    generalize fX : c.t.put (i :: p') x = tp at h5
    cases tp <;> simp only [cG, reduceCtorEq] at h5
    cases A <;> simp only [cG, reduceCtorEq] at h5
    rename_i ob sz es' ad
    obtain ⟨es, h6, h7⟩ := kids _ _ _ fX
    rw [h6]
    simp only [cG]
    split at h5
    ·rename_i t' ht'
     have hj := (Y36.1 ht').1
     rw [Y34 (by omega)]
     simp only
     have : ∀ (w : World) (x : T) b o, bp w x b o [] = some (b, o) := fun w x b o => by cases x <;> rfl
     rw [this] at h5 ⊢
     exact h5
    ·cases h5
  ·intro k p2 o' sz es' A N C c2 h0 h1 h2 h3 h4 h5 h6
   rw [hc'] at h3
   cases h3
   simp only [hb] at h4
   have := mb k p2 h0 h1 h2 h4
   subst this
   simp only [T.nav, Y89] at h5
   obtain ⟨es, h7, h8⟩ := kids _ _ _ h5
   refine ⟨c, o', es, hc, ?_, by rw [h7]; rfl, h8, ?_⟩
   ·rw [hb]
    have : (bump e c (i :: p')).ok k 0 = true := h4
    rw [Z1x] at this
    exact this
   ·rw [hv] at h6
    simp only [hdr, hb, Y12, List.isEmpty_nil, Y4, if_true] at h6 ⊢
    exact h6
  ·intro k p2 cs' c2 h0 h1 h2 h3 h4 h5
   rw [hc'] at h3
   cases h3
   simp only [hb] at h4
   have := mb k p2 h0 h1 h2 h4
   subst this
   simp only [T.nav, Y89] at h5
   cases hct : c.t <;> rw [hct] at h5 <;> simp only [T.put, T.kid, reduceCtorEq] at h5
   ·refine ⟨c, _, hc, ?_, by rw [hct]; rfl⟩
    rw [hb]
    have : (bump e c (i :: p')).ok k 0 = true := h4
    rw [Z1x] at this
    exact this
   ·split at h5 <;> simp [T.aZ] at h5
end
end Go.Wr
namespace Go.Wr
section
variable {X : Cx} {U : Nat -> Prop} {J J' : Nat} {σ σ' σ2 : St} {a a' a2 : Act} {w w' w2 : World} {ow ow' ow2 : Nat -> Ow} {e : Nat} {o : Oper}
def eF (ow : Nat -> Ow) (r : Nat) (g : Nat -> Option (List Nat)) : Nat -> Ow := fun b =>
 match ow b with
 | .own (.ar i) q => match g i with
  | some pre => .own (.sl r) (pre ++ q)
  | none => .own (.ar i) q
 | o => o
theorem Zjw {r : Nat} {g : Nat -> Option (List Nat)} {b : Nat} (hb : ow b = .z) : eF ow r g b = .z := by simp [eF, hb]
theorem Zju {r : Nat} {g : Nat -> Option (List Nat)} {b : Nat} (hb : ow b = .no) : eF ow r g b = .no := by simp [eF, hb]
theorem Zjv {r s : Nat} {g : Nat -> Option (List Nat)} {b : Nat} {q : List Nat} (hb : ow b = .own (.sl s) q) : eF ow r g b = .own (.sl s) q := by simp [eF, hb]
theorem Zjs {r i : Nat} {g : Nat -> Option (List Nat)} {b : Nat} {pre q : List Nat} (hg : g i = some pre) (hb : ow b = .own (.ar i) q) : eF ow r g b = .own (.sl r) (pre ++ q) := by simp [eF, hb, hg]
theorem Zjr {r i : Nat} {g : Nat -> Option (List Nat)} {b : Nat} {q : List Nat} (hb : eF ow r g b = .own (.ar i) q) : ow b = .own (.ar i) q := by
 unfold eF at hb
 cases h : ow b with
 | no => simp [h] at hb
 | z => simp [h] at hb
 | own r q' =>
  rw [h] at hb
  cases r with
  | sl s => cases hb
  | ar j => simp only at hb; split at hb <;> first | exact hb | cases hb
  | rs j => cases hb
theorem Zjt {r : Nat} {g : Nat -> Option (List Nat)} {b : Nat} (hb : eF ow r g b ≠ .no) : ow b ≠ .no := fun e => hb (Zju e)
theorem Zj7 {t : T} {c : Loc} {v : Value} (hs : t.jl = true) (h : rep X.tab X.mv w ow c t [v]) : dK v = true := by
 cases t <;> simp only [T.jl, Y9] at hs <;> simp only [rep] at h
 case l o sz es => obtain ⟨_, A, cap, e, _⟩ := h; simp at e; subst e; rfl
 case f => obtain ⟨_, e, _⟩ := h; simp at e; subst e; rfl
 case p => obtain ⟨_, _, _, _, e, _⟩ := h; simp at e; subst e; rfl
 all_goals (simp at h; subst h; rfl)
theorem Zi6 {t : T} {c : Loc} {v : Value} (hs : t.scalar = true) (h : rep X.tab X.mv w ow c t [v]) (A : Option Addr) (N C : Nat) : v ≠ .slice A N C := by
 cases t <;> simp only [T.scalar, Y9] at hs <;> simp only [rep] at h
 case f => obtain ⟨_, e, _⟩ := h; simp at e; subst e; simp
 all_goals (simp at h; subst h; simp)
theorem Zgk (h : Rel X U J σ a w ow) {r : Nat} {c : RC} (hc : (σ r).rc = some c) {p : List Nat} (hok : c.eZ p = true) (hm : c.t.cb p = true) {node : T} (hn : c.t.nav p = some node) {B O : Nat}
  (hp : place w c (aK a r) p = some (B, O)) : Open w ow (.sl r) B := by
 have hs := h.slot r
 rcases Zen hc with ⟨hb, cs, hct, hσ⟩ | ⟨hb, hσ⟩
 ·rw [hσ] at hs
  simp only [aP] at hs
  obtain ⟨b, arr, ty, fr, hv, hbk, hh, hf, hr⟩ := hs
  rw [hv] at hp
  unfold place at hp
  simp only [hb, hct] at hp
  rw [hct] at hm
  exact Zb0 (tab := X.tab) (mv := X.mv) p (.a cs) (q := []) (vs := arr.toList) (by simp only [rep]; exact hr) (Z13 hh) ⟨arr, ty, fr, [], hh, hf, hbk⟩ hm hp
 ·rw [hσ] at hs
  simp only [aP] at hs
  obtain ⟨⟨ob, sz, es, hct, hown⟩, hr⟩ := hs
  rw [hct] at hr hm hn
  unfold RC.eZ at hok
  rw [hb] at hok
  cases p with
  | nil => simp at hok
  | cons i p =>
   simp only [T.nav, T.kid] at hn
   obtain ⟨t', ht', hn⟩ := Y84.1 hn
   simp only [T.cb, ht', Y2] at hm
   have hne : es ≠ [] := by intro e; subst e; simp at ht'
   obtain ⟨ad, cap, hv, dV, hsp, hbk, arr, ty, fr, vs', hh, hfr, hvs, hes⟩ := Zfv hr hne
   have hl : Ob.loc ob (some (aH.sl r, ([] : List Nat))) = some (.sl r, []) := by simp [Ob.loc, hm.1]
   rw [hl] at hbk hes
   obtain ⟨v1, hl1, hr1, hv1⟩ := Zfh hes ht'
   have hv' : aK a r = .slice (some ad) es.length cap := by simpa using hv
   rw [hv'] at hp
   unfold place at hp
   simp only [hb, hct, cG, ht'] at hp
   rw [Zdc] at hr1
   exact Zb0 (tab := X.tab) (mv := X.mv) p t' hr1 (b := ad.block) (o := ad.off + i * sz) (fun j u hj => by rw [Z2h hh, Y74]; exact hvs _ _ (hv1 j u hj))
    ⟨arr, ty, fr, [], hh, (hfr hm.1).1, hbk⟩ hm.2 hp
theorem Zdf {c c' : RC} {p : List Nat} {off : Nat} {new : List T} (h : putCells e c p off new = some c') :
  ∃ node, c.t.nav p = some node /\ c.eZ p = true /\ c.t.cb p = true /\ off + new.length <= node.cells.length /\ new ≠ [] /\ new.all T.jl = true /\
   c' = { c with k := if (sub node.cells off new.length).all T.scalar && new.all T.scalar then c.k else bump e c p, t := c.t.put p (node.bO (bC node.cells off new)) } := by
 unfold putCells at h
 split at h
 ·cases h
 ·rename_i node hn
  split at h
  ·rename_i hc
   simp only [Y2, decide_eq_true_eq, Y11, List.isEmpty_eq_false_iff] at hc
   obtain ⟨⟨⟨⟨⟨h1, h2⟩, h3⟩, h4⟩, h5⟩, _⟩ := hc
   cases h
   exact ⟨node, hn, h1, h2, h3, h4, h5, rfl⟩
  ·cases h
theorem Zea {cs : List T} {p : List Nat} {x : T} (hx : p = [] -> ∃ cs', x = .a cs') : ∃ cs', (T.a cs).put p x = .a cs' := by
 cases p with
 | nil => obtain ⟨cs', e⟩ := hx rfl; exact ⟨cs', e⟩
 | cons k p =>
  simp only [T.put, T.kid, T.aZ]
  split
  ·exact ⟨_, rfl⟩
  ·exact ⟨_, rfl⟩
theorem Zeb {ob : Ob} {sz : Nat} {es : List T} {k : Nat} {p : List Nat} {x : T} : ∃ es', (T.l ob sz es).put (k :: p) x = .l ob sz es' := by
 simp only [T.put, T.kid, T.aZ]
 split
 ·exact ⟨_, rfl⟩
 ·exact ⟨_, rfl⟩
theorem Zjx (h : Rel X U J σ a w ow) {r : Nat} {c : RC} (hc : (σ r).rc = some c) {p : List Nat} {node : T} (hn : c.t.nav p = some node) (hok : c.eZ p = true) (hm : c.t.cb p = true) {off : Nat} {dU : List T} {gJ : List Value}
  (hle : off + dU.length <= node.cells.length) (hne : dU ≠ []) (hlen : gJ.length = dU.length) {B O : Nat} (hp : place w c (aK a r) p = some (B, O)) (hu : Upd w w' B (O + off) gJ)
  (hz : ∀ b, ow b = .z -> ow' b = .z /\ b ≠ B) (hown : ∀ b q', ow b = .own (.sl r) q' -> ow' b = .own (.sl r) q')
  (cn : ∀ (j : Nat) x v, dU[j]? = some x -> gJ[j]? = some v -> rep X.tab X.mv w' ow' (gD node (.sl r) p (off + j)) x [v]) (k' : K) :
  ∃ av, ({ c with k := k', t := c.t.put p (node.bO (bC node.cells off dU)) } : RC).av = av /\ av.rc = some { c with k := k', t := c.t.put p (node.bO (bC node.cells off dU)) } /\
   aP X σ2 a2 w' ow' r av (aK a r) /\ (∀ b, c.bi = true -> p ≠ [] -> aK a r = .pointer (some ⟨b, 0, none⟩) -> w'.heap[b]? = w.heap[b]?) /\
   (c.bi = true -> ∃ b, aK a r = .pointer (some ⟨b, 0, none⟩)) := by
 have hs := h.slot r
 rcases Zen hc with ⟨hb, cs, hct, hσ⟩ | ⟨hb, hσ⟩
 ·rw [hσ] at hs
  simp only [aP] at hs
  obtain ⟨b, arr, ty, fr, hv, hbk, hh, hf, hr⟩ := hs
  rw [hv] at hp ⊢
  unfold place at hp
  simp only [hb, hct] at hp
  have hm' := hm
  rw [hct] at hm' hn
  have hx : p = [] -> ∃ cs', node.bO (bC node.cells off dU) = .a cs' := fun e => by
   subst e
   simp only [T.nav, Y89] at hn
   subst hn
   exact ⟨_, rfl⟩
  obtain ⟨cs', Aq⟩ := Zea (cs := cs) (p := p) hx
  obtain ⟨vs', h1, h2, h3, _, h5⟩ := Ze8 (tab := X.tab) (mv := X.mv) hz hown hu hlen hne hle p (.a cs) (q := []) (vs := arr.toList) (by simp only [rep]; exact hr) (Z13 hh) hbk (.inr ⟨⟨_, rfl⟩, Nat.le_refl _⟩) hm' hn hp
   (fun j x v hx hv => by simpa using cn j x v hx hv)
  rw [Aq] at h1
  simp only [rep] at h1
  refine ⟨.box k' cs', ?_, ?_, ?_, fun b2 _ hp2 hv2 => ?_, fun _ => ⟨b, rfl⟩⟩
  ·obtain ⟨ib, kk, t⟩ := c
   simp only at hb hct ⊢
   subst hb hct
   rw [Aq]
   rfl
  ·obtain ⟨ib, kk, t⟩ := c
   simp only at hb hct ⊢
   subst hb hct
   rw [Aq]
   rfl
  ·simp only [aP]
   have hob : ow' b = .own (.sl r) [] := hown b [] hbk
   obtain ⟨cW, hh', hsz⟩ : ∃ cW, w'.heap[b]? = some (.cells cW ty fr) /\ cW.size = arr.size := by
    by_cases hB : b = B
    ·subst hB
     obtain ⟨a1, a2, ty', fr', h6, h7, h8, h9⟩ := hu.blk
     rw [hh] at h6
     cases h6
     exact ⟨a2, h7, h8⟩
    ·exact ⟨arr, (hu.other b hB).trans hh, rfl⟩
   refine ⟨b, cW, ty, fr, rfl, hob, hh', by unfold dT at *; rw [hsz]; exact hf, ?_⟩
   have : cW.toList = vs' := by
    apply Y25
    intro j
    have hl2 : cW.toList.length = vs'.length := by rw [Y0, h3, Y0, hsz]
    by_cases hj : j < vs'.length
    ·have := h2 j vs'[j] (Y34 hj)
     rw [Y83, Z2h hh'] at this
     rw [Y34 hj]
     simpa using this
    ·rw [Y35 (by omega), Y35 (by omega)]
   rw [this]
   exact h1
  ·simp only [Value.pointer.injEq, Y89, Addr.mk.injEq, and_true] at hv2
   subst hv2
   refine hu.other b fun hB => ?_
   unfold RC.eZ at hok
   rw [hb, hct] at hok
   rcases p with _ | ⟨i, _ | ⟨j, p'⟩⟩
   ·exact absurd rfl hp2
   ·cases hok
   ·simp only [T.kid] at hok
    cases hi : cs[i]? with
    | none => simp [hi] at hok
    | some t =>
     cases t <;> simp [hi] at hok
     rename_i ob sz es
     simp only [T.cb, hi, Y2] at hm'
     have hrk := Zf7 hr hi
     obtain ⟨v, hvi, hri⟩ := hrk
     rw [Y83, Zdc] at hri
     have ha : At w b (0 + i) [v] := fun j u hj => by
      cases j with
      | zero => simp at hj; subst hj; exact Z13 hh i v hvi
      | succ j => simp at hj
     simp only [bp, hi] at hp
     cases hj : es[j]? with
     | none => simp [hj] at hm'
     | some tj =>
      have K0 : es ≠ [] := by intro e; subst e; simp at hj
      obtain ⟨ad, cap, hv3, _, _, Ar, Cq, ty2, fr2, vs2, hh2, _, kK, qF⟩ := Zfv hri K0
      have hl : Ob.loc ob (some (aH.sl r, [] ++ [i])) = some (.sl r, [] ++ [i]) := by simp [Ob.loc, hm'.1]
      rw [hl] at Ar qF
      have K1 : v = .slice (some ad) es.length cap := by simpa using hv3
      have bD := (ha.cons).1
      rw [bD, K1] at hp
      simp only [hj] at hp
      obtain ⟨v4, _, hr4, hv4⟩ := Zfh qF hj
      rw [Zdc] at hr4
      rcases Za4 p' tj hr4 (b := ad.block) (o := ad.off + j * sz) (fun l u hl => by rw [Z2h hh2, Y74]; exact kK _ _ (hv4 l u hl)) hp with h6 | h6 | ⟨r6, q6, q7, h6, h7⟩
      ·rw [hB, h6] at hbk
       rw [hbk] at Ar
       simp [Loc.ow] at Ar
      ·rw [<- hB, hbk] at h6; cases h6
      ·cases h6
       rw [<- hB, hbk] at h7
       simp at h7
 ·rw [hσ] at hs
  simp only [aP] at hs
  obtain ⟨⟨ob, sz, es, hct, BO⟩, hr⟩ := hs
  unfold RC.eZ at hok
  rw [hb] at hok
  cases p with
  | nil => simp at hok
  | cons i p =>
   have hp0 := hp
   rw [hct] at hr hm hn
   obtain ⟨A, cap, hv, _⟩ := Zfu hr
   have hv' : aK a r = .slice A es.length cap := by simpa using hv
   rw [hv'] at hp hr ⊢
   unfold place at hp
   simp only [hb, hct] at hp
   obtain ⟨es', As⟩ := Zeb (ob := ob) (sz := sz) (es := es) (k := i) (p := p) (x := node.bO (bC node.cells off dU))
   have h1 := Ze9 (tab := X.tab) (mv := X.mv) hz hown hu hlen hne hle hr hm hn hp cn
   rw [As] at h1
   refine ⟨.own k' (.l ob sz es'), ?_, ?_, ⟨⟨_, _, _, rfl, BO⟩, h1⟩, (fun b hbt _ _ => by rw [hb] at hbt; cases hbt), (fun hbt => by rw [hb] at hbt; cases hbt)⟩
   ·obtain ⟨ib, kk, t⟩ := c
    simp only at hb hct ⊢
    subst hb hct
    rw [As]
    cases ob with
    | n => simp [Ob.own] at BO
    | y => rfl
    | m _ => rfl
   ·obtain ⟨ib, kk, t⟩ := c
    simp only at hb hct ⊢
    subst hb hct
    rw [As]
    rfl
end
end Go.Wr
namespace Go.Wr
section
variable {X : Cx} {U : Nat -> Prop} {J J' : Nat} {σ σ' σ2 : St} {a a' a2 : Act} {w w' w2 : World} {ow ow' ow2 : Nat -> Ow} {e : Nat} {o : Oper}
theorem At.get {b o : Nat} {vs : List Value} (h : At w b o vs) {n : Nat} (hn : n < vs.length) {arr : Array Value} {ty : TypeId} {fr : Nat × Nat} (hh : w.heap[b]? = some (.cells arr ty fr)) : o + n < arr.size := by
 have := h n vs[n] (Y34 hn)
 rw [Z2h hh] at this
 exact (Array.getElem?_eq_some_iff.1 this).1
theorem Z52 (h : Rel X U J σ a w ow) (hdn : o.dst = none) (he : ∀ x, Fam e x -> ¬ U x) {n : Nat} {tk : Bool} {x v : Opd} {x' v' : Operand} {t : TypeId} (hx : x.is X.tab x' = true) (hv : v.is X.tab v' = true) (hg : fB X.P t n = true)
  (hop : o.op = .store t x' v') (af : (exec e o.dst (.sto n tk x v)).run σ = some ((), σ')) : Sound X U a w e o σ' := by
 simp only [exec, store] at af
 obtain ⟨new, σ1, h1, h2⟩ := Zh3 af
 obtain ⟨J1, ow1, ix, hJ, hgh, bF⟩ := Z7l h hv h1
 split at h2
 ·rename_i hlen
  obtain ⟨av, σ2, h3, h4⟩ := Zh3 h2
  obtain ⟨e1, hl, et⟩ := Z4 hgh.rel hx h3
  rw [e1] at h4
  clear h3 e1 σ2
  rcases et with ⟨r, k, p, off, rfl⟩ | ⟨t0, off, rfl⟩
  ·simp only at h4
   obtain ⟨c, σ3, h5, h6⟩ := Zh3 h4
   obtain ⟨e2, hc, hk, hpb⟩ := Zgf h5
   rw [e2] at h6
   clear h4 h5 e2 σ3
   cases hpc : putCells e c p off new with
   | none => simp [hpc, Pg.run] at h6
   | some c' =>
    simp only [hpc] at h6
    have hσ' := Zhu h6
    obtain ⟨node, hn, hok, hm, hle, hne, qx, hc'⟩ := Zdf hpc
    obtain ⟨B, O, vs, hpl, hat, qG⟩ := Zgj (w := w) hc (hgh.rel.slot r) hn hpb
    have bz := hl.1.2 c hc hk _ hpl
    simp only at bz
    obtain ⟨arr, ty, fr, qB, hh, hf, hB⟩ := Zgk hgh.rel hc hok hm hn hpl
    have Me : vs.length = node.cells.length := by
     by_cases hna : ∃ cs, node = .a cs
     ·obtain ⟨cs, rfl⟩ := hna
      simp only [rep] at qG
      exact Zf8 qG
     ·rw [Zfz qG (fun cs e => hna ⟨cs, e⟩)]
      cases node <;> first | rfl | exact absurd ⟨_, rfl⟩ hna
    have hY : 0 < new.length := Y47.2 hne
    have hsz : O + off + new.length <= arr.size := by
     have := hat.get (n := off + new.length - 1) (by omega) hh
     omega
    have qH : (a.eval v').cells.toList.length = new.length := bF.len
    have hone : (a.eval v').cells.toList.all dK = true := by
     rw [Y18]
     intro u hu
     obtain ⟨j, hj⟩ := Y59.1 hu
     have hjl := (Y36.1 hj).1
     have hjn : j < new.length := by omega
     exact Zj7 (Y18.1 qx _ (Y40 hjn)) (bF.rep j new[j] u (Y34 hjn) hj)
    obtain ⟨cW, w', hrs, hh', qI, dp, iG, hhs, hos, gP⟩ := Zhr (P := X.P) (b := B) (o := O + off) (ty := ty) (fr := fr) (a.eval v').cells.toList 0 w arr hh hf (by rw [qH]; omega) hone
    have hu : Upd w w' B (O + off) (a.eval v').cells.toList := ⟨iG, arr, cW, ty, fr, hh, hh', qI, fun j => by have := dp j; simpa using this⟩
    have hex : ∀ j, j < new.length -> ∃ g : Nat, g = j := fun j _ => ⟨j, rfl⟩
    let pre : Nat -> List Nat := fun j => match node with | .a _ => p ++ [off + j] | _ => p
    let g : Nat -> Option (List Nat) := fun i => (List.range new.length).find? (fun j => ix j == i) |>.map pre
    have hg' : ∀ j, j < new.length -> g (ix j) = some (pre j) := fun j hj => by
     have : (List.range new.length).find? (fun j' => ix j' == ix j) = some j := by
      cases hf : (List.range new.length).find? (fun j' => ix j' == ix j) with
      | none =>
       have := List.find?_eq_none.1 hf j (by simpa using hj)
       simp at this
      | some j' =>
       have h7 := Y26 hf
       have h8 := Y61 hf
       simp only [Y64, beq_iff_eq] at h7 h8
       rw [bF.inj j' j h8 hj h7]
     simp only [g, this, Y88]
    have hzs : ∀ b, ow1 b = .z -> eF ow1 r g b = .z /\ b ≠ B := fun b hb => ⟨Zjw hb, fun e => by subst e; rw [hb] at hB; cases hB⟩
    have hown : ∀ b q', ow1 b = .own (.sl r) q' -> eF ow1 r g b = .own (.sl r) q' := fun b q' hb => Zjv hb
    have hzz : Zs w ow1 w' (eF ow1 r g) := fun b hb => ⟨(hzs b hb).1, iG b (hzs b hb).2⟩
    have cn : ∀ (j : Nat) x v, new[j]? = some x -> (a.eval v').cells.toList[j]? = some v -> rep X.tab X.mv w' (eF ow1 r g) (gD node (.sl r) p (off + j)) x [v] := fun j x v hxj hvj => by
     have hj := (Y36.1 hxj).1
     have hcl : gD node (.sl r) p (off + j) = some (.sl r, pre j) := by
      simp only [pre]
      cases node <;> rfl
     rw [hcl]
     refine Zg1 hzz x (c := some (.ar (ix j), [])) (fun b q hb => ?_) (bF.rep j x v hxj hvj)
     simp only [Y66] at hb
     refine ⟨Zjs (hg' j hj) hb, iG b fun e => ?_⟩
     subst e
     rw [hb] at hB
     cases hB
    obtain ⟨av', hav, hrc, gi, Cr, fY⟩ := Zjx (σ2 := σ') (a2 := a) hgh.rel hc hn hok hm hle hne qH hpl hu hzs hown cn c'.k
    have K2 : c' = { c with k := c'.k, t := c.t.put p (node.bO (bC node.cells off new)) } := by rw [hc']
    have K3 : c'.av = av' := by rw [K2]; exact hav
    rw [K3] at hσ'
    have hσr : σ' r = av' := by rw [hσ']; simp [upd]
    have hσn : ∀ s, s ≠ r -> σ' s = σ1 s := fun s hs => by rw [hσ']; simp [upd, hs]
    have hho : ∀ b s q, s ≠ r -> ow1 b = .own (.sl s) q -> w'.heap[b]? = w.heap[b]? := fun b s q hs hb => iG b fun e => by
     subst e
     rw [hb] at hB
     cases hB
     exact hs rfl
    have hkr : aQ U σ1 a w σ' a w' r := by
     by_cases hsc : ((sub node.cells off new.length).all T.scalar && new.all T.scalar) = true
     ·rw [Y2] at hsc
      have hk' : c'.k = c.k := by rw [hc']; simp [hsc.1, hsc.2]
      have Au : Hs w' w := fun b o2 A N C hcl => by
       by_cases hb : b = B
       ·subst hb
        rw [Z2h hh'] at hcl
        have := dp o2
        rw [hcl] at this
        by_cases hin : O + off + 0 <= o2 /\ o2 < O + off + 0 + (a.eval v').cells.toList.length
        ·rw [if_pos hin] at this
         exfalso
         have hj := (Y36.1 this.symm).1
         have hjn : o2 - (O + off + 0) < new.length := by omega
         exact Zi6 (Y18.1 hsc.2 _ (Y40 hjn)) (bF.rep _ _ _ (Y34 hjn) this.symm) A N C rfl
        ·rw [if_neg hin] at this
         rw [Z2h hh]; exact this.symm
       ·simp only [World.cell?, iG b hb] at hcl ⊢
        exact hcl
      refine Zes (c := c) (c' := { c with k := c'.k, t := c.t.put p (node.bO (bC node.cells off new)) }) hc (by rw [hσr]; exact hrc) rfl hk' (Sh.put Au (Sh.bC Au hle hne hsc.1 hsc.2) p c.t hn) Au rfl
     ·have hk' : c'.k = bump e c p := by rw [hc']; simp only [if_neg hsc]
      rw [hk'] at hrc
      refine Zeq hc (by rw [hσr]; exact hrc) he rfl hok (fun e => ?_) Cr fY
      subst e
      simp only [T.nav, Y89] at hn
      rcases Zen hc with ⟨hb, cs, hct, _⟩ | ⟨hb, _⟩
      ·rw [<- hn, hct]; exact ⟨_, rfl⟩
      ·unfold RC.eZ at hok; rw [hb] at hok; cases hok
    have cc : ∀ s, aQ U σ1 a w σ' a w' s := fun s => by
     by_cases hs : s = r
     ·subst hs; exact hkr
     ·exact Zer (hgh.rel.slot s) (hσn s hs) rfl hzz (fun b q hb => hho b s q hs hb)
    have qJ := hgh.rel.bZ r
    have hUc : U c.k.e /\ U c.k.h /\ U c.k.d := by
     rcases Zen hc with ⟨_, cs, _, hσ⟩ | ⟨_, hσ⟩ <;> rw [hσ] at qJ <;> exact qJ
    have Cs : (U c'.k.e \/ Fam e c'.k.e) /\ (U c'.k.h \/ Fam e c'.k.h) /\ (U c'.k.d \/ Fam e c'.k.d) := by
     rw [hc']
     simp only
     split
     ·exact ⟨.inl hUc.1, .inl hUc.2.1, .inl hUc.2.2⟩
     ·unfold bump
      split
      ·exact ⟨.inl hUc.1, .inr (Fam.self e), .inl hUc.2.2⟩
      ·exact ⟨.inl hUc.1, .inl hUc.2.1, .inr (Fam.self e)⟩
    have jc : Rel X (fun x => U x \/ Fam e x) J1 σ' a w' (eF ow1 r g) := by
     have R := hgh.rel
     refine ⟨R.size, R.small, R.defers, fun s => ?_, fun s => ?_, fun b hb => by rw [hhs]; exact R.low b (Zjt hb), fun b i q hb => R.air b i q (Zjr hb), by rw [hhs]; exact R.grown, fun b hb hr => ?_, hos.trans R.os, gP.trans R.output, R.bu, fun s hs hu2 => ?_⟩
     ·by_cases hs : s = r
      ·subst hs; rw [hσr]; exact gi
      ·rw [hσn s hs]
       exact Zj6 (R.slot s) (R.bZ s) hzz cc (fun b q hb => ⟨Zjv hb, hho b s q hs hb⟩)
     ·by_cases hs : s = r
      ·subst hs
       rw [hσr]
       cases av' <;> simp only [AV.rc, reduceCtorEq, Y89] at hrc
       ·have := congrArg RC.k hrc
        simp only at this
        simp only [AV.stamps]; rw [this]; exact Cs
       ·have := congrArg RC.k hrc
        simp only at this
        simp only [AV.stamps]; rw [this]; exact Cs
      ·rw [hσn s hs]
       exact AV.dR (fun x hx => .inl hx) (R.bZ s)
     ·obtain ⟨h7, h8⟩ := R.same b hb hr
      have hbB : b ≠ B := fun e => by
       subst e
       rw [h8] at hB
       exact hr _ _ hB
      refine ⟨(iG b hbB).trans h7, ?_⟩
      rw [<- h8]
      cases h9 : ow1 b with
      | no => exact Zju h9
      | z => exact Zjw h9
      | own r' q => rw [h9] at h8; exact absurd h8.symm (hr r' q)
     ·have hsr : σ1 s ≠ .u := by
       by_cases h7 : s = r
       ·subst h7; exact (Zeo hc).1
       ·rw [<- hσn s h7]; exact hu2
      obtain ⟨m, h7, h8⟩ := R.gI s hs hsr
      refine ⟨m, ?_, h8⟩
      rw [hσn _ (fun e => (Zeo hc).2 m (e ▸ h7))]
      exact h7
    intro K Q hK
    left
    unfold Oper.wp
    have gQ : (execOp a.eval o).run X.P w = .ok .skip w' := by
     simp only [execOp, hop]
     show ((Instr.storeAt t (a.eval x') (a.eval v')) >>= fun _ => pure Next.skip).run X.P w = _
     have : (Instr.storeAt t (a.eval x') (a.eval v')).run X.P w = .ok () w' := by
      rw [bz]
      show ((Instr.sureAddr _) >>= fun a0 => storeVar t a0 (a.eval v')).run X.P w = _
      rw [Zhl (x := ⟨B, O + off, none⟩) (w' := w) rfl]
      unfold storeVar
      rw [Zhl (Zho hg)]
      have hn2 : (a.eval v').cells.size = n := by
       have := qH
       rw [Y0] at this
       omega
      rw [if_neg (by rw [hn2]; simp)]
      exact hrs
     rw [Zhl this]
     rfl
    rw [gQ, Oper.upon_skip, hdn]
    exact hK _ _ _ _ jc
  ·simp [Pg.run] at h4
 ·simp [Pg.run] at h2
end
end Go.Wr
namespace Go.Wr
section
variable {X : Cx} {U : Nat -> Prop} {J J' : Nat} {σ σ' σ2 : St} {a a' a2 : Act} {w w' w2 : World} {ow ow' ow2 : Nat -> Ow} {e : Nat} {o : Oper}
def eu (n : Nat) (ix : Nat -> Nat) (pre : Nat -> List Nat) : Nat -> Option (List Nat) := fun i => ((List.range n).find? (fun j => ix j == i)).map pre
theorem Z5j {n : Nat} {ix : Nat -> Nat} {pre : Nat -> List Nat} (po : ∀ i j, i < n -> j < n -> ix i = ix j -> i = j) {j : Nat} (hj : j < n) : eu n ix pre (ix j) = some (pre j) := by
 have : (List.range n).find? (fun j' => ix j' == ix j) = some j := by
  cases hf : (List.range n).find? (fun j' => ix j' == ix j) with
  | none =>
   have := List.find?_eq_none.1 hf j (by simpa using hj)
   simp at this
  | some j' =>
   have h7 := Y26 hf
   have h8 := Y61 hf
   simp only [Y64, beq_iff_eq] at h7 h8
   rw [po j' j h8 hj h7]
 simp only [eu, this, Y88]
theorem Z5 {J1 J0 : Nat} {σ1 : St} {ow1 : Nat -> Ow} {ts : List T} {vs : List Value} {ix : Nat -> Nat} (hg : Gh X U J J1 σ a w ow σ1 ow1) (ha : Air X w ow J0 J ts vs ix) : Air X w ow1 J0 J ts vs ix :=
 ⟨ha.len, fun j t v ht hv => Zg1 hg.z t (c := some (.ar (ix j), [])) (fun b q hb => ⟨hg.air b _ _ (ha.bnd j (Y36.1 ht).1).2 hb, rfl⟩) (ha.rep j t v ht hv),
  ha.bnd, ha.inj⟩
theorem Z8 {J0 J1 J2 : Nat} {cs new : List T} {vs nv : List Value} {ix ix2 : Nat -> Nat} (h1 : Air X w ow J0 J1 cs vs ix) (h2 : Air X w ow J1 J2 new nv ix2) (hJ : J1 <= J2) (hJ0 : J0 <= J1) {off : Nat} (hle : off + new.length <= cs.length) :
  Air X w ow J0 J2 (bC cs off new) (bC vs off nv) (fun j => if off <= j /\ j < off + new.length then ix2 (j - off) else ix j) := by
 have hl1 := h1.len
 have hl2 := h2.len
 have hsl := Zjq cs off new hle
 refine ⟨?_, fun j t v ht hv => ?_, fun j hj => ?_, fun i j hi hj he => ?_⟩
 ·rw [Zjq _ _ _ (by omega), hsl, hl1]
 ·rw [Zjp _ _ _ hle] at ht
  rw [Zjp _ _ _ (by omega), hl2] at hv
  split at ht
  ·rename_i hj
   rw [if_pos hj] at hv
   rw [if_pos hj]
   exact h2.rep _ _ _ ht hv
  ·rename_i hj
   rw [if_neg hj] at hv
   rw [if_neg hj]
   exact h1.rep _ _ _ ht hv
 ·split
  ·rename_i hj2
   have := h2.bnd (j - off) (by omega)
   exact ⟨by omega, this.2⟩
  ·have := h1.bnd j (by omega)
   exact ⟨this.1, by omega⟩
 ·split at he <;> split at he
  ·have := h2.inj _ _ (by omega) (by omega) he
   omega
  ·have h5 := (h2.bnd (i - off) (by omega)).1
   have h6 := (h1.bnd j (by omega)).2
   omega
  ·have h5 := (h2.bnd (j - off) (by omega)).1
   have h6 := (h1.bnd i (by omega)).2
   omega
  ·exact h1.inj _ _ (by omega) (by omega) he
def hZ (tab : Nat -> FuncId) (place : Nat -> Option (Nat × Nat)) : List (Nat × Nat × Opd) -> List (Nat × Operand) -> Bool
 | [], [] => true
 | (off, n, x) :: ps, (i, y) :: qs => x.is tab y && place i == some (off, n) && hZ tab place ps qs
 | _, _ => false
theorem Z5z : ∀ (nv : List Value) (k off : Nat) (cells : Array Value), off + k + nv.length <= cells.size ->
  (((nv.zipIdx k).foldl (fun cs (c, j) => cs.setIfInBounds (off + j) c) cells).toList = bC cells.toList (off + k) nv)
 | [], k, off, cells, h => by simp [bC]
 | v :: nv, k, off, cells, h => by
  simp only [Y42] at h
  simp only [List.zipIdx_cons, Y28]
  rw [Z5z nv (k + 1) off _ (by simp; omega)]
  apply Y25
  intro j
  rw [Zjp _ _ _ (by simp; omega), Zjp _ _ _ (by simp; omega)]
  simp only [Y42, Array.toList_setIfInBounds]
  by_cases hj : j = off + k
  ·subst hj
   rw [if_neg (by omega), if_pos (by omega), Y39 (by simp; omega)]
   simp
  ·by_cases h2 : off + (k + 1) <= j /\ j < off + (k + 1) + nv.length
   ·rw [if_pos h2, if_pos (by omega)]
    have : j - (off + k) = (j - (off + (k + 1))) + 1 := by omega
    rw [this]; simp
   ·rw [if_neg h2, if_neg (by omega), Y38 (by omega)]
theorem Z5i {tk : Bool} {place : Nat -> Option (Nat × Nat)} : ∀ (ps : List (Nat × Nat × Opd)) (qs : List (Nat × Operand)) {J0 J : Nat} {σ σ' : St} {ow : Nat -> Ow} {cs out : List T} {cells : Array Value} {ix : Nat -> Nat},
  Rel X U J σ a w ow -> hZ X.tab place ps qs = true -> J0 <= J -> Air X w ow J0 J cs cells.toList ix -> (fill tk e ps cs).run σ = some (out, σ') ->
  ∃ J' ow' ix' jH, J <= J' /\ Gh X U J J' σ a w ow σ' ow' /\ Air X w ow' J0 J' out jH.toList ix' /\ Instr.fill place cells (qs.map fun (i, x) => (i, a.eval x)) = some jH /\ out.length = cs.length
 | [], [], J0, J, σ, σ', ow, cs, out, cells, ix, h, hp, hJ, ha, af => by
  obtain ⟨rfl, rfl⟩ := Zhk af
  exact ⟨J, ow, ix, cells, Nat.le_refl _, Gh.refl h (Nat.le_refl _), ha, rfl, rfl⟩
 | [], _ :: _, J0, J, σ, σ', ow, cs, out, cells, ix, h, hp, hJ, ha, af => by simp [hZ] at hp
 | _ :: _, [], J0, J, σ, σ', ow, cs, out, cells, ix, h, hp, hJ, ha, af => by simp [hZ] at hp
 | (off, n, x) :: ps, (i, y) :: qs, J0, J, σ, σ', ow, cs, out, cells, ix, h, hp, hJ, ha, af => by
  simp only [hZ, Y2, beq_iff_eq] at hp
  obtain ⟨⟨hx, hpl⟩, hp⟩ := hp
  simp only [fill] at af
  obtain ⟨new, σ1, h1, h2⟩ := Zh3 af
  obtain ⟨J1, ow1, ix1, hJ1, hg1, ha1⟩ := Z7l h hx h1
  split at h2
  ·rename_i hc
   obtain ⟨hln, hle⟩ := hc
   have hlen := ha.len
   rw [Y0] at hlen
   have hl1 := ha1.len
   rw [Y0] at hl1
   have ha2 := Z8 (Z5 hg1 ha) ha1 hJ1 hJ (off := off) (by omega)
   have BP := Z5z (a.eval y).cells.toList 0 off cells (by rw [Y0]; omega)
   rw [Y75] at BP
   rw [<- BP] at ha2
   obtain ⟨J3, ow3, ix3, Ct, h5, h6, h7, h8, h9⟩ := Z5i ps qs hg1.rel hp (by omega) ha2 h2
   refine ⟨J3, ow3, ix3, Ct, by omega, hg1.trans h6 hJ1, h7, ?_, by rw [h9, Zjq _ _ _ (by omega)]⟩
   rw [<- h8]
   simp only [Y50, Instr.fill, hpl]
   rw [if_neg (by simp only [Y14, decide_eq_true_eq, not_or]; omega)]
   congr 1
   rw [<- Array.foldl_toList, Array.toList_zipIdx]
  ·simp [Pg.run] at h2
theorem Z34 {cs : List T} {vs : List Value} (hc : T.bN cs vs = true) : Air X w ow J (J + cs.length) cs vs (fun j => J + j) :=
 ⟨Zy cs vs hc, fun j t v ht hv => by
  obtain ⟨h3, h4⟩ := Zx cs vs j hc ht hv
  exact Z35 t v _ h3 (fun e => by cases e) h4, fun j hj => ⟨by omega, by omega⟩, fun i j _ _ h => by omega⟩
theorem Zji (h : Rel X U J' σ a w ow) {vs : Array Value} {ts : List T} {ix : Nat -> Nat} {J0 : Nat} (hv : (execOp a.eval o).run X.P w = .ok (.value (.agg vs)) w) (hd : ca X o) (he : ∀ x, Fam e x -> ¬ U x)
  (bF : Air X w ow J0 J' ts vs.toList ix) (af : (bT o.dst (.st (ts.map .x))).run σ = some ((), σ')) : Sound X U a w e o σ' := by
 rw [Zhm] at af
 simp only [Y89, Y90, true_and] at af
 subst af
 have hst : (AV.st (ts.map Cell.x)).stamps (fun x => U x \/ Fam e x) := fun c hc => by
  obtain ⟨t, _, rfl⟩ := Y60.1 hc
  trivial
 cases bW : o.dst with
 | none =>
  have := Zjl (av := .st (ts.map .x)) (v := .agg vs) (J' := J') h hv (ow' := ow) (gO.rfl h o.dst (Nat.le_refl _)) hd hst (by simp [AV.rc]) he (fun d hdd => by rw [bW] at hdd; cases hdd)
  rw [bW] at this
  exact this
 | some d =>
  have ht := Z9f h d (eu ts.length ix (fun j => [j]))
  have hz : Zs w ow w (cr ow d (eu ts.length ix (fun j => [j]))) := Z98
  have := Zjl (av := .st (ts.map .x)) (v := .agg vs) (J' := J') h hv (ow' := cr ow d (eu ts.length ix (fun j => [j]))) (by rw [bW]; exact ht) hd hst (by simp [AV.rc]) he
   (fun d' hdd σ' a' hr => by
    rw [bW] at hdd
    cases hdd
    refine ⟨vs, rfl, Z2j _ 0 vs.toList (by rw [bF.len]; simp) fun j c u h1 h2 => ?_⟩
    rw [Y37] at h1
    obtain ⟨t, ht, rfl⟩ := Y87.1 h1
    have hj := (Y36.1 ht).1
    refine Zg1 hz t (c := some (.ar (ix j), [])) (c' := some (.sl d, [0 + j])) (fun b q hb => ⟨?_, rfl⟩) (bF.rep j t u ht h2)
    rw [Z96 (Z5j bF.inj hj) hb]
    simp)
  rw [bW] at this
  exact this
def gR (P : Program) (t : TypeId) (cs : List T) : Bool :=
 match P.info? t with
 | some i => (match i.zero with | some z => T.bN cs z.cells.toList | none => false)
 | none => false
theorem Zhv {P : Program} {t : TypeId} {cs : List T} (h : gR P t cs = true) : ∃ z : Value, (zeroValue t).run P w = .ok z w /\ T.bN cs z.cells.toList = true := by
 unfold gR at h
 split at h
 ·rename_i i hi
  split at h
  ·rename_i z hz
   exact ⟨z, by simp [zeroValue, typeInfo, program, Bind.bind, Sem.bind, Sem.run, hi, hz, Pure.pure], h⟩
  ·cases h
 ·cases h
def Av (P : Program) (fs : Array Field) : Option (List (Nat × Nat)) := fs.toList.mapM fun f => (P.info? f.type).map fun i => (f.offset, i.size)
def qK (P : Program) (tab : Nat -> FuncId) (t : TypeId) (zero : List T) (parts : List (Nat × Nat × Opd)) (ps : List (Nat × Operand)) : Bool :=
 match P.underlying t with
 | some (.struct fs) => (match Av P fs with
  | some pl => gR P t zero && hZ tab (fun i => pl[i]?) parts ps
  | none => false)
 | _ => false
theorem Zhe {P : Program} : ∀ (fs : List Field) {pl : List (Nat × Nat)}, (fs.mapM fun f => (P.info? f.type).map fun i => (f.offset, i.size)) = some pl ->
  (fs.mapM (m := Sem) fun f => do pure (f.offset, <- sizeOf f.type)).run P w = .ok pl w
 | [], pl, h => by
  simp at h
  subst h
  rfl
 | f :: fs, pl, h => by
  simp only [List.mapM_cons] at h ⊢
  cases hi : P.info? f.type with
  | none => simp [hi] at h
  | some i =>
   simp only [hi, Y88, Option.bind_eq_bind, Y86] at h
   cases hr : fs.mapM (fun f => (P.info? f.type).map fun i => (f.offset, i.size)) with
   | none => simp [hr] at h
   | some pl' =>
    simp only [hr, Y86, Option.pure_def, Y89] at h
    subst h
    have hs : fB P f.type i.size = true := by simp [fB, hi]
    have h1 : (do pure (f.offset, <- sizeOf f.type) : Sem (Nat × Nat)).run P w = .ok (f.offset, i.size) w := by
     rw [Zhl (Zho hs)]; rfl
    rw [Zhl h1, Zhl (Zhe fs hr)]
    rfl
theorem Z4c (h : Rel X U J σ a w ow) (hd : ca X o) (he : ∀ x, Fam e x -> ¬ U x) {zero : List T} {tk : Bool} {parts : List (Nat × Nat × Opd)} {t : TypeId} {ps : Array (Nat × Operand)} (hg : qK X.P X.tab t zero parts ps.toList = true)
  (hop : o.op = .build t ps) (af : (exec e o.dst (.bld zero tk parts)).run σ = some ((), σ')) : Sound X U a w e o σ' := by
 obtain ⟨cs, σ1, h1, h2⟩ := Zh3 af
 unfold qK at hg
 split at hg
 ·rename_i fs hu
  split at hg
  ·rename_i pl hpl
   simp only [Y2] at hg
   obtain ⟨z, hz, hzc⟩ := Zhv (w := w) hg.1
   have ha := Z34 (X := X) (w := w) (ow := ow) (J := J) hzc
   obtain ⟨J', ow', ix', jH, h3, h4, h5, h6, h7⟩ := Z5i parts ps.toList (h.mono (fun x hx => hx) (Nat.le_add_right J zero.length)) hg.2 (by omega) ha h1
   refine Zji h4.rel ?_ hd he h5 h2
   simp only [execOp, hop]
   refine Zht ?_
   unfold Instr.build
   rw [Zhl hz, Zhl (Zhs hu)]
   simp only
   have hpm : (fs.mapM (m := Sem) fun f => do pure (f.offset, <- sizeOf f.type)).run X.P w = .ok pl.toArray w := by
    have := Zhe (w := w) fs.toList hpl
    rw [Array.mapM_eq_mapM_toList]
    show (List.toArray <$> (fs.toList.mapM (m := Sem) fun f => do pure (f.offset, <- sizeOf f.type))).run X.P w = _
    show (Sem.bind _ _).run X.P w = _
    exact Zhl this
   rw [Zhl hpm]
   have hfp : (fun x : Nat => pl.toArray[x]?) = (fun i : Nat => pl[i]?) := by funext i; simp
   simp only [hfp, Y1]
   rw [h6]
   rfl
  ·cases hg
 ·cases hg
end
end Go.Wr
namespace Go.Wr
section
variable {X : Cx} {U : Nat -> Prop} {J J' : Nat} {σ σ' σ2 : St} {a a' a2 : Act} {w w' w2 : World} {ow ow' ow2 : Nat -> Ow} {e : Nat} {o : Oper}
def World.more (w : World) (x : Obj) : World := { w with heap := w.heap.push x }
theorem Zbb {x : Obj} {b : Nat} (hb : b < w.heap.size) : (World.more w x).heap[b]? = w.heap[b]? := by
 simp only [World.more, Array.getElem?_push, if_neg (Y81 hb)]
theorem Zba {x : Obj} : (World.more w x).heap[w.heap.size]? = some x := by
 show (w.heap.push x)[w.heap.size]? = some x
 simp
def eS (ow : Nat -> Ow) (d b0 : Nat) (g : Nat -> Option (List Nat)) : Nat -> Ow := fun b => if b = b0 then .own (.sl d) [] else cr ow d g b
theorem Z97 {d b : Nat} {g : Nat -> Option (List Nat)} (hb : ow b = .no) : cr ow d g b = .no := by simp [cr, hb]
theorem Zbp (h : Rel X U J σ a w ow) (d : Nat) (g : Nat -> Option (List Nat)) (x : Obj) : gO X U J w ow (World.more w x) (eS ow d w.heap.size g) (some d) where
 z := fun b hb => by
  have hlt := h.low b (by rw [hb]; simp)
  exact ⟨by simp only [eS, if_neg (Y81 hlt)]; simp [cr, hb], Zbb hlt⟩
 other := fun b s q hs hb => by
  have hlt := h.low b (by rw [hb]; simp)
  simp only [ne_eq, Y89] at hs
  exact ⟨by simp only [eS, if_neg (Y81 hlt), cr, hb, if_neg (Ne.symm hs)], Zbb hlt⟩
 low := fun b hb => by
  simp only [World.more, Array.size_push]
  by_cases h1 : b = w.heap.size
  ·omega
  ·simp only [eS, if_neg h1] at hb
   have := h.low b fun e => hb (Z97 e)
   omega
 air := fun b i q hb => by
  by_cases h1 : b = w.heap.size
  ·simp [eS, h1] at hb
  ·simp only [eS, if_neg h1] at hb
   exact h.air b i q (Z95 hb)
 grown := by simp [World.more]
 no := fun b hlt hb => ⟨by simp only [eS, if_neg (Y81 hlt)]; exact Z97 hb, Zbb hlt⟩
 os := rfl
 output := rfl
theorem Z3f (h : Rel X U J σ a w ow) (x : Obj) : gO X U J w ow (World.more w x) ow none where
 z := fun b hb => ⟨hb, Zbb (h.low b (by rw [hb]; simp))⟩
 other := fun b s q _ hb => ⟨hb, Zbb (h.low b (by rw [hb]; simp))⟩
 low := fun b hb => by
  have := h.low b hb
  simp only [World.more, Array.size_push]; omega
 air := h.air
 grown := by simp [World.more]
 no := fun b hlt hb => ⟨hb, Zbb hlt⟩
 os := rfl
 output := rfl
theorem Zjk (h : Rel X U J' σ a w ow) {v : Value} {av : AV} {x : Obj} {g : Nat -> Option (List Nat)} (hv : (execOp a.eval o).run X.P w = .ok (.value v) (World.more w x)) (hd : ca X o) (he : ∀ x, Fam e x -> ¬ U x)
  (hst : av.stamps (fun x => U x \/ Fam e x)) (hrc : ∀ c, av.rc = some c -> c.k.e = e)
  (hav : ∀ d σ' a', aP X σ' a' (World.more w x) (eS ow d w.heap.size g) d av v) (af : (bT o.dst av).run σ = some ((), σ')) : Sound X U a w e o σ' := by
 rw [Zhm] at af
 simp only [Y89, Y90, true_and] at af
 subst af
 cases bW : o.dst with
 | none =>
  have := Zjl (av := av) (v := v) (J' := J') h hv (ow' := ow) (by rw [bW]; exact Z3f h x) hd hst hrc he (fun d hdd => by rw [bW] at hdd; cases hdd)
  rw [bW] at this
  exact this
 | some d =>
  have := Zjl (av := av) (v := v) (J' := J') h hv (ow' := eS ow d w.heap.size g) (by rw [bW]; exact Zbp h d g x) hd hst hrc he (fun d' hdd σ' a' hr => by rw [bW] at hdd; cases hdd; exact hav d σ' a')
  rw [bW] at this
  exact this
theorem Z6 (h : Rel X U J' σ a w ow) {J0 : Nat} {ts : List T} {vs : List Value} {ix : Nat -> Nat} (bF : Air X w ow J0 J' ts vs ix) (x : Obj) (d : Nat) (pre : Nat -> List Nat) {j : Nat} {t : T} {v : Value} (ht : ts[j]? = some t) (hv : vs[j]? = some v) :
  rep X.tab X.mv (World.more w x) (eS ow d w.heap.size (eu ts.length ix pre)) (some (.sl d, pre j)) t [v] := by
 have hj := (Y36.1 ht).1
 refine Zg1 (Zbp h d _ x).z t (c := some (.ar (ix j), [])) (fun b q hb => ?_) (bF.rep j t v ht hv)
 have hlt := h.low b (by rw [hb]; simp)
 refine ⟨?_, Zbb hlt⟩
 simp only [eS, if_neg (Y81 hlt)]
 rw [Z96 (Z5j bF.inj hj) hb]
 simp
theorem Z1q (h : Rel X U J' σ a w ow) {J0 : Nat} {ts : List T} {cells : Array Value} {ix : Nat -> Nat} {ty : TypeId} (bF : Air X w ow J0 J' ts cells.toList ix) (d : Nat) :
  aP X σ2 a2 (World.more w (.cells cells ty (0, 0))) (eS ow d w.heap.size (eu ts.length ix (fun j => [j]))) d (.box ⟨e, e, e⟩ ts) (.pointer (some ⟨w.heap.size, 0, none⟩)) := by
 refine ⟨w.heap.size, cells, ty, (0, 0), rfl, by simp [eS], Zba, .inl (Nat.le_refl _), Zfa (by rw [bF.len]) fun j t v ht hv => ?_⟩
 have := Z6 h bF (.cells cells ty (0, 0)) d (fun j => [j]) ht hv
 simpa [Zdc] using this
theorem Zhi {P : Program} {t : TypeId} {v : Value} : (newVar t v).run P w = .ok ⟨w.heap.size, 0, none⟩ (World.more w (.cells v.cells t (0, 0))) := rfl
theorem Z47 (h : Rel X U J σ a w ow) (hd : ca X o) (he : ∀ x, Fam e x -> ¬ U x) {cs : List T} {t : TypeId} (hg : gR X.P t cs = true) (hop : o.op = .alloc t)
  (af : (exec e o.dst (.alloc cs)).run σ = some ((), σ')) : Sound X U a w e o σ' := by
 simp only [exec] at af
 obtain ⟨z, hz, hzc⟩ := Zhv (w := w) hg
 have ha := Z34 (X := X) (w := w) (ow := ow) (J := J) hzc
 have h' := h.mono (fun x hx => hx) (Nat.le_add_right J cs.length)
 refine Zjk h' (av := .box ⟨e, e, e⟩ cs) (v := .pointer (some ⟨w.heap.size, 0, none⟩)) (x := .cells z.cells t (0, 0)) (g := eu cs.length (fun j => J + j) (fun j => [j])) ?_ hd he ⟨.inr (Fam.self e), .inr (Fam.self e), .inr (Fam.self e)⟩
  (fun c hc => by simp only [AV.rc, Y89] at hc; subst hc; rfl) (fun d σ' a' => Z1q h' ha d) af
 simp only [execOp, hop]
 refine Zht ?_
 unfold Instr.alloc
 rw [Zhl hz]
 simp only
 rw [Zhl Zhi]
 rfl
theorem Z4d (h : Rel X U J σ a w ow) (hd : ca X o) (he : ∀ x, Fam e x -> ¬ U x) {tk : Bool} {x : Opd} {x' : Operand} {t : TypeId} (hx : x.is X.tab x' = true) (hop : o.op = .box t x')
  (af : (exec e o.dst (.box tk x)).run σ = some ((), σ')) : Sound X U a w e o σ' := by
 obtain ⟨cs, σ1, h1, h2⟩ := Zh3 af
 obtain ⟨J', ow', ix, hJ, hgh, bF⟩ := Z7l h hx h1
 refine Zjk hgh.rel (av := .box ⟨e, e, e⟩ cs) (v := .pointer (some ⟨w.heap.size, 0, none⟩)) (x := .cells (a.eval x').cells t (0, 0)) (g := eu cs.length ix (fun j => [j])) ?_ hd he ⟨.inr (Fam.self e), .inr (Fam.self e), .inr (Fam.self e)⟩
  (fun c hc => by simp only [AV.rc, Y89] at hc; subst hc; rfl) (fun d σ' a' => Z1q hgh.rel bF d) h2
 simp only [execOp, hop]
 refine Zht ?_
 unfold Instr.box
 rw [Zhl Zhi]
 rfl
theorem Zeu (agg : Bool) (sz : Nat) : ∀ (n : Nat) (cs : List T), (ef agg sz n cs).length = n
 | 0, _ => rfl
 | n + 1, cs => by simp [ef, Zeu agg sz n]
theorem Zfm {tab : Nat -> FuncId} {mv : Nat -> Value} {c : Loc} {agg : Bool} {sz : Nat} (hsz : 0 < sz) (h1 : agg = false -> sz = 1) : ∀ (n k : Nat) (ts : List T) (vs : List Value), ts.length = n * sz -> vs.length = n * sz ->
  (∀ (j : Nat) t v, ts[j]? = some t -> vs[j]? = some v -> rep tab mv w ow (if agg then (c.push (k + j / sz)).push (j % sz) else c.push (k + j)) t [v]) -> bg tab mv w ow c sz k (ef agg sz n ts) vs
 | 0, k, ts, vs, hl, hl2, _ => by
  simp only [ef, bg]
  exact Y44.1 (by simpa using hl2)
 | n + 1, k, ts, vs, hl, hl2, h => by
  rw [Y82] at hl hl2
  simp only [ef, bg]
  refine ⟨vs.take sz, vs.drop sz, (Y71 _ _).symm, by simp; omega, ?_, ?_⟩
  ·unfold gG
   cases agg with
   | true =>
    simp only [if_true, rep]
    refine Zfa (by simp; omega) fun j t v ht hv => ?_
    rw [List.getElem?_take] at ht hv
    split at ht
    ·rename_i hj
     rw [if_pos hj] at hv
     have := h j t v ht hv
     simp only [if_true] at this
     rw [Nat.div_eq_of_lt hj, Nat.mod_eq_of_lt hj, Y75] at this
     rw [Y83]
     exact this
    ·cases ht
   | false =>
    have := h1 rfl
    subst this
    cases ts with
    | nil => simp at hl
    | cons t ts =>
     cases vs with
     | nil => simp at hl2
     | cons v vs =>
      have := h 0 t v rfl rfl
      simpa using this
  ·refine Zfm hsz h1 n (k + 1) (ts.drop sz) (vs.drop sz) (by simp; omega) (by simp; omega) fun j t v ht hv => ?_
   rw [Y33] at ht hv
   have := h (sz + j) t v ht hv
   cases agg with
   | true =>
    simp only [if_true] at this ⊢
    have e1 : (sz + j) / sz = j / sz + 1 := by rw [Nat.add_div_left _ hsz]
    have e2 : (sz + j) % sz = j % sz := by rw [Nat.add_mod_left]
    rw [e1, e2] at this
    rw [show k + 1 + j / sz = k + (j / sz + 1) by omega]
    exact this
   | false =>
    have h2 := h1 rfl
    subst h2
    simp only [Y9, if_false] at this ⊢
    rw [show k + 1 + j = k + (1 + j) by omega]
    exact this
def lm (agg : Bool) (sz j : Nat) : List Nat := if agg then [j / sz, j % sz] else [j]
theorem Zj3 (h : Rel X U J' σ a w ow) {J0 n cap sz : Nat} {agg : Bool} {ts : List T} {cells : Array Value} {ix : Nat -> Nat} {ty : TypeId} {vs : List Value} (bF : Air X w ow J0 J' ts vs ix) (hsz : 0 < sz) (h1 : agg = false -> sz = 1)
  (hn : ts.length = n * sz) (dV : n <= cap) (hcs : cap * sz <= cells.size) (hvs : ∀ (j : Nat) v, vs[j]? = some v -> cells[j]? = some v) (d : Nat) :
  aP X σ2 a2 (World.more w (.cells cells ty (0, 0))) (eS ow d w.heap.size (eu ts.length ix (lm agg sz))) d (.own ⟨e, e, e⟩ (.l .y sz (ef agg sz n ts))) (.slice (some ⟨w.heap.size, 0, none⟩) n cap) := by
 refine ⟨⟨_, _, _, rfl, rfl⟩, ?_⟩
 simp only [rep]
 refine ⟨fun _ => by simp, some ⟨w.heap.size, 0, none⟩, cap, by rw [Zeu], by rw [Zeu]; exact dV, (fun k hk => by cases hk), fun _ => ⟨rfl, by simp [eS, Ob.loc, Ob.own, Loc.ow], cells, ty, (0, 0), vs, Zba, fun _ => ⟨.inl (Nat.le_refl _), by simpa using hcs⟩, ?_, ?_⟩⟩
 ·intro j v hj
  rw [Y83]; exact hvs j v hj
 ·refine Zfm hsz h1 n 0 ts vs hn (by rw [bF.len, hn]) fun j t v ht hv => ?_
  have := Z6 h bF (.cells cells ty (0, 0)) d (lm agg sz) ht hv
  have hl : Ob.loc .y (some (aH.sl d, ([] : List Nat))) = some (.sl d, []) := rfl
  rw [hl]
  cases agg with
  | true => simpa [lm, Zdc] using this
  | false => simpa [lm, Zdc] using this
theorem Zw : ∀ (ts ts' : List T) (vs vs' : List Value), T.bN ts vs = true -> T.bN ts' vs' = true -> T.bN (ts ++ ts') (vs ++ vs') = true
 | [], ts', [], vs', _, h => h
 | [], _, _ :: _, _, h, _ => by simp [T.bN] at h
 | _ :: _, _, [], _, h, _ => by simp [T.bN] at h
 | t :: ts, ts', v :: vs, vs', h, h' => by
  simp only [T.bN, Y2, Y24] at h ⊢
  exact ⟨h.1, Zw ts ts' vs vs' h.2 h'⟩
theorem Zz (ts : List T) (vs : List Value) (h : T.bN ts vs = true) : ∀ n, T.bN (List.replicate n ts).flatten (List.replicate n vs).flatten = true
 | 0 => rfl
 | n + 1 => by
  simp only [List.replicate_succ, Y27]
  exact Zw _ _ _ _ h (Zz ts vs h n)
theorem Z5s {α : Type} (z : List α) (hz : 0 < z.length) : ∀ (n i : Nat), (List.replicate n z).flatten[i]? = if i < n * z.length then z[i % z.length]? else none
 | 0, i => by simp
 | n + 1, i => by
  simp only [List.replicate_succ, Y27]
  by_cases hi : i < z.length
  ·rw [Y29 hi, if_pos (by rw [Y82]; omega), Nat.mod_eq_of_lt hi]
  ·rw [Y30 (by omega), Z5s z hz n]
   have : (i - z.length) % z.length = i % z.length := by
    conv => rhs; rw [show i = (i - z.length) + z.length by omega]
    rw [Nat.add_mod_right]
   rw [this]
   by_cases h2 : i - z.length < n * z.length
   ·rw [if_pos h2, if_pos (by rw [Y82]; omega)]
   ·rw [if_neg h2, if_neg (by rw [Y82]; omega)]
theorem Zek {z : Array Value} (hz : 0 < z.size) (n : Nat) : ((Array.range (n * z.size)).map fun i => z[i % z.size]!).toList = (List.replicate n z.toList).flatten := by
 apply Y25
 intro i
 rw [Z5s z.toList (by simpa using hz)]
 simp only [Y1, Y37, Y0, Array.getElem?_toList]
 by_cases hi : i < n * z.size
 ·rw [if_pos hi]
  have : i % z.size < z.size := Nat.mod_lt _ hz
  simp [Array.getElem?_range, hi, this]
 ·rw [if_neg hi]
  simp [hi]
theorem Zev (agg : Bool) (z : List T) : ∀ n, ef agg z.length n (List.replicate n z).flatten = List.replicate n (gG agg z)
 | 0 => rfl
 | n + 1 => by
  simp only [List.replicate_succ, Y27, ef]
  rw [List.take_left', List.drop_left', Zev agg z n]
  ·rfl
  ·rfl
end
end Go.Wr
namespace Go.Wr
def iW (P : Program) (t : TypeId) (sz : Nat) (agg : Bool) (zero : List T) : Bool :=
 match P.underlying t with
 | some (.slice el) => fB P el sz && gR P el zero && decide (0 < sz) && (agg || sz == 1) && zero.length == sz && (match P.info? el with | some i => decide (i.bytes <= 1024) | none => false)
 | _ => false
structure Cl (P : Program) (t : TypeId) (sz : Nat) (agg : Bool) (zero : List T) : Prop where
 out : ∃ el i, P.underlying t = some (.slice el) /\ fB P el sz = true /\ gR P el zero = true /\ 0 < sz /\ (agg = false -> sz = 1) /\ zero.length = sz /\ P.info? el = some i /\ i.bytes <= 1024
theorem Zj2 {P : Program} {t : TypeId} {sz : Nat} {agg : Bool} {zero : List T} (h : iW P t sz agg zero = true) : Cl P t sz agg zero := by
 unfold iW at h
 split at h
 ·rename_i el hu
  simp only [Y2, decide_eq_true_eq, Y14, beq_iff_eq] at h
  obtain ⟨⟨⟨⟨⟨h1, h2⟩, h3⟩, h4⟩, h5⟩, h6⟩ := h
  split at h6
  ·rename_i i hi
   simp only [decide_eq_true_eq] at h6
   exact ⟨el, i, hu, h1, h2, h3, fun ha => by rcases h4 with h4 | h4 <;> simp_all, h5, hi, h6⟩
  ·cases h6
 ·cases h
section
variable {X : Cx} {U : Nat -> Prop} {J J' : Nat} {σ σ' σ2 : St} {a a' a2 : Act} {w w' w2 : World} {ow ow' ow2 : Nat -> Ow} {e : Nat} {o : Oper}
def qL (P : Program) (tab : Nat -> FuncId) (t : TypeId) (sz : Nat) (agg : Bool) (zero : List T) (len : Nat) (parts : List (Nat × Nat × Opd)) (ps : List (Nat × Operand)) : Bool :=
 iW P t sz agg zero && decide (len * sz <= 16777216) && hZ tab (fun i => some (i * sz, sz)) parts ps
theorem Zhh {P : Program} {t : TypeId} {c : Array Value} : (newRow t c).run P w = .ok ⟨w.heap.size, 0, none⟩ (World.more w (.cells c t (0, 0))) := rfl
theorem Z4f (h : Rel X U J σ a w ow) (hd : ca X o) (he : ∀ x, Fam e x -> ¬ U x) {zero : List T} {tk agg : Bool} {sz len : Nat} {parts : List (Nat × Nat × Opd)} {t : TypeId} {ps : Array (Nat × Operand)}
  (hg : qL X.P X.tab t sz agg zero len parts ps.toList = true) (hop : o.op = .buildSlice t len ps) (af : (exec e o.dst (.bsl sz agg zero len tk parts)).run σ = some ((), σ')) : Sound X U a w e o σ' := by
 obtain ⟨cs, σ1, h1, h2⟩ := Zh3 af
 simp only [qL, Y2, decide_eq_true_eq] at hg
 obtain ⟨⟨hs, pp⟩, Cu⟩ := hg
 obtain ⟨el, i, hu, hsz, hz, hY, qM, hzl, hi, hb⟩ := (Zj2 hs).out
 obtain ⟨z, hzr, hzc⟩ := Zhv (w := w) hz
 have hzs : z.cells.size = sz := by
  have := Zy _ _ hzc
  rw [Y0] at this
  omega
 have bA := Zek (z := z.cells) (by omega) len
 rw [hzs] at bA
 have ha := Z34 (X := X) (w := w) (ow := ow) (J := J) (Zz zero z.cells.toList hzc len)
 rw [<- bA] at ha
 have hfl : (List.replicate len zero).flatten.length = len * sz := by simp [hzl]
 obtain ⟨J', ow', ix', jH, h3, h4, h5, h6, h7⟩ := Z5i parts ps.toList (h.mono (fun x hx => hx) (Nat.le_add_right J _)) Cu (by omega) ha h1
 rw [hfl] at h7
 have hlc : jH.size = len * sz := by
  have := h5.len
  rw [Y0] at this
  omega
 refine Zjk h4.rel (av := .own ⟨e, e, e⟩ (.l .y sz (ef agg sz len cs))) (v := .slice (some ⟨w.heap.size, 0, none⟩) len len) (x := .cells jH el (0, 0)) (g := eu cs.length ix' (lm agg sz)) ?_ hd he
  ⟨.inr (Fam.self e), .inr (Fam.self e), .inr (Fam.self e)⟩ (fun c hc => by simp only [AV.rc, Y89] at hc; subst hc; rfl)
  (fun d σ' a' => Zj3 h4.rel h5 hY qM h7 (Nat.le_refl _) (by omega) (fun j v hj => by simpa using hj) d) h2
 simp only [execOp, hop]
 refine Zht ?_
 unfold Instr.buildSlice
 rw [Zhl (Zhs hu)]
 simp only
 rw [Zhl (Zho hsz)]
 have K4 : ¬ (len * sz > 2 ^ 24) := by
  have : (2:Nat) ^ 24 = 16777216 := by decide
  omega
 simp only [if_neg K4]
 by_cases hnz : len * sz = 0
 ·simp only [hnz, if_true]
  rw [Zhl (x := #[]) (w' := w) rfl]
  rw [hnz] at h6
  have e0 : ∀ f : Nat -> Value, (Array.range 0).map f = #[] := fun _ => by simp
  rw [e0] at h6
  simp only [Y1, e0]
  rw [h6]
  simp only
  rw [Zhl Zhh]
  rfl
 simp only [if_neg hnz]
 rw [Zhl hzr, Zhl (x := z.cells) (w' := w) rfl]
 simp only [hzs, Y1]
 rw [h6]
 simp only
 rw [Zhl Zhh]
 rfl
theorem Zlz {n : Int} (h0 : 0 <= n) (h1 : n < 4294967296) : IntKind.i64.wrap n = n := by
 unfold IntKind.wrap
 have : (2 : Int) ^ IntKind.i64.bits = 18446744073709551616 := by decide
 rw [this]
 have h2 : n % 18446744073709551616 = n := Int.emod_eq_of_lt h0 (by omega)
 have h3 : (2 : Int) ^ (IntKind.i64.bits - 1) = 9223372036854775808 := by decide
 simp only [h2, h3, IntKind.signed, Y15, decide_eq_true_eq]
 rw [if_neg (by omega)]
theorem Zh2 {P : Program} (n : Nat) : (askRoom n).run P w = .ok () w := by
 unfold askRoom
 split <;> rfl
theorem Z4u (h : Rel X U J σ a w ow) (hd : ca X o) (he : ∀ x, Fam e x -> ¬ U x) {zero : List T} {agg : Bool} {sz : Nat} {l c : Opd} {l' c' : Operand} {t : TypeId} (hl : l.is X.tab l' = true) (hc : c.is X.tab c' = true)
  (hg : iW X.P t sz agg zero = true) (hop : o.op = .makeSlice t l' c') (af : (exec e o.dst (.mks sz agg zero l c)).run σ = some ((), σ')) : Sound X U a w e o σ' := by
 obtain ⟨n, σ1, h1, h2⟩ := Zh3 af
 obtain ⟨rfl, hn⟩ := Zbv h hl h1
 obtain ⟨m, σ2, h3, h4⟩ := Zh3 h2
 obtain ⟨rfl, hm⟩ := Zbv h hc h3
 split at h4
 ·rename_i eG
  obtain ⟨h0, rfl, pp⟩ := eG
  have Jk : n < 4294967296 := by simpa [aS] using pp
  obtain ⟨el, i, hu, hsz, hz, hY, qM, hzl, hi, hb⟩ := (Zj2 hg).out
  obtain ⟨z, hzr, hzc⟩ := Zhv (w := w) hz
  have hzs : z.cells.size = sz := by
   have := Zy _ _ hzc
   rw [Y0] at this
   omega
  have bA := Zek (z := z.cells) (by omega) n.toNat
  rw [hzs] at bA
  have ha := Z34 (X := X) (w := w) (ow := ow) (J := J) (Zz zero z.cells.toList hzc n.toNat)
  rw [<- bA] at ha
  have hfl : (List.replicate n.toNat zero).flatten.length = n.toNat * sz := by simp [hzl]
  have hrr := Zev agg zero n.toNat
  rw [hzl] at hrr
  rw [<- hrr] at h4
  have h' := h.mono (J' := J + (List.replicate n.toNat zero).flatten.length) (fun x hx => hx) (by omega)
  refine Zjk h' (av := .own ⟨e, e, e⟩ (.l .y sz (ef agg sz n.toNat (List.replicate n.toNat zero).flatten))) (v := .slice (some ⟨w.heap.size, 0, none⟩) n.toNat n.toNat)
   (x := .cells ((Array.range (n.toNat * sz)).map fun i => z.cells[i % sz]!) el (0, 0)) (g := eu _ (fun j => J + j) (lm agg sz)) ?_ hd he
   ⟨.inr (Fam.self e), .inr (Fam.self e), .inr (Fam.self e)⟩ (fun c hc => by simp only [AV.rc, Y89] at hc; subst hc; rfl)
   (fun d σ' a' => Zj3 h' ha hY qM hfl (Nat.le_refl _) (by simp) (fun j v hj => by rw [<- Array.getElem?_toList]; exact hj) d) h4
  simp only [execOp, hop, hn, hm]
  refine Zht ?_
  unfold Instr.makeSlice
  rw [Zhl (Zhs hu)]
  simp only
  rw [Zhl (x := n) (w' := w) rfl, Zhl (x := n) (w' := w) rfl]
  have hti : (typeInfo el).run X.P w = .ok i w := by simp [typeInfo, program, Bind.bind, Sem.bind, Sem.run, hi, Pure.pure]
  rw [Zhl hti]
  simp only [Zlz h0 Jk]
  have hb2 : (i.bytes : Int) * n <= 1024 * 4294967296 := Int.mul_le_mul (by omega) (by omega) h0 (by omega)
  have K5 : (2 : Int) ^ 48 = 281474976710656 := by decide
  have eG : ¬ (((decide (n < 0) || decide ((i.bytes : Int) * n > 2 ^ 48)) || decide (n < 0) || decide (n > n)) = true) := by
   rw [K5]
   simp only [Y14, decide_eq_true_eq]
   omega
  rw [if_neg eG, Zhl (Zh2 _), Zhl (Zho hsz)]
  split
  ·rename_i h0
   rw [Zhl (x := #[]) (w' := w) rfl, Zhl Zhh]
   rw [h0]
   have key : ∀ f : Nat -> Value, Array.map f (Array.range 0) = #[] := fun f => by simp
   simp only [key]
   rfl
  ·rw [Zhl hzr, Zhl (x := z.cells) (w' := w) rfl, hzs, Zhl Zhh]
   rfl
 ·simp [Pg.run] at h4
end
end Go.Wr
namespace Go.Wr
section
variable {tab : Nat -> FuncId} {mv mv' : Nat -> Value} {w w' : World} {ow ow' : Nat -> Ow}
theorem Z5v : ∀ {es : List T} {j : Nat} {t : T}, eE es = true -> es[j]? = some t -> t.flat = true
 | [], j, t, _, h => by simp at h
 | x :: es, j, t, hf, h => by
  simp only [eE, Y2] at hf
  cases j with
  | zero => simp at h; subst h; exact hf.1
  | succ j => exact Z5v hf.2 (by simpa using h)
mutual
theorem Z5r : ∀ (t : T) {c : Loc} (c' : Loc) {vs : List Value}, t.flat = true -> rep tab mv w ow c t vs -> rep tab mv' w' ow' c' t vs
 | .i _ _, _, _, _, _, h => by simpa only [rep] using h
 | .b _, _, _, _, _, h => by simpa only [rep] using h
 | .s _, _, _, _, _, h => by simpa only [rep] using h
 | .u, _, _, _, hf, _ => by simp [T.flat] at hf
 | .a cs, c, c', vs, hf, h => by
  simp only [rep] at h ⊢
  exact Z5x cs c' (by simpa only [T.flat] using hf) h
 | .f _ _, _, _, _, hf, _ => by simp [T.flat] at hf
 | .p _, _, _, _, hf, _ => by simp [T.flat] at hf
 | .l _ _ _, _, _, _, hf, _ => by simp [T.flat] at hf
theorem Z5x : ∀ (cs : List T) {c : Loc} (c' : Loc) {k : Nat} {vs : List Value}, eE cs = true -> aR tab mv w ow c k cs vs -> aR tab mv' w' ow' c' k cs vs
 | [], _, _, _, _, _, h => by simpa only [aR] using h
 | t :: ts, c, c', k, vs, hf, h => by
  simp only [eE, Y2] at hf
  simp only [aR] at h ⊢
  obtain ⟨v, rest, rfl, h1, h2⟩ := h
  exact ⟨v, rest, rfl, Z5r t _ hf.1 h1, Z5x ts c' hf.2 h2⟩
end
theorem Zfd {c : Loc} {sz : Nat} : ∀ {es es2 : List T} {k : Nat} {vs vs2 : List Value}, bg tab mv w ow c sz k es vs -> bg tab mv w ow c sz (k + es.length) es2 vs2 -> bg tab mv w ow c sz k (es ++ es2) (vs ++ vs2)
 | [], es2, k, vs, vs2, h, h2 => by
  simp only [bg] at h
  subst h
  simpa using h2
 | e :: es, es2, k, vs, vs2, h, h2 => by
  simp only [bg, Y24] at h ⊢
  obtain ⟨v1, rest, rfl, hl, h1, h3⟩ := h
  refine ⟨v1, rest ++ vs2, by simp, hl, h1, Zfd h3 ?_⟩
  rw [show k + 1 + es.length = k + (e :: es).length by simp; omega]
  exact h2
theorem Zfj {c c' : Loc} {sz : Nat} : ∀ {es : List T} {k k' : Nat} {vs : List Value}, bg tab mv w ow c sz k es vs ->
  (∀ (j : Nat) t v1, es[j]? = some t -> rep tab mv w ow (c.push (k + j)) t v1 -> rep tab mv' w' ow' (c'.push (k' + j)) t v1) -> bg tab mv' w' ow' c' sz k' es vs
 | [], k, k', vs, h, _ => by simpa only [bg] using h
 | e :: es, k, k', vs, h, hm => by
  simp only [bg] at h ⊢
  obtain ⟨v1, rest, rfl, hl, h1, h2⟩ := h
  refine ⟨v1, rest, rfl, hl, hm 0 e v1 rfl h1, Zfj h2 fun j t v ht hr => ?_⟩
  have := hm (j + 1) t v (by simpa using ht) (by rw [show k + (j + 1) = k + 1 + j by omega]; exact hr)
  rw [show k' + 1 + j = k' + (j + 1) by omega]
  exact this
end
section
variable {X : Cx} {U : Nat -> Prop} {J J' : Nat} {σ σ' σ2 : St} {a a' a2 : Act} {w w' w2 : World} {ow ow' ow2 : Nat -> Ow} {e : Nat} {o : Oper}
theorem Zki (h : Rel X U J σ a w ow) {x : Opd} {x' : Operand} (hx : x.is X.tab x' = true) {t : T} (af : (c6 e x).run σ = some (t, σ')) :
  ∃ ow', Gh X U J (J + 1) σ a w ow σ' ow' /\ rep X.tab X.mv w ow' (some (.ar J, [])) t [a.eval x'] := by
 unfold c6 at af
 obtain ⟨v, σ1, h1, h2⟩ := Zh3 af
 obtain ⟨e1, bm⟩ := Zem h hx h1
 rw [e1] at h2
 cases v <;> try simp only [Pg.run, reduceCtorEq] at h2
 case own k t0 =>
  split at h2
  ·simp [Pg.run] at h2
  ·rename_i KS
   have h3 := run_bind (kill x) (fun _ => (pure t0 : Pg T)) σ
   simp only [Bind.bind] at h3
   rw [h3] at h2
   obtain ⟨⟨y, σ2⟩, h4, h5⟩ := Y84.1 h2
   obtain ⟨rfl, rfl⟩ := Zhk h5
   cases x with
   | k c =>
    have := Z92 h4
    simp only at this
    subst this
    obtain ⟨sz, rfl, hv⟩ := bm
    rw [hv]
    exact ⟨ow, Gh.refl h (by omega), Z35 (.l .y sz []) _ _ (by simp [T.isConst]) (fun e => by cases e) (fun _ => by simp)⟩
   | t s =>
    have := Z92 h4
    simp only at this
    subst this
    obtain ⟨hs1, bz, hσ⟩ := bm
    have htk : (iH e s).run σ = some (.own ⟨e, e, e⟩ t, upd σ s .u) := by
     unfold iH
     rw [run_bind]
     simp only [Pg.rd, Pg.run, Y86, hσ]
     rfl
    obtain ⟨ow', g1, g2, _, _⟩ := Zkm h htk
    rw [bz]
    exact ⟨ow', g1, g2.2.2⟩
 case w r k p z lo n =>
  obtain ⟨c, σ2, h3, h4⟩ := Zh3 h2
  obtain ⟨rfl, hc, hk⟩ := Zgg h3
  cases hn : c.t.nav p with
  | none => simp [hn, Pg.run] at h4
  | some node =>
   simp only [hn] at h4
   cases node <;> try simp only [Pg.run, reduceCtorEq] at h4
   rename_i ob sz es
   cases ob <;> try simp only [Pg.run, reduceCtorEq] at h4
   split at h4
   ·exact Z7i h bm.1 h4
   ·simp [Pg.run] at h4
def eT (ow : Nat -> Ow) (d J J2 n : Nat) : Nat -> Ow := fun b =>
 match ow b with
 | .own (.sl s) q => if s = d then .no else .own (.sl s) q
 | .own (.ar i) q => if i = J then .own (.sl d) q else if i = J2 then (match q with | j :: q => .own (.sl d) ((n + j) :: q) | [] => .no) else .own (.ar i) q
 | o => o
theorem Zm {d J J2 n i b : Nat} {q : List Nat} (hb : eT ow d J J2 n b = .own (.ar i) q) : ow b = .own (.ar i) q := by
 unfold eT at hb
 cases h : ow b with
 | no => simp [h] at hb
 | z => simp [h] at hb
 | own r q' =>
  rw [h] at hb
  cases r with
  | sl s => simp only at hb; split at hb <;> cases hb
  | ar j =>
   simp only at hb
   split at hb
   ·cases hb
   ·split at hb
    ·split at hb <;> cases hb
    ·exact hb
  | rs j => cases hb
theorem Zv {d J1 J2 n : Nat} (h : Rel X U J' σ a w ow) (hz : ∀ b, ow b = .z -> w'.heap[b]? = w.heap[b]?) (hs : ∀ b s q, ow b = .own (.sl s) q -> w'.heap[b]? = w.heap[b]?) (hn : ∀ b, b < w.heap.size -> ow b = .no -> w'.heap[b]? = w.heap[b]?)
  (hg : w.heap.size <= w'.heap.size) (ho : w'.os = w.os) (gP : w'.output = w.output) (b0 : Option Nat) (hb0 : ∀ b, b0 = some b -> w.heap.size <= b /\ b < w'.heap.size) :
  gO X U J' w ow w' (fun b => if b0 = some b then .own (.sl d) [] else eT ow d J1 J2 n b) (some d) := by
 have hne : ∀ b, b < w.heap.size -> b0 ≠ some b := fun b hb e => by have := (hb0 b e).1; omega
 refine ⟨fun b hb => ?_, fun b s q hsd hb => ?_, fun b hb => ?_, fun b i q hb => ?_, hg, fun b hlt hb => ?_, ho, gP⟩
 ·have hlt := h.low b (by rw [hb]; simp)
  exact ⟨by simp only [if_neg (hne b hlt)]; simp [eT, hb], hz b hb⟩
 ·have hlt := h.low b (by rw [hb]; simp)
  simp only [ne_eq, Y89] at hsd
  exact ⟨by simp only [if_neg (hne b hlt), eT, hb, if_neg (Ne.symm hsd)], hs b s q hb⟩
 ·by_cases h1 : b0 = some b
  ·exact (hb0 b h1).2
  ·rw [if_neg h1] at hb
   have := h.low b fun e => hb (by simp [eT, e])
   omega
 ·by_cases h1 : b0 = some b
  ·rw [if_pos h1] at hb; cases hb
  ·rw [if_neg h1] at hb
   exact h.air b i q (Zm hb)
 ·exact ⟨by simp only [if_neg (hne b hlt)]; simp [eT, hb], hn b hlt hb⟩
structure K6 (X : Cx) (w : World) (ow : Nat -> Ow) (J2 sz : Nat) (v : Value) (es : List T) (vs : List Value) : Prop where
 val : ∃ A C, v = .slice A es.length C /\ ((∃ b o, A = some ⟨b, o, none⟩ /\ At w b o vs) \/ (es = [] /\ vs = []))
 rep : bg X.tab X.mv w ow (some (.ar J2, [])) sz 0 es vs
theorem Zkb {tab : Nat -> FuncId} {mv : Nat -> Value} {owx : Nat -> Ow} {c : Loc} {o2 : Ob} {sz : Nat} {es : List T} {v : Value} (h : rep tab mv w owx c (.l o2 sz es) [v]) :
  ∃ A C vs, v = .slice A es.length C /\ ((∃ b o, A = some ⟨b, o, none⟩ /\ At w b o vs) \/ (es = [] /\ vs = [])) /\ bg tab mv w owx (o2.loc c) sz 0 es vs := by
 by_cases hne : es = []
 ·subst hne
  obtain ⟨A, C, hv, _⟩ := Zfu h
  exact ⟨A, C, [], by simpa using hv, .inr ⟨rfl, rfl⟩, by simp [bg]⟩
 ·obtain ⟨ad, cap, hv, _, hsp, _, arr, ty, fr, vs', hh, _, hvs, hes⟩ := Zfv h hne
  obtain ⟨b, of, spot⟩ := ad
  simp only at hsp hh hvs
  subst hsp
  exact ⟨_, cap, vs', by simpa using hv, .inl ⟨b, of, rfl, Z15 hh of vs' hvs⟩, hes⟩
end
end Go.Wr
namespace Go.Wr
section
variable {X : Cx} {U : Nat -> Prop} {J J' : Nat} {σ σ' σ2 : St} {a a' a2 : Act} {w w' w2 : World} {ow ow' ow2 : Nat -> Ow} {e : Nat} {o : Oper}
def appIs (P : Program) (c : Call) (sz : Nat) (agg : Bool) (zero : List T) : Bool :=
 match c.argTypes[0]?, c.argTypes[1]? with
 | some t, some t2 => iW P t sz agg zero && (match P.underlying t2 with | some (.slice _) => true | _ => false)
 | _, _ => false
theorem Zh6 {P : Program} {sz n : Nat} {A : Option Addr} {C : Nat} {vs : List Value} (h : (∃ b o, A = some ⟨b, o, none⟩ /\ At w b o vs) \/ (n = 0 /\ vs = [])) (hl : vs.length = n * sz) :
  (Builtin.firstCells sz n (.slice A n C)).run P w = .ok vs.toArray w := by
 rcases h with ⟨b, of, rfl, ha⟩ | ⟨rfl, rfl⟩
 ·have := Zhb (P := P) (w := w) (n * sz) 0 #[] vs (by simpa using ha) hl
  simp only [Builtin.firstCells, loadCells]
  rw [this]
  simp
 ·cases A with
  | none => rfl
  | some ad =>
   simp only [Builtin.firstCells, loadCells, Nat.zero_mul]
   rfl
theorem Zhw {P : Program} {t : TypeId} {cs : List T} (h : gR P t cs = true) : ∃ z : Value, (∀ w, (zeroValue t).run P w = .ok z w) /\ T.bN cs z.cells.toList = true := by
 unfold gR at h
 split at h
 ·rename_i i hi
  split at h
  ·rename_i z hz
   exact ⟨z, fun w => by simp [zeroValue, typeInfo, program, Bind.bind, Sem.bind, Sem.run, hi, hz, Pure.pure], h⟩
  ·cases h
 ·cases h
theorem Z7p (j1 : Nat) : ∀ (r c : Nat), Builtin.growBy j1 r c <= max c (j1 + (j1 + 768) / 4)
 | 0, c => by simp [Builtin.growBy]; omega
 | r + 1, c => by
  unfold Builtin.growBy
  split
  ·omega
  ·have := Z7p j1 r (c + (c + 768) / 4)
   omega
theorem Zbq (j1 old : Nat) (h : old < j1) : Builtin.nextslicecap j1 old <= 2 * j1 + 1024 := by
 unfold Builtin.nextslicecap
 split
 ·omega
 ·split
  ·omega
  ·have := Z7p j1 4 old
   omega
theorem Zm1 (z : Array Value) (n : Nat) : (Builtin.zeroCells z n).size = n * z.size := by simp [Builtin.zeroCells]
theorem Zt {d sz : Nat} {es es2 : List T} {vs vs2 : List Value} {b0 of cap : Nat} {arr : Array Value} {ty : TypeId} {fr : Nat × Nat} {owN : Nat -> Ow}
  (hes : bg X.tab X.mv w' owN (some (.sl d, [])) sz 0 es vs) (qF : bg X.tab X.mv w' owN (some (.sl d, [])) sz es.length es2 vs2) (hb : owN b0 = .own (.sl d) []) (hh : w'.heap[b0]? = some (.cells arr ty fr)) (hf : dT arr fr)
  (dV : es.length + es2.length <= cap) (hsz : of + cap * sz <= arr.size) (hv : ∀ (j : Nat) v, (vs ++ vs2)[j]? = some v -> arr[of + j]? = some v) :
  aP X σ' a' w' owN d (.own ⟨e, e, e⟩ (.l .y sz (es ++ es2))) (.slice (some ⟨b0, of, none⟩) (es.length + es2.length) cap) := by
 refine ⟨⟨_, _, _, rfl, rfl⟩, ?_⟩
 simp only [rep]
 exact ⟨fun _ => by simp, some ⟨b0, of, none⟩, cap, by simp, by simpa using dV, (fun k hk => by cases hk), fun _ => ⟨rfl, by simpa [Ob.loc, Ob.own, Loc.ow] using hb, arr, ty, fr, vs ++ vs2, hh, fun _ => ⟨hf, hsz⟩, hv, Zfd hes (by rw [Y83]; exact qF)⟩⟩
theorem Zn (h : Rel X U J' σ a w ow) (he : ∀ x, Fam e x -> ¬ U x) {sz : Nat} {agg : Bool} {zero : List T} {c : Call} {x' y' : Operand} {d : Nat} (bW : o.dst = some d) (hd : ca X o) (hg : appIs X.P c sz agg zero = true) (hop : o.op = .call c)
  (qN : c.callee = .builtin .append) (eH : c.args = #[x', y']) {J1 J2 : Nat} (hJ : J1 < J2) {es es2 : List T} {vs2 : List Value} (hx : rep X.tab X.mv w ow (some (.ar J1, [])) (.l .y sz es) [a.eval x']) (hy : K6 X w ow J2 sz (a.eval y') es2 vs2)
  (pp : es.length + es2.length < 4294967296) (af : (setS d (.own ⟨e, e, e⟩ (.l .y sz (es ++ es2)))).run σ = some ((), σ')) : Sound X U a w e o σ' := by
 rw [Zhn] at af
 simp only [Y89, Y90, true_and] at af
 subst af
 have hSt : dF σ d (.own ⟨e, e, e⟩ (.l .y sz (es ++ es2))) = iw σ o.dst (.own ⟨e, e, e⟩ (.l .y sz (es ++ es2))) := by rw [bW]; rfl
 rw [hSt]
 have nH : (AV.own ⟨e, e, e⟩ (.l .y sz (es ++ es2))).stamps (fun x => U x \/ Fam e x) := ⟨.inr (Fam.self e), .inr (Fam.self e), .inr (Fam.self e)⟩
 have hrc : ∀ c, (AV.own ⟨e, e, e⟩ (.l .y sz (es ++ es2))).rc = some c -> c.k.e = e := fun c hc => by simp only [AV.rc, Y89] at hc; subst hc; rfl
 obtain ⟨A2, C2, hv2, hA2⟩ := hy.val
 unfold appIs at hg
 cases ht0 : c.argTypes[0]? with
 | none => simp [ht0] at hg
 | some t =>
  cases ht1 : c.argTypes[1]? with
  | none => simp [ht0, ht1] at hg
  | some t2 =>
   simp only [ht0, ht1, Y2] at hg
   obtain ⟨el, i, hu, hsz, hz, hY, qM, hzl, hi, hb⟩ := (Zj2 hg.1).out
   obtain ⟨el2, hu2⟩ : ∃ el2, X.P.underlying t2 = some (.slice el2) := by
    have := hg.2
    split at this
    ·rename_i el2 hu2; exact ⟨el2, hu2⟩
    ·cases this
   obtain ⟨z, hzr, hzc⟩ := Zhw hz
   have hx' := hx
   simp only [rep] at hx'
   obtain ⟨_, A, cap, hvx, dV, _, cM⟩ := hx'
   have Cv : a.eval x' = .slice A es.length cap := by simpa using hvx
   have qO : vs2.length = es2.length * sz := Zfi hy.rep
   have gQ : ∀ (v : Value) (w'' : World), (Builtin.append_ c.argTypes o.type #[.slice A es.length cap, .slice A2 es2.length C2]).run X.P w = .ok v w'' -> (execOp a.eval o).run X.P w = .ok (.value v) w'' := fun v w'' hh => by
    rw [Zh4 hop qN, eH]
    show (do pure (.value (<- Builtin.append_ c.argTypes o.type (#[x', y'].map a.eval))) : Sem Next).run X.P w = _
    refine Zht ?_
    have : #[x', y'].map a.eval = #[.slice A es.length cap, .slice A2 es2.length C2] := by simp [Cv, hv2]
    rw [this]
    exact hh
   have hti : ∀ w : World, (typeInfo el).run X.P w = .ok i w := fun w => by simp [typeInfo, program, Bind.bind, Sem.bind, Sem.run, hi, Pure.pure]
   have Aw : ∀ w1 : World, w1.heap = w.heap -> (Builtin.firstCells sz es2.length (.slice A2 es2.length C2)).run X.P w1 = .ok vs2.toArray w1 := fun w1 hw1 => by
    refine Zh6 ?_ qO
    rcases hA2 with ⟨b, of, h1, h2⟩ | ⟨h1, h2⟩
    ·exact .inl ⟨b, of, h1, fun j v hj => by have := h2 j v hj; simp only [World.cell?, hw1] at this ⊢; exact this⟩
    ·exact .inr ⟨by simp [h1], h2⟩
   have pq : (#[Value.slice A es.length cap, .slice A2 es2.length C2] : Array Value)[0]? = some (.slice A es.length cap) := by simp
   have pr : (#[Value.slice A es.length cap, .slice A2 es2.length C2] : Array Value)[1]? = some (.slice A2 es2.length C2) := by simp
   have hlo : Ob.loc .y (some (aH.ar J1, ([] : List Nat))) = some (.ar J1, []) := rfl
   have hld : Ob.loc .y (some (aH.sl d, ([] : List Nat))) = some (.sl d, []) := rfl
   by_cases qP : es.length + es2.length <= cap
   ·-- in place
    cases hA : A with
    | none =>
     subst hA
     simp only at cM
     subst cM
     have he1 : es = [] := Y44.1 (by omega)
     have he2 : es2 = [] := Y44.1 (by omega)
     subst he1 he2
     have kK : vs2 = [] := Y44.1 (by simpa using qO)
     subst kK
     refine Zjl h (gQ (.slice none 0 0) w ?_) (by rw [bW]; exact Zv (J1 := J1) (J2 := J2) (n := 0) h (fun _ _ => rfl) (fun _ _ _ _ => rfl) (fun _ _ _ => rfl) (Nat.le_refl _) rfl rfl none (fun b hb => by cases hb)) hd nH hrc he
      (fun d' hd' σ' a' hr => ⟨⟨_, _, _, rfl, rfl⟩, Z35 (.l .y sz []) _ _ (by simp [T.isConst]) (fun e => by cases e) (fun _ => by simp)⟩)
     unfold Builtin.append_
     rw [ht0, ht1, pq, pr]
     simp only
     rw [Zhl (Zhs hu)]
     simp only
     rw [Zhl (Zho hsz)]
     rw [Zhl (Zhs hu2), Zhl (x := false) (w' := w) rfl]
     simp only [Y9, if_false]
     rw [Zhl (x := ([] : List T).length) (w' := w) rfl]
     simp only [Y12, if_true]
     rw [if_pos (by simp), Zhl (Aw w rfl)]
     rfl
    | some ad =>
     subst hA
     obtain ⟨hsp, hbk, arr, ty, fr, vs, hh, hfr, hvs, hes⟩ := cM (.inl rfl)
     rw [hlo] at hbk hes
     simp only [Loc.ow] at hbk
     obtain ⟨hf, BQ⟩ := hfr rfl
     obtain ⟨b, of, spot⟩ := ad
     simp only at hsp hbk hh hvs BQ
     subst hsp
     have hvl := Zfi hes
     have hone : vs2.all dK = true := Zfe hy.rep
     have hmul : (es.length + es2.length) * sz <= cap * sz := Y80 _ qP
     rw [Nat.add_mul] at hmul
     obtain ⟨cW, w', hrs, hh', qI, dp, iG, hhs, hos, gP⟩ := Zhr (P := X.P) (b := b) (o := of + es.length * sz) (ty := ty) (fr := fr) vs2 0 w arr hh hf (by omega) hone
     have lP : ∀ b', ow b' ≠ .own (.ar J1) [] -> b' ≠ b := fun b' hb' e => hb' (e ▸ hbk)
     have ht := Zv (d := d) (J1 := J1) (J2 := J2) (n := es.length) (w' := w') h (fun b' hb' => iG b' (lP b' (by rw [hb']; simp))) (fun b' s q hb' => iG b' (lP b' (by rw [hb']; simp))) (fun b' _ hb' => iG b' (lP b' (by rw [hb']; simp)))
      (by rw [hhs]; exact Nat.le_refl _) hos gP none (fun b hb => by cases hb)
     simp only [reduceCtorEq, if_false] at ht
     refine Zjl h (gQ (.slice (some ⟨b, of, none⟩) (es.length + es2.length) cap) w' ?_) (by rw [bW]; exact ht) hd nH hrc he (fun d' hd' σ' a' hr => ?_)
     ·unfold Builtin.append_
      rw [ht0, ht1, pq, pr]
      simp only
      rw [Zhl (Zhs hu)]
      simp only
      rw [Zhl (Zho hsz)]
      rw [Zhl (Zhs hu2), Zhl (x := false) (w' := w) rfl]
      simp only [Y9, if_false]
      rw [Zhl (x := es2.length) (w' := w) rfl]
      simp only [Y12, if_true, if_pos qP]
      rw [Zhl (Aw w rfl)]
      simp only [Z3]
      rw [Zhl (by simpa using hrs)]
      rfl
     ·rw [bW] at hd'
      cases hd'
      have Jl : eT ow d J1 J2 es.length b = .own (.sl d) [] := by simp [eT, hbk]
      refine Zt (vs := vs) (vs2 := vs2) (Zfj hes fun j t v1 hj hr1 => ?_) (Zfj hy.rep fun j t v1 hj hr1 => ?_) Jl hh' (by unfold dT at *; rw [qI]; exact hf) qP (by rw [qI]; exact BQ) (fun j v hj => ?_)
      ·refine Zg1 ht.z t (c := some (.ar J1, [] ++ [0 + j])) (c' := some (.sl d, [] ++ [0 + j])) (fun b' q hb' => ?_) hr1
       refine ⟨?_, iG b' (lP b' (by rw [hb']; simp))⟩
       simp only [eT, hb', if_true]
      ·refine Zg1 ht.z t (c := some (.ar J2, [] ++ [0 + j])) (c' := some (.sl d, [] ++ [es.length + j])) (fun b' q hb' => ?_) hr1
       refine ⟨?_, iG b' (lP b' (by rw [hb']; simp))⟩
       simp only [eT, hb', if_neg (Nat.ne_of_gt hJ), if_true]
       simp
      ·rw [dp]
       by_cases hj2 : j < vs.length
       ·rw [Y29 hj2] at hj
        rw [if_neg (by omega)]
        exact hvs j v hj
       ·rw [Y30 (by omega)] at hj
        have hj3 := (Y36.1 hj).1
        rw [if_pos (by omega)]
        rw [<- hj]; congr 1; omega
   ·-- in a new block
    obtain ⟨vs, hold, hvl, hes⟩ : ∃ vs : List Value, ((∃ b o, A = some ⟨b, o, none⟩ /\ At w b o vs) \/ (es.length = 0 /\ vs = [])) /\ vs.length = es.length * sz /\ bg X.tab X.mv w ow (some (.ar J1, [])) sz 0 es vs := by
     obtain ⟨A', C', vs, h1, h2, h3⟩ := Zkb hx
     rw [hlo] at h3
     rw [Cv] at h1
     simp only [Value.slice.injEq, true_and] at h1
     obtain ⟨rfl, rfl⟩ := h1
     exact ⟨vs, h2.imp id (fun y => ⟨by rw [y.1]; rfl, y.2⟩), Zfi h3, h3⟩
    have hzs : z.cells.size = sz := by
     have := Zy _ _ hzc
     rw [Y0] at this
     omega
    generalize hw1 : ({ w with drawn := w.drawn + 1 } : World) = w1
    have qQ : w1.heap = w.heap := by rw [<- hw1]
    obtain ⟨iA, hnc, hch⟩ : ∃ iA, es.length + es2.length <= iA /\ (choose (.appendCap (es.length + es2.length) cap el)).run X.P w = .ok iA w1 := by
     refine ⟨(Question.appendCap (es.length + es2.length) cap el).cut (w.tape w.drawn (.appendCap (es.length + es2.length) cap el)), ?_, ?_⟩
     ·simp only [Question.cut]; omega
     ·rw [<- hw1]
      simp [choose, Sem.run, Question.forced]
    generalize bA : (vs.toArray ++ vs2.toArray ++ Builtin.zeroCells z.cells (iA - (es.length + es2.length)) : Array Value) = cells
    have K7 : cells.size = iA * sz := by
     rw [<- bA]
     simp only [Array.size_append, List.size_toArray, Zm1, hzs, hvl, qO]
     rw [<- Nat.add_mul, <- Nat.add_mul]
     have : es.length + es2.length + (iA - (es.length + es2.length)) = iA := by omega
     rw [this]
    have fK : (World.more w1 (.cells cells el (0, 0))).heap = w.heap.push (.cells cells el (0, 0)) := by
     show w1.heap.push _ = _
     rw [qQ]
    have mc : ∀ b, b < w.heap.size -> (World.more w1 (.cells cells el (0, 0))).heap[b]? = w.heap[b]? := fun b hb => by
     rw [fK, Array.getElem?_push, if_neg (Y81 hb)]
    have dX : ∀ b, ow b ≠ .no -> b < w.heap.size := h.low
    have ht := Zv (d := d) (J1 := J1) (J2 := J2) (n := es.length) (w' := World.more w1 (.cells cells el (0, 0))) h (fun b' hb' => mc b' (dX b' (by rw [hb']; simp))) (fun b' s q hb' => mc b' (dX b' (by rw [hb']; simp)))
     (fun b' hlt hb' => mc b' hlt) (by rw [fK]; simp) (by show w1.os = _; rw [<- hw1]) (by show w1.output = _; rw [<- hw1]) (some w.heap.size) (fun b hb => by cases hb; rw [fK]; simp)
    have K8 : (Builtin.append_ c.argTypes o.type #[.slice A es.length cap, .slice A2 es2.length C2]).run X.P w = .ok (.slice (some ⟨w.heap.size, 0, none⟩) (es.length + es2.length) iA) (World.more w1 (.cells cells el (0, 0))) := by
     unfold Builtin.append_
     rw [ht0, ht1, pq, pr]
     simp only
     rw [Zhl (Zhs hu)]
     simp only
     rw [Zhl (Zho hsz)]
     rw [Zhl (Zhs hu2), Zhl (x := false) (w' := w) rfl]
     simp only [Y9, if_false]
     rw [Zhl (x := es2.length) (w' := w) rfl]
     simp only [Y12, if_true, if_neg qP]
     rw [Zhl (hti w)]
     have K9 : IntKind.i64.max = 9223372036854775807 := by decide
     rw [if_neg (by rw [K9]; omega)]
     rw [Zhl (hti w)]
     have hnx := Zbq (es.length + es2.length) cap (by omega)
     have Mf : Builtin.nextslicecap (es.length + es2.length) cap * i.bytes <= (2 * 4294967296 + 1024) * 1024 := Nat.mul_le_mul (by omega) hb
     have hp : (2 : Nat) ^ 48 = 281474976710656 := by decide
     rw [if_neg (by rw [hp]; omega)]
     rw [Zhl hch, Zhl (hti w1), Zhl (Zh2 _)]
     have hfo : (Builtin.firstCells sz es.length (.slice A es.length cap)).run X.P w1 = .ok vs.toArray w1 := by
      refine Zh6 ?_ hvl
      rcases hold with ⟨b, of, h1, h2⟩ | ⟨h1, h2⟩
      ·exact .inl ⟨b, of, h1, fun j v hj => by have := h2 j v hj; simp only [World.cell?, qQ] at this ⊢; exact this⟩
      ·exact .inr ⟨h1, h2⟩
     rw [Zhl hfo, Zhl (Aw w1 qQ)]
     rw [Zhl (hzr w1), bA, Zhl Zhh]
     rw [qQ]
     rfl
    refine Zjl h (gQ _ _ K8) (by rw [bW]; exact ht) hd nH hrc he (fun d' hd' σ' a' hr => ?_)
    rw [bW] at hd'
    cases hd'
    have hown : ∀ b q, ow b = q -> q ≠ .no -> (some w.heap.size ≠ some b) := fun b q hb hq e => by
     cases e
     have := dX w.heap.size (by rw [hb]; exact hq)
     omega
    refine Zt (vs := vs) (vs2 := vs2) (arr := cells) (ty := el) (fr := (0, 0)) (Zfj hes fun j t v1 hj hr1 => ?_) (Zfj hy.rep fun j t v1 hj hr1 => ?_) (by simp) (by rw [fK]; simp) (.inl (Nat.le_refl _)) hnc (by rw [K7]; omega) (fun j v hj => ?_)
    ·refine Zg1 ht.z t (c := some (.ar J1, [] ++ [0 + j])) (c' := some (.sl d, [] ++ [0 + j])) (fun b' q hb' => ?_) hr1
     refine ⟨?_, mc b' (dX b' (by rw [hb']; simp))⟩
     show (if some w.heap.size = some b' then Ow.own (aH.sl d) [] else eT ow d J1 J2 es.length b') = _
     rw [if_neg (hown b' _ hb' (by simp))]
     simp only [eT, hb', if_true]
    ·refine Zg1 ht.z t (c := some (.ar J2, [] ++ [0 + j])) (c' := some (.sl d, [] ++ [es.length + j])) (fun b' q hb' => ?_) hr1
     refine ⟨?_, mc b' (dX b' (by rw [hb']; simp))⟩
     show (if some w.heap.size = some b' then Ow.own (aH.sl d) [] else eT ow d J1 J2 es.length b') = _
     rw [if_neg (hown b' _ hb' (by simp))]
     simp only [eT, hb', if_neg (Nat.ne_of_gt hJ), if_true]
     simp
    ·rw [Y83, <- bA]
     rw [Array.append_assoc, <- Array.getElem?_toList, Array.toList_append, Array.toList_append, <- Y21]
     rw [Y29 (by simpa using (Y36.1 hj).1)]
     exact hj
end
end Go.Wr
namespace Go.Wr
section
variable {X : Cx} {U : Nat -> Prop} {J J' : Nat} {σ σ' σ2 : St} {a a' a2 : Act} {w w' w2 : World} {ow ow' ow2 : Nat -> Ow} {e : Nat} {o : Oper}
theorem Z48 (h : Rel X U J σ a w ow) (hd : ca X o) (he : ∀ x, Fam e x -> ¬ U x) {sz : Nat} {agg : Bool} {zero : List T} {tk : Bool} {x y : Opd} {x' y' : Operand} {c : Call} (hx : x.is X.tab x' = true) (hy : y.is X.tab y' = true)
  (hg : appIs X.P c sz agg zero = true) (hop : o.op = .call c) (qN : c.callee = .builtin .append) (eH : c.args = #[x', y']) (af : (exec e o.dst (.app sz agg zero tk x y)).run σ = some ((), σ')) : Sound X U a w e o σ' := by
 simp only [exec] at af
 cases bW : o.dst with
 | none => simp [bW, Pg.run] at af
 | some d =>
  simp only [bW, append] at af
  obtain ⟨t1, σ1, h1, h2⟩ := Zh3 af
  obtain ⟨ow1, hg1, hr1⟩ := Zki h hx h1
  cases t1 <;> try simp only [Pg.run, reduceCtorEq] at h2
  rename_i ob sz1 es
  cases ob <;> try simp only [Pg.run, reduceCtorEq] at h2
  obtain ⟨v, σ2, h3, h4⟩ := Zh3 h2
  obtain ⟨e1, bm⟩ := Zem hg1.rel hy h3
  rw [e1] at h4
  clear h2 h3 e1 σ2
  obtain ⟨t2, σ3, h5, h6⟩ := Zh3 h4
  obtain ⟨e2, me⟩ := Z9u hg1.rel bm h5
  rw [e2] at h6
  clear h4 e2
  cases t2 <;> try simp only [Pg.run, reduceCtorEq] at h6
  rename_i o2 sz2 es2
  split at h6
  ·rename_i hc
   obtain ⟨rfl, rfl, pp⟩ := hc
   split at h6
   ·-- flat
    rename_i Jm
    have hl := me (hX ow1) X.mv (Zg _)
    have bG : rep X.tab X.mv w (hX ow1) none (.l o2 sz2 es2) [a.eval y'] := by
     cases v <;> simp only at hl <;> first | exact hl | skip
     obtain ⟨ts, σ4, h7, h8⟩ := Zh3 h5
     obtain ⟨e3, _⟩ := Zhk h8
     cases e3
    obtain ⟨A, C, vs, hv, hA, hes⟩ := Zkb bG
    refine Zn (J' := J + 2) (J1 := J) (J2 := J + 1) (hg1.rel.mono (fun x hx => hx) (by omega)) he bW hd hg hop qN eH (by omega) hr1 ⟨⟨A, C, hv, hA⟩, ?_⟩ (by simpa [aS] using pp) h6
    exact Zfj hes fun j t v1 ht hr => Z5r t _ (Z5v Jm ht) hr
   ·obtain ⟨cs, σ4, h7, h8⟩ := Zh3 h6
    obtain ⟨J2, ow2, ix, hJ, hg2, bF⟩ := Z7l hg1.rel hy h7
    cases cs with
    | nil => simp [Pg.run] at h8
    | cons c1 cs =>
     cases c1 <;> try simp only [Pg.run, reduceCtorEq] at h8
     rename_i o3 sz3 es3
     cases cs with
     | cons _ _ => simp [Pg.run] at h8
     | nil =>
      simp only at h8
      split at h8
      ·rename_i hc
       obtain ⟨rfl, Jn⟩ := hc
       have bA : (a.eval y').cells.toList.length = 1 := bF.len
       have hix := bF.bnd 0 (by simp)
       have bz : (a.eval y').cells.toList = [a.eval y'] \/ ∃ vs : Array Value, a.eval y' = .agg vs := by
        cases a.eval y' <;> simp [Value.cells]
       have hone : rep X.tab X.mv w ow2 (some (.ar (ix 0), [])) (.l o3 sz3 es3) [a.eval y'] := by
        rcases bz with bz | ⟨vs, bz⟩
        ·exact bF.rep 0 _ _ rfl (by rw [bz]; rfl)
        ·have hl := me (hX ow1) X.mv (Zg _)
         exfalso
         cases v <;> simp only at hl
         case st cs' =>
          obtain ⟨ts, σ4, h7, h8⟩ := Zh3 h5
          obtain ⟨e3, _⟩ := Zhk h8
          cases e3
         all_goals
          rw [bz] at hl
          have := Zfo _ hl
          simp [dK] at this
       obtain ⟨A, C, vs, hv, hA, hes⟩ := Zkb hone
       have La : rep X.tab X.mv w ow2 (some (.ar J, [])) (.l .y sz3 es) [a.eval x'] :=
        Zg1 hg2.z _ (c := some (.ar J, [])) (fun b q hb => ⟨hg2.air b J _ (by omega) hb, rfl⟩) hr1
       refine Zn (J' := J2) (J1 := J) (J2 := ix 0) hg2.rel he bW hd hg hop qN eH (by omega) La ⟨⟨A, C, hv, hA⟩, ?_⟩ (by simpa [aS] using Jn) h8
       refine Zfj hes fun j t v1 ht hr => ?_
       unfold Ob.loc at hr
       split at hr
       ·exact hr
       ·exact Zg1 (fun b hb => ⟨hb, rfl⟩) t (c := none) trivial hr
      ·simp [Pg.run] at h8
  ·simp [Pg.run] at h6
end
end Go.Wr
namespace Go.Wr
def mv0 : Nat -> Value := fun _ => undef
def fL (tab : Nat -> FuncId) (w : World) (ow : Nat -> Ow) (i : Nat) : Arg -> Value -> Prop
 | .x t, v => rep tab mv0 w ow none t [v]
 | .bx cs, v => ∃ b arr ty fr, v = .pointer (some ⟨b, 0, none⟩) /\ ow b = .own (.ar i) [] /\ w.heap[b]? = some (.cells arr ty fr) /\ dT arr fr /\ aR tab mv0 w ow (some (.ar i, [])) 0 cs arr.toList
 | .own t, v => rep tab mv0 w ow (some (.ar i, [])) t [v]
 | .st cs, v => ∃ vs : Array Value, v = .agg vs /\ aR tab mv0 w ow none 0 cs vs.toList
 | .mu t, v => (∃ sz es, t = .l .y sz es) /\ rep tab mv0 w ow (some (.ar i, [])) t [v]
 | .ms cs, v => ∃ vs : Array Value, v = .agg vs /\ aR tab mv0 w ow (some (.ar i, [])) 0 cs vs.toList
def j3 (tab : Nat -> FuncId) (w : World) (ow : Nat -> Ow) (j : Nat) : RV -> Value -> Prop
 | .one t, v => rep tab mv0 w ow (some (.rs j, [])) t [v]
 | .st cs, v => ∃ vs : Array Value, v = .agg vs /\ aR tab mv0 w ow (some (.rs j, [])) 0 cs vs.toList
def n9 (tab : Nat -> FuncId) (w : World) (ow : Nat -> Ow) (rs : List RV) (v : Value) : Prop :=
 match rs with
 | [r] => j3 tab w ow 0 r v
 | rs => ∃ vs : Array Value, v = .tuple vs /\ vs.size = rs.length /\ ∀ j r u, rs[j]? = some r -> vs[j]? = some u -> j3 tab w ow j r u
def cR (tab : Nat -> FuncId) (w : World) (ow : Nat -> Ow) : Nat -> List Arg -> List Value -> List (List T) -> Prop
 | i, .bx _ :: as, v :: vs, cs :: bs => fL tab w ow i (.bx cs) v /\ cR tab w ow (i + 1) as vs bs
 | i, .mu _ :: as, v :: vs, cs :: bs => (∃ t, cs = [t] /\ fL tab w ow i (.mu t) v) /\ cR tab w ow (i + 1) as vs bs
 | i, .ms _ :: as, v :: vs, cs :: bs => fL tab w ow i (.ms cs) v /\ cR tab w ow (i + 1) as vs bs
 | i, .x _ :: as, _ :: vs, bs => cR tab w ow (i + 1) as vs bs
 | i, .own _ :: as, _ :: vs, bs => cR tab w ow (i + 1) as vs bs
 | i, .st _ :: as, _ :: vs, bs => cR tab w ow (i + 1) as vs bs
 | _, [], [], [] => True
 | _, _, _, _ => False
structure gS (tab : Nat -> FuncId) (as : List Arg) (vs : List Value) (out : Out) (w : World) (ow : Nat -> Ow) (w' : World) (ow' : Nat -> Ow) (v : Value) : Prop where
 z : Zs w ow w' ow'
 no : ∀ b, b < w.heap.size -> ow b = .no -> ow' b = .no /\ w'.heap[b]? = w.heap[b]?
 low : ∀ b, ow' b ≠ .no -> b < w'.heap.size
 grown : w.heap.size <= w'.heap.size
 os : w'.os = w.os
 output : w'.output = w.output
 res : n9 tab w' ow' out.res v
 back : cR tab w' ow' 0 as vs out.back
 rs : ∀ b j q, ow' b = .own (.rs j) q -> j < out.res.length
def dB (P : Program) (tab : Nat -> FuncId) (g : Nat) (F : Fun) : Prop :=
 ∀ (as : List Arg) (vs : List Value) (w : World) (ow : Nat -> Ow) (out : Out), F as = some out -> vs.length = as.length ->
  (∀ (i : Nat) x v, as[i]? = some x -> vs[i]? = some v -> fL tab w ow i x v) -> (∀ b, ow b ≠ .no -> b < w.heap.size) ->
  (∀ b r q, ow b = .own r q -> ∃ i, r = .ar i /\ i < as.length) ->
  Calls P (tab g) vs.toArray w fun e w' => match e with
   | .returned v => ∃ ow', gS tab as vs out w ow w' ow' v
   | .panicked _ => False
   | .outgrown => False
section
variable {tab : Nat -> FuncId} {mv : Nat -> Value} {w w' : World} {ow ow' : Nat -> Ow}
mutual
theorem Zfp : ∀ (t : T) {r r' : aH} {p p' : List Nat} {vs : List Value}, t.closed = true -> Tr w ow w' ow' (some (r, p)) (some (r', p')) -> rep tab mv w ow (some (r, p)) t vs -> rep tab mv w' ow' (some (r', p')) t vs
 | .i _ _, _, _, _, _, _, _, _, h => by simpa only [rep] using h
 | .b _, _, _, _, _, _, _, _, h => by simpa only [rep] using h
 | .s _, _, _, _, _, _, _, _, h => by simpa only [rep] using h
 | .u, _, _, _, _, _, _, _, h => by simpa only [rep] using h
 | .a cs, r, r', p, p', vs, hc, ht, h => by
  simp only [rep] at h ⊢
  exact Zf4 cs (by simpa only [T.closed] using hc) ht h
 | .f g [], r, r', p, p', vs, hc, ht, h => by
  simp only [rep, aR] at h ⊢
  exact h
 | .f _ (_ :: _), _, _, _, _, _, hc, _, _ => by simp [T.closed] at hc
 | .p _, _, _, _, _, _, hc, _, _ => by simp [T.closed] at hc
 | .l (.m _) _ _, _, _, _, _, _, hc, _, _ => by simp [T.closed] at hc
 | .l .n sz (_ :: _), _, _, _, _, _, hc, _, _ => by simp [T.closed] at hc
 | .l .n sz [], r, r', p, p', vs, hc, ht, h => by
  simp only [rep] at h ⊢
  obtain ⟨_, A, cap, rfl, h1, h2, h3⟩ := h
  refine ⟨fun x => by simp [Ob.own] at x, A, cap, rfl, h1, (fun k hk => by cases hk), ?_⟩
  cases A with
  | none => exact h3
  | some ad => intro hor; rcases hor with x | x <;> simp [Ob.own] at x
 | .l .y sz es, r, r', p, p', vs, hc, ht, h => by
  simp only [rep] at h ⊢
  obtain ⟨_, A, cap, rfl, h1, h2, h3⟩ := h
  refine ⟨fun _ => by simp, A, cap, rfl, h1, (fun k hk => by cases hk), ?_⟩
  cases A with
  | none => exact h3
  | some ad =>
   intro _
   obtain ⟨hs, hb, arr, ty, fr, vs', hh, hfr, hvs, hes⟩ := h3 (.inl rfl)
   have hl : ∀ c : aH × List Nat, Ob.loc .y (some c) = some c := fun _ => rfl
   rw [hl] at hb hes ⊢
   obtain ⟨h4, h5⟩ := ht ad.block [] (by simpa [Loc.ow] using hb)
   exact ⟨hs, by simpa [Loc.ow] using h4, arr, ty, fr, vs', h5 ▸ hh, hfr, hvs, Zff es (by simpa only [T.closed] using hc) ht hes⟩
theorem Zf4 : ∀ (cs : List T) {r r' : aH} {p p' : List Nat} {k : Nat} {vs : List Value}, ba cs = true -> Tr w ow w' ow' (some (r, p)) (some (r', p')) -> aR tab mv w ow (some (r, p)) k cs vs -> aR tab mv w' ow' (some (r', p')) k cs vs
 | [], _, _, _, _, _, _, _, _, h => by simpa only [aR] using h
 | t :: ts, r, r', p, p', k, vs, hc, ht, h => by
  simp only [ba, Y2] at hc
  simp only [aR] at h ⊢
  obtain ⟨v, rest, rfl, h1, h2⟩ := h
  exact ⟨v, rest, rfl, Zfp t hc.1 (ht.push k) h1, Zf4 ts hc.2 ht h2⟩
theorem Zff : ∀ (es : List T) {r r' : aH} {p p' : List Nat} {sz k : Nat} {vs : List Value}, ba es = true -> Tr w ow w' ow' (some (r, p)) (some (r', p')) -> bg tab mv w ow (some (r, p)) sz k es vs -> bg tab mv w' ow' (some (r', p')) sz k es vs
 | [], _, _, _, _, _, _, _, _, _, h => by simpa only [bg] using h
 | t :: ts, r, r', p, p', sz, k, vs, hc, ht, h => by
  simp only [ba, Y2] at hc
  simp only [bg] at h ⊢
  obtain ⟨v, rest, rfl, hl, h1, h2⟩ := h
  exact ⟨v, rest, rfl, hl, Zfp t hc.1 (ht.push k) h1, Zff ts hc.2 ht h2⟩
end
theorem Zfq (t : T) {r r' : aH} {p p' : List Nat} {vs : List Value} (h : Zs w ow w' ow' \/ t.closed = true) (ht : Tr w ow w' ow' (some (r, p)) (some (r', p'))) (hr : rep tab mv w ow (some (r, p)) t vs) :
  rep tab mv w' ow' (some (r', p')) t vs := by
 rcases h with h | h
 ·exact Zg1 h t ht hr
 ·exact Zfp t h ht hr
theorem Zf5 (cs : List T) {r r' : aH} {p p' : List Nat} {k : Nat} {vs : List Value} (h : Zs w ow w' ow' \/ ba cs = true) (ht : Tr w ow w' ow' (some (r, p)) (some (r', p'))) (hr : aR tab mv w ow (some (r, p)) k cs vs) :
  aR tab mv w' ow' (some (r', p')) k cs vs := by
 rcases h with h | h
 ·exact Zfb h cs ht hr
 ·exact Zf4 cs h ht hr
end
end Go.Wr
namespace Go.Wr
section
variable {X : Cx} {U : Nat -> Prop} {J J' : Nat} {σ σ' σ2 : St} {a a' a2 : Act} {w w' w2 : World} {ow ow' ow2 : Nat -> Ow} {e : Nat} {o : Oper}
def gT (X : Cx) (U : Nat -> Prop) (σ : St) (a : Act) (w : World) (ow : Nat -> Ow) (jn : Nat) (h : Hand) (v : Value) : Prop :=
 match h.arg with
 | .x t => h.box = none /\ ∀ ow2, ja ow h.bor ow2 -> rep X.tab X.mv w ow2 none t [v]
 | .st cs => h.box = none /\ ∀ ow2, ja ow h.bor ow2 -> ∃ vs : Array Value, v = .agg vs /\ aR X.tab X.mv w ow2 none 0 cs vs.toList
 | .bx cs => ∃ r k, h.box = some r /\ r < 1000 /\ σ r = .box k cs /\ aK a r = v
 | .own t => h.box = none /\ rep X.tab X.mv w ow (some (.ar jn, [])) t [v]
 | .mu t => ∃ r k, h.box = some r /\ r < 1000 /\ σ r = .own k t /\ aK a r = v /\ ∃ sz es, t = .l .y sz es
 | _ => False
def gj (hs : List Hand) (s : Nat) : Option Nat := hs.findIdx? fun h => h.box == some s
def cp (ow : Nat -> Ow) (hs : List Hand) (jn : Nat -> Nat) : Nat -> Ow := fun b =>
 match ow b with
 | .z => .z
 | .no => .no
 | .own (.rs _) _ => .no
 | .own (.sl s) q => match gj hs s with
  | some i => .own (.ar i) q
  | none => if hs.any (fun h => h.bor.contains s) then .z else .no
 | .own (.ar j) q => match (List.range hs.length).find? (fun i => jn i == j) with
  | some i => .own (.ar i) q
  | none => .no
def conv (hs : List Hand) (base : Nat) : Ow -> Ow
 | .z => .z
 | .no => .no
 | .own (.rs j) q => .own (.ar (base + j)) q
 | .own (.ar i) q => match (hs[i]?).bind Hand.box with
  | some r => .own (.sl r) q
  | none => .no
 | .own (.sl _) _ => .no
def de (ow : Nat -> Ow) (hs : List Hand) (base : Nat) (ow' : Nat -> Ow) : Nat -> Ow := fun b =>
 match ow b with
 | .own (.sl s) q => match gj hs s with
  | some _ => conv hs base (ow' b)
  | none => .own (.sl s) q
 | _ => conv hs base (ow' b)
theorem Z1o {hs : List Hand} {s i : Nat} (h : gj hs s = some i) : ∃ x, hs[i]? = some x /\ x.box = some s := by
 unfold gj at h
 obtain ⟨hlt, h1, _⟩ := List.findIdx?_eq_some_iff_getElem.1 h
 exact ⟨hs[i], Y34 hlt, by simpa using h1⟩
theorem Zk {hs : List Hand} (h : apart hs = true) {x y : Hand} {r : Nat} (hx : x ∈ hs) (hy : y ∈ hs) (hb : x.box = some r) : r ∉ y.bor := by
 unfold apart at h
 simp only [Y2] at h
 have h2 := Y18.1 h.2 r (List.mem_filterMap.2 ⟨x, hx, hb⟩)
 simp only [Y11] at h2
 intro hr
 have := List.any_eq_false.1 h2 y hy
 simp at this
 exact this hr
theorem Z2b {hs : List Hand} {jn : Nat -> Nat} (ha : apart hs = true) {x : Hand} (hx : x ∈ hs) : ja ow x.bor (cp ow hs jn) := by
 refine ⟨fun b hb => by simp [cp, hb], fun r hr b q hb => ?_⟩
 have h1 : gj hs r = none := by
  cases hi : gj hs r with
  | none => rfl
  | some i =>
   obtain ⟨y, hy, hyb⟩ := Z1o hi
   exact absurd hr (Zk ha (Y62 hy) hx hyb)
 have h2 : hs.any (fun h => h.bor.contains r) = true := Y20.2 ⟨x, hx, by simpa using hr⟩
 simp only [cp, hb, h1, h2, if_true]
theorem Z2a {hs : List Hand} {jn : Nat -> Nat} {as : List Arg} {vs : List Value} {out : Out} {v : Value} (h : Rel X U J σ a w ow) (hA : gS X.tab as vs out w (cp ow hs jn) w' ow' v) {s b : Nat} {q : List Nat}
  (hs1 : gj hs s = none) (hb : ow b = .own (.sl s) q) : w'.heap[b]? = w.heap[b]? /\ (ow' b = .z \/ ow' b = .no) := by
 have hlt := h.low b (by rw [hb]; simp)
 by_cases hl : hs.any (fun h => h.bor.contains s) = true
 ·have : cp ow hs jn b = .z := by simp only [cp, hb, hs1, hl, if_true]
  obtain ⟨h1, h2⟩ := hA.z b this
  exact ⟨h2, .inl h1⟩
 ·have : cp ow hs jn b = .no := by simp only [cp, hb, hs1, hl]; simp
  obtain ⟨h1, h2⟩ := hA.no b hlt this
  exact ⟨h2, .inr h1⟩
theorem Z1b {hs : List Hand} {base b : Nat} (h : ∀ s q, ow b = .own (.sl s) q -> gj hs s ≠ none) : de ow hs base ow' b = conv hs base (ow' b) := by
 unfold de
 split
 ·rename_i s q hb
  split
  ·rfl
  ·rename_i hi; exact absurd hi (h s q hb)
 ·rfl
theorem Z1a {hs : List Hand} {jn : Nat -> Nat} {as : List Arg} {vs : List Value} {out : Out} {v : Value} (h : Rel X U J σ a w ow) (hA : gS X.tab as vs out w (cp ow hs jn) w' ow' v) {b : Nat} {r : aH} {q : List Nat}
  (hb : ow' b = .own r q) : de ow hs J ow' b = conv hs J (.own r q) := by
 rw [Z1b, hb]
 intro s q' hs1 hn
 rcases (Z2a h hA hn hs1).2 with h1 | h1 <;> rw [hb] at h1 <;> cases h1
theorem Z1e {hs : List Hand} {jn : Nat -> Nat} {as : List Arg} {vs : List Value} {out : Out} {v : Value} (h : Rel X U J σ a w ow) (hA : gS X.tab as vs out w (cp ow hs jn) w' ow' v) (hno : (hs.all fun h => h.bor.isEmpty) = true) :
  Zs w' ow' w' (de ow hs J ow') := fun b hb => by
 refine ⟨?_, rfl⟩
 rw [Z1b, hb]
 ·rfl
 ·intro s q hs1 hn
  have hlt := h.low b (by rw [hs1]; simp)
  have hl : hs.any (fun h => h.bor.contains s) = false := by
   rw [List.any_eq_false]
   intro x hx
   have := Y18.1 hno x hx
   simp only [List.isEmpty_iff] at this
   simp [this]
  have : cp ow hs jn b = .no := by simp only [cp, hs1, hn, hl]; simp
  have := (hA.no b hlt this).1
  rw [hb] at this; cases this
theorem Z1d {hs : List Hand} {jn : Nat -> Nat} {as : List Arg} {vs : List Value} {out : Out} {v : Value} (h : Rel X U J σ a w ow) (hA : gS X.tab as vs out w (cp ow hs jn) w' ow' v) : Zs w ow w' (de ow hs J ow') := fun b hb => by
 have : cp ow hs jn b = .z := by simp [cp, hb]
 obtain ⟨h1, h2⟩ := hA.z b this
 refine ⟨?_, h2⟩
 rw [Z1b (fun s q hs1 => by rw [hb] at hs1; cases hs1), h1]
 rfl
theorem Z1c {hs : List Hand} {jn : Nat -> Nat} {as : List Arg} {vs : List Value} {out : Out} {v : Value} (h : Rel X U J σ a w ow) (hA : gS X.tab as vs out w (cp ow hs jn) w' ow' v) (b : Nat) (hlt : b < w.heap.size) (hb : ow b = .no) :
  de ow hs J ow' b = .no /\ w'.heap[b]? = w.heap[b]? := by
 have : cp ow hs jn b = .no := by simp [cp, hb]
 obtain ⟨h1, h2⟩ := hA.no b hlt this
 refine ⟨?_, h2⟩
 rw [Z1b (fun s q hs1 => by rw [hb] at hs1; cases hs1), h1]
 rfl
end
end Go.Wr
namespace Go.Wr
section
variable {X : Cx} {U : Nat -> Prop} {J J' : Nat} {σ σ' σ2 : St} {a a' a2 : Act} {w w' w2 : World} {ow ow' ow2 : Nat -> Ow} {e : Nat} {o : Oper}
def oa (σ : St) (x : Hand) (s : Nat) : Prop := ((∃ cs, x.arg = .bx cs) /\ ∃ k cs, σ s = .box k cs) \/ ((∃ t, x.arg = .mu t) /\ ∃ k t, σ s = .own k t)
def j4 (tab : Nat -> FuncId) (w : World) (ow : Nat -> Ow) (σ σ' : St) (e i s : Nat) (cs : List T) (v : Value) : Prop :=
 (∃ k cs0, σ s = .box k cs0 /\ σ' s = .box ⟨k.e, e, e⟩ cs /\ fL tab w ow i (.bx cs) v) \/
 (∃ k t0 sz es, σ s = .own k t0 /\ cs = [.l .y sz es] /\ σ' s = .own ⟨e, e, e⟩ (.l .y sz es) /\ rep tab mv0 w ow (some (.ar i, [])) (.l .y sz es) [v])
theorem Zkt {tab : Nat -> FuncId} {w : World} {ow : Nat -> Ow} : ∀ (hs : List Hand) (bs : List (List T)) (vs : List Value) {i : Nat} {σ σ' : St}, ((hs.filterMap Hand.box).Nodup) -> (∀ x ∈ hs, x.box = none -> (∀ cs, x.arg ≠ .bx cs) /\ (∀ t, x.arg ≠ .mu t) /\ ∀ t, x.arg ≠ .ms t) ->
  (∀ x ∈ hs, ∀ s, x.box = some s -> oa σ x s) -> cR tab w ow i (hs.map Hand.arg) vs bs ->
  (dy e hs bs).run σ = some ((), σ') ->
  (∀ s, (∀ x ∈ hs, x.box ≠ some s) -> σ' s = σ s) /\
  (∀ (j : Nat) x s v, hs[j]? = some x -> x.box = some s -> vs[j]? = some v -> ∃ cs, cs ∈ bs /\ j4 tab w ow σ σ' e (i + j) s cs v)
 | [], bs, vs, i, σ, σ', hnd, hbx, hle, hb, af => by
  cases bs with
  | nil =>
   obtain ⟨_, rfl⟩ := Zhk af
   exact ⟨fun _ _ => rfl, fun j x s v hj => by simp at hj⟩
  | cons _ _ => simp [dy, Pg.run] at af
 | h :: hs, bs, [], i, σ, σ', hnd, hbx, hle, hb, af => by
  simp only [Y50] at hb
  cases hh : h.arg <;> rw [hh] at hb <;> simp only [cR] at hb <;> cases bs <;> simp [cR] at hb
 | h :: hs, bs, v0 :: vs, i, σ, σ', hnd, hbx, hle, hb, af => by
  simp only [Y50] at hb
  have hhx := hbx h Y57
  have Cw : ∀ x ∈ hs, x.box = none -> (∀ cs, x.arg ≠ .bx cs) /\ (∀ t, x.arg ≠ .mu t) /\ ∀ t, x.arg ≠ .ms t := fun x hx => hbx x (Y56 _ hx)
  cases fY : h.box with
  | none =>
   obtain ⟨Lb, Lc, Ld⟩ := hhx fY
   have hb' : cR tab w ow (i + 1) (hs.map Hand.arg) vs bs := by
    cases hh : h.arg <;> rw [hh] at hb
    case bx cs => exact absurd hh (Lb cs)
    case mu t => exact absurd hh (Lc t)
    case ms t => exact absurd hh (Ld t)
    all_goals first | exact hb | (cases bs <;> exact hb.elim)
   simp only [dy, fY] at af
   have qR : (hs.filterMap Hand.box).Nodup := by simpa [List.filterMap_cons, fY] using hnd
   obtain ⟨h1, h2⟩ := Zkt hs bs vs qR Cw (fun x hx => hle x (Y56 _ hx)) hb' af
   refine ⟨fun s hs' => h1 s fun x hx => hs' x (Y56 _ hx), fun j x s v hj hx hv => ?_⟩
   cases j with
   | zero => simp at hj; subst hj; rw [fY] at hx; cases hx
   | succ j =>
    obtain ⟨cs, h3, h4⟩ := h2 j x s v (by simpa using hj) hx (by simpa using hv)
    exact ⟨cs, h3, by rw [show i + (j + 1) = i + 1 + j by omega]; exact h4⟩
  | some r =>
   have Cy : r ∉ hs.filterMap Hand.box /\ (hs.filterMap Hand.box).Nodup := by
    simpa [List.filterMap_cons, fY] using hnd
   have hr : ∀ x ∈ hs, x.box ≠ some r := fun x hx hxr => Cy.1 (List.mem_filterMap.2 ⟨x, hx, hxr⟩)
   have Le : ∀ av, ∀ x ∈ hs, ∀ s, x.box = some s -> oa (upd σ r av) x s := fun av x hx s hs' => by
    have hne : s ≠ r := fun e => hr x hx (e ▸ hs')
    have := hle x (Y56 _ hx) s hs'
    simpa [oa, upd, hne] using this
   have rest : ∀ {av : AV} {cs : List T} {bs : List (List T)}, cR tab w ow (i + 1) (hs.map Hand.arg) vs bs -> (dy e hs bs).run (upd σ r av) = some ((), σ') -> (∀ σ2, σ2 r = av -> j4 tab w ow σ σ2 e i r cs v0) ->
     (∀ s, (∀ x ∈ h :: hs, x.box ≠ some s) -> σ' s = σ s) /\ (∀ (j : Nat) x s v, (h :: hs)[j]? = some x -> x.box = some s -> (v0 :: vs)[j]? = some v -> ∃ cs', cs' ∈ cs :: bs /\ j4 tab w ow σ σ' e (i + j) s cs' v) := fun {av cs bs} hb' iK hcb => by
    obtain ⟨h5, h6⟩ := Zkt hs bs vs Cy.2 Cw (Le av) hb' iK
    refine ⟨fun s hs' => ?_, fun j x s v hj hx hv => ?_⟩
    ·rw [h5 s fun x hx => hs' x (Y56 _ hx)]
     have : s ≠ r := fun e => hs' h Y57 (e ▸ fY)
     simp [upd, this]
    ·cases j with
     | zero =>
      simp at hj hv
      subst hj hv
      rw [fY] at hx
      cases hx
      exact ⟨cs, by simp, hcb σ' (by rw [h5 r hr]; simp [upd])⟩
     | succ j =>
      obtain ⟨cs3, h7, h8⟩ := h6 j x s v (by simpa using hj) hx (by simpa using hv)
      have hne : s ≠ r := fun e => hr x (Y62 (by simpa using hj)) (e ▸ hx)
      exact ⟨cs3, by simp [h7], by
       rw [show i + (j + 1) = i + 1 + j by omega]
       simpa [j4, upd, hne] using h8⟩
   rcases hle h Y57 r fY with ⟨⟨csa, hca⟩, k, cs0, hσ⟩ | ⟨⟨ta, hta⟩, k, t0, hσ⟩
   ·rw [hca] at hb
    cases bs with
    | nil => exact hb.elim
    | cons cs bs =>
     simp only [cR] at hb
     obtain ⟨hb0, hb'⟩ := hb
     simp only [dy, fY] at af
     obtain ⟨av, σ1, h1, h2⟩ := Zh3 af
     obtain ⟨rfl, rfl⟩ := Zhj h1
     rw [hσ] at h2
     obtain ⟨_, σ3, h3, h4⟩ := Zh3 h2
     have := Zhu h3
     subst this
     exact rest hb' h4 fun σ2 h2 => .inl ⟨k, cs0, hσ, h2, hb0⟩
   ·rw [hta] at hb
    cases bs with
    | nil => exact hb.elim
    | cons cs bs =>
     simp only [cR] at hb
     obtain ⟨⟨t, rfl, ⟨sz, es, rfl⟩, hb0⟩, hb'⟩ := hb
     simp only [dy, fY] at af
     obtain ⟨av, σ1, h1, h2⟩ := Zh3 af
     obtain ⟨rfl, rfl⟩ := Zhj h1
     rw [hσ] at h2
     obtain ⟨_, σ3, h3, h4⟩ := Zh3 h2
     have := Zhu h3
     subst this
     exact rest hb' h4 fun σ2 h2 => .inr ⟨k, t0, sz, es, hσ, rfl, h2, hb0⟩
theorem Z2d (h : Rel X U J σ a w ow) (hmv : X.mv = mv0) (he : ∀ x, Fam e x -> ¬ U x) {hs : List Hand} {jn : Nat -> Nat} {vs : List Value} {out : Out} {v : Value} (hap : apart hs = true) (hvl : vs.length = hs.length)
  (hh : ∀ (i : Nat) x u, hs[i]? = some x -> vs[i]? = some u -> gT X U σ a w ow (jn i) x u) (hA : gS X.tab (hs.map Hand.arg) vs out w (cp ow hs jn) w' ow' v)
  (hcl : (hs.all fun h => h.bor.isEmpty) = true \/ (out.res.all RV.closed = true /\ out.back.all ba = true)) (af : (dy e hs out.back).run σ = some ((), σ')) :
  Rel X (fun x => U x \/ x = e) (J + out.res.length) σ' a w' (de ow hs J ow') /\ (∀ r, aQ U σ a w σ' a w' r) /\ (∀ s, σ' s = .u -> σ s = .u) /\ (∀ s n, σ s = .tup n -> σ' s = .tup n) := by
 have BR : ∀ x ∈ hs, (x.box = none -> (∀ cs, x.arg ≠ .bx cs) /\ (∀ t, x.arg ≠ .mu t) /\ ∀ t, x.arg ≠ .ms t) /\ ∀ s, x.box = some s -> oa σ x s := fun x hx => by
  obtain ⟨i, hi⟩ := Y59.1 hx
  have hil := (Y36.1 hi).1
  have := hh i x vs[i] hi (Y34 (by omega))
  unfold gT at this
  cases ha : x.arg <;> rw [ha] at this <;> simp only at this
  case bx cs =>
   obtain ⟨r, k, h1, _, h2, _⟩ := this
   refine ⟨fun h0 => (by rw [h1] at h0; cases h0), fun s hs' => ?_⟩
   rw [h1] at hs'; cases hs'
   exact .inl ⟨⟨cs, ha⟩, k, cs, h2⟩
  case mu t =>
   obtain ⟨r, k, h1, _, h2, _⟩ := this
   refine ⟨fun h0 => (by rw [h1] at h0; cases h0), fun s hs' => ?_⟩
   rw [h1] at hs'; cases hs'
   exact .inr ⟨⟨t, ha⟩, k, t, h2⟩
  all_goals exact ⟨fun _ => ⟨fun _ => (by simp [ha]), fun _ => (by simp [ha]), fun _ => (by simp [ha])⟩, fun s hs' => (by rw [this.1] at hs'; cases hs')⟩
 have hnd : (hs.filterMap Hand.box).Nodup := by
  unfold apart at hap
  simp only [Y2, decide_eq_true_eq] at hap
  exact hap.1
 obtain ⟨t1, t2⟩ := Zkt (tab := X.tab) (w := w') (ow := ow') hs out.back vs (i := 0) hnd (fun x hx => (BR x hx).1) (fun x hx => (BR x hx).2) hA.back af
 have hzs := Z1d h hA
 have hix : ∀ s, (∀ x ∈ hs, x.box ≠ some s) -> gj hs s = none := fun s hs' => by
  cases hi : gj hs s with
  | none => rfl
  | some i =>
   obtain ⟨y, hy, hyb⟩ := Z1o hi
   exact absurd hyb (hs' y (Y62 hy))
 have dn : ∀ s, (∀ x ∈ hs, x.box ≠ some s) -> ∀ b q, ow b = .own (.sl s) q -> de ow hs J ow' b = .own (.sl s) q /\ w'.heap[b]? = w.heap[b]? := fun s hs' b q hb => by
  refine ⟨?_, (Z2a h hA (hix s hs') hb).1⟩
  simp only [de, hb, hix s hs']
 have qS : ∀ (j : Nat) x s, hs[j]? = some x -> x.box = some s -> ∀ b q, ow' b = .own (.ar j) q -> de ow hs J ow' b = .own (.sl s) q := fun j x s hj hxs b q hb => by
  rw [Z1a h hA hb]
  simp only [conv, hj, Y86, hxs]
 have jd : ∀ s, (∃ x ∈ hs, x.box = some s) -> s < 1000 /\ ((∃ k cs0 cs, σ s = .box k cs0 /\ σ' s = .box ⟨k.e, e, e⟩ cs /\ BK X w' (de ow hs J ow') s cs (aK a s)) \/
   (∃ k t0 sz es, σ s = .own k t0 /\ σ' s = .own ⟨e, e, e⟩ (.l .y sz es) /\ rep X.tab X.mv w' (de ow hs J ow') (some (.sl s, [])) (.l .y sz es) [aK a s])) := fun s ⟨x, hx, hxs⟩ => by
  obtain ⟨j, hj⟩ := Y59.1 hx
  have hjl := (Y36.1 hj).1
  have hvj : vs[j]? = some vs[j] := Y34 (by omega)
  obtain ⟨cs, h1, hcb⟩ := t2 j x s vs[j] hj hxs hvj
  have h5 := hh j x vs[j] hj hvj
  have Cz : Zs w' ow' w' (de ow hs J ow') \/ ba cs = true := by
   rcases hcl with hcl | hcl
   ·exact .inl (Z1e h hA hcl)
   ·exact .inr (Y18.1 hcl.2 cs h1)
  have hva : s < 1000 /\ aK a s = vs[j] := by
   unfold gT at h5
   cases ha : x.arg <;> rw [ha] at h5 <;> simp only at h5
   case bx csx =>
    obtain ⟨r, k2, h6, h7, h8, h9⟩ := h5
    rw [hxs] at h6
    cases h6
    exact ⟨h7, h9⟩
   case mu csx =>
    obtain ⟨r, k2, h6, h7, h8, h9, _⟩ := h5
    rw [hxs] at h6
    cases h6
    exact ⟨h7, h9⟩
   all_goals rw [h5.1] at hxs; cases hxs
  refine ⟨hva.1, ?_⟩
  rw [hva.2]
  rw [Y83] at hcb
  rcases hcb with ⟨k, cs0, h2, h3, h4⟩ | ⟨k, t0, sz, es, h2, rfl, h3, h4⟩
  ·refine .inl ⟨k, cs0, cs, h2, h3, ?_⟩
   simp only [fL] at h4
   obtain ⟨b, arr, ty, fr, e1, e2, e3, e4, e5⟩ := h4
   refine ⟨b, arr, ty, fr, e1, qS j x s hj hxs b [] e2, e3, e4, ?_⟩
   rw [hmv]
   exact Zf5 cs (p := []) (p' := []) Cz (fun b q hb => ⟨qS j x s hj hxs b _ hb, rfl⟩) e5
  ·refine .inr ⟨k, t0, sz, es, h2, h3, ?_⟩
   rw [hmv]
   exact Zfq _ (p := []) (p' := []) (Cz.imp (fun h => h) fun h => by simpa [ba] using h) (fun b q hb => ⟨qS j x s hj hxs b _ hb, rfl⟩) h4
 have cc : ∀ r, aQ U σ a w σ' a w' r := fun r => by
  by_cases hr : ∃ x ∈ hs, x.box = some r
  ·obtain ⟨h3, ⟨k, cs0, cs, h1, h2, b, arr, ty, fr, h4, _⟩ | ⟨k, t0, sz, es, h1, h2, _⟩⟩ := jd r hr
   rotate_left
   ·exact aQ.fresh fun c hc => by
     rw [h2] at hc
     simp only [AV.rc, Y89] at hc
     subst hc
     exact he e (Fam.self e)
   have no1 : ∀ (k2 : K), U k2.h -> ∀ n, 1 <= n -> K.ok ⟨k.e, e, e⟩ k2 n = true -> False := fun k2 hU n hn hk => by
    obtain ⟨n, rfl⟩ : ∃ m, n = m + 1 := ⟨n - 1, by omega⟩
    cases n with
    | zero =>
     simp only [K.ok, Y2, beq_iff_eq] at hk
     exact he e (Fam.self e) (hk.2 ▸ hU)
    | succ n =>
     simp only [K.ok, Y2, beq_iff_eq] at hk
     exact he e (Fam.self e) (hk.1.2 ▸ hU)
   constructor
   ·intro k2 p bo c' u1 u2 u3 hc hk hp
    rw [h2] at hc
    simp only [AV.rc, Y89] at hc
    subst hc
    cases p with
    | nil =>
     refine ⟨⟨true, k, .a cs0⟩, by rw [h1]; rfl, hk, ?_⟩
     rw [h4] at hp ⊢
     simpa [place, bp] using hp
    | cons i p =>
     exfalso
     refine no1 k2 u2 _ ?_ hk
     rcases p with _ | ⟨j, _ | ⟨l, p⟩⟩ <;> simp [fh]
   ·intro k2 p o' sz es' A N C c' u1 u2 u3 hc hk
    rw [h2] at hc
    simp only [AV.rc, Y89] at hc
    subst hc
    exfalso
    refine no1 k2 u2 _ ?_ hk
    rcases p with _ | ⟨j, _ | ⟨l, p⟩⟩ <;> simp [dl]
   ·intro k2 p cs' c' u1 u2 u3 hc hk
    rw [h2] at hc
    simp only [AV.rc, Y89] at hc
    subst hc
    exfalso
    refine no1 k2 u2 _ ?_ hk
    rcases p with _ | ⟨j, _ | ⟨l, p⟩⟩ <;> simp [dl]
  ·have hr' : ∀ x ∈ hs, x.box ≠ some r := fun x hx hxr => hr ⟨x, hx, hxr⟩
   exact Zer (h.slot r) (t1 r hr') rfl hzs (fun b q hb => (dn r hr' b q hb).2)
 have hsl : ∀ s, (∃ x ∈ hs, x.box = some s) \/ (∀ x ∈ hs, x.box ≠ some s) := fun s => by
  by_cases hr : ∃ x ∈ hs, x.box = some s
  ·exact .inl hr
  ·exact .inr fun x hx hxr => hr ⟨x, hx, hxr⟩
 refine ⟨⟨h.size, h.small, h.defers, fun s => ?_, fun s => ?_, fun b hb => ?_, fun b i q hb => ?_, Y77 h.grown hA.grown, fun b hb hr => ?_, hA.os.trans h.os, hA.output.trans h.output, h.bu, fun s hs1 hu => ?_⟩, cc, fun s hu => ?_, fun s n hn => ?_⟩
 ·rcases hsl s with hr | hr
  ·obtain ⟨h3, ⟨k, cs0, cs, h1, h2, h4⟩ | ⟨k, t0, sz, es, h1, h2, h4⟩⟩ := jd s hr
   ·rw [h2]; exact h4
   ·rw [h2]; exact ⟨⟨_, _, _, rfl, rfl⟩, h4⟩
  ·rw [t1 s hr]
   exact Zj6 (h.slot s) (h.bZ s) hzs cc (fun b q hb => dn s hr b q hb)
 ·rcases hsl s with hr | hr
  ·obtain ⟨h3, ⟨k, cs0, cs, h1, h2, h4⟩ | ⟨k, t0, sz, es, h1, h2, h4⟩⟩ := jd s hr
   ·have := h.bZ s
    rw [h1] at this
    rw [h2]
    exact ⟨.inl this.1, .inr rfl, .inr rfl⟩
   ·rw [h2]
    exact ⟨.inr rfl, .inr rfl, .inr rfl⟩
  ·rw [t1 s hr]
   exact AV.dR (fun x hx => .inl hx) (h.bZ s)
 ·by_cases hb2 : ow' b = .no
  ·-- then the block was there
   have : ow b ≠ .no := fun e => by
    by_cases hlt : b < w.heap.size
    ·exact hb (Z1c h hA b hlt e).1
    ·rw [Z1b (fun s q hs1 => by rw [e] at hs1; cases hs1), hb2] at hb
     exact hb rfl
   exact Y78 (h.low b this) hA.grown
  ·exact hA.low b hb2
 ·have : ∃ o1, de ow hs J ow' b = conv hs J o1 /\ o1 = ow' b \/ ∃ s q, de ow hs J ow' b = .own (.sl s) q := by
   unfold de
   split
   ·split
    ·exact ⟨_, .inl ⟨rfl, rfl⟩⟩
    ·exact ⟨.no, .inr ⟨_, _, rfl⟩⟩
   ·exact ⟨_, .inl ⟨rfl, rfl⟩⟩
  obtain ⟨o1, ⟨h1, h2⟩ | ⟨s, q', h1⟩⟩ := this
  ·rw [h1] at hb
   cases ho : o1 with
   | z => rw [ho] at hb; cases hb
   | no => rw [ho] at hb; cases hb
   | own r q2 =>
    rw [ho] at hb
    cases r with
    | sl s => cases hb
    | ar i2 =>
     simp only [conv] at hb
     split at hb <;> cases hb
    | rs j =>
     simp only [conv, Ow.own.injEq, aH.ar.injEq] at hb
     have := hA.rs b j q2 (by rw [<- h2, ho])
     omega
  ·rw [h1] at hb; cases hb
 ·exact Zi3 hzs (fun b hlt hb2 => Z1c h hA b hlt hb2) (Y78 hb h.grown) (h.same b hb hr) hr
 ·rcases hsl s with hr | hr
  ·have := (jd s hr).1
   omega
  ·rw [t1 s hr] at hu
   obtain ⟨n, h1, h2⟩ := h.gI s hs1 hu
   refine ⟨n, ?_, h2⟩
   rcases hsl (s % 1000) with hr2 | hr2
   ·obtain ⟨h5, ⟨k, cs0, cs, h3, h4, h6⟩ | ⟨k, t0, sz, es, h3, h4, h6⟩⟩ := jd _ hr2 <;> rw [h1] at h3 <;> cases h3
   ·rw [t1 _ hr2]; exact h1
 ·rcases hsl s with hr | hr
  ·obtain ⟨h3, ⟨k, cs0, cs, h1, h2, h4⟩ | ⟨k, t0, sz, es, h1, h2, h4⟩⟩ := jd s hr <;> rw [h2] at hu <;> cases hu
  ·rw [<- t1 s hr]; exact hu
 ·rcases hsl s with hr | hr
  ·obtain ⟨h3, ⟨k, cs0, cs, h1, h2, h4⟩ | ⟨k, t0, sz, es, h1, h2, h4⟩⟩ := jd s hr <;> rw [h1] at hn <;> cases hn
  ·rw [t1 s hr]; exact hn
end
end Go.Wr
namespace Go.Wr
def da (tab : Nat -> FuncId) : List (Pass × Opd) -> List Operand -> Bool
 | [], [] => true
 | (_, x) :: xs, y :: ys => x.is tab y && da tab xs ys
 | _, _ => false
section
variable {X : Cx} {U : Nat -> Prop} {J J' : Nat} {σ σ' σ2 : St} {a a' a2 : Act} {w w' w2 : World} {ow ow' ow2 : Nat -> Ow} {e : Nat} {o : Oper}
theorem Z7q : ∀ (args : List (Pass × Opd)) (ys : List Operand) {J : Nat} {σ σ' : St} {ow : Nat -> Ow} {ts : List (Option T)}, Rel X U J σ a w ow -> da X.tab args ys = true -> (gH e args).run σ = some (ts, σ') ->
  ∃ ow', Gh X U J (J + args.length) σ a w ow σ' ow' /\ ts.length = args.length /\ ys.length = args.length /\ ∀ (i : Nat) t y, ts[i]? = some (some t) -> ys[i]? = some y -> rep X.tab X.mv w ow' (some (.ar (J + i), [])) t [a.eval y]
 | [], [], J, σ, σ', ow, ts, h, hp, af => by
  obtain ⟨rfl, rfl⟩ := Zhk af
  exact ⟨ow, Gh.refl h (by simp), rfl, rfl, fun i t y ht => by simp at ht⟩
 | [], _ :: _, J, σ, σ', ow, ts, h, hp, af => by simp [da] at hp
 | _ :: _, [], J, σ, σ', ow, ts, h, hp, af => by simp [da] at hp
 | (m, x) :: args, y :: ys, J, σ, σ', ow, ts, h, hp, af => by
  simp only [da, Y2] at hp
  simp only [gH] at af
  by_cases hm : m = .C
  ·subst hm
   simp only at af
   obtain ⟨t, σ1, h1, h2⟩ := Zh3 af
   obtain ⟨ow1, hg1, hr1⟩ := Zki h hp.1 h1
   obtain ⟨ts', σ2, h3, h4⟩ := Zh3 h2
   obtain ⟨rfl, rfl⟩ := Zhk h4
   obtain ⟨ow2, hg2, hl, hl2, hr2⟩ := Z7q args ys hg1.rel hp.2 h3
   have hjj : J + 1 + args.length = J + (args.length + 1) := by omega
   refine ⟨ow2, by simp only [Y42]; rw [<- hjj]; exact hg1.trans hg2 (by omega), by simp [hl], by simp [hl2], fun i t' y' ht hy => ?_⟩
   cases i with
   | zero =>
    simp at ht hy
    subst ht hy
    exact Zg1 hg2.z _ (c := some (.ar J, [])) (fun b q hb => ⟨hg2.air b J _ (by omega) hb, rfl⟩) hr1
   | succ i =>
    have := hr2 i t' y' (by simpa using ht) (by simpa using hy)
    rw [show J + (i + 1) = J + 1 + i by omega]
    exact this
  ·have iK : (do let ts <- gH e args; pure (none :: ts) : Pg (List (Option T))).run σ = some (ts, σ') := by
    cases m <;> first | exact absurd rfl hm | exact af
   obtain ⟨ts', σ2, h3, h4⟩ := Zh3 iK
   obtain ⟨rfl, rfl⟩ := Zhk h4
   obtain ⟨ow2, hg2, hl, hl2, hr2⟩ := Z7q args ys (h.mono (J' := J + 1) (fun x hx => hx) (by omega)) hp.2 h3
   have hjj : J + 1 + args.length = J + (args.length + 1) := by omega
   have hg0 : Gh X U J (J + 1) σ a w ow σ ow := Gh.refl h (by omega)
   refine ⟨ow2, by simp only [Y42]; rw [<- hjj]; exact hg0.trans hg2 (by omega), by simp [hl], by simp [hl2], fun i t' y' ht hy => ?_⟩
   cases i with
   | zero => simp at ht
   | succ i =>
    have := hr2 i t' y' (by simpa using ht) (by simpa using hy)
    rw [show J + (i + 1) = J + 1 + i by omega]
    exact this
theorem Z7r (h : Rel X U J' σ a w ow) {m : Pass} {x : Opd} {y : Operand} (hx : x.is X.tab y = true) {t : Option T} {jn : Nat} (ht : ∀ t0, t = some t0 -> rep X.tab X.mv w ow (some (.ar jn, [])) t0 [a.eval y]) {hd : Hand}
  (af : (hand e m x t).run σ = some (hd, σ')) : σ' = σ /\ gT X U σ a w ow jn hd (a.eval y) := by
 unfold hand at af
 cases m with
 | M =>
  simp only at af
  obtain ⟨v, σ1, h1, h2⟩ := Zh3 af
  obtain ⟨e1, bm⟩ := Zem h hx h1
  rw [e1] at h2
  cases v <;> try simp only [Pg.run, reduceCtorEq] at h2
  rename_i r k p z lo n
  cases p with
  | cons i p => simp [Pg.run] at h2
  | nil =>
   cases lo with
   | succ l => simp [Pg.run] at h2
   | zero =>
    simp only at h2
    obtain ⟨c, σ2, h3, h4⟩ := Zh3 h2
    obtain ⟨e2, hc, hk⟩ := Zgg h3
    rw [e2] at h4
    rcases Zen hc with ⟨hb, cs, hct, hσ⟩ | ⟨hb, hσ⟩
    ·obtain ⟨ib, kk, tt⟩ := c
     simp only at hb
     subst hb
     simp [Pg.run] at h4
    ·obtain ⟨ib, kk, tt⟩ := c
     simp only at hb hσ
     subst hb
     cases tt <;> try simp only [Pg.run, reduceCtorEq] at h4
     rename_i o sz es
     cases o <;> try simp only [Pg.run, reduceCtorEq] at h4
     split at h4
     ·rename_i eG
      obtain ⟨hn, hr⟩ := eG
      obtain ⟨rfl, rfl⟩ := Zhk h4
      refine ⟨rfl, r, kk, rfl, hr, hσ, ?_, _, _, rfl⟩
      obtain ⟨bz, hh, bG⟩ := Zgh (w := w) (v := aK a r) hc (h.slot r) (p := []) (o := .y) (sz := sz) (es := es) rfl
      obtain ⟨A, C, Jo, _⟩ := Zfu bG
      have CA : bz = .slice A es.length C := by simpa using Jo
      subst CA
      have hva : aK a r = .slice A es.length C := by simpa [hdr] using hh
      obtain ⟨_, _, gN⟩ := (bm.1.2 _ hc hk).2 .y sz es rfl _ _ _ hh
      obtain ⟨A1, N1, C1, A2, c2, e3, e4, _, _, _, gx⟩ := gN
      cases e3
      rw [hva, gx rfl hn]
     ·simp [Pg.run] at h4
 | C =>
  cases t with
  | none => simp [Pg.run] at af
  | some t0 =>
   simp only at af
   obtain ⟨rfl, rfl⟩ := Zhk af
   exact ⟨rfl, rfl, ht t0 rfl⟩
 | S =>
  simp only at af
  obtain ⟨v, σ1, h1, h2⟩ := Zh3 af
  obtain ⟨e1, bm⟩ := Zem h hx h1
  rw [e1] at h2
  obtain ⟨t1, σ2, h3, h4⟩ := Zh3 h2
  obtain ⟨e2, me⟩ := Z9u h bm h3
  rw [e2] at h4
  by_cases hst : ∃ cs, v = .st cs
  ·obtain ⟨cs, rfl⟩ := hst
   cases t1 <;> try simp only [Pg.run, reduceCtorEq] at h4
   obtain ⟨rfl, rfl⟩ := Zhk h4
   refine ⟨rfl, rfl, fun ow2 hl => ?_⟩
   obtain ⟨vs, hv, hr⟩ := me ow2 X.mv hl
   exact ⟨vs, hv, by simpa only [rep] using hr⟩
  ·have h5 : hd = { arg := .x t1, bor := gz x v } /\ σ' = σ := by
    cases v <;> first | exact Zhk h4 | exact absurd ⟨_, rfl⟩ hst
   obtain ⟨rfl, rfl⟩ := h5
   refine ⟨rfl, rfl, fun ow2 hl => ?_⟩
   have := me ow2 X.mv hl
   cases v <;> first | exact this | exact absurd ⟨_, rfl⟩ hst
 | P =>
  simp only at af
  obtain ⟨v, σ1, h1, h2⟩ := Zh3 af
  obtain ⟨e1, bm, hq1, hq2⟩ := Zaf h hx h1
  rw [e1] at h2
  clear hq1 hq2
  cases v <;> try simp only [Pg.run, reduceCtorEq] at h2
  rename_i r k p off
  cases p with
  | cons i p => simp [Pg.run] at h2
  | nil =>
   cases off with
   | succ n => simp [Pg.run] at h2
   | zero =>
    simp only at h2
    obtain ⟨c, σ2, h3, h4⟩ := Zh3 h2
    obtain ⟨e2, hc, hk, hpb⟩ := Zgf h3
    rw [e2] at h4
    rcases Zen hc with ⟨hb, cs, hct, hσ⟩ | ⟨hb, hσ⟩
    ·obtain ⟨ib, kk, tt⟩ := c
     simp only at hb hct hσ
     subst hb hct
     simp only at h4
     split at h4
     ·rename_i hr
      obtain ⟨rfl, rfl⟩ := Zhk h4
      refine ⟨rfl, r, kk, rfl, hr, hσ, ?_⟩
      have hs := h.slot r
      rw [hσ] at hs
      obtain ⟨b, arr, ty, fr, hv, _⟩ := hs
      have := bm.1.2 _ hc hk (b, 0) (by rw [hv]; simp [place, bp])
      rw [this, hv]
     ·simp [Pg.run] at h4
    ·obtain ⟨ib, kk, tt⟩ := c
     simp only at hb
     subst hb
     simp [Pg.run] at h4
theorem Z7s (h : Rel X U J' σ a w ow) : ∀ (args : List (Pass × Opd)) (ys : List Operand) {ts : List (Option T)} {J : Nat} {hs : List Hand} {σ' : St}, da X.tab args ys = true ->
  (∀ (i : Nat) t y, ts[i]? = some (some t) -> ys[i]? = some y -> rep X.tab X.mv w ow (some (.ar (J + i), [])) t [a.eval y]) -> (fI e args ts).run σ = some (hs, σ') ->
  σ' = σ /\ hs.length = args.length /\ ∀ (i : Nat) x y, hs[i]? = some x -> ys[i]? = some y -> gT X U σ a w ow (J + i) x (a.eval y)
 | [], [], ts, J, hs, σ', hp, ht, af => by
  obtain ⟨rfl, rfl⟩ := Zhk af
  exact ⟨rfl, rfl, fun i x y hx => by simp at hx⟩
 | [], _ :: _, ts, J, hs, σ', hp, ht, af => by simp [da] at hp
 | _ :: _, [], ts, J, hs, σ', hp, ht, af => by simp [da] at hp
 | (m, x) :: args, y :: ys, ts, J, hs, σ', hp, ht, af => by
  simp only [da, Y2] at hp
  simp only [fI] at af
  obtain ⟨hd, σ1, h1, h2⟩ := Zh3 af
  obtain ⟨e1, hd1⟩ := Z7r h hp.1 (jn := J) (fun t0 e0 => by
   have := ht 0 t0 y (by cases ts <;> simp_all) rfl
   simpa using this) h1
  rw [e1] at h2
  obtain ⟨hs', σ2, h3, h4⟩ := Zh3 h2
  obtain ⟨rfl, rfl⟩ := Zhk h4
  obtain ⟨e2, hl, hr⟩ := Z7s h args ys (ts := ts.tail) (J := J + 1) hp.2 (fun i t y' ht' hy => by
   have := ht (i + 1) t y' (by cases ts <;> simp_all) (by simpa using hy)
   rw [show J + 1 + i = J + (i + 1) by omega]; exact this) h3
  refine ⟨e2, by simp [hl], fun i x' y' hx hy => ?_⟩
  cases i with
  | zero => simp at hx hy; subst hx hy; exact hd1
  | succ i =>
   have := hr i x' y' (by simpa using hx) (by simpa using hy)
   rw [show J + (i + 1) = J + 1 + i by omega]; exact this
end
end Go.Wr
namespace Go.Wr
section
variable {X : Cx} {U : Nat -> Prop} {J J' : Nat} {σ σ' σ2 : St} {a a' a2 : Act} {w w' w2 : World} {ow ow' ow2 : Nat -> Ow} {e : Nat} {o : Oper}
theorem Z5k {n J i : Nat} (hi : i < n) : (List.range n).find? (fun i' => J + i' == J + i) = some i := by
 cases hf : (List.range n).find? (fun i' => J + i' == J + i) with
 | none =>
  have := List.find?_eq_none.1 hf i (by simpa using hi)
  simp at this
 | some j =>
  have h7 := Y26 hf
  simp only [beq_iff_eq] at h7
  congr 1; omega
theorem Z1n {hs : List Hand} (hnd : (hs.filterMap Hand.box).Nodup) : ∀ {i : Nat} {x : Hand} {r : Nat}, hs[i]? = some x -> x.box = some r -> gj hs r = some i := by
 unfold gj
 induction hs with
 | nil => intro i x r hx; simp at hx
 | cons h hs ih =>
  intro i x r hx hr
  rw [List.findIdx?_cons]
  cases i with
  | zero =>
   simp at hx
   subst hx
   simp [hr]
  | succ i =>
   have hx' : hs[i]? = some x := by simpa using hx
   have qR : (hs.filterMap Hand.box).Nodup /\ ∀ s, h.box = some s -> s ∉ hs.filterMap Hand.box := by
    cases hb : h.box with
    | none => exact ⟨by simpa [List.filterMap_cons, hb] using hnd, fun s e => by cases e⟩
    | some s =>
     have : s ∉ hs.filterMap Hand.box /\ (hs.filterMap Hand.box).Nodup := by simpa [List.filterMap_cons, hb] using hnd
     exact ⟨this.2, fun s' e => by cases e; exact this.1⟩
   have hne : (h.box == some r) = false := by
    cases hb : h.box with
    | none => rfl
    | some s =>
     simp only [beq_eq_false_iff_ne, ne_eq, Y89]
     intro e
     subst e
     exact qR.2 s hb (List.mem_filterMap.2 ⟨x, Y62 hx', hr⟩)
   rw [hne]
   simp only [Y9, if_false]
   rw [ih qR.1 hx' hr]
   rfl
theorem Zl {hs : List Hand} (h : apart hs = true) : (hs.filterMap Hand.box).Nodup := by
 unfold apart at h
 simp only [Y2, decide_eq_true_eq] at h
 exact h.1
theorem Z29 (h : Rel X U J' σ a w ow) (hmv : X.mv = mv0) {hs : List Hand} (hap : apart hs = true) {i : Nat} {x : Hand} {v : Value} (hx : hs[i]? = some x) (hh : gT X U σ a w ow (J + i) x v) :
  fL X.tab w (cp ow hs (fun i => J + i)) i x.arg v := by
 have hil := (Y36.1 hx).1
 have hz : Zs w ow w (cp ow hs (fun i => J + i)) := fun b hb => ⟨by simp [cp, hb], rfl⟩
 unfold gT at hh
 rw [hmv] at hh
 cases ha : x.arg <;> rw [ha] at hh <;> simp only at hh
 case x t => exact hh.2 _ (Z2b hap (Y62 hx))
 case st cs => exact hh.2 _ (Z2b hap (Y62 hx))
 case own t => exact Zg1 hz t (c := some (.ar (J + i), [])) (fun b q hb => ⟨by simp only [cp, hb, Z5k hil], rfl⟩) hh.2
 case mu t =>
  obtain ⟨r, k, h1, h2, h3, h4, h5⟩ := hh
  have hs := h.slot r
  rw [h3] at hs
  refine ⟨h5, ?_⟩
  have hs2 := hs.2
  rw [h4, hmv] at hs2
  exact Zg1 hz t (c := some (.sl r, [])) (c' := some (.ar i, [])) (fun b q hb => ⟨by simp only [cp, hb, Z1n (Zl hap) hx h1], rfl⟩) hs2
 case bx cs =>
  obtain ⟨r, k, h1, h2, h3, h4⟩ := hh
  have hs := h.slot r
  rw [h3] at hs
  obtain ⟨b, arr, ty, fr, e1, e2, e3, e4, e5⟩ := hs
  rw [h4] at e1
  have hc : ∀ b q, ow b = .own (.sl r) q -> cp ow hs (fun i => J + i) b = .own (.ar i) q := fun b q hb => by
   simp only [cp, hb, Z1n (Zl hap) hx h1]
  refine ⟨b, arr, ty, fr, e1, hc b [] e2, e3, e4, ?_⟩
  rw [hmv] at e5
  exact Zfb hz cs (c := some (.sl r, [])) (c' := some (.ar i, [])) (fun b q hb => ⟨hc b _ hb, rfl⟩) e5
theorem Zi1 {r : RV} {v : Value} {J0 j d E : Nat} (hg : r.fi = true) (hr : match r with
   | .one t => rep X.tab X.mv w ow (some (.ar (J0 + j), [])) t [v]
   | .st cs => ∃ vs : Array Value, v = .agg vs /\ aR X.tab X.mv w ow (some (.ar (J0 + j), [])) 0 cs vs.toList) :
  aP X σ' a' w (cr ow d (fun i => if i = J0 + j then some [] else none)) d (r.av E) v := by
 have hz : Zs w ow w (cr ow d (fun i => if i = J0 + j then some [] else none)) := Z98
 have ht : Tr w ow w (cr ow d (fun i => if i = J0 + j then some [] else none)) (some (.ar (J0 + j), [])) (some (.sl d, [])) := fun b q hb => ⟨by rw [Z96 (pre := []) (by simp) hb]; rfl, rfl⟩
 cases r with
 | st cs =>
  obtain ⟨vs, rfl, hr⟩ := hr
  refine ⟨vs, rfl, Z2j _ 0 vs.toList (by rw [Zf8 hr]; simp) fun k c u h1 h2 => ?_⟩
  rw [Y37] at h1
  obtain ⟨t, ht1, rfl⟩ := Y87.1 h1
  obtain ⟨u', h3, h4⟩ := Zf7 hr ht1
  rw [h2] at h3
  cases h3
  rw [Y83] at h4 ⊢
  exact Zg1 hz t (ht.push k) h4
 | one t =>
  have loose : t.loose = true -> aP X σ' a' w (cr ow d (fun i => if i = J0 + j then some [] else none)) d (.x t) v := fun hl => by
   simp only [aP]
   exact Zah hl (Zg1 hz t ht hr)
  cases t
  case l ob sz es =>
   cases ob with
   | y => exact ⟨⟨_, _, _, rfl, rfl⟩, Zg1 hz _ ht hr⟩
   | n => exact loose rfl
   | m k => simp [RV.fi, T.loose] at hg
  all_goals exact loose (by simpa [RV.fi] using hg)
theorem Zi2 (E : Nat) (r : RV) : (∀ U' : Nat -> Prop, U' E -> (r.av E).stamps U') /\ ∀ c, (r.av E).rc = some c -> c.k.e = E := by
 cases r with
 | st cs =>
  refine ⟨fun U' _ c hc => ?_, fun c hc => by simp [RV.av, AV.rc] at hc⟩
  obtain ⟨t, _, rfl⟩ := Y60.1 hc
  trivial
 | one t =>
  unfold RV.av
  split
  ·exact ⟨fun U' h => ⟨h, h, h⟩, fun c hc => by simp only [AV.rc, Y89] at hc; subst hc; rfl⟩
  ·exact ⟨fun U' _ => trivial, fun c hc => by simp [AV.rc] at hc⟩
  ·exact ⟨fun U' _ c hc => by
    obtain ⟨t, _, rfl⟩ := Y60.1 hc
    trivial, fun c hc => by simp [AV.rc] at hc⟩
theorem Z7a (h : Rel X U J σ a w ow) {U' : Nat -> Prop} (hU : ∀ x, U x -> U' x) {d : Nat} {g : Nat -> Option (List Nat)} {av : AV} (hav : ∀ σ', aP X σ' a w (cr ow d g) d av (aK a d)) (hd : σ d = .u)
  (hst : av.stamps U') (hrc : ∀ c, av.rc = some c -> ¬ U c.k.e) (qz : 1000 <= d /\ ∃ n, σ (d % 1000) = .tup n /\ d / 1000 <= n) : Rel X U' J (upd σ d av) a w (cr ow d g) := by
 have ht := Z9f h d g
 have cc : ∀ r, aQ U σ a w (upd σ d av) a w r := fun r => by
  by_cases h1 : r = d
  ·subst h1
   exact aQ.fresh fun c hc => by
    simp only [upd, if_true] at hc
    exact hrc c hc
  ·exact Zer (h.slot r) (by simp [upd, h1]) rfl ht.z (fun b q hb => rfl)
 refine ⟨h.size, h.small, h.defers, fun s => ?_, fun s => ?_, ht.low, ht.air, h.grown, fun b hb hr => Zi3 ht.z ht.no (Y78 hb h.grown) (h.same b hb hr) hr, h.os, h.output, h.bu, fun s hs hu => ?_⟩
 ·by_cases h1 : s = d
  ·subst h1
   simp only [upd, if_true]
   exact hav _
  ·have := Zj6 (σ' := upd σ d av) (a' := a) (h.slot s) (h.bZ s) ht.z cc (fun b q hb => ht.other b s q (by simpa using Ne.symm h1) hb)
   simpa [upd, h1] using this
 ·by_cases h1 : s = d
  ·subst h1; simpa [upd] using hst
  ·simpa [upd, h1] using AV.dR hU (h.bZ s)
 ·have key : ∀ m, σ m ≠ .u -> m ≠ d := fun m hm e => hm (e ▸ hd)
  by_cases h1 : s = d
  ·subst h1
   obtain ⟨n, h2, h3⟩ := qz.2
   refine ⟨n, ?_, h3⟩
   simp only [upd, if_neg (key _ (by rw [h2]; simp))]
   exact h2
  ·simp only [upd, if_neg h1] at hu
   obtain ⟨n, h2, h3⟩ := h.gI s hs hu
   refine ⟨n, ?_, h3⟩
   simp only [upd, if_neg (key _ (by rw [h2]; simp))]
   exact h2
end
end Go.Wr
namespace Go.Wr
section
variable {X : Cx} {U : Nat -> Prop} {J J' : Nat} {σ σ' σ2 : St} {a a' a2 : Act} {w w' w2 : World} {ow ow' ow2 : Nat -> Ow} {e : Nat} {o : Oper}
def gk (X : Cx) (w : World) (ow : Nat -> Ow) (n : Nat) (r : RV) (v : Value) : Prop :=
 match r with
 | .one t => rep X.tab X.mv w ow (some (.ar n, [])) t [v]
 | .st cs => ∃ vs : Array Value, v = .agg vs /\ aR X.tab X.mv w ow (some (.ar n, [])) 0 cs vs.toList
theorem Zhx {d n m : Nat} {r : RV} {v : Value} (hne : n ≠ m) (h : gk X w ow n r v) : gk X w (cr ow d (fun i => if i = m then some [] else none)) n r v := by
 have ht : Tr w ow w (cr ow d (fun i => if i = m then some [] else none)) (some (.ar n, [])) (some (.ar n, [])) := fun b q hb => ⟨by simp [cr, hb, hne], rfl⟩
 cases r with
 | one t => exact Zg1 Z98 t ht h
 | st cs =>
  obtain ⟨vs, h1, h2⟩ := h
  exact ⟨vs, h1, Zfb Z98 cs ht h2⟩
theorem Zdv {d n J0 : Nat} (hd1 : d < 1000) : ∀ (rs : List RV) (j : Nat) {U : Nat -> Prop} {σ σ' : St} {ow : Nat -> Ow}, Rel X U J σ a w ow -> (∀ x, e + j < x -> x < e + 8 -> ¬ U x) -> σ d = .tup n -> j + rs.length <= n -> rs.all RV.fi = true ->
  (∀ k, j <= k -> σ (vt d k) = .u) -> (∀ (k : Nat) r, rs[k]? = some r -> gk X w ow (J0 + (j + k)) r (aK a (vt d (j + k)))) -> (iX e d j rs).run σ = some ((), σ') ->
  ∃ ow', Rel X (fun x => U x \/ (e + j < x /\ x < e + 8)) J σ' a w ow'
 | [], j, U, σ, σ', ow, h, he, ht, hn, hg, hu, hr, af => by
  obtain ⟨_, rfl⟩ := Zhk af
  exact ⟨ow, h.mono (fun x hx => .inl hx) (Nat.le_refl _)⟩
 | r :: rs, j, U, σ, σ', ow, h, he, ht, hn, hg, hu, hr, af => by
  simp only [iX] at af
  split at af
  ·rename_i hj7
   obtain ⟨_, σ1, h1, h2⟩ := Zh3 af
   have := Zhu h1
   subst this
   simp only [Y17, Y2] at hg
   simp only [Y42] at hn
   obtain ⟨hs1, hs2⟩ := Zi2 (e + j + 1) r
   have hr0 := hr 0 r rfl
   rw [Y75] at hr0
   have gx := Z7a h (U' := fun x => U x \/ x = e + j + 1) (fun x hx => .inl hx) (d := vt d j) (g := fun i => if i = J0 + j then some [] else none) (av := r.av (e + j + 1))
    (fun σ' => Zi1 hg.1 (by cases r <;> exact hr0)) (hu j (Nat.le_refl _)) (hs1 _ (.inr rfl)) (fun c hc => by rw [hs2 c hc]; exact he _ (by omega) (by omega)) ⟨by unfold vt; omega, n, by
     have : vt d j % 1000 = d := by unfold vt; omega
     rw [this]; exact ht, by unfold vt; omega⟩
   have hnd : d ≠ vt d j := by unfold vt; omega
   obtain ⟨ow2, h5⟩ := Zdv hd1 rs (j + 1) gx (fun x h1 h2 hx => by
     rcases hx with hx | hx
     ·exact he x (by omega) h2 hx
     ·omega) (by simp only [upd, if_neg hnd]; exact ht) (by omega) hg.2 (fun k hk => by
     have : vt d k ≠ vt d j := by unfold vt; omega
     simp only [upd, if_neg this]; exact hu k (by omega)) (fun k r' hk => by
     have := hr (k + 1) r' (by simpa using hk)
     rw [show j + 1 + k = j + (k + 1) by omega]
     exact Zhx (by omega) this) h2
   refine ⟨ow2, h5.mono (fun x hx => ?_) (Nat.le_refl _)⟩
   rcases hx with (hx | hx) | hx
   ·exact .inl hx
   ·exact .inr (by omega)
   ·exact .inr (by omega)
  ·simp [Pg.run] at af
theorem Zlf {d : Nat} (k : Nat) (h : d < 1000) : 1000 <= vt d k /\ vt d k % 1000 = d := by
 unfold vt
 omega
def jI (X : Cx) (w : World) (ow : Nat -> Ow) (J0 : Nat) (rs : List RV) (v : Value) : Prop :=
 match rs with
 | [r] => gk X w ow (J0 + 0) r v
 | rs => ∃ vs : Array Value, v = .tuple vs /\ vs.size = rs.length /\ ∀ (j : Nat) r u, rs[j]? = some r -> vs[j]? = some u -> gk X w ow (J0 + j) r u
theorem jI.tup {J0 : Nat} {rs : List RV} {v : Value} (h1 : ¬ ∃ r, rs = [r]) (h : jI X w ow J0 rs v) :
  ∃ vs : Array Value, v = .tuple vs /\ vs.size = rs.length /\ ∀ (j : Nat) r u, rs[j]? = some r -> vs[j]? = some u -> gk X w ow (J0 + j) r u := by
 match rs, h, h1 with
 | [], h, _ => exact h
 | [r], _, h1 => exact absurd ⟨r, rfl⟩ h1
 | _ :: _ :: _, h, _ => exact h
theorem Zgc {d : Nat} {rs : List RV} (h1 : ¬ ∃ r, rs = [r]) : results e (some d) rs = (setS d (.tup rs.length)).bind fun _ => iX e d 0 rs := by
 match rs, h1 with
 | [], _ => rfl
 | [r], h1 => exact absurd ⟨r, rfl⟩ h1
 | _ :: _ :: _, _ => rfl
theorem Zga (h : Rel X U J σ a w ow) (hd : ca X o) (he : ∀ x, Fam e x -> x ≠ e -> ¬ U x) {J0 : Nat} {rs : List RV} {v : Value} (hg : rs.all RV.fi = true)
  (hr : jI X w ow J0 rs v)
  (af : (results e o.dst rs).run σ = some ((), σ')) : ∃ ow', Rel X (fun x => U x \/ Fam e x) J σ' (a.put o.dst v) w ow' := by
 cases bW : o.dst with
 | none =>
  rw [bW] at af
  simp only [results] at af
  obtain ⟨_, rfl⟩ := Zhk af
  exact ⟨ow, h.mono (fun x hx => .inl hx) (Nat.le_refl _)⟩
 | some d =>
  obtain ⟨hdn, hdp⟩ := hd d bW
  have hd1 : d < 1000 := Y78 hdn h.small
  have hdt : d < a.tmps.size := by rw [h.size]; exact hdn
  rw [bW] at af
  by_cases h1 : ∃ r, rs = [r]
  ·obtain ⟨r, rfl⟩ := h1
   simp only [results] at af
   rw [Zhn] at af
   simp only [Y89, Y90, true_and] at af
   subst af
   obtain ⟨hs1, hs2⟩ := Zi2 (e + 1) r
   have hg1 : r.fi = true := by simpa using hg
   simp only [jI] at hr
   have := Zm0 h (U' := fun x => U x \/ Fam e x) (fun x hx => .inl hx) (dst := some d) (Z9f h d (fun i => if i = J0 + 0 then some [] else none)) (av := r.av (e + 1)) (v := v) (fun d' hd' => by cases hd'; exact ⟨hdn, hdp⟩)
    (hs1 _ (.inr ⟨by omega, by omega⟩)) (fun c hc => by rw [hs2 c hc]; exact he _ ⟨by omega, by omega⟩ (by omega)) (fun d' hd' σ' a' _ => by
     cases hd'
     exact Zi1 hg1 (by cases r <;> exact hr))
   exact ⟨_, this.1⟩
  ·have hr' := hr.tup h1
   have iK : ((setS d (.tup rs.length)).bind fun _ => iX e d 0 rs).run σ = some ((), σ') := by
    rw [<- Zgc h1]; exact af
   obtain ⟨vs, hv, hvs, hrs⟩ := hr'
   have h3 := run_bind (setS d (.tup rs.length)) (fun _ => iX e d 0 rs) σ
   simp only [Bind.bind] at h3
   rw [h3, Zhn] at iK
   simp only [Y86] at iK
   have hw := Zm0 h (U' := fun x => U x) (fun x hx => hx) (gO.rfl h (some d) (Nat.le_refl J)) (av := .tup rs.length) (v := v) (fun d' hd' => by cases hd'; exact ⟨hdn, hdp⟩) (by simp [AV.stamps]) (by simp [AV.rc])
    (fun d' hd' σ' a' hr => ⟨vs, hv, hvs⟩)
   simp only [iw] at hw
   have hat := fun k => Ziy h hd1 (.tup rs.length) k
   have Lf : ∀ k, vt d k ≠ d := fun k => by unfold vt; omega
   have hvt : ∀ k, 1000 <= vt d k /\ vt d k % 1000 = d := fun k => Zlf k hd1
   obtain ⟨ow2, h5⟩ := Zdv (e := e) (J0 := J0) (n := rs.length) hd1 rs 0 hw.1 (fun x h1 h2 => he x ⟨by omega, h2⟩ (by omega)) (by rw [hat, if_pos rfl]) (by omega) hg
    (fun k _ => by rw [hat, if_neg (Lf k), if_pos (hvt k)]) (fun k r hk => by
     have hkl := (Y36.1 hk).1
     rw [hv, Zlb hdt hd1]
     have := hrs k r vs[k] hk (by simp [hvs, hkl])
     rw [Y83]
     simpa [hvs, hkl] using this) iK
   refine ⟨ow2, h5.mono (fun x hx => ?_) (Nat.le_refl _)⟩
   rcases hx with hx | hx
   ·exact .inl hx
   ·exact .inr ⟨by omega, hx.2⟩
end
end Go.Wr
namespace Go.Wr
def iC (P : Program) (f : FuncId) : Bool :=
 match P.funcs[f]? with
 | some fn => fn.body.isSome && fn.name != "runtime.NumGoroutine"
 | none => false
section
variable {X : Cx} {U : Nat -> Prop} {J J' : Nat} {σ σ' σ2 : St} {a a' a2 : Act} {w w' w2 : World} {ow ow' ow2 : Nat -> Ow} {e : Nat} {o : Oper}
theorem Zh5 {P : Program} {f : FuncId} {args : Array Value} (h : iC P f = true) : (callFunc f args).run P w = .ok (.enter f args) w := by
 unfold iC at h
 split at h
 ·rename_i fn hf
  simp only [Y2, bne_iff_ne, ne_eq] at h
  unfold callFunc
  rw [Zhl (x := P) (w' := w) rfl]
  simp only [hf]
  have h1 : (fn.name == "runtime.NumGoroutine") = false := by simpa using h.2
  have h2 : fn.body.isNone = false := by cases hb : fn.body <;> simp_all
  rw [h1, h2]
  rfl
 ·cases h
theorem Z2c {hs : List Hand} {jn : Nat -> Nat} {b : Nat} (hb : cp ow hs jn b ≠ .no) : ow b ≠ .no := fun e => hb (by simp [cp, e])
theorem Z2e {hs : List Hand} {jn : Nat -> Nat} {b : Nat} {r : aH} {q : List Nat} (hb : cp ow hs jn b = .own r q) : ∃ i, r = .ar i /\ i < hs.length := by
 unfold cp at hb
 cases ho : ow b with
 | no => simp [ho] at hb
 | z => simp [ho] at hb
 | own r0 q0 =>
  rw [ho] at hb
  cases r0 with
  | rs j => cases hb
  | sl s =>
   simp only at hb
   split at hb
   ·rename_i i hi
    obtain ⟨x, hx, _⟩ := Z1o hi
    cases hb
    exact ⟨i, rfl, (Y36.1 hx).1⟩
   ·split at hb <;> cases hb
  | ar j =>
   simp only at hb
   split at hb
   ·rename_i i hi
    have := Y61 hi
    cases hb
    exact ⟨i, rfl, by simpa using this⟩
   ·cases hb
theorem Z4k (h : Rel X U J σ a w ow) (hmv : X.mv = mv0) (hd : ca X o) (he : ∀ x, Fam e x -> ¬ U x) {g : Nat} {F : Fun} {args : List (Pass × Opd)} {ys : List Operand} {env : List T} {cQ : List Value} (hF : dB X.P X.tab g F)
  (hp : da X.tab args ys = true) (lp : ∀ (i : Nat) t v, env[i]? = some t -> cQ[i]? = some v -> ∀ ow2, (∀ b, ow b = .z -> ow2 b = .z) -> rep X.tab mv0 w ow2 none t [v]) (hcl : cQ.length = env.length)
  (gQ : (execOp a.eval o).run X.P w = .ok (.enter (X.tab g) (ys.map a.eval ++ cQ).toArray) w) (af : (ga e o.dst F args env).run σ = some ((), σ')) : Sound X U a w e o σ' := by
 unfold ga at af
 obtain ⟨ts, σ1, h1, h2⟩ := Zh3 af
 obtain ⟨ow1, hg1, htl, hyl, htr⟩ := Z7q args ys h hp h1
 obtain ⟨hs0, σ2, h3, h4⟩ := Zh3 h2
 obtain ⟨e2, hhl, hhr⟩ := Z7s hg1.rel args ys (ts := ts) (J := J) hp htr h3
 rw [e2] at h4
 clear h2 h3 e2 σ2
 generalize hhs : (hs0 ++ env.map fun t => ({ arg := .x t } : Hand)) = hs at h4
 have hjn : J + args.length <= J + (args.length + env.length) := by omega
 have R := hg1.rel.mono (J' := J + (args.length + env.length)) (fun x hx => hx) hjn
 have hlen : hs.length = args.length + env.length := by rw [<- hhs]; simp [hhl]
 have hvl : (ys.map a.eval ++ cQ).length = hs.length := by rw [hlen]; simp [hyl, hcl]
 have hH : ∀ (i : Nat) x u, hs[i]? = some x -> (ys.map a.eval ++ cQ)[i]? = some u -> gT X U σ1 a w ow1 (J + i) x u := fun i x u hx hu => by
  rw [<- hhs] at hx
  by_cases hi : i < hs0.length
  ·rw [Y29 hi] at hx
   rw [Y29 (by simp; omega), Y37] at hu
   obtain ⟨y, hy, rfl⟩ := Y87.1 hu
   exact hhr i x y hx hy
  ·rw [Y30 (by omega), Y37] at hx
   rw [Y30 (by simp; omega)] at hu
   obtain ⟨t, ht, rfl⟩ := Y87.1 hx
   refine ⟨rfl, fun ow2 hl => ?_⟩
   rw [hmv]
   refine lp (i - hs0.length) t u ht ?_ ow2 (fun b hb => hl.1 b (hg1.z b hb).1)
   rw [<- hu]; congr 1; simp; omega
 dsimp only at h4
 split at h4
 ·rename_i hap
  cases hFo : F (hs.map Hand.arg) with
  | none => simp [hFo, Pg.run] at h4
  | some out =>
   simp only [hFo] at h4
   split at h4
   ·rename_i eG
    simp only [Y2, Y14] at eG
    obtain ⟨CB, j5⟩ := eG
    obtain ⟨_, σ3, h5, h6⟩ := Zh3 h4
    intro K Q hK
    left
    unfold Oper.wp
    rw [gQ, Oper.upon_enter]
    have lq := hF (hs.map Hand.arg) (ys.map a.eval ++ cQ) w (cp ow1 hs (fun i => J + i)) out hFo (by rw [hvl]; simp)
     (fun i x v hx hv => by
      rw [Y37] at hx
      obtain ⟨y, hy, rfl⟩ := Y87.1 hx
      exact Z29 R hmv hap hy (hH i y v hy hv))
     (fun b hb => R.low b (Z2c hb)) (fun b r q hb => by
      obtain ⟨i, h7, h8⟩ := Z2e hb
      exact ⟨i, h7, by simpa using h8⟩)
    refine Calls.mono lq fun en w'' hen => ?_
    cases en with
    | panicked c => exact hen.elim
    | outgrown => exact hen.elim
    | returned v =>
     obtain ⟨ow', hA⟩ := hen
     obtain ⟨jc, hrefs, hu1, hu2⟩ := Z2d R hmv he hap hvl hH hA CB h5
     have j6 : jI X w'' (de ow1 hs (J + (args.length + env.length)) ow') (J + (args.length + env.length)) out.res v := by
      have hz : ∀ r : RV, r ∈ out.res -> Zs w'' ow' w'' (de ow1 hs (J + (args.length + env.length)) ow') \/ r.closed = true := fun r hr => by
       rcases CB with hc | hc
       ·exact .inl (Z1e R hA hc)
       ·exact .inr (Y18.1 hc.1 r hr)
      have one : ∀ (j : Nat) (r : RV) (u : Value), r ∈ out.res -> j3 X.tab w'' ow' j r u -> gk X w'' (de ow1 hs (J + (args.length + env.length)) ow') (J + (args.length + env.length) + j) r u := fun j r u hr hrv => by
       have ht : Tr w'' ow' w'' (de ow1 hs (J + (args.length + env.length)) ow') (some (.rs j, [])) (some (.ar (J + (args.length + env.length) + j), [])) := fun b q hb => ⟨by
        rw [Z1a R hA hb]; rfl, rfl⟩
       have hzr := hz r hr
       cases r with
       | one t =>
        unfold gk
        rw [hmv]
        exact Zfq t hzr ht hrv
       | st cs =>
        obtain ⟨vs, hv, hr2⟩ := hrv
        unfold gk
        rw [hmv]
        exact ⟨vs, hv, Zf5 cs hzr ht hr2⟩
      have hr := hA.res
      generalize out.res = rs at one hr ⊢
      match rs, one, hr with
      | [r], one, hr => exact one 0 r v Y57 hr
      | [], one, hr => exact hr.elim fun vs hr => ⟨vs, hr.1, hr.2.1, fun j r u hj hu => one j r u (Y62 hj) (hr.2.2 j r u hj hu)⟩
      | r1 :: r2 :: rs, one, hr => exact hr.elim fun vs hr => ⟨vs, hr.1, hr.2.1, fun j r u hj hu => one j r u (Y62 hj) (hr.2.2 j r u hj hu)⟩
     obtain ⟨ow3, gx⟩ := Zga jc hd (fun x hx hne hU => by
      rcases hU with hU | hU
      ·exact he x hx hU
      ·exact hne hU) j5 j6 h6
     refine hK _ _ _ _ (gx.mono (fun x hx => ?_) (Nat.le_refl _))
     rcases hx with (hx | hx) | hx
     ·exact .inl hx
     ·exact .inr (hx ▸ Fam.self e)
     ·exact .inr hx
   ·simp [Pg.run] at h4
 ·simp [Pg.run] at h4
end
end Go.Wr

