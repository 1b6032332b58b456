/-
  What is proved: lemmas on the way to the laws of this seat. No condition.
-/
import Derived.Test.YtbghjecopkbhlaaGreatRb
set_option linter.unusedVariables false
set_option linter.unusedSimpArgs false
namespace Go.Wr
section
variable {tab : Nat -> FuncId} {mv : Nat -> Value} {w w' : World} {ow ow' : Nat -> Ow}
theorem Ze2 (hz : Zs w ow w' ow') {node cv : T} : ∀ (p : List Nat) (t : T) {c : Loc} {vs : List Value} {b o : Nat}, rep tab mv w ow c t vs -> At w b o vs -> t.nav p = some node ->
  (∀ b' o' vs', bp w t b o p = some (b', o') -> At w b' o' vs' -> rep tab mv w ow (t.cq c p) node vs' -> rep tab mv w' ow' (t.cq c p) cv vs') ->
  (∀ r q, c = some (r, q) -> ∀ b q', ow b = .own r (q ++ q') -> ¬ p <+: q' -> ow' b = .own r (q ++ q') /\ w'.heap[b]? = w.heap[b]?) ->
  rep tab mv w' ow' c (t.put p cv) vs
 | [], t, c, vs, b, o, h, hAt, hn, cn, _ => by
  simp only [T.nav, Y89] at hn
  subst hn
  have := cn b o vs (by cases t <;> rfl) hAt (by cases t <;> exact h)
  cases t <;> exact this
 | k :: p, t, c, vs, b0, o0, h, hAt, hn, cn, dn => by
  have sib : ∀ j, j ≠ k -> Tr w ow w' ow' (c.push j) (c.push j) := fun j hj => by
   rcases c with _ | ⟨r, q⟩
   ·trivial
   ·intro b q' hb
    have hb' : ow b = .own r (q ++ (j :: q')) := by rw [hb]; simp
    obtain ⟨h1, h2⟩ := dn r q rfl b (j :: q') hb' (by simp [Ne.symm hj])
    exact ⟨by rw [h1]; simp, h2⟩
  have down : ∀ r q, c.push k = some (r, q) -> ∀ b q', ow b = .own r (q ++ q') -> ¬ p <+: q' -> ow' b = .own r (q ++ q') /\ w'.heap[b]? = w.heap[b]? := fun r q hq b q' hb hpq => by
   rcases c with _ | ⟨r0, q0⟩
   ·cases hq
   ·simp only [Zdc, Y89, Y90] at hq
    obtain ⟨rfl, rfl⟩ := hq
    have hb' : ow b = .own r0 (q0 ++ (k :: q')) := by rw [hb]; simp
    obtain ⟨h1, h2⟩ := dn r0 q0 rfl b (k :: q') hb' (by simpa using hpq)
    exact ⟨by rw [h1]; simp, h2⟩
  cases t <;> simp only [T.nav, T.kid, Y85, reduceCtorEq] at hn
  case a cs =>
   obtain ⟨t', ht', hn2⟩ := Y84.1 hn
   simp only [T.cq, bp, ht'] at cn
   have hAk : ∀ u, vs[k]? = some u -> At w b0 (o0 + k) [u] := fun u hu j x hx => by
    cases j with
    | zero => simp at hx; subst hx; exact hAt k _ hu
    | succ j => simp at hx
   simp only [rep] at h
   have hvl := Zf8 h
   have hk : k < cs.length := (Y36.1 ht').1
   simp only [T.put, T.kid, ht', T.aZ, rep]
   refine Zfa (by simp [hvl]) fun j x u hx hu => ?_
   obtain ⟨u', hu', hr⟩ : ∃ u', vs[j]? = some u' /\ ∀ y, cs[j]? = some y -> rep tab mv w ow (c.push (0 + j)) y [u'] := by
    obtain ⟨y, hy⟩ : ∃ y, cs[j]? = some y := by
     have := (Y36.1 hx).1
     exact ⟨_, Y34 (by simpa using this)⟩
    obtain ⟨u', h1, h2⟩ := Zf7 h hy
    exact ⟨u', h1, fun y' hy' => by rw [hy] at hy'; cases hy'; exact h2⟩
   rw [hu'] at hu
   cases hu
   rw [Y83] at hr ⊢
   by_cases hj : j = k
   ·subst hj
    rw [Y39 hk] at hx
    cases hx
    exact Ze2 hz p t' (hr t' ht') (hAk _ hu') hn2 cn down
   ·rw [Y38 (Ne.symm hj)] at hx
    exact Zg1 hz x (sib j hj) (hr x hx)
  case l o sz es =>
   obtain ⟨t', ht', hn2⟩ := Y84.1 hn
   simp only [T.cq, ht'] at cn
   simp only [T.put, T.kid, ht', T.aZ]
   simp only [rep] at h ⊢
   obtain ⟨h0, A, cap, rfl, hc, hm, cM⟩ := h
   have bD := (hAt.cons).1
   have hk : k < es.length := (Y36.1 ht').1
   refine ⟨h0, A, cap, by simp, by simpa using hc, by simpa using hm, ?_⟩
   cases A with
   | none => exact cM
   | some ad =>
    intro _
    have hne : es ≠ [] := by intro he; subst he; simp at ht'
    obtain ⟨hs, hb, arr, ty, fr, vs', hh, hfr, hvs, hes⟩ := cM (.inr hne)
    have hbk : ow' ad.block = (o.loc c).ow /\ w'.heap[ad.block]? = w.heap[ad.block]? := by
     unfold Ob.loc at hb ⊢
     split at hb <;> rename_i ho
     ·rw [if_pos ho]
      rcases c with _ | ⟨r, q⟩
      ·exact hz _ hb
      ·have := dn r q rfl ad.block [] (by simpa [Loc.ow] using hb) (by simp)
       simpa [Loc.ow] using this
     ·rw [if_neg ho]
      exact hz _ hb
    refine ⟨hs, hbk.1, arr, ty, fr, vs', hbk.2 ▸ hh, hfr, hvs, ?_⟩
    refine Zfc hes (by simp) rfl fun j t2 v2 hj hl2 hr2 hv2 => ?_
    rw [Y83] at hr2 ⊢
    by_cases hjk : j = k
    ·subst hjk
     rw [ht'] at hj
     cases hj
     refine ⟨_, v2, Y39 hk, hl2, Ze2 hz p t' hr2 (b := ad.block) (o := ad.off + j * sz) (fun i x hx => by
      rw [Z2h hh, Y74]; exact hvs _ _ (hv2 i x hx)) hn2 (fun b' o' vs2 h1 h2 h3 => cn b' o' vs2 (by simp only [bp, bD, ht']; exact h1) h2 h3) ?_, hv2⟩
     intro r q hq
     unfold Ob.loc at hq
     split at hq
     ·exact down r q hq
     ·cases hq
    ·refine ⟨t2, v2, by rw [Y38 (Ne.symm hjk)]; exact hj, hl2, Zg1 hz t2 ?_ hr2, hv2⟩
     unfold Ob.loc
     split
     ·exact sib j hjk
     ·trivial
theorem Ze3 (hz : Zs w ow w' ow') {node cv : T} {k : Nat} {p : List Nat} {o : Ob} {sz : Nat} {es : List T} {c : Loc} {v : Value} (h : rep tab mv w ow c (.l o sz es) [v]) (hn : (T.l o sz es).nav (k :: p) = some node)
  (cn : ∀ A n cap b' o' vs', v = .slice A n cap -> cG w (.l o sz es) A (k :: p) = some (b', o') -> At w b' o' vs' -> rep tab mv w ow ((T.l o sz es).cq c (k :: p)) node vs' -> rep tab mv w' ow' ((T.l o sz es).cq c (k :: p)) cv vs')
  (dn : ∀ r q, c = some (r, q) -> ∀ b q', ow b = .own r (q ++ q') -> ¬ (k :: p) <+: q' -> ow' b = .own r (q ++ q') /\ w'.heap[b]? = w.heap[b]?) :
  rep tab mv w' ow' c ((T.l o sz es).put (k :: p) cv) [v] := by
 have sib : ∀ j, j ≠ k -> Tr w ow w' ow' (c.push j) (c.push j) := fun j hj => by
  rcases c with _ | ⟨r, q⟩
  ·trivial
  ·intro b q' hb
   have hb' : ow b = .own r (q ++ (j :: q')) := by rw [hb]; simp
   obtain ⟨h1, h2⟩ := dn r q rfl b (j :: q') hb' (by simp [Ne.symm hj])
   exact ⟨by rw [h1]; simp, h2⟩
 have down : ∀ r q, c.push k = some (r, q) -> ∀ b q', ow b = .own r (q ++ q') -> ¬ p <+: q' -> ow' b = .own r (q ++ q') /\ w'.heap[b]? = w.heap[b]? := fun r q hq b q' hb hpq => by
  rcases c with _ | ⟨r0, q0⟩
  ·cases hq
  ·simp only [Zdc, Y89, Y90] at hq
   obtain ⟨rfl, rfl⟩ := hq
   have hb' : ow b = .own r0 (q0 ++ (k :: q')) := by rw [hb]; simp
   obtain ⟨h1, h2⟩ := dn r0 q0 rfl b (k :: q') hb' (by simpa using hpq)
   exact ⟨by rw [h1]; simp, h2⟩
 simp only [T.nav, T.kid] at hn
 obtain ⟨t', ht', hn2⟩ := Y84.1 hn
 simp only [T.cq, ht'] at cn
 simp only [T.put, T.kid, ht', T.aZ]
 simp only [rep] at h ⊢
 obtain ⟨h0, A, cap, hv, hc, hm, cM⟩ := h
 obtain rfl : v = .slice A es.length cap := by simpa using hv
 have hk : k < es.length := (Y36.1 ht').1
 refine ⟨h0, A, cap, by simp, by simpa using hc, by simpa using hm, ?_⟩
 cases A with
 | none => exact cM
 | some ad =>
  intro _
  have hne : es ≠ [] := by intro he; subst he; simp at ht'
  obtain ⟨hs, hb, arr, ty, fr, vs', hh, hfr, hvs, hes⟩ := cM (.inr hne)
  have hbk : ow' ad.block = (o.loc c).ow /\ w'.heap[ad.block]? = w.heap[ad.block]? := by
   unfold Ob.loc at hb ⊢
   split at hb <;> rename_i ho
   ·rw [if_pos ho]
    rcases c with _ | ⟨r, q⟩
    ·exact hz _ hb
    ·have := dn r q rfl ad.block [] (by simpa [Loc.ow] using hb) (by simp)
     simpa [Loc.ow] using this
   ·rw [if_neg ho]
    exact hz _ hb
  refine ⟨hs, hbk.1, arr, ty, fr, vs', hbk.2 ▸ hh, hfr, hvs, ?_⟩
  refine Zfc hes (by simp) rfl fun j t2 v2 hj hl2 hr2 hv2 => ?_
  rw [Y83] at hr2 ⊢
  by_cases hjk : j = k
  ·subst hjk
   rw [ht'] at hj
   cases hj
   refine ⟨_, v2, Y39 hk, hl2, Ze2 hz p t' hr2 (b := ad.block) (o := ad.off + j * sz) (fun i x hx => by
    rw [Z2h hh, Y74]; exact hvs _ _ (hv2 i x hx)) hn2 (fun b' o' vs2 h1 h2 h3 => cn _ _ _ b' o' vs2 rfl (by simp only [cG, ht']; exact h1) h2 h3) ?_, hv2⟩
   intro r q hq
   unfold Ob.loc at hq
   split at hq
   ·exact down r q hq
   ·cases hq
  ·refine ⟨t2, v2, by rw [Y38 (Ne.symm hjk)]; exact hj, hl2, Zg1 hz t2 ?_ hr2, hv2⟩
   unfold Ob.loc
   split
   ·exact sib j hjk
   ·trivial
end
section
variable {X : Cx} {U : Nat -> Prop} {J J' : Nat} {σ σ' σ2 : St} {a a' a2 : Act} {w w' w2 : World} {ow ow' ow2 : Nat -> Ow}
theorem Zgm {r : Nat} {c : RC} {v : Value} (hc : (σ r).rc = some c) (hs : aP X σ a w ow r (σ r) v) {p : List Nat} {node cv : T} (hn : c.t.nav p = some node)
  (hp : c.bi = true \/ p ≠ []) (hp2 : c.bi = true -> p ≠ []) (hz : Zs w ow w' ow')
  (cn : ∀ b o vs', place w c v p = some (b, o) -> At w b o vs' -> rep X.tab X.mv w ow (c.t.cq (some (.sl r, [])) p) node vs' -> rep X.tab X.mv w' ow' (c.t.cq (some (.sl r, [])) p) cv vs')
  (dn : ∀ b q', ow b = .own (.sl r) q' -> ¬ p <+: q' -> ow' b = .own (.sl r) q' /\ w'.heap[b]? = w.heap[b]?) :
  ({ c with t := c.t.put p cv } : RC).av.rc = some { c with t := c.t.put p cv } /\ aP X σ2 a2 w' ow' r ({ c with t := c.t.put p cv } : RC).av v := by
 have hpn : p ≠ [] := by
  rcases hp with h | h
  ·exact hp2 h
  ·exact h
 obtain ⟨k, p, rfl⟩ : ∃ k q, p = k :: q := by
  cases p with
  | nil => exact absurd rfl hpn
  | cons k q => exact ⟨k, q, rfl⟩
 have kI : ∀ (r' : aH) (q : List Nat), some (aH.sl r, ([] : List Nat)) = some (r', q) -> ∀ b q', ow b = .own r' (q ++ q') -> ¬ (k :: p) <+: q' ->
   ow' b = .own r' (q ++ q') /\ w'.heap[b]? = w.heap[b]? := fun r' q hq b q' hb hpq => by
  simp only [Y89, Y90] at hq
  obtain ⟨rfl, rfl⟩ := hq
  exact dn b q' hb hpq
 rcases Zen hc with ⟨hb, cs, ht, hv⟩ | ⟨hb, hv⟩
 ·obtain ⟨ib, kk, t⟩ := c
  simp only at hb ht hn cn hv ⊢
  subst hb ht
  rw [hv] at hs
  simp only [aP] at hs
  obtain ⟨b, arr, ty, fr, rfl, hbk, hh, hf, hr⟩ := hs
  simp only [T.nav, T.kid] at hn
  have hn' := hn
  obtain ⟨t', ht', hn2⟩ := Y84.1 hn
  have fX : (T.a cs).put (k :: p) cv = .a (cs.set k (t'.put p cv)) := by simp only [T.put, T.kid, ht', T.aZ]
  have h1 := Ze2 hz (node := node) (cv := cv) (k :: p) (.a cs) (c := some (.sl r, [])) (vs := arr.toList) (by simp only [rep]; exact hr) (Z13 hh) (by simp only [T.nav, T.kid]; exact hn') (fun b' o' vs' h1 h2 h3 => cn b' o' vs' (by simp only [place]; exact h1) h2 h3) kI
  rw [fX] at h1 ⊢
  simp only [rep] at h1
  obtain ⟨h2, h3⟩ := dn b [] hbk (by simp)
  exact ⟨rfl, b, arr, ty, fr, rfl, h2, h3 ▸ hh, hf, h1⟩
 ·obtain ⟨ib, kk, t⟩ := c
  simp only at hb hn cn hv ⊢
  subst hb
  rw [hv] at hs
  simp only [aP] at hs
  obtain ⟨⟨o, sz, es, rfl, ho⟩, hr⟩ := hs
  have h1 := Ze3 hz (node := node) (cv := cv) (c := some (.sl r, [])) hr hn (fun A n cap b' o' vs' hv h1 h2 h3 => cn b' o' vs' (by subst hv; simp only [place]; exact h1) h2 h3) kI
  simp only [T.nav, T.kid] at hn
  obtain ⟨t', ht', hn2⟩ := Y84.1 hn
  have fX : (T.l o sz es).put (k :: p) cv = .l o sz (es.set k (t'.put p cv)) := by simp only [T.put, T.kid, ht', T.aZ]
  rw [fX] at h1 ⊢
  cases o with
  | n => simp [Ob.own] at ho
  | y => exact ⟨rfl, ⟨_, _, _, rfl, rfl⟩, h1⟩
  | m j => exact ⟨rfl, ⟨_, _, _, rfl, rfl⟩, h1⟩
end
theorem Z91 {t t' y : T} {k j : Nat} (ht : t.kid k = some t') : (t.aZ k y).kid j = if j = k then some y else t.kid j := by
 cases t <;> simp only [T.kid, reduceCtorEq] at ht
 case a cs =>
  simp only [T.aZ, T.kid, List.getElem?_set]
  have := (Y36.1 ht).1
  by_cases h : k = j
  ·subst h; simp [this]
  ·simp [h, Ne.symm h]
 case l o sz es =>
  simp only [T.aZ, T.kid, List.getElem?_set]
  have := (Y36.1 ht).1
  by_cases h : k = j
  ·subst h; simp [this]
  ·simp [h, Ne.symm h]
theorem Zbl : ∀ (p q : List Nat) (t x : T), ¬ p <+: q -> ¬ q <+: p -> (t.put p x).nav q = t.nav q
 | [], q, t, x, h, _ => absurd List.nil_prefix h
 | k :: p, [], t, x, _, h => absurd List.nil_prefix h
 | k :: p, j :: q, t, x, h, h2 => by
  cases ht : t.kid k with
  | none => simp only [T.put, ht]
  | some t' =>
   simp only [T.put, ht, T.nav, Z91 ht]
   by_cases hj : j = k
   ·subst hj
    simp only [if_true, ht, Y86]
    exact Zbl p q t' x (fun e => h (by simpa using e)) (fun e => h2 (by simpa using e))
   ·simp only [if_neg hj]
theorem Za8 (w : World) : ∀ (p q : List Nat) (t x : T) (b o : Nat), ¬ p <+: q -> bp w (t.put p x) b o q = bp w t b o q
 | [], q, t, x, b, o, h => absurd List.nil_prefix h
 | k :: p, [], t, x, b, o, _ => by
  have : ∀ t : T, bp w t b o [] = some (b, o) := fun t => by cases t <;> rfl
  rw [this, this]
 | k :: p, j :: q, t, x, b, o, h => by
  cases t
  case a cs =>
   cases ht : cs[k]? with
   | none => simp only [T.put, T.kid, ht]
   | some t' =>
    have hk := (Y36.1 ht).1
    simp only [T.put, T.kid, ht, T.aZ, bp, List.getElem?_set]
    by_cases hj : k = j
    ·subst hj
     simp only [if_true, hk, ht]
     exact Za8 w p q t' x b (o + k) (fun e => h (by simpa using e))
    ·simp only [if_neg hj]
  case l ob sz es =>
   cases ht : es[k]? with
   | none => simp only [T.put, T.kid, ht]
   | some t' =>
    have hk := (Y36.1 ht).1
    simp only [T.put, T.kid, ht, T.aZ, bp, List.getElem?_set]
    by_cases hj : k = j
    ·subst hj
     simp only [if_true, hk, ht]
     cases hc : w.cell? ⟨b, o, none⟩ with
     | none => rfl
     | some v =>
      cases v <;> try rfl
      rename_i A n cap
      cases A with
      | none => rfl
      | some ad => exact Za8 w p q t' x ad.block (ad.off + k * sz) (fun e => h (by simpa using e))
    ·simp only [if_neg hj]
  all_goals rfl
theorem Zd3 (w : World) (c : RC) (v : Value) (p q : List Nat) (x : T) (h : ¬ p <+: q) : place w { c with t := c.t.put p x } v q = place w c v q := by
 obtain ⟨ib, kk, t⟩ := c
 cases ib with
 | true =>
  unfold place
  cases v <;> try rfl
  rename_i a
  cases a with
  | none => rfl
  | some ad => exact Za8 w p q t x ad.block 0 h
 | false =>
  unfold place
  cases v <;> try rfl
  rename_i A n cap
  show cG w (t.put p x) A q = cG w t A q
  cases p with
  | nil => exact absurd List.nil_prefix h
  | cons k p =>
   cases t
   case l ob sz es =>
    cases ht : es[k]? with
    | none => simp only [T.put, T.kid, ht]
    | some t' =>
     have hk := (Y36.1 ht).1
     simp only [T.put, T.kid, ht, T.aZ]
     cases A with
     | none => cases q <;> rfl
     | some ad =>
      cases q with
      | nil => rfl
      | cons j q =>
       simp only [cG, List.getElem?_set]
       by_cases hj : k = j
       ·subst hj
        simp only [if_true, hk, ht]
        exact Za8 w p q t' x ad.block (ad.off + k * sz) (fun e => h (by simpa using e))
       ·simp only [if_neg hj]
   case a cs =>
    simp only [T.put, T.kid]
    cases hcs : cs[k]? <;> rfl
   all_goals rfl
end Go.Wr
namespace Go.Wr
section
variable {X : Cx} {U : Nat -> Prop} {J J' : Nat} {σ σ' σ2 : St} {a a' a2 : Act} {w w' w2 : World} {ow ow' ow2 : Nat -> Ow} {e : Nat} {o : Oper}
def fo (ow : Nat -> Ow) (r n : Nat) (pre p : List Nat) : Nat -> Ow := fun b =>
 match ow b with
 | .own (.ar m) q => if m = n /\ pre <+: q then .own (.sl r) (p ++ q.drop pre.length) else .own (.ar m) q
 | x => x
theorem Z9d {r n : Nat} {pre p : List Nat} : Zs w ow w (fo ow r n pre p) := fun b hb => ⟨by simp [fo, hb], rfl⟩
theorem Z9a {r n b : Nat} {pre p q : List Nat} (hb : ow b = .own (.ar n) (pre ++ q)) : fo ow r n pre p b = .own (.sl r) (p ++ q) := by
 simp [fo, hb]
theorem Z9c {r n b s : Nat} {pre p q : List Nat} (hb : ow b = .own (.sl s) q) : fo ow r n pre p b = .own (.sl s) q := by
 simp [fo, hb]
theorem Z9b {r n b m : Nat} {pre p q : List Nat} (hb : ow b = .own (.ar m) q) (h : ¬ (m = n /\ pre <+: q)) : fo ow r n pre p b = .own (.ar m) q := by
 simp only [fo, hb, if_neg h]
theorem Z99 {r n b i : Nat} {pre p q : List Nat} (h : fo ow r n pre p b = .own (.ar i) q) : ow b = .own (.ar i) q := by
 unfold fo at h
 split at h
 ·split at h
  ·cases h
  ·rename_i h1 _; rw [h1]; exact h
 ·exact h
theorem Ze6 {r n : Nat} {c : RC} {v u : Value} {p pre : List Nat} {x : T} {b o : Nat} (hc : (σ r).rc = some c) (hs : aP X σ a w ow r (σ r) v) (hn : c.t.nav p = some .u) (hm : c.t.cb p = true)
  (hp : p ≠ []) (hpl : place w c v p = some (b, o)) (bD : w.cell? ⟨b, o, none⟩ = some u) (hx : rep X.tab X.mv w ow (some (.ar n, pre)) x [u]) :
  ({ c with t := c.t.put p x } : RC).av.rc = some { c with t := c.t.put p x } /\ aP X σ2 a2 w (fo ow r n pre p) r ({ c with t := c.t.put p x } : RC).av v := by
 refine Zgm hc hs hn (.inr hp) (fun _ => hp) Z9d (fun b' o' vs' h1 h2 h3 => ?_) (fun b' q' hb _ => ⟨Z9c hb, rfl⟩)
 rw [hpl] at h1
 cases h1
 simp only [rep] at h3
 obtain ⟨v', rfl, _⟩ := h3
 have := (h2.cons).1
 rw [bD] at this
 cases this
 rw [Zaz p c.t _ _ hm]
 simp only [Y66]
 exact Zg1 (c := some (.ar n, pre)) (c' := some (.sl r, p)) Z9d x (fun b' q hb => ⟨Z9a hb, rfl⟩) hx
structure fp where
 p : List Nat
 x : T
 n : Nat
 pre : List Nat
def eI : List fp -> T -> Option T
 | [], t => some t
 | l :: ls, t => match t.nav l.p with
  | some .u => if t.cb l.p && !l.p.isEmpty && ls.all (fun m => !(l.p.isPrefixOf m.p)) then eI ls (t.put l.p l.x) else none
  | _ => none
def fp.pc (l m : fp) : Prop := ¬ (m.n = l.n /\ (l.pre <+: m.pre \/ m.pre <+: l.pre))
structure y4 (w : World) (ow ow' : Nat -> Ow) (ls : List fp) : Prop where
 z : Zs w ow w ow'
 sl : ∀ b s q, ow b = .own (.sl s) q -> ow' b = .own (.sl s) q
 rs : ∀ b s q, ow b = .own (.rs s) q -> ow' b = .own (.rs s) q
 no : ∀ b, ow b = .no -> ow' b = .no
 air : ∀ b i q, ow' b = .own (.ar i) q -> ow b = .own (.ar i) q
 out : ∀ b i q, ow b = .own (.ar i) q -> (∀ l ∈ ls, ¬ (i = l.n /\ l.pre <+: q)) -> ow' b = .own (.ar i) q
theorem Zeh {r : Nat} {v : Value} : ∀ (ls : List fp) {σ : St} {c : RC} {ow : Nat -> Ow} {t' : T}, (σ r).rc = some c -> aP X σ a w ow r (σ r) v -> eI ls c.t = some t' ->
  (∀ l ∈ ls, ∃ b o u, place w c v l.p = some (b, o) /\ w.cell? ⟨b, o, none⟩ = some u /\ rep X.tab X.mv w ow (some (.ar l.n, l.pre)) l.x [u]) -> ls.Pairwise fp.pc ->
  ∃ ow', y4 w ow ow' ls /\ ∀ σ2 a2, ({ c with t := t' } : RC).av.rc = some { c with t := t' } /\ aP X σ2 a2 w ow' r ({ c with t := t' } : RC).av v
 | [], σ, c, ow, t', hc, hs, hp, _, _ => by
  simp only [eI, Y89] at hp
  subst hp
  have hav : ({ c with t := c.t } : RC).av = σ r := by
   obtain ⟨ib, kk, t⟩ := c
   rcases Zen hc with ⟨hb, cs, ht, hv⟩ | ⟨hb, hv⟩
   ·simp only at hb ht
    subst hb ht
    rw [hv]
    rfl
   ·simp only at hb
    subst hb
    rw [hv] at hs ⊢
    simp only [aP] at hs
    obtain ⟨⟨o, sz, es, rfl, ho⟩, _⟩ := hs
    cases o with
    | n => simp [Ob.own] at ho
    | y => rfl
    | m j => rfl
  refine ⟨ow, ⟨fun b hb => ⟨hb, rfl⟩, fun _ _ _ h => h, fun _ _ _ h => h, fun _ h => h, fun _ _ _ h => h, fun _ _ _ h _ => h⟩, fun σ2 a2 => ?_⟩
  rw [hav]
  refine ⟨hc, ?_⟩
  rcases Zen hc with ⟨hb, cs, ht, hv⟩ | ⟨hb, hv⟩ <;> rw [hv] at hs ⊢ <;> exact hs
 | l :: ls, σ, c, ow, t', hc, hs, hp, hl, hpw => by
  simp only [eI] at hp
  split at hp
  ·rename_i hn
   split at hp
   ·rename_i eG
    simp only [Y2, Y11, List.isEmpty_eq_false_iff, ne_eq, Y18] at eG
    obtain ⟨⟨hm, hne⟩, cc⟩ := eG
    obtain ⟨b, o, u, h1, h2, h3⟩ := hl l Y57
    have key := fun σ2 a2 => Ze6 (σ2 := σ2) (a2 := a2) hc hs hn hm hne h1 h2 h3
    rw [Y67] at hpw
    obtain ⟨hrc, _⟩ := key σ a
    obtain ⟨_, gi⟩ := key (upd σ r ({ c with t := c.t.put l.p l.x } : RC).av) a
    obtain ⟨ow', hL, gx⟩ := Zeh (r := r) (v := v) ls (σ := upd σ r ({ c with t := c.t.put l.p l.x } : RC).av) (c := { c with t := c.t.put l.p l.x }) (ow := fo ow r l.n l.pre l.p) (t' := t') (by simpa [upd] using hrc) (by simpa [upd] using gi) hp
     (fun m hmm => by
      obtain ⟨b2, o2, u2, g1, g2, g3⟩ := hl m (Y56 _ hmm)
      have lW : ¬ l.p <+: m.p := fun hh => by
       have := cc m hmm
       rw [List.isPrefixOf_iff_prefix.2 hh] at this
       cases this
      refine ⟨b2, o2, u2, by rw [Zd3 w c v l.p m.p l.x lW]; exact g1, g2, ?_⟩
      refine Zg1 (c := some (.ar m.n, m.pre)) (c' := some (.ar m.n, m.pre)) Z9d m.x (fun b' q hb => ⟨Z9b hb fun hh => ?_, rfl⟩) g3
      refine hpw.1 m hmm ⟨hh.1, ?_⟩
      exact (List.prefix_or_prefix_of_prefix hh.2 (List.prefix_append m.pre q)))
     hpw.2
    refine ⟨ow', ⟨fun b hb => ?_, fun b s q hb => hL.sl b s q (Z9c hb), fun b s q hb => hL.rs b s q (by simp [fo, hb]), fun b hb => hL.no b (by simp [fo, hb]), fun b i q hb => Z99 (hL.air b i q hb), fun b i q hb gP => ?_⟩, gx⟩
    ·exact hL.z b (Z9d (w := w) b hb).1
    ·exact hL.out b i q (Z9b hb (gP l Y57)) fun m hm' => gP m (Y56 _ hm')
   ·cases hp
  ·cases hp
def Top (t t' : T) : Prop := (∀ o sz es', t' = .l o sz es' -> ∃ es, t = .l o sz es /\ es.length = es'.length) /\ (∀ cs', t' = .a cs' -> ∃ cs, t = .a cs)
theorem Zec {t x : T} {p : List Nat} (hp : p ≠ []) : Top t (t.put p x) := by
 obtain ⟨k, p, rfl⟩ : ∃ k q, p = k :: q := by
  cases p with
  | nil => exact absurd rfl hp
  | cons k q => exact ⟨k, q, rfl⟩
 simp only [T.put]
 cases ht : t.kid k with
 | none => exact ⟨fun o sz es' h => ⟨es', h, rfl⟩, fun cs' h => ⟨cs', h⟩⟩
 | some t' =>
  cases t <;> simp only [T.kid, reduceCtorEq] at ht
  case a cs => exact ⟨fun o sz es' h => by simp [T.aZ] at h, fun cs' h => ⟨cs, rfl⟩⟩
  case l o sz es =>
   refine ⟨fun o' sz' es' h => ?_, fun cs' h => by simp [T.aZ] at h⟩
   simp only [T.aZ, T.l.injEq] at h
   obtain ⟨rfl, rfl, rfl⟩ := h
   exact ⟨es, rfl, by simp⟩
theorem Zej : ∀ (ls : List fp) {t t' : T}, eI ls t = some t' -> Top t t'
 | [], t, t', h => by
  simp only [eI, Y89] at h
  subst h
  exact ⟨fun o sz es' h => ⟨es', h, rfl⟩, fun cs' h => ⟨cs', h⟩⟩
 | l :: ls, t, t', h => by
  simp only [eI] at h
  split at h
  ·split at h
   ·rename_i eG
    simp only [Y2, Y11, List.isEmpty_eq_false_iff, ne_eq] at eG
    have h1 := Zec (t := t) (x := l.x) eG.1.2
    have h2 := Zej ls h
    refine ⟨fun o sz es' he => ?_, fun cs' he => ?_⟩
    ·obtain ⟨es2, e1, e2⟩ := h2.1 o sz es' he
     obtain ⟨es, e3, e4⟩ := h1.1 o sz es2 e1
     exact ⟨es, e3, e4.trans e2⟩
    ·obtain ⟨cs2, e1⟩ := h2.2 cs' he
     exact h1.2 cs2 e1
   ·cases h
  ·cases h
theorem Z90 {r : Nat} {c : RC} {t' : T} (he : ¬ U e) (hc : (σ r).rc = some c) (hc' : (σ' r).rc = some { c with k := ⟨c.k.e, e, e⟩, t := t' }) (ht : Top c.t t') : aQ U σ a w σ' a w r := by
 have no1 : ∀ (k : K), U k.h -> ∀ n, 1 <= n -> K.ok ⟨c.k.e, e, e⟩ k n = true -> False := fun k hU n hn hk => by
  obtain ⟨n, rfl⟩ : ∃ m, n = m + 1 := ⟨n - 1, by omega⟩
  cases n with
  | zero =>
   simp only [K.ok, Y2, beq_iff_eq] at hk
   exact he (hk.2 ▸ hU)
  | succ n =>
   simp only [K.ok, Y2, beq_iff_eq] at hk
   exact he (hk.1.2 ▸ hU)
 have k0 : ∀ k : K, K.ok ⟨c.k.e, e, e⟩ k 0 = true -> c.k.ok k 0 = true := fun k hk => by simpa [K.ok] using hk
 obtain ⟨ib, kk, t⟩ := c
 constructor
 ·intro k p bo c2 u1 u2 u3 hc2 hk hp
  rw [hc'] at hc2
  cases hc2
  refine ⟨⟨ib, kk, t⟩, hc, ?_⟩
  rcases ib with _ | _
  ·-- a slice of L4 own
   rcases p with _ | ⟨i, _ | ⟨j, p⟩⟩
   ·exact (no1 k u2 2 (by omega) hk).elim
   ·refine ⟨k0 k hk, ?_⟩
    generalize aK a r = v at hp ⊢
    cases v <;> simp only [place, reduceCtorEq] at hp ⊢
    rename_i A n cap
    cases t' <;> simp only [cG, reduceCtorEq] at hp
    rename_i o sz es'
    obtain ⟨es, rfl, hl⟩ := ht.1 o sz es' rfl
    cases A with
    | none => simp [cG] at hp
    | some ad =>
     simp only [cG] at hp ⊢
     have nK : ∀ (t : T) (b o : Nat), bp w t b o [] = some (b, o) := fun t b o => by cases t <;> rfl
     cases h1 : es'[i]? with
     | none => simp [h1] at hp
     | some t1 =>
      obtain ⟨t2, h2⟩ : ∃ t2, es[i]? = some t2 := ⟨_, Y34 (by have := (Y36.1 h1).1; omega)⟩
      simp only [h1, h2, nK] at hp ⊢
      exact hp
   ·exact (no1 k u2 2 (by omega) hk).elim
  ·rcases p with _ | ⟨i, p⟩
   ·refine ⟨k0 k hk, ?_⟩
    have nK : ∀ (t : T) (b o : Nat), bp w t b o [] = some (b, o) := fun t b o => by cases t <;> rfl
    generalize aK a r = v at hp ⊢
    cases v <;> simp only [place, reduceCtorEq] at hp ⊢
    rename_i A
    cases A with
    | none => simp at hp
    | some ad => simp only [nK] at hp ⊢; exact hp
   ·exfalso
    refine no1 k u2 _ ?_ hk
    rcases p with _ | ⟨j, _ | ⟨l, p⟩⟩ <;> simp [fh]
 ·intro k p o' sz es' A N C c2 u1 u2 u3 hc2 hk hn hh
  rw [hc'] at hc2
  cases hc2
  rcases ib with _ | _
  ·rcases p with _ | ⟨i, p⟩
   ·simp only [T.nav, Y89] at hn
    obtain ⟨es, h1, h2⟩ := ht.1 o' sz es' hn
    exact ⟨_, o', es, hc, k0 k hk, by simp only [T.nav]; exact congrArg some h1, h2, by simpa [hdr] using hh⟩
   ·exfalso
    refine no1 k u2 _ ?_ hk
    simp [dl]
  ·exfalso
   refine no1 k u2 _ ?_ hk
   rcases p with _ | ⟨i, _ | ⟨j, p⟩⟩ <;> simp [dl]
 ·intro k p cs' c2 u1 u2 u3 hc2 hk hn
  rw [hc'] at hc2
  cases hc2
  rcases ib with _ | _
  ·rcases p with _ | ⟨i, p⟩
   ·simp only [T.nav, Y89] at hn
    obtain ⟨cs, h1⟩ := ht.2 cs' hn
    exact ⟨_, cs, hc, k0 k hk, by simp only [T.nav]; exact congrArg some h1⟩
   ·exfalso
    refine no1 k u2 _ ?_ hk
    simp [dl]
  ·exfalso
   refine no1 k u2 _ ?_ hk
   rcases p with _ | ⟨i, _ | ⟨j, p⟩⟩ <;> simp [dl]
theorem Z7c (h : Rel X U J σ a w ow) {U' : Nat -> Prop} (hU : ∀ x, U x -> U' x) {r : Nat} {v' : AV} (gi : aP X (upd σ r v') a w ow' r v' (aK a r)) (hst : v'.stamps U') (hz : Zs w ow w ow')
  (gL : ∀ b s q, s ≠ r -> ow b = .own (.sl s) q -> ow' b = .own (.sl s) q) (hno : ∀ b, ow b = .no -> ow' b = .no) (bF : ∀ b i q, ow' b = .own (.ar i) q -> i < J')
  (hrk : aQ U σ a w (upd σ r v') a w r) (hne : σ r ≠ .u) (hnt : ∀ n, σ r ≠ .tup n) : Rel X U' J' (upd σ r v') a w ow' /\ ∀ r', aQ U σ a w (upd σ r v') a w r' := by
 have cc : ∀ r', aQ U σ a w (upd σ r v') a w r' := fun r' => by
  by_cases hr : r' = r
  ·subst hr; exact hrk
  ·exact Zer (h.slot r') (by simp [upd, hr]) rfl hz (fun _ _ _ => rfl)
 refine ⟨⟨h.size, h.small, h.defers, fun s => ?_, fun s => ?_, fun b hb => h.low b fun e => hb (hno b e), bF, h.grown, fun b hb hr => ?_, h.os, h.output, h.bu, fun s hs hu => ?_⟩, cc⟩
 ·by_cases hs : s = r
  ·subst hs; simpa [upd] using gi
  ·have := Zj6 (σ' := upd σ r v') (a' := a) (h.slot s) (h.bZ s) hz cc (fun b q hb => ⟨gL b s q hs hb, rfl⟩)
   simpa [upd, hs] using this
 ·by_cases hs : s = r
  ·subst hs; simpa [upd] using hst
  ·simpa [upd, hs] using AV.dR hU (h.bZ s)
 ·obtain ⟨h1, h2⟩ := h.same b hb hr
  refine ⟨h1, ?_⟩
  cases h3 : ow b with
  | no => rw [hno b h3, <- h2, h3]
  | z => rw [(hz b h3).1, <- h2, h3]
  | own r' q => rw [h3] at h2; exact absurd h2.symm (hr r' q)
 ·obtain ⟨n, h1, h2⟩ := h.gI s hs (by
   by_cases hsr : s = r
   ·subst hsr; exact hne
   ·simpa [upd, hsr] using hu)
  refine ⟨n, ?_, h2⟩
  have : s % 1000 ≠ r := fun e => hnt n (e ▸ h1)
  simpa [upd, this] using h1
theorem Zj5 {r : Nat} {c : RC} {k : K} {v : Value} (h : aP X σ a w ow r c.av v) : aP X σ a w ow r ({ c with k := k } : RC).av v := by
 obtain ⟨ib, kk, t⟩ := c
 cases ib <;> cases t <;> try exact h
 rename_i o sz es
 cases o <;> exact h
theorem Lv {c : RC} {k : K} (h : c.av.rc = some c) : ({ c with k := k } : RC).av.rc = some { c with k := k } := by
 obtain ⟨ib, kk, t⟩ := c
 cases ib <;> cases t <;> simp only [RC.av, AV.rc, reduceCtorEq] at h ⊢
 rename_i o sz es
 cases o <;> simp only [AV.rc, reduceCtorEq] at h ⊢
theorem Zdd (h : Rel X U J σ a w ow) (he : ¬ U e) {r : Nat} {c : RC} {ls : List fp} {t' : T} (hc : (σ r).rc = some c) (hp : eI ls c.t = some t')
  (hl : ∀ l ∈ ls, ∃ b o u, place w c (aK a r) l.p = some (b, o) /\ w.cell? ⟨b, o, none⟩ = some u /\ rep X.tab X.mv w ow (some (.ar l.n, l.pre)) l.x [u]) (hpw : ls.Pairwise fp.pc) :
  ∃ ow', y4 w ow ow' ls /\ Rel X (fun x => U x \/ x = e) J (upd σ r ({ c with k := ⟨c.k.e, e, e⟩, t := t' } : RC).av) a w ow' /\
   ∀ r', aQ U σ a w (upd σ r ({ c with k := ⟨c.k.e, e, e⟩, t := t' } : RC).av) a w r' := by
 obtain ⟨ow', hL, gx⟩ := Zeh ls hc (h.slot r) hp hl hpw
 obtain ⟨h1, h2⟩ := gx (upd σ r ({ c with k := ⟨c.k.e, e, e⟩, t := t' } : RC).av) a
 have h3 := Lv (k := ⟨c.k.e, e, e⟩) h1
 have h4 := Zj5 (k := ⟨c.k.e, e, e⟩) h2
 refine ⟨ow', hL, Z7c h (fun x hx => .inl hx) h4 ?_ hL.z (fun b s q _ hb => hL.sl b s q hb) hL.no (fun b i q hb => h.air b i q (hL.air b i q hb)) ?_ (Zeo hc).1 (Zeo hc).2⟩
 ·have hst := h.bZ r
  have hke : U c.k.e := by
   rcases Zen hc with ⟨hb, cs, ht, hσ⟩ | ⟨hb, hσ⟩ <;> rw [hσ] at hst <;> exact hst.1
  generalize hav : ({ c with k := ⟨c.k.e, e, e⟩, t := t' } : RC).av = av at h3
  cases av <;> simp only [AV.rc, reduceCtorEq, Y89] at h3 <;> simp only [AV.stamps]
  all_goals
   have hkk := congrArg RC.k h3
   simp only at hkk
   rw [hkk]; exact ⟨.inl hke, .inr rfl, .inr rfl⟩
 ·exact Z90 he hc (by simpa [upd] using h3) (Zej ls hp)
end
end Go.Wr
namespace Go.Wr
section
variable {X : Cx} {U : Nat -> Prop} {J J' : Nat} {σ σ' σ2 : St} {a a' a2 : Act} {w w' w2 : World} {ow ow' ow2 : Nat -> Ow} {e : Nat} {o : Oper}
def dN (ow : Nat -> Ow) (g : Nat -> Option (Nat × List Nat)) : Nat -> Ow := fun b =>
 match ow b with
 | .own (.ar i) q => match g i with
  | some (n, pre) => .own (.ar n) (pre ++ q)
  | none => .own (.ar i) q
 | x => x
theorem Zf0 {g : Nat -> Option (Nat × List Nat)} : Zs w ow w (dN ow g) := fun b hb => ⟨by simp [dN, hb], rfl⟩
theorem Zew {g : Nat -> Option (Nat × List Nat)} {i n b : Nat} {pre q : List Nat} (hg : g i = some (n, pre)) (hb : ow b = .own (.ar i) q) : dN ow g b = .own (.ar n) (pre ++ q) := by
 simp [dN, hb, hg]
theorem Zez {g : Nat -> Option (Nat × List Nat)} {b s : Nat} {q : List Nat} (hb : ow b = .own (.sl s) q) : dN ow g b = .own (.sl s) q := by
 simp [dN, hb]
theorem Zey (h : Rel X U J σ a w ow) {g : Nat -> Option (Nat × List Nat)} (hJ : J <= J') (hg : ∀ i n pre, g i = some (n, pre) -> n < J') : Rel X U J' σ a w (dN ow g) := by
 have cc : ∀ r, aQ U σ a w σ a w r := fun r => Zer (h.slot r) rfl rfl (Zf0 (g := g)) (fun _ _ _ => rfl)
 refine ⟨h.size, h.small, h.defers, fun s => ?_, h.bZ, fun b hb => h.low b fun e => hb (by simp [dN, e]), fun b i q hb => ?_, h.grown, fun b hb hr => ?_, h.os, h.output, h.bu, h.gI⟩
 ·exact Zj6 (h.slot s) (h.bZ s) Zf0 cc (fun b q hb => ⟨Zez hb, rfl⟩)
 ·unfold dN at hb
  split at hb
  ·rename_i m q2 hm
   split at hb
   ·rename_i n pre hgm
    cases hb
    exact hg _ _ _ hgm
   ·cases hb
    exact Y78 (h.air b _ _ hm) hJ
  ·exact Y78 (h.air b i q hb) hJ
 ·obtain ⟨h1, h2⟩ := h.same b hb hr
  refine ⟨h1, ?_⟩
  unfold dN
  split
  ·rename_i m q2 hm
   rw [hm] at h2
   exact absurd h2.symm (hr _ _)
  ·exact h2
end
end Go.Wr
namespace Go.Wr
def cO (n : Nat) (mu : Bool) : Nat -> List (Option (Nat × List Nat)) -> List T -> List fp
 | k, some (_, p) :: ps, t :: ts => ⟨p, t, n, if mu then [] else [k]⟩ :: cO n mu (k + 1) ps ts
 | k, none :: ps, _ :: ts => cO n mu (k + 1) ps ts
 | _, _, _ => []
theorem Z9w {n : Nat} {mu : Bool} {q : List Nat -> Bool} : ∀ (ps : List (Option (Nat × List Nat))) (ts : List T) (k : Nat), (cO n mu k ps ts).all (fun m => q m.p) = (dH ps ts).all fun m => q m.1
 | [], ts, k => by simp [cO, dH]
 | some (r, p) :: ps, [], k => by simp [cO, dH]
 | none :: ps, [], k => by simp [cO, dH]
 | some (r, p) :: ps, t :: ts, k => by simp [cO, dH, Z9w ps ts (k + 1)]
 | none :: ps, t :: ts, k => by simp [cO, dH, Z9w ps ts (k + 1)]
theorem Z9z {n : Nat} {mu : Bool} : ∀ (ps : List (Option (Nat × List Nat))) (ts : List T) (k : Nat) (t : T), eI (cO n mu k ps ts) t = fJ (dH ps ts) t
 | [], ts, k, t => by simp [cO, dH, eI, fJ]
 | some (r, p) :: ps, [], k, t => by simp [cO, dH, eI, fJ]
 | none :: ps, [], k, t => by simp [cO, dH, eI, fJ]
 | none :: ps, x :: ts, k, t => by simp only [cO, dH]; exact Z9z ps ts (k + 1) t
 | some (r, p) :: ps, x :: ts, k, t => by
  simp only [cO, dH, eI, fJ]
  rw [Z9w (q := fun m => !(p.isPrefixOf m)) ps ts (k + 1), Z9z ps ts (k + 1)]
  cases h : t.nav p with
  | none => rfl
  | some node => cases node <;> rfl
theorem Z9y {n : Nat} {mu : Bool} {l : fp} : ∀ (ps : List (Option (Nat × List Nat))) (ts : List T) (k : Nat), l ∈ cO n mu k ps ts -> ∃ (j : Nat) (r : Nat) (x : T), ps[j]? = some (some (r, l.p)) /\ ts[j]? = some x /\ l.x = x /\ l.n = n /\ l.pre = if mu then [] else [k + j]
 | [], ts, k, h => by simp [cO] at h
 | some (r, p) :: ps, [], k, h => by simp [cO] at h
 | none :: ps, [], k, h => by simp [cO] at h
 | none :: ps, x :: ts, k, h => by
  simp only [cO] at h
  obtain ⟨j, r, y, h1, h2, h3, h4, h5⟩ := Z9y ps ts (k + 1) h
  exact ⟨j + 1, r, y, by simpa using h1, by simpa using h2, h3, h4, by rw [h5, show k + 1 + j = k + (j + 1) by omega]⟩
 | some (r, p) :: ps, x :: ts, k, h => by
  simp only [cO, Y55] at h
  rcases h with rfl | h
  ·exact ⟨0, r, x, rfl, rfl, rfl, rfl, rfl⟩
  ·obtain ⟨j, r, y, h1, h2, h3, h4, h5⟩ := Z9y ps ts (k + 1) h
   exact ⟨j + 1, r, y, by simpa using h1, by simpa using h2, h3, h4, by rw [h5, show k + 1 + j = k + (j + 1) by omega]⟩
theorem Z9x {n : Nat} : ∀ (ps : List (Option (Nat × List Nat))) (ts : List T) (k : Nat), (cO n false k ps ts).Pairwise fp.pc
 | [], ts, k => by simp [cO]
 | some (r, p) :: ps, [], k => by simp [cO]
 | none :: ps, [], k => by simp [cO]
 | none :: ps, x :: ts, k => by simp only [cO]; exact Z9x ps ts (k + 1)
 | some (r, p) :: ps, x :: ts, k => by
  simp only [cO, Y67]
  refine ⟨fun l hl => ?_, Z9x ps ts (k + 1)⟩
  obtain ⟨j, _, _, _, _, _, _, h5⟩ := Z9y ps ts (k + 1) hl
  unfold fp.pc
  rw [h5]
  rintro ⟨_, h | h⟩ <;> simp at h <;> omega
theorem Ze5 : ∀ (m p : List Nat) (t x y : T), m <+: p -> m ≠ p -> t.nav p = some y -> (t.put p x).nav m ≠ some .u
 | [], [], t, x, y, _, h, _ => absurd rfl h
 | [], k :: p, t, x, y, _, _, hn => by
  simp only [T.nav] at hn ⊢
  cases t <;> simp only [T.kid, Y85, reduceCtorEq] at hn
  ·simp only [T.put, T.kid]
   split <;> simp [T.aZ]
  ·simp only [T.put, T.kid]
   split <;> simp [T.aZ]
 | j :: m, [], t, x, y, hp, _, _ => by simp at hp
 | j :: m, k :: p, t, x, y, hp, hne, hn => by
  rw [List.cons_prefix_cons] at hp
  obtain ⟨rfl, hp⟩ := hp
  simp only [T.nav] at hn
  cases hk : t.kid j with
  | none => simp [hk] at hn
  | some c =>
   rw [hk, Y86] at hn
   have lO : m ≠ p := fun e => hne (by rw [e])
   have ih := Ze5 m p c x y hp lO hn
   simp only [T.put, hk, T.nav]
   have : (t.aZ j (c.put p x)).kid j = some (c.put p x) := by
    cases t <;> simp only [T.kid, reduceCtorEq] at hk <;> simp only [T.aZ, T.kid] <;> rw [Y39 (Y36.1 hk).1]
   rw [this, Y86]
   exact ih
theorem Zee : ∀ (ls : List fp) {t t' : T}, eI ls t = some t' -> ∀ l ∈ ls, t.nav l.p = some .u /\ l.p ≠ []
 | [], t, t', _, l, hl => by cases hl
 | m :: ls, t, t', h, l, hl => by
  simp only [eI] at h
  split at h
  ·rename_i hn
   split at h
   ·rename_i hc
    simp only [Y2, Y11, Y18] at hc
    have hne : m.p ≠ [] := fun e => by simp [e] at hc
    rcases Y55.1 hl with rfl | hl'
    ·exact ⟨hn, hne⟩
    ·obtain ⟨h1, h2⟩ := Zee ls h l hl'
     refine ⟨?_, h2⟩
     have lW : ¬ m.p <+: l.p := fun e => by
      have := hc.2 l hl'
      rw [<- List.isPrefixOf_iff_prefix] at e
      simp [e] at this
     by_cases h3 : l.p <+: m.p
     ·by_cases h4 : l.p = m.p
      ·rw [h4] at lW; exact absurd (List.prefix_refl _) lW
      ·exact absurd h1 (Ze5 _ _ _ _ _ h3 h4 hn)
     ·rw [Zbl _ _ _ _ lW h3] at h1
      exact h1
   ·cases h
  ·cases h
end Go.Wr
namespace Go.Wr
section
variable {X : Cx} {U : Nat -> Prop} {J J' : Nat} {σ σ' σ2 : St} {a a' a2 : Act} {w w' w2 : World} {ow ow' ow2 : Nat -> Ow} {e : Nat} {o : Oper}
def dD (ow : Nat -> Ow) (n : Nat) : Nat -> Ow := fun b =>
 match ow b with
 | .z => .z
 | .own (.ar j) q => if j = n then .own (.ar 0) q else .no
 | _ => .no
def j8 (n base : Nat) : Ow -> Ow
 | .z => .z
 | .own (.rs j) q => .own (.ar (base + j)) q
 | .own (.ar i) q => if i = 0 then .own (.ar n) q else .no
 | _ => .no
def ei (ow : Nat -> Ow) (n base : Nat) (ow' : Nat -> Ow) : Nat -> Ow := fun b =>
 match ow b with
 | .own (.sl s) q => .own (.sl s) q
 | _ => j8 n base (ow' b)
theorem Z27 {n : Nat} : Zs w ow w (dD ow n) := fun b hb => ⟨by simp [dD, hb], rfl⟩
theorem Z23 {n b : Nat} {q : List Nat} (hb : ow b = .own (.ar n) q) : dD ow n b = .own (.ar 0) q := by simp [dD, hb]
theorem Z24 {n b : Nat} (hb : dD ow n b ≠ .no) : ow b ≠ .no := fun e => hb (by simp [dD, e])
theorem Z26 {n b : Nat} {r : aH} {q : List Nat} (hb : dD ow n b = .own r q) : r = .ar 0 := by
 unfold dD at hb
 split at hb
 ·cases hb
 ·split at hb
  ·cases hb; rfl
  ·cases hb
 ·cases hb
section
variable {n base : Nat} {as : List Arg} {vs : List Value} {out : Out} {v : Value} (h : Rel X U J σ a w ow) (hA : gS X.tab as vs out w (dD ow n) w' ow' v)
include h hA
theorem mo {s b : Nat} {q : List Nat} (hb : ow b = .own (.sl s) q) : w'.heap[b]? = w.heap[b]? /\ ow' b = .no := by
 obtain ⟨h1, h2⟩ := hA.no b (h.low b (by rw [hb]; simp)) (by simp [dD, hb])
 exact ⟨h2, h1⟩
theorem Z18 {b : Nat} (hb : ow' b ≠ .no) : ei ow n base ow' b = j8 n base (ow' b) := by
 unfold ei
 split
 ·rename_i s q hs
  exact absurd (mo h hA hs).2 hb
 ·rfl
theorem Z19 : Zs w' ow' w' (ei ow n base ow') := fun b hb => ⟨by rw [Z18 h hA (by rw [hb]; simp), hb]; rfl, rfl⟩
theorem Zl1 : Zs w ow w' (ei ow n base ow') := fun b hb => by
 obtain ⟨h1, h2⟩ := hA.z b (by simp [dD, hb])
 exact ⟨(Z19 h hA b h1).1, h2⟩
theorem Zl0 (b : Nat) (hlt : b < w.heap.size) (hb : ow b = .no) : ei ow n base ow' b = .no /\ w'.heap[b]? = w.heap[b]? := by
 have _ := h
 obtain ⟨h1, h2⟩ := hA.no b hlt (by simp [dD, hb])
 exact ⟨by simp [ei, hb, h1, j8], h2⟩
theorem Z25 (hn : n < J) : Rel X U (J + out.res.length) σ a w' (ei ow n J ow') := by
 have hz := Zl1 (base := J) h hA
 have cc : ∀ r, aQ U σ a w σ a w' r := fun r => Zer (h.slot r) rfl rfl hz (fun b q hb => (mo h hA hb).1)
 refine ⟨h.size, h.small, h.defers, fun s => ?_, h.bZ, fun b hb => ?_, fun b i q hb => ?_, Y77 h.grown hA.grown, fun b hb hr => ?_, hA.os.trans h.os, hA.output.trans h.output, h.bu, h.gI⟩
 ·exact Zj6 (h.slot s) (h.bZ s) hz cc (fun b q hb => ⟨by simp [ei, hb], (mo h hA hb).1⟩)
 ·by_cases hb2 : ow' b = .no
  ·have : ow b ≠ .no := fun e => by
    by_cases hlt : b < w.heap.size
    ·exact hb (Zl0 h hA b hlt e).1
    ·exact hb (by simp [ei, e, hb2, j8])
   exact Y78 (h.low b this) hA.grown
  ·exact hA.low b hb2
 ·unfold ei at hb
  split at hb
  ·cases hb
  ·cases ho : ow' b with
   | z => rw [ho] at hb; cases hb
   | no => rw [ho] at hb; cases hb
   | own r q2 =>
    rw [ho] at hb
    cases r with
    | sl s => cases hb
    | ar i2 =>
     simp only [j8] at hb
     split at hb
     ·cases hb; omega
     ·cases hb
    | rs j =>
     simp only [j8, Ow.own.injEq, aH.ar.injEq] at hb
     have := hA.rs b j q2 ho
     omega
 ·exact Zi3 hz (fun b hlt hb2 => Zl0 h hA b hlt hb2) (Y78 hb h.grown) (h.same b hb hr) hr
end
theorem K.Cm (k : K) (n : Nat) : k.ok k n = true := by
 cases n with
 | zero => simp [K.ok]
 | succ n => cases n <;> simp [K.ok]
theorem Z6c (h : Rel X U J σ a w ow) {r : Nat} {k : K} {p : List Nat} {z n : Nat} {v : Value} (hv : dc σ a w r k p z 0 n v) {c : RC} (hc : (σ r).rc = some c) (hk : c.k.ok k (dl c.bi p) = true) {ob : Ob} {sz : Nat} {es : List T}
  (hn : c.t.nav p = some (.l ob sz es)) (hl : es.length = n) (hp : p ≠ []) : ∃ bo, place w c (aK a r) p = some bo /\ w.cell? ⟨bo.1, bo.2, none⟩ = some v := by
 obtain ⟨bz, hh, bG⟩ := Zgh (w := w) (v := aK a r) hc (h.slot r) hn
 obtain ⟨A, C, rfl⟩ : ∃ A C, bz = .slice A es.length C := by
  obtain ⟨A, C, e, _⟩ := Zfu bG
  exact ⟨A, C, by simpa using e⟩
 obtain ⟨_, _, gN⟩ := (hv.2 c hc hk).2 ob sz es hn _ _ _ hh
 obtain ⟨A1, N1, C1, A2, c2, e3, e4, _, _, _, gx⟩ := gN
 cases e3
 have hvv := gx rfl hl.symm
 unfold hdr at hh
 have hpe : p.isEmpty = false := by cases p with | nil => exact absurd rfl hp | cons _ _ => rfl
 rw [hpe, Y3] at hh
 simp only [Y9, if_false] at hh
 split at hh
 ·rename_i bo hbo
  exact ⟨bo, hbo, by rw [hh, hvv]⟩
 ·cases hh
theorem Zcz {σ1 : St} {ow1 : Nat -> Ow} {J1 : Nat} (h : Rel X U J σ a w ow) (hg : Gh X U J J1 σ a w ow σ1 ow1) {r : Nat} {c c1 : RC} {p : List Nat} {bo : Nat × Nat} {v : Value} (hc : (σ r).rc = some c) (hc1 : (σ1 r).rc = some c1)
  (hpl : place w c (aK a r) p = some bo) (bD : w.cell? ⟨bo.1, bo.2, none⟩ = some v) (hn : c1.t.nav p = some .u) (hp : p ≠ []) (hz : ∀ b, ow1 b = .z -> w'.heap[b]? = w.heap[b]?) (ho : ∀ b q, ow1 b = .own (.sl r) q -> w'.heap[b]? = w.heap[b]?) :
  place w' c1 (aK a r) p = some bo /\ w'.cell? ⟨bo.1, bo.2, none⟩ = some v := by
 have h1 := hg.rel
 obtain ⟨b1, o1, vs1, e1, _, _⟩ := Zgj (w := w) (v := aK a r) hc1 (h1.slot r) hn (.inr hp)
 have hst : U c1.k.e /\ U c1.k.h /\ U c1.k.d := by
  have := h1.bZ r
  rcases Zen hc1 with ⟨_, cs, ht, hσ⟩ | ⟨_, hσ⟩ <;> rw [hσ] at this <;> exact this
 obtain ⟨c', hc', _, e2⟩ := (hg.refs r).ptr c1.k p (b1, o1) c1 hst.1 hst.2.1 hst.2.2 hc1 (K.Cm _ _) e1
 rw [hc] at hc'
 cases hc'
 rw [hpl] at e2
 cases e2
 have e3 := Zd4 (w' := w') hc1 (h1.slot r) hz ho p
 refine ⟨by rw [e3, e1], ?_⟩
 have hblk : w'.heap[b1]? = w.heap[b1]? := by
  rcases Zd1 hc1 (h1.slot r) e1 with hb | ⟨q, hb⟩
  ·exact hz _ hb
  ·exact ho _ q hb
 rw [<- bD]
 simp only [World.cell?, hblk]
end
end Go.Wr
namespace Go.Wr
section
variable {X : Cx} {U : Nat -> Prop} {J J' : Nat} {σ σ' σ2 : St} {a a' a2 : Act} {w w' w2 : World} {ow ow' ow2 : Nat -> Ow} {e : Nat} {o : Oper}
theorem Z6e : ∀ (cs : List Cell) {σ σ' : St}, (gh cs).run σ = some ((), σ') -> σ' = σ /\ ∀ (j : Nat) r k p z lo n, cs[j]? = some (.w r k p z lo n) -> ∃ c sz es, (σ r).rc = some c /\ c.k.ok k (dl c.bi p) = true /\ c.t.nav p = some (.l .y sz es) /\ es.length = n
 | [], σ, σ', h => by
  obtain ⟨_, rfl⟩ := Zhk h
  exact ⟨rfl, fun j r k p z lo n hj => by simp at hj⟩
 | .x t :: cs, σ, σ', h => by
  obtain ⟨h1, h2⟩ := Z6e cs (σ := σ) h
  refine ⟨h1, fun j r k p z lo n hj => ?_⟩
  cases j with
  | zero => simp at hj
  | succ j => exact h2 j r k p z lo n (by simpa using hj)
 | .w r k p z lo n :: cs, σ, σ', h => by
  obtain ⟨c, σ1, h1, h2⟩ := Zh3 h
  obtain ⟨rfl, hc, hk⟩ := Zgg h1
  cases hn : c.t.nav p with
  | none => simp [hn, Pg.run] at h2
  | some node =>
   simp only [hn] at h2
   cases node <;> try simp only [Pg.run, reduceCtorEq] at h2
   rename_i ob sz es
   cases ob <;> try simp only [Pg.run, reduceCtorEq] at h2
   split at h2
   ·rename_i hl
    obtain ⟨h3, h4⟩ := Z6e cs h2
    refine ⟨h3, fun j r' k' p' z' lo' n' hj => ?_⟩
    cases j with
    | zero =>
     simp only [Y32, Y89, Cell.w.injEq] at hj
     obtain ⟨rfl, rfl, rfl, rfl, rfl, rfl⟩ := hj
     exact ⟨c, sz, es, hc, hk, hn, hl⟩
    | succ j => exact h4 j r' k' p' z' lo' n' (by simpa using hj)
   ·simp [Pg.run] at h2
theorem Z2k : ∀ {cs : List Cell} {ps : List (Option (Nat × List Nat))}, cV cs = some ps -> cs.length = ps.length /\ ∀ (j : Nat) r p, ps[j]? = some (some (r, p)) -> ∃ k z n, cs[j]? = some (.w r k p z 0 n)
 | [], ps, h => by
  simp only [cV, Y89] at h
  subst h
  exact ⟨rfl, fun j r p hj => by simp at hj⟩
 | c :: cs, ps, h => by
  simp only [cV] at h
  cases h1 : eK c with
  | none => simp [h1] at h
  | some x =>
   cases h2 : cV cs with
   | none => simp [h1, h2] at h
   | some xs =>
    rw [h1, h2] at h
    simp only [Y89] at h
    subst h
    obtain ⟨h3, h4⟩ := Z2k h2
    refine ⟨by simp [h3], fun j r p hj => ?_⟩
    cases j with
    | zero =>
     simp only [Y32, Y89] at hj
     subst hj
     cases c with
     | x t => simp only [eK] at h1; split at h1 <;> cases h1
     | w r' k' p' z' lo n =>
      cases lo with
      | zero =>
       simp only [eK, Y89, Y90] at h1
       obtain ⟨rfl, rfl⟩ := h1
       exact ⟨k', z', n, rfl⟩
      | succ lo => simp [eK] at h1
    | succ j =>
     obtain ⟨k, z, n, h5⟩ := h4 j r p (by simpa using hj)
     exact ⟨k, z, n, by simpa using h5⟩
theorem Zge : ∀ {ps : List (Option (Nat × List Nat))} {r : Nat}, rootOf ps = some r -> ∀ (j : Nat) r' p, ps[j]? = some (some (r', p)) -> r' = r
 | [], r, h, j, r', p, hj => by simp at hj
 | none :: ps, r, h, j, r', p, hj => by
  cases j with
  | zero => simp at hj
  | succ j => exact Zge (ps := ps) (by simpa [rootOf] using h) j r' p (by simpa using hj)
 | some (r1, p1) :: ps, r, h, j, r', p, hj => by
  simp only [rootOf] at h
  split at h
  ·rename_i cc
   simp only [Y89] at h
   subst h
   cases j with
   | zero => simp at hj; exact hj.1.symm
   | succ j =>
    have := Y18.1 cc _ (Y62 (show ps[j]? = some (some (r', p)) by simpa using hj))
    simpa using this
  ·cases h
def gM (ix : Nat -> Nat) (len n : Nat) (mu : Bool) (i : Nat) : Option (Nat × List Nat) :=
 match (List.range len).find? (fun j => ix j == i) with
 | some j => some (n, if mu then [] else [j])
 | none => none
theorem Z70 {ix : Nat -> Nat} {len n j : Nat} {mu : Bool} (po : ∀ i j, i < len -> j < len -> ix i = ix j -> i = j) (hj : j < len) : gM ix len n mu (ix j) = some (n, if mu then [] else [j]) := by
 unfold gM
 cases h : (List.range len).find? (fun i => ix i == ix j) with
 | none =>
  have := List.find?_eq_none.1 h j (Y64.2 hj)
  simp at this
 | some i =>
  have h1 := Y26 h
  have h2 := Y61 h
  rw [Y64] at h2
  have := po i j h2 hj (by simpa using h1)
  subst this
  rfl
theorem Z71 {ix : Nat -> Nat} {len n i m : Nat} {mu : Bool} {pre : List Nat} (h : gM ix len n mu i = some (m, pre)) : m = n := by
 unfold gM at h
 split at h
 ·simp only [Y89, Y90] at h; exact h.1.symm
 ·cases h
theorem Zex {g : Nat -> Option (Nat × List Nat)} {b : Nat} (h : ow b = .z) : dN ow g b = .z := by simp [dN, h]
end
end Go.Wr
namespace Go.Wr
section
variable {X : Cx} {U : Nat -> Prop} {J J' : Nat} {σ σ' σ2 : St} {a a' a2 : Act} {w w' w2 : World} {ow ow' ow2 : Nat -> Ow} {e : Nat} {o : Oper}
def AV.isW : AV -> Bool
 | .w _ _ _ _ _ _ => true
 | _ => false
def kN (mu : Bool) (v : Value) (us : List Value) : Prop := if mu then us = [v] else ∃ vs : Array Value, v = .agg vs /\ us = vs.toList
theorem Zle (h : Rel X U J σ a w ow) {x : Opd} {u : Value} {v : AV} (bm : cw X U σ a w ow x u v) {ps : List (Option (Nat × List Nat))} {r : Nat} (hpl : jm v = some (ps, r)) :
  ∃ us, kN v.isW u us /\ us = u.cells.toList /\ v.l7.length = ps.length /\ us.length = ps.length /\ (∀ (j : Nat) r' p, ps[j]? = some (some (r', p)) -> r' = r /\ ∃ k z n u', v.l7[j]? = some (.w r' k p z 0 n) /\ us[j]? = some u' /\ dc σ a w r' k p z 0 n u') /\
   (v.isW = true -> ps.length = 1) := by
 unfold jm at hpl
 cases hps : v.pls with
 | none => simp [hps] at hpl
 | some ps' =>
  cases hro : rootOf ps' with
  | none => simp [hps, hro] at hpl
  | some r' =>
   simp only [hps, hro, Y89, Y90] at hpl
   obtain ⟨rfl, rfl⟩ := hpl
   have hrr := Zge hro
   cases v <;> simp only [AV.pls, reduceCtorEq] at hps
   case w r1 k1 p1 z1 lo1 n1 =>
    obtain ⟨hl, dp⟩ := Z2k hps
    obtain ⟨⟨A, C, rfl, _, _⟩, _⟩ := bm.1
    refine ⟨[.slice A n1 C], rfl, by simp [Value.cells], hl, by simpa using hl, fun j rr p hj => ⟨hrr j rr p hj, ?_⟩, fun _ => by simpa using hl.symm⟩
    obtain ⟨k, z, n, hc⟩ := dp j rr p hj
    have hj0 : j = 0 := by
     have := (Y36.1 hc).1
     simp at this; exact this
    subst hj0
    simp only [Y32, Y89, Cell.w.injEq] at hc
    obtain ⟨rfl, rfl, rfl, rfl, rfl, rfl⟩ := hc
    exact ⟨_, _, _, _, rfl, rfl, bm.1⟩
   case st cs =>
    obtain ⟨hl, dp⟩ := Z2k hps
    cases x with
    | k c =>
     obtain ⟨ts, vs, rfl, rfl, _⟩ := bm
     exfalso
     have : ∀ (ts : List T) ps, cV (ts.map .x) = some ps -> rootOf ps = none := by
      intro ts
      induction ts with
      | nil => intro ps h; simp [cV] at h; subst h; rfl
      | cons t ts ih =>
       intro ps h
       simp only [Y50, cV, eK] at h
       by_cases ht : t.scalar = true
       ·rw [if_pos ht] at h
        cases h2 : cV (ts.map .x) with
        | none => simp [h2] at h
        | some xs =>
         rw [h2] at h
         simp only [Y89] at h
         subst h
         exact ih xs h2
       ·rw [if_neg ht] at h; simp at h
     rw [this ts ps' hps] at hro
     cases hro
    | t s =>
     obtain ⟨hs1, rfl, hσ⟩ := bm
     have hs := h.slot s
     rw [hσ] at hs
     obtain ⟨vs, hv, bA⟩ := hs
     have hvl := (Z2i bA).1
     refine ⟨vs.toList, ⟨vs, hv, rfl⟩, by rw [hv]; rfl, hl, by rw [hvl]; exact hl, fun j rr p hj => ⟨hrr j rr p hj, ?_⟩, fun e => by cases e⟩
     obtain ⟨k, z, n, hc⟩ := dp j rr p hj
     have hjl := (Y36.1 hc).1
     have hu : vs.toList[j]? = some (vs.toList[j]'(by rw [hvl]; exact hjl)) := Y34 _
     exact ⟨k, z, n, _, hc, hu, (Z2i bA).2 j _ _ hc hu⟩
end
end Go.Wr
namespace Go.Wr
section
variable {X : Cx} {U : Nat -> Prop} {J J' : Nat} {σ σ' σ2 : St} {a a' a2 : Act} {w w' w2 : World} {ow ow' ow2 : Nat -> Ow} {e : Nat} {o : Oper}
theorem Z7g {tk : Bool} {r : Nat} {k : K} {p : List Nat} {lo n : Nat} {t : T} (h : (dL tk r k p lo n).run σ = some (t, σ')) : ∀ s, s ≠ r -> σ' s = σ s := fun s hs => by
 obtain ⟨c, ob, sz, es, hc, hk, hn, et⟩ := Z7j h
 rcases et with ⟨_, _, rfl⟩ | ⟨_, _, rfl⟩ | ⟨_, _, rfl⟩
 ·rfl
 ·simp [upd, hs]
 ·simp [upd, hs]
theorem Z7e {tk : Bool} {r : Nat} : ∀ (cs : List Cell) {ps : List (Option (Nat × List Nat))} {σ σ' : St} {ts : List T}, cV cs = some ps -> (∀ (j : Nat) r' p, ps[j]? = some (some (r', p)) -> r' = r) -> (cS tk cs).run σ = some (ts, σ') -> ∀ s, s ≠ r -> σ' s = σ s
 | [], ps, σ, σ', ts, hp, hr, h, s, hs => by
  obtain ⟨_, rfl⟩ := Zhk h
  rfl
 | c :: cs, ps, σ, σ', ts, hp, hr, h, s, hs => by
  simp only [cV] at hp
  cases h1 : eK c with
  | none => simp [h1] at hp
  | some x =>
   cases h2 : cV cs with
   | none => simp [h1, h2] at hp
   | some xs =>
    rw [h1, h2] at hp
    simp only [Y89] at hp
    subst hp
    have ih : ∀ {σ1 : St} {ts1 : List T}, (cS tk cs).run σ1 = some (ts1, σ') -> σ' s = σ1 s := fun h3 => Z7e cs h2 (fun j r' p hj => hr (j + 1) r' p (by simpa using hj)) h3 s hs
    cases c with
    | x t =>
     obtain ⟨ts1, σ1, h3, h4⟩ := Zh3 h
     obtain ⟨_, rfl⟩ := Zhk h4
     exact ih h3
    | w r0 k p z lo n =>
     obtain ⟨t1, σ1, h3, h4⟩ := Zh3 h
     obtain ⟨ts1, σ3, h5, h6⟩ := Zh3 h4
     obtain ⟨_, rfl⟩ := Zhk h6
     rw [ih h5]
     have hr0 : r0 = r := by
      cases lo with
      | succ lo => simp [eK] at h1
      | zero =>
       simp only [eK, Y89] at h1
       subst h1
       exact hr 0 r0 p rfl
     exact Z7g h3 s (hr0 ▸ hs)
theorem Z7k {x : Opd} {v : AV} {ps : List (Option (Nat × List Nat))} {r : Nat} {ts : List T} (hv : (raw e x).run σ = some (v, σ)) (hpl : jm v = some (ps, r)) (h : (dz e true x).run σ = some (ts, σ')) : ∀ s, s ≠ r -> σ' s = σ s := by
 unfold jm at hpl
 cases hps : v.pls with
 | none => simp [hps] at hpl
 | some ps' =>
  cases hro : rootOf ps' with
  | none => simp [hps, hro] at hpl
  | some r' =>
   simp only [hps, hro, Y89, Y90] at hpl
   obtain ⟨rfl, rfl⟩ := hpl
   have hrr := Zge hro
   unfold dz at h
   obtain ⟨v2, σ1, h1, h2⟩ := Zh3 h
   rw [hv] at h1
   simp only [Y89, Y90] at h1
   obtain ⟨rfl, rfl⟩ := h1
   cases v <;> simp only [AV.pls, reduceCtorEq] at hps
   case w r1 k1 p1 z1 lo1 n1 =>
    obtain ⟨t1, σ2, h3, h4⟩ := Zh3 h2
    obtain ⟨_, rfl⟩ := Zhk h4
    obtain ⟨hl, dp⟩ := Z2k hps
    have hr1 : r1 = r' := by
     cases lo1 with
     | succ lo => simp [cV, eK] at hps
     | zero =>
      simp only [cV, eK, Y89] at hps
      subst hps
      exact hrr 0 r1 p1 rfl
    exact fun s hs => Z7g h3 s (hr1 ▸ hs)
   case st cs =>
    have hno : cs.any Cell.fy = false := by
     rw [List.any_eq_false]
     intro c hc
     have : ∀ (cs : List Cell) ps, cV cs = some ps -> ∀ c ∈ cs, c.fy = false := by
      intro cs
      induction cs with
      | nil => intro ps _ c hc; cases hc
      | cons c cs ih =>
       intro ps h c' hc'
       simp only [cV] at h
       cases h1 : eK c with
       | none => simp [h1] at h
       | some x =>
        cases h2 : cV cs with
        | none => simp [h1, h2] at h
        | some xs =>
         rcases Y55.1 hc' with rfl | hc'
         ·cases c' with
          | w _ _ _ _ _ _ => rfl
          | x t =>
           simp only [eK] at h1
           split at h1
           ·rename_i hsc
            cases t <;> simp [T.scalar] at hsc <;> rfl
           ·cases h1
         ·exact ih xs h2 c' hc'
     rw [this cs ps' hps c hc]
     simp
    simp only [hno, Y9, if_false] at h2
    exact Z7e cs hps hrr h2
end
end Go.Wr
namespace Go.Wr
section
variable {X : Cx} {U : Nat -> Prop} {J J' : Nat} {σ σ' σ2 : St} {a a' a2 : Act} {w w' w2 : World} {ow ow' ow2 : Nat -> Ow} {e : Nat} {o : Oper}
theorem Z93 (h : Rel X U J σ a w ow) {d : Nat} (hd : d < 1000) {av : AV} (hav : aP X (dF σ d av) a w ow d av (aK a d)) (hst : av.stamps U) (hrc : av.rc = none) : Rel X U J (dF σ d av) a w ow := by
 have hat := fun s => Ziy h hd av s
 have hz : Zs w ow w ow := fun b hb => ⟨hb, rfl⟩
 have cc : ∀ r, aQ U σ a w (dF σ d av) a w r := fun r => by
  by_cases h1 : r = d
  ·refine aQ.fresh fun c hc => ?_
   rw [hat r, if_pos h1, hrc] at hc
   cases hc
  ·by_cases h2 : 1000 <= r /\ r % 1000 = d
   ·refine aQ.fresh fun c hc => ?_
    rw [hat r, if_neg h1, if_pos h2] at hc
    simp [AV.rc] at hc
   ·exact Zer (h.slot r) (by rw [hat r, if_neg h1, if_neg h2]) rfl hz (fun _ _ _ => rfl)
 refine ⟨h.size, h.small, h.defers, fun s => ?_, fun s => ?_, h.low, h.air, h.grown, h.same, h.os, h.output, h.bu, fun s hs hu => ?_⟩
 ·rw [hat s]
  split
  ·rename_i e1; subst e1; exact hav
  ·split
   ·trivial
   ·exact Zj6 (h.slot s) (h.bZ s) hz cc (fun b q hb => ⟨hb, rfl⟩)
 ·rw [hat s]
  split
  ·exact hst
  ·split
   ·trivial
   ·exact h.bZ s
 ·rw [hat s] at hu
  have h1 : s ≠ d := by omega
  rw [if_neg h1] at hu
  split at hu
  ·exact absurd rfl hu
  ·rename_i h2
   obtain ⟨n, h3, h4⟩ := h.gI s hs hu
   refine ⟨n, ?_, h4⟩
   rw [hat, if_neg (fun e => h2 ⟨hs, e⟩), if_neg (by omega)]
   exact h3
theorem Zig {d : Nat} {k : K} : ∀ {ts : List T} {j0 : Nat} {cs : List Cell}, iI d k j0 ts = some cs -> cs.length = ts.length /\ ∀ (j : Nat) c, cs[j]? = some c -> (∃ o sz es, ts[j]? = some (.l o sz es) /\ c = .w d k [j0 + j] sz 0 es.length) \/ ∃ t, ts[j]? = some t /\ t.scalar = true /\ c = .x t
 | [], j0, cs, h => by
  simp only [iI, Y89] at h
  subst h
  exact ⟨rfl, fun j c hj => by simp at hj⟩
 | t :: ts, j0, cs, h => by
  cases hr : iI d k (j0 + 1) ts with
  | none =>
   cases t <;> simp [iI, hr] at h
  | some cs' =>
   obtain ⟨h1, h2⟩ := Zig hr
   have tail : ∀ {c0 : Cell} (j : Nat) c, (c0 :: cs')[j + 1]? = some c -> (∃ o sz es, (t :: ts)[j + 1]? = some (.l o sz es) /\ c = .w d k [j0 + (j + 1)] sz 0 es.length) \/ ∃ t', (t :: ts)[j + 1]? = some t' /\ t'.scalar = true /\ c = .x t' := fun {c0} j c hj => by
    rw [Y31] at hj ⊢
    rw [show j0 + (j + 1) = j0 + 1 + j by omega]
    exact h2 j c hj
   by_cases hl : ∃ o sz es, t = .l o sz es
   ·obtain ⟨o, sz, es, rfl⟩ := hl
    simp only [iI, hr, Y89] at h
    subst h
    refine ⟨by simp [h1], fun j c hj => ?_⟩
    cases j with
    | zero =>
     simp only [Y32, Y89] at hj
     exact .inl ⟨o, sz, es, rfl, hj.symm⟩
    | succ j => exact tail j c hj
   ·have : t.scalar = true /\ .x t :: cs' = cs := by
     cases t <;> simp only [iI, hr, T.scalar, if_true, Y9, if_false, Y89, reduceCtorEq] at h ⊢ <;> first | exact ⟨trivial, h⟩ | exact ⟨rfl, h⟩ | exact (hl ⟨_, _, _, rfl⟩).elim | skip
    obtain ⟨hsc, rfl⟩ := this
    refine ⟨by simp [h1], fun j c hj => ?_⟩
    cases j with
    | zero =>
     simp only [Y32, Y89] at hj
     exact .inr ⟨t, rfl, hsc, hj.symm⟩
    | succ j => exact tail j c hj
end
end Go.Wr
namespace Go.Wr
section
variable {X : Cx} {U U2 : Nat -> Prop} {J J' : Nat} {σ σ' σ2 : St} {a a' a2 : Act} {w w' w2 : World} {ow ow' ow2 : Nat -> Ow} {e : Nat} {o : Oper}
theorem Z1p {r : Nat} {c : RC} {i : Nat} {ob : Ob} {sz : Nat} {es : List T} (h : Rel X U J σ a w ow) (hc : (σ r).rc = some c) (hb : c.bi = true) (hn : c.t.nav [i] = some (.l ob sz es)) :
  ∃ b A C, aK a r = .pointer (some ⟨b, 0, none⟩) /\ hdr w c (aK a r) [i] = w.cell? ⟨b, i, none⟩ /\ w.cell? ⟨b, i, none⟩ = some (.slice A es.length C) := by
 obtain ⟨bz, hh, bG⟩ := Zgh (w := w) (v := aK a r) hc (h.slot r) hn
 obtain ⟨A, C, rfl⟩ : ∃ A C, bz = .slice A es.length C := by
  obtain ⟨A, C, e, _⟩ := Zfu bG
  exact ⟨A, C, by simpa using e⟩
 rcases Zen hc with ⟨_, cs, ht, hσ⟩ | ⟨hb2, _⟩
 ·have hs := h.slot r
  rw [hσ] at hs
  obtain ⟨b, arr, ty, fr, e1, _⟩ := hs
  obtain ⟨ib, kk, tt⟩ := c
  simp only at hb ht
  subst hb ht
  have hk : cs[i]? = some (.l ob sz es) := by simpa [T.nav, T.kid] using hn
  have : hdr w ⟨true, kk, .a cs⟩ (aK a r) [i] = w.cell? ⟨b, i, none⟩ := by
   rw [e1]
   simp only [hdr, place, bp, hk, Y13, Y8, Y9, if_false]
   rw [show (0 + i) = i by omega]
  exact ⟨b, A, C, e1, this, by rw [<- this]; exact hh⟩
 ·rw [hb] at hb2; cases hb2
theorem Zlc {d : Nat} {av : AV} (h : Rel X U J σ a w ow) (hd : d < 1000) (hrc : av.rc = none) {r : Nat} {k : K} {p : List Nat} {z lo n : Nat} {v : Value} (hv : dc σ a w r k p z lo n v) : dc (dF σ d av) a w r k p z lo n v := by
 refine ⟨hv.1, fun c hc hk => ?_⟩
 rw [Ziy h hd av r] at hc
 split at hc
 ·rw [hrc] at hc; cases hc
 ·split at hc
  ·simp [AV.rc] at hc
  ·exact hv.2 c hc hk
theorem Zie (h : Rel X U J σ a w ow) (h2 : Rel X U2 J' σ2 a w2 ow2) {r : Nat} {c0 : RC} (hc0 : (σ r).rc = some c0) (h0 : r ≠ 0 -> σ2 0 = σ 0)
  (fK : ∀ c2 b, (σ2 r).rc = some c2 -> c2.bi = true -> aK a r = .pointer (some ⟨b, 0, none⟩) -> w2.heap[b]? = w.heap[b]?) (af : (hQ r c0).run σ2 = some ((), σ')) : Rel X U2 J' σ' a w2 ow2 := by
 unfold hQ at af
 obtain ⟨v, σa, h3, h4⟩ := Zh3 af
 obtain ⟨hv, ea⟩ := Zhj h3
 obtain ⟨av, σb, h5, h6⟩ := Zh3 h4
 obtain ⟨hav, eb⟩ := Zhj h5
 rw [eb, ea, hav] at h6
 clear af h3 h4 h5 eb hav
 have same : (pure () : Pg Unit).run σ2 = some ((), σ') -> Rel X U2 J' σ' a w2 ow2 := fun h7 => by
  obtain ⟨_, rfl⟩ := Zhk h7
  exact h2
 subst hv
 rw [ea] at h6
 cases hσ0 : σ2 0 <;> rw [hσ0] at h6 <;> try exact same h6
 rename_i cells
 cases hc2 : (σ2 r).rc with
 | none => rw [hc2] at h6; exact same h6
 | some c2 =>
 rw [hc2] at h6
 simp only at h6
 split at h6
 ·exact same h6
 rename_i hr0
 rw [Zhn] at h6
 simp only [Y89, Y90, true_and] at h6
 subst h6
 have hold := h.slot 0
 rw [<- h0 hr0, hσ0] at hold
 obtain ⟨vs, hvs, bA⟩ := hold
 have cn := h2.slot 0
 rw [hσ0] at cn
 obtain ⟨vs2, kK, Cn⟩ := cn
 rw [hvs] at kK
 cases kK
 have CI := h2.bZ 0
 rw [hσ0] at CI
 have qJ : U2 c2.k.e /\ U2 c2.k.h /\ U2 c2.k.d := by
  have := h2.bZ r
  rcases Zen hc2 with ⟨_, cs, ht, hσ⟩ | ⟨_, hσ⟩ <;> rw [hσ] at this <;> exact this
 refine Z93 h2 (by omega) ?_ ?_ rfl
 ·refine ⟨vs, hvs, Z2j _ 0 _ (by rw [Y45]; exact (Z2i bA).1) fun j c' u hc' hu => ?_⟩
  rw [Y37] at hc'
  obtain ⟨c, hc, rfl⟩ := Y87.1 hc'
  have ho := (Z2i bA).2 j c u hc hu
  have hn := (Z2i Cn).2 j c u hc hu
  cases c with
  | x t => exact hn
  | w r0 k p z lo n =>
   have dn : dm X (dF σ2 0 (.st (cells.map (jV r c0 c2)))) a w2 ow2 0 (0 + j) (.w r0 k p z lo n) u := Zlc (av := .st _) h2 (by omega) rfl hn
   simp only [jV]
   split
   ·rename_i i o0 sz0 es0 o2 sz2 es2 hn0 hn2
    split
    ·rename_i eG
     obtain ⟨rfl, hb0, hb2, hk0, rfl⟩ := eG
     refine ⟨hn.1, fun c hcc hkk => ?_⟩
     rw [Ziy h2 (by omega) _ r0, if_neg hr0] at hcc
     split at hcc
     ·simp [AV.rc] at hcc
     ·rw [hc2] at hcc
      cases hcc
      refine ⟨fun cs' h8 => (by rw [hn2] at h8; cases h8), fun o3 sz3 es3 h9 A N C h10 => ?_⟩
      rw [hn2] at h9
      cases h9
      obtain ⟨b, A0, C0, e1, e2, e3⟩ := Z1p h hc0 hb0 hn0
      obtain ⟨b', A2, C2, e1', e2', e3'⟩ := Z1p h2 hc2 hb2 hn2
      rw [e1] at e1'
      cases e1'
      have bD : w2.cell? ⟨b, i, none⟩ = w.cell? ⟨b, i, none⟩ := by
       simp only [World.cell?, fK c2 b hc2 hb2 e1]
      rw [e2', bD, <- e2] at h10
      have hlv : dl c0.bi [i] = 1 := by rw [hb0]; rfl
      obtain ⟨h11, h12, h13⟩ := (ho.2 c0 hc0 (by rw [hlv]; exact hk0)).2 o0 sz0 es0 hn0 A N C h10
      rw [e2, e3] at h10
      rw [bD, e3] at e3'
      simp only [Y89, Value.slice.injEq] at e3' h10
      refine ⟨rfl, by omega, ?_⟩
      rw [h11] at h13
      exact h13
    ·exact dn
   ·exact dn
 ·intro c' hc'
  obtain ⟨c, hc, rfl⟩ := Y60.1 hc'
  have hs := CI c hc
  cases c with
  | x t => trivial
  | w r0 k p z lo n =>
   simp only [jV]
   split
   ·split
    ·exact qJ
    ·exact hs
   ·exact hs
end
end Go.Wr
namespace Go.Wr
section
variable {X : Cx} {U : Nat -> Prop} {J J' : Nat} {σ σ' σ2 : St} {a a' a2 : Act} {w w' w2 : World} {ow ow' ow2 : Nat -> Ow} {e : Nat} {o : Oper}
theorem Zcl {F : Fun} {v : AV} {ts : List T} {hs : List Hand} {n : Nat} {q : Out} {cs : List T} (h : nC F v ts hs n = some (q, cs)) :
  (∀ x ∈ hs, x.bor = [] /\ x.box = none /\ x.arg.isS = true) /\ ∃ x, nB v ts = some x /\ F (x :: hs.map Hand.arg) = some q /\ q.back = [cs] /\ q.res.all RV.fi = true /\ cs.length = n := by
 unfold nC at h
 split at h
 ·rename_i cc
  split at h
  ·rename_i x hx
   split at h
   ·rename_i q' hq
    split at h
    ·rename_i cs' hcs
     simp only [Y89, Y90] at h
     obtain ⟨rfl, rfl⟩ := h
     refine ⟨fun y hy => ?_, x, hx, hq, ?_⟩
     ·have := Y18.1 cc y hy
      simp only [Y2, List.isEmpty_iff, Option.isNone_iff_eq_none] at this
      exact ⟨this.1.1, this.1.2, this.2⟩
     ·unfold qt at hcs
      split at hcs
      ·rename_i c2 hb
       split at hcs
       ·rename_i hc
        simp only [Y89] at hcs
        subst hcs
        simp only [Y2, beq_iff_eq] at hc
        exact ⟨hb, hc.1, hc.2⟩
       ·cases hcs
      ·cases hcs
    ·cases h
   ·cases h
  ·cases h
 ·cases h
theorem Zep {c c2 : RC} (h : c.av.rc = some c2) : c2.bi = c.bi := by
 obtain ⟨ib, kk, t⟩ := c
 cases ib <;> cases t <;> simp only [RC.av, AV.rc, reduceCtorEq, Y89] at h <;> try (subst h; rfl)
 rename_i o sz es
 cases o <;> simp only [AV.rc, reduceCtorEq, Y89] at h <;> (subst h; rfl)
theorem Zdt {r : Nat} {ls : List (List Nat × T)} (h : (jD e r ls).run σ = some ((), σ')) : ∃ c t', (σ r).rc = some c /\ fJ ls c.t = some t' /\ σ' = upd σ r ({ c with k := ⟨c.k.e, e, e⟩, t := t' } : RC).av := by
 obtain ⟨av, σ1, h1, h2⟩ := Zh3 h
 obtain ⟨rfl, rfl⟩ := Zhj h1
 cases hc : (σ1 r).rc with
 | none => simp [hc, Pg.run] at h2
 | some c =>
  simp only [hc] at h2
  cases hp : fJ ls c.t with
  | none => simp [hp, Pg.run] at h2
  | some t' =>
   simp only [hp] at h2
   exact ⟨c, t', rfl, hp, Zhu h2⟩
theorem Z4h (h : Rel X U J σ a w ow) (hmv : X.mv = mv0) (hd : ca X o) (he : ∀ x, Fam e x -> ¬ U x) {g : Nat} {F : Fun} {x : Opd} {args : List (Pass × Opd)} {y0 : Operand} {ys : List Operand} (hF : dB X.P X.tab g F)
  (hx : x.is X.tab y0 = true) (hp : da X.tab args ys = true)
  (gQ : (execOp a.eval o).run X.P w = .ok (.enter (X.tab g) (a.eval y0 :: ys.map a.eval).toArray) w) (af : (jE e o.dst F x args).run σ = some ((), σ')) : Sound X U a w e o σ' := by
 unfold jE at af
 obtain ⟨v, σ0, h1, h2⟩ := Zh3 af
 obtain ⟨e0, bm⟩ := Zem h hx h1
 rw [e0] at h1 h2
 have Jt := h1
 clear h1 af e0 σ0
 cases hpl : jm v with
 | none => simp [hpl, Pg.run] at h2
 | some psr =>
 obtain ⟨ps, r⟩ := psr
 simp only [hpl] at h2
 obtain ⟨us, hcv, bA, hvl, hul, iJ, hone⟩ := Zle h bm hpl
 obtain ⟨_, σa, h3, h4⟩ := Zh3 h2
 obtain ⟨ea, nZ⟩ := Z6e _ h3
 rw [ea] at h4
 clear h2 h3 ea σa
 obtain ⟨av0, σr, hr1, hr2⟩ := Zh3 h4
 obtain ⟨CJ, er⟩ := Zhj hr1
 rw [er, CJ] at hr2
 clear h4 hr1 CJ er
 cases hc0 : (σ r).rc with
 | none => simp [hc0, Pg.run] at hr2
 | some c0 =>
 simp only [hc0] at hr2
 obtain ⟨ts, σ1, h5, h6⟩ := Zh3 hr2
 obtain ⟨J1, ow1, ix, hJ, hg, bF⟩ := Z7l h hx h5
 obtain ⟨hs, σb, h7, h8⟩ := Zh3 h6
 obtain ⟨eb, hhl, hhr⟩ := Z7s hg.rel args ys (J := J1) hp (fun i t y ht => by
  rw [Y37] at ht
  cases hq : args[i]? <;> simp [hq] at ht) h7
 rw [eb] at h8
 clear hr2 h6 h7 eb σb
 cases gP : nC F v ts hs ps.length with
 | none => simp [gP, Pg.run] at h8
 | some qc =>
 obtain ⟨q, cs⟩ := qc
 simp only [gP] at h8
 obtain ⟨_, σ2, h9, h9b⟩ := Zh3 h8
 obtain ⟨_, σ4, h11, h10⟩ := Zh3 h9b
 obtain ⟨hS, xa, hxa, hFq, mf, j5, hcl⟩ := Zcl gP
 obtain ⟨c1, t', hc1, Ju, rfl⟩ := Zdt h9
 have hyl : ys.length = args.length := by
  have : ∀ (as : List (Pass × Opd)) (ys : List Operand), da X.tab as ys = true -> ys.length = as.length := by
   intro as
   induction as with
   | nil => intro ys h; cases ys with | nil => rfl | cons _ _ => simp [da] at h
   | cons b as ih =>
    intro ys h
    cases ys with
    | nil => simp [da] at h
    | cons y ys =>
     simp only [da, Y2] at h
     simp [ih ys h.2]
  exact this args ys hp
 let gg := gM ix ts.length J1 v.isW
 have hR0 : Rel X U (J1 + 1) σ1 a w (dN ow1 gg) := Zey hg.rel (by omega) fun i n pre hgi => by
  have := Z71 hgi
  omega
 generalize hwR : dN ow1 gg = owR at hR0
 have hrl : ∀ (j : Nat) t u, ts[j]? = some t -> us[j]? = some u -> rep X.tab X.mv w owR (some (.ar J1, if v.isW then [] else [j])) t [u] := fun j t u ht hu => by
  have hjl := (Y36.1 ht).1
  have h11 := bF.rep j t u ht (by rw [<- bA]; exact hu)
  rw [<- hwR]
  exact Zg1 Zf0 t (c := some (.ar (ix j), [])) (fun b q hb => ⟨by
   have := Zew (g := gg) (Z70 (mu := v.isW) bF.inj hjl) hb
   simpa using this, rfl⟩) h11
 have hzR : ∀ b, ow1 b = .z -> owR b = .z := fun b hb => by rw [<- hwR]; exact Zex hb
 have CK : ∀ b s q, ow1 b = .own (.sl s) q -> owR b = .own (.sl s) q := fun b s q hb => by rw [<- hwR]; exact Zez hb
 intro K Q hK
 left
 unfold Oper.wp
 rw [gQ, Oper.upon_enter]
 have lq := hF (xa :: hs.map Hand.arg) (a.eval y0 :: ys.map a.eval) w (dD owR J1) q hFq (by simp [hhl, hyl])
  (fun i y u hy hu => by
   cases i with
   | zero =>
    simp only [Y32, Y89] at hy hu
    subst hy hu
    unfold nB at hxa
    split at hxa
    ·rename_i sz es
     simp only [Y89] at hxa
     subst hxa
     simp only [AV.isW, kN, if_true] at hcv hrl
     subst hcv
     have h12 := hrl 0 _ _ rfl rfl
     rw [hmv] at h12
     exact ⟨⟨_, _, rfl⟩, Zg1 Z27 _ (c := some (.ar J1, [])) (fun b q hb => ⟨Z23 hb, rfl⟩) h12⟩
    ·simp only [Y89] at hxa
     subst hxa
     simp only [AV.isW, kN, Y9, if_false] at hcv hrl
     obtain ⟨vv, hv1, rfl⟩ := hcv
     refine ⟨vv, hv1, Zfa (by rw [bA]; exact bF.len) fun k t u' ht hu' => ?_⟩
     rw [Y83]
     have h12 := hrl k t u' ht hu'
     rw [hmv] at h12
     exact Zg1 Z27 _ (c := some (.ar J1, [k])) (fun b q hb => ⟨Z23 hb, rfl⟩) h12
    ·cases hxa
   | succ i =>
    rw [Y31, Y37] at hy hu
    obtain ⟨hd, hhd, rfl⟩ := Y87.1 hy
    obtain ⟨yy, hyy, rfl⟩ := Y87.1 hu
    obtain ⟨hb1, _, hb3⟩ := hS hd (Y62 hhd)
    have hH := hhr i hd yy hhd hyy
    unfold gT at hH
    rw [hb1, hmv] at hH
    have BU : ja ow1 [] (dD owR J1) := ⟨fun b hb => by simp [dD, hzR b hb], fun r hr => by cases hr⟩
    cases ha : hd.arg <;> rw [ha] at hH hb3 <;> simp only [Arg.isS, Y9] at hb3 <;> simp only at hH
    ·exact hH.2 _ BU
    ·exact hH.2 _ BU)
  (fun b hb => hR0.low b (Z24 hb)) (fun b r q hb => ⟨0, Z26 hb, by simp⟩)
 refine Calls.mono lq fun en w'' hen => ?_
 cases en with
 | panicked c => exact hen.elim
 | outgrown => exact hen.elim
 | returned rv =>
  obtain ⟨ow', hA⟩ := hen
  have hRB := Z25 hR0 hA (by omega)
  have hzB := Z19 (base := J1 + 1) hR0 hA
  have hTB : ∀ pre, Tr w'' ow' w'' (ei owR J1 (J1 + 1) ow') (some (.ar 0, pre)) (some (.ar J1, pre)) := fun pre b q hb => ⟨by
   rw [Z18 hR0 hA (by rw [hb]; simp), hb]; simp [j8], rfl⟩
  have hbk : ∀ (j : Nat) t u, cs[j]? = some t -> us[j]? = some u -> rep X.tab X.mv w'' (ei owR J1 (J1 + 1) ow') (some (.ar J1, if v.isW then [] else [j])) t [u] := by
   have hb := hA.back
   rw [mf] at hb
   unfold nB at hxa
   rw [hmv]
   split at hxa
   ·rename_i sz es
    simp only [Y89] at hxa
    subst hxa
    simp only [AV.isW, kN, if_true] at hcv ⊢
    subst hcv
    simp only [cR] at hb
    obtain ⟨⟨t1, rfl, _, h13⟩, _⟩ := hb
    intro j t u ht hu
    cases j with
    | zero =>
     simp only [Y32, Y89] at ht hu
     subst ht hu
     exact Zg1 hzB _ (hTB []) h13
    | succ j => simp at hu
   ·simp only [Y89] at hxa
    subst hxa
    simp only [AV.isW, kN, Y9, if_false] at hcv ⊢
    obtain ⟨vv, hv1, rfl⟩ := hcv
    simp only [cR] at hb
    obtain ⟨⟨vv2, hv2, h13⟩, _⟩ := hb
    rw [hv1] at hv2
    cases hv2
    intro j t u ht hu
    obtain ⟨u', h14, h15⟩ := Zf7 h13 ht
    rw [hu] at h14
    cases h14
    rw [Y83] at h15
    exact Zg1 hzB _ (hTB [j]) h15
   ·cases hxa
  have y5 : eI (cO J1 v.isW 0 ps cs) c1.t = some t' := by rw [Z9z]; exact Ju
  have qw := Zee _ y5
  obtain ⟨ow3, hL, hR3, _⟩ := Zdd hRB (he e (Fam.self e)) hc1 y5 (fun l hl => by
   obtain ⟨j, r', t1, hps, hcs, rfl, hln, lW⟩ := Z9y ps cs 0 hl
   obtain ⟨rfl, k, z, n, u, hvw, hu, hvo⟩ := iJ j r' l.p hps
   obtain ⟨c, sz, es, hc, hk, hn, hlen⟩ := nZ j _ _ _ _ _ _ hvw
   obtain ⟨hnu, hne⟩ := qw l hl
   obtain ⟨bo, hbo, bD⟩ := Z6c h hvo hc hk hn hlen hne
   obtain ⟨h16, h17⟩ := Zcz (w' := w'') h hg hc hc1 hbo bD hnu hne (fun b hb => (Zl1 (base := J1 + 1) hR0 hA b (hzR b hb)).2) (fun b q hb => (mo hR0 hA (CK b _ q hb)).1)
   refine ⟨bo.1, bo.2, u, h16, h17, ?_⟩
   rw [hln, lW]
   have := hbk j _ u hcs hu
   simpa using this) (by
   cases hw : v.isW with
   | false => exact Z9x ps cs 0
   | true =>
    have h1 := hone hw
    match ps, h1 with
    | [p0], _ =>
     cases p0 with
     | none => cases cs <;> simp [cO]
     | some rp =>
      obtain ⟨r0, p0⟩ := rp
      cases cs with
      | nil => simp [cO]
      | cons c cs => cases cs <;> simp [cO])
  have Jv : ∀ b j q', ow' b = .own (.rs j) q' -> ow3 b = .own (.ar (J1 + 1 + j)) q' := fun b j q' hb => by
   refine hL.out b _ q' (by rw [Z18 hR0 hA (by rw [hb]; simp), hb]; rfl) fun l hl => ?_
   obtain ⟨_, _, _, _, _, _, hln, _⟩ := Z9y ps cs 0 hl
   rw [hln]
   rintro ⟨h18, _⟩
   omega
  have hz3 : Zs w'' ow' w'' ow3 := fun b hb => ⟨(hL.z b (hzB b hb).1).1, rfl⟩
  have j6 : jI X w'' ow3 (J1 + 1) q.res rv := by
   have one : ∀ (j : Nat) (r : RV) (u : Value), j3 X.tab w'' ow' j r u -> gk X w'' ow3 (J1 + 1 + j) r u := fun j r u hrv => by
    have ht : Tr w'' ow' w'' ow3 (some (.rs j, [])) (some (.ar (J1 + 1 + j), [])) := fun b q hb => ⟨Jv b j _ hb, rfl⟩
    cases r with
    | one t =>
     unfold gk
     rw [hmv]
     exact Zg1 hz3 t ht hrv
    | st cs =>
     obtain ⟨vs, hv, hr2⟩ := hrv
     unfold gk
     rw [hmv]
     exact ⟨vs, hv, Zfb hz3 cs ht hr2⟩
   have hr := hA.res
   generalize q.res = rs at hr ⊢
   match rs, hr with
   | [r], hr => exact one 0 r rv hr
   | [], hr => exact hr.elim fun vs hr => ⟨vs, hr.1, hr.2.1, fun j r u hj hu => one j r u (hr.2.2 j r u hj hu)⟩
   | r1 :: r2 :: rs, hr => exact hr.elim fun vs hr => ⟨vs, hr.1, hr.2.1, fun j r u hj hu => one j r u (hr.2.2 j r u hj hu)⟩
  have hR4 := Zie h hR3 hc0 (fun hr0 => by
    simp only [upd, if_neg (Ne.symm hr0)]
    exact Z7k Jt hpl h5 0 (Ne.symm hr0)) (fun c2 b hc2 hb2 hva => by
    have hb1 : c1.bi = true := by
     simp only [upd, if_true] at hc2
     have := Zep hc2
     rw [hb2] at this
     exact this.symm
    rcases Zen hc1 with ⟨_, cs1, _, hσ1⟩ | ⟨hf, _⟩
    ·have hs1 := hg.rel.slot r
     rw [hσ1] at hs1
     obtain ⟨b1, _, _, _, e1, e2, _⟩ := hs1
     rw [hva] at e1
     cases e1
     exact (mo hR0 hA (CK b r [] e2)).1
    ·rw [hb1] at hf; cases hf) h11
  obtain ⟨ow4, gx⟩ := Zga hR4 hd (fun x hx hne hU => by
   rcases hU with hU | hU
   ·exact he x hx hU
   ·exact hne hU) j5 j6 h10
  refine hK _ _ _ _ (gx.mono (fun x hx => ?_) (Nat.le_refl _))
  rcases hx with (hx | hx) | hx
  ·exact .inl hx
  ·exact .inr (hx ▸ Fam.self e)
  ·exact .inr hx
end
end Go.Wr
namespace Go.Wr
section
variable {X : Cx} {U : Nat -> Prop} {J J' : Nat} {σ σ' σ2 : St} {a a' a2 : Act} {w w' w2 : World} {ow ow' ow2 : Nat -> Ow} {e : Nat} {o : Oper}
theorem Z4e (h : Rel X U J σ a w ow) (hd : ca X o) (he : ∀ x, Fam e x -> ¬ U x) {x : Opd} {x' : Operand} {t : TypeId} (hx : x.is X.tab x' = true) (hop : o.op = .box t x')
  (af : (exec e o.dst (.kE x)).run σ = some ((), σ')) : Sound X U a w e o σ' := by
 simp only [exec] at af
 cases bW : o.dst with
 | none => simp [bW, Pg.run] at af
 | some d =>
 cases x with
 | k c => simp [bW, Pg.run] at af
 | t s =>
 simp only [bW, yW] at af
 obtain ⟨v, σ0, h1, h2⟩ := Zh3 af
 obtain ⟨hv, e0⟩ := Zhj h1
 rw [e0, hv] at h2
 clear af h1 e0 hv
 cases hσ : σ s <;> rw [hσ] at h2 <;> try simp only [Pg.run, reduceCtorEq] at h2
 rename_i cs0
 have hsl := h.slot s
 rw [hσ] at hsl
 obtain ⟨vs, hvs, _⟩ := hsl
 have hs1 : s < 1000 := by
  cases x' <;> simp [Opd.is] at hx
  exact hx.2
 have hx2 : x' = .tmp s := by
  cases x' <;> simp [Opd.is] at hx
  rw [hx.1]
 subst hx2
 have hev : a.eval (.tmp s) = .agg vs := by rw [Z43 hs1, hvs]
 split at h2
 ·simp [Pg.run] at h2
 rename_i hsd
 obtain ⟨cs, σ1, h3, h4⟩ := Zh3 h2
 obtain ⟨J1, ow1, ix, hJ, hg, bF⟩ := Z7l h hx h3
 cases q5 : iI d ⟨e, e, e⟩ 0 cs with
 | none => simp [q5, Pg.run] at h4
 | some cells =>
 simp only [q5] at h4
 obtain ⟨_, σ3, h5, h6⟩ := Zh3 h4
 rw [Zhn] at h5 h6
 simp only [Y89, Y90, true_and] at h5 h6
 subst h5 h6
 rw [hev] at bF
 have hdx := hd d bW
 have hd1 : d < 1000 := Y78 hdx.1 h.small
 have hdt : d < a.tmps.size := by rw [h.size]; exact hdx.1
 have hR2 := (Zm0 hg.rel (U' := fun x => U x \/ Fam e x) (fun x hx => .inl hx) (Zbp hg.rel d (eu cs.length ix (fun j => [j])) (.cells (Value.agg vs).cells t (0, 0))) (av := .box ⟨e, e, e⟩ cs) (v := .pointer (some ⟨w.heap.size, 0, none⟩))
  (fun d' hd' => by cases hd'; exact hdx) ⟨.inr (Fam.self e), .inr (Fam.self e), .inr (Fam.self e)⟩ (fun c hc => by simp only [AV.rc, Y89] at hc; subst hc; exact he _ (Fam.self e))
  (fun d' hd' σ' a' _ => by cases hd'; exact Z1q hg.rel bF d)).1
 have bA : (Value.agg vs).cells = vs := rfl
 simp only [iw] at hR2
 have gQ : (execOp a.eval o).run X.P w = .ok (.value (.pointer (some ⟨w.heap.size, 0, none⟩))) (World.more w (.cells (Value.agg vs).cells t (0, 0))) := by
  simp only [execOp, hop]
  refine Zht ?_
  unfold Instr.box
  rw [hev, Zhl Zhi]
  rfl
 intro K Q hK
 left
 unfold Oper.wp
 rw [gQ, Oper.upon_value, bW]
 refine hK _ _ _ _ (Z93 hR2 hs1 ?_ ?_ rfl)
 ·have kK : aK (a.put (some d) (.pointer (some ⟨w.heap.size, 0, none⟩))) s = .agg vs := by
   rw [Zl9 hsd (fun h => by omega), hvs]
  rw [kK]
  obtain ⟨hlen, dp⟩ := Zig q5
  refine ⟨vs, rfl, Z2j _ 0 _ (by rw [hlen]; exact bF.len) fun j c u hc hu => ?_⟩
  have hat := Ziy hR2 hs1 (.st cells) d
  rw [if_neg (Ne.symm hsd), if_neg (fun hh => absurd hd1 (Nat.not_lt.2 hh.1))] at hat
  have CL := Ziy hg.rel hd1 (.box ⟨e, e, e⟩ cs) d
  rw [if_pos rfl] at CL
  rw [CL] at hat
  rcases dp j c hc with ⟨ob, sz, es, ht, rfl⟩ | ⟨t0, ht, hsc, rfl⟩
  ·rw [Y83]
   have bG := bF.rep j _ u ht hu
   have jo := bG
   simp only [rep] at jo
   obtain ⟨_, A, cap, hu1, hle, _, hA⟩ := jo
   simp only [Y23, and_true] at hu1
   refine ⟨⟨A, cap, hu1, hle, fun hY => ?_⟩, fun c hc2 hk => ?_⟩
   ·cases A with
    | none => simp only at hA; omega
    | some ad =>
     obtain ⟨hsp, _⟩ := hA (.inr (fun e => by rw [e] at hY; simp at hY))
     obtain ⟨b, o2, sp⟩ := ad
     simp only at hsp
     exact ⟨b, o2, by rw [hsp]⟩
   ·rw [hat] at hc2
    simp only [AV.rc, Y89] at hc2
    subst hc2
    have CM : (T.a cs).nav [j] = some (.l ob sz es) := by simp [T.nav, T.kid, ht]
    refine ⟨fun cs' h => (by rw [CM] at h; cases h), fun o2 sz2 es2 hn A2 N C hh => ?_⟩
    rw [CM] at hn
    cases hn
    have bz : aK (a.put (some d) (.pointer (some ⟨w.heap.size, 0, none⟩))) d = .pointer (some ⟨w.heap.size, 0, none⟩) := Zla hdt hd1
    rw [bz] at hh
    have bD : (World.more w (.cells (Value.agg vs).cells t (0, 0))).cell? ⟨w.heap.size, j, none⟩ = some u := by
     simp only [World.cell?, Zba]
     rw [bA]
     simpa using hu
    have : hdr (World.more w (.cells (Value.agg vs).cells t (0, 0))) ⟨true, ⟨e, e, e⟩, .a cs⟩ (.pointer (some ⟨w.heap.size, 0, none⟩)) [j] = some u := by
     simp only [hdr, place, bp, ht, Y13, Y8, Y9, if_false]
     rw [show (0 + j) = j by omega]
     exact bD
    rw [this, hu1] at hh
    simp only [Y89, Value.slice.injEq] at hh
    obtain ⟨rfl, rfl, rfl⟩ := hh
    refine ⟨rfl, by omega, A, es.length, cap, A, cap, rfl, hu1, hle, by omega, .inl ⟨rfl, .inl rfl⟩, fun _ _ => hu1⟩
  ·have bG := bF.rep j _ u ht hu
   show rep X.tab X.mv _ _ _ t0 [u]
   cases t0 <;> simp only [T.scalar, Y9] at hsc <;> simp only [rep] at bG ⊢ <;> first | exact bG | skip
   all_goals
    obtain ⟨cQ, h7, h8⟩ := bG
    exact ⟨cQ, h7, Zfb (c := none) (c' := none) (Zbp hg.rel d _ _).z _ trivial h8⟩
 ·intro c hc
  obtain ⟨j, hj⟩ := Y59.1 hc
  rcases (Zig q5).2 j c hj with ⟨_, _, _, _, rfl⟩ | ⟨_, _, _, rfl⟩
  ·exact ⟨.inr (Fam.self e), .inr (Fam.self e), .inr (Fam.self e)⟩
  ·trivial
end
end Go.Wr

