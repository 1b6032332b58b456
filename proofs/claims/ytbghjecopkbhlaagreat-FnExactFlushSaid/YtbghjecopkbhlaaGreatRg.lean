/-
  What is proved: lemmas on the way to the laws of this seat. No condition.
-/
import Derived.Test.YtbghjecopkbhlaaGreatRf
import Derived.Laws.BytesString
set_option linter.unusedVariables false
set_option linter.unusedSimpArgs false
namespace Go.Wr
section
variable {X : Cx} {U : Nat -> Prop} {J J' : Nat} {σ σ' σ2 : St} {a a' a2 : Act} {w w' w2 : World} {ow ow' ow2 : Nat -> Ow} {e : Nat} {o : Oper}
theorem Z4g (h : Rel X U J σ a w ow) (hmv : X.mv = mv0) (hd : ca X o) (he : ∀ x, Fam e x -> ¬ U x) {g : Nat} {F : Fun} {args : List (Pass × Opd)} {c : Call} {f : FuncId} (hF : dB X.P X.tab g F) (hop : o.op = .call c)
  (hc : c.callee = .value (.func f)) (hf : X.tab g = f) (hb : iC X.P f = true) (hp : da X.tab args c.args.toList = true) (af : (exec e o.dst (.call g F args)).run σ = some ((), σ')) : Sound X U a w e o σ' := by
 refine Z4k (cQ := []) h hmv hd he hF hp (fun i t v ht => by simp at ht) rfl ?_ af
 simp only [execOp, hop]
 have hr : (resolve a.eval c o.type).run X.P w = .ok { target := .fn (.func f) #[], args := #[] ++ c.args.map a.eval } w := by
  simp only [resolve, hc, Act.eval, Deferred.ofValue]
  rfl
 rw [Zhl hr]
 simp only [invoke]
 rw [hf, Zh5 hb]
 congr 2
 apply Array.ext'
 simp
theorem Z4i (h : Rel X U J σ a w ow) (hmv : X.mv = mv0) (hd : ca X o) (he : ∀ x, Fam e x -> ¬ U x) {g : Nat} {F : Fun} {x : Opd} {args : List (Pass × Opd)} {c : Call} {f : FuncId} {y0 : Operand} {ys : List Operand} (hF : dB X.P X.tab g F) (hop : o.op = .call c)
  (hc : c.callee = .value (.func f)) (hf : X.tab g = f) (hb : iC X.P f = true) (ha : c.args.toList = y0 :: ys) (hx : x.is X.tab y0 = true) (hp : da X.tab args ys = true) (af : (exec e o.dst (.bU g F x args)).run σ = some ((), σ')) : Sound X U a w e o σ' := by
 refine Z4h h hmv hd he hF hx hp ?_ af
 simp only [execOp, hop]
 have hr : (resolve a.eval c o.type).run X.P w = .ok { target := .fn (.func f) #[], args := #[] ++ c.args.map a.eval } w := by
  simp only [resolve, hc, Act.eval, Deferred.ofValue]
  rfl
 rw [Zhl hr]
 simp only [invoke]
 rw [hf, Zh5 hb]
 congr 2
 apply Array.ext'
 simp [ha]
theorem Z4l (h : Rel X U J σ a w ow) (hmv : X.mv = mv0) (hd : ca X o) (he : ∀ x, Fam e x -> ¬ U x) {x : Opd} {eo : List (Nat × Fun)} {args : List (Pass × Opd)} {c : Call} {y : Operand} (hF : ∀ p ∈ eo, dB X.P X.tab p.1 p.2 /\ iC X.P (X.tab p.1) = true)
  (hx : x.is X.tab y = true) (hop : o.op = .call c) (hc : c.callee = .value y) (hp : da X.tab args c.args.toList = true) (af : (exec e o.dst (.dyn x eo args)).run σ = some ((), σ')) : Sound X U a w e o σ' := by
 obtain ⟨av, σ1, h1, h2⟩ := Zh3 af
 obtain ⟨e1, bm⟩ := Zem h hx h1
 rw [e1] at h2
 cases av <;> try simp only [Pg.run, reduceCtorEq] at h2
 rename_i t
 cases t <;> try simp only [Pg.run, reduceCtorEq] at h2
 rename_i g env
 simp only [cw, rep] at bm
 obtain ⟨cQ, hv, lp⟩ := bm
 have hv' : a.eval y = .func (.func (X.tab g)) #[] cQ := by simpa using hv
 cases oe : eo.find? (fun c => c.1 == g) with
 | none => simp [oe, Pg.run] at h2
 | some p =>
  simp only [oe] at h2
  have hg : p.1 = g := by simpa using Y26 oe
  obtain ⟨hF1, hb⟩ := hF p (Y61 oe)
  rw [hg] at hF1 hb
  refine Z4k (cQ := cQ.toList) h hmv hd he hF1 hp (fun i t v ht hvi ow2 hz => ?_) (Zf8 lp) ?_ h2
  ·obtain ⟨v', h3, h4⟩ := Zf7 lp ht
   rw [hvi] at h3
   cases h3
   rw [<- hmv]
   exact Zg1 (fun b hb => ⟨hz b hb, rfl⟩) t (c := none) (c' := none) trivial h4
  ·simp only [execOp, hop]
   have hr : (resolve a.eval c o.type).run X.P w = .ok { target := .fn (.func (X.tab g)) cQ, args := #[] ++ c.args.map a.eval } w := by
    simp only [resolve, hc, hv', Deferred.ofValue]
    rfl
   rw [Zhl hr]
   simp only [invoke]
   rw [Zh5 hb]
   congr 2
   apply Array.ext'
   simp
def q8 (P : Program) (s d : TypeId) : Bool :=
 match P.underlying s, P.underlying d with
 | some (.slice e), some .string => (match P.underlying e with | some (.int .u8) => true | _ => false)
 | _, _ => false
theorem Z21 {tab : Nat -> FuncId} {mv : Nat -> Value} {c : Loc} : ∀ {es : List T} {ns : List Int} {k : Nat} {vs : List Value}, fA es = some ns -> bg tab mv w ow c 1 k es vs -> vs = ns.map (Value.int .u8) /\ ns.length = es.length
 | [], ns, k, vs, hb, h => by
  simp only [fA, Y89] at hb
  subst hb
  simp only [bg] at h
  exact ⟨h, rfl⟩
 | t :: es, ns, k, vs, hb, h => by
  simp only [bg] at h
  obtain ⟨v1, rest, rfl, hl, h1, h2⟩ := h
  cases t <;> try simp only [fA, reduceCtorEq] at hb
  rename_i kk n
  cases kk <;> simp only [fA, reduceCtorEq] at hb
  obtain ⟨ms, h3, rfl⟩ := Y87.1 hb
  obtain ⟨h4, h5⟩ := Z21 h3 h2
  simp only [rep] at h1
  subst h1 h4
  exact ⟨rfl, by simp [h5]⟩
theorem Z53 (h : Rel X U J σ a w ow) (hd : ca X o) (he : ∀ x, Fam e x -> ¬ U x) {x : Opd} {x' : Operand} {s t : TypeId} (hx : x.is X.tab x' = true) (hg : q8 X.P s t = true) (hop : o.op = .convert s t x')
  (af : (exec e o.dst (.nW x)).run σ = some ((), σ')) : Sound X U a w e o σ' := by
 obtain ⟨v, σ1, h1, h2⟩ := Zh3 af
 obtain ⟨rfl, bm⟩ := Zem h hx h1
 obtain ⟨tt, σ2, h3, h4⟩ := Zh3 h2
 obtain ⟨rfl, hl⟩ := Z9v h bm h3
 unfold q8 at hg
 split at hg
 ·rename_i el hs ht
  split at hg
  ·rename_i hel
   split at h4
   ·rename_i ob es
    cases hb : fA es with
    | none => simp [hb, Pg.run] at h4
    | some ns =>
     simp only [hb] at h4
     have bz : ∃ (A : Option Addr) (cap : Nat), a.eval x' = .slice A es.length cap /\ (match A with | none => es = [] | some ad => es ≠ [] -> ad.spot = none /\ At w ad.block ad.off (ns.map (Value.int .u8))) /\ ns.length = es.length := by
      have bG : rep X.tab X.mv w (hX ow) none (.l ob 1 es) [a.eval x'] := by
       rcases hl with hl | ⟨vs, hv, hl⟩
       ·exact hl
       ·exfalso
        cases v <;> simp only [fx] at h3
        case x t0 =>
         obtain ⟨rfl, _⟩ := Zhk h3
         simp only [cw, rep] at bm
         obtain ⟨_, A, cap, hh, _⟩ := bm
         rw [hv] at hh
         simp at hh
        case own k0 t0 =>
         obtain ⟨e0, _⟩ := Zhk h3
         have := Z9u h bm (v := .own k0 t0) (by simp only [fx]; exact h3)
         have h5 := this.2 (hX ow) X.mv (Zg _)
         simp only [rep] at h5
         obtain ⟨_, A, cap, hh, _⟩ := h5
         rw [hv] at hh
         simp at hh
        case w =>
         have := Z9u h bm h3
         have h5 := this.2 (hX ow) X.mv (Zg _)
         simp only [rep] at h5
         obtain ⟨_, A, cap, hh, _⟩ := h5
         rw [hv] at hh
         simp at hh
        case st cs =>
         obtain ⟨ts, σ3, _, h6⟩ := Zh3 h3
         obtain ⟨e0, _⟩ := Zhk h6
         cases e0
        all_goals simp [Pg.run] at h3
      simp only [rep] at bG
      obtain ⟨_, A, cap, hv, hc, _, cM⟩ := bG
      refine ⟨A, cap, by simpa using hv, ?_, ?_⟩
      ·cases A with
       | none =>
        simp only at cM ⊢
        rw [cM] at hc
        exact Y44.1 (by omega)
       | some ad =>
        intro hne
        obtain ⟨hsp, _, arr, ty, fr, vs', hh, _, hat, hes⟩ := cM (.inr hne)
        obtain ⟨rfl, _⟩ := Z21 hb hes
        exact ⟨hsp, fun j u hj => by simp only [World.cell?, hh]; exact hat j u hj⟩
      ·have : ∀ {es : List T} {ns : List Int}, fA es = some ns -> ns.length = es.length := by
        intro es
        induction es with
        | nil => intro ns h; simp only [fA, Y89] at h; subst h; rfl
        | cons t es ih =>
         intro ns h
         cases t <;> try simp only [fA, reduceCtorEq] at h
         rename_i kk n
         cases kk <;> simp only [fA, reduceCtorEq] at h
         obtain ⟨ms, h3, rfl⟩ := Y87.1 h
         simp [ih h3]
       exact this hb
     obtain ⟨A, cap, hv, hA, hnl⟩ := bz
     refine Zjj h (v := .string (strOf ns)) (av := .x (.s (strOf ns))) ?_ hd he (by simp [di, rep]) h4
     simp only [execOp, hop, hv]
     refine Zht ?_
     rw [run_convert_bytes_string w s t el A es.length cap hs hel ht]
     cases A with
     | none =>
      simp only at hA
      subst hA
      have : ns = [] := Y44.1 (by simpa using hnl)
      subst this
      rfl
     | some ad =>
      have hld : (loadCells ad es.length).run X.P w = .ok (ns.map (Value.int .u8)).toArray w := by
       by_cases hne : es = []
       ·subst hne
        have : ns = [] := Y44.1 (by simpa using hnl)
        subst this
        simp [loadCells, loadCellsFrom, Pure.pure, Sem.run]
       ·obtain ⟨hsp, hat⟩ := hA hne
        obtain ⟨b, of, sp⟩ := ad
        obtain rfl : sp = none := hsp
        have := Zhb (P := X.P) (w := w) (b := b) (o := of) es.length 0 #[] _ (by simpa using hat) (by simp [hnl])
        simpa [loadCells] using this
      rw [run_bytesToString w ad es.length cap ns hld]
      rfl
   ·simp [Pg.run] at h4
  ·cases hg
 ·cases hg
theorem Z68 (h : Rel X U J σ a w ow) {s : Nat} {t : T} (af : (kF s).run σ = some (t, σ')) : ∃ ow', Gh X U J J σ a w ow σ' ow' /\ rep X.tab X.mv w ow' none t [aK a s] := by
 unfold kF at af
 obtain ⟨v, σ1, h1, h2⟩ := Zh3 af
 obtain ⟨rfl, rfl⟩ := Zhj h1
 have hs := h.slot s
 cases hσ : σ1 s <;> rw [hσ] at h2 hs
 case x t0 =>
  cases t0 <;> try simp only [Pg.run, reduceCtorEq] at h2
  obtain ⟨rfl, rfl⟩ := Zhk h2
  exact ⟨ow, Gh.refl h (Nat.le_refl _), hs⟩
 case box k cs =>
  obtain ⟨_, σ2, h3, h4⟩ := Zh3 h2
  obtain ⟨rfl, rfl⟩ := Zhk h4
  have := Zhu h3
  subst this
  obtain ⟨b, arr, ty, fr, e1, e2, e3, e4, e5⟩ := hs
  have hr : rep X.tab X.mv w (eL ow s []) none (.p (pe cs)) [aK a s] := by
   simp only [rep]
   refine ⟨b, arr, ty, fr, by rw [e1], Z6n (p := []) (q := []) e2, e3, ?_⟩
   have h5 := Zf6 Z6p X.mv cs (c := some (.sl s, [])) none (fun b q hb => ⟨Z6n (p := []) (by simpa using hb), rfl⟩) e5
   unfold pe
   split
   ·rename_i c hc
    rw [hc] at h5
    simp only [aR] at h5
    obtain ⟨u, rest, h6, h7, h8⟩ := h5
    rw [h6, h8]
    exact h7
   ·simp only [rep]
    exact h5
  have hg := Z7b (J' := J) (v' := .x (.p (pe cs))) (ow' := eL ow s []) h (r := s) hr trivial Z6p (fun b r' q hr hb => Z6o hr hb) (fun b hb => by simp [eL, hb]) (fun b i q hb => h.air b i q (Z6l hb))
   (aQ.fresh fun c hc => by simp [upd, AV.rc] at hc) (by rw [hσ]; simp) (fun n => by rw [hσ]; simp)
  exact ⟨_, ⟨hg.1, Z6p, fun b i q _ hb => Z6o (by simp) hb, hg.2⟩, hr⟩
 all_goals simp [Pg.run] at h2
theorem Z6a : ∀ (xs : List Opd) (ys : List Operand) {σ σ' : St} {ow : Nat -> Ow} {ts : List T}, Rel X U J σ a w ow -> dW X.tab xs ys = true -> (jC xs).run σ = some (ts, σ') ->
  ∃ ow', Gh X U J J σ a w ow σ' ow' /\ ys.length = ts.length /\ ∀ (i : Nat) t y, ts[i]? = some t -> ys[i]? = some y -> rep X.tab X.mv w ow' none t [a.eval y]
 | [], [], σ, σ', ow, ts, h, hp, af => by
  obtain ⟨rfl, rfl⟩ := Zhk af
  exact ⟨ow, Gh.refl h (Nat.le_refl _), rfl, fun i t y ht => by simp at ht⟩
 | [], _ :: _, σ, σ', ow, ts, h, hp, af => by simp [dW] at hp
 | _ :: _, [], σ, σ', ow, ts, h, hp, af => by simp [dW] at hp
 | .k _ :: xs, y :: ys, σ, σ', ow, ts, h, hp, af => by simp [jC, Pg.run] at af
 | .t s :: xs, y :: ys, σ, σ', ow, ts, h, hp, af => by
  simp only [dW, Y2] at hp
  simp only [jC] at af
  obtain ⟨t, σ1, h1, h2⟩ := Zh3 af
  obtain ⟨ow1, hg1, hr1⟩ := Z68 h h1
  obtain ⟨ts', σ2, h3, h4⟩ := Zh3 h2
  obtain ⟨rfl, rfl⟩ := Zhk h4
  obtain ⟨ow2, hg2, hl, hr2⟩ := Z6a xs ys hg1.rel hp.2 h3
  refine ⟨ow2, hg1.trans hg2 (Nat.le_refl _), by simp [hl], fun i t' y' ht hy => ?_⟩
  cases i with
  | zero =>
   simp at ht hy
   subst ht hy
   have hv : a.eval y = aK a s := by
    cases y <;> simp [Opd.is] at hp
    obtain ⟨⟨rfl, hn⟩, _⟩ := hp
    simp [Act.eval, aK, hn]
   rw [hv]
   exact Zg1 hg2.z _ (c := none) (c' := none) trivial hr1
  | succ i => exact hr2 i t' y' (by simpa using ht) (by simpa using hy)
theorem Z4o (h : Rel X U J σ a w ow) (hd : ca X o) (he : ∀ x, Fam e x -> ¬ U x) {g : Nat} {xs : List Opd} {f : FuncId} {first cQ : Array Operand} (hf : X.tab g = f) (hx : dW X.tab xs cQ.toList = true) (h0 : first.isEmpty = true) (hop : o.op = .makeFunc (.func f) first cQ)
  (af : (exec e o.dst (.fn g xs)).run σ = some ((), σ')) : Sound X U a w e o σ' := by
 obtain ⟨ts, σ1, h1, h2⟩ := Zh3 af
 obtain ⟨ow1, hg, hl, hr⟩ := Z6a xs cQ.toList h hx h1
 have hf0 : first = #[] := by simpa using h0
 refine Zjj hg.rel (v := .func (.func f) #[] (cQ.map a.eval)) (av := .x (.f g ts)) ?_ hd he ?_ h2
 ·simp only [execOp, hop, hf0]
  refine Zht ?_
  simp only [Instr.makeFunc, Array.map_empty]
  rfl
 ·simp only [di, rep]
  refine ⟨cQ.map a.eval, by rw [hf], Zfa (by simpa using hl) fun j t v ht hv => ?_⟩
  simp only [Y1, Y37] at hv
  obtain ⟨y, hy, rfl⟩ := Y87.1 hv
  exact hr j t y ht hy
end
end Go.Wr
namespace Go.Wr
def q9 (P : Program) (tab : Nat -> FuncId) (m : MOp) (o : Oper) : Bool :=
 match m, o.op with
 | .mv x, .move y => x.is tab y
 | .asg x, .assign y => x.is tab y
 | .mv x, .assign y => x.is tab y
 | .pick c x y, .pick c' x' y' => c.is tab c' && x.is tab x' && y.is tab y'
 | .alloc cs, .alloc t => gR P t cs
 | .box _ x, .box _ y => x.is tab y
 | .fa x off, .fieldAddr s y f => x.is tab y && nG P s f off
 | .ia sz x ix, .indexAddr t y iy => x.is tab y && ix.is tab iy && iz P t sz
 | .ld none x, .load t y => x.is tab y && fk P t false
 | .ld (some n) x, .load t y => x.is tab y && fk P t true && fB P t n
 | .sto n _ x v, .store t y u => x.is tab y && v.is tab u && fB P t n && o.dst.isNone
 | .bin op g x y, .binOp op' t x' y' _ => decide (op = op') && x.is tab x' && y.is tab y' && g.ok P t
 | .un op x, .unOp op' _ x' => decide (op = op') && x.is tab x'
 | .cvt k x, .convert s t y => x.is tab y && qy P s t k
 | .nW x, .convert s t y => x.is tab y && q8 P s t
 | .mks sz agg zero l c, .makeSlice t l' c' => l.is tab l' && c.is tab c' && iW P t sz agg zero
 | .slc sz _ x lo hi, .slice t x' lo' hi' none => x.is tab x' && jZ tab lo lo' && jZ tab hi hi' && iz P t sz
 | .bld zero _ parts, .build t ps => qK P tab t zero parts ps.toList
 | .bsl sz agg zero len _ parts, .buildSlice t CN ps => len == CN && qL P tab t sz agg zero len parts ps.toList
 | .ext x j, .extract y j' => x.is tab y && j == j'
 | .qq x, .nilCheck y => x.is tab y
 | .fn g xs, .makeFunc (.func f) first cQ => tab g == f && dW tab xs cQ.toList && first.isEmpty
 | .len str x, .call c => (match c.callee, c.args.toList with | .builtin .len, [y] => x.is tab y && qA P str c.argTypes[0]? | _, _ => false)
 | .app sz agg zero _ x y, .call c => (match c.callee, c.args.toList with | .builtin .append, [x', y'] => x.is tab x' && y.is tab y' && appIs P c sz agg zero | _, _ => false)
 | .mn xs, .call c => (match c.callee with | .builtin .min => dW tab xs c.args.toList | _ => false)
 | .mx xs, .call c => (match c.callee with | .builtin .max => dW tab xs c.args.toList | _ => false)
 | .call g _ args, .call c => (match c.callee with | .value (.func f) => tab g == f && iC P f && da tab args c.args.toList | _ => false)
 | .dyn x eo args, .call c => (match c.callee with | .value y => x.is tab y && da tab args c.args.toList && eo.all (fun p => iC P (tab p.1)) | _ => false)
 | .bU g _ x args, .call c => (match c.callee, c.args.toList with | .value (.func f), y :: ys => tab g == f && iC P f && x.is tab y && da tab args ys | _, _ => false)
 | .kE x, .box t y => x.is tab y
 | _, _ => false
def MOp.calls : MOp -> List (Nat × Fun)
 | .call g F _ => [(g, F)]
 | .bU g F _ _ => [(g, F)]
 | .dyn _ eo _ => eo
 | _ => []
section
variable {X : Cx} {U : Nat -> Prop} {J J' : Nat} {σ σ' σ2 : St} {a a' a2 : Act} {w w' w2 : World} {ow ow' ow2 : Nat -> Ow} {e : Nat} {o : Oper}
theorem Lw {α : Type} {xs : Array α} {y : α} (h : xs.toList = [y]) : xs = #[y] := by
 apply Array.ext'
 rw [h]
theorem Cq {α : Type} {xs : Array α} {x y : α} (h : xs.toList = [x, y]) : xs = #[x, y] := by
 apply Array.ext'
 rw [h]
theorem Zbf {o : Oper} {y : Operand} (hop : o.op = .assign y) (ev : Operand -> Value) : execOp ev o = execOp ev { o with op := .move y } := by
 simp only [execOp, hop]
theorem Z4a (h : Rel X U J σ a w ow) (hd : ca X o) (he : ∀ x, Fam e x -> ¬ U x) {x : Opd} {x' : Operand} (hx : x.is X.tab x' = true) (hop : o.op = .assign x')
  (af : (exec e o.dst (.mv x)).run σ = some ((), σ')) : Sound X U a w e o σ' := by
 have h1 : Sound X U a w e { o with op := .move x' } σ' := Z4w (o := { o with op := .move x' }) h hd he hx rfl af
 intro K Q hK
 have h2 := h1 K Q hK
 unfold Oper.wp Oper.asks at h2 ⊢
 rw [Zbf hop]
 exact h2
theorem Z55 (h : Rel X U J σ a w ow) (hmv : X.mv = mv0) (hd : ca X o) (he : ∀ x, Fam e x -> ¬ U x) {m : MOp} (hF : ∀ p ∈ m.calls, dB X.P X.tab p.1 p.2) (hm : q9 X.P X.tab m o = true)
  (af : (exec e o.dst m).run σ = some ((), σ')) : Sound X U a w e o σ' := by
 unfold q9 at hm
 split at hm
 case h_1 x y hop => exact Z4w h hd he hm hop af
 case h_2 x y hop => exact Z49 h hd he hm hop af
 case h_3 x y hop => exact Z4a h hd he hm hop af
 case h_4 c x y c' x' y' hop =>
  simp only [Y2] at hm
  exact Z50 h hd he hm.1.1 hm.1.2 hm.2 hop af
 case h_5 cs t hop => exact Z47 h hd he hm hop af
 case h_6 tk x t y hop => exact Z4d h hd he hm hop af
 case h_7 x off s y f hop =>
  simp only [Y2] at hm
  exact Z4n h hd he hm.1 hm.2 hop af
 case h_8 sz x ix t y iy hop =>
  simp only [Y2] at hm
  exact Z4p h hd he hm.1.1 hm.1.2 hm.2 hop af
 case h_9 x t y hop =>
  simp only [Y2] at hm
  exact Z4r h hd he (agg := none) hm.1 hm.2 hop af
 case h_10 n x t y hop =>
  simp only [Y2] at hm
  exact Z4r h hd he (agg := some n) hm.1.1 ⟨hm.1.2, hm.2⟩ hop af
 case h_11 n tk x v t y u hop =>
  simp only [Y2, Option.isNone_iff_eq_none] at hm
  exact Z52 h hm.2 he hm.1.1.1 hm.1.1.2 hm.1.2 hop af
 case h_12 op g x y op' t x' y' t2 hop =>
  simp only [Y2, decide_eq_true_eq] at hm
  obtain ⟨⟨⟨rfl, h1⟩, h2⟩, h3⟩ := hm
  exact Z4b h hd he h1 h2 h3 hop af
 case h_13 op x op' t x' hop =>
  simp only [Y2, decide_eq_true_eq] at hm
  obtain ⟨rfl, h1⟩ := hm
  exact Z54 h hd he h1 hop af
 case h_14 k x s t y hop =>
  simp only [Y2] at hm
  exact Z4j h hd he hm.1 hm.2 hop af
 case h_15 x s t y hop =>
  simp only [Y2] at hm
  exact Z53 h hd he hm.1 hm.2 hop af
 case h_16 sz agg zero l c t l' c' hop =>
  simp only [Y2] at hm
  exact Z4u h hd he hm.1.1 hm.1.2 hm.2 hop af
 case h_17 sz tk x lo hi t x' lo' hi' hop =>
  simp only [Y2] at hm
  exact Z51 h hd he hm.1.1.1 hm.1.1.2 hm.1.2 hm.2 hop af
 case h_18 zero tk parts t ps hop => exact Z4c h hd he hm hop af
 case h_19 sz agg zero len tk parts t CN ps hop =>
  simp only [Y2, beq_iff_eq] at hm
  obtain ⟨rfl, hm⟩ := hm
  exact Z4f h hd he hm hop af
 case h_20 x j y j' hop =>
  simp only [Y2, beq_iff_eq] at hm
  obtain ⟨hm, rfl⟩ := hm
  exact Z4m h hd he hm hop af
 case h_21 x y hop => exact Z4z h hd he hm hop af
 case h_22 g xs f first cQ hop =>
  simp only [Y2, beq_iff_eq] at hm
  exact Z4o h hd he hm.1.1 hm.1.2 hm.2 hop af
 case h_23 str x c hop =>
  split at hm
  ·rename_i y hc ha
   simp only [Y2] at hm
   exact Z4t h hd he hm.1 hop hc (Lw ha) hm.2 af
  ·cases hm
 case h_24 sz agg zero tk x y c hop =>
  split at hm
  ·rename_i x' y' hc ha
   simp only [Y2] at hm
   exact Z48 h hd he hm.1.1 hm.1.2 hm.2 hop hc (Cq ha) af
  ·cases hm
 case h_25 xs c hop =>
  split at hm
  ·rename_i hc; exact Z4v h hd he hm hop hc af
  ·cases hm
 case h_26 xs c hop =>
  split at hm
  ·rename_i hc; exact Z4y h hd he hm hop hc af
  ·cases hm
 case h_27 g F args c hop =>
  split at hm
  ·rename_i f hc
   simp only [Y2, beq_iff_eq] at hm
   exact Z4g h hmv hd he (hF (g, F) (by simp [MOp.calls])) hop hc hm.1.1 hm.1.2 hm.2 af
  ·cases hm
 case h_28 x eo args c hop =>
  split at hm
  ·rename_i y hc
   simp only [Y2] at hm
   exact Z4l h hmv hd he (fun p hp => ⟨hF p hp, Y18.1 hm.2 p hp⟩) hm.1.1 hop hc hm.1.2 af
  ·cases hm
 case h_29 g F x args c hop =>
  split at hm
  ·rename_i f y ys hc ha
   simp only [Y2, beq_iff_eq] at hm
   exact Z4i h hmv hd he (hF (g, F) (by simp [MOp.calls])) hop hc hm.1.1.1 hm.1.1.2 ha hm.1.2 hm.2 af
  ·cases hm
 case h_30 x t y hop => exact Z4e h hd he hm hop af
 case h_31 => cases hm
theorem Zkn {chk : Bool} {r c n : Nat} {k : K} {x : T} (h : (lN chk r k c n).run σ = some (x, σ')) : (dL true r k [c] 0 n).run σ = some (x, σ') /\ (chk = true -> ∃ kk cs sz es, (σ r) = .box kk cs /\ kk.ok k 1 = true /\ cs[c]? = some (.l .y sz es) /\ x = .l .y sz es /\ n = es.length) := by
 obtain ⟨v, σ1, h1, h2⟩ := Zh3 h
 have e1 : v = (σ r).bk /\ σ1 = σ := by
  simp only [pk, Pg.run, Y89, Y90] at h1
  exact ⟨h1.1.symm, h1.2.symm⟩
 obtain ⟨rfl, rfl⟩ := e1
 cases hσ : σ1 r with
 | box kk cs =>
  simp only [hσ, AV.bk] at h2
  cases hk : kk.ok k 1 with
  | false => simp [hk, Pg.run] at h2
  | true =>
   simp only [hk] at h2
   obtain ⟨v, σ2, h3, h4⟩ := Zh3 h2
   have e2 : v = cs[c]? /\ σ2 = σ1 := by
    simp only [gC, Pg.run, hσ, AV.bc, Y89, Y90] at h3
    exact ⟨h3.1.symm, h3.2.symm⟩
   obtain ⟨rfl, rfl⟩ := e2
   split at h4
   ·rename_i sz es hc
    have hlt : c < cs.length := (Y36.1 hc).1
    have put : ∀ σ3, (sC r c .u).run σ2 = some ((), σ3) -> (dL true r k [c] 0 n).run σ2 = some (.l .y sz (sub es 0 n), σ3) := fun σ3 h5 => by
     have e3 : σ3 = upd σ2 r (.box kk (cs.set c .u)) := by
      simp only [sC, Pg.run, hσ, AV.dO, if_pos hlt, Y89, Y90, true_and] at h5
      exact h5.symm
     subst e3
     have e4 : dl true [c] = 1 := rfl
     have e5 : (T.a cs).nav [c] = some (.l .y sz es) := by simp [T.nav, T.kid, hc]
     have e6 : (T.a cs).put [c] .u = .a (cs.set c .u) := by simp [T.put, T.kid, T.aZ, hc]
     simp only [dL, dZ, Bind.bind, Pg.run, Pg.rd, hσ, AV.rc, e4, hk, if_true, Pure.pure, e5, Pg.wr, RC.av, e6]
    cases chk with
    | false =>
     simp only at h4
     obtain ⟨_, σ3, h5, h6⟩ := Zh3 h4
     obtain ⟨rfl, rfl⟩ := Zhk h6
     exact ⟨put _ h5, fun e => by cases e⟩
    | true =>
     simp only at h4
     split at h4
     ·rename_i hn
      obtain ⟨_, σ3, h5, h6⟩ := Zh3 h4
      obtain ⟨rfl, rfl⟩ := Zhk h6
      have hs : sub es 0 n = es := by rw [hn]; simp [sub]
      have := put _ h5
      rw [hs] at this
      exact ⟨this, fun _ => ⟨kk, cs, sz, es, rfl, hk, hc, rfl, hn⟩⟩
     ·simp [Pg.run] at h4
   ·simp [Pg.run] at h4
 | _ => simp only [hσ, AV.bk, Pg.run, reduceCtorEq] at h2
theorem Z7m : ∀ (cs : List Cell) {σ σ' : St} {ts : List T}, (iY cs).run σ = some (ts, σ') -> (cS true cs).run σ = some (ts, σ')
 | [], σ, σ', ts, h => h
 | .x t :: cs, σ, σ', ts, h => by
  obtain ⟨us, σ1, h1, h2⟩ := Zh3 h
  have h3 := Z7m cs h1
  show ((cS true cs).bind fun ts => pure (t :: ts)).run σ = _
  simp only [Pg.run, h3]
  exact h2
 | .w r k p z lo n :: cs, σ, σ', ts, h => by
  unfold iY at h
  split at h
  ·cases ‹_ :: _ = []›
  ·rename_i he; cases he
  ·rename_i he
   cases he
   obtain ⟨t, σ1, h1, h2⟩ := Zh3 h
   obtain ⟨us, σ2, h3, h4⟩ := Zh3 h2
   have h5 := (Zkn h1).1
   have h6 := Z7m cs h3
   show ((dL true _ _ _ _ _).bind fun t => (cS true cs).bind fun ts => pure (t :: ts)).run σ = _
   simp only [Pg.run, h5, h6]
   exact h4
  ·simp [Pg.run] at h
theorem Z5m {d : Option Nat} : ∀ (m : MOp), (jF e d m).run σ = some ((), σ') -> (exec e d m).run σ = some ((), σ') := fun m h => by
 have ref : ∀ (n off : Nat), (nD n off d).run σ = some ((), σ') -> ∃ k cs, σ n = .box k cs /\ (bT d (.ptr n k [] off)).run σ = some ((), σ') := fun n off h => by
  obtain ⟨v, σ1, h1, h2⟩ := Zh3 h
  have e1 : v = (σ n).bk /\ σ1 = σ := by
   simp only [pk, Pg.run, Y89, Y90] at h1
   exact ⟨h1.1.symm, h1.2.symm⟩
  obtain ⟨rfl, rfl⟩ := e1
  cases hσ : σ1 n with
  | box k cs => simp only [hσ, AV.bk] at h2; exact ⟨k, cs, rfl, h2⟩
  | _ => simp only [hσ, AV.bk, Pg.run, reduceCtorEq] at h2
 unfold jF at h
 split at h
 ·rename_i n
  obtain ⟨k, cs, hσ, h2⟩ := ref n 0 h
  simp only [exec, look, Pg.rd, Bind.bind, Pg.run, hσ, Pure.pure]
  exact h2
 ·rename_i n off
  obtain ⟨k, cs, hσ, h2⟩ := ref n off h
  simp only [exec, addr, look, Pg.rd, Bind.bind, Pg.run, hσ, Pure.pure, Y83]
  exact h2
 ·rename_i x
  obtain ⟨v, σ1, h1, h2⟩ := Zh3 h
  obtain ⟨rfl, rfl⟩ := Zhj h1
  split at h2
  ·rename_i r k off hσ
   obtain ⟨v, σ2, h3, h4⟩ := Zh3 h2
   have e1 : v = (σ1 r).bk /\ σ2 = σ1 := by
    simp only [pk, Pg.run, Y89, Y90] at h3
    exact ⟨h3.1.symm, h3.2.symm⟩
   obtain ⟨rfl, rfl⟩ := e1
   cases hr : σ2 r with
   | box kk cs =>
    simp only [hr, AV.bk] at h4
    cases hk : kk.ok k 0 with
    | false => simp [hk, Pg.run] at h4
    | true =>
     simp only [hk] at h4
     obtain ⟨v, σ3, h5, h6⟩ := Zh3 h4
     have e2 : v = cs[off]? /\ σ3 = σ2 := by
      simp only [gC, Pg.run, hr, AV.bc, Y89, Y90] at h5
      exact ⟨h5.1.symm, h5.2.symm⟩
     obtain ⟨rfl, rfl⟩ := e2
     split at h6
     ·rename_i t hc
      have e4 : fh true [] = 0 := rfl
      have e5 : (T.a cs).nav [] = some (.a cs) := rfl
      have e6 : (T.a cs).cells = cs := rfl
      have e7 : seen r kk [] off (.a cs) t = seen r kk [] off (.a []) t := by unfold seen; split <;> rfl
      simp only [exec, load, addr, look, fH, Pg.rd, Bind.bind, Pg.run, hσ, hr, Pure.pure, AV.rc, e4, hk, Bool.true_or, Y4, if_true, e5, e6, hc, e7]
      exact h6
     ·simp [Pg.run] at h6
   | _ => simp only [hr, AV.bk, Pg.run, reduceCtorEq] at h4
  ·simp [Pg.run] at h2
 ·rename_i n x v
  obtain ⟨v0, σ1, h1, h2⟩ := Zh3 h
  obtain ⟨rfl, rfl⟩ := Zhj h1
  split at h2
  ·rename_i cells hσ
   split at h2
   ·simp [Pg.run] at h2
   ·rename_i hown
    obtain ⟨new, σ2, h3, h4⟩ := Zh3 h2
    have h5 := Z7m cells h3
    have h6 : (dz e true (.t v)).run σ1 = some (new, σ2) := by
     simp only [dz, raw, Pg.rd, Bind.bind, Pg.run, hσ]
     rw [if_neg hown]
     exact h5
    show ((dz e true (.t v)).bind _).run σ1 = _
    simp only [Pg.run, h6]
    exact h4
  ·simp [Pg.run] at h2
 ·rename_i sz agg zero tk x y
  cases d with
  | none => simp [Pg.run] at h
  | some d =>
   simp only at h
   obtain ⟨v0, σ1, h1, h2⟩ := Zh3 h
   obtain ⟨rfl, rfl⟩ := Zhj h1
   split at h2
   ·rename_i r k c z n hσ
    obtain ⟨t, σ2, h3, h4⟩ := Zh3 h2
    obtain ⟨h5, h5b⟩ := Zkn h3
    obtain ⟨kk, cs, sz1, es, hr, hk, hc, rfl, hn⟩ := h5b rfl
    have e4 : dl true [c] = 1 := rfl
    have e5 : (T.a cs).nav [c] = some (.l .y sz1 es) := by simp [T.nav, T.kid, hc]
    have h6 : (c6 e (.t x)).run σ1 = some (.l .y sz1 es, σ2) := by
     simp only [c6, raw, dZ, Pg.rd, Bind.bind, Pg.run, hσ, hr, AV.rc, e4, hk, if_true, Pure.pure, e5, hn, and_self]
     rw [<- hn]; exact h5
    show ((c6 e (.t x)).bind _).run σ1 = _
    simp only [Pg.run, h6]
    exact h4
   ·simp [Pg.run] at h2
 ·simp [Pg.run] at h
theorem Z4s (h : Rel X U J σ a w ow) (hd : ca X o) (he : ∀ x, Fam e x -> ¬ U x) {x : Opd} {y : Operand} (hx : x.is X.tab y = true) {t : TypeId} (hty : fk X.P t false = true) (hop : o.op = .load t y)
  (af : (exec e o.dst (.ldo x)).run σ = some ((), σ')) : Sound X U a w e o σ' := by
 obtain ⟨av, σ1, h1, h2⟩ := Zh3 af
 obtain ⟨rfl, v, hv, hl⟩ := Za1 h hx (agg := none) hty h1
 have bz : (execOp a.eval o).run X.P w = .ok (.value v) w := by
  simp only [execOp, hop]
  exact Zht hv
 cases av <;> try simp only [Pg.run, reduceCtorEq] at h2
 rename_i r k p z lo n
 cases h3 : (dL true r k p lo n).run σ1 with
 | none => rw [h3] at h2; cases h2
 | some q =>
  obtain ⟨t1, σ5⟩ := q
  rw [h3] at h2
  simp only at h2
  obtain ⟨ow', hgh, hr⟩ := Z7i h hl.1 h3
  refine Zjh hgh.rel bz hd he (Zcr hr ?_) h2
  obtain ⟨c, o2, sz2, es, _, _, _, et⟩ := Z7j h3
  rcases et with ⟨_, rfl, _⟩ | ⟨_, rfl, _⟩ | ⟨_, rfl, _⟩
  ·exact .inl ⟨_, _, rfl⟩
  ·exact .inr ⟨_, _, rfl⟩
  ·exact .inl ⟨_, _, rfl⟩
def ra (P : Program) (tab : Nat -> FuncId) (m : MOp) (o : Oper) : Bool := match m with
 | .gv m => q9 P tab m o
 | .ldo x => match o.op with
  | .load t y => x.is tab y && fk P t false
  | _ => false
 | .ixa n sz x ix => match o.op with
  | .indexAddr t y iy => x.is tab y && ix.is tab iy && arrIs P t n sz
  | _ => false
 | m => q9 P tab m o
theorem Z5l {d : Option Nat} {m : MOp} (h : (jF e d m).run σ = some ((), σ')) : m.calls = [] := by
 unfold jF at h
 split at h <;> first | rfl | simp [Pg.run] at h
theorem Z56 (h : Rel X U J σ a w ow) (hmv : X.mv = mv0) (hd : ca X o) (he : ∀ x, Fam e x -> ¬ U x) {m : MOp} (hF : ∀ p ∈ m.calls, dB X.P X.tab p.1 p.2) (hm : ra X.P X.tab m o = true)
  (af : (exec e o.dst m).run σ = some ((), σ')) : Sound X U a w e o σ' := by
 unfold ra at hm
 split at hm
 ·rename_i m
  have h2 : (jF e o.dst m).run σ = some ((), σ') := af
  exact Z55 h hmv hd he (fun p hp => by rw [Z5l h2] at hp; cases hp) hm (Z5m m h2)
 ·split at hm
  ·rename_i hop
   simp only [Y2] at hm
   exact Z4s h hd he hm.1 hm.2 hop af
  ·cases hm
 ·split at hm
  ·rename_i hop
   simp only [Y2] at hm
   exact Z4q h hd he hm.1.1 hm.1.2 hm.2 hop af
  ·cases hm
 ·exact Z55 h hmv hd he hF hm af
end
end Go.Wr
namespace Go.Wr
def iD (P : Program) (tab : Nat -> FuncId) (n : Nat) (bu : List Nat) (ops : Array Oper) (m : aC) (o : Oper) : Bool :=
 ra P tab m.op o && m.d == o.dst && (match o.dst with | some d => decide (d < n) && !bu.contains d | none => true) &&
 (match m.guard, o.guard with
  | none, none => true
  | some (s, want), some (g, BV) => want == BV && (ops[g]?).bind (·.dst) == some s && decide (s < 1000)
  | _, _ => false) && m.kl.all fun s => decide (s < 2000)
section
variable {X : Cx} {U : Nat -> Prop} {J J' : Nat} {σ σ' σ2 : St} {a a' a2 : Act} {w w' w2 : World} {ow ow' ow2 : Nat -> Ow} {e : Nat} {o : Oper}
theorem Z64 (h : Rel X U J σ a w ow) {d : Nat} (hd : d < 1000) : Rel X U J (dF σ d .u) a w ow := by
 have hat := fun s => Ziy h hd .u s
 have hz : Zs w ow w ow := fun b hb => ⟨hb, rfl⟩
 have cc : ∀ r, aQ U σ a w (dF σ d .u) a w r := fun r => by
  by_cases h1 : r = d
  ·refine aQ.fresh fun c hc => ?_
   rw [hat r, if_pos h1] at hc
   simp [AV.rc] at hc
  ·by_cases h2 : 1000 <= r /\ r % 1000 = d
   ·refine aQ.fresh fun c hc => ?_
    rw [hat r, if_neg h1, if_pos h2] at hc
    simp [AV.rc] at hc
   ·exact Zer (h.slot r) (by rw [hat r, if_neg h1, if_neg h2]) rfl hz (fun _ _ _ => rfl)
 refine ⟨h.size, h.small, h.defers, fun s => ?_, fun s => ?_, h.low, h.air, h.grown, h.same, h.os, h.output, h.bu, fun s hs hu => ?_⟩
 ·rw [hat s]
  split
  ·trivial
  ·split
   ·trivial
   ·exact Zj6 (h.slot s) (h.bZ s) hz cc (fun b q hb => ⟨hb, rfl⟩)
 ·rw [hat s]
  split
  ·trivial
  ·split
   ·trivial
   ·exact h.bZ s
 ·rw [hat s] at hu
  have h1 : s ≠ d := by omega
  rw [if_neg h1] at hu
  split at hu
  ·exact absurd rfl hu
  ·rename_i h2
   obtain ⟨n, h3, h4⟩ := h.gI s hs hu
   refine ⟨n, ?_, h4⟩
   rw [hat, if_neg (fun e => h2 ⟨hs, e⟩), if_neg (by omega)]
   exact h3
theorem Z94 (h : Rel X U J σ a w ow) {d : Nat} (hd : d < 1000) {t : T} (ht : rep X.tab X.mv w ow none t [aK a d]) : Rel X U J (dF σ d (.x t)) a w ow := by
 have hat := fun s => Ziy h hd (.x t) s
 have hz : Zs w ow w ow := fun b hb => ⟨hb, rfl⟩
 have cc : ∀ r, aQ U σ a w (dF σ d (.x t)) a w r := fun r => by
  by_cases h1 : r = d
  ·refine aQ.fresh fun c hc => ?_
   rw [hat r, if_pos h1] at hc
   simp [AV.rc] at hc
  ·by_cases h2 : 1000 <= r /\ r % 1000 = d
   ·refine aQ.fresh fun c hc => ?_
    rw [hat r, if_neg h1, if_pos h2] at hc
    simp [AV.rc] at hc
   ·exact Zer (h.slot r) (by rw [hat r, if_neg h1, if_neg h2]) rfl hz (fun _ _ _ => rfl)
 refine ⟨h.size, h.small, h.defers, fun s => ?_, fun s => ?_, h.low, h.air, h.grown, h.same, h.os, h.output, h.bu, fun s hs hu => ?_⟩
 ·rw [hat s]
  split
  ·rename_i e; subst e; exact ht
  ·split
   ·trivial
   ·exact Zj6 (h.slot s) (h.bZ s) hz cc (fun b q hb => ⟨hb, rfl⟩)
 ·rw [hat s]
  split
  ·trivial
  ·split
   ·trivial
   ·exact h.bZ s
 ·rw [hat s] at hu
  have h1 : s ≠ d := by omega
  rw [if_neg h1] at hu
  split at hu
  ·exact absurd rfl hu
  ·rename_i h2
   obtain ⟨n, h3, h4⟩ := h.gI s hs hu
   refine ⟨n, ?_, h4⟩
   rw [hat, if_neg (fun e => h2 ⟨hs, e⟩), if_neg (by omega)]
   exact h3
theorem Z7h {r : Nat} {k : K} {p : List Nat} {lo n : Nat} {t : T} (af : (dL false r k p lo n).run σ = some (t, σ')) : ∃ sz es, t = .l .n sz es := by
 obtain ⟨c, σ1, h1, h2⟩ := Zh3 af
 cases hn : c.t.nav p with
 | none => simp [hn, Pg.run] at h2
 | some node =>
  simp only [hn] at h2
  cases node <;> try simp only [Pg.run, reduceCtorEq] at h2
  rename_i o sz es
  cases o with
  | n =>
   obtain ⟨rfl, _⟩ := Zhk h2
   exact ⟨_, _, rfl⟩
  | m k => simp [Pg.run] at h2
  | y =>
   simp only [Y9, if_false] at h2
   obtain ⟨_, σ2, h3, h4⟩ := Zh3 h2
   obtain ⟨rfl, _⟩ := Zhk h4
   exact ⟨_, _, rfl⟩
theorem Z69 (h : Rel X U J σ a w ow) {s : Nat} (hs : s < 1000) (af : (nE s).run σ = some ((), σ')) : ∃ J' ow', Rel X U J' σ' a w ow' := by
 obtain ⟨v, σ1, h1, h2⟩ := Zh3 af
 obtain ⟨e0, bm, -, -⟩ := Zaf h (o := .tmp s) (by simp [Opd.is, hs]) h1
 subst e0
 have same : (pure () : Pg Unit).run σ1 = some ((), σ') -> ∃ J' ow', Rel X U J' σ' a w ow' := fun h3 => by
  obtain ⟨_, rfl⟩ := Zhk h3
  exact ⟨J, ow, h⟩
 cases v <;> try exact same h2
 rename_i r k p z lo n
 obtain ⟨t, σ2, h3, h4⟩ := Zh3 h2
 obtain ⟨ow', hg, hr⟩ := Z7i h bm.1 h3
 obtain ⟨sz, es, rfl⟩ := Z7h h3
 cases hrs : r == s with
 | true =>
  rw [hrs] at h4
  obtain ⟨_, rfl⟩ := Zhk h4
  exact ⟨J + 1, ow', hg.rel⟩
 | false =>
  rw [hrs] at h4
  simp only [cond_false] at h4
  rw [Zhn] at h4
  simp only [Y89, Y90, true_and] at h4
  subst h4
  have e : a.eval (.tmp s) = aK a s := by simp [Act.eval, aK, hs]
  rw [e] at hr
  have hr2 : rep X.tab X.mv w ow' none (T.l .n sz es) [aK a s] := by
   simp only [rep, Ob.own, Ob.loc] at hr ⊢
   simpa using hr
  exact ⟨J + 1, ow', Z94 hg.rel hs hr2⟩
theorem Z65 : ∀ (ss : List Nat) {σ σ' : St} {J : Nat} {ow : Nat -> Ow}, Rel X U J σ a w ow -> ss.all (fun s => decide (s < 2000)) = true -> (forget ss).run σ = some ((), σ') -> ∃ J' ow', Rel X U J' σ' a w ow'
 | [], σ, σ', J, ow, h, _, af => by
  obtain ⟨_, rfl⟩ := Zhk af
  exact ⟨J, ow, h⟩
 | s :: ss, σ, σ', J, ow, h, hs, af => by
  simp only [Y17, Y2, decide_eq_true_eq] at hs
  obtain ⟨_, σ1, h1, h2⟩ := Zh3 (m := bif Nat.blt s 1000 then setS s .u else nE (s - 1000)) (f := fun _ => forget ss) af
  cases hb : Nat.blt s 1000 with
  | true =>
   rw [hb] at h1
   simp only [cond_true] at h1
   rw [Zhn] at h1
   simp only [Y89, Y90, true_and] at h1
   subst h1
   exact Z65 ss (Z64 h (show s + 1 <= 1000 from Y76 hb)) hs.2 h2
  | false =>
   rw [hb] at h1
   simp only [cond_false] at h1
   obtain ⟨J', ow', hr⟩ := Z69 h (by omega) h1
   exact Z65 ss hr hs.2 h2
theorem Z7o (h : Rel X U J σ a w ow) (hmv : X.mv = mv0) (he : ∀ x, Fam e x -> ¬ U x) {m : aC} {ops : Array Oper} {i : Nat} (hF : ∀ p ∈ m.op.calls, dB X.P X.tab p.1 p.2) (hi : ops[i]? = some o) (hm : iD X.P X.tab X.n X.bu ops m o = true)
  (af : (m.go e).run σ = some ((), σ')) (K : Act -> World -> Prop) (Q : Exit -> Act -> World -> Prop) (hK : ∀ a' w' ow' J', Rel X (fun x => U x \/ Fam e x) J' σ' a' w' ow' -> K a' w') : wpOp X.P ops Q i K a w := by
 unfold iD at hm
 simp only [Y2, beq_iff_eq] at hm
 obtain ⟨⟨⟨⟨hop, hd⟩, bW⟩, hg⟩, _⟩ := hm
 have hdo : ca X o := fun d hdd => by
  rw [hdd] at bW
  simp only [Y2, decide_eq_true_eq, Y11, List.contains_eq_mem, decide_eq_false_iff_not] at bW
  exact bW
 unfold wpOp
 simp only [hi]
 unfold aC.go at af
 cases hmg : m.guard with
 | none =>
  simp only [hmg] at af hg
  cases hog : o.guard with
  | some gw => simp [hog] at hg
  | none =>
   have hw : Region.wanted o (yielded ops a.tmps) = true := by simp [Region.wanted, hog]
   rw [if_pos hw]
   rw [hd] at af
   exact Z56 h hmv hdo he hF hop af K Q hK
 | some sw =>
  obtain ⟨s, want⟩ := sw
  simp only [hmg] at af hg
  cases hog : o.guard with
  | none => simp [hog] at hg
  | some gw =>
   obtain ⟨g, BV⟩ := gw
   simp only [hog, Y2, beq_iff_eq, decide_eq_true_eq] at hg
   obtain ⟨⟨rfl, hgs⟩, hs1⟩ := hg
   obtain ⟨v, σ1, h1, h2⟩ := Zh3 af
   obtain ⟨rfl, rfl⟩ := Zhj h1
   have hsl := h.slot s
   have skip : (bT m.d (.tup 0)).run σ1 = some ((), σ') -> K (a.put o.dst undef) w := fun h2 => by
    rw [hd, Zhm] at h2
    simp only [Y89, Y90, true_and] at h2
    subst h2
    exact hK _ _ _ _ (Zm0 h (fun x hx => .inl hx) (gO.rfl h o.dst (Nat.le_refl J)) (av := .tup 0) (v := undef) hdo trivial (fun c hc => by simp [AV.rc] at hc) (fun d _ σ' a' hr => ⟨#[], rfl, rfl⟩)).1
   cases hσ : σ1 s <;> rw [hσ] at h2 hsl <;> try simp only [Pg.run, reduceCtorEq] at h2
   case tup n =>
    cases n with
    | succ n => simp [Pg.run] at h2
    | zero =>
     obtain ⟨vs, bz, hvs⟩ := hsl
     unfold aK at bz
     rw [if_pos hs1] at bz
     have hy : yielded ops a.tmps g = none := by
      unfold yielded
      rw [hgs]
      simp only [Y86]
      cases hts : a.tmps[s]? with
      | none => rfl
      | some v => simp [hts] at bz; rw [bz]
     have hw : Region.wanted o (yielded ops a.tmps) = false := by
      simp [Region.wanted, hog, hy]
     rw [hw]
     simp only [Y9, if_false]
     exact skip h2
   rename_i t
   cases t <;> try simp only [Pg.run, reduceCtorEq] at h2
   rename_i b
   have bz : aK a s = .bool b := by simpa [aP, rep] using hsl
   unfold aK at bz
   rw [if_pos hs1] at bz
   have hy : yielded ops a.tmps g = some b := by
    unfold yielded
    rw [hgs]
    simp only [Y86]
    have : a.tmps[s]? = some (.bool b) := by
     cases hts : a.tmps[s]? with
     | none => simp [hts, undef] at bz
     | some v => simp [hts] at bz; rw [bz]
    rw [this]
   have hw : Region.wanted o (yielded ops a.tmps) = (b == want) := by
    simp [Region.wanted, hog, hy]
   rw [hw]
   by_cases hbw : b = want
   ·subst hbw
    simp only [beq_self_eq_true, if_true] at h2 ⊢
    rw [hd] at h2
    exact Z56 h hmv hdo he hF hop h2 K Q hK
   ·have : (b == want) = false := by simpa using hbw
    rw [this]
    rw [if_neg hbw] at h2
    simp only [Y9, if_false]
    exact skip h2
theorem Zcf (h : Rel X U J σ a w ow) (hmv : X.mv = mv0) (he : ∀ x, Fam e x -> ¬ U x) {m : aC} {ops : Array Oper} {i : Nat} (hF : ∀ p ∈ m.op.calls, dB X.P X.tab p.1 p.2) (hi : ops[i]? = some o) (hm : iD X.P X.tab X.n X.bu ops m o = true)
  (af : (m.exec e).run σ = some ((), σ')) (K : Act -> World -> Prop) (Q : Exit -> Act -> World -> Prop) (hK : ∀ a' w' ow' J', Rel X (fun x => U x \/ Fam e x) J' σ' a' w' ow' -> K a' w') : wpOp X.P ops Q i K a w := by
 obtain ⟨_, σ1, h1, h2⟩ := Zh3 (m := m.go e) (f := fun _ => forget m.kl) af
 have hkl : m.kl.all (fun s => decide (s < 2000)) = true := by
  unfold iD at hm
  simp only [Y2] at hm
  exact hm.2
 exact Z7o h hmv he hF hi hm h1 K Q fun a' w' ow' J' hr => by
  obtain ⟨J2, ow2, hr2⟩ := Z65 m.kl hr hkl h2
  exact hK a' w' ow2 J2 hr2
theorem Zch (hmv : X.mv = mv0) {ops : Array Oper} {Q : Exit -> Act -> World -> Prop} (id : Nat) : ∀ (ms : List aC) (i : Nat) {U : Nat -> Prop} {J : Nat} {σ σ' : St} {a : Act} {w : World} {ow : Nat -> Ow}, Rel X U J σ a w ow ->
  (∀ x, (id * 1000 + i + 1) * 8 <= x -> x < (id * 1000 + 1000) * 8 -> ¬ U x) -> i + ms.length < 1000 -> (∀ m ∈ ms, ∀ p ∈ m.op.calls, dB X.P X.tab p.1 p.2) ->
  (∀ (j : Nat) m, ms[j]? = some m -> ∃ o, ops[i + j]? = some o /\ iD X.P X.tab X.n X.bu ops m o = true) -> (jW id i ms).run σ = some ((), σ') ->
  (∀ a' w' ow' J', Rel X (fun x => U x \/ ((id * 1000 + i + 1) * 8 <= x /\ x < (id * 1000 + 1000) * 8)) J' σ' a' w' ow' -> Q .normal a' w') -> wpOps X.P ops Q (List.range' i ms.length) a w
 | [], i, U, J, σ, σ', a, w, ow, h, hfr, hl, hF, hm, af, hK => by
  obtain ⟨_, rfl⟩ := Zhk af
  exact hK _ _ _ _ (h.mono (fun x hx => .inl hx) (Nat.le_refl _))
 | m :: ms, i, U, J, σ, σ', a, w, ow, h, hfr, hl, hF, hm, af, hK => by
  simp only [jW] at af
  obtain ⟨_, σ1, h1, h2⟩ := Zh3 af
  obtain ⟨o, ho, hmo⟩ := hm 0 m rfl
  simp only [Y42] at hl
  rw [Y75] at ho
  show wpOps X.P ops Q (List.range' i (ms.length + 1)) a w
  rw [List.range'_succ, wpOps_cons]
  refine Zcf h hmv (fun x hx => hfr x hx.1 (by have := hx.2; omega)) (hF m Y57) ho hmo h1 _ Q (fun a' w' ow' J' jc => ?_)
  refine Zch hmv id ms (i + 1) jc (fun x hx1 hx2 hU => ?_) (by omega) (fun m' hm' => hF m' (Y56 _ hm')) (fun j m' hj => ?_) h2 (fun a2 w2 ow2 J2 hr2 => hK _ _ _ _ (hr2.mono (fun x hx => ?_) (Nat.le_refl _)))
  ·rcases hU with hU | hU
   ·exact hfr x (by omega) hx2 hU
   ·have := hU.2; omega
  ·have := hm (j + 1) m' (by simpa using hj)
   rw [show i + 1 + j = i + (j + 1) by omega]; exact this
  ·rcases hx with (hx | hx) | hx
   ·exact .inl hx
   ·exact .inr ⟨hx.1, by have := hx.2; omega⟩
   ·exact .inr ⟨by omega, hx.2⟩
end
end Go.Wr

