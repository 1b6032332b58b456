/-
  What is proved: lemmas on the way to the laws of this seat. No condition.
-/
import Derived.Orders
import Derived.Below
import Derived.ChangeKeysEq
set_option linter.unusedVariables false
set_option linter.unusedSimpArgs false
namespace Go.Wr
abbrev Y0 := @Array.length_toList
abbrev Y1 := @Array.toList_map
abbrev Y2 := @Bool.and_eq_true
abbrev Y3 := @Bool.and_false
abbrev Y4 := @Bool.and_self
abbrev Y5 := @Bool.and_true
abbrev Y6 := @Bool.eq_false_iff
abbrev Y7 := @Bool.eq_iff_iff
abbrev Y8 := @Bool.false_and
abbrev Y9 := @Bool.false_eq_true
abbrev Y10 := @Bool.not_eq_true
abbrev Y11 := @Bool.not_eq_true'
abbrev Y12 := @Bool.not_false
abbrev Y13 := @Bool.not_true
abbrev Y14 := @Bool.or_eq_true
abbrev Y15 := @Bool.true_and
abbrev Y16 := @Int.natCast_nonneg
abbrev Y17 := @List.all_cons
abbrev Y18 := @List.all_eq_true
abbrev Y19 := @List.all_nil
abbrev Y20 := @List.any_eq_true
abbrev Y21 := @List.append_assoc
abbrev Y22 := @List.append_nil
abbrev Y23 := @List.cons.injEq
abbrev Y24 := @List.cons_append
abbrev Y25 := @List.ext_getElem?
abbrev Y26 := @List.find?_some
abbrev Y27 := @List.flatten_cons
abbrev Y28 := @List.foldl_cons
abbrev Y29 := @List.getElem?_append_left
abbrev Y30 := @List.getElem?_append_right
abbrev Y31 := @List.getElem?_cons_succ
abbrev Y32 := @List.getElem?_cons_zero
abbrev Y33 := @List.getElem?_drop
abbrev Y34 := @List.getElem?_eq_getElem
abbrev Y35 := @List.getElem?_eq_none
abbrev Y36 := @List.getElem?_eq_some_iff
abbrev Y37 := @List.getElem?_map
abbrev Y38 := @List.getElem?_set_ne
abbrev Y39 := @List.getElem?_set_self
abbrev Y40 := @List.getElem_mem
abbrev Y41 := @List.length_append
abbrev Y42 := @List.length_cons
abbrev Y43 := @List.length_eq_one_iff
abbrev Y44 := @List.length_eq_zero_iff
abbrev Y45 := @List.length_map
abbrev Y46 := @List.length_nil
abbrev Y47 := @List.length_pos_iff
abbrev Y48 := @List.length_take
abbrev Y49 := @List.map_append
abbrev Y50 := @List.map_cons
abbrev Y51 := @List.map_map
abbrev Y52 := @List.mem_append
abbrev Y53 := @List.mem_append_left
abbrev Y54 := @List.mem_append_right
abbrev Y55 := @List.mem_cons
abbrev Y56 := @List.mem_cons_of_mem
abbrev Y57 := @List.mem_cons_self
abbrev Y58 := @List.mem_flatMap
abbrev Y59 := @List.mem_iff_getElem?
abbrev Y60 := @List.mem_map
abbrev Y61 := @List.mem_of_find?_eq_some
abbrev Y62 := @List.mem_of_getElem?
abbrev Y63 := @List.mem_of_mem_take
abbrev Y64 := @List.mem_range
abbrev Y65 := @List.mem_singleton
abbrev Y66 := @List.nil_append
abbrev Y67 := @List.pairwise_cons
abbrev Y68 := @List.pairwise_iff_getElem
abbrev Y69 := @List.sum_cons
abbrev Y70 := @List.take_add_one
abbrev Y71 := @List.take_append_drop
abbrev Y72 := @List.take_length
abbrev Y73 := @List.take_of_length_le
abbrev Y74 := @Nat.add_assoc
abbrev Y75 := @Nat.add_zero
abbrev Y76 := @Nat.le_of_ble_eq_true
abbrev Y77 := @Nat.le_trans
abbrev Y78 := @Nat.lt_of_lt_of_le
abbrev Y79 := @Nat.lt_or_ge
abbrev Y80 := @Nat.mul_le_mul_right
abbrev Y81 := @Nat.ne_of_lt
abbrev Y82 := @Nat.succ_mul
abbrev Y83 := @Nat.zero_add
abbrev Y84 := @Option.bind_eq_some_iff
abbrev Y85 := @Option.bind_none
abbrev Y86 := @Option.bind_some
abbrev Y87 := @Option.map_eq_some_iff
abbrev Y88 := @Option.map_some
abbrev Y89 := @Option.some.injEq
abbrev Y90 := @Prod.mk.injEq
inductive Ob where
 | n
 | y
 | m (k : Nat)
 deriving DecidableEq
inductive T where
 | i (k : IntKind) (n : Int)
 | b (x : Bool)
 | s (x : ByteArray)
 | a (cs : List T)
 | l (o : Ob) (sz : Nat) (es : List T)
 | f (g : Nat) (env : List T)
 | p (t : T)
 | u
 deriving Inhabited
inductive aH where
 | sl (n : Nat)
 | ar (n : Nat)
 | rs (n : Nat)
 deriving DecidableEq
inductive Ow where
 | no
 | z
 | own (r : aH) (p : List Nat)
abbrev Loc := Option (aH × List Nat)
def Loc.push : Loc -> Nat -> Loc
 | some (r, p), k => some (r, p ++ [k])
 | none, _ => none
def Loc.ow : Loc -> Ow
 | some (r, p) => .own r p
 | none => .z
def Ob.own : Ob -> Bool
 | .n => false
 | _ => true
def Ob.loc (o : Ob) (c : Loc) : Loc := if o.own then c else none
def dK : Value -> Bool
 | .agg _ => false
 | .tuple _ => false
 | _ => true
section
variable (tab : Nat -> FuncId) (mv : Nat -> Value) (w : World) (ow : Nat -> Ow)
mutual
def rep : Loc -> T -> List Value -> Prop
 | _, .i k n, vs => vs = [.int k n]
 | _, .b x, vs => vs = [.bool x]
 | _, .s x, vs => vs = [.string x]
 | c, .a cs, vs => aR c 0 cs vs
 | c, .l o sz es, vs => (o.own = true -> c ≠ none) /\ ∃ (A : Option Addr) (cap : Nat), vs = [.slice A es.length cap] /\ es.length <= cap /\ (∀ k, o = .m k -> mv k = .slice A es.length cap) /\
   match A with
   | none => cap = 0
   | some ad => (o.own = true \/ es ≠ []) -> ad.spot = none /\ ow ad.block = (o.loc c).ow /\
     ∃ (arr : Array Value) (ty : TypeId) (fr : Nat × Nat) (vs' : List Value), w.heap[ad.block]? = some (.cells arr ty fr) /\
      (o.own = true -> (fr.2 <= fr.1 \/ arr.size <= fr.1) /\ ad.off + cap * sz <= arr.size) /\
      (∀ j v, vs'[j]? = some v -> arr[ad.off + j]? = some v) /\ bg (o.loc c) sz 0 es vs'
 | _, .f g env, vs => ∃ cQ, vs = [.func (.func (tab g)) #[] cQ] /\ aR none 0 env cQ.toList
 | _, .p t, vs => ∃ (b : Nat) (arr : Array Value) (ty : TypeId) (fr : Nat × Nat), vs = [.pointer (some ⟨b, 0, none⟩)] /\ ow b = .z /\
   w.heap[b]? = some (.cells arr ty fr) /\ rep none t arr.toList
 | _, .u, vs => ∃ v, vs = [v] /\ dK v = true
def aR : Loc -> Nat -> List T -> List Value -> Prop
 | _, _, [], vs => vs = []
 | c, k, t :: ts, vs => ∃ v rest, vs = v :: rest /\ rep (c.push k) t [v] /\ aR c (k + 1) ts rest
def bg : Loc -> Nat -> Nat -> List T -> List Value -> Prop
 | _, _, _, [], vs => vs = []
 | c, sz, k, e :: es, vs => ∃ v1 rest, vs = v1 ++ rest /\ v1.length = sz /\ rep (c.push k) e v1 /\ bg c sz (k + 1) es rest
end
end
def Zs (w : World) (ow : Nat -> Ow) (w' : World) (ow' : Nat -> Ow) : Prop := ∀ b, ow b = .z -> ow' b = .z /\ w'.heap[b]? = w.heap[b]?
def Tr (w : World) (ow : Nat -> Ow) (w' : World) (ow' : Nat -> Ow) : Loc -> Loc -> Prop
 | none, none => True
 | some (r, p), some (r', p') => ∀ b q, ow b = .own r (p ++ q) -> ow' b = .own r' (p' ++ q) /\ w'.heap[b]? = w.heap[b]?
 | some (_, _), none => False
 | none, some _ => True
def Fz (w : World) (ow : Nat -> Ow) (w' : World) (ow' : Nat -> Ow) : Loc -> Prop
 | none => True
 | some (r, p) => ∀ b q, ow b = .own r (p ++ q) -> ow' b = .z /\ w'.heap[b]? = w.heap[b]?
theorem Tr.push {w w' : World} {ow ow' : Nat -> Ow} {c c' : Loc} (h : Tr w ow w' ow' c c') (k : Nat) : Tr w ow w' ow' (c.push k) (c'.push k) := by
 rcases c with _ | ⟨r, p⟩ <;> rcases c' with _ | ⟨r', p'⟩ <;> simp only [Tr, Loc.push] at h ⊢
 intro b q hb
 have := h b (k :: q) (by simpa using hb)
 simpa using this
theorem Fz.push {w w' : World} {ow ow' : Nat -> Ow} {c : Loc} (h : Fz w ow w' ow' c) (k : Nat) : Fz w ow w' ow' (c.push k) := by
 rcases c with _ | ⟨r, p⟩ <;> simp only [Fz, Loc.push] at h ⊢
 intro b q hb
 exact h b (k :: q) (by simpa using hb)
theorem Tr.loc {w w' : World} {ow ow' : Nat -> Ow} {c c' : Loc} (h : Tr w ow w' ow' c c') (o : Ob) : Tr w ow w' ow' (o.loc c) (o.loc c') := by
 unfold Ob.loc
 split
 ·exact h
 ·trivial
theorem Tr.blk {w w' : World} {ow ow' : Nat -> Ow} {c c' : Loc} (h : Tr w ow w' ow' c c') (hz : Zs w ow w' ow') (hc : c' ≠ none -> c ≠ none) {b : Nat} (hb : ow b = c.ow) :
  ow' b = c'.ow /\ w'.heap[b]? = w.heap[b]? := by
 rcases c with _ | ⟨r, p⟩ <;> rcases c' with _ | ⟨r', p'⟩ <;> simp only [Tr, Loc.ow] at h hb ⊢
 ·exact hz b hb
 ·simp at hc
 ·have := h b [] (by simpa using hb)
  simpa using this
mutual
def T.fz : T -> T
 | .l _ sz es => .l .n sz (fzs es)
 | .a cs => .a (fzs cs)
 | .i k n => .i k n
 | .b x => .b x
 | .s x => .s x
 | .f g env => .f g env
 | .p t => .p t
 | .u => .u
def fzs : List T -> List T
 | [] => []
 | t :: ts => t.fz :: fzs ts
end
theorem Z6w : ∀ ts : List T, (fzs ts).length = ts.length
 | [] => rfl
 | _ :: ts => by simp [fzs, Z6w ts]
theorem Z6x : ∀ ts : List T, fzs ts = ts.map T.fz
 | [] => rfl
 | _ :: ts => by simp [fzs, Z6x ts]
section
variable {tab : Nat -> FuncId} {mv : Nat -> Value} {w w' : World} {ow ow' : Nat -> Ow}
mutual
theorem Zg1 (hz : Zs w ow w' ow') : ∀ (t : T) {c c' : Loc} {vs : List Value}, Tr w ow w' ow' c c' -> rep tab mv w ow c t vs -> rep tab mv w' ow' c' t vs
 | .i _ _, _, _, _, _, h => by simpa only [rep] using h
 | .b _, _, _, _, _, h => by simpa only [rep] using h
 | .s _, _, _, _, _, h => by simpa only [rep] using h
 | .u, _, _, _, _, h => by simpa only [rep] using h
 | .a cs, c, c', vs, ht, h => by simp only [rep] at h ⊢; exact Zfb hz cs ht h
 | .f g env, _, _, vs, _, h => by
  simp only [rep] at h ⊢
  obtain ⟨cQ, rfl, h⟩ := h
  exact ⟨cQ, rfl, Zfb hz env (c := none) (c' := none) trivial h⟩
 | .p t, _, _, vs, _, h => by
  simp only [rep] at h ⊢
  obtain ⟨b, arr, ty, fr, rfl, hb, hh, h⟩ := h
  obtain ⟨h1, h2⟩ := hz b hb
  exact ⟨b, arr, ty, fr, rfl, h1, h2 ▸ hh, Zg1 hz t (c := none) (c' := none) trivial h⟩
 | .l o sz es, c, c', vs, ht, h => by
  simp only [rep] at h ⊢
  obtain ⟨h0, A, cap, rfl, hc, hm, h⟩ := h
  have h0' : o.own = true -> c' ≠ none := fun ho hn => by
   have h1 := h0 ho
   subst hn
   rcases c with _ | ⟨r, p⟩
   ·exact h1 rfl
   ·exact ht
  refine ⟨h0', A, cap, rfl, hc, hm, ?_⟩
  cases A with
  | none => exact h
  | some ad =>
   intro hor
   obtain ⟨hs, hb, arr, ty, fr, vs', hh, hfr, hvs, hes⟩ := h hor
   have hl := ht.loc o
   obtain ⟨h1, h2⟩ := hl.blk hz (by
    unfold Ob.loc
    split
    ·rename_i ho; exact fun _ => h0 ho
    ·exact fun x => absurd rfl x) hb
   exact ⟨hs, h1, arr, ty, fr, vs', h2 ▸ hh, hfr, hvs, Zfn hz es hl hes⟩
theorem Zfb (hz : Zs w ow w' ow') : ∀ (cs : List T) {c c' : Loc} {k : Nat} {vs : List Value}, Tr w ow w' ow' c c' -> aR tab mv w ow c k cs vs -> aR tab mv w' ow' c' k cs vs
 | [], _, _, _, _, _, h => by simpa only [aR] using h
 | t :: ts, c, c', k, vs, ht, h => by
  simp only [aR] at h ⊢
  obtain ⟨v, rest, rfl, h1, h2⟩ := h
  exact ⟨v, rest, rfl, Zg1 hz t (ht.push k) h1, Zfb hz ts ht h2⟩
theorem Zfn (hz : Zs w ow w' ow') : ∀ (es : List T) {c c' : Loc} {sz k : Nat} {vs : List Value}, Tr w ow w' ow' c c' -> bg tab mv w ow c sz k es vs -> bg tab mv w' ow' c' sz k es vs
 | [], _, _, _, _, _, _, h => by simpa only [bg] using h
 | e :: es, c, c', sz, k, vs, ht, h => by
  simp only [bg] at h ⊢
  obtain ⟨v1, rest, rfl, hl, h1, h2⟩ := h
  exact ⟨v1, rest, rfl, hl, Zg1 hz e (ht.push k) h1, Zfn hz es ht h2⟩
end
theorem Fz.blk {c : Loc} (h : Fz w ow w' ow' c) (hz : Zs w ow w' ow') {b : Nat} (hb : ow b = c.ow) : ow' b = .z /\ w'.heap[b]? = w.heap[b]? := by
 rcases c with _ | ⟨r, p⟩ <;> simp only [Fz, Loc.ow] at h hb
 ·exact hz b hb
 ·exact h b [] (by simpa using hb)
mutual
theorem Zfx (mv' : Nat -> Value) : ∀ (t : T) {vs : List Value}, rep tab mv w ow none t vs -> rep tab mv' w ow none t vs
 | .i _ _, _, h => by simpa only [rep] using h
 | .b _, _, h => by simpa only [rep] using h
 | .s _, _, h => by simpa only [rep] using h
 | .u, _, h => by simpa only [rep] using h
 | .a cs, vs, h => by simp only [rep] at h ⊢; exact Zf9 mv' cs h
 | .f g env, vs, h => by
  simp only [rep] at h ⊢
  obtain ⟨cQ, rfl, h⟩ := h
  exact ⟨cQ, rfl, Zf9 mv' env h⟩
 | .p t, vs, h => by
  simp only [rep] at h ⊢
  obtain ⟨b, arr, ty, fr, rfl, hb, hh, h⟩ := h
  exact ⟨b, arr, ty, fr, rfl, hb, hh, Zfx mv' t h⟩
 | .l o sz es, vs, h => by
  simp only [rep] at h ⊢
  obtain ⟨h0, A, cap, rfl, hc, hm, h⟩ := h
  have ho : o = .n := by cases o <;> simp [Ob.own] at h0 ⊢
  subst ho
  refine ⟨h0, A, cap, rfl, hc, fun k hk => by simp at hk, ?_⟩
  cases A with
  | none => exact h
  | some ad =>
   intro hor
   obtain ⟨hs, hb, arr, ty, fr, vs', hh, hfr, hvs, hes⟩ := h hor
   exact ⟨hs, hb, arr, ty, fr, vs', hh, hfr, hvs, Zfk mv' es hes⟩
theorem Zf9 (mv' : Nat -> Value) : ∀ (cs : List T) {k : Nat} {vs : List Value}, aR tab mv w ow none k cs vs -> aR tab mv' w ow none k cs vs
 | [], _, _, h => by simpa only [aR] using h
 | t :: ts, k, vs, h => by
  simp only [aR] at h ⊢
  obtain ⟨v, rest, rfl, h1, h2⟩ := h
  exact ⟨v, rest, rfl, Zfx mv' t h1, Zf9 mv' ts h2⟩
theorem Zfk (mv' : Nat -> Value) : ∀ (es : List T) {sz k : Nat} {vs : List Value}, bg tab mv w ow none sz k es vs -> bg tab mv' w ow none sz k es vs
 | [], _, _, _, h => by simpa only [bg] using h
 | e :: es, sz, k, vs, h => by
  simp only [bg] at h ⊢
  obtain ⟨v1, rest, rfl, hl, h1, h2⟩ := h
  exact ⟨v1, rest, rfl, hl, Zfx mv' e h1, Zfk mv' es h2⟩
end
mutual
theorem Zfs (hz : Zs w ow w' ow') (mv' : Nat -> Value) : ∀ (t : T) {c : Loc} (c' : Loc) {vs : List Value}, Fz w ow w' ow' c -> rep tab mv w ow c t vs -> rep tab mv' w' ow' c' t.fz vs
 | .i _ _, _, _, _, _, h => by simpa only [rep, T.fz] using h
 | .b _, _, _, _, _, h => by simpa only [rep, T.fz] using h
 | .s _, _, _, _, _, h => by simpa only [rep, T.fz] using h
 | .u, _, _, _, _, h => by simpa only [rep, T.fz] using h
 | .a cs, c, c', vs, ht, h => by simp only [rep, T.fz] at h ⊢; exact Zf6 hz mv' cs c' ht h
 | .f g env, _, _, vs, _, h => by
  simp only [rep, T.fz] at h ⊢
  obtain ⟨cQ, rfl, h⟩ := h
  exact ⟨cQ, rfl, Zf9 mv' env (Zfb hz env (c := none) (c' := none) trivial h)⟩
 | .p t, _, _, vs, _, h => by
  simp only [rep, T.fz] at h ⊢
  obtain ⟨b, arr, ty, fr, rfl, hb, hh, h⟩ := h
  obtain ⟨h1, h2⟩ := hz b hb
  exact ⟨b, arr, ty, fr, rfl, h1, h2 ▸ hh, Zfx mv' t (Zg1 hz t (c := none) (c' := none) trivial h)⟩
 | .l o sz es, c, c', vs, ht, h => by
  simp only [rep, T.fz] at h ⊢
  obtain ⟨h0, A, cap, rfl, hc, hm, h⟩ := h
  refine ⟨fun x => by simp [Ob.own] at x, A, cap, by rw [Z6w], by rw [Z6w]; exact hc, fun k x => by simp at x, ?_⟩
  cases A with
  | none => exact h
  | some ad =>
   intro hor
   have hne : es ≠ [] := by
    rcases hor with x | x
    ·simp [Ob.own] at x
    ·intro y; subst y; simp [fzs] at x
   obtain ⟨hs, hb, arr, ty, fr, vs', hh, hfr, hvs, hes⟩ := h (.inr hne)
   have hl : Fz w ow w' ow' (o.loc c) := by
    unfold Ob.loc
    split
    ·exact ht
    ·trivial
   obtain ⟨h1, h2⟩ := hl.blk hz hb
   refine ⟨hs, ?_, arr, ty, fr, vs', h2 ▸ hh, fun x => by simp [Ob.own] at x, hvs, ?_⟩
   ·simpa [Ob.loc, Ob.own, Loc.ow] using h1
   ·exact Zfg hz mv' es _ hl hes
theorem Zf6 (hz : Zs w ow w' ow') (mv' : Nat -> Value) : ∀ (cs : List T) {c : Loc} (c' : Loc) {k : Nat} {vs : List Value}, Fz w ow w' ow' c -> aR tab mv w ow c k cs vs -> aR tab mv' w' ow' c' k (fzs cs) vs
 | [], _, _, _, _, _, h => by simpa only [aR, fzs] using h
 | t :: ts, c, c', k, vs, ht, h => by
  simp only [aR, fzs] at h ⊢
  obtain ⟨v, rest, rfl, h1, h2⟩ := h
  exact ⟨v, rest, rfl, Zfs hz mv' t _ (ht.push k) h1, Zf6 hz mv' ts c' ht h2⟩
theorem Zfg (hz : Zs w ow w' ow') (mv' : Nat -> Value) : ∀ (es : List T) {c : Loc} (c' : Loc) {sz k : Nat} {vs : List Value}, Fz w ow w' ow' c -> bg tab mv w ow c sz k es vs -> bg tab mv' w' ow' c' sz k (fzs es) vs
 | [], _, _, _, _, _, _, h => by simpa only [bg, fzs] using h
 | e :: es, c, c', sz, k, vs, ht, h => by
  simp only [bg, fzs] at h ⊢
  obtain ⟨v1, rest, rfl, hl, h1, h2⟩ := h
  exact ⟨v1, rest, rfl, hl, Zfs hz mv' e _ (ht.push k) h1, Zfg hz mv' es c' ht h2⟩
end
end
end Go.Wr
namespace Go.Wr
structure K where
 e : Nat
 h : Nat
 d : Nat
 deriving DecidableEq
inductive Cell where
 | x (t : T)
 | w (r : Nat) (k : K) (p : List Nat) (z lo n : Nat)
inductive RV where
 | one (t : T)
 | st (cs : List T)
inductive AV where
 | u
 | x (t : T)
 | own (k : K) (t : T)
 | w (r : Nat) (k : K) (p : List Nat) (z lo n : Nat)
 | st (cs : List Cell)
 | box (k : K) (cs : List T)
 | ptr (r : Nat) (k : K) (p : List Nat) (off : Nat)
 | q (t : T) (off : Nat)
 | tup (n : Nat)
abbrev St := Nat -> AV
def upd (σ : St) (s : Nat) (v : AV) : St := fun j => if j = s then v else σ j
inductive Pg : Type -> Type 1 where
 | ret {α : Type} (a : α) : Pg α
 | fail {α : Type} : Pg α
 | get {α : Type} (s : Nat) (k : AV -> Pg α) : Pg α
 | set {α : Type} (s : Nat) (v : AV) (k : Pg α) : Pg α
 | bind {α β : Type} (p : Pg β) (f : β -> Pg α) : Pg α
 | jR {α : Type} (s : Nat) (k : Option K -> Pg α) : Pg α
 | jS {α : Type} (s c : Nat) (k : Option T -> Pg α) : Pg α
 | dO {α : Type} (s c : Nat) (t : T) (k : Pg α) : Pg α
def AV.bk : AV -> Option K
 | .box k _ => some k
 | _ => none
def AV.bc (v : AV) (c : Nat) : Option T := match v with
 | .box _ cs => cs[c]?
 | _ => none
def AV.dO (v : AV) (c : Nat) (t : T) : Option AV := match v with
 | .box k cs => if c < cs.length then some (.box k (cs.set c t)) else none
 | _ => none
namespace Pg
instance : Monad Pg where
 pure := Pg.ret
 bind := Pg.bind
def rd (s : Nat) : Pg AV := .get s .ret
def wr (s : Nat) (v : AV) : Pg Unit := .set s v (.ret ())
def run {α : Type} : Pg α -> St -> Option (α × St)
 | .ret a, σ => some (a, σ)
 | .fail, _ => none
 | .get s k, σ => (k (σ s)).run σ
 | .set s v k, σ => k.run (upd σ s v)
 | .bind p f, σ => match p.run σ with
  | some (a, σ') => (f a).run σ'
  | none => none
 | .jR s k, σ => (k (σ s).bk).run σ
 | .jS s c k, σ => (k ((σ s).bc c)).run σ
 | .dO s c t k, σ => match (σ s).dO c t with
  | some v => k.run (upd σ s v)
  | none => none
end Pg
mutual
def T.flat : T -> Bool
 | .i _ _ => true
 | .b _ => true
 | .s _ => true
 | .a cs => eE cs
 | _ => false
def eE : List T -> Bool
 | [] => true
 | c :: cs => c.flat && eE cs
end
def T.scalar : T -> Bool
 | .i _ _ => true
 | .b _ => true
 | .s _ => true
 | .f _ _ => true
 | _ => false
mutual
def T.closed : T -> Bool
 | .i _ _ => true
 | .b _ => true
 | .s _ => true
 | .a cs => ba cs
 | .l .y _ es => ba es
 | .l .n _ [] => true
 | .l _ _ _ => false
 | .f _ [] => true
 | .f _ _ => false
 | .p _ => false
 | .u => true
def ba : List T -> Bool
 | [] => true
 | t :: ts => t.closed && ba ts
end
def T.loose : T -> Bool
 | .l .n _ _ => true
 | .l _ _ _ => false
 | .a _ => false
 | _ => true
def T.pinned : T -> Bool
 | .l (.m _) _ _ => true
 | _ => false
def T.jl : T -> Bool
 | .a _ => false
 | .u => false
 | _ => true
def T.kid : T -> Nat -> Option T
 | .a cs, k => cs[k]?
 | .l _ _ es, k => es[k]?
 | _, _ => none
def T.aZ : T -> Nat -> T -> T
 | .a cs, k, t => .a (cs.set k t)
 | .l o sz es, k, t => .l o sz (es.set k t)
 | t, _, _ => t
def T.nav : T -> List Nat -> Option T
 | t, [] => some t
 | t, k :: ks => (t.kid k).bind fun c => c.nav ks
def T.put : T -> List Nat -> T -> T
 | _, [], x => x
 | t, k :: ks, x => match t.kid k with | some c => t.aZ k (c.put ks x) | none => t
def T.cb : T -> List Nat -> Bool
 | _, [] => true
 | .a cs, k :: ks => match cs[k]? with | some c => c.cb ks | none => false
 | .l o _ es, k :: ks => o.own && match es[k]? with | some c => c.cb ks | none => false
 | _, _ => false
def T.cells : T -> List T
 | .a cs => cs
 | t => [t]
def T.bO : T -> List T -> T
 | .a _, cs => .a cs
 | _, [c] => c
 | t, _ => t
def sub {α : Type} (es : List α) (lo n : Nat) : List α := (es.drop lo).take n
def bC {α : Type} (cs : List α) (off : Nat) (new : List α) : List α := cs.take off ++ new ++ cs.drop (off + new.length)
structure RC where
 bi : Bool
 k : K
 t : T
def AV.rc : AV -> Option RC
 | .box k cs => some ⟨true, k, .a cs⟩
 | .own k t => some ⟨false, k, t⟩
 | _ => none
def RC.av (c : RC) : AV :=
 match c.bi, c.t with
 | true, .a cs => .box c.k cs
 | false, .l .n sz es => .x (.l .n sz es)
 | false, .l o sz es => .own c.k (.l o sz es)
 | _, _ => .u
def fh (bi : Bool) (p : List Nat) : Nat :=
 match bi, p with
 | true, [] => 0
 | true, [_, _] => 1
 | false, [_] => 0
 | _, _ => 2
def dl (bi : Bool) (p : List Nat) : Nat :=
 match bi, p with
 | true, [_] => 1
 | false, [] => 0
 | _, _ => 2
def K.ok (cur ref : K) : Nat -> Bool
 | 0 => cur.e == ref.e
 | 1 => cur.e == ref.e && cur.h == ref.h
 | _ => cur.e == ref.e && cur.h == ref.h && cur.d == ref.d
end Go.Wr
namespace Go.Wr
inductive Opd where
 | t (n : Nat)
 | k (c : T)
def vt (d j : Nat) : Nat := d + 1000 * (j + 1)
def eJ (e : Nat) : T -> AV
 | .l .y sz es => .own ⟨e, e, e⟩ (.l .y sz es)
 | .a cs => .st (cs.map .x)
 | t => .x t
def iV (d : Nat) : Nat -> Pg Unit
 | 0 => pure ()
 | n + 1 => (iV d n).bind fun _ => Pg.wr (vt d n) .u
def setS (d : Nat) (v : AV) : Pg Unit := do
 match <- Pg.rd d with
 | .tup n => (iV d n).bind fun _ => Pg.wr d v
 | _ => Pg.wr d v
def look (e : Nat) : Opd -> Pg AV
 | .k c => pure (eJ e c)
 | .t n => do
  match <- Pg.rd n with
  | .own k (.l _ sz es) => pure (.w n k [] sz 0 es.length)
  | .box k _ => pure (.ptr n k [] 0)
  | v => pure v
def raw (e : Nat) : Opd -> Pg AV
 | .k c => pure (eJ e c)
 | .t n => Pg.rd n
def kill : Opd -> Pg Unit
 | .k _ => pure ()
 | .t n => Pg.wr n .u
def fH (r : Nat) (k : K) (p : List Nat) : Pg RC := do
 match (<- Pg.rd r).rc with
 | some c => if c.k.ok k (fh c.bi p) && (c.bi || !p.isEmpty) then pure c else .fail
 | none => .fail
def dZ (r : Nat) (k : K) (p : List Nat) : Pg RC := do
 match (<- Pg.rd r).rc with
 | some c => if c.k.ok k (dl c.bi p) then pure c else .fail
 | none => .fail
def qp (r : Nat) (k : K) (p : List Nat) (lo n : Nat) : Pg T := do
 let c <- dZ r k p
 match c.t.nav p with
 | some (.l _ sz es) => pure (.l .n sz (fzs (sub es lo n)))
 | _ => .fail
def T.lz : T -> T
 | .l .n sz es => .l .n sz es
 | t => t.fz
def jT : Cell -> Pg T
 | .x t => pure t.lz
 | .w r k p z lo n => qp r k p lo n
def eQ : List Cell -> Pg (List T)
 | [] => pure []
 | c :: cs => do
  let t <- jT c
  let ts <- eQ cs
  pure (t :: ts)
def fx : AV -> Pg T
 | .x t => pure t
 | .own _ t => pure t.fz
 | .w r k p z lo n => qp r k p lo n
 | .st cs => do
  let ts <- eQ cs
  pure (.a ts)
 | _ => .fail
def dL (tk : Bool) (r : Nat) (k : K) (p : List Nat) (lo n : Nat) : Pg T := do
 let c <- dZ r k p
 match c.t.nav p with
 | some (.l o sz es) =>
  match o with
  | .n => pure (.l .n sz (sub es lo n))
  | .m _ => .fail
  | .y =>
   if tk then do
    Pg.wr r { c with t := c.t.put p .u }.av
    pure (.l .y sz (sub es lo n))
   else do
    Pg.wr r { c with t := c.t.put p (.l .n sz (fzs es)) }.av
    pure (.l .n sz (sub (fzs es) lo n))
 | _ => .fail
def cS (tk : Bool) : List Cell -> Pg (List T)
 | [] => pure []
 | .x t :: cs => do
  let ts <- cS tk cs
  pure (t :: ts)
 | .w r k p z lo n :: cs => do
  let t <- dL tk r k p lo n
  let ts <- cS tk cs
  pure (t :: ts)
def Cell.fy : Cell -> Bool
 | .x t => !t.loose
 | _ => false
def dz (e : Nat) (tk : Bool) (x : Opd) : Pg (List T) := do
 match <- raw e x with
 | .x t => if t.jl then pure [t] else .fail
 | .own _ t => if t.pinned then .fail else (kill x).bind fun _ => pure [t]
 | .w r k p z lo n => do
  let c <- dL tk r k p lo n
  pure [c]
 | .st cs => if cs.any Cell.fy then (kill x).bind fun _ => cS tk cs else cS tk cs
 | _ => .fail
def addr (e : Nat) (x : Opd) : Pg AV := do
 match <- look e x with
 | .ptr r k p off => pure (.ptr r k p off)
 | .q t off => pure (.q t off)
 | .x (.p t) => pure (.q t 0)
 | _ => .fail
def seen (r : Nat) (k : K) (p : List Nat) (off : Nat) (node : T) (t : T) : Cell :=
 match t with
 | .l .n sz es => .x (.l .n sz es)
 | .l _ sz es => .w r k (match node with | .a _ => p ++ [off] | _ => p) sz 0 es.length
 | .a _ => .x .u
 | t => .x t
def seenCells (r : Nat) (k : K) (p : List Nat) (node : T) : Nat -> List T -> List Cell
 | _, [] => []
 | off, t :: ts => seen r k p off node t :: seenCells r k p node (off + 1) ts
def Cell.av : Cell -> AV
 | .x t => .x t
 | .w r k p z lo n => .w r k p z lo n
def load (e : Nat) (agg : Option Nat) (x : Opd) : Pg AV := do
 match <- addr e x with
 | .q t off =>
  match agg with
  | none => match t.cells[off]? with
   | some c => pure (.x c)
   | none => .fail
  | some n => if off + n <= t.cells.length then pure (.st ((sub t.cells off n).map .x)) else .fail
 | .ptr r k p off => do
  let c <- fH r k p
  match c.t.nav p with
  | none => .fail
  | some node =>
   match agg with
   | none => match node.cells[off]? with
    | some t => pure (seen r c.k p off node t).av
    | none => .fail
   | some n => match node with
    | .a cs => if off + n <= cs.length then pure (.st (seenCells r c.k p node off (sub cs off n))) else .fail
    | _ => .fail
 | _ => .fail
def RC.eZ (c : RC) (p : List Nat) : Bool :=
 match c.bi, p with
 | true, [] => true
 | true, i :: _ :: _ => (match c.t.kid i with | some (.l _ _ _) => true | _ => false)
 | false, _ :: _ => true
 | _, _ => false
def bump (e : Nat) (c : RC) (p : List Nat) : K :=
 match c.bi, p with
 | true, [] => { c.k with h := e }
 | _, _ => { c.k with d := e }
def putCells (e : Nat) (c : RC) (p : List Nat) (off : Nat) (new : List T) : Option RC :=
 match c.t.nav p with
 | none => none
 | some node =>
  if c.eZ p && c.t.cb p && decide (off + new.length <= node.cells.length) && !new.isEmpty && new.all T.jl && !(new.any T.pinned) then
   some { c with
    k := if (sub node.cells off new.length).all T.scalar && new.all T.scalar then c.k else bump e c p
    t := c.t.put p (node.bO (bC node.cells off new)) }
  else none
def store (e n : Nat) (tk : Bool) (x v : Opd) : Pg Unit := do
 let new <- dz e tk v
 if new.length = n then do
  match <- addr e x with
  | .ptr r k p off => do
   let c <- fH r k p
   match putCells e c p off new with
   | some c' => Pg.wr r c'.av
   | none => .fail
  | _ => .fail
 else .fail
def jU : Bool -> AV -> Option Int
 | false, .x (.l _ _ es) => some es.length
 | true, .x (.s b) => some b.size
 | false, .own _ (.l _ _ es) => some es.length
 | false, .w _ _ _ _ _ n => some n
 | _, _ => none
def indexAddr (e : Nat) (sz : Nat) (x ix : Opd) : Pg AV := do
 match <- raw e ix with
 | .x (.i _ i) =>
  match <- look e x with
  | .x (.l _ sz' es) => if 0 <= i /\ sz' = sz then (match es[i.toNat]? with | some t => pure (.q t 0) | none => .fail) else .fail
  | .w r k p z lo n => if 0 <= i /\ i < n /\ z = sz then pure (.ptr r k (p ++ [lo + i.toNat]) 0) else .fail
  | _ => .fail
 | _ => .fail
def aS : Nat := 4294967296
def c6 (e : Nat) (x : Opd) : Pg T := do
 match <- raw e x with
 | .own _ t => if t.pinned then .fail else (kill x).bind fun _ => pure t
 | .w r k p z lo n => do
  let c <- dZ r k p
  match c.t.nav p with
  | some (.l .y _ es) => if lo = 0 /\ n = es.length then dL true r k p lo n else .fail
  | _ => .fail
 | _ => .fail
def append (e sz : Nat) (tk : Bool) (d : Nat) (x y : Opd) : Pg Unit := do
 match <- c6 e x with
 | .l .y sz1 es => do
  let v <- raw e y
  match <- fx v with
  | .l _ sz2 es2 =>
   if sz1 = sz /\ sz2 = sz /\ es.length + es2.length < aS then
    if eE es2 then setS d (.own ⟨e, e, e⟩ (.l .y sz (es ++ es2)))
    else do
     match <- dz e tk y with
     | [.l _ sz3 es3] => if sz3 = sz /\ es.length + es3.length < aS then setS d (.own ⟨e, e, e⟩ (.l .y sz (es ++ es3))) else .fail
     | _ => .fail
   else .fail
  | _ => .fail
 | _ => .fail
end Go.Wr
namespace Go.Wr
inductive Arg where
 | x (t : T)                -- Al
 | bx (cs : List T)         -- a pointer to a box
 | own (t : T)              -- L2 pc
 | mu (t : T)               -- Al for Cj: its LO elements
 | st (cs : List T)         -- a struct, Al
 | ms (cs : List T)         -- a struct, its LP Al for Cj
structure Out where
 res : List RV
 back : List (List T)
abbrev Fun := List Arg -> Option Out
inductive Pass where
 | S | P | C | M
 deriving DecidableEq
inductive BTy where
 | o | b | p
 deriving DecidableEq
inductive MOp where
 | mv (x : Opd)
 | asg (x : Opd)
 | pick (c a b : Opd)
 | alloc (cs : List T)
 | box (tk : Bool) (x : Opd)
 | fa (x : Opd) (off : Nat)
 | ia (sz : Nat) (x ix : Opd)
 | ld (agg : Option Nat) (x : Opd)
 | sto (n : Nat) (tk : Bool) (x v : Opd)
 | bin (op : BinOp) (g : BTy) (x y : Opd)
 | un (op : UnOp) (x : Opd)
 | cvt (k : IntKind) (x : Opd)
 | Ck (x : Opd)
 | nW (x : Opd)
 | mks (sz : Nat) (agg : Bool) (zero : List T) (len cap : Opd)
 | slc (sz : Nat) (tk : Bool) (x : Opd) (lo hi : Option Opd)
 | bld (zero : List T) (tk : Bool) (parts : List (Nat × Nat × Opd))
 | bsl (sz : Nat) (agg : Bool) (zero : List T) (len : Nat) (tk : Bool) (parts : List (Nat × Nat × Opd))
 | ext (x : Opd) (j : Nat)
 | len (str : Bool) (x : Opd)
 | app (sz : Nat) (agg : Bool) (zero : List T) (tk : Bool) (x y : Opd)
 | mn (xs : List Opd)
 | mx (xs : List Opd)
 | call (g : Nat) (F : Fun) (args : List (Pass × Opd))
 | dyn (x : Opd) (eo : List (Nat × Fun)) (args : List (Pass × Opd))
 | fn (g : Nat) (cQ : List Opd)
 | qq (x : Opd)
 | bU (g : Nat) (F : Fun) (x : Opd) (args : List (Pass × Opd))
 | kE (x : Opd)
 | ldo (x : Opd)
 | ixa (n sz : Nat) (x ix : Opd)
 | gv (m : MOp)
 | bad
def iF (op : BinOp) (g : BTy) (x y : T) : Option T :=
 match g, x, y with
 | .o, .i k a, .i k' b =>
  match op with
  | .shl => if b < 0 then none else some (.i k (k.wrap (a * 2 ^ min b.toNat k.bits)))
  | .shr => if b < 0 then none else some (.i k (a.fdiv (2 ^ min b.toNat k.bits)))
  | _ =>
   if k = k' then
    match op with
    | .add => some (.i k (k.wrap (a + b)))
    | .sub => some (.i k (k.wrap (a - b)))
    | .mul => some (.i k (k.wrap (a * b)))
    | .quo => if b = 0 then none else some (.i k (k.wrap (a.tdiv b)))
    | .rem => if b = 0 then none else some (.i k (a.tmod b))
    | .and => some (.i k (k.wrap (BitVec.ofInt k.bits a &&& BitVec.ofInt k.bits b).toNat))
    | .or => some (.i k (k.wrap (BitVec.ofInt k.bits a ||| BitVec.ofInt k.bits b).toNat))
    | .xor => some (.i k (k.wrap (BitVec.ofInt k.bits a ^^^ BitVec.ofInt k.bits b).toNat))
    | .eql => some (.b (a == b))
    | .neq => some (.b (a != b))
    | .lss => some (.b (a < b))
    | .leq => some (.b (a <= b))
    | .gtr => some (.b (a > b))
    | .geq => some (.b (a >= b))
    | _ => none
   else none
 | .o, .s a, .s b =>
  match op with
  | .add => if (a.size + b.size : Nat) < 9223372036854775807 then some (.s (a ++ b)) else none
  | .eql => some (.b (a.toList == b.toList))
  | .neq => some (.b (!(a.toList == b.toList)))
  | _ => none
 | .b, .b a, .b b =>
  match op with
  | .eql => some (.b (a == b))
  | .neq => some (.b (!(a == b)))
  | _ => none
 | .p, .a [.i .i64 a1, .i .i64 a2], .a [.i .i64 b1, .i .i64 b2] =>
  match op with
  | .eql => some (.b (a1 == b1 && a2 == b2))
  | .neq => some (.b (!(a1 == b1 && a2 == b2)))
  | _ => none
 | _, _, _ => none
def fA : List T -> Option (List Int)
 | [] => some []
 | .i .u8 n :: ts => (fA ts).map (n :: ·)
 | _ :: _ => none
def strOf (ns : List Int) : ByteArray := ns.foldl (fun r n => r.push (UInt8.ofNat n.toNat)) ByteArray.empty
def unT (op : UnOp) (x : T) : Option T :=
 match op, x with
 | .not, .b a => some (.b !a)
 | .neg, .i k n => some (.i k (k.wrap (0 - n)))
 | _, _ => none
def plain (e : Nat) (x : Opd) : Pg T := do
 let v <- raw e x
 fx v
def num (e : Nat) (x : Opd) : Pg Int := do
 match <- raw e x with
 | .x (.i .i64 n) => pure n
 | _ => .fail
def gF (e : Nat) (Am : Nat) : Option Opd -> Pg Nat
 | none => pure Am
 | some x => do
  match <- raw e x with
  | .x (.i _ n) => if 0 <= n then pure n.toNat else .fail
  | _ => .fail
def nX (e : Nat) : T -> AV
 | .l .y sz es => .own ⟨e, e, e⟩ (.l .y sz es)
 | t => .x t
def slice (e sz : Nat) (tk : Bool) (x : Opd) (lo hi : Option Opd) : Pg AV := do
 match <- look e x with
 | .x (.l .n sz' es) => do
  let h <- gF e es.length hi
  let l <- gF e 0 lo
  if sz' = sz /\ 0 < sz /\ l <= h /\ h <= es.length then pure (.x (.l .n sz (sub es l (h - l)))) else .fail
 | .w r k p z lo0 n => do
  let h <- gF e n hi
  let l <- gF e 0 lo
  if z = sz /\ 0 < sz /\ l <= h /\ h <= n then
   if tk then (dL true r k p (lo0 + l) (h - l)).bind fun t => pure (nX e t)
   else pure (.w r k p z (lo0 + l) (h - l))
  else .fail
 | _ => .fail
def pd (e : Nat) : List Opd -> Pg (List Int)
 | [] => pure []
 | x :: xs => do
  let n <- num e x
  let ns <- pd e xs
  pure (n :: ns)
def iH (e : Nat) (s : Nat) : Pg AV := do
 match <- Pg.rd s with
 | .tup _ => .fail
 | .box _ _ => .fail
 | .own k t => (Pg.wr s .u).bind fun _ => pure (.own ⟨e, e, e⟩ t)
 | .st cs => if cs.any Cell.fy then (Pg.wr s .u).bind fun _ => pure (.st cs) else pure (.st cs)
 | v => pure v
def lk (e : Nat) (s d : Nat) : Nat -> Pg Unit
 | 0 => pure ()
 | n + 1 => do
  lk e s d n
  if n < 7 then do
   let v <- iH (e + n + 1) (vt s n)
   Pg.wr (vt d n) v
  else .fail
def l6 (e : Nat) (d : Nat) (x : Opd) : Pg Unit := do
 match x with
 | .k c => setS d (eJ e c)
 | .t s => do
  match <- Pg.rd s with
  | .tup n => if s = d then .fail else (setS d (.tup n)).bind fun _ => lk e s d n
  | _ => do
   let v <- iH e s
   setS d v
def fill (tk : Bool) (e : Nat) : List (Nat × Nat × Opd) -> List T -> Pg (List T)
 | [], cs => pure cs
 | (off, n, x) :: ps, cs => do
  let new <- dz e tk x
  if new.length = n /\ off + n <= cs.length then fill tk e ps (bC cs off new) else .fail
def gG (agg : Bool) (cs : List T) : T := if agg then .a cs else cs.headD .u
def ef (agg : Bool) (sz : Nat) : Nat -> List T -> List T
 | 0, _ => []
 | n + 1, cs => gG agg (cs.take sz) :: ef agg sz n (cs.drop sz)
def gH (e : Nat) : List (Pass × Opd) -> Pg (List (Option T))
 | [] => pure []
 | (m, x) :: xs => do
  match m with
  | .C => do
   let t <- c6 e x
   let ts <- gH e xs
   pure (some t :: ts)
  | _ => do
   let ts <- gH e xs
   pure (none :: ts)
def Cell.bor : Cell -> List Nat
 | .w r _ _ _ _ _ => [r]
 | _ => []
def gz (x : Opd) : AV -> List Nat
 | .w r _ _ _ _ _ => [r]
 | .own _ _ => match x with | .t n => [n] | .k _ => []
 | .st cs => (match x with | .t n => if cs.any Cell.fy then [n] else [] | .k _ => []) ++ cs.flatMap Cell.bor
 | _ => []
structure Hand where
 arg : Arg
 bor : List Nat := []
 box : Option Nat := none
def hand (e : Nat) (m : Pass) (x : Opd) (t : Option T) : Pg Hand := do
 match m with
 | .S => do
  let v <- raw e x
  let t <- fx v
  match v, t with
  | .st _, .a cs => pure { arg := .st cs, bor := gz x v }
  | .st _, _ => .fail
  | _, t => pure { arg := .x t, bor := gz x v }
 | .P => do
  match <- look e x with
  | .ptr r k [] 0 => do
   match <- fH r k [] with
   | ⟨true, _, .a cs⟩ => if r < 1000 then pure { arg := .bx cs, box := some r } else .fail
   | _ => .fail
  | _ => .fail
 | .C => match t with
  | some t => pure { arg := .own t }
  | none => .fail
 | .M => do
  match <- raw e x with
  | .w r k [] _ 0 n => do
   match <- dZ r k [] with
   | ⟨false, _, .l .y sz es⟩ => if n = es.length /\ r < 1000 then pure { arg := .mu (.l .y sz es), box := some r } else .fail
   | _ => .fail
  | _ => .fail
def fI (e : Nat) : List (Pass × Opd) -> List (Option T) -> Pg (List Hand)
 | [], _ => pure []
 | (m, x) :: xs, ts => do
  let a <- hand e m x ts.head?.join
  let as <- fI e xs ts.tail
  pure (a :: as)
def apart (hs : List Hand) : Bool :=
 let bs := hs.filterMap Hand.box
 decide bs.Nodup && bs.all fun b => !(hs.any fun h => h.bor.contains b)
def dy (e : Nat) : List Hand -> List (List T) -> Pg Unit
 | [], [] => pure ()
 | [], _ => .fail
 | h :: hs, back => match h.box with
  | none => dy e hs back
  | some r => match back with
   | [] => .fail
   | cs :: back => do
    match <- Pg.rd r with
    | .box k _ => do
     Pg.wr r (.box ⟨k.e, e, e⟩ cs)
     dy e hs back
    | .own _ _ => match cs with
     | [.l .y sz es] => do
      Pg.wr r (.own ⟨e, e, e⟩ (.l .y sz es))
      dy e hs back
     | _ => .fail
    | _ => .fail
def RV.closed : RV -> Bool
 | .one t => t.closed
 | .st cs => ba cs
def RV.fi : RV -> Bool
 | .one (.l .y _ _) => true
 | .one t => t.loose
 | .st _ => true
def RV.av (e : Nat) : RV -> AV
 | .one (.l .y sz es) => .own ⟨e, e, e⟩ (.l .y sz es)
 | .one t => .x t
 | .st cs => .st (cs.map .x)
def iX (e : Nat) (d : Nat) : Nat -> List RV -> Pg Unit
 | _, [] => pure ()
 | j, r :: rs => do
  if j < 7 then do
   Pg.wr (vt d j) (r.av (e + j + 1))
   iX e d (j + 1) rs
  else .fail
def results (e : Nat) (d : Option Nat) (rs : List RV) : Pg Unit :=
 match d, rs with
 | none, _ => pure ()
 | some d, [r] => setS d (r.av (e + 1))
 | some d, rs => (setS d (.tup rs.length)).bind fun _ => iX e d 0 rs
def ga (e : Nat) (d : Option Nat) (F : Fun) (args : List (Pass × Opd)) (env : List T) : Pg Unit := do
 let ts <- gH e args
 let hs0 <- fI e args ts
 let hs := hs0 ++ env.map fun t => { arg := .x t }
 if apart hs then
  match F (hs.map Hand.arg) with
  | some o =>
   if ((hs.all fun h => h.bor.isEmpty) || (o.res.all RV.closed && o.back.all ba)) && o.res.all RV.fi then do
    dy e hs o.back
    results e d o.res
   else .fail
  | none => .fail
 else .fail
def pe (cs : List T) : T := match fzs cs with | [c] => c | cs => .a cs
def kF (s : Nat) : Pg T := do
 match <- Pg.rd s with
 | .box _ cs => (Pg.wr s (.x (.p (pe cs)))).bind fun _ => pure (.p (pe cs))
 | .x (.p t) => pure (.p t)
 | _ => .fail
def jC : List Opd -> Pg (List T)
 | [] => pure []
 | .t s :: xs => do
  let t <- kF s
  let ts <- jC xs
  pure (t :: ts)
 | .k _ :: _ => .fail
def bT (d : Option Nat) (v : AV) : Pg Unit :=
 match d with
 | some d => setS d v
 | none => pure ()
def eK : Cell -> Option (Option (Nat × List Nat))
 | .x t => if t.scalar then some none else none
 | .w r _ p _ 0 _ => some (some (r, p))
 | .w _ _ _ _ (_ + 1) _ => none
def cV : List Cell -> Option (List (Option (Nat × List Nat)))
 | [] => some []
 | c :: cs => match eK c, cV cs with
  | some x, some xs => some (x :: xs)
  | _, _ => none
def AV.pls : AV -> Option (List (Option (Nat × List Nat)))
 | .w r k p z lo n => cV [.w r k p z lo n]
 | .st cs => cV cs
 | _ => none
def AV.l7 : AV -> List Cell
 | .w r k p z lo n => [.w r k p z lo n]
 | .st cs => cs
 | _ => []
def rootOf : List (Option (Nat × List Nat)) -> Option Nat
 | [] => none
 | none :: ps => rootOf ps
 | some (r, _) :: ps => if ps.all (fun x => match x with | some (r', _) => r' == r | none => true) then some r else none
def gh : List Cell -> Pg Unit
 | [] => pure ()
 | .x _ :: cs => gh cs
 | .w r k p _ _ n :: cs => do
  let c <- dZ r k p
  match c.t.nav p with
  | some (.l .y _ es) => if es.length = n then gh cs else .fail
  | _ => .fail
def fJ : List (List Nat × T) -> T -> Option T
 | [], t => some t
 | (p, x) :: ls, t => match t.nav p with
  | some .u => if t.cb p && !p.isEmpty && ls.all (fun m => !(p.isPrefixOf m.1)) then fJ ls (t.put p x) else none
  | _ => none
def dH : List (Option (Nat × List Nat)) -> List T -> List (List Nat × T)
 | some (_, p) :: ps, t :: ts => (p, t) :: dH ps ts
 | none :: ps, _ :: ts => dH ps ts
 | _, _ => []
def nB (v : AV) (ts : List T) : Option Arg := match v, ts with
 | .w _ _ _ _ _ _, [.l .y sz es] => some (.mu (.l .y sz es))
 | .st _, ts => some (.ms ts)
 | _, _ => none
def jm (v : AV) : Option (List (Option (Nat × List Nat)) × Nat) := match v.pls with
 | some ps => match rootOf ps with
  | some r => some (ps, r)
  | none => none
 | none => none
def jD (e r : Nat) (ls : List (List Nat × T)) : Pg Unit := do
 let av <- Pg.rd r
 match av.rc with
 | some c => match fJ ls c.t with
  | some t' => Pg.wr r ({ c with k := ⟨c.k.e, e, e⟩, t := t' } : RC).av
  | none => .fail
 | none => .fail
def qt (o : Out) (n : Nat) : Option (List T) := match o.back with
 | [cs] => if o.res.all RV.fi && cs.length == n then some cs else none
 | _ => none
def Arg.isS : Arg -> Bool
 | .x _ => true
 | .st _ => true
 | _ => false
def nC (F : Fun) (v : AV) (ts : List T) (hs : List Hand) (n : Nat) : Option (Out × List T) :=
 if hs.all (fun h => h.bor.isEmpty && h.box.isNone && h.arg.isS) then
  match nB v ts with
  | some x => match F (x :: hs.map Hand.arg) with
   | some o => match qt o n with
    | some cs => some (o, cs)
    | none => none
   | none => none
  | none => none
 else none
def jV (r : Nat) (c0 c2 : RC) : Cell -> Cell
 | .x t => .x t
 | .w r0 k p z lo n => match p, c0.t.nav p, c2.t.nav p with
  | [_], some (.l _ _ _), some (.l _ sz _) => if r0 = r /\ c0.bi = true /\ c2.bi = true /\ c0.k.ok k 1 = true /\ sz = z then .w r0 c2.k p z lo n else .w r0 k p z lo n
  | p, _, _ => .w r0 k p z lo n
def hQ (r : Nat) (c0 : RC) : Pg Unit := do
 let v <- Pg.rd 0
 let av <- Pg.rd r
 match v, av.rc with
 | .st cells, some c2 => if r = 0 then pure () else setS 0 (.st (cells.map (jV r c0 c2)))
 | _, _ => pure ()
def jE (e : Nat) (d : Option Nat) (F : Fun) (x : Opd) (args : List (Pass × Opd)) : Pg Unit := do
 let v <- raw e x
 match jm v with
 | some (ps, r) => do
  gh v.l7
  let av <- Pg.rd r
  match av.rc with
  | some c0 => do
   let ts <- dz e true x
   let hs <- fI e args (args.map fun _ => none)
   match nC F v ts hs ps.length with
   | some (o, cs) => do
    jD e r (dH ps cs)
    hQ r c0
    results e d o.res
   | none => .fail
  | none => .fail
 | none => .fail
def iI (d : Nat) (k : K) : Nat -> List T -> Option (List Cell)
 | _, [] => some []
 | j, t :: ts => match t, iI d k (j + 1) ts with
  | .l _ sz es, some cs => some (.w d k [j] sz 0 es.length :: cs)
  | t, some cs => if t.scalar then some (.x t :: cs) else none
  | _, none => none
def yW (e d s : Nat) : Pg Unit := do
 let v <- Pg.rd s
 match v with
 | .st _ => if s = d then .fail else do
  let cs <- dz e true (.t s)
  match iI d ⟨e, e, e⟩ 0 cs with
  | some cells => do
   setS d (.box ⟨e, e, e⟩ cs)
   setS s (.st cells)
  | none => .fail
 | _ => .fail
def pk (s : Nat) : Pg (Option K) := .jR s .ret
def gC (s c : Nat) : Pg (Option T) := .jS s c .ret
def sC (s c : Nat) (t : T) : Pg Unit := .dO s c t (.ret ())
def nD (n off : Nat) (d : Option Nat) : Pg Unit := do
 match <- pk n with
 | some k => bT d (.ptr n k [] off)
 | none => .fail
def lN (chk : Bool) (r : Nat) (k : K) (c n : Nat) : Pg T := do
 match <- pk r with
 | some kk => match kk.ok k 1 with
  | false => .fail
  | true => do
   match <- gC r c with
   | some (.l .y sz es) => match chk with
    | false => (sC r c .u).bind fun _ => pure (.l .y sz (sub es 0 n))
    | true => if n = es.length then (sC r c .u).bind fun _ => pure (.l .y sz es) else .fail
   | _ => .fail
 | none => .fail
def iY : List Cell -> Pg (List T)
 | [] => pure []
 | .x t :: cs => do
  let ts <- iY cs
  pure (t :: ts)
 | .w r k [c] _ 0 n :: cs => do
  let t <- lN false r k c n
  let ts <- iY cs
  pure (t :: ts)
 | _ :: _ => .fail
def jF (e : Nat) (d : Option Nat) : MOp -> Pg Unit
 | .mv (.t n) => nD n 0 d
 | .fa (.t n) off => nD n off d
 | .ld none (.t x) => do
  match <- Pg.rd x with
  | .ptr r k [] off => do
   match <- pk r with
   | some kk => match kk.ok k 0 with
    | false => .fail
    | true => do
     match <- gC r off with
     | some t => bT d (seen r kk [] off (.a []) t).av
     | none => .fail
   | none => .fail
  | _ => .fail
 | .sto n true (.t x) (.t v) => do
  match <- Pg.rd v with
  | .st cells => if cells.any Cell.fy = true then .fail else do
   let new <- iY cells
   if new.length = n then do
    match <- addr e (.t x) with
    | .ptr r k p off => do
     let c <- fH r k p
     match putCells e c p off new with
     | some c' => Pg.wr r c'.av
     | none => .fail
    | _ => .fail
   else .fail
  | _ => .fail
 | .app sz _ _ tk (.t x) y => match d with
  | some d => do
   match <- Pg.rd x with
   | .w r k [c] _ 0 n => do
    match <- lN true r k c n with
    | .l .y sz1 es => do
     let v <- raw e y
     match <- fx v with
     | .l _ sz2 es2 =>
      if sz1 = sz /\ sz2 = sz /\ es.length + es2.length < aS then
       if eE es2 then setS d (.own ⟨e, e, e⟩ (.l .y sz (es ++ es2)))
       else do
        match <- dz e tk y with
        | [.l _ sz3 es3] => if sz3 = sz /\ es.length + es3.length < aS then setS d (.own ⟨e, e, e⟩ (.l .y sz (es ++ es3))) else .fail
        | _ => .fail
      else .fail
     | _ => .fail
    | _ => .fail
   | _ => .fail
  | none => .fail
 | _ => .fail
def exec (e : Nat) (d : Option Nat) : MOp -> Pg Unit
 | .mv x => do
  let v <- look e x
  match v with
  | .tup _ => match d with
   | some d => l6 e d x
   | none => .fail
  | .st cs => if cs.any Cell.fy then .fail else bT d (.st cs)
  | _ => bT d v
 | .asg x => match d with
  | some d => l6 e d x
  | none => .fail
 | .pick c a b => do
  match <- raw e c with
  | .x (.b t) => do
   let v <- raw e (if t then a else b)
   match v with
   | .x v => bT d (.x v)
   | _ => .fail
  | _ => .fail
 | .alloc cs => bT d (.box ⟨e, e, e⟩ cs)
 | .box tk x => do
  let cs <- dz e tk x
  bT d (.box ⟨e, e, e⟩ cs)
 | .fa x off => do
  match <- addr e x with
  | .ptr r k p o => bT d (.ptr r k p (o + off))
  | .q t o => bT d (.q t (o + off))
  | _ => .fail
 | .ia sz x ix => do
  let v <- indexAddr e sz x ix
  bT d v
 | .ld agg x => do
  let v <- load e agg x
  bT d v
 | .sto n tk x v => store e n tk x v
 | .bin op g x y => do
  let a <- plain e x
  let b <- plain e y
  match iF op g a b with
  | some t => bT d (.x t)
  | none => .fail
 | .un op x => do
  let a <- plain e x
  match unT op a with
  | some t => bT d (.x t)
  | none => .fail
 | .cvt k x => do
  match <- raw e x with
  | .x (.i _ n) => bT d (.x (.i k (k.wrap n)))
  | _ => .fail
 | .nW x => do
  let v <- raw e x
  match <- fx v with
  | .l _ 1 es => match fA es with
   | some ns => bT d (.x (.s (strOf ns)))
   | none => .fail
  | _ => .fail
 | .len str x => do
  let v <- look e x
  match jU str v with
  | some n => bT d (.x (.i .i64 n))
  | none => .fail
 | .mks sz agg zero len cap => do
  let n <- num e len
  let c <- num e cap
  if 0 <= n /\ n = c /\ n < aS then bT d (.own ⟨e, e, e⟩ (.l .y sz (List.replicate n.toNat (gG agg zero)))) else .fail
 | .bld zero tk parts => do
  let cs <- fill tk e parts zero
  bT d (.st (cs.map .x))
 | .bsl sz agg zero len tk parts => do
  let cs <- fill tk e parts (List.replicate len zero).flatten
  bT d (.own ⟨e, e, e⟩ (.l .y sz (ef agg sz len cs)))
 | .ext x j => match x with
  | .t s => do
   match <- Pg.rd s with
   | .tup n => if j < n then (iH e (vt s j)).bind fun v => bT d v else .fail
   | _ => .fail
  | .k _ => .fail
 | .app sz _ _ tk x y => match d with
  | some d => append e sz tk d x y
  | none => .fail
 | .slc sz tk x lo hi => do
  let v <- slice e sz tk x lo hi
  bT d v
 | .mn xs => do
  match <- pd e xs with
  | n :: ns => bT d (.x (.i .i64 (ns.foldl (fun a b => if b < a then b else a) n)))
  | [] => .fail
 | .mx xs => do
  match <- pd e xs with
  | n :: ns => bT d (.x (.i .i64 (ns.foldl (fun a b => if b > a then b else a) n)))
  | [] => .fail
 | .call _ F args => ga e d F args []
 | .dyn x eo args => do
  match <- raw e x with
  | .x (.f g env) => match eo.find? (fun c => c.1 == g) with
   | some c => ga e d c.2 args env
   | none => .fail
  | _ => .fail
 | .bU _ F x args => jE e d F x args
 | .kE x => match d, x with
  | some d, .t s => yW e d s
  | _, _ => .fail
 | .fn g cQ => do
  let ts <- jC cQ
  bT d (.x (.f g ts))
 | .qq x => do
  match <- look e x with
  | .ptr r k p o => bT d (.ptr r k p o)
  | .q t o => bT d (.q t o)
  | _ => .fail
 | .gv m => jF e d m
 | .ldo x => do
  match <- load e none x with
  | .w r k p _ lo n => (dL true r k p lo n).bind fun t => bT d (nX e t)
  | _ => .fail
 | .ixa n sz x ix => do
  match <- raw e ix with
  | .x (.i _ i) => do
   match <- addr e x with
   | .ptr r k p o => if 0 <= i /\ i < (n : Int) then bT d (.ptr r k p (o + i.toNat * sz)) else .fail
   | .q t o => if 0 <= i /\ i < (n : Int) then bT d (.q t (o + i.toNat * sz)) else .fail
   | _ => .fail
  | _ => .fail
 | _ => .fail
structure aC where
 d : Option Nat
 op : MOp
 guard : Option (Nat × Bool)
 kl : List Nat
def aC.go (e : Nat) (o : aC) : Pg Unit :=
 match o.guard with
 | none => Wr.exec e o.d o.op
 | some (s, want) => do
  match <- Pg.rd s with
  | .x (.b t) => if t = want then Wr.exec e o.d o.op else bT o.d (.tup 0)
  | .tup 0 => bT o.d (.tup 0)
  | _ => .fail
def nE (s : Nat) : Pg Unit := do
 match <- look 0 (.t s) with
 | .w r k p _ lo n => (dL false r k p lo n).bind fun t => bif r == s then pure () else setS s (.x t)
 | _ => pure ()
def forget : List Nat -> Pg Unit
 | [] => pure ()
 | s :: ss => (bif Nat.blt s 1000 then setS s .u else nE (s - 1000)).bind fun _ => forget ss
def aC.exec (e : Nat) (o : aC) : Pg Unit := (o.go e).bind fun _ => forget o.kl
inductive bR where
 | sk
 | reg (id : Nat) (draw : Option (List (List Nat × List Nat))) (ops : List aC)
 | seq (a b : bR)
 | cond (c : Opd) (a b : bR)
 | blk (id : Nat) (c : bR)
 | loop (bd : List Nat) (c : bR)
 | exit (id : Nat)
 | ret
 | bad
inductive Ex where
 | nx
 | exit (id : Nat)
 | ret
def jW (id : Nat) : Nat -> List aC -> Pg Unit
 | _, [] => pure ()
 | i, o :: os => do
  o.exec ((id * 1000 + i + 1) * 8)
  jW id (i + 1) os
def Pg.within {α : Type} (rs ws : List Nat) : Pg α -> Pg α
 | .ret a => .ret a
 | .fail => .fail
 | .get s k => if rs.contains s then .get s fun v => (k v).within rs ws else .fail
 | .set s v k => if ws.contains s then .set s v (k.within rs ws) else .fail
 | .bind p f => .bind (p.within rs ws) fun x => (f x).within rs ws
 | .jR s k => if (rs.contains s || (Nat.blt s 100000 && rs.contains (100000 + s))) = true then .jR s fun v => (k v).within rs ws else .fail
 | .jS s c k => if (rs.contains s || (Nat.blt s 100000 && rs.contains (100000 * (c + 2) + s))) = true then .jS s c fun v => (k v).within rs ws else .fail
 | .dO s c t k => if ((rs.contains s || (Nat.blt s 100000 && rs.contains (100000 + s))) && (ws.contains s || (Nat.blt s 100000 && ws.contains (100000 * (c + 2) + s)))) = true then .dO s c t (k.within rs ws) else .fail
def ir (id : Nat) : Nat -> List aC -> List (List Nat × List Nat) -> Pg Unit
 | _, [], _ => pure ()
 | i, o :: os, (rs, ws) :: fs => do
  (o.exec ((id * 1000 + i + 1) * 8)).within rs ws
  ir id (i + 1) os fs
 | _, _ :: _, [] => .fail
def yX (id : Nat) (dr : Option (List (List Nat × List Nat))) (ops : List aC) : Pg Unit :=
 match dr with
 | none => jW id 0 ops
 | some fs => ir id 0 ops fs
structure Sg where
 σ : St
 us : List Nat
def eD (bd : List Nat) (σ : St) (r : Nat) (k : K) (lvl : Bool -> Nat) : Option K :=
 if bd.contains r then
  match (σ r).rc with
  | some c => if c.k.ok k (lvl c.bi) then some ⟨0, 0, 0⟩ else none
  | none => none
 else none
def renew (bd : List Nat) (σ : St) : AV -> AV
 | .own _ t => .own ⟨0, 0, 0⟩ t
 | .box _ cs => .box ⟨0, 0, 0⟩ cs
 | .w r k p z lo n => match eD bd σ r k (dl · p) with | some k' => .w r k' p z lo n | none => .u
 | .ptr r k p off => match eD bd σ r k (fh · p) with | some k' => .ptr r k' p off | none => .u
 | .st _ => .u
 | .tup _ => .u
 | v => v
def cL (bd : List Nat) (σ : St) : St := bd.foldr (fun s τ => if s < 1000 then upd τ s (renew bd σ (σ s)) else τ) (fun _ => .u)
noncomputable section
open Classical
def iter (f : Sg -> Option (Ex × Sg)) : Nat -> Sg -> Option (Ex × Sg)
 | 0, _ => none
 | n + 1, s => match f s with
  | some (.nx, s') => iter f n s'
  | r => r
def rounds (f : Sg -> Option (Ex × Sg)) (s : Sg) : Option (Ex × Sg) :=
 if h : ∃ n, (iter f n s).isSome then iter f h.choose s else none
def den : bR -> Sg -> Option (Ex × Sg)
 | .sk, s => some (.nx, s)
 | .reg id dr ops, s =>
  if s.us.contains id then none
  else match (yX id dr ops).run s.σ with
   | some (_, σ) => some (.nx, ⟨σ, id :: s.us⟩)
   | none => none
 | .seq a b, s => match den a s with
  | some (.nx, s') => den b s'
  | r => r
 | .cond c a b, s => match (raw 0 c).run s.σ with
  | some (.x (.b t), _) => if t then den a s else den b s
  | _ => none
 | .blk id c, s => match den c s with
  | some (.exit id', s') => if id' = id then some (.nx, s') else some (.exit id', s')
  | r => r
 | .loop bd c, s => rounds (fun s => den c ⟨cL bd s.σ, []⟩) s
 | .exit id, s => some (.exit id, s)
 | .ret, s => some (.ret, s)
 | .bad, _ => none
end
end Go.Wr
namespace Go.Wr
inductive gA where
 | tmp (s : Nat)
 | cell (s : Nat) (agg : Option Nat)
structure aA where
 code : bR
 res : List gA
 bu : List Nat
 ar : Nat
def Arg.av (i : Nat) : Arg -> AV
 | .x t => .x t
 | .bx cs => .box ⟨0, 0, 0⟩ cs
 | .own t => .own ⟨0, 0, 0⟩ t
 | .mu t => .own ⟨0, 0, 0⟩ t
 | .st cs => .st (cs.map .x)
 | .ms cs => .st (cs.map .x)
def ep : Nat -> List Arg -> St -> St
 | _, [], σ => σ
 | i, a :: as, σ => ep (i + 1) as (upd σ i (a.av i))
def nY : gA -> Pg RV
 | .tmp s => do
  let v <- Pg.rd s
  let ts <- dz 0 true (.t s)
  match v, ts with
  | .st _, ts => pure (.st ts)
  | _, [t] => pure (.one t)
  | _, _ => .fail
 | .cell s agg => do
  match <- Pg.rd s with
  | .box _ cs => match agg, cs with
   | none, [t] => (Pg.wr s .u).bind fun _ => pure (.one t)
   | some n, cs => if cs.length = n then (Pg.wr s .u).bind fun _ => pure (.st cs) else .fail
   | _, _ => .fail
  | _ => .fail
def pf : List gA -> Pg (List RV)
 | [] => pure []
 | x :: xs => do
  let r <- nY x
  let rs <- pf xs
  pure (r :: rs)
def l8 : List Nat -> Pg (List (List T))
 | [] => pure []
 | i :: is => do
  match <- Pg.rd i with
  | .box k cs => if k.e = 0 then (l8 is).bind fun bs => pure (cs :: bs) else .fail
  | _ => .fail
def leave (f : aA) : Pg Out := do
 let rs <- pf f.res
 let bs <- l8 f.bu
 pure ⟨rs, bs⟩
def e8 : Nat -> List Arg -> List Nat
 | _, [] => []
 | i, .bx _ :: as => i :: e8 (i + 1) as
 | i, _ :: as => e8 (i + 1) as
def Arg.gv : Arg -> Bool
 | .own (.l .y _ _) => true
 | .own _ => false
 | .mu _ => false
 | .ms _ => false
 | _ => true
def kG (f : aA) (as : List Arg) : Bool := as.length == f.ar && e8 0 as == f.bu && as.all Arg.gv
noncomputable def aD (f : aA) : Fun := fun as =>
 if kG f as = true then
 match den f.code ⟨ep 0 as fun _ => .u, []⟩ with
 | some (.nx, s) | some (.ret, s) => (match (leave f).run s.σ with | some (o, _) => some o | none => none)
 | _ => none
 else none
def Arg.isM : Arg -> Bool
 | .mu (.l .y _ _) => true
 | .ms _ => true
 | _ => false
def jG (f : aA) (as : List Arg) : Bool := as.length == f.ar && f.bu == [0] && match as with
 | x :: as => x.isM && as.all Arg.isS
 | [] => false
def yY : Pg (List T) := do
 let v <- Pg.rd 0
 match v with
 | .own _ (.l .y sz es) => pure [.l .y sz es]
 | .st _ => dz 0 true (.t 0)
 | _ => .fail
def iZ (f : aA) : Pg Out := do
 let rs <- pf f.res
 let cs <- yY
 pure ⟨rs, [cs]⟩
noncomputable def dA (f : aA) : Fun := fun as =>
 if jG f as = true then
 match den f.code ⟨ep 0 as fun _ => .u, []⟩ with
 | some (.nx, s) | some (.ret, s) => (match (iZ f).run s.σ with | some (o, _) => some o | none => none)
 | _ => none
 else none
end Go.Wr
namespace Go.Wr
structure Cx where
 P : Program
 tab : Nat -> FuncId
 mv : Nat -> Value
 w0 : World
 ow0 : Nat -> Ow
 n : Nat
 args : Array Value
 bu : List Nat
def aK (a : Act) (s : Nat) : Value :=
 if s < 1000 then a.tmps.getD s undef
 else match a.tmps.getD (s % 1000) undef with
  | .tuple vs => vs.getD (s / 1000 - 1) undef
  | _ => undef
def bp (w : World) : T -> Nat -> Nat -> List Nat -> Option (Nat × Nat)
 | _, b, o, [] => some (b, o)
 | .a cs, b, o, k :: p => match cs[k]? with
  | some t => bp w t b (o + k) p
  | none => none
 | .l _ sz es, b, o, i :: p => match w.cell? ⟨b, o, none⟩, es[i]? with
  | some (.slice (some ad) _ _), some t => bp w t ad.block (ad.off + i * sz) p
  | _, _ => none
 | _, _, _, _ => none
def cG (w : World) : T -> Option Addr -> List Nat -> Option (Nat × Nat)
 | .l _ sz es, some ad, i :: p => match es[i]? with
  | some t => bp w t ad.block (ad.off + i * sz) p
  | none => none
 | _, _, _ => none
def place (w : World) (c : RC) (v : Value) (p : List Nat) : Option (Nat × Nat) :=
 match c.bi, v with
 | true, .pointer (some ad) => bp w c.t ad.block 0 p
 | false, .slice A _ _ => cG w c.t A p
 | _, _ => none
def hdr (w : World) (c : RC) (v : Value) (p : List Nat) : Option Value :=
 if !c.bi && p.isEmpty then some v
 else match place w c v p with
  | some bo => w.cell? ⟨bo.1, bo.2, none⟩
  | none => none
def kH (hv : Value) (sz lo n : Nat) (v : Value) : Prop :=
 ∃ A N C A' c', hv = .slice A N C /\ v = .slice A' n c' /\ n <= c' /\ lo + c' <= C /\
  ((A' = A /\ (lo = 0 \/ c' = 0)) \/ ∃ ad x, A = some ad /\ A' = some ⟨ad.block, x, none⟩ /\ (x = ad.off + lo * sz \/ (c' = 0 /\ x <= ad.off + C * sz))) /\ (lo = 0 -> n = N -> v = hv)
def At (w : World) (b o : Nat) (vs : List Value) : Prop := ∀ j v, vs[j]? = some v -> w.cell? ⟨b, o + j, none⟩ = some v
section
variable (X : Cx)
def l9 (σ : St) (a : Act) (w : World) (r : Nat) (k : K) (p : List Nat) (off : Nat) (v : Value) : Prop :=
 (∃ b o, v = .pointer (some ⟨b, o, none⟩)) /\ ∀ c, (σ r).rc = some c -> c.k.ok k (fh c.bi p) = true -> ∀ bo, place w c (aK a r) p = some bo -> v = .pointer (some ⟨bo.1, bo.2 + off, none⟩)
def dc (σ : St) (a : Act) (w : World) (r : Nat) (k : K) (p : List Nat) (z lo n : Nat) (v : Value) : Prop :=
 (∃ A C, v = .slice A n C /\ n <= C /\ (0 < n -> ∃ b o, A = some ⟨b, o, none⟩)) /\ ∀ c, (σ r).rc = some c -> c.k.ok k (dl c.bi p) = true -> (∀ cs, c.t.nav p ≠ some (.a cs)) /\ ∀ o sz es, c.t.nav p = some (.l o sz es) ->
  ∀ A N C, hdr w c (aK a r) p = some (.slice A N C) -> sz = z /\ lo + n <= es.length /\ kH (.slice A N C) sz lo n v
def dm (σ : St) (a : Act) (w : World) (ow : Nat -> Ow) (s j : Nat) : Cell -> Value -> Prop
 | .x t, v => rep X.tab X.mv w ow (some (.sl s, [j])) t [v]
 | .w r k p z lo n, v => dc σ a w r k p z lo n v
def dM (σ : St) (a : Act) (w : World) (ow : Nat -> Ow) (s : Nat) : Nat -> List Cell -> List Value -> Prop
 | _, [], vs => vs = []
 | j, c :: cs, vs => ∃ v rest, vs = v :: rest /\ dm X σ a w ow s j c v /\ dM σ a w ow s (j + 1) cs rest
def dT (arr : Array Value) (fr : Nat × Nat) : Prop := fr.2 <= fr.1 \/ arr.size <= fr.1
def BK (w : World) (ow : Nat -> Ow) (s : Nat) (cs : List T) (v : Value) : Prop :=
 ∃ b arr ty fr, v = .pointer (some ⟨b, 0, none⟩) /\ ow b = .own (.sl s) [] /\ w.heap[b]? = some (.cells arr ty fr) /\ dT arr fr /\
  aR X.tab X.mv w ow (some (.sl s, [])) 0 cs arr.toList
def aP (σ : St) (a : Act) (w : World) (ow : Nat -> Ow) (s : Nat) : AV -> Value -> Prop
 | .u, _ => True
 | .x t, v => rep X.tab X.mv w ow none t [v]
 | .own _ t, v => (∃ o sz es, t = .l o sz es /\ o.own = true) /\ rep X.tab X.mv w ow (some (.sl s, [])) t [v]
 | .w r k p z lo n, v => dc σ a w r k p z lo n v
 | .st cs, v => ∃ vs : Array Value, v = .agg vs /\ dM X σ a w ow s 0 cs vs.toList
 | .box _ cs, v => BK X w ow s cs v
 | .ptr r k p off, v => l9 σ a w r k p off v
 | .q t off, v => ∃ b o vs, v = .pointer (some ⟨b, o + off, none⟩) /\ ow b = .z /\ At w b o vs /\ rep X.tab X.mv w ow none t vs
 | .tup n, v => ∃ vs : Array Value, v = .tuple vs /\ vs.size = n
def Cell.stamps (U : Nat -> Prop) : Cell -> Prop
 | .w _ k _ _ _ _ => U k.e /\ U k.h /\ U k.d
 | _ => True
def AV.stamps (U : Nat -> Prop) : AV -> Prop
 | .w _ k _ _ _ _ => U k.e /\ U k.h /\ U k.d
 | .ptr _ k _ _ => U k.e /\ U k.h /\ U k.d
 | .st cs => ∀ c ∈ cs, c.stamps U
 | .own k _ => U k.e /\ U k.h /\ U k.d
 | .box k _ => U k.e /\ U k.h /\ U k.d
 | _ => True
structure Rel (U : Nat -> Prop) (J : Nat) (σ : St) (a : Act) (w : World) (ow : Nat -> Ow) : Prop where
 size : a.tmps.size = X.n
 small : X.n <= 1000
 defers : a.defers = []
 slot : ∀ s, aP X σ a w ow s (σ s) (aK a s)
 bZ : ∀ s, (σ s).stamps U
 low : ∀ b, ow b ≠ .no -> b < w.heap.size
 air : ∀ b i q, ow b = .own (.ar i) q -> i < J
 grown : X.w0.heap.size <= w.heap.size
 same : ∀ b, b < X.w0.heap.size -> (∀ r q, X.ow0 b ≠ .own r q) -> w.heap[b]? = X.w0.heap[b]? /\ ow b = X.ow0 b
 os : w.os = X.w0.os
 output : w.output = X.w0.output
 bu : ∀ i ∈ X.bu, a.tmps[i]? = X.args[i]?
 gI : ∀ s, 1000 <= s -> σ s ≠ .u -> ∃ n, σ (s % 1000) = .tup n /\ s / 1000 <= n
end
theorem Zl9 {a : Act} {d s : Nat} {v : Value} (h : s ≠ d) (h2 : 1000 <= s -> s % 1000 ≠ d) : aK (a.put (some d) v) s = aK a s := by
 unfold aK Act.put
 split
 ·simp [Array.getElem?_setIfInBounds_ne (Ne.symm h)]
 ·rename_i hs
  have := h2 (by omega)
  simp [Array.getElem?_setIfInBounds_ne (Ne.symm this)]
theorem Zla {a : Act} {d : Nat} {v : Value} (h : d < a.tmps.size) (h2 : d < 1000) : aK (a.put (some d) v) d = v := by
 unfold aK Act.put
 simp [h2, h]
theorem Zlb {a : Act} {d j : Nat} {vs : Array Value} (h : d < a.tmps.size) (h2 : d < 1000) : aK (a.put (some d) (.tuple vs)) (vt d j) = vs.getD j undef := by
 unfold aK Act.put vt
 have h3 : ¬ (d + 1000 * (j + 1) < 1000) := by omega
 have h4 : (d + 1000 * (j + 1)) % 1000 = d := by omega
 have h5 : (d + 1000 * (j + 1)) / 1000 - 1 = j := by omega
 simp only [h3, if_false, h4, h5]
 simp [h]
theorem At.cons {w : World} {b o : Nat} {v : Value} {vs : List Value} (h : At w b o (v :: vs)) : w.cell? ⟨b, o, none⟩ = some v /\ At w b (o + 1) vs :=
 ⟨by simpa using h 0 v rfl, fun j u hu => by have := h (j + 1) u (by simpa using hu); rw [Y74, Nat.add_comm 1 j]; exact this⟩
theorem At.app {w : World} {b o : Nat} {u vs : List Value} (h : At w b o (u ++ vs)) : At w b o u /\ At w b (o + u.length) vs :=
 ⟨fun j v hv => h j v (by rw [Y29 (Y36.1 hv).1]; exact hv),
  fun j v hv => by
  have := h (u.length + j) v (by rw [Y30 (by omega)]; simpa using hv)
  rw [Y74]; exact this⟩
theorem Z2h {w : World} {b : Nat} {arr : Array Value} {ty : TypeId} {fr : Nat × Nat} (h : w.heap[b]? = some (.cells arr ty fr)) (o : Nat) :
  w.cell? ⟨b, o, none⟩ = arr[o]? := by
 simp [World.cell?, h]
theorem Z15 {w : World} {b : Nat} {arr : Array Value} {ty : TypeId} {fr : Nat × Nat} (h : w.heap[b]? = some (.cells arr ty fr)) (o : Nat) (vs : List Value)
  (hv : ∀ j v, vs[j]? = some v -> arr[o + j]? = some v) : At w b o vs := fun j v hj => by
 rw [Z2h h]; exact hv j v hj
theorem Z13 {w : World} {b : Nat} {arr : Array Value} {ty : TypeId} {fr : Nat × Nat} (h : w.heap[b]? = some (.cells arr ty fr)) : At w b 0 arr.toList :=
 Z15 h 0 _ fun j v hj => by simpa using hj
theorem Zf8 {tab : Nat -> FuncId} {mv : Nat -> Value} {w : World} {ow : Nat -> Ow} {c : Loc} : ∀ {ts : List T} {k : Nat} {vs : List Value}, aR tab mv w ow c k ts vs -> vs.length = ts.length
 | [], _, _, h => by simp only [aR] at h; simp [h]
 | t :: ts, k, vs, h => by
  simp only [aR] at h
  obtain ⟨v, rest, rfl, _, h2⟩ := h
  simp [Zf8 h2]
theorem Zf7 {tab : Nat -> FuncId} {mv : Nat -> Value} {w : World} {ow : Nat -> Ow} {c : Loc} : ∀ {ts : List T} {k : Nat} {vs : List Value}, aR tab mv w ow c k ts vs ->
  ∀ {j : Nat} {t : T}, ts[j]? = some t -> ∃ v, vs[j]? = some v /\ rep tab mv w ow (c.push (k + j)) t [v]
 | [], _, _, _, j, t, ht => by simp at ht
 | t :: ts, k, vs, h, j, t', ht => by
  simp only [aR] at h
  obtain ⟨v, rest, rfl, h1, h2⟩ := h
  cases j with
  | zero => simp at ht; subst ht; exact ⟨v, rfl, h1⟩
  | succ j =>
   obtain ⟨v', hv, hr⟩ := Zf7 h2 (j := j) (by simpa using ht)
   exact ⟨v', by simpa using hv, by rw [show k + (j + 1) = k + 1 + j by omega]; exact hr⟩
theorem Zfh {tab : Nat -> FuncId} {mv : Nat -> Value} {w : World} {ow : Nat -> Ow} {c : Loc} {sz : Nat} : ∀ {es : List T} {k : Nat} {vs : List Value}, bg tab mv w ow c sz k es vs ->
  ∀ {j : Nat} {t : T}, es[j]? = some t -> ∃ v1, v1.length = sz /\ rep tab mv w ow (c.push (k + j)) t v1 /\ (∀ i v, v1[i]? = some v -> vs[j * sz + i]? = some v)
 | [], _, _, _, j, t, ht => by simp at ht
 | e :: es, k, vs, h, j, t', ht => by
  simp only [bg] at h
  obtain ⟨v1, rest, rfl, hl, h1, h2⟩ := h
  cases j with
  | zero =>
   simp at ht; subst ht
   refine ⟨v1, hl, h1, fun i v hv => ?_⟩
   rw [Nat.zero_mul, Y83, Y29 (Y36.1 hv).1]; exact hv
  | succ j =>
   obtain ⟨v1', hl', hr, hv⟩ := Zfh h2 (j := j) (by simpa using ht)
   refine ⟨v1', hl', by rw [show k + (j + 1) = k + 1 + j by omega]; exact hr, fun i v hi => ?_⟩
   rw [Y30 (by rw [hl, Y82]; omega)]
   rw [show (j + 1) * sz + i - v1.length = j * sz + i by rw [hl, Y82]; omega]
   exact hv i v hi
end Go.Wr
namespace Go.Wr
def T.cq : T -> Loc -> List Nat -> Loc
 | _, c, [] => c
 | .a cs, c, k :: ks => match cs[k]? with | some t => t.cq (c.push k) ks | none => none
 | .l o _ es, c, k :: ks => match es[k]? with | some t => t.cq ((o.loc c).push k) ks | none => none
 | _, _, _ :: _ => none
section
variable {tab : Nat -> FuncId} {mv : Nat -> Value} {w : World} {ow : Nat -> Ow}
theorem Zdc (r : aH) (p : List Nat) (k : Nat) : Loc.push (some (r, p)) k = some (r, p ++ [k]) := rfl
theorem Zaz : ∀ (p : List Nat) (t : T) (r : aH) (q : List Nat), t.cb p = true -> t.cq (some (r, q)) p = some (r, q ++ p)
 | [], t, r, q, _ => by simp [T.cq]
 | k :: p, t, r, q, h => by
  cases t <;> simp only [T.cb, Y9] at h
  case a cs =>
   simp only [T.cq]
   split at h <;> rename_i he
   ·simp only [he, Zdc, Zaz p _ r _ h, Y21, Y24, Y66]
   ·cases h
  case l o sz es =>
   simp only [T.cq]
   simp only [Y2] at h
   obtain ⟨ho, h⟩ := h
   split at h <;> rename_i he
   ·simp only [he, Ob.loc, ho, if_true, Zdc, Zaz p _ r _ h, Y21, Y24, Y66]
   ·cases h
theorem Zfu {c : Loc} {o : Ob} {sz : Nat} {es : List T} {vs : List Value} (h : rep tab mv w ow c (.l o sz es) vs) :
  ∃ A cap, vs = [.slice A es.length cap] /\ es.length <= cap /\ ∀ ad, A = some ad -> (o.own = true \/ es ≠ []) -> ad.spot = none /\ ow ad.block = (o.loc c).ow /\
   ∃ arr ty fr vs', w.heap[ad.block]? = some (.cells arr ty fr) /\ (o.own = true -> dT arr fr /\ ad.off + cap * sz <= arr.size) /\
    (∀ j v, vs'[j]? = some v -> arr[ad.off + j]? = some v) /\ bg tab mv w ow (o.loc c) sz 0 es vs' := by
 simp only [rep] at h
 obtain ⟨_, A, cap, rfl, hc, _, h⟩ := h
 refine ⟨A, cap, rfl, hc, fun ad hA hor => ?_⟩
 subst hA
 exact h hor
theorem Zfv {c : Loc} {o : Ob} {sz : Nat} {es : List T} {vs : List Value} (h : rep tab mv w ow c (.l o sz es) vs) (hne : es ≠ []) :
  ∃ ad cap, vs = [.slice (some ad) es.length cap] /\ es.length <= cap /\ ad.spot = none /\ ow ad.block = (o.loc c).ow /\
   ∃ arr ty fr vs', w.heap[ad.block]? = some (.cells arr ty fr) /\ (o.own = true -> dT arr fr /\ ad.off + cap * sz <= arr.size) /\
    (∀ j v, vs'[j]? = some v -> arr[ad.off + j]? = some v) /\ bg tab mv w ow (o.loc c) sz 0 es vs' := by
 have h' := h
 simp only [rep] at h'
 obtain ⟨_, A, cap, rfl, hc, _, h2⟩ := h'
 cases A with
 | none =>
  simp only at h2
  subst h2
  exact absurd (Y44.1 (Nat.le_zero.1 hc)) hne
 | some ad =>
  obtain ⟨hs, hb, rest⟩ := h2 (.inr hne)
  exact ⟨ad, cap, rfl, hc, hs, hb, rest⟩
theorem Zab : ∀ (p : List Nat) (t : T) {c : Loc} {vs : List Value} {b o : Nat} {node : T}, rep tab mv w ow c t vs -> At w b o vs -> t.nav p = some node ->
  ∃ b' o' vs', bp w t b o p = some (b', o') /\ At w b' o' vs' /\ rep tab mv w ow (t.cq c p) node vs'
 | [], t, c, vs, b, o, node, h, ha, hn => by
  simp only [T.nav, Y89] at hn
  subst hn
  exact ⟨b, o, vs, by cases t <;> rfl, ha, by cases t <;> exact h⟩
 | k :: p, t, c, vs, b, o, node, h, ha, hn => by
  cases t <;> simp only [T.nav, T.kid, Y85, reduceCtorEq] at hn
  case a cs =>
   obtain ⟨t', ht', hn⟩ := Y84.1 hn
   simp only [rep] at h
   obtain ⟨v, hv, hr⟩ := Zf7 h ht'
   rw [Y83] at hr
   have ha' : At w b (o + k) [v] := fun j u hu => by
    cases j with
    | zero => simp at hu; subst hu; exact ha k v hv
    | succ j => simp at hu
   obtain ⟨b', o', vs', h1, h2, h3⟩ := Zab p t' hr ha' hn
   exact ⟨b', o', vs', by simp only [bp, ht', h1], h2, by simp only [T.cq, ht']; exact h3⟩
  case l ob sz es =>
   obtain ⟨t', ht', hn⟩ := Y84.1 hn
   have hne : es ≠ [] := by intro he; subst he; simp at ht'
   obtain ⟨ad, cap, rfl, hc, hs, hb, arr, ty, fr, vs', hh, hfr, hvs, hes⟩ := Zfv h hne
   obtain ⟨v1, hl, hr, hv⟩ := Zfh hes ht'
   rw [Y83] at hr
   have bD := (ha.cons).1
   have ha' : At w ad.block (ad.off + k * sz) v1 := fun j u hu => by
    rw [Z2h hh, Y74]
    exact hvs _ _ (hv j u hu)
   obtain ⟨b', o', pg, h1, h2, h3⟩ := Zab p t' hr ha' hn
   exact ⟨b', o', pg, by simp only [bp, bD, ht', h1], h2, by simp only [T.cq, ht']; exact h3⟩
end
end Go.Wr
namespace Go.Wr
structure Upd (w w' : World) (B O : Nat) (new : List Value) : Prop where
 other : ∀ b, b ≠ B -> w'.heap[b]? = w.heap[b]?
 blk : ∃ arr cW ty fr, w.heap[B]? = some (.cells arr ty fr) /\ w'.heap[B]? = some (.cells cW ty fr) /\ cW.size = arr.size /\
  ∀ j, cW[j]? = if O <= j /\ j < O + new.length then new[j - O]? else arr[j]?
theorem Upd.cell {w w' : World} {B O : Nat} {new : List Value} (h : Upd w w' B O new) {b o : Nat} (hb : b = B -> o < O \/ O + new.length <= o) :
  w'.cell? ⟨b, o, none⟩ = w.cell? ⟨b, o, none⟩ := by
 by_cases hB : b = B
 ·subst hB
  obtain ⟨arr, cW, ty, fr, h1, h2, _, h4⟩ := h.blk
  rw [Z2h h1, Z2h h2, h4 o, if_neg (by have := hb rfl; omega)]
 ·simp only [World.cell?, h.other b hB]
theorem Upd.new {w w' : World} {B O : Nat} {new : List Value} (h : Upd w w' B O new) {j : Nat} {v : Value} (hv : new[j]? = some v) :
  w'.cell? ⟨B, O + j, none⟩ = some v := by
 obtain ⟨arr, cW, ty, fr, h1, h2, _, h4⟩ := h.blk
 have hj := (Y36.1 hv).1
 rw [Z2h h2, h4, if_pos ⟨by omega, by omega⟩, Nat.add_sub_cancel_left]
 exact hv
section
variable {tab : Nat -> FuncId} {mv : Nat -> Value} {w w' : World} {ow ow' : Nat -> Ow}
theorem Zfa {c : Loc} : ∀ {ts : List T} {k : Nat} {vs : List Value}, vs.length = ts.length -> (∀ j t v, ts[j]? = some t -> vs[j]? = some v -> rep tab mv w ow (c.push (k + j)) t [v]) -> aR tab mv w ow c k ts vs
 | [], k, vs, hl, _ => by simp only [aR]; exact Y44.1 hl
 | t :: ts, k, [], hl, _ => by simp at hl
 | t :: ts, k, v :: vs, hl, h => by
  simp only [aR]
  refine ⟨v, vs, rfl, by simpa using h 0 t v rfl rfl, Zfa (by simpa using hl) fun j t' v' h1 h2 => ?_⟩
  have := h (j + 1) t' v' (by simpa using h1) (by simpa using h2)
  rw [show k + (j + 1) = k + 1 + j by omega] at this
  exact this
theorem Zfi {c : Loc} {sz : Nat} : ∀ {es : List T} {k : Nat} {vs : List Value}, bg tab mv w ow c sz k es vs -> vs.length = es.length * sz
 | [], _, _, h => by simp only [bg] at h; simp [h]
 | e :: es, k, vs, h => by
  simp only [bg] at h
  obtain ⟨v1, rest, rfl, hl, _, h2⟩ := h
  simp [hl, Zfi h2, Y82]; omega
theorem Zfc {c : Loc} {sz : Nat} : ∀ {es : List T} {k : Nat} {vs : List Value}, bg tab mv w ow c sz k es vs ->
  ∀ {es' : List T} {c' : Loc} {vs' : List Value} {w' : World} {ow' : Nat -> Ow}, es'.length = es.length -> vs'.length = vs.length ->
   (∀ j t v1, es[j]? = some t -> v1.length = sz -> rep tab mv w ow (c.push (k + j)) t v1 -> (∀ i v, v1[i]? = some v -> vs[j * sz + i]? = some v) ->
    ∃ t' v1', es'[j]? = some t' /\ v1'.length = sz /\ rep tab mv w' ow' (c'.push (k + j)) t' v1' /\ ∀ i v, v1'[i]? = some v -> vs'[j * sz + i]? = some v) ->
   bg tab mv w' ow' c' sz k es' vs'
 | [], k, vs, h, es', c', vs', w', ow', hl, hvl, _ => by
  simp only [bg] at h
  subst h
  have : es' = [] := Y44.1 hl
  subst this
  simp only [bg]
  exact Y44.1 hvl
 | e :: es, k, vs, h, es', c', vs', w', ow', hl, hvl, cc => by
  have hlen := Zfi h
  simp only [bg] at h
  obtain ⟨v1, rest, rfl, hl1, h1, h2⟩ := h
  obtain ⟨t', v1', ht', hl', hr', hv'⟩ := cc 0 e v1 rfl hl1 (by simpa using h1) (fun i v hv => by
   rw [Nat.zero_mul, Y83, Y29 (Y36.1 hv).1]; exact hv)
  cases es' with
  | nil => simp at ht'
  | cons e' L8 =>
   simp at ht'
   subst ht'
   have hsz : sz <= vs'.length := by rw [hvl, hlen, Y42, Y82]; omega
   have qu : vs'.take sz = v1' := by
    apply Y25
    intro i
    by_cases hi : i < sz
    ·rw [List.getElem?_take_of_lt hi]
     have : i < v1'.length := by omega
     have h3 := hv' i v1'[i] (by simp [this])
     rw [Nat.zero_mul, Y83] at h3
     rw [h3]; simp [this]
    ·rw [Y35 (by simp; omega), Y35 (by omega)]
   simp only [bg]
   refine ⟨v1', vs'.drop sz, by rw [<- qu, Y71], hl', by simpa using hr', ?_⟩
   refine Zfc h2 (by simpa using hl) (by simp [hvl, hl1]) fun j t v2 hj hlv hr hv => ?_
   obtain ⟨t'', v2', h5, h6, h7, h8⟩ := cc (j + 1) t v2 (by simpa using hj) hlv (by rw [show k + (j + 1) = k + 1 + j by omega]; exact hr) (fun i v hiv => by
    rw [Y30 (by rw [hl1, Y82]; omega), show (j + 1) * sz + i - v1.length = j * sz + i by rw [hl1, Y82]; omega]
    exact hv i v hiv)
   refine ⟨t'', v2', by simpa using h5, h6, by rw [show k + 1 + j = k + (j + 1) by omega]; exact h7, fun i v hiv => ?_⟩
   rw [Y33]
   have := h8 i v hiv
   rw [Y82] at this
   rw [show sz + (j * sz + i) = j * sz + sz + i by omega]
   exact this
end
end Go.Wr
namespace Go.Wr
theorem Zjq {α : Type} (cs : List α) (off : Nat) (new : List α) (h : off + new.length <= cs.length) : (bC cs off new).length = cs.length := by
 simp [bC]; omega
theorem Zjp {α : Type} (cs : List α) (off : Nat) (new : List α) (h : off + new.length <= cs.length) (j : Nat) :
  (bC cs off new)[j]? = if off <= j /\ j < off + new.length then new[j - off]? else cs[j]? := by
 unfold bC
 have ht : (cs.take off).length = off := by simp; omega
 by_cases h1 : j < off
 ·rw [if_neg (by omega), Y21, Y29 (by omega), List.getElem?_take_of_lt h1]
 ·by_cases h2 : j < off + new.length
  ·rw [if_pos ⟨by omega, h2⟩, Y21, Y30 (by omega), ht, Y29 (by omega)]
  ·rw [if_neg (by omega), Y30 (by simp; omega), Y33]
   congr 1
   simp
   omega
section
variable {tab : Nat -> FuncId} {mv : Nat -> Value} {w w' : World} {ow ow' : Nat -> Ow}
theorem Zfz {c : Loc} {t : T} {vs : List Value} (h : rep tab mv w ow c t vs) (hn : ∀ cs, t ≠ .a cs) : vs.length = 1 := by
 cases t <;> simp only [rep] at h
 case a cs => exact absurd rfl (hn cs)
 case l o sz es => obtain ⟨_, A, cap, rfl, _⟩ := h; rfl
 case f => obtain ⟨_, rfl, _⟩ := h; rfl
 case p => obtain ⟨_, _, _, _, rfl, _⟩ := h; rfl
 case u => obtain ⟨_, rfl, _⟩ := h; rfl
 all_goals (subst h; rfl)
mutual
theorem Zfo : ∀ (t : T) {c : Loc} {vs : List Value}, rep tab mv w ow c t vs -> vs.all dK = true
 | .i _ _, _, _, h => by simp only [rep] at h; subst h; rfl
 | .b _, _, _, h => by simp only [rep] at h; subst h; rfl
 | .s _, _, _, h => by simp only [rep] at h; subst h; rfl
 | .u, _, _, h => by simp only [rep] at h; obtain ⟨v, rfl, h⟩ := h; simp [h]
 | .a cs, c, vs, h => by simp only [rep] at h; exact Zf3 cs h
 | .f _ _, _, _, h => by simp only [rep] at h; obtain ⟨_, rfl, _⟩ := h; rfl
 | .p _, _, _, h => by simp only [rep] at h; obtain ⟨_, _, _, _, rfl, _⟩ := h; rfl
 | .l _ _ _, _, _, h => by simp only [rep] at h; obtain ⟨_, _, _, rfl, _⟩ := h; rfl
theorem Zf3 : ∀ (cs : List T) {c : Loc} {k : Nat} {vs : List Value}, aR tab mv w ow c k cs vs -> vs.all dK = true
 | [], _, _, _, h => by simp only [aR] at h; subst h; rfl
 | t :: ts, c, k, vs, h => by
  simp only [aR] at h
  obtain ⟨v, rest, rfl, h1, h2⟩ := h
  have h3 := Zfo t h1
  have h4 := Zf3 ts h2
  simp only [Y17, Y19, Y5] at h3
  simp [h3, h4]
end
theorem Zfe {c : Loc} {sz : Nat} : ∀ {es : List T} {k : Nat} {vs : List Value}, bg tab mv w ow c sz k es vs -> vs.all dK = true
 | [], _, _, h => by simp only [bg] at h; subst h; rfl
 | t :: ts, k, vs, h => by
  simp only [bg] at h
  obtain ⟨v1, rest, rfl, _, h1, h2⟩ := h
  rw [List.all_append, Zfo t h1, Zfe h2]
  rfl
def gD (node : T) (r : aH) (q : List Nat) (k : Nat) : Loc :=
 match node with
 | .a _ => some (r, q ++ [k])
 | _ => some (r, q)
theorem Ze8 {B O off : Nat} {dU : List T} {gJ : List Value} {r : aH} {node : T}
  (hz : ∀ b, ow b = .z -> ow' b = .z /\ b ≠ B) (hown : ∀ b q', ow b = .own r q' -> ow' b = .own r q') (hu : Upd w w' B (O + off) gJ)
  (hlen : gJ.length = dU.length) (hne : dU ≠ []) (hT : off + dU.length <= node.cells.length) :
  ∀ (p : List Nat) (t : T) {q : List Nat} {b o : Nat} {vs : List Value} {hb : List Nat}, rep tab mv w ow (some (r, q)) t vs -> At w b o vs -> ow b = .own r hb ->
   (hb.length < q.length \/ ((∃ cs, t = .a cs) /\ hb.length <= q.length)) -> t.cb p = true -> t.nav p = some node -> bp w t b o p = some (B, O) ->
   (∀ j x v, dU[j]? = some x -> gJ[j]? = some v -> rep tab mv w' ow' (gD node r (q ++ p) (off + j)) x [v]) ->
   ∃ vs', rep tab mv w' ow' (some (r, q)) (t.put p (node.bO (bC node.cells off dU))) vs' /\ At w' b o vs' /\ vs'.length = vs.length /\
    ((∃ ob sz es, t = .l ob sz es) -> p ≠ [] -> vs' = vs) /\
    ((B = b /\ o <= O + off /\ O + off + gJ.length <= o + vs.length) \/ (B ≠ b /\ ∃ h, ow B = .own r (q ++ h))) := by
 have hzs : Zs w ow w' ow' := fun b hb => ⟨(hz b hb).1, hu.other b (hz b hb).2⟩
 have other : ∀ (q2 : List Nat), (∀ h, ow B ≠ .own r (q2 ++ h)) -> Tr w ow w' ow' (some (r, q2)) (some (r, q2)) := fun q2 hq b q' hb =>
  ⟨hown b _ hb, hu.other b fun hB => hq q' (hB ▸ hb)⟩
 intro p
 induction p with
 | nil =>
  intro t q b o vs hb h ha hbo hlt _ hn hl cn
  simp only [T.nav, Y89] at hn
  subst hn
  have hl' : (b, o) = (B, O) := by cases t <;> simpa [bp] using hl
  obtain ⟨rfl, rfl⟩ := Prod.mk.inj hl'
  by_cases hta : ∃ cs, t = .a cs
  ·obtain ⟨cs, rfl⟩ := hta
   simp only [T.cells] at hT
   simp only [rep] at h
   have hvl := Zf8 h
   refine ⟨bC vs off gJ, ?_, ?_, Zjq _ _ _ (by omega), (fun ⟨_, _, _, e⟩ => by cases e), .inl ⟨rfl, by omega, by omega⟩⟩
   ·simp only [T.put, T.bO, T.cells, rep]
    refine Zfa (by rw [Zjq _ _ _ (by omega), Zjq _ _ _ hT, hvl]) fun j x v hx hv => ?_
    rw [Zjp _ _ _ hT] at hx
    rw [Zjp _ _ _ (by omega), hlen] at hv
    rw [Y83, Zdc]
    by_cases hj : off <= j /\ j < off + dU.length
    ·rw [if_pos hj] at hx hv
     have := cn (j - off) x v hx hv
     simp only [gD, Y22] at this
     rw [show off + (j - off) = j by omega] at this
     exact this
    ·rw [if_neg hj] at hx hv
     obtain ⟨v', hv', hr⟩ := Zf7 h hx
     rw [Y83, Zdc] at hr
     have : v' = v := by rw [hv'] at hv; exact Option.some.inj hv
     subst this
     refine Zg1 hzs x (other _ fun h' hB => ?_) hr
     rw [hbo] at hB
     have := (Ow.own.inj hB).2
     have := congrArg List.length this
     rcases hlt with hlt | ⟨_, hlt⟩ <;> simp at this <;> omega
   ·intro j v hv
    rw [Zjp _ _ _ (by omega)] at hv
    by_cases hj : off <= j /\ j < off + gJ.length
    ·rw [if_pos hj] at hv
     have := hu.new hv
     rw [show o + off + (j - off) = o + j by omega] at this
     exact this
    ·rw [if_neg hj] at hv
     rw [hu.cell (fun _ => by omega)]
     exact ha j v hv
  ·have qv : ∀ cs, t ≠ .a cs := fun cs e => hta ⟨cs, e⟩
   have bA : t.cells = [t] := by cases t <;> first | rfl | exact absurd rfl (qv _)
   rw [bA] at hT
   have hnl : dU.length = 1 /\ off = 0 := by
    have : 0 < dU.length := Y47.2 hne
    simp at hT; omega
   obtain ⟨hn1, rfl⟩ := hnl
   obtain ⟨x, rfl⟩ := Y43.1 hn1
   obtain ⟨v, rfl⟩ := Y43.1 (hlen.trans hn1)
   have hv1 := Zfz h qv
   refine ⟨[v], ?_, ?_, by simp [hv1], fun _ e => absurd rfl e, .inl ⟨rfl, by omega, by simp [hv1]⟩⟩
   ·have h1 := cn 0 x v rfl rfl
    have hcl : gD t r (q ++ []) (0 + 0) = some (r, q) := by cases t <;> first | exact absurd rfl (qv _) | simp [gD]
    rw [hcl] at h1
    have fX : t.put [] (t.bO (bC t.cells 0 [x])) = x := by
     rw [bA]
     cases t <;> first | rfl | exact absurd rfl (qv _)
    rw [fX]
    exact h1
   ·intro j u hj
    have := hu.new (j := j) hj
    rw [Y75] at this
    exact this
 | cons k p ih =>
  intro t q b o vs hb h ha hbo hlt hm hn hl cn
  cases t <;> simp only [T.nav, T.kid, Y85, reduceCtorEq] at hn
  case a cs =>
   obtain ⟨t', ht', hn⟩ := Y84.1 hn
   simp only [T.cb, ht'] at hm
   simp only [bp, ht'] at hl
   simp only [rep] at h
   have hvl := Zf8 h
   obtain ⟨v, hv, hr⟩ := Zf7 h ht'
   rw [Y83, Zdc] at hr
   have ha' : At w b (o + k) [v] := fun j u hu => by
    cases j with
    | zero => simp at hu; subst hu; exact ha k v hv
    | succ j => simp at hu
   have hk : k < cs.length := (Y36.1 ht').1
   have L9 : hb.length <= q.length := by rcases hlt with hlt | ⟨_, hlt⟩ <;> omega
   obtain ⟨vs', h1, h2, h3, h4, h5⟩ := ih t' hr ha' hbo (.inl (by simp; omega)) hm hn hl (fun j x v hx hv => by
    have := cn j x v hx hv
    rw [Y21]
    exact this)
   obtain ⟨v', rfl⟩ : ∃ v', vs' = [v'] := Y43.1 h3
   refine ⟨vs.set k v', ?_, ?_, by simp, (fun ⟨_, _, _, e⟩ => by cases e), ?_⟩
   ·simp only [T.put, T.kid, ht', T.aZ, rep]
    refine Zfa (by simp [hvl]) fun j x u hx hu' => ?_
    rw [Y83, Zdc]
    by_cases hj : j = k
    ·subst hj
     rw [Y39 hk] at hx
     rw [Y39 (by omega)] at hu'
     simp at hx hu'
     subst hx hu'
     exact h1
    ·rw [Y38 (Ne.symm hj)] at hx hu'
     obtain ⟨u', KO, hr'⟩ := Zf7 h hx
     rw [Y83, Zdc] at hr'
     have : u' = u := by rw [KO] at hu'; exact Option.some.inj hu'
     subst this
     refine Zg1 hzs x (other _ fun h' hB => ?_) hr'
     rcases h5 with ⟨hBb, _⟩ | ⟨_, h6, hB'⟩
     ·subst hBb
      rw [hbo] at hB
      have := congrArg List.length (Ow.own.inj hB).2
      simp at this; omega
     ·rw [hB] at hB'
      have h7 := (Ow.own.inj hB').2
      rw [Y21, Y21] at h7
      have h8 := List.append_cancel_left h7
      simp at h8
      exact hj h8.1
   ·intro j u hj
    by_cases hjk : j = k
    ·subst hjk
     rw [Y39 (by omega)] at hj
     simp at hj
     subst hj
     simpa using h2 0 v' rfl
    ·rw [Y38 (Ne.symm hjk)] at hj
     rw [hu.cell (fun e => by
      rcases h5 with ⟨hBb, h6, h7⟩ | ⟨hBb, _⟩
      ·simp at h7; omega
      ·exact absurd e.symm hBb)]
     exact ha j u hj
   ·rcases h5 with ⟨h6, h7, h8⟩ | ⟨h6, h7, h8⟩
    ·exact .inl ⟨h6, by omega, by simp at h8; omega⟩
    ·exact .inr ⟨h6, [k] ++ h7, by rw [h8, Y21]⟩
  case l ob sz es =>
   obtain ⟨t', ht', hn⟩ := Y84.1 hn
   have lO : es ≠ [] := by intro he; subst he; simp at ht'
   simp only [T.cb, ht', Y2] at hm
   obtain ⟨hob, hm⟩ := hm
   have gK : Ob.loc ob (some (r, q)) = some (r, q) := by simp [Ob.loc, hob]
   have h' := h
   simp only [rep] at h'
   obtain ⟨h0, A, cap, rfl, hc, hmv, cM⟩ := h'
   have bD := (ha.cons).1
   cases A with
   | none => simp only at cM; subst cM; exact absurd (Y44.1 (Nat.le_zero.1 hc)) lO
   | some ad =>
    obtain ⟨hs, hbk, arr, ty, fr, vs', hh, hfr, hvs, hes⟩ := cM (.inr lO)
    rw [gK] at hbk hes
    simp only [Loc.ow] at hbk
    simp only [bp, bD, ht'] at hl
    obtain ⟨v1, hl1, hr, hv⟩ := Zfh hes ht'
    rw [Y83, Zdc] at hr
    have ha' : At w ad.block (ad.off + k * sz) v1 := fun j u hu => by
     rw [Z2h hh, Y74]
     exact hvs _ _ (hv j u hu)
    obtain ⟨v1', h1, h2, h3, _, h5⟩ := ih t' hr ha' hbk (.inl (by simp)) hm hn hl (fun j x v hx hv => by
     have := cn j x v hx hv
     rw [Y21]
     exact this)
    have lP : ad.block ≠ b := by
     intro e
     rw [e, hbo] at hbk
     have := congrArg List.length (Ow.own.inj hbk).2
     rcases hlt with hlt | ⟨⟨cs, e'⟩, _⟩
     ·omega
     ·cases e'
    have hBb : B ≠ b := by
     rcases h5 with ⟨h6, _⟩ | ⟨_, h7, h8⟩
     ·rw [h6]; exact lP
     ·intro e
      rw [e, hbo] at h8
      have := congrArg List.length (Ow.own.inj h8).2
      rcases hlt with hlt | ⟨⟨cs, e'⟩, _⟩
      ·simp at this; omega
      ·cases e'
    have hk : k < es.length := (Y36.1 ht').1
    have hvl := Zfi hes
    obtain ⟨cW, hh', ph, An⟩ : ∃ cW, w'.heap[ad.block]? = some (.cells cW ty fr) /\ cW.size = arr.size /\
      ∀ j u, (j < ad.off + k * sz \/ ad.off + k * sz + sz <= j) -> arr[j]? = some u -> cW[j]? = some u := by
     by_cases hB : ad.block = B
     ·obtain ⟨a1, a2, ty', fr', h6, h7, h8, h9⟩ := hu.blk
      rw [<- hB, hh] at h6
      cases h6
      refine ⟨a2, hB ▸ h7, h8, fun j u hj hu' => ?_⟩
      rw [h9, if_neg]
      ·exact hu'
      ·rcases h5 with ⟨_, h10, h11⟩ | ⟨h10, _⟩
       ·rw [hl1] at h11; omega
       ·exact absurd hB.symm h10
     ·exact ⟨arr, (hu.other _ hB).trans hh, rfl, fun _ _ _ h => h⟩
    refine ⟨[.slice (some ad) es.length cap], ?_, ?_, rfl, fun _ _ => rfl, .inr ⟨hBb, ?_⟩⟩
    ·simp only [T.put, T.kid, ht', T.aZ, rep]
     refine ⟨h0, some ad, cap, by simp, by simpa using hc, fun k' hk' => by simpa using hmv k' hk', fun _ => ⟨hs, ?_, cW, ty, fr, bC vs' (k * sz) v1', hh', ?_, ?_, ?_⟩⟩
     ·rw [gK]; exact hown _ _ hbk
     ·intro x; exact ⟨by rw [ph]; exact (hfr x).1, by rw [ph]; exact (hfr x).2⟩
     ·have hle : k * sz + v1'.length <= vs'.length := by
       rw [h3, hl1, hvl]
       have : (k + 1) * sz <= es.length * sz := Y80 _ hk
       rw [Y82] at this; exact this
      intro j u hj
      rw [Zjp _ _ _ hle, h3, hl1] at hj
      by_cases hj' : k * sz <= j /\ j < k * sz + sz
      ·rw [if_pos hj'] at hj
       have := h2 _ u hj
       rw [Z2h hh'] at this
       rw [<- this]; congr 1; omega
      ·rw [if_neg hj'] at hj
       exact An _ u (by omega) (hvs j u hj)
     ·rw [gK]
      have hle : k * sz + v1'.length <= vs'.length := by
       rw [h3, hl1, hvl]
       have : (k + 1) * sz <= es.length * sz := Y80 _ hk
       rw [Y82] at this; exact this
      refine Zfc hes (by simp) (Zjq _ _ _ hle) fun j t2 v2 hj hl2 hr2 hv2 => ?_
      rw [Y83, Zdc] at hr2 ⊢
      have idx : ∀ i, i < sz -> (k * sz <= j * sz + i /\ j * sz + i < k * sz + sz <-> j = k) := fun i hi => by
       constructor
       ·rintro ⟨a1, a2⟩
        rcases Nat.lt_trichotomy j k with h | h | h
        ·have : (j + 1) * sz <= k * sz := Y80 _ h
         rw [Y82] at this; omega
        ·exact h
        ·have : (k + 1) * sz <= j * sz := Y80 _ h
         rw [Y82] at this; omega
       ·rintro rfl; omega
      by_cases hjk : j = k
      ·subst hjk
       refine ⟨_, v1', Y39 hk, by omega, h1, fun i u hi => ?_⟩
       have hi' : i < sz := by have := (Y36.1 hi).1; omega
       rw [Zjp _ _ _ hle, h3, hl1, if_pos (by omega)]
       rw [show j * sz + i - j * sz = i by omega]
       exact hi
      ·refine ⟨t2, v2, by rw [Y38 (Ne.symm hjk)]; exact hj, hl2, Zg1 hzs t2 (other _ fun h' hB => ?_) hr2, fun i u hi => ?_⟩
       ·rcases h5 with ⟨h6, _⟩ | ⟨_, h7, h8⟩
        ·rw [h6, hbk] at hB
         have := congrArg List.length (Ow.own.inj hB).2
         simp at this
        ·rw [hB] at h8
         have h9 := (Ow.own.inj h8).2
         rw [Y21, Y21] at h9
         have h10 := List.append_cancel_left h9
         simp at h10
         exact hjk h10.1
       ·have hi' : i < sz := by have := (Y36.1 hi).1; omega
        rw [Zjp _ _ _ hle, h3, hl1, if_neg (fun hx => hjk ((idx i hi').1 hx))]
        exact hv2 i u hi
    ·intro j u hj
     cases j with
     | zero =>
      simp at hj
      subst hj
      rw [Y75, hu.cell (fun e => absurd e.symm hBb)]
      exact bD
     | succ j => simp at hj
    ·rcases h5 with ⟨h6, _⟩ | ⟨_, h7, h8⟩
     ·exact ⟨[], by rw [h6, hbk]; simp⟩
     ·exact ⟨[k] ++ h7, by rw [h8, Y21]⟩
end
end Go.Wr
namespace Go.Wr
section
variable {tab : Nat -> FuncId} {mv : Nat -> Value} {w w' : World} {ow ow' : Nat -> Ow}
theorem Za9 (hz : ∀ b, ow b = .z -> w'.heap[b]? = w.heap[b]?) : ∀ (p : List Nat) (t : T) {c : Loc} {vs : List Value} {b o : Nat},
  (∀ r q, c = some (r, q) -> ∀ b q', ow b = .own r (q ++ q') -> w'.heap[b]? = w.heap[b]?) ->
  rep tab mv w ow c t vs -> At w b o vs -> w'.heap[b]? = w.heap[b]? -> bp w' t b o p = bp w t b o p
 | [], t, _, _, _, _, _, _, _, _ => by cases t <;> rfl
 | k :: p, t, c, vs, b, o, hc, h, ha, hb => by
  cases t <;> try rfl
  case a cs =>
   simp only [bp]
   cases ht : cs[k]? with
   | none => rfl
   | some t' =>
    simp only
    simp only [rep] at h
    obtain ⟨v, hv, hr⟩ := Zf7 h ht
    refine Za9 hz p t' (fun r q hq b' q' hb' => ?_) hr (fun j u hj => ?_) hb
    ·rcases c with _ | ⟨r0, q0⟩
     ·cases hq
     ·simp only [Zdc, Y89, Y90] at hq
      obtain ⟨rfl, rfl⟩ := hq
      exact hc _ _ rfl b' ((0 + k) :: q') (by simpa using hb')
    ·cases j with
     | zero => simp at hj; subst hj; exact ha k v hv
     | succ j => simp at hj
  case l ob sz es =>
   simp only [bp]
   have bD : w'.cell? ⟨b, o, none⟩ = w.cell? ⟨b, o, none⟩ := by simp only [World.cell?, hb]
   rw [bD]
   cases ht : es[k]? with
   | none => split <;> simp_all
   | some t' =>
    have hne : es ≠ [] := by intro he; subst he; simp at ht
    obtain ⟨ad, cap, rfl, _, _, hbk, arr, ty, fr, vs', hh, _, hvs, hes⟩ := Zfv h hne
    have bD := (ha.cons).1
    simp only [bD]
    obtain ⟨v1, _, hr, hv⟩ := Zfh hes ht
    have hc' : ∀ r q, Ob.loc ob c = some (r, q) -> ∀ b q', ow b = .own r (q ++ q') -> w'.heap[b]? = w.heap[b]? := fun r q hq => by
     unfold Ob.loc at hq
     split at hq
     ·exact hc r q hq
     ·cases hq
    refine Za9 hz p t' (fun r q hq b' q' hb' => ?_) hr (fun j u hj => ?_) ?_
    ·rcases hob : Ob.loc ob c with _ | ⟨r0, q0⟩
     ·rw [hob] at hq; cases hq
     ·rw [hob] at hq
      simp only [Zdc, Y89, Y90] at hq
      obtain ⟨rfl, rfl⟩ := hq
      exact hc' _ _ hob b' ((0 + k) :: q') (by simpa using hb')
    ·rw [Z2h hh, Y74]
     exact hvs _ _ (hv j u hj)
    ·rcases hob : Ob.loc ob c with _ | ⟨r0, q0⟩
     ·rw [hob] at hbk; exact hz _ hbk
     ·rw [hob] at hbk; exact hc' _ _ hob _ [] (by simpa [Loc.ow] using hbk)
theorem Za4 : ∀ (p : List Nat) (t : T) {c : Loc} {vs : List Value} {b o b' o' : Nat}, rep tab mv w ow c t vs -> At w b o vs -> bp w t b o p = some (b', o') ->
  b' = b \/ ow b' = .z \/ ∃ r q q', c = some (r, q) /\ ow b' = .own r (q ++ q')
 | [], t, _, _, _, _, _, _, _, _, hl => by
  have : bp w t _ _ [] = _ := hl
  cases t <;> simp only [bp, Y89, Y90] at this <;> exact .inl this.1.symm
 | k :: p, t, c, vs, b, o, b', o', h, ha, hl => by
  cases t <;> simp only [bp, reduceCtorEq] at hl
  case a cs =>
   split at hl <;> rename_i he
   ·simp only [rep] at h
    obtain ⟨v, hv, hr⟩ := Zf7 h he
    rcases Za4 p _ hr (fun j u hj => by
     cases j with
     | zero => simp at hj; subst hj; exact ha k v hv
     | succ j => simp at hj) hl with h1 | h1 | ⟨r, q, q', h1, h2⟩
    ·exact .inl h1
    ·exact .inr (.inl h1)
    ·rcases c with _ | ⟨r0, q0⟩
     ·cases h1
     ·simp only [Zdc, Y89, Y90] at h1
      obtain ⟨rfl, rfl⟩ := h1
      exact .inr (.inr ⟨_, _, [0 + k] ++ q', rfl, by rw [h2, Y21]⟩)
   ·cases hl
  case l ob sz es =>
   split at hl <;> rename_i he1 he2
   ·rename_i ad N C t'
    have hne : es ≠ [] := by intro he; subst he; simp at he2
    obtain ⟨ad', cap, rfl, _, _, hbk, arr, ty, fr, vs', hh, _, hvs, hes⟩ := Zfv h hne
    have bD := (ha.cons).1
    rw [bD] at he1
    cases he1
    obtain ⟨v1, _, hr, hv⟩ := Zfh hes he2
    have h3 : ow ad.block = .z \/ ∃ r q q', c = some (r, q) /\ ow ad.block = .own r (q ++ q') := by
     unfold Ob.loc at hbk
     split at hbk
     ·rcases c with _ | ⟨r0, q0⟩
      ·exact .inl hbk
      ·exact .inr ⟨r0, q0, [], rfl, by simpa [Loc.ow] using hbk⟩
     ·exact .inl hbk
    rcases Za4 p _ hr (fun j u hj => by rw [Z2h hh, Y74]; exact hvs _ _ (hv j u hj)) hl with h1 | h1 | ⟨r, q, q', h1, h2⟩
    ·rw [h1]; exact .inr h3
    ·exact .inr (.inl h1)
    ·unfold Ob.loc at h1
     split at h1
     ·rcases c with _ | ⟨r0, q0⟩
      ·cases h1
      ·simp only [Zdc, Y89, Y90] at h1
       obtain ⟨rfl, rfl⟩ := h1
       exact .inr (.inr ⟨_, _, [0 + k] ++ q', rfl, by rw [h2, Y21]⟩)
     ·cases h1
   ·cases hl
end
section
variable {X : Cx} {U : Nat -> Prop} {J : Nat} {σ σ' : St} {a a' : Act} {w w' : World} {ow ow' : Nat -> Ow}
structure aQ (U : Nat -> Prop) (σ : St) (a : Act) (w : World) (σ' : St) (a' : Act) (w' : World) (r : Nat) : Prop where
 ptr : ∀ (k : K) p bo c', U k.e -> U k.h -> U k.d -> (σ' r).rc = some c' -> c'.k.ok k (fh c'.bi p) = true -> place w' c' (aK a' r) p = some bo ->
  ∃ c, (σ r).rc = some c /\ c.k.ok k (fh c.bi p) = true /\ place w c (aK a r) p = some bo
 view : ∀ (k : K) p o' sz es' A N C c', U k.e -> U k.h -> U k.d -> (σ' r).rc = some c' -> c'.k.ok k (dl c'.bi p) = true -> c'.t.nav p = some (.l o' sz es') ->
  hdr w' c' (aK a' r) p = some (.slice A N C) ->
  ∃ c o es, (σ r).rc = some c /\ c.k.ok k (dl c.bi p) = true /\ c.t.nav p = some (.l o sz es) /\ es.length = es'.length /\ hdr w c (aK a r) p = some (.slice A N C)
 str : ∀ (k : K) p cs' c', U k.e -> U k.h -> U k.d -> (σ' r).rc = some c' -> c'.k.ok k (dl c'.bi p) = true -> c'.t.nav p = some (.a cs') ->
  ∃ c cs, (σ r).rc = some c /\ c.k.ok k (dl c.bi p) = true /\ c.t.nav p = some (.a cs)
theorem aQ.BL {r : Nat} (h : aQ U σ a w σ' a' w' r) {k : K} {p : List Nat} {off : Nat} {v : Value} (h1 : U k.e) (h2 : U k.h) (h3 : U k.d)
  (hp : l9 σ a w r k p off v) : l9 σ' a' w' r k p off v := ⟨hp.1, fun c' hc' hk bo hbo => by
 obtain ⟨c, hc, hk', KP⟩ := h.ptr k p bo c' h1 h2 h3 hc' hk hbo
 exact hp.2 c hc hk' bo KP⟩
theorem aQ.iu {r : Nat} (h : aQ U σ a w σ' a' w' r) {k : K} {p : List Nat} {z lo n : Nat} {v : Value} (h1 : U k.e) (h2 : U k.h) (h3 : U k.d)
  (hp : dc σ a w r k p z lo n v) : dc σ' a' w' r k p z lo n v := ⟨hp.1, fun c' hc' hk => ⟨fun cs' hn => by
  obtain ⟨c, cs, hc, hk', hn'⟩ := h.str k p cs' c' h1 h2 h3 hc' hk hn
  exact (hp.2 c hc hk').1 cs hn', fun o' sz es' hn A N C hhv => by
  obtain ⟨c, o, es, hc, hk', hn', hl', KQ⟩ := h.view k p o' sz es' A N C c' h1 h2 h3 hc' hk hn hhv
  rw [<- hl']
  exact (hp.2 c hc hk').2 o sz es hn' A N C KQ⟩⟩
theorem K.Ao {c k : K} {n : Nat} (h : c.ok k n = true) : c.e = k.e := by
 unfold K.ok at h
 split at h <;> simp at h
 ·exact h
 ·exact h.1
 ·exact h.1.1
theorem aQ.fresh {r : Nat} (h : ∀ c', (σ' r).rc = some c' -> ¬ U c'.k.e) : aQ U σ a w σ' a' w' r :=
 ⟨fun k p bo c' h1 _ _ hc hk _ => absurd (K.Ao hk ▸ h1) (h c' hc), fun k p o' sz es' A N C c' h1 _ _ hc hk _ _ => absurd (K.Ao hk ▸ h1) (h c' hc),
  fun k p cs' c' h1 _ _ hc hk _ => absurd (K.Ao hk ▸ h1) (h c' hc)⟩
theorem aQ.trans {σ'' : St} {a'' : Act} {w'' : World} {r : Nat} (h : aQ U σ a w σ' a' w' r) (h' : aQ U σ' a' w' σ'' a'' w'' r) : aQ U σ a w σ'' a'' w'' r where
 ptr := fun k p bo c'' h1 h2 h3 hc hk hp => by
  obtain ⟨c', hc', hk', hp'⟩ := h'.ptr k p bo c'' h1 h2 h3 hc hk hp
  exact h.ptr k p bo c' h1 h2 h3 hc' hk' hp'
 view := fun k p o' sz es' A N C c'' h1 h2 h3 hc hk hn hh => by
  obtain ⟨c', o1, es1, hc', hk', hn', hl', hh'⟩ := h'.view k p o' sz es' A N C c'' h1 h2 h3 hc hk hn hh
  obtain ⟨c, o2, es2, hc2, hk2, hn2, hl2, hh2⟩ := h.view k p o1 sz es1 A N C c' h1 h2 h3 hc' hk' hn' hh'
  exact ⟨c, o2, es2, hc2, hk2, hn2, hl2.trans hl', hh2⟩
 str := fun k p cs' c'' h1 h2 h3 hc hk hn => by
  obtain ⟨c', cs1, hc', hk', hn'⟩ := h'.str k p cs' c'' h1 h2 h3 hc hk hn
  exact h.str k p cs1 c' h1 h2 h3 hc' hk' hn'
theorem Zd4 {r : Nat} {c : RC} {v : Value} (hc : (σ r).rc = some c) (hs : aP X σ a w ow r (σ r) v) (hz : ∀ b, ow b = .z -> w'.heap[b]? = w.heap[b]?)
  (ho : ∀ b q, ow b = .own (.sl r) q -> w'.heap[b]? = w.heap[b]?) (p : List Nat) : place w' c v p = place w c v p := by
 rcases hσ : σ r with _ | _ | ⟨k, t⟩ | _ | _ | ⟨k, cs⟩ | _ | _ | _ <;> rw [hσ] at hc hs <;> simp only [AV.rc, reduceCtorEq, Y89] at hc
 ·subst hc
  simp only [aP] at hs
  obtain ⟨⟨o, sz, es, rfl, hown⟩, hr⟩ := hs
  cases p with
  | nil => cases v <;> first | rfl | (rename_i A _ _; cases A <;> rfl)
  | cons i p =>
   cases ht : es[i]? with
   | none => cases v <;> first | rfl | (rename_i A _ _; cases A <;> simp only [place, cG, ht])
   | some t =>
    have hne : es ≠ [] := by intro he; subst he; simp at ht
    obtain ⟨ad, cap, hv, _, _, hbk, arr, ty, fr, vs', hh, _, hvs, hes⟩ := Zfv hr hne
    obtain rfl : v = .slice (some ad) es.length cap := by simpa using hv
    simp only [place, cG, ht]
    obtain ⟨v1, _, hr1, hv1⟩ := Zfh hes ht
    have hl : Ob.loc o (some (aH.sl r, [])) = some (aH.sl r, []) := by simp [Ob.loc, hown]
    rw [hl] at hbk hr1
    refine Za9 hz p t (fun r' q hq b q' hb => ?_) hr1 (fun j u hj => ?_) (ho _ _ hbk)
    ·simp only [Zdc, Y89, Y90] at hq
     obtain ⟨rfl, rfl⟩ := hq
     exact ho b _ hb
    ·rw [Z2h hh, Y74]; exact hvs _ _ (hv1 j u hj)
 ·subst hc
  simp only [aP] at hs
  obtain ⟨b, arr, ty, fr, rfl, hb, hh, _, hr⟩ := hs
  simp only [place]
  refine Za9 (c := some (.sl r, [])) hz p (.a cs) (fun r' q hq b q' hb => ?_) (by simp only [rep]; exact hr) (Z13 hh) (ho _ _ hb)
  simp only [Y89, Y90] at hq
  obtain ⟨rfl, rfl⟩ := hq
  exact ho b _ hb
theorem Zgj {r : Nat} {c : RC} {v : Value} (hc : (σ r).rc = some c) (hs : aP X σ a w ow r (σ r) v) {p : List Nat} {node : T} (hn : c.t.nav p = some node)
  (hp : c.bi = true \/ p ≠ []) : ∃ b o vs, place w c v p = some (b, o) /\ At w b o vs /\ rep X.tab X.mv w ow (c.t.cq (some (.sl r, [])) p) node vs := by
 rcases hσ : σ r with _ | _ | ⟨k, t⟩ | _ | _ | ⟨k, cs⟩ | _ | _ | _ <;> rw [hσ] at hc hs <;> simp only [AV.rc, reduceCtorEq, Y89] at hc
 ·subst hc
  simp only [aP] at hs
  obtain ⟨⟨o, sz, es, rfl, hown⟩, hr⟩ := hs
  cases p with
  | nil => simp at hp
  | cons i p =>
   simp only [T.nav, T.kid] at hn
   obtain ⟨t, ht, hn⟩ := Y84.1 hn
   have hne : es ≠ [] := by intro he; subst he; simp at ht
   obtain ⟨ad, cap, hv, _, _, hbk, arr, ty, fr, vs', hh, _, hvs, hes⟩ := Zfv hr hne
   obtain rfl : v = .slice (some ad) es.length cap := by simpa using hv
   obtain ⟨v1, _, hr1, hv1⟩ := Zfh hes ht
   rw [Y83] at hr1
   obtain ⟨b', o', pg, h1, h2, h3⟩ := Zab p t hr1 (b := ad.block) (o := ad.off + i * sz) (fun j u hj => by
    rw [Z2h hh, Y74]; exact hvs _ _ (hv1 j u hj)) hn
   exact ⟨b', o', pg, by simp only [place, cG, ht, h1], h2, by simp only [T.cq, ht]; exact h3⟩
 ·subst hc
  simp only [aP] at hs
  obtain ⟨b, arr, ty, fr, rfl, hb, hh, _, hr⟩ := hs
  obtain ⟨b', o', pg, h1, h2, h3⟩ := Zab p (.a cs) (c := some (.sl r, [])) (by simp only [rep]; exact hr) (Z13 hh) hn
  exact ⟨b', o', pg, by simp only [place, h1], h2, h3⟩
theorem Zgh {r : Nat} {c : RC} {v : Value} (hc : (σ r).rc = some c) (hs : aP X σ a w ow r (σ r) v) {p : List Nat} {o : Ob} {sz : Nat} {es : List T}
  (hn : c.t.nav p = some (.l o sz es)) : ∃ hv, hdr w c v p = some hv /\ rep X.tab X.mv w ow (c.t.cq (some (.sl r, [])) p) (.l o sz es) [hv] := by
 by_cases hp : c.bi = true \/ p ≠ []
 ·obtain ⟨b, o', vs, h1, h2, h3⟩ := Zgj hc hs hn hp
  obtain ⟨A, cap, rfl, _, _⟩ := Zfu h3
  refine ⟨_, ?_, h3⟩
  unfold hdr
  rw [if_neg (by
   rcases hp with hp | hp
   ·simp [hp]
   ·cases p <;> simp at hp ⊢), h1]
  exact (h2.cons).1
 ·have h1 : c.bi = false := by cases h : c.bi <;> simp [h] at hp ⊢
  have h2 : p = [] := by
   cases p with
   | nil => rfl
   | cons => simp at hp
  subst h2
  refine ⟨v, by simp [hdr, h1], ?_⟩
  rcases hσ : σ r with _ | _ | ⟨k, t⟩ | _ | _ | ⟨k, cs⟩ | _ | _ | _ <;> rw [hσ] at hc hs <;> simp only [AV.rc, reduceCtorEq, Y89] at hc
  ·subst hc
   simp only [aP] at hs
   simp only [T.nav, Y89] at hn
   obtain ⟨⟨o', sz', es', rfl, hown⟩, hr⟩ := hs
   cases hn
   exact hr
  ·subst hc; cases h1
theorem Zd1 {r : Nat} {c : RC} {v : Value} (hc : (σ r).rc = some c) (hs : aP X σ a w ow r (σ r) v) {p : List Nat} {bo : Nat × Nat} (hp : place w c v p = some bo) :
  ow bo.1 = .z \/ ∃ q, ow bo.1 = .own (.sl r) q := by
 obtain ⟨b', o'⟩ := bo
 rcases hσ : σ r with _ | _ | ⟨k, t⟩ | _ | _ | ⟨k, cs⟩ | _ | _ | _ <;> rw [hσ] at hc hs <;> simp only [AV.rc, reduceCtorEq, Y89] at hc
 ·subst hc
  simp only [aP] at hs
  obtain ⟨⟨o, sz, es, rfl, hown⟩, hr⟩ := hs
  cases p with
  | nil => cases v <;> first | (simp only [place, reduceCtorEq] at hp; done) | (rename_i A _ _; cases A <;> simp only [place, cG, reduceCtorEq] at hp)
  | cons i p =>
   cases ht : es[i]? with
   | none => cases v <;> first | (simp only [place, reduceCtorEq] at hp; done) | (rename_i A _ _; cases A <;> simp only [place, cG, ht, reduceCtorEq] at hp)
   | some t =>
    have hne : es ≠ [] := by intro he; subst he; simp at ht
    obtain ⟨ad, cap, hv, _, _, hbk, arr, ty, fr, vs', hh, _, hvs, hes⟩ := Zfv hr hne
    obtain rfl : v = .slice (some ad) es.length cap := by simpa using hv
    simp only [place, cG, ht] at hp
    obtain ⟨v1, _, hr1, hv1⟩ := Zfh hes ht
    have hl : Ob.loc o (some (aH.sl r, [])) = some (aH.sl r, []) := by simp [Ob.loc, hown]
    rw [hl] at hbk hr1
    rcases Za4 p t hr1 (fun j u hj => by rw [Z2h hh, Y74]; exact hvs _ _ (hv1 j u hj)) hp with h1 | h1 | ⟨r', q, q', h1, h2⟩
    ·exact .inr ⟨_, h1 ▸ hbk⟩
    ·exact .inl h1
    ·simp only [Zdc, Y89, Y90] at h1
     obtain ⟨rfl, rfl⟩ := h1
     exact .inr ⟨_, h2⟩
 ·subst hc
  simp only [aP] at hs
  obtain ⟨b, arr, ty, fr, rfl, hb, hh, _, hr⟩ := hs
  simp only [place] at hp
  rcases Za4 p (.a cs) (c := some (.sl r, [])) (by simp only [rep]; exact hr) (Z13 hh) hp with h1 | h1 | ⟨r', q, q', h1, h2⟩
  ·exact .inr ⟨_, h1 ▸ hb⟩
  ·exact .inl h1
  ·simp only [Y89, Y90] at h1
   obtain ⟨rfl, rfl⟩ := h1
   exact .inr ⟨_, h2⟩
theorem Z80 {r : Nat} {c : RC} {v : Value} (hc : (σ r).rc = some c) (hs : aP X σ a w ow r (σ r) v) (hz : ∀ b, ow b = .z -> w'.heap[b]? = w.heap[b]?)
  (ho : ∀ b q, ow b = .own (.sl r) q -> w'.heap[b]? = w.heap[b]?) {p : List Nat} {o : Ob} {sz : Nat} {es : List T} (hn : c.t.nav p = some (.l o sz es)) : hdr w' c v p = hdr w c v p := by
 unfold hdr
 split
 ·rfl
 ·rw [Zd4 hc hs hz ho p]
  cases hp : place w c v p with
  | none => rfl
  | some bo =>
   simp only
   have hb : ow bo.1 = .z \/ ∃ q, ow bo.1 = .own (.sl r) q := Zd1 hc hs hp
   have hh : w'.heap[bo.1]? = w.heap[bo.1]? := by
    rcases hb with hb | ⟨q, hb⟩
    ·exact hz _ hb
    ·exact ho _ _ hb
   simp only [World.cell?, hh]
end
end Go.Wr
namespace Go.Wr
section
variable {tab : Nat -> FuncId} {mv : Nat -> Value} {w w' : World} {ow ow' : Nat -> Ow}
theorem Ze1 (hz : Zs w ow w' ow') {node cv : T} : ∀ (p : List Nat) (t : T) {c : Loc} {vs : List Value}, rep tab mv w ow c t vs -> t.nav p = some node ->
  (∀ vs', rep tab mv w ow (t.cq c p) node vs' -> rep tab mv w' ow' (t.cq c p) cv vs') ->
  (∀ r q, c = some (r, q) -> ∀ b q', ow b = .own r (q ++ q') -> ¬ p <+: q' -> ow' b = .own r (q ++ q') /\ w'.heap[b]? = w.heap[b]?) ->
  rep tab mv w' ow' c (t.put p cv) vs
 | [], t, c, vs, h, hn, cn, _ => by
  simp only [T.nav, Y89] at hn
  subst hn
  have := cn vs (by cases t <;> exact h)
  cases t <;> exact this
 | k :: p, t, c, vs, h, hn, cn, dn => by
  have sib : ∀ j, j ≠ k -> Tr w ow w' ow' (c.push j) (c.push j) := fun j hj => by
   rcases c with _ | ⟨r, q⟩
   ·trivial
   ·intro b q' hb
    have hb' : ow b = .own r (q ++ (j :: q')) := by rw [hb]; simp
    obtain ⟨h1, h2⟩ := dn r q rfl b (j :: q') hb' (by simp [Ne.symm hj])
    exact ⟨by rw [h1]; simp, h2⟩
  have down : ∀ r q, c.push k = some (r, q) -> ∀ b q', ow b = .own r (q ++ q') -> ¬ p <+: q' -> ow' b = .own r (q ++ q') /\ w'.heap[b]? = w.heap[b]? := fun r q hq b q' hb hpq => by
   rcases c with _ | ⟨r0, q0⟩
   ·cases hq
   ·simp only [Zdc, Y89, Y90] at hq
    obtain ⟨rfl, rfl⟩ := hq
    have hb' : ow b = .own r0 (q0 ++ (k :: q')) := by rw [hb]; simp
    obtain ⟨h1, h2⟩ := dn r0 q0 rfl b (k :: q') hb' (by simpa using hpq)
    exact ⟨by rw [h1]; simp, h2⟩
  cases t <;> simp only [T.nav, T.kid, Y85, reduceCtorEq] at hn
  case a cs =>
   obtain ⟨t', ht', hn2⟩ := Y84.1 hn
   simp only [T.cq, ht'] at cn
   simp only [rep] at h
   have hvl := Zf8 h
   have hk : k < cs.length := (Y36.1 ht').1
   simp only [T.put, T.kid, ht', T.aZ, rep]
   refine Zfa (by simp [hvl]) fun j x u hx hu => ?_
   obtain ⟨u', hu', hr⟩ : ∃ u', vs[j]? = some u' /\ ∀ y, cs[j]? = some y -> rep tab mv w ow (c.push (0 + j)) y [u'] := by
    obtain ⟨y, hy⟩ : ∃ y, cs[j]? = some y := by
     have := (Y36.1 hx).1
     exact ⟨_, Y34 (by simpa using this)⟩
    obtain ⟨u', h1, h2⟩ := Zf7 h hy
    exact ⟨u', h1, fun y' hy' => by rw [hy] at hy'; cases hy'; exact h2⟩
   rw [hu'] at hu
   cases hu
   rw [Y83] at hr ⊢
   by_cases hj : j = k
   ·subst hj
    rw [Y39 hk] at hx
    cases hx
    exact Ze1 hz p t' (hr t' ht') hn2 cn down
   ·rw [Y38 (Ne.symm hj)] at hx
    exact Zg1 hz x (sib j hj) (hr x hx)
  case l o sz es =>
   obtain ⟨t', ht', hn2⟩ := Y84.1 hn
   simp only [T.cq, ht'] at cn
   simp only [T.put, T.kid, ht', T.aZ]
   simp only [rep] at h ⊢
   obtain ⟨h0, A, cap, rfl, hc, hm, cM⟩ := h
   have hk : k < es.length := (Y36.1 ht').1
   refine ⟨h0, A, cap, by simp, by simpa using hc, by simpa using hm, ?_⟩
   cases A with
   | none => exact cM
   | some ad =>
    intro _
    have hne : es ≠ [] := by intro he; subst he; simp at ht'
    obtain ⟨hs, hb, arr, ty, fr, vs', hh, hfr, hvs, hes⟩ := cM (.inr hne)
    have hbk : ow' ad.block = (o.loc c).ow /\ w'.heap[ad.block]? = w.heap[ad.block]? := by
     unfold Ob.loc at hb ⊢
     split at hb <;> rename_i ho
     ·rw [if_pos ho]
      rcases c with _ | ⟨r, q⟩
      ·exact hz _ hb
      ·have := dn r q rfl ad.block [] (by simpa [Loc.ow] using hb) (by simp)
       simpa [Loc.ow] using this
     ·rw [if_neg ho]
      exact hz _ hb
    refine ⟨hs, hbk.1, arr, ty, fr, vs', hbk.2 ▸ hh, hfr, hvs, ?_⟩
    refine Zfc hes (by simp) rfl fun j t2 v2 hj hl2 hr2 hv2 => ?_
    rw [Y83] at hr2 ⊢
    by_cases hjk : j = k
    ·subst hjk
     rw [ht'] at hj
     cases hj
     refine ⟨_, v2, Y39 hk, hl2, Ze1 hz p t' hr2 hn2 cn ?_, hv2⟩
     intro r q hq
     unfold Ob.loc at hq
     split at hq
     ·exact down r q hq
     ·cases hq
    ·refine ⟨t2, v2, by rw [Y38 (Ne.symm hjk)]; exact hj, hl2, Zg1 hz t2 ?_ hr2, hv2⟩
     unfold Ob.loc
     split
     ·exact sib j hjk
     ·trivial
theorem Zfl {c : Loc} {sz : Nat} : ∀ {es : List T} {k : Nat} {vs : List Value}, vs.length = es.length * sz ->
  (∀ j t, es[j]? = some t -> ∃ v1, v1.length = sz /\ rep tab mv w ow (c.push (k + j)) t v1 /\ ∀ i v, v1[i]? = some v -> vs[j * sz + i]? = some v) -> bg tab mv w ow c sz k es vs
 | [], k, vs, hl, _ => by simp only [bg]; exact Y44.1 (by simpa using hl)
 | e :: es, k, vs, hl, h => by
  obtain ⟨v1, hl1, hr, hv⟩ := h 0 e rfl
  have hsz : sz <= vs.length := by rw [hl, Y42, Y82]; omega
  have qu : vs.take sz = v1 := by
   apply Y25
   intro i
   by_cases hi : i < sz
   ·rw [List.getElem?_take_of_lt hi]
    have : i < v1.length := by omega
    have h3 := hv i v1[i] (by simp [this])
    rw [Nat.zero_mul, Y83] at h3
    rw [h3]; simp [this]
   ·rw [Y35 (by simp; omega), Y35 (by omega)]
  simp only [bg]
  refine ⟨v1, vs.drop sz, by rw [<- qu, Y71], hl1, by simpa using hr, Zfl (by simp [hl, Y82]) fun j t hj => ?_⟩
  obtain ⟨v2, h5, h6, h7⟩ := h (j + 1) t (by simpa using hj)
  refine ⟨v2, h5, by rw [show k + 1 + j = k + (j + 1) by omega]; exact h6, fun i v hi => ?_⟩
  rw [Y33]
  have := h7 i v hi
  rw [Y82] at this
  rw [show sz + (j * sz + i) = j * sz + sz + i by omega]
  exact this
theorem Zk2 {α : Type} (es : List α) (lo n j : Nat) : (sub es lo n)[j]? = if j < n then es[lo + j]? else none := by
 unfold sub
 by_cases h : j < n
 ·rw [if_pos h, List.getElem?_take_of_lt h, Y33]
 ·rw [if_neg h, Y35 (by simp; omega)]
theorem Zk3 {α : Type} (es : List α) (lo n : Nat) (h : lo + n <= es.length) : (sub es lo n).length = n := by
 simp [sub]; omega
theorem Zg0 (hz : Zs w ow w' ow') {c c' : Loc} {o : Ob} {sz : Nat} {es : List T} {hv v : Value} {lo n : Nat} (hm : ∀ k, o ≠ .m k) (h : rep tab mv w ow c (.l o sz es) [hv])
  (hs : kH hv sz lo n v) (hl : lo + n <= es.length) (hc' : o.own = true -> c' ≠ none)
  (hb : ∀ b, ow b = (o.loc c).ow -> ow' b = (o.loc c').ow /\ w'.heap[b]? = w.heap[b]?)
  (ht : ∀ i, i < n -> Tr w ow w' ow' ((o.loc c).push (lo + i)) ((o.loc c').push i)) : rep tab mv w' ow' c' (.l o sz (sub es lo n)) [v] := by
 obtain ⟨A, N, C, A', pj, rfl, rfl, hnc, dV, hA, nZ⟩ := hs
 have hsl := Zk3 es lo n hl
 simp only [rep] at h ⊢
 obtain ⟨_, A1, Ma, he, hc1, _, cM⟩ := h
 simp only [Y23, Value.slice.injEq, and_true] at he
 obtain ⟨rfl, rfl, rfl⟩ := he
 refine ⟨hc', A', pj, by rw [hsl], by rw [hsl]; exact hnc, fun k hk => absurd hk (hm k), ?_⟩
 have key : ∀ ad ad' : Addr, A = some ad -> ad'.block = ad.block -> ad'.spot = none -> (ad'.off = ad.off + lo * sz \/ (ad'.off <= ad.off + C * sz /\ pj = 0)) -> (o.own = true \/ sub es lo n ≠ []) ->
   ad'.spot = none /\ ow' ad'.block = (o.loc c').ow /\ ∃ (arr : Array Value) (ty : TypeId) (fr : Nat × Nat) (vs' : List Value), w'.heap[ad'.block]? = some (.cells arr ty fr) /\
    (o.own = true -> (fr.2 <= fr.1 \/ arr.size <= fr.1) /\ ad'.off + pj * sz <= arr.size) /\ (∀ j v, vs'[j]? = some v -> arr[ad'.off + j]? = some v) /\
    bg tab mv w' ow' (o.loc c') sz 0 (sub es lo n) vs' := by
  intro ad ad' hAd hbk hsp hT hor
  subst hAd
  have Ap : o.own = true \/ es ≠ [] := by
   rcases hor with x | x
   ·exact .inl x
   ·refine .inr fun e => x ?_
    subst e; simp [sub]
  obtain ⟨Mb, hb0, arr, ty, fr, vs', hh, hfr, hvs, hes⟩ := cM Ap
  obtain ⟨hb1, hb2⟩ := hb _ hb0
  have hvl := Zfi hes
  have hmul : (lo + pj) * sz <= C * sz := Y80 _ dV
  have Jf : (lo + n) * sz <= es.length * sz := Y80 _ hl
  rw [Nat.add_mul] at hmul Jf
  refine ⟨hsp, hbk ▸ hb1, arr, ty, fr, sub vs' (lo * sz) (n * sz), by rw [hbk, hb2]; exact hh, fun x => ⟨(hfr x).1, ?_⟩, fun j u hj => ?_, ?_⟩
  ·have := (hfr x).2
   rcases hT with e | ⟨e, e2⟩
   ·rw [e]; omega
   ·rw [e2]; omega
  ·rw [Zk2] at hj
   split at hj
   ·rename_i hjn
    rcases hT with e | ⟨e, e2⟩
    ·rw [e, Y74]
     exact hvs _ u hj
    ·have : n = 0 := by omega
     subst this
     simp at hjn
   ·cases hj
  ·refine Zfl (by rw [Zk3 _ _ _ (by omega), hsl]) fun j t hj => ?_
   rw [Zk2] at hj
   split at hj
   ·rename_i hjn
    obtain ⟨v1, h1, h2, h3⟩ := Zfh hes hj
    rw [Y83] at h2 ⊢
    refine ⟨v1, h1, Zg1 hz t (ht j hjn) h2, fun i u hi => ?_⟩
    have hi' := (Y36.1 hi).1
    have hb3 : (j + 1) * sz <= n * sz := Y80 _ hjn
    rw [Y82] at hb3
    rw [Zk2, if_pos (by omega)]
    have := h3 i u hi
    rw [Nat.add_mul] at this
    rw [<- this]; congr 1; omega
   ·cases hj
 cases A' with
 | none =>
  rcases hA with ⟨e, _⟩ | ⟨ad, x, _, e, _⟩
  ·subst e
   simp only at cM ⊢
   omega
  ·cases e
 | some ad' =>
  intro hor
  rcases hA with ⟨e, hlo⟩ | ⟨ad, x, e1, e2, e3⟩
  ·have Ap : o.own = true \/ es ≠ [] := by
    rcases hor with x | x
    ·exact .inl x
    ·refine .inr fun e => x ?_
     subst e; simp [sub]
   subst e
   have hsp := (cM Ap).1
   refine key ad' ad' rfl rfl hsp ?_ hor
   rcases hlo with rfl | h0
   ·left; simp
   ·exact .inr ⟨Nat.le_add_right _ _, h0⟩
  ·cases e2
   exact key ad _ e1 rfl rfl (e3.imp id (fun y => ⟨y.2, y.1⟩)) hor
end
section
variable {X : Cx} {U : Nat -> Prop} {J : Nat} {σ σ' : St} {a a' : Act} {w w' : World} {ow ow' : Nat -> Ow}
theorem Zer {r : Nat} (hs : aP X σ a w ow r (σ r) (aK a r)) (h1 : σ' r = σ r) (h2 : aK a' r = aK a r) (hz : Zs w ow w' ow')
  (ho : ∀ b q, ow b = .own (.sl r) q -> w'.heap[b]? = w.heap[b]?) : aQ U σ a w σ' a' w' r where
 ptr := fun k p bo c' _ _ _ hc hk hp => by
  rw [h1] at hc
  rw [h2, Zd4 hc hs (fun b hb => (hz b hb).2) ho] at hp
  exact ⟨c', hc, hk, hp⟩
 view := fun k p o' sz es' A N C c' _ _ _ hc hk hn hh => by
  rw [h1] at hc
  rw [h2, Z80 hc hs (fun b hb => (hz b hb).2) ho hn] at hh
  exact ⟨c', o', es', hc, hk, hn, rfl, hh⟩
 str := fun k p cs' c' _ _ _ hc hk hn => by
  rw [h1] at hc
  exact ⟨c', cs', hc, hk, hn⟩
theorem At.same {b o : Nat} {vs : List Value} (h : At w b o vs) (hb : w'.heap[b]? = w.heap[b]?) : At w' b o vs := fun j v hj => by
 have := h j v hj
 simp only [World.cell?, hb] at this ⊢
 exact this
theorem Z2m {s : Nat} (hst : ∀ c : Cell, c.stamps U -> ∀ j v, dm X σ a w ow s j c v -> dm X σ' a' w' ow' s j c v) :
  ∀ (cs : List Cell) (j : Nat) (vs : List Value), (∀ c ∈ cs, c.stamps U) -> dM X σ a w ow s j cs vs -> dM X σ' a' w' ow' s j cs vs
 | [], _, _, _, h => h
 | c :: cs, j, vs, hs, h => by
  simp only [dM] at h ⊢
  obtain ⟨v, rest, rfl, h1, h2⟩ := h
  exact ⟨v, rest, rfl, hst c (hs c (by simp)) j v h1, Z2m hst cs (j + 1) rest (fun c' hc' => hs c' (by simp [hc'])) h2⟩
theorem Zj6 {s : Nat} {v : AV} {x : Value} (hs : aP X σ a w ow s v x) (hst : v.stamps U) (hz : Zs w ow w' ow') (hr : ∀ r, aQ U σ a w σ' a' w' r)
  (ht : ∀ b q, ow b = .own (.sl s) q -> ow' b = .own (.sl s) q /\ w'.heap[b]? = w.heap[b]?) : aP X σ' a' w' ow' s v x := by
 have tr : ∀ q, Tr w ow w' ow' (some (.sl s, q)) (some (.sl s, q)) := fun q b q' hb => ht b _ hb
 cases v <;> simp only [aP] at hs ⊢
 case x t => exact Zg1 hz t (c := none) trivial hs
 case own k t => exact ⟨hs.1, Zg1 hz t (tr []) hs.2⟩
 case w r k p z lo n => exact (hr r).iu hst.1 hst.2.1 hst.2.2 hs
 case st cs =>
  obtain ⟨vs, rfl, h⟩ := hs
  refine ⟨vs, rfl, Z2m (fun c hc j v hv => ?_) cs 0 vs.toList hst h⟩
  cases c <;> simp only [dm] at hv ⊢
  ·exact Zg1 hz _ (tr _) hv
  ·exact (hr _).iu hc.1 hc.2.1 hc.2.2 hv
 case box k cs =>
  obtain ⟨b, arr, ty, fr, rfl, hb, hh, hf, hc⟩ := hs
  obtain ⟨h1, h2⟩ := ht b [] hb
  exact ⟨b, arr, ty, fr, rfl, h1, h2 ▸ hh, hf, Zfb hz cs (tr []) hc⟩
 case ptr r k p off => exact (hr r).BL hst.1 hst.2.1 hst.2.2 hs
 case q t off =>
  obtain ⟨b, o, vs, rfl, hb, ha, h⟩ := hs
  obtain ⟨h1, h2⟩ := hz b hb
  exact ⟨b, o, vs, rfl, h1, ha.same h2, Zg1 hz t (c := none) trivial h⟩
 case tup n => exact hs
end
end Go.Wr
namespace Go.Wr
def Hs (w' w : World) : Prop := ∀ b o A N C, w'.cell? ⟨b, o, none⟩ = some (.slice A N C) -> w.cell? ⟨b, o, none⟩ = some (.slice A N C)
theorem Hs.refl (w : World) : Hs w w := fun _ _ _ _ _ h => h
structure Sh (w' : World) (x : T) (w : World) (y : T) : Prop where
 loc : ∀ b o p bo, bp w' x b o p = some bo -> bp w y b o p = some bo
 vec : ∀ A p bo, cG w' x A p = some bo -> cG w y A p = some bo
 nav : ∀ p o' sz es', x.nav p = some (.l o' sz es') -> ∃ o es, y.nav p = some (.l o sz es) /\ es.length = es'.length
 str : ∀ p cs', x.nav p = some (.a cs') -> ∃ cs, y.nav p = some (.a cs)
theorem Za6 {w' w : World} (h : Hs w' w) : ∀ (p : List Nat) (t : T) (b o : Nat) (bo : Nat × Nat), bp w' t b o p = some bo -> bp w t b o p = some bo
 | [], t, b, o, bo, hl => by cases t <;> exact hl
 | k :: p, t, b, o, bo, hl => by
  cases t <;> simp only [bp, reduceCtorEq] at hl
  case a cs =>
   simp only [bp]
   split at hl
   ·rename_i t' ht; exact Za6 h p t' _ _ _ hl
   ·cases hl
  case l ob sz es =>
   simp only [bp]
   split at hl
   ·rename_i ad N C t' h1 h2
    rw [h _ _ _ _ _ h1, h2]
    exact Za6 h p t' _ _ _ hl
   ·cases hl
theorem Zaa {w' w : World} (h : Hs w' w) (A : Option Addr) (p : List Nat) (t : T) (bo : Nat × Nat) (hl : cG w' t A p = some bo) : cG w t A p = some bo := by
 cases t <;> simp only [cG, reduceCtorEq] at hl
 cases A <;> cases p <;> simp only [cG, reduceCtorEq] at hl ⊢
 split at hl
 ·rename_i t' ht; exact Za6 h _ t' _ _ _ hl
 ·cases hl
theorem Sh.refl {w' w : World} (h : Hs w' w) (t : T) : Sh w' t w t := ⟨fun b o p bo hl => Za6 h p t b o bo hl, fun A p bo hl => Zaa h A p t bo hl, fun p o sz es hn => ⟨o, es, hn, rfl⟩, fun p cs hn => ⟨cs, hn⟩⟩
theorem Sh.scalar {w' w : World} {x : T} (y : T) (hx : ∀ k, x.kid k = none) (hl : ∀ o sz es, x ≠ .l o sz es) (ha : ∀ cs, x ≠ .a cs) : Sh w' x w y where
 loc := fun b o p bo h => by
  cases p with
  | nil => cases x <;> cases y <;> exact h
  | cons k p =>
   cases x <;> simp only [bp, reduceCtorEq] at h
   case a cs => have := hx k; simp only [T.kid] at this; simp [this] at h
   case l o' sz es => exact absurd rfl (hl _ _ _)
 vec := fun A p bo h => by
  cases x <;> simp only [cG, reduceCtorEq] at h
  exact absurd rfl (hl _ _ _)
 nav := fun p o sz es h => by
  cases p with
  | nil => simp only [T.nav, Y89] at h; exact absurd h (hl _ _ _)
  | cons k p => simp [T.nav, hx k] at h
 str := fun p cs h => by
  cases p with
  | nil => simp only [T.nav, Y89] at h; exact absurd h (ha _)
  | cons k p => simp [T.nav, hx k] at h
theorem Sh.put {w' w : World} (hs : Hs w' w) {x node : T} (h : Sh w' x w node) : ∀ (p : List Nat) (t : T), t.nav p = some node -> Sh w' (t.put p x) w t
 | [], t, hn => by
  simp only [T.nav, Y89] at hn
  subst hn
  cases t <;> exact h
 | k :: p, t, hn => by
  cases t <;> simp only [T.nav, T.kid, Y85, reduceCtorEq] at hn
  case a cs =>
   obtain ⟨t', ht', hn2⟩ := Y84.1 hn
   have ih := Sh.put hs h p t' hn2
   have hk : k < cs.length := (Y36.1 ht').1
   simp only [T.put, T.kid, ht', T.aZ]
   constructor
   ·intro b o q bo hl
    cases q with
    | nil => exact hl
    | cons j q =>
     simp only [bp] at hl ⊢
     by_cases hj : j = k
     ·subst hj
      rw [Y39 hk] at hl
      rw [ht']
      exact ih.loc _ _ _ _ hl
     ·rw [Y38 (Ne.symm hj)] at hl
      split at hl
      ·rename_i t2 h2; exact Za6 hs _ _ _ _ _ hl
      ·cases hl
   ·intro A q bo hl; simp only [cG, reduceCtorEq] at hl
   ·intro q o sz es hq
    cases q with
    | nil => simp [T.nav] at hq
    | cons j q =>
     simp only [T.nav, T.kid] at hq ⊢
     by_cases hj : j = k
     ·subst hj
      rw [Y39 hk] at hq
      rw [ht']
      exact ih.nav _ _ _ _ hq
     ·rw [Y38 (Ne.symm hj)] at hq
      exact ⟨o, es, hq, rfl⟩
   ·intro q cs' hq
    cases q with
    | nil => exact ⟨cs, rfl⟩
    | cons j q =>
     simp only [T.nav, T.kid] at hq ⊢
     by_cases hj : j = k
     ·subst hj
      rw [Y39 hk] at hq
      rw [ht']
      exact ih.str _ _ hq
     ·rw [Y38 (Ne.symm hj)] at hq
      exact ⟨cs', hq⟩
  case l ob sz0 es0 =>
   obtain ⟨t', ht', hn2⟩ := Y84.1 hn
   have ih := Sh.put hs h p t' hn2
   have hk : k < es0.length := (Y36.1 ht').1
   simp only [T.put, T.kid, ht', T.aZ]
   constructor
   ·intro b o q bo hl
    cases q with
    | nil => exact hl
    | cons j q =>
     simp only [bp] at hl ⊢
     split at hl
     ·rename_i ad N C t2 h1 h2
      rw [hs _ _ _ _ _ h1]
      by_cases hj : j = k
      ·subst hj
       rw [Y39 hk] at h2
       cases h2
       rw [ht']
       exact ih.loc _ _ _ _ hl
      ·rw [Y38 (Ne.symm hj)] at h2
       rw [h2]
       exact Za6 hs _ _ _ _ _ hl
     ·cases hl
   ·intro A q bo hl
    cases A <;> cases q <;> simp only [cG, reduceCtorEq] at hl ⊢
    rename_i ad j q
    by_cases hj : j = k
    ·subst hj
     rw [Y39 hk] at hl
     rw [ht']
     exact ih.loc _ _ _ _ hl
    ·rw [Y38 (Ne.symm hj)] at hl
     split at hl
     ·rename_i t2 h2; exact Za6 hs _ _ _ _ _ hl
     ·cases hl
   ·intro q o sz es hq
    cases q with
    | nil =>
     simp only [T.nav, Y89, T.l.injEq] at hq
     obtain ⟨rfl, rfl, rfl⟩ := hq
     exact ⟨ob, es0, rfl, by simp⟩
    | cons j q =>
     simp only [T.nav, T.kid] at hq ⊢
     by_cases hj : j = k
     ·subst hj
      rw [Y39 hk] at hq
      rw [ht']
      exact ih.nav _ _ _ _ hq
     ·rw [Y38 (Ne.symm hj)] at hq
      exact ⟨o, es, hq, rfl⟩
   ·intro q cs' hq
    cases q with
    | nil => simp [T.nav] at hq
    | cons j q =>
     simp only [T.nav, T.kid] at hq ⊢
     by_cases hj : j = k
     ·subst hj
      rw [Y39 hk] at hq
      rw [ht']
      exact ih.str _ _ hq
     ·rw [Y38 (Ne.symm hj)] at hq
      exact ⟨cs', hq⟩
theorem Z6v (ts : List T) (k : Nat) : (fzs ts)[k]? = (ts[k]?).map T.fz := by
 rw [Z6x, Y37]
theorem Zbk : ∀ (p : List Nat) (t : T), t.fz.nav p = (t.nav p).map T.fz
 | [], t => rfl
 | k :: p, t => by
  cases t <;> simp only [T.fz, T.nav, T.kid, Y85, Option.map_none]
  case a cs =>
   rw [Z6v]
   cases cs[k]? with
   | none => rfl
   | some t' => exact Zbk p t'
  case l o sz es =>
   rw [Z6v]
   cases es[k]? with
   | none => rfl
   | some t' => exact Zbk p t'
theorem Za5 (w : World) : ∀ (p : List Nat) (t : T) (b o : Nat), bp w t.fz b o p = bp w t b o p
 | [], t, b, o => by cases t <;> rfl
 | k :: p, t, b, o => by
  cases t <;> simp only [T.fz, bp]
  case a cs =>
   rw [Z6v]
   cases cs[k]? with
   | none => rfl
   | some t' => exact Za5 w p t' _ _
  case l ob sz es =>
   rw [Z6v]
   cases es[k]? with
   | none => simp only [Option.map_none]
   | some t' =>
    simp only [Y88]
    split
    ·rename_i ad N C t2 h1 h2; cases h2; rw [h1]; exact Za5 w p t' _ _
    ·rename_i h1; split
     ·rename_i ad N C t2 h3 h4; exact absurd rfl (h1 ad N C t'.fz h3)
     ·rfl
theorem Sh.fz (w : World) (t : T) : Sh w t.fz w t where
 loc := fun b o p bo h => by rw [Za5] at h; exact h
 vec := fun A p bo h => by
  cases t <;> simp only [T.fz, cG, reduceCtorEq] at h
  cases A <;> cases p <;> simp only [cG, reduceCtorEq] at h ⊢
  rw [Z6v] at h
  split at h
  ·rename_i t' h1
   obtain ⟨t2, h2, rfl⟩ := Y87.1 h1
   rw [h2]
   rw [Za5] at h
   exact h
  ·cases h
 nav := fun p o sz es h => by
  rw [Zbk] at h
  obtain ⟨t', h1, h2⟩ := Y87.1 h
  cases t' <;> simp only [T.fz, reduceCtorEq, T.l.injEq] at h2
  obtain ⟨_, rfl, rfl⟩ := h2
  exact ⟨_, _, h1, (Z6w _).symm⟩
 str := fun p cs h => by
  rw [Zbk] at h
  obtain ⟨t', h1, h2⟩ := Y87.1 h
  cases t' <;> simp only [T.fz, reduceCtorEq, T.a.injEq] at h2
  exact ⟨_, h1⟩
theorem Zd5 {w' w : World} {c c' : RC} (hb : c'.bi = c.bi) (hs : Sh w' c'.t w c.t) (hh : Hs w' w) {v : Value} {p : List Nat} {bo : Nat × Nat} (h : place w' c' v p = some bo) :
  place w c v p = some bo := by
 obtain ⟨ib, k, t⟩ := c
 obtain ⟨ib', k', t'⟩ := c'
 simp only at hb hs
 subst hb
 cases ib'
 ·cases v <;> simp only [place, reduceCtorEq] at h ⊢
  exact hs.vec _ _ _ h
 ·cases v <;> simp only [place, reduceCtorEq] at h
  rename_i A
  cases A <;> simp only [place, reduceCtorEq] at h ⊢
  exact hs.loc _ _ _ _ h
section
variable {X : Cx} {U : Nat -> Prop} {J : Nat} {σ σ' : St} {a a' : Act} {w w' : World} {ow ow' : Nat -> Ow}
theorem Zes {r : Nat} {c c' : RC} (hc : (σ r).rc = some c) (hc' : (σ' r).rc = some c') (hb : c'.bi = c.bi) (hk : c'.k = c.k) (hs : Sh w' c'.t w c.t) (hh : Hs w' w)
  (hv : aK a' r = aK a r) : aQ U σ a w σ' a' w' r where
 ptr := fun k p bo c2 _ _ _ h1 h2 h3 => by
  rw [hc'] at h1
  cases h1
  rw [hv] at h3
  exact ⟨c, hc, by rw [<- hk, <- hb]; exact h2, Zd5 hb hs hh h3⟩
 view := fun k p o' sz es' A N C c2 _ _ _ h1 h2 h3 h4 => by
  rw [hc'] at h1
  cases h1
  obtain ⟨o, es, h5, h6⟩ := hs.nav p o' sz es' h3
  refine ⟨c, o, es, hc, by rw [<- hk, <- hb]; exact h2, h5, h6, ?_⟩
  unfold hdr at h4 ⊢
  rw [hv, hb] at h4
  split
  ·rename_i h7; rw [if_pos h7] at h4; exact h4
  ·rename_i h7
   rw [if_neg h7] at h4
   split at h4
   ·rename_i bo h8
    rw [Zd5 hb hs hh h8]
    exact hh _ _ _ _ _ h4
   ·cases h4
 str := fun k p cs' c2 _ _ _ h1 h2 h3 => by
  rw [hc'] at h1
  cases h1
  obtain ⟨cs, h5⟩ := hs.str p cs' h3
  exact ⟨c, cs, hc, by rw [<- hk, <- hb]; exact h2, h5⟩
end
end Go.Wr
namespace Go.Wr
theorem Za2 (r : aH) : ∀ (p : List Nat) (t : T) (q : List Nat), t.cq (some (r, q)) p = none \/ t.cq (some (r, q)) p = some (r, q ++ p)
 | [], t, q => by right; cases t <;> simp [T.cq]
 | k :: p, t, q => by
  cases t <;> simp only [T.cq, true_or]
  case a cs =>
   split
   ·rename_i t' _
    rw [Zdc]
    rcases Za2 r p t' (q ++ [k]) with h | h
    ·exact .inl h
    ·exact .inr (by rw [h]; simp)
   ·exact .inl rfl
  case l o sz es =>
   split
   ·rename_i t' _
    unfold Ob.loc
    split
    ·rw [Zdc]
     rcases Za2 r p t' (q ++ [k]) with h | h
     ·exact .inl h
     ·exact .inr (by rw [h]; simp)
    ·left
     exact (go t' p)
   ·exact .inl rfl
 where
 go : ∀ (t : T) (p : List Nat), t.cq none p = none
 | t, [] => by cases t <;> rfl
 | t, k :: p => by
  cases t <;> simp only [T.cq]
  ·split
   ·exact go _ p
   ·rfl
  ·split
   ·unfold Ob.loc
    split <;> exact go _ p
   ·rfl
section
variable {X : Cx} {U : Nat -> Prop} {J J' : Nat} {σ σ' σ2 : St} {a a2 : Act} {w w' w2 : World} {ow ow' ow2 : Nat -> Ow}
theorem Zen {v : AV} {c : RC} (h : v.rc = some c) : (c.bi = true /\ ∃ cs, c.t = .a cs /\ v = .box c.k cs) \/ (c.bi = false /\ v = .own c.k c.t) := by
 cases v <;> simp only [AV.rc, reduceCtorEq, Y89] at h
 ·subst h; exact .inr ⟨rfl, rfl⟩
 ·subst h; exact .inl ⟨rfl, _, rfl, rfl⟩
theorem Zgl {r : Nat} {c : RC} {v : Value} (hc : (σ r).rc = some c) (hs : aP X σ a w ow r (σ r) v) {p : List Nat} {node cv : T} (hn : c.t.nav p = some node)
  (hp : c.bi = true \/ p ≠ []) (hp2 : c.bi = true -> p ≠ []) (hz : Zs w ow w' ow')
  (cn : ∀ vs', rep X.tab X.mv w ow (c.t.cq (some (.sl r, [])) p) node vs' -> rep X.tab X.mv w' ow' (c.t.cq (some (.sl r, [])) p) cv vs')
  (dn : ∀ b q', ow b = .own (.sl r) q' -> ¬ p <+: q' -> ow' b = .own (.sl r) q' /\ w'.heap[b]? = w.heap[b]?) :
  ({ c with t := c.t.put p cv } : RC).av.rc = some { c with t := c.t.put p cv } /\ aP X σ2 a2 w' ow' r ({ c with t := c.t.put p cv } : RC).av v := by
 have hpn : p ≠ [] := by
  rcases hp with h | h
  ·exact hp2 h
  ·exact h
 obtain ⟨k, p, rfl⟩ : ∃ k q, p = k :: q := by
  cases p with
  | nil => exact absurd rfl hpn
  | cons k q => exact ⟨k, q, rfl⟩
 have kI : ∀ (r' : aH) (q : List Nat), some (aH.sl r, ([] : List Nat)) = some (r', q) -> ∀ b q', ow b = .own r' (q ++ q') -> ¬ (k :: p) <+: q' ->
   ow' b = .own r' (q ++ q') /\ w'.heap[b]? = w.heap[b]? := fun r' q hq b q' hb hpq => by
  simp only [Y89, Y90] at hq
  obtain ⟨rfl, rfl⟩ := hq
  exact dn b q' hb hpq
 rcases Zen hc with ⟨hb, cs, ht, hv⟩ | ⟨hb, hv⟩
 ·obtain ⟨ib, kk, t⟩ := c
  simp only at hb ht hn cn hv ⊢
  subst hb ht
  rw [hv] at hs
  simp only [aP] at hs
  obtain ⟨b, arr, ty, fr, rfl, hbk, hh, hf, hr⟩ := hs
  simp only [T.nav, T.kid] at hn
  have hn' := hn
  obtain ⟨t', ht', hn2⟩ := Y84.1 hn
  have fX : (T.a cs).put (k :: p) cv = .a (cs.set k (t'.put p cv)) := by simp only [T.put, T.kid, ht', T.aZ]
  have h1 := Ze1 hz (node := node) (cv := cv) (k :: p) (.a cs) (c := some (.sl r, [])) (vs := arr.toList) (by simp only [rep]; exact hr) (by simp only [T.nav, T.kid]; exact hn') cn kI
  rw [fX] at h1 ⊢
  simp only [rep] at h1
  obtain ⟨h2, h3⟩ := dn b [] hbk (by simp)
  exact ⟨rfl, b, arr, ty, fr, rfl, h2, h3 ▸ hh, hf, h1⟩
 ·obtain ⟨ib, kk, t⟩ := c
  simp only at hb hn cn hv ⊢
  subst hb
  rw [hv] at hs
  simp only [aP] at hs
  obtain ⟨⟨o, sz, es, rfl, ho⟩, hr⟩ := hs
  have h1 := Ze1 hz (node := node) (cv := cv) (k :: p) (.l o sz es) (c := some (.sl r, [])) hr hn cn kI
  simp only [T.nav, T.kid] at hn
  obtain ⟨t', ht', hn2⟩ := Y84.1 hn
  have fX : (T.l o sz es).put (k :: p) cv = .l o sz (es.set k (t'.put p cv)) := by simp only [T.put, T.kid, ht', T.aZ]
  rw [fX] at h1 ⊢
  cases o with
  | n => simp [Ob.own] at ho
  | y => exact ⟨rfl, ⟨_, _, _, rfl, rfl⟩, h1⟩
  | m j => exact ⟨rfl, ⟨_, _, _, rfl, rfl⟩, h1⟩
theorem Z7b (h : Rel X U J σ a w ow) {r : Nat} {v' : AV} (gi : aP X (upd σ r v') a w ow' r v' (aK a r)) (hst : v'.stamps U) (hz : Zs w ow w ow')
  (gL : ∀ b r' q, r' ≠ .sl r -> ow b = .own r' q -> ow' b = .own r' q) (hno : ∀ b, ow b = .no -> ow' b = .no) (bF : ∀ b i q, ow' b = .own (.ar i) q -> i < J')
  (hrk : aQ U σ a w (upd σ r v') a w r) (hne : σ r ≠ .u) (hnt : ∀ n, σ r ≠ .tup n) : Rel X U J' (upd σ r v') a w ow' /\ ∀ r', aQ U σ a w (upd σ r v') a w r' := by
 have cc : ∀ r', aQ U σ a w (upd σ r v') a w r' := fun r' => by
  by_cases hr : r' = r
  ·subst hr; exact hrk
  ·exact Zer (h.slot r') (by simp [upd, hr]) rfl hz (fun _ _ _ => rfl)
 refine ⟨⟨h.size, h.small, h.defers, fun s => ?_, fun s => ?_, fun b hb => h.low b fun e => hb (hno b e), bF, h.grown, fun b hb hr => ?_, h.os, h.output, h.bu, fun s hs hu => ?_⟩, cc⟩
 ·by_cases hs : s = r
  ·subst hs; simpa [upd] using gi
  ·have := Zj6 (σ' := upd σ r v') (a' := a) (h.slot s) (h.bZ s) hz cc (fun b q hb => ⟨gL b _ q (by simpa using hs) hb, rfl⟩)
   simpa [upd, hs] using this
 ·by_cases hs : s = r
  ·subst hs; simpa [upd] using hst
  ·simpa [upd, hs] using h.bZ s
 ·obtain ⟨h1, h2⟩ := h.same b hb hr
  refine ⟨h1, ?_⟩
  cases h3 : ow b with
  | no => rw [hno b h3, <- h2, h3]
  | z => rw [(hz b h3).1, <- h2, h3]
  | own r' q => rw [h3] at h2; exact absurd h2.symm (hr r' q)
 ·obtain ⟨n, h1, h2⟩ := h.gI s hs (by
   by_cases hsr : s = r
   ·subst hsr; exact hne
   ·simpa [upd, hsr] using hu)
  refine ⟨n, ?_, h2⟩
  have : s % 1000 ≠ r := fun e => hnt n (e ▸ h1)
  simpa [upd, this] using h1
structure Gh (X : Cx) (U : Nat -> Prop) (J J' : Nat) (σ : St) (a : Act) (w : World) (ow : Nat -> Ow) (σ' : St) (ow' : Nat -> Ow) : Prop where
 rel : Rel X U J' σ' a w ow'
 z : Zs w ow w ow'
 air : ∀ b i q, i < J -> ow b = .own (.ar i) q -> ow' b = .own (.ar i) q
 refs : ∀ r, aQ U σ a w σ' a w r
theorem Gh.refl (h : Rel X U J σ a w ow) (hJ : J <= J') : Gh X U J J' σ a w ow σ ow :=
 ⟨{ h with air := fun b i q hb => Y78 (h.air b i q hb) hJ }, fun b hb => ⟨hb, rfl⟩, fun _ _ _ _ hb => hb,
  fun r => Zer (h.slot r) rfl rfl (fun b hb => ⟨hb, rfl⟩) (fun _ _ _ => rfl)⟩
theorem Gh.trans {J2 : Nat} (h : Gh X U J J' σ a w ow σ' ow') (h2 : Gh X U J' J2 σ' a w ow' σ2 ow2) (hJ : J <= J') : Gh X U J J2 σ a w ow σ2 ow2 :=
 ⟨h2.rel, fun b hb => ⟨(h2.z b (h.z b hb).1).1, rfl⟩, fun b i q hi hb => h2.air b i q (by omega) (h.air b i q hi hb), fun r => (h.refs r).trans (h2.refs r)⟩
theorem Zeo {v : AV} {c : RC} (h : v.rc = some c) : v ≠ .u /\ ∀ n, v ≠ .tup n := by
 cases v <;> simp [AV.rc] at h ⊢
theorem Zgg {r : Nat} {k : K} {p : List Nat} {c : RC} (h : (dZ r k p).run σ = some (c, σ')) : σ' = σ /\ (σ r).rc = some c /\ c.k.ok k (dl c.bi p) = true := by
 unfold dZ at h
 simp only [Bind.bind, Pg.bind, Pg.rd, Pg.run] at h
 cases hc : (σ r).rc with
 | none => simp [hc, Pg.run] at h
 | some c' =>
  simp only [hc] at h
  split at h
  ·rename_i hk
   simp only [Pure.pure, Pg.run, Y89, Y90] at h
   obtain ⟨rfl, rfl⟩ := h
   exact ⟨rfl, rfl, hk⟩
  ·simp [Pg.run] at h
theorem Zgf {r : Nat} {k : K} {p : List Nat} {c : RC} (h : (fH r k p).run σ = some (c, σ')) : σ' = σ /\ (σ r).rc = some c /\ c.k.ok k (fh c.bi p) = true /\ (c.bi = true \/ p ≠ []) := by
 unfold fH at h
 simp only [Bind.bind, Pg.bind, Pg.rd, Pg.run] at h
 cases hc : (σ r).rc with
 | none => simp [hc, Pg.run] at h
 | some c' =>
  simp only [hc] at h
  split at h
  ·rename_i hk
   simp only [Pure.pure, Pg.run, Y89, Y90] at h
   obtain ⟨rfl, rfl⟩ := h
   simp only [Y2, Y14, Y11, List.isEmpty_eq_false_iff] at hk
   exact ⟨rfl, rfl, hk.1, hk.2⟩
  ·simp [Pg.run] at h
theorem run_bind {α β : Type} (m : Pg α) (f : α -> Pg β) (σ : St) : (m >>= f).run σ = (m.run σ).bind fun x => (f x.1).run x.2 := by
 simp only [Bind.bind, Pg.run]
 cases m.run σ <;> rfl
theorem Zh3 {α β : Type} {m : Pg α} {f : α -> Pg β} {σ σ2 : St} {y : β} (h : (m >>= f).run σ = some (y, σ2)) : ∃ x σ1, m.run σ = some (x, σ1) /\ (f x).run σ1 = some (y, σ2) := by
 rw [run_bind] at h
 obtain ⟨⟨x, σ1⟩, h1, h2⟩ := Y84.1 h
 exact ⟨x, σ1, h1, h2⟩
theorem Zhk {α : Type} {x y : α} {σ σ2 : St} (h : (pure x : Pg α).run σ = some (y, σ2)) : y = x /\ σ2 = σ := by
 simp only [Pure.pure, Pg.run, Y89, Y90] at h
 exact ⟨h.1.symm, h.2.symm⟩
theorem Zhu {s : Nat} {v : AV} {σ σ2 : St} {y : Unit} (h : (Pg.wr s v).run σ = some (y, σ2)) : σ2 = upd σ s v := by
 simp only [Pg.wr, Pg.run, Y89, Y90] at h
 exact h.2.symm
theorem Zhj {s : Nat} {v : AV} {σ σ2 : St} (h : (Pg.rd s).run σ = some (v, σ2)) : v = σ s /\ σ2 = σ := by
 simp only [Pg.rd, Pg.run, Y89, Y90] at h
 exact ⟨h.1.symm, h.2.symm⟩
theorem Z7j {tk : Bool} {r : Nat} {k : K} {p : List Nat} {lo n : Nat} {t : T} (h : (dL tk r k p lo n).run σ = some (t, σ')) :
  ∃ c o sz es, (σ r).rc = some c /\ c.k.ok k (dl c.bi p) = true /\ c.t.nav p = some (.l o sz es) /\
   ((o = .n /\ t = .l .n sz (sub es lo n) /\ σ' = σ) \/
    (o = .y /\ t = .l .y sz (sub es lo n) /\ σ' = upd σ r ({ c with t := c.t.put p .u } : RC).av) \/
    (o = .y /\ t = .l .n sz (sub (fzs es) lo n) /\ σ' = upd σ r ({ c with t := c.t.put p (.l .n sz (fzs es)) } : RC).av)) := by
 unfold dL at h
 obtain ⟨c, σ1, h1, h2⟩ := Zh3 h
 obtain ⟨rfl, hc, hk⟩ := Zgg h1
 cases hn : c.t.nav p with
 | none => simp [hn, Pg.run] at h2
 | some node =>
  simp only [hn] at h2
  cases node <;> simp only [Pg.run, reduceCtorEq] at h2
  rename_i o sz es
  cases o <;> simp only at h2
  ·obtain ⟨rfl, rfl⟩ := Zhk h2
   exact ⟨c, _, sz, es, hc, hk, hn, .inl ⟨rfl, rfl, rfl⟩⟩
  ·split at h2
   ·obtain ⟨_, σ2, h3, h4⟩ := Zh3 h2
    obtain ⟨rfl, rfl⟩ := Zhk h4
    exact ⟨c, _, sz, es, hc, hk, hn, .inr (.inl ⟨rfl, rfl, Zhu h3⟩)⟩
   ·obtain ⟨_, σ2, h3, h4⟩ := Zh3 h2
    obtain ⟨rfl, rfl⟩ := Zhk h4
    exact ⟨c, _, sz, es, hc, hk, hn, .inr (.inr ⟨rfl, rfl, Zhu h3⟩)⟩
  ·simp [Pg.run] at h2
end
end Go.Wr
namespace Go.Wr
section
variable {X : Cx} {U : Nat -> Prop} {J J' : Nat} {σ σ' σ2 : St} {a a2 : Act} {w w' w2 : World} {ow ow' ow2 : Nat -> Ow}
def dI (ow : Nat -> Ow) (r : Nat) (p : List Nat) (J lo n : Nat) : Nat -> Ow := fun b =>
 match ow b with
 | .own (.sl r') q => if r' = r /\ p <+: q then
   (match q.drop p.length with
    | [] => .own (.ar J) []
    | i :: q2 => if lo <= i /\ i < lo + n then .own (.ar J) ((i - lo) :: q2) else .no)
   else .own (.sl r') q
 | o => o
def eL (ow : Nat -> Ow) (r : Nat) (p : List Nat) : Nat -> Ow := fun b =>
 match ow b with
 | .own (.sl r') q => if r' = r /\ p <+: q then .z else .own (.sl r') q
 | o => o
theorem Zkh {r : Nat} {p : List Nat} {lo n : Nat} : Zs w ow w (dI ow r p J lo n) := fun b hb => ⟨by simp [dI, hb], rfl⟩
theorem Z6p {r : Nat} {p : List Nat} : Zs w ow w (eL ow r p) := fun b hb => ⟨by simp [eL, hb], rfl⟩
theorem Zkf {r : Nat} {p : List Nat} {lo n b : Nat} {r' : aH} {q : List Nat} (hr : r' ≠ .sl r) (hb : ow b = .own r' q) : dI ow r p J lo n b = .own r' q := by
 unfold dI
 rw [hb]
 cases r' with
 | sl x => simp only; rw [if_neg (fun h => hr (by rw [h.1]))]
 | ar x => rfl
 | rs x => rfl
theorem Z6o {r : Nat} {p : List Nat} {b : Nat} {r' : aH} {q : List Nat} (hr : r' ≠ .sl r) (hb : ow b = .own r' q) : eL ow r p b = .own r' q := by
 unfold eL
 rw [hb]
 cases r' with
 | sl x => simp only; rw [if_neg (fun h => hr (by rw [h.1]))]
 | ar x => rfl
 | rs x => rfl
theorem Zkd {r : Nat} {p : List Nat} {lo n b : Nat} {q : List Nat} (hb : ow b = .own (.sl r) q) (hq : ¬ p <+: q) : dI ow r p J lo n b = .own (.sl r) q := by
 unfold dI
 rw [hb]
 simp only
 rw [if_neg (fun h => hq h.2)]
theorem Z6m {r : Nat} {p : List Nat} {b : Nat} {q : List Nat} (hb : ow b = .own (.sl r) q) (hq : ¬ p <+: q) : eL ow r p b = .own (.sl r) q := by
 unfold eL
 rw [hb]
 simp only
 rw [if_neg (fun h => hq h.2)]
theorem Zkg {r : Nat} {p : List Nat} {lo n b : Nat} (hb : ow b = .own (.sl r) p) : dI ow r p J lo n b = .own (.ar J) [] := by
 unfold dI
 rw [hb]
 simp
theorem Zke {r : Nat} {p : List Nat} {lo n b i : Nat} {q : List Nat} (hb : ow b = .own (.sl r) (p ++ (lo + i) :: q)) (hi : i < n) : dI ow r p J lo n b = .own (.ar J) (i :: q) := by
 unfold dI
 rw [hb]
 simp [hi]
theorem Z6n {r : Nat} {p : List Nat} {b : Nat} {q : List Nat} (hb : ow b = .own (.sl r) (p ++ q)) : eL ow r p b = .z := by
 unfold eL
 rw [hb]
 simp
theorem Zkc {r : Nat} {p : List Nat} {lo n b i : Nat} {q : List Nat} (h : dI ow r p J lo n b = .own (.ar i) q) : i = J \/ ow b = .own (.ar i) q := by
 unfold dI at h
 cases hb : ow b with
 | no => simp [hb] at h
 | z => simp [hb] at h
 | own r' q' =>
  rw [hb] at h
  cases r' with
  | sl x =>
   simp only at h
   split at h
   ·split at h
    ·simp at h; exact .inl h.1.symm
    ·split at h
     ·simp at h; exact .inl h.1.symm
     ·cases h
   ·cases h
  | ar x => exact .inr h
  | rs x => cases h
theorem Z6l {r : Nat} {p : List Nat} {b i : Nat} {q : List Nat} (h : eL ow r p b = .own (.ar i) q) : ow b = .own (.ar i) q := by
 unfold eL at h
 cases hb : ow b with
 | no => simp [hb] at h
 | z => simp [hb] at h
 | own r' q' =>
  rw [hb] at h
  cases r' with
  | sl x =>
   simp only at h
   split at h <;> cases h
  | ar x => exact h
  | rs x => cases h
theorem Ze0 {r : Nat} {c : RC} {p : List Nat} {o : Ob} {sz : Nat} {es : List T} (hc : (σ r).rc = some c) (hn : c.t.nav p = some (.l o sz es)) : c.bi = true -> p ≠ [] := fun hb hp => by
 subst hp
 rcases Zen hc with ⟨_, cs, ht, _⟩ | ⟨h, _⟩
 ·rw [ht] at hn; simp [T.nav] at hn
 ·rw [hb] at h; cases h
theorem Z7i (h : Rel X U J σ a w ow) {tk : Bool} {r : Nat} {k : K} {p : List Nat} {z lo n : Nat} {t : T} {v : Value} (hv : dc σ a w r k p z lo n v)
  (af : (dL tk r k p lo n).run σ = some (t, σ')) :
  ∃ ow', Gh X U J (J + 1) σ a w ow σ' ow' /\ rep X.tab X.mv w ow' (some (.ar J, [])) t [v] := by
 obtain ⟨c, o, sz, es, hc, hk, hn, et⟩ := Z7j af
 obtain ⟨bz, hh, bG⟩ := Zgh (w := w) (v := aK a r) hc (h.slot r) hn
 obtain ⟨A, C, rfl⟩ : ∃ A C, bz = .slice A es.length C := by
  obtain ⟨A, C, e, _⟩ := Zfu bG
  exact ⟨A, C, by simpa using e⟩
 obtain ⟨_, hl, gN⟩ := (hv.2 c hc hk).2 o sz es hn _ _ _ hh
 have gK := Za2 (.sl r) p c.t []
 rw [Y66] at gK
 rcases et with ⟨rfl, rfl, rfl⟩ | ⟨rfl, rfl, rfl⟩ | ⟨rfl, rfl, rfl⟩
 ·refine ⟨ow, Gh.refl h (by omega), ?_⟩
  exact Zg0 (fun b hb => ⟨hb, rfl⟩) (fun _ => by simp) bG gN hl (fun x => by simp [Ob.own] at x) (fun b hb => ⟨by simpa [Ob.loc, Ob.own] using hb, rfl⟩) (fun i _ => by simp [Ob.loc, Ob.own, Loc.push, Tr])
 ·-- taken
  have n0 : c.t.cq (some (.sl r, [])) p = some (.sl r, p) := by
   rcases gK with e | e
   ·rw [e] at bG
    simp [rep, Ob.own] at bG
   ·exact e
  rw [n0] at bG
  have hl1 : Ob.loc .y (some (aH.sl r, p)) = some (aH.sl r, p) := rfl
  have hl2 : Ob.loc .y (some (aH.ar J, ([] : List Nat))) = some (aH.ar J, []) := rfl
  have Mc : ∀ b q, ow b ≠ .own (.ar J) q := fun b q e => Nat.lt_irrefl _ (h.air b J q e)
  have bF : ∀ b i q, dI ow r p J lo n b = .own (.ar i) q -> i < J + 1 := fun b i q e => by
   rcases Zkc e with e | e
   ·omega
   ·have := h.air b i q e; omega
  have hg : Rel X U (J + 1) (upd σ r ({ c with t := c.t.put p .u } : RC).av) a w (dI ow r p J lo n) /\
    ∀ r', aQ U σ a w (upd σ r ({ c with t := c.t.put p .u } : RC).av) a w r' := by
   have gL := fun b r' q (hr : r' ≠ aH.sl r) (hb : ow b = .own r' q) => Zkf (J := J) (p := p) (lo := lo) (n := n) hr hb
   have hno : ∀ b, ow b = .no -> dI ow r p J lo n b = .no := fun b hb => by simp [dI, hb]
   by_cases hp : c.bi = true \/ p ≠ []
   ·obtain ⟨h1, h2⟩ := Zgl (σ2 := upd σ r ({ c with t := c.t.put p .u } : RC).av) (a2 := a) (cv := .u) hc (h.slot r) hn hp (Ze0 hc hn) Zkh
     (fun vs' hvs => by
      obtain ⟨v', rfl⟩ := Y43.1 (Zfz hvs (fun _ => by simp))
      have := Zfo _ hvs
      simp only [rep]; exact ⟨v', rfl, by simpa using this⟩) (fun b q' hb hq => ⟨Zkd (J := J) (lo := lo) (n := n) hb hq, rfl⟩)
    refine Z7b h h2 ?_ Zkh gL hno bF ?_ (Zeo hc).1 (Zeo hc).2
    ·have hst := h.bZ r
     rcases Zen hc with ⟨hb, cs, ht, hσ⟩ | ⟨hb, hσ⟩ <;> rw [hσ] at hst <;> simp only [AV.stamps] at hst
     all_goals
      generalize hav : ({ c with t := c.t.put p .u } : RC).av = av at h1
      cases av <;> simp only [AV.rc, reduceCtorEq, Y89] at h1 <;> simp only [AV.stamps]
      all_goals
       have hkk := congrArg RC.k h1
       simp only at hkk
       rw [hkk]; exact hst
    ·refine Zes (c' := { c with t := c.t.put p .u }) hc (by simp only [upd, if_true]; exact h1) rfl rfl (Sh.put (Hs.refl w) (Sh.scalar _ (fun k => rfl) (fun _ _ _ => by simp) (fun _ => by simp)) p c.t hn) (Hs.refl w) rfl
   ·have hb : c.bi = false := by cases hh : c.bi <;> simp [hh] at hp ⊢
    have hp0 : p = [] := by
     cases p with
     | nil => rfl
     | cons => simp at hp
    subst hp0
    have hav : ({ c with t := c.t.put [] .u } : RC).av = .u := by
     obtain ⟨ib, kk, t⟩ := c
     simp only at hb
     subst hb
     cases t <;> rfl
    rw [hav]
    refine Z7b h (by simp [aP]) (by simp [AV.stamps]) Zkh gL hno bF ?_ (Zeo hc).1 (Zeo hc).2
    exact aQ.fresh fun c' hc' => by simp [upd, AV.rc] at hc'
  refine ⟨dI ow r p J lo n, ⟨hg.1, Zkh, fun b i q _ hb => Zkf (by simp) hb, hg.2⟩, ?_⟩
  refine Zg0 Zkh (fun _ => by simp) bG gN hl (fun _ => by simp) (fun b hb => ⟨?_, rfl⟩) (fun i hi b q hb => ⟨?_, rfl⟩)
  ·rw [hl1] at hb
   rw [hl2]
   exact Zkg hb
  ·simp only [Y21, Y24, Y66] at hb
   rw [Zke hb hi]
   simp
 ·-- left where it Md
  have n0 : c.t.cq (some (.sl r, [])) p = some (.sl r, p) := by
   rcases gK with e | e
   ·rw [e] at bG
    simp [rep, Ob.own] at bG
   ·exact e
  have bF : ∀ b i q, eL ow r p b = .own (.ar i) q -> i < J + 1 := fun b i q e => by
   have := h.air b i q (Z6l e); omega
  have hfz : Fz w ow w (eL ow r p) (some (.sl r, p)) := fun b q hb => ⟨Z6n hb, rfl⟩
  have hg : Rel X U (J + 1) (upd σ r ({ c with t := c.t.put p (.l .n sz (fzs es)) } : RC).av) a w (eL ow r p) /\
    ∀ r', aQ U σ a w (upd σ r ({ c with t := c.t.put p (.l .n sz (fzs es)) } : RC).av) a w r' := by
   have gL := fun b r' q (hr : r' ≠ aH.sl r) (hb : ow b = .own r' q) => Z6o (p := p) hr hb
   have hno : ∀ b, ow b = .no -> eL ow r p b = .no := fun b hb => by simp [eL, hb]
   by_cases hp : c.bi = true \/ p ≠ []
   ·obtain ⟨h1, h2⟩ := Zgl (σ2 := upd σ r ({ c with t := c.t.put p (.l .n sz (fzs es)) } : RC).av) (a2 := a) (cv := .l .n sz (fzs es)) hc (h.slot r) hn hp (Ze0 hc hn) Z6p
     (fun vs' hvs => by
      rw [n0] at hvs ⊢
      have := Zfs (c := some (.sl r, p)) Z6p X.mv (.l .y sz es) (some (.sl r, p)) hfz hvs
      simpa only [T.fz] using this) (fun b q' hb hq => ⟨Z6m hb hq, rfl⟩)
    refine Z7b h h2 ?_ Z6p gL hno bF ?_ (Zeo hc).1 (Zeo hc).2
    ·have hst := h.bZ r
     rcases Zen hc with ⟨hb, cs, ht, hσ⟩ | ⟨hb, hσ⟩ <;> rw [hσ] at hst <;> simp only [AV.stamps] at hst
     all_goals
      generalize hav : ({ c with t := c.t.put p (.l .n sz (fzs es)) } : RC).av = av at h1
      cases av <;> simp only [AV.rc, reduceCtorEq, Y89] at h1 <;> simp only [AV.stamps]
      all_goals
       have hkk := congrArg RC.k h1
       simp only at hkk
       rw [hkk]; exact hst
    ·refine Zes (c' := { c with t := c.t.put p (.l .n sz (fzs es)) }) hc (by simp only [upd, if_true]; exact h1) rfl rfl (Sh.put (Hs.refl w) (by simpa only [T.fz] using Sh.fz w (.l .y sz es)) p c.t hn) (Hs.refl w) rfl
   ·have hb : c.bi = false := by cases hh : c.bi <;> simp [hh] at hp ⊢
    have hp0 : p = [] := by
     cases p with
     | nil => rfl
     | cons => simp at hp
    subst hp0
    have hav : ({ c with t := c.t.put [] (.l .n sz (fzs es)) } : RC).av = .x (.l .n sz (fzs es)) := by
     obtain ⟨ib, kk, t⟩ := c
     simp only at hb
     subst hb
     cases t <;> rfl
    rw [hav]
    refine Z7b h ?_ (by simp [AV.stamps]) Z6p gL hno bF ?_ (Zeo hc).1 (Zeo hc).2
    ·rcases Zen hc with ⟨hb', _⟩ | ⟨_, hσ⟩
     ·rw [hb] at hb'; cases hb'
     ·have hs := h.slot r
      rw [hσ] at hs
      simp only [aP] at hs ⊢
      simp only [T.nav, Y89] at hn
      rw [hn] at hs
      have := Zfs (c := some (.sl r, [])) Z6p X.mv (.l .y sz es) none hfz hs.2
      simpa only [T.fz] using this
    ·exact aQ.fresh fun c' hc' => by simp [upd, AV.rc] at hc'
  refine ⟨eL ow r p, ⟨hg.1, Z6p, fun b i q _ hb => Z6o (by simp) hb, hg.2⟩, ?_⟩
  rw [n0] at bG
  have h5 := Zfs (c := some (.sl r, p)) Z6p X.mv (.l .y sz es) none hfz bG
  simp only [T.fz] at h5
  exact Zg0 (w' := w) (ow' := eL ow r p) (c' := some (.ar J, [])) (fun b hb => ⟨hb, rfl⟩) (fun _ => by simp) h5 gN (by rw [Z6w]; exact hl) (fun x => by simp [Ob.own] at x)
   (fun b hb => ⟨by simpa [Ob.loc, Ob.own] using hb, rfl⟩) (fun i _ => by simp [Ob.loc, Ob.own, Loc.push, Tr])
end
end Go.Wr
namespace Go.Wr
mutual
def T.isConst : T -> Value -> Bool
 | .i k n, .int k' n' => decide (k = k') && decide (n = n')
 | .b x, .bool y => x == y
 | .s x, .string y => decide (x = y)
 | .l .y _ [], .slice none 0 0 => true
 | .l .n _ [], .slice none 0 0 => true
 | .a cs, .agg vs => T.bN cs vs.toList
 | .u, v => dK v
 | _, _ => false
def T.bN : List T -> List Value -> Bool
 | [], [] => true
 | t :: ts, v :: vs => t.isOne && t.isConst v && T.bN ts vs
 | _, _ => false
def T.isOne : T -> Bool
 | .a _ => false
 | _ => true
end
def Opd.is (tab : Nat -> FuncId) : Opd -> Operand -> Bool
 | .t n, .tmp m => n == m && decide (n < 1000)
 | .k (.f g []), .func f => tab g == f
 | .k c, .const v => c.isConst v
 | _, _ => false
section
variable {tab : Nat -> FuncId} {mv : Nat -> Value} {w : World} {ow : Nat -> Ow}
theorem Z8s {o : Ob} {sz : Nat} {es : List T} {v : Value} (h : (T.l o sz es).isConst v = true) : es = [] /\ v = .slice none 0 0 /\ (o = .y \/ o = .n) := by
 unfold T.isConst at h
 split at h <;> simp_all
theorem Z35 (t : T) (v : Value) (c : Loc) (h : t.isConst v = true) (hc : c = none -> ∀ sz es, t ≠ .l .y sz es) (ha : ∀ cs, t ≠ .a cs) : rep tab mv w ow c t [v] := by
 cases t with
 | i k n => cases v <;> simp_all [T.isConst, rep]
 | b x => cases v <;> simp_all [T.isConst, rep]
 | s x => cases v <;> simp_all [T.isConst, rep]
 | u => simp only [T.isConst] at h; simp [rep, h]
 | f _ _ => simp [T.isConst] at h
 | p _ => simp [T.isConst] at h
 | a cs => exact absurd rfl (ha cs)
 | l o sz es =>
  obtain ⟨rfl, rfl, ho⟩ := Z8s h
  simp only [rep]
  refine ⟨fun x e => ?_, none, 0, rfl, by simp, fun k x => ?_, rfl⟩
  ·rcases ho with rfl | rfl
   ·exact hc e sz [] rfl
   ·simp [Ob.own] at x
  ·rcases ho with rfl | rfl <;> cases x
theorem Z36 : ∀ (ts : List T) (vs : List Value) (k : Nat) (r : aH) (q : List Nat), T.bN ts vs = true -> aR tab mv w ow (some (r, q)) k ts vs
 | [], [], _, _, _, _ => by simp [aR]
 | [], _ :: _, _, _, _, h => by simp [T.bN] at h
 | _ :: _, [], _, _, _, h => by simp [T.bN] at h
 | t :: ts, v :: vs, k, r, q, h => by
  simp only [T.bN, Y2] at h
  simp only [aR]
  refine ⟨v, vs, rfl, Z35 t v _ h.1.2 (fun e => by simp [Zdc] at e) (fun cs e => ?_), Z36 ts vs (k + 1) r q h.2⟩
  subst e
  simp [T.isOne] at h
end
section
variable {X : Cx} {U : Nat -> Prop} {J J' : Nat} {σ σ' σ2 : St} {a a2 : Act} {w w' w2 : World} {ow ow' ow2 : Nat -> Ow}
theorem Z43 {a : Act} {n : Nat} (h : n < 1000) : a.eval (.tmp n) = aK a n := by
 simp [Act.eval, aK, h]
def cw (X : Cx) (U : Nat -> Prop) (σ : St) (a : Act) (w : World) (ow : Nat -> Ow) (x : Opd) (v : Value) : AV -> Prop
 | .u => True
 | .x t => rep X.tab X.mv w ow none t [v]
 | .own k t => match x with
  | .t s => s < 1000 /\ v = aK a s /\ σ s = .own k t
  | .k _ => ∃ sz, t = .l .y sz [] /\ v = .slice none 0 0
 | .w r k p z lo n => dc σ a w r k p z lo n v /\ U k.e /\ U k.h /\ U k.d
 | .st cs => match x with
  | .t s => s < 1000 /\ v = aK a s /\ σ s = .st cs
  | .k _ => ∃ ts vs, cs = ts.map .x /\ v = .agg vs /\ T.bN ts vs.toList = true
 | .box k cs => match x with
  | .t s => s < 1000 /\ v = aK a s /\ σ s = .box k cs
  | .k _ => False
 | .ptr r k p off => l9 σ a w r k p off v /\ U k.e /\ U k.h /\ U k.d
 | .q t off => ∃ b o vs, v = .pointer (some ⟨b, o + off, none⟩) /\ ow b = .z /\ At w b o vs /\ rep X.tab X.mv w ow none t vs
 | .tup n => ∃ vs : Array Value, v = .tuple vs /\ vs.size = n
theorem Zy : ∀ (ts : List T) (vs : List Value), T.bN ts vs = true -> vs.length = ts.length
 | [], [], _ => rfl
 | [], _ :: _, h => by simp [T.bN] at h
 | _ :: _, [], h => by simp [T.bN] at h
 | t :: ts, v :: vs, h => by simp only [T.bN, Y2] at h; simp [Zy ts vs h.2]
theorem Zem (h : Rel X U J σ a w ow) {e : Nat} {x : Opd} {o : Operand} (hx : x.is X.tab o = true) {v : AV} (af : (raw e x).run σ = some (v, σ')) :
  σ' = σ /\ cw X U σ a w ow x (a.eval o) v := by
 cases x with
 | t n =>
  cases o <;> simp [Opd.is] at hx
  obtain ⟨rfl, hn⟩ := hx
  simp only [raw] at af
  obtain ⟨rfl, rfl⟩ := Zhj af
  refine ⟨rfl, ?_⟩
  have hs := h.slot n
  have hst := h.bZ n
  rw [Z43 hn]
  cases hσ : σ' n <;> rw [hσ] at hs hst <;> simp only [aP, AV.stamps] at hs hst <;> simp only [cw]
  case x t => exact hs
  case own k t => exact ⟨hn, trivial, hσ⟩
  case w => exact ⟨hs, hst⟩
  case st => exact ⟨hn, trivial, hσ⟩
  case box => exact ⟨hn, trivial, hσ⟩
  case ptr => exact ⟨hs, hst⟩
  case q => exact hs
  case tup => exact hs
 | k c =>
  simp only [raw] at af
  obtain ⟨rfl, rfl⟩ := Zhk af
  refine ⟨rfl, ?_⟩
  cases o with
  | tmp m => cases c <;> simp [Opd.is] at hx
  | global g => cases c <;> simp [Opd.is] at hx
  | func f =>
   cases c <;> simp [Opd.is] at hx
   rename_i g env
   cases env <;> simp [Opd.is] at hx
   subst hx
   simp only [eJ, cw, rep, Act.eval]
   exact ⟨#[], rfl, by simp [aR]⟩
  | const v =>
   have hx' : c.isConst v = true := by
    cases c <;> simp only [Opd.is] at hx <;> exact hx
   simp only [Act.eval]
   cases c with
   | a cs =>
    cases v <;> simp only [T.isConst, Y9] at hx'
    rename_i vs
    exact ⟨cs, vs, rfl, rfl, hx'⟩
   | l ob sz es =>
    obtain ⟨rfl, rfl, ho⟩ := Z8s hx'
    rcases ho with rfl | rfl
    ·exact ⟨sz, rfl, rfl⟩
    ·exact Z35 _ _ none hx' (fun _ _ _ => by simp) (fun _ => by simp)
   | i k n => exact Z35 _ v none hx' (fun _ _ _ => by simp) (fun _ => by simp)
   | b x => exact Z35 _ v none hx' (fun _ _ _ => by simp) (fun _ => by simp)
   | s x => exact Z35 _ v none hx' (fun _ _ _ => by simp) (fun _ => by simp)
   | u => exact Z35 _ v none hx' (fun _ _ _ => by simp) (fun _ => by simp)
   | f g env => simp [T.isConst] at hx'
   | p t => simp [T.isConst] at hx'
end
end Go.Wr
namespace Go.Wr
theorem Z6y (es : List T) (lo n : Nat) : fzs (sub es lo n) = sub (fzs es) lo n := by
 simp [Z6x, sub, List.map_take, List.map_drop]
section
variable {X : Cx} {U : Nat -> Prop} {J J' : Nat} {σ σ' σ2 : St} {a a2 : Act} {w w' w2 : World} {ow ow' ow2 : Nat -> Ow}
theorem Zah {tab : Nat -> FuncId} {mv : Nat -> Value} {c c' : Loc} {t : T} {vs : List Value} (ht : t.loose = true) (h : rep tab mv w ow c t vs) : rep tab mv w ow c' t vs := by
 cases t
 case l o sz es =>
  cases o <;> simp only [T.loose, Y9] at ht
  simpa [rep, Ob.own, Ob.loc] using h
 all_goals first | (simp only [T.loose, Y9] at ht; done) | simpa only [rep] using h
def ja (ow : Nat -> Ow) (B : List Nat) (ow2 : Nat -> Ow) : Prop :=
 (∀ b, ow b = .z -> ow2 b = .z) /\ ∀ r ∈ B, ∀ b q, ow b = .own (.sl r) q -> ow2 b = .z
theorem ja.zs {B : List Nat} (h : ja ow B ow2) : Zs w ow w ow2 := fun b hb => ⟨h.1 b hb, rfl⟩
theorem Zif (h : Rel X U J σ a w ow) {r : Nat} {k : K} {p : List Nat} {z lo n : Nat} {t : T} {v : Value} (hv : dc σ a w r k p z lo n v)
  (af : (qp r k p lo n).run σ = some (t, σ')) : σ' = σ /\ (∃ sz es, t = .l .n sz es /\ es.length = n) /\ ∀ ow2 mv', ja ow [r] ow2 -> rep X.tab mv' w ow2 none t [v] := by
 unfold qp at af
 obtain ⟨c, σ1, h1, h2⟩ := Zh3 af
 obtain ⟨rfl, hc, hk⟩ := Zgg h1
 cases hn : c.t.nav p with
 | none => simp [hn, Pg.run] at h2
 | some node =>
  simp only [hn] at h2
  cases node <;> simp only [Pg.run, reduceCtorEq] at h2
  rename_i o sz es
  obtain ⟨rfl, rfl⟩ := Zhk h2
  obtain ⟨bz, hh, bG⟩ := Zgh (w := w) (v := aK a r) hc (h.slot r) hn
  obtain ⟨A, C, rfl⟩ : ∃ A C, bz = .slice A es.length C := by
   obtain ⟨A, C, e, _⟩ := Zfu bG
   exact ⟨A, C, by simpa using e⟩
  obtain ⟨_, hl, gN⟩ := (hv.2 c hc hk).2 o sz es hn _ _ _ hh
  have gK := Za2 (.sl r) p c.t []
  rw [Y66] at gK
  refine ⟨rfl, ⟨sz, _, rfl, by rw [Z6w, Zk3 _ _ _ hl]⟩, fun ow2 mv' hB => ?_⟩
  have hfz : Fz w ow w ow2 (c.t.cq (some (.sl r, [])) p) := by
   rcases gK with e | e <;> rw [e]
   ·trivial
   ·exact fun b q hb => ⟨hB.2 r (by simp) b _ hb, rfl⟩
  have h5 := Zfs hB.zs mv' (.l o sz es) none hfz bG
  simp only [T.fz] at h5
  rw [Z6y]
  exact Zg0 (w' := w) (ow' := ow2) (c' := none) (fun b hb => ⟨hb, rfl⟩) (fun _ => by simp) h5 gN (by rw [Z6w]; exact hl) (fun x => by simp [Ob.own] at x)
   (fun b hb => ⟨by simpa [Ob.loc, Ob.own] using hb, rfl⟩) (fun i _ => by simp [Ob.loc, Ob.own, Loc.push, Tr])
theorem Zfw {tab : Nat -> FuncId} {mv : Nat -> Value} {w : World} {ow ow2 : Nat -> Ow} (hz : Zs w ow w ow2) (mv' : Nat -> Value) : ∀ (t : T) {c : Loc} {vs : List Value}, rep tab mv w ow c t vs -> rep tab mv' w ow2 none t.fz vs -> rep tab mv' w ow2 none t.lz vs
 | .l .n sz es, c, vs, h, _ => by
  simp only [T.lz]
  have h2 : rep tab mv w ow none (.l .n sz es) vs := by
   simp only [rep] at h ⊢
   obtain ⟨_, A, cap, rfl, h1, h2, h3⟩ := h
   refine ⟨fun x => by simp [Ob.own] at x, A, cap, rfl, h1, (fun k hk => by cases hk), ?_⟩
   cases A with
   | none => exact h3
   | some ad => exact h3
  exact Zfx mv' _ (Zg1 hz _ (c := none) (c' := none) trivial h2)
 | .l .y _ _, _, _, _, h => h
 | .l (.m _) _ _, _, _, _, h => h
 | .i _ _, _, _, _, h => h
 | .b _, _, _, _, h => h
 | .s _, _, _, _, h => h
 | .a _, _, _, _, h => h
 | .f _ _, _, _, _, h => h
 | .p _, _, _, _, h => h
 | .u, _, _, _, h => h
theorem Z9t (h : Rel X U J σ a w ow) {s : Nat} {B : List Nat} : ∀ (cs : List Cell) {j : Nat} {vs : List Value} {ts : List T} {σ' : St}, (∀ c ∈ cs, c.fy = true -> s ∈ B) -> (∀ c ∈ cs, ∀ r ∈ c.bor, r ∈ B) -> dM X σ a w ow s j cs vs ->
  (eQ cs).run σ = some (ts, σ') -> σ' = σ /\ ∀ ow2 mv', ja ow B ow2 -> aR X.tab mv' w ow2 none j ts vs
 | [], j, vs, ts, σ', _, _, hc, af => by
  simp only [eQ] at af
  obtain ⟨rfl, rfl⟩ := Zhk af
  exact ⟨rfl, fun ow2 mv' _ => by simpa only [dM, aR] using hc⟩
 | c :: cs, j, vs, ts, σ', h1s, h2s, hc, af => by
  simp only [eQ] at af
  obtain ⟨t, σ1, h1, h2⟩ := Zh3 af
  obtain ⟨ts', σ2, h3, h4⟩ := Zh3 h2
  obtain ⟨rfl, rfl⟩ := Zhk h4
  simp only [dM] at hc
  obtain ⟨v, rest, rfl, bD, cM⟩ := hc
  have hone : σ1 = σ /\ ∀ ow2 mv', ja ow B ow2 -> rep X.tab mv' w ow2 none t [v] := by
   cases c with
   | x t0 =>
    simp only [jT] at h1
    obtain ⟨rfl, rfl⟩ := Zhk h1
    simp only [dm] at bD
    refine ⟨rfl, fun ow2 mv' hB => ?_⟩
    cases hl : t0.loose with
    | true => exact Zfw hB.zs mv' t0 bD (Zfs (c := none) hB.zs mv' t0 none trivial (Zah hl bD))
    | false => exact Zfw hB.zs mv' t0 bD <| Zfs (c := some (.sl s, [j])) hB.zs mv' t0 none (fun b q hb => ⟨hB.2 s (h1s (.x t0) Y57 (by simp [Cell.fy, hl])) b _ hb, rfl⟩) bD
   | w r k p z lo n =>
    simp only [jT] at h1
    simp only [dm] at bD
    obtain ⟨h5, _, h6⟩ := Zif h bD h1
    exact ⟨h5, fun ow2 mv' hB => h6 ow2 mv' ⟨hB.1, fun r' hr => hB.2 r' (by simp at hr; subst hr; exact h2s (.w r' k p z lo n) Y57 r' (by simp [Cell.bor]))⟩⟩
  obtain ⟨e1, hone⟩ := hone
  rw [e1] at h3
  obtain ⟨rfl, cc⟩ := Z9t h cs (fun c hc => h1s c (by simp [hc])) (fun c hc => h2s c (by simp [hc])) cM h3
  refine ⟨rfl, fun ow2 mv' hB => ?_⟩
  simp only [aR]
  exact ⟨v, rest, rfl, hone ow2 mv' hB, cc ow2 mv' hB⟩
theorem Z32 : ∀ (ts : List T) (vs : List Value) {ts' : List T} {σ' : St} (j : Nat), T.bN ts vs = true -> (eQ (ts.map .x)).run σ = some (ts', σ') ->
  σ' = σ /\ ∀ ow2 mv', aR X.tab mv' w ow2 none j ts' vs
 | [], vs, ts', σ', j, h, af => by
  simp only [List.map_nil, eQ] at af
  obtain ⟨rfl, rfl⟩ := Zhk af
  cases vs <;> simp [T.bN] at h
  exact ⟨rfl, fun _ _ => by simp [aR]⟩
 | t :: ts, [], ts', σ', j, h, af => by simp [T.bN] at h
 | t :: ts, v :: vs, ts', σ', j, h, af => by
  simp only [Y50, eQ] at af
  obtain ⟨t1, σ1, h1, h2⟩ := Zh3 af
  obtain ⟨ts2, σ2, h3, h4⟩ := Zh3 h2
  obtain ⟨rfl, rfl⟩ := Zhk h4
  simp only [jT] at h1
  obtain ⟨rfl, e1⟩ := Zhk h1
  simp only [T.bN, Y2] at h
  rw [e1] at h3
  obtain ⟨rfl, h5⟩ := Z32 ts vs (j + 1) h.2 h3
  refine ⟨rfl, fun ow2 mv' => ?_⟩
  simp only [aR]
  refine ⟨v, vs, rfl, ?_, h5 ow2 mv'⟩
  show rep X.tab mv' w ow2 none t.lz [v]
  have hh := h.1.2
  cases t with
  | l o sz es =>
   obtain ⟨rfl, rfl, ho⟩ := Z8s hh
   have : (T.l o sz []).lz = .l .n sz [] := by rcases ho with rfl | rfl <;> rfl
   rw [this]
   exact Z35 (.l .n sz []) _ none (by simp [T.isConst]) (fun _ _ _ => by simp) (fun _ => by simp)
  | a cs => simp [T.isOne] at h
  | f _ _ => simp [T.isConst] at hh
  | p _ => simp [T.isConst] at hh
  | i k n => exact Z35 (.i k n) _ none hh (fun _ _ _ => by simp) (fun _ => by simp)
  | b x => exact Z35 (.b x) _ none hh (fun _ _ _ => by simp) (fun _ => by simp)
  | s x => exact Z35 (.s x) _ none hh (fun _ _ _ => by simp) (fun _ => by simp)
  | u => exact Z35 .u _ none hh (fun _ _ _ => by simp) (fun _ => by simp)
theorem Zfy {tab : Nat -> FuncId} {mv : Nat -> Value} {c : Loc} {t : T} {v : Value} (h : rep tab mv w ow c t [v]) (ht : ∀ cs, t ≠ .a cs) (hu : t ≠ .u) : v.cells = #[v] := by
 cases t <;> simp only [rep] at h
 case a cs => exact absurd rfl (ht cs)
 case u => exact absurd rfl hu
 case l o sz es => obtain ⟨_, A, cap, e, _⟩ := h; simp at e; subst e; rfl
 case f => obtain ⟨_, e, _⟩ := h; simp at e; subst e; rfl
 case p => obtain ⟨_, _, _, _, e, _⟩ := h; simp at e; subst e; rfl
 all_goals (simp at h; subst h; rfl)
theorem Z9u (h : Rel X U J σ a w ow) {x : Opd} {v : AV} {val : Value} {t : T} (hr : cw X U σ a w ow x val v) (af : (fx v).run σ = some (t, σ')) :
  σ' = σ /\ ∀ ow2 mv', ja ow (gz x v) ow2 -> match v with
   | .st _ => ∃ vs : Array Value, val = .agg vs /\ rep X.tab mv' w ow2 none t vs.toList
   | _ => rep X.tab mv' w ow2 none t [val] := by
 cases v <;> simp only [fx, Pg.run, reduceCtorEq] at af
 case x t0 =>
  obtain ⟨rfl, rfl⟩ := Zhk af
  simp only [cw] at hr
  exact ⟨rfl, fun ow2 mv' hB => Zfx mv' _ (Zg1 hB.zs _ (c := none) (c' := none) trivial hr)⟩
 case own k t0 =>
  obtain ⟨rfl, rfl⟩ := Zhk af
  refine ⟨rfl, fun ow2 mv' hB => ?_⟩
  cases x with
  | t s =>
   simp only [cw] at hr
   obtain ⟨_, rfl, hσ⟩ := hr
   have hs := h.slot s
   rw [hσ] at hs
   simp only [aP] at hs
   exact Zfs (c := some (.sl s, [])) hB.zs mv' _ none (fun b q hb => ⟨hB.2 s (by simp [gz]) b _ hb, rfl⟩) hs.2
  | k c =>
   simp only [cw] at hr
   obtain ⟨sz, rfl, rfl⟩ := hr
   exact Z35 (.l .n sz []) _ none (by simp [T.isConst]) (fun _ _ _ => by simp) (fun _ => by simp)
 case w r k p z lo n =>
  simp only [cw] at hr
  obtain ⟨h5, _, h6⟩ := Zif h hr.1 af
  exact ⟨h5, fun ow2 mv' hB => h6 ow2 mv' hB⟩
 case st cs =>
  obtain ⟨ts, σ1, h1, h2⟩ := Zh3 af
  obtain ⟨rfl, rfl⟩ := Zhk h2
  cases x with
  | t s =>
   simp only [cw] at hr
   obtain ⟨_, rfl, hσ⟩ := hr
   have hs := h.slot s
   rw [hσ] at hs
   simp only [aP] at hs
   obtain ⟨vs, he, hc⟩ := hs
   obtain ⟨rfl, h6⟩ := Z9t (B := gz (.t s) (.st cs)) h cs (fun c hc ho => by
     have : cs.any Cell.fy = true := Y20.2 ⟨c, hc, ho⟩
     simp [gz, this]) (fun c hc r hr => by
     simp only [gz, Y52, Y58]
     exact .inr ⟨c, hc, hr⟩) hc h1
   exact ⟨rfl, fun ow2 mv' hB => ⟨vs, he, by simp only [rep]; exact h6 ow2 mv' hB⟩⟩
  | k c =>
   simp only [cw] at hr
   obtain ⟨ts0, vs, rfl, rfl, hc⟩ := hr
   obtain ⟨rfl, h6⟩ := Z32 (X := X) (w := w) ts0 vs.toList 0 hc h1
   exact ⟨rfl, fun ow2 mv' _ => ⟨vs, rfl, by simp only [rep]; exact h6 ow2 mv'⟩⟩
theorem Zaf (h : Rel X U J σ a w ow) {e : Nat} {x : Opd} {o : Operand} (hx : x.is X.tab o = true) {v : AV} (af : (look e x).run σ = some (v, σ')) :
  σ' = σ /\ cw X U σ a w ow x (a.eval o) v /\ (∀ k t, v = .own k t -> ∃ c, x = .k c) /\ (∀ k cs, v ≠ .box k cs) := by
 cases x with
 | k c =>
  obtain ⟨h1, h2⟩ := Zem h hx (e := e) (x := .k c) (v := v) af
  refine ⟨h1, h2, fun _ _ _ => ⟨c, rfl⟩, fun k cs he => ?_⟩
  subst he
  exact h2
 | t n =>
  have hx' := hx
  cases o <;> simp [Opd.is] at hx'
  obtain ⟨rfl, hn⟩ := hx'
  simp only [look] at af
  obtain ⟨v0, σ1, h1, h2⟩ := Zh3 af
  obtain ⟨rfl, rfl⟩ := Zhj h1
  have bm := Zem h hx (e := e) (x := .t n) (v := σ1 n) (σ' := σ1) rfl
  have hs := h.slot n
  have hst := h.bZ n
  cases hσ : σ1 n <;> rw [hσ] at h2 hs hst bm
  case own k t =>
   simp only [aP, AV.stamps] at hs hst
   obtain ⟨⟨o, sz, es, rfl, hown⟩, bG⟩ := hs
   simp only at h2
   obtain ⟨rfl, rfl⟩ := Zhk h2
   obtain ⟨A0, KR, he0, Jg, LQ⟩ := Zfu bG
   refine ⟨rfl, ⟨⟨⟨A0, KR, by rw [Z43 hn]; simpa using he0, Jg, fun h0 => ?_⟩, ?_⟩, hst⟩, (fun _ _ he => by cases he), (fun _ _ he => by cases he)⟩
   ·obtain ⟨ad, cap, he1, _, hsp, _⟩ := Zfv bG (by intro e; subst e; simp at h0)
    rw [he0] at he1
    simp only [Y23, Value.slice.injEq, and_true] at he1
    obtain ⟨b, o, spot⟩ := ad
    simp only at hsp
    subst hsp
    exact ⟨b, o, he1.1⟩
   intro c hc hk
   rw [hσ] at hc
   simp only [AV.rc, Y89] at hc
   subst hc
   refine ⟨fun cs hcs => by simp [T.nav] at hcs, fun o' sz' es' qw A N C hh => ?_⟩
   simp only [T.nav, Y89, T.l.injEq] at qw
   obtain ⟨rfl, rfl, rfl⟩ := qw
   simp only [hdr, Y12, List.isEmpty_nil, Y4, if_true, Y89] at hh
   rw [Z43 hn, hh]
   obtain ⟨A2, cap, he, dV, _⟩ := Zfu bG
   rw [hh] at he
   simp only [Y23, Value.slice.injEq, and_true] at he
   obtain ⟨rfl, rfl, rfl⟩ := he
   exact ⟨rfl, by omega, A, _, C, A, C, rfl, rfl, dV, by omega, .inl ⟨rfl, .inl rfl⟩, fun _ _ => rfl⟩
  case box k cs =>
   simp only [aP, AV.stamps] at hs hst
   simp only at h2
   obtain ⟨rfl, rfl⟩ := Zhk h2
   refine ⟨rfl, ⟨⟨by obtain ⟨b, arr, ty, fr, he, _⟩ := hs; exact ⟨b, 0, by rw [Z43 hn, he]⟩, ?_⟩, hst⟩, (fun _ _ he => by cases he), (fun _ _ he => by cases he)⟩
   intro c hc hk bo hp
   rw [hσ] at hc
   simp only [AV.rc, Y89] at hc
   subst hc
   obtain ⟨b, arr, ty, fr, he, _⟩ := hs
   rw [he] at hp
   simp only [place, bp, Y89] at hp
   subst hp
   rw [Z43 hn, he]
  all_goals
   simp only at h2
   obtain ⟨rfl, rfl⟩ := Zhk h2
   exact ⟨rfl, bm.2, (fun _ _ he => by cases he), (fun _ _ he => by cases he)⟩
end
end Go.Wr
namespace Go.Wr
section
variable {X : Cx} {U : Nat -> Prop} {J J' : Nat} {σ σ' σ2 : St} {a a2 : Act} {w w' w2 : World} {ow ow' ow2 : Nat -> Ow}
def ec (ow : Nat -> Ow) (s J : Nat) : Nat -> Ow := fun b =>
 match ow b with
 | .own (.sl r) q => if r = s then .own (.ar J) q else .own (.sl r) q
 | o => o
def cI (ow : Nat -> Ow) (s J n : Nat) : Nat -> Ow := fun b =>
 match ow b with
 | .own (.sl r) q => if r = s then (match q with | j :: q => if j < n then .own (.ar (J + j)) q else .no | [] => .no) else .own (.sl r) q
 | o => o
theorem Z92 {x : Opd} {y : Unit} (h : (kill x).run σ = some (y, σ')) : match x with | .t n => σ' = upd σ n .u | .k _ => σ' = σ := by
 cases x with
 | t n => exact Zhu h
 | k c => exact (Zhk h).2
theorem Zx : ∀ (ts : List T) (vs : List Value) (j : Nat) {t : T} {v : Value}, T.bN ts vs = true -> ts[j]? = some t -> vs[j]? = some v -> t.isConst v = true /\ ∀ cs, t ≠ .a cs
 | [], _, j, t, v, _, ht, _ => by simp at ht
 | _ :: _, [], j, t, v, h, _, _ => by simp [T.bN] at h
 | t0 :: ts, v0 :: vs, j, t, v, h, ht, hv => by
  simp only [T.bN, Y2] at h
  cases j with
  | zero =>
   simp at ht hv
   subst ht hv
   refine ⟨h.1.2, fun cs e => ?_⟩
   subst e
   simp [T.isOne] at h
  | succ j => exact Zx ts vs j h.2 (by simpa using ht) (by simpa using hv)
structure Air (X : Cx) (w : World) (ow : Nat -> Ow) (lo hi : Nat) (ts : List T) (vs : List Value) (ix : Nat -> Nat) : Prop where
 len : vs.length = ts.length
 rep : ∀ (j : Nat) t v, ts[j]? = some t -> vs[j]? = some v -> rep X.tab X.mv w ow (some (.ar (ix j), [])) t [v]
 bnd : ∀ j, j < ts.length -> lo <= ix j /\ ix j < hi
 inj : ∀ i j, i < ts.length -> j < ts.length -> ix i = ix j -> i = j
theorem Z7f {tk : Bool} : ∀ (cs : List Cell) {b0 J : Nat} {σ σ' : St} {ow : Nat -> Ow} {vs : List Value} {ts : List T}, Rel X U J σ a w ow -> b0 + cs.length <= J ->
  vs.length = cs.length ->
  (∀ (j : Nat) c v, cs[j]? = some c -> vs[j]? = some v -> match c with
   | .x t => rep X.tab X.mv w ow (some (.ar (b0 + j), [])) t [v]
   | .w r k p z lo n => dc σ a w r k p z lo n v /\ U k.e /\ U k.h /\ U k.d) ->
  (cS tk cs).run σ = some (ts, σ') ->
  ∃ (J' : Nat) (ow' : Nat -> Ow) (ix : Nat -> Nat), J <= J' /\ Gh X U J J' σ a w ow σ' ow' /\ vs.length = ts.length /\
   (∀ (j : Nat) t v, ts[j]? = some t -> vs[j]? = some v -> rep X.tab X.mv w ow' (some (.ar (ix j), [])) t [v]) /\
   (∀ j, j < ts.length -> (ix j = b0 + j \/ J <= ix j) /\ ix j < J') /\ (∀ i j, i < j -> j < ts.length -> J <= ix j -> ix i < ix j)
 | [], b0, J, σ, σ', ow, vs, ts, h, hb, hl, hc, af => by
  simp only [cS] at af
  obtain ⟨rfl, rfl⟩ := Zhk af
  exact ⟨J, ow, fun _ => 0, Nat.le_refl _, Gh.refl h (Nat.le_refl _), by simpa using hl, fun j t v ht => by simp at ht, fun j hj => by simp at hj, fun i j _ hj => by simp at hj⟩
 | .x t :: cs, b0, J, σ, σ', ow, vs, ts, h, hb, hl, hc, af => by
  simp only [cS] at af
  obtain ⟨ts', σ1, h1, h2⟩ := Zh3 af
  obtain ⟨rfl, rfl⟩ := Zhk h2
  cases vs with
  | nil => simp at hl
  | cons v vs =>
   have h0 := hc 0 _ v rfl rfl
   simp only [Y75] at h0
   simp only [Y42] at hb hl
   obtain ⟨J', ow', ix, hJ, hg, hl', hr, hbd, hlt⟩ := Z7f cs (b0 := b0 + 1) (vs := vs) h (by omega) (by omega) (fun j c u hj hu => by
    have := hc (j + 1) c u (by simpa using hj) (by simpa using hu)
    rw [show b0 + (j + 1) = b0 + 1 + j by omega] at this
    exact this) h1
   refine ⟨J', ow', fun j => match j with | 0 => b0 | j + 1 => ix j, hJ, hg, by simp [hl'], fun j t' u ht hu => ?_, fun j hj => ?_, fun i j hij hj hJj => ?_⟩
   ·cases j with
    | zero =>
     simp at ht hu
     subst ht hu
     exact Zg1 hg.z t (c := some (.ar b0, [])) (fun b q hb => ⟨hg.air b b0 q (by omega) hb, rfl⟩) h0
    | succ j => exact hr j t' u (by simpa using ht) (by simpa using hu)
   ·cases j with
    | zero => exact ⟨.inl rfl, by show b0 < J'; omega⟩
    | succ j =>
     obtain ⟨h5, h6⟩ := hbd j (by simpa using hj)
     exact ⟨h5.imp (fun e => by show ix j = _; omega) id, h6⟩
   ·cases j with
    | zero => omega
    | succ j =>
     cases i with
     | zero => show b0 < ix j; simp only at hJj; omega
     | succ i => exact hlt i j (by omega) (by simpa using hj) hJj
 | .w r k p z lo n :: cs, b0, J, σ, σ', ow, vs, ts, h, hb, hl, hc, af => by
  simp only [cS] at af
  obtain ⟨t, σ1, h1, h2⟩ := Zh3 af
  obtain ⟨ts', σ2, h3, h4⟩ := Zh3 h2
  obtain ⟨rfl, rfl⟩ := Zhk h4
  cases vs with
  | nil => simp at hl
  | cons v vs =>
   obtain ⟨h0, hst⟩ := hc 0 _ v rfl rfl
   simp only [Y42] at hb hl
   obtain ⟨ow1, hg1, hr1⟩ := Z7i h h0 h1
   obtain ⟨J', ow', ix, hJ, hg, hl', hr, hbd, hlt⟩ := Z7f cs (b0 := b0 + 1) (vs := vs) hg1.rel (by omega) (by omega) (fun j c u hj hu => by
    have := hc (j + 1) c u (by simpa using hj) (by simpa using hu)
    rw [show b0 + (j + 1) = b0 + 1 + j by omega] at this
    cases c with
    | x t' =>
     have hlt : j < cs.length := (Y36.1 hj).1
     exact Zg1 hg1.z t' (c := some (.ar (b0 + 1 + j), [])) (fun b q hb => ⟨hg1.air b _ q (by omega) hb, rfl⟩) this
    | w r' k' p' z' lo' n' => exact ⟨(hg1.refs r').iu this.2.1 this.2.2.1 this.2.2.2 this.1, this.2⟩) h3
   refine ⟨J', ow', fun j => match j with | 0 => J | j + 1 => ix j, by omega, hg1.trans hg (by omega), by simp [hl'], fun j t' u ht hu => ?_, fun j hj => ?_, fun i j hij hj hJj => ?_⟩
   ·cases j with
    | zero =>
     simp at ht hu
     subst ht hu
     exact Zg1 hg.z t (c := some (.ar J, [])) (fun b q hb => ⟨hg.air b J q (by omega) hb, rfl⟩) hr1
    | succ j => exact hr j t' u (by simpa using ht) (by simpa using hu)
   ·cases j with
    | zero => exact ⟨.inr (Nat.le_refl _), by show J < J'; omega⟩
    | succ j =>
     obtain ⟨h5, h6⟩ := hbd j (by simpa using hj)
     refine ⟨?_, h6⟩
     rcases h5 with h5 | h5
     ·exact .inl (by show ix j = _; omega)
     ·exact .inr (by show J <= ix j; omega)
   ·cases j with
    | zero => omega
    | succ j =>
     simp only at hJj ⊢
     obtain ⟨h5, h6⟩ := hbd j (by simpa using hj)
     have hJ1 : J + 1 <= ix j := by
      rcases h5 with h5 | h5
      ·have : j < cs.length := by
        have : ts'.length = cs.length := by omega
        simp at hj; omega
       omega
      ·exact h5
     cases i with
     | zero => show J < ix j; omega
     | succ i => exact hlt i j (by omega) (by simpa using hj) hJ1
theorem Z2i {s : Nat} : ∀ {cs : List Cell} {j0 : Nat} {vs : List Value}, dM X σ a w ow s j0 cs vs -> vs.length = cs.length /\
  ∀ (j : Nat) c v, cs[j]? = some c -> vs[j]? = some v -> dm X σ a w ow s (j0 + j) c v
 | [], j0, vs, h => by simp only [dM] at h; subst h; exact ⟨rfl, fun j c v hc => by simp at hc⟩
 | c :: cs, j0, vs, h => by
  simp only [dM] at h
  obtain ⟨v, rest, rfl, h1, h2⟩ := h
  obtain ⟨h3, h4⟩ := Z2i h2
  refine ⟨by simp [h3], fun j c' v' hc hv => ?_⟩
  cases j with
  | zero => simp at hc hv; subst hc hv; exact h1
  | succ j =>
   have := h4 j c' v' (by simpa using hc) (by simpa using hv)
   rw [show j0 + (j + 1) = j0 + 1 + j by omega]
   exact this
theorem Z7l (h : Rel X U J σ a w ow) {e : Nat} {tk : Bool} {x : Opd} {o : Operand} (hx : x.is X.tab o = true) {ts : List T} (af : (dz e tk x).run σ = some (ts, σ')) :
  ∃ J' ow' ix, J <= J' /\ Gh X U J J' σ a w ow σ' ow' /\ Air X w ow' J J' ts (a.eval o).cells.toList ix := by
 unfold dz at af
 obtain ⟨v, σ1, h1, h2⟩ := Zh3 af
 obtain ⟨e1, bm⟩ := Zem h hx h1
 rw [e1] at h2
 clear h1 af e1 σ1
 cases v <;> simp only [Pg.run, reduceCtorEq] at h2
 case x t =>
  split at h2
  ·rename_i qx
   obtain ⟨rfl, rfl⟩ := Zhk h2
   simp only [cw] at bm
   have bA : (a.eval o).cells = #[a.eval o] := Zfy bm (fun cs e => by subst e; simp [T.jl] at qx) (fun e => by subst e; simp [T.jl] at qx)
   refine ⟨J + 1, ow, fun _ => J, by omega, Gh.refl h (by omega), ⟨by rw [bA]; rfl, fun j t' v ht hv => ?_, fun j hj => by omega, fun i j hi hj _ => by simp at hi hj; omega⟩⟩
   rw [bA] at hv
   cases j with
   | succ j => simp at ht
   | zero =>
    simp at ht hv
    subst ht hv
    exact Zg1 (fun b hb => ⟨hb, rfl⟩) _ (c := none) trivial bm
  ·simp [Pg.run] at h2
 case own k t =>
  split at h2
  ·simp [Pg.run] at h2
  ·rename_i KS
   obtain ⟨_, σ2, h3, h4⟩ := Zh3 h2
   obtain ⟨rfl, rfl⟩ := Zhk h4
   cases x with
   | k c =>
    obtain ⟨rfl⟩ := Z92 h3
    simp only [cw] at bm
    obtain ⟨sz, rfl, bz⟩ := bm
    rw [bz]
    refine ⟨J + 1, ow, fun _ => J, by omega, Gh.refl h (by omega), ⟨rfl, fun j t' v ht hv => ?_, fun j hj => by omega, fun i j hi hj _ => by simp at hi hj; omega⟩⟩
    cases j with
    | succ j => simp at ht
    | zero =>
     simp [Value.cells] at ht hv
     subst ht hv
     exact Z35 (.l .y sz []) _ _ (by simp [T.isConst]) (fun e => by cases e) (fun _ => by simp)
   | t s =>
    obtain ⟨rfl⟩ := Z92 h3
    simp only [cw] at bm
    obtain ⟨hs1, bz, hσ⟩ := bm
    have hs := h.slot s
    rw [hσ] at hs
    simp only [aP] at hs
    obtain ⟨⟨ob, sz, es, rfl, hown⟩, bG⟩ := hs
    have bA : (a.eval o).cells = #[a.eval o] := by
     rw [bz]
     exact Zfy bG (fun _ => by simp) (by simp)
    have hz : Zs w ow w (ec ow s J) := fun b hb => ⟨by simp [ec, hb], rfl⟩
    have hg := Z7b (J' := J + 1) (v' := .u) (ow' := ec ow s J) h (r := s) (by simp [aP]) (by simp [AV.stamps]) hz (fun b r' q hr hb => by
      unfold ec; rw [hb]
      cases r' with
      | sl y => simp only; rw [if_neg (fun e => hr (by rw [e]))]
      | ar y => rfl
      | rs y => rfl) (fun b hb => by simp [ec, hb]) (fun b i q hb => by
      unfold ec at hb
      cases hob : ow b with
      | no => simp [hob] at hb
      | z => simp [hob] at hb
      | own r' q' =>
       rw [hob] at hb
       cases r' with
       | sl y =>
        simp only at hb
        split at hb
        ·simp at hb; omega
        ·cases hb
       | ar y => have := h.air b y q' hob; simp at hb; omega
       | rs y => cases hb) (aQ.fresh fun c' hc' => by simp [upd, AV.rc] at hc') (by rw [hσ]; simp) (fun n => by rw [hσ]; simp)
    refine ⟨J + 1, ec ow s J, fun _ => J, by omega, ⟨hg.1, hz, fun b i q _ hb => by simp [ec, hb], hg.2⟩, ⟨by rw [bA]; rfl, fun j t' v ht hv => ?_, fun j hj => by omega, fun i j hi hj _ => by simp at hi hj; omega⟩⟩
    rw [bA] at hv
    cases j with
    | succ j => simp at ht
    | zero =>
     simp at ht hv
     subst ht hv
     rw [bz]
     exact Zg1 hz _ (c := some (.sl s, [])) (fun b q hb => ⟨by simp only [Y66] at hb; simp [ec, hb], rfl⟩) bG
 case w r k p z lo n =>
  obtain ⟨t, σ2, h3, h4⟩ := Zh3 h2
  obtain ⟨rfl, rfl⟩ := Zhk h4
  simp only [cw] at bm
  obtain ⟨ow', hg, hr⟩ := Z7i h bm.1 h3
  have hl : ∃ o2 sz es, t = .l o2 sz es := by
   obtain ⟨c, o2, sz, es, _, _, _, et⟩ := Z7j h3
   rcases et with ⟨_, e, _⟩ | ⟨_, e, _⟩ | ⟨_, e, _⟩ <;> exact ⟨_, _, _, e⟩
  obtain ⟨o2, sz, es, rfl⟩ := hl
  have bA : (a.eval o).cells = #[a.eval o] := Zfy hr (fun _ => by simp) (by simp)
  refine ⟨J + 1, ow', fun _ => J, by omega, hg, ⟨by rw [bA]; rfl, fun j t' v ht hv => ?_, fun j hj => by omega, fun i j hi hj _ => by simp at hi hj; omega⟩⟩
  rw [bA] at hv
  cases j with
  | succ j => simp at ht
  | zero =>
   simp at ht hv
   subst ht hv
   exact hr
 case st cs =>
  have fin : ∀ (σ1 : St) (ow1 : Nat -> Ow) (vs : Array Value), Gh X U J (J + cs.length) σ a w ow σ1 ow1 -> a.eval o = .agg vs -> vs.toList.length = cs.length ->
    (∀ (j : Nat) c v, cs[j]? = some c -> vs.toList[j]? = some v -> match c with
     | .x t => rep X.tab X.mv w ow1 (some (.ar (J + j), [])) t [v]
     | .w r k p z lo n => dc σ1 a w r k p z lo n v /\ U k.e /\ U k.h /\ U k.d) ->
    (cS tk cs).run σ1 = some (ts, σ') ->
    ∃ J' ow' ix, J <= J' /\ Gh X U J J' σ a w ow σ' ow' /\ Air X w ow' J J' ts (a.eval o).cells.toList ix := by
   intro σ1 ow1 vs hg1 bz hl hc af
   obtain ⟨J', ow', ix, hJ, hg, hl', hr, hbd, hlt⟩ := Z7f cs (b0 := J) (vs := vs.toList) hg1.rel (Nat.le_refl _) hl hc af
   have hts : ts.length = cs.length := by omega
   refine ⟨J', ow', ix, by omega, hg1.trans hg (by omega), ⟨by rw [bz]; simpa [Value.cells] using hl', fun j t v ht hv => hr j t v ht (by rw [bz] at hv; simpa [Value.cells] using hv), fun j hj => ?_, fun i j hi hj e => ?_⟩⟩
   ·obtain ⟨h5, h6⟩ := hbd j hj
    refine ⟨?_, h6⟩
    rcases h5 with h5 | h5 <;> omega
   ·rcases Nat.lt_trichotomy i j with hij | hij | hij
    ·obtain ⟨h5, _⟩ := hbd i hi
     obtain ⟨h7, _⟩ := hbd j hj
     rcases h7 with h7 | h7
     ·rcases h5 with h5 | h5 <;> omega
     ·have := hlt i j hij hj h7; omega
    ·exact hij
    ·obtain ⟨h5, _⟩ := hbd i hi
     obtain ⟨h7, _⟩ := hbd j hj
     rcases h5 with h5 | h5
     ·rcases h7 with h7 | h7 <;> omega
     ·have := hlt j i hij hi h5; omega
  cases x with
  | k c =>
   simp only [cw] at bm
   obtain ⟨ts0, vs, rfl, bz, hc⟩ := bm
   have Jh : (cS tk (ts0.map .x)).run σ = some (ts, σ') := by
    split at h2
    ·obtain ⟨_, σ2, h3, h4⟩ := Zh3 h2
     have := Z92 h3
     simp only at this
     rw [this] at h4
     exact h4
    ·exact h2
   refine fin σ ow vs (Gh.refl h (by omega)) bz (by rw [Zy _ _ hc]; simp) (fun j c v hj hv => ?_) Jh
   rw [Y37] at hj
   obtain ⟨t, ht, rfl⟩ := Y87.1 hj
   have h5 := Z36 (tab := X.tab) (mv := X.mv) (w := w) (ow := ow) ts0 vs.toList 0 (.ar (J + j)) [] hc
   obtain ⟨v', hv', hr⟩ := Zf7 h5 ht
   rw [hv] at hv'
   cases hv'
   have h6 := Zx ts0 vs.toList j hc ht hv
   exact Z35 t v _ h6.1 (fun e => by cases e) h6.2
  | t s =>
   simp only [cw] at bm
   obtain ⟨hs1, bz, hσ⟩ := bm
   have hs := h.slot s
   rw [hσ, <- bz] at hs
   simp only [aP] at hs
   obtain ⟨vs, BM, bA⟩ := hs
   have jb := h.bZ s
   rw [hσ] at jb
   simp only [AV.stamps] at jb
   obtain ⟨hlen, dp⟩ := Z2i bA
   split at h2
   ·obtain ⟨_, σ2, h3, h4⟩ := Zh3 h2
    have hk := Z92 h3
    simp only at hk
    subst hk
    have hz : Zs w ow w (cI ow s J cs.length) := fun b hb => ⟨by simp [cI, hb], rfl⟩
    have hg := Z7b (J' := J + cs.length) (v' := .u) (ow' := cI ow s J cs.length) h (r := s) (by simp [aP]) (by simp [AV.stamps]) hz (fun b r' q hr hb => by
      unfold cI; rw [hb]
      cases r' with
      | sl y => simp only; rw [if_neg (fun e => hr (by rw [e]))]
      | ar y => rfl
      | rs y => rfl) (fun b hb => by simp [cI, hb]) (fun b i q hb => by
      unfold cI at hb
      cases hob : ow b with
      | no => simp [hob] at hb
      | z => simp [hob] at hb
      | own r' q' =>
       rw [hob] at hb
       cases r' with
       | sl y =>
        simp only at hb
        split at hb
        ·split at hb
         ·split at hb
          ·simp at hb; omega
          ·cases hb
         ·cases hb
        ·cases hb
       | ar y => have := h.air b y q' hob; simp at hb; omega
       | rs y => cases hb) (aQ.fresh fun c' hc' => by simp [upd, AV.rc] at hc') (by rw [hσ]; simp) (fun n => by rw [hσ]; simp)
    refine fin _ (cI ow s J cs.length) vs ⟨hg.1, hz, fun b i q _ hb => by simp [cI, hb], hg.2⟩ BM hlen (fun j c v hj hv => ?_) h4
    have h5 := dp j c v hj hv
    rw [Y83] at h5
    have hjl := (Y36.1 hj).1
    cases c with
    | x t =>
     simp only [dm] at h5
     exact Zg1 hz t (c := some (.sl s, [j])) (fun b q hb => ⟨by simp only [Y24, Y66] at hb; simp [cI, hb, hjl], rfl⟩) h5
    | w r k p z lo n =>
     simp only [dm] at h5
     have hst := jb _ (Y62 hj)
     simp only [Cell.stamps] at hst
     exact ⟨(hg.2 r).iu hst.1 hst.2.1 hst.2.2 h5, hst⟩
   ·rename_i hown
    refine fin σ ow vs (Gh.refl h (by omega)) BM hlen (fun j c v hj hv => ?_) h2
    have h5 := dp j c v hj hv
    rw [Y83] at h5
    cases c with
    | x t =>
     simp only [dm] at h5
     have hsc : t.loose = true := by
      cases hh : t.loose with
      | true => rfl
      | false =>
       exfalso
       apply hown
       rw [Y20]
       exact ⟨_, Y62 hj, by simp [Cell.fy, hh]⟩
     exact Zah hsc h5
    | w r k p z lo n =>
     simp only [dm] at h5
     have hst := jb _ (Y62 hj)
     simp only [Cell.stamps] at hst
     exact ⟨h5, hst⟩
end
end Go.Wr
namespace Go.Wr
section
variable {tab : Nat -> FuncId} {mv : Nat -> Value} {w w' : World} {ow ow' : Nat -> Ow}
def Open (w : World) (ow : Nat -> Ow) (r : aH) (B : Nat) : Prop :=
 ∃ arr ty fr q, w.heap[B]? = some (.cells arr ty fr) /\ dT arr fr /\ ow B = .own r q
theorem Zb0 {r : aH} : ∀ (p : List Nat) (t : T) {q : List Nat} {b o : Nat} {vs : List Value} {B O : Nat}, rep tab mv w ow (some (r, q)) t vs -> At w b o vs -> Open w ow r b ->
  t.cb p = true -> bp w t b o p = some (B, O) -> Open w ow r B
 | [], t, q, b, o, vs, B, O, h, ha, hb, hm, hl => by
  have : bp w t b o [] = some (B, O) := hl
  cases t <;> simp only [bp, Y89, Y90] at this <;> exact this.1 ▸ hb
 | k :: p, t, q, b, o, vs, B, O, h, ha, hb, hm, hl => by
  cases t <;> simp only [T.cb, Y9] at hm
  case a cs =>
   cases ht : cs[k]? with
   | none => simp [ht] at hm
   | some t' =>
    simp only [ht] at hm
    simp only [bp, ht] at hl
    simp only [rep] at h
    obtain ⟨v, hv, hr⟩ := Zf7 h ht
    rw [Zdc] at hr
    exact Zb0 p t' hr (fun j u hj => by
     cases j with
     | zero => simp at hj; subst hj; exact ha k v hv
     | succ j => simp at hj) hb hm hl
  case l ob sz es =>
   cases ht : es[k]? with
   | none => simp [ht] at hm
   | some t' =>
    simp only [ht, Y2] at hm
    have hne : es ≠ [] := by intro he; subst he; simp at ht
    obtain ⟨ad, cap, rfl, _, _, hbk, arr, ty, fr, vs', hh, hfr, hvs, hes⟩ := Zfv h hne
    have bD := (ha.cons).1
    simp only [bp, bD, ht] at hl
    have hl1 : Ob.loc ob (some (r, q)) = some (r, q) := by simp [Ob.loc, hm.1]
    rw [hl1] at hbk hes
    obtain ⟨v1, _, hr, hv⟩ := Zfh hes ht
    rw [Zdc] at hr
    exact Zb0 p t' hr (fun j u hj => by rw [Z2h hh, Y74]; exact hvs _ _ (hv j u hj)) ⟨arr, ty, fr, q, hh, (hfr hm.1).1, hbk⟩ hm.2 hl
theorem Ze9 {B O off : Nat} {dU : List T} {gJ : List Value} {r : aH} {node : T}
  (hz : ∀ b, ow b = .z -> ow' b = .z /\ b ≠ B) (hown : ∀ b q', ow b = .own r q' -> ow' b = .own r q') (hu : Upd w w' B (O + off) gJ)
  (hlen : gJ.length = dU.length) (hne : dU ≠ []) (hT : off + dU.length <= node.cells.length) {k : Nat} {p : List Nat} {ob : Ob} {sz : Nat} {es : List T} {A : Option Addr} {N cap : Nat}
  (h : rep tab mv w ow (some (r, [])) (.l ob sz es) [.slice A N cap]) (hm : (T.l ob sz es).cb (k :: p) = true) (hn : (T.l ob sz es).nav (k :: p) = some node)
  (hl : cG w (.l ob sz es) A (k :: p) = some (B, O))
  (cn : ∀ j x v, dU[j]? = some x -> gJ[j]? = some v -> rep tab mv w' ow' (gD node r (k :: p) (off + j)) x [v]) :
  rep tab mv w' ow' (some (r, [])) ((T.l ob sz es).put (k :: p) (node.bO (bC node.cells off dU))) [.slice A N cap] := by
 have hzs : Zs w ow w' ow' := fun b hb => ⟨(hz b hb).1, hu.other b (hz b hb).2⟩
 have other : ∀ (q2 : List Nat), (∀ h, ow B ≠ .own r (q2 ++ h)) -> Tr w ow w' ow' (some (r, q2)) (some (r, q2)) := fun q2 hq b q' hb =>
  ⟨hown b _ hb, hu.other b fun hB => hq q' (hB ▸ hb)⟩
 simp only [T.nav, T.kid] at hn
 obtain ⟨t', ht', hn⟩ := Y84.1 hn
 have lO : es ≠ [] := by intro he; subst he; simp at ht'
 simp only [T.cb, ht', Y2] at hm
 obtain ⟨hob, hm⟩ := hm
 have gK : Ob.loc ob (some (r, ([] : List Nat))) = some (r, []) := by simp [Ob.loc, hob]
 have h' := h
 simp only [rep] at h'
 obtain ⟨h0, A', pj, he, hc, hmv, cM⟩ := h'
 simp only [Y23, Value.slice.injEq, and_true] at he
 obtain ⟨rfl, rfl, rfl⟩ := he
 cases A with
 | none => simp only at cM; subst cM; exact absurd (Y44.1 (Nat.le_zero.1 hc)) lO
 | some ad =>
  obtain ⟨hs, hbk, arr, ty, fr, vs', hh, hfr, hvs, hes⟩ := cM (.inr lO)
  rw [gK] at hbk hes
  simp only [Loc.ow] at hbk
  simp only [cG, ht'] at hl
  obtain ⟨v1, hl1, hr, hv⟩ := Zfh hes ht'
  rw [Y83, Zdc] at hr
  have ha' : At w ad.block (ad.off + k * sz) v1 := fun j u hu => by
   rw [Z2h hh, Y74]
   exact hvs _ _ (hv j u hu)
  obtain ⟨v1', h1, h2, h3, _, h5⟩ := Ze8 hz hown hu hlen hne hT p t' hr ha' hbk (.inl (by simp)) hm hn hl (fun j x v hx hv => by
   have := cn j x v hx hv
   simpa using this)
  have hk : k < es.length := (Y36.1 ht').1
  have hvl := Zfi hes
  obtain ⟨cW, hh', ph, An⟩ : ∃ cW, w'.heap[ad.block]? = some (.cells cW ty fr) /\ cW.size = arr.size /\
    ∀ j u, (j < ad.off + k * sz \/ ad.off + k * sz + sz <= j) -> arr[j]? = some u -> cW[j]? = some u := by
   by_cases hB : ad.block = B
   ·obtain ⟨a1, a2, ty', fr', h6, h7, h8, h9⟩ := hu.blk
    rw [<- hB, hh] at h6
    cases h6
    refine ⟨a2, hB ▸ h7, h8, fun j u hj hu' => ?_⟩
    rw [h9, if_neg]
    ·exact hu'
    ·rcases h5 with ⟨_, h10, h11⟩ | ⟨h10, _⟩
     ·rw [hl1] at h11; omega
     ·exact absurd hB.symm h10
   ·exact ⟨arr, (hu.other _ hB).trans hh, rfl, fun _ _ _ h => h⟩
  simp only [T.put, T.kid, ht', T.aZ, rep]
  refine ⟨h0, some ad, cap, by simp, by simpa using hc, fun k' hk' => by simpa using hmv k' hk', fun _ => ⟨hs, ?_, cW, ty, fr, bC vs' (k * sz) v1', hh', ?_, ?_, ?_⟩⟩
  ·rw [gK]; exact hown _ _ hbk
  ·intro x; exact ⟨by rw [ph]; exact (hfr x).1, by rw [ph]; exact (hfr x).2⟩
  ·have hle : k * sz + v1'.length <= vs'.length := by
    rw [h3, hl1, hvl]
    have : (k + 1) * sz <= es.length * sz := Y80 _ hk
    rw [Y82] at this; exact this
   intro j u hj
   rw [Zjp _ _ _ hle, h3, hl1] at hj
   by_cases hj' : k * sz <= j /\ j < k * sz + sz
   ·rw [if_pos hj'] at hj
    have := h2 _ u hj
    rw [Z2h hh'] at this
    rw [<- this]; congr 1; omega
   ·rw [if_neg hj'] at hj
    exact An _ u (by omega) (hvs j u hj)
  ·rw [gK]
   have hle : k * sz + v1'.length <= vs'.length := by
    rw [h3, hl1, hvl]
    have : (k + 1) * sz <= es.length * sz := Y80 _ hk
    rw [Y82] at this; exact this
   refine Zfc hes (by simp) (Zjq _ _ _ hle) fun j t2 v2 hj hl2 hr2 hv2 => ?_
   rw [Y83, Zdc] at hr2 ⊢
   have idx : ∀ i, i < sz -> (k * sz <= j * sz + i /\ j * sz + i < k * sz + sz <-> j = k) := fun i hi => by
    constructor
    ·rintro ⟨a1, a2⟩
     rcases Nat.lt_trichotomy j k with h | h | h
     ·have : (j + 1) * sz <= k * sz := Y80 _ h
      rw [Y82] at this; omega
     ·exact h
     ·have : (k + 1) * sz <= j * sz := Y80 _ h
      rw [Y82] at this; omega
    ·rintro rfl; omega
   by_cases hjk : j = k
   ·subst hjk
    refine ⟨_, v1', Y39 hk, by omega, h1, fun i u hi => ?_⟩
    have hi' : i < sz := by have := (Y36.1 hi).1; omega
    rw [Zjp _ _ _ hle, h3, hl1, if_pos (by omega)]
    rw [show j * sz + i - j * sz = i by omega]
    exact hi
   ·refine ⟨t2, v2, by rw [Y38 (Ne.symm hjk)]; exact hj, hl2, Zg1 hzs t2 (other _ fun h' hB => ?_) hr2, fun i u hi => ?_⟩
    ·rcases h5 with ⟨h6, _⟩ | ⟨_, h7, h8⟩
     ·rw [h6, hbk] at hB
      have := congrArg List.length (Ow.own.inj hB).2
      simp at this
     ·rw [hB] at h8
      have h9 := (Ow.own.inj h8).2
      rw [Y21, Y21] at h9
      have h10 := List.append_cancel_left h9
      simp at h10
      exact hjk h10.1
    ·have hi' : i < sz := by have := (Y36.1 hi).1; omega
     rw [Zjp _ _ _ hle, h3, hl1, if_neg (fun hx => hjk ((idx i hi').1 hx))]
     exact hv2 i u hi
end
theorem Zhq {P : Program} {w : World} {a : Addr} {v u : Value} {k : Sem Unit} {m : Go.Mode} (hc : w.cell? a = some u) (hf : w.frozen? a = false) (hv : dK v = true) :
  (Sem.store m a v k).run P w = k.run P (w.setCell a v) := by
 cases v <;> simp only [dK, Y9] at hv <;> simp [Sem.run, hc, hf]
theorem Z6b {w : World} {b o : Nat} {arr : Array Value} {ty : TypeId} {fr : Nat × Nat} (h : w.heap[b]? = some (.cells arr ty fr)) (hf : dT arr fr) (ho : o < arr.size) :
  w.frozen? ⟨b, o, none⟩ = false := by
 unfold World.frozen?
 simp only [h]
 rcases hf with hf | hf
 ·simp; omega
 ·simp; omega
theorem Zir {w : World} {b o : Nat} {v : Value} {arr : Array Value} {ty : TypeId} {fr : Nat × Nat} (h : w.heap[b]? = some (.cells arr ty fr)) :
  (w.setCell ⟨b, o, none⟩ v).heap[b]? = some (.cells (arr.setIfInBounds o v) ty fr) /\ (∀ b', b' ≠ b -> (w.setCell ⟨b, o, none⟩ v).heap[b']? = w.heap[b']?) /\
  (w.setCell ⟨b, o, none⟩ v).heap.size = w.heap.size := by
 unfold World.setCell
 refine ⟨?_, fun b' hb' => ?_, by simp⟩
 ·simp [Array.getElem?_modify, h]
 ·simp [Array.getElem?_modify, Ne.symm hb']
theorem Zhr {P : Program} {b o : Nat} {ty : TypeId} {fr : Nat × Nat} : ∀ (vs : List Value) (i : Nat) (w : World) (arr : Array Value), w.heap[b]? = some (.cells arr ty fr) -> dT arr fr ->
  o + i + vs.length <= arr.size -> vs.all dK = true ->
  ∃ cW w', (storeCells ⟨b, o, none⟩ vs i).run P w = .ok () w' /\ w'.heap[b]? = some (.cells cW ty fr) /\ cW.size = arr.size /\
   (∀ j, cW[j]? = if o + i <= j /\ j < o + i + vs.length then vs[j - (o + i)]? else arr[j]?) /\ (∀ b', b' ≠ b -> w'.heap[b']? = w.heap[b']?) /\ w'.heap.size = w.heap.size /\
   w'.os = w.os /\ w'.output = w.output
 | [], i, w, arr, h, hf, hl, hv => ⟨arr, w, rfl, h, rfl, fun j => by rw [if_neg (by simp)], fun _ _ => rfl, rfl, rfl, rfl⟩
 | v :: vs, i, w, arr, h, hf, hl, hv => by
  simp only [Y17, Y2] at hv
  simp only [Y42] at hl
  have nF : (⟨b, o, none⟩ : Addr).add i = ⟨b, o + i, none⟩ := by unfold Addr.add; split <;> simp_all
  have hlt : o + i < arr.size := by omega
  have bD : w.cell? ⟨b, o + i, none⟩ = some arr[o + i] := by rw [Z2h h]; simp [hlt]
  have af : (storeCells ⟨b, o, none⟩ (v :: vs) i).run P w = (storeCells ⟨b, o, none⟩ vs (i + 1)).run P (w.setCell ⟨b, o + i, none⟩ v) := by
   conv => lhs; unfold storeCells
   simp only [Bind.bind, Go.store, nF, Sem.bind]
   rw [Zhq bD (Z6b h hf hlt) hv.1]
  obtain ⟨h1, h2, h3⟩ := Zir (v := v) (o := o + i) h
  obtain ⟨cW, w', h4, h5, h6, h7, h8, h9, h10, h11⟩ := Zhr (P := P) (b := b) (o := o) (ty := ty) (fr := fr) vs (i + 1) (w.setCell ⟨b, o + i, none⟩ v) (arr.setIfInBounds (o + i) v) h1 (by unfold dT at *; simpa using hf) (by simp only [Array.size_setIfInBounds]; omega) hv.2
  refine ⟨cW, w', af.trans h4, h5, h6.trans (by simp), fun j => ?_, fun b' hb' => (h8 b' hb').trans (h2 b' hb'), h9.trans h3, h10, h11⟩
  rw [h7 j]
  simp only [Y42]
  by_cases hj : j = o + i
  ·subst hj
   rw [if_neg (by omega), if_pos (by omega)]
   simp [hlt]
  ·by_cases hj2 : o + (i + 1) <= j /\ j < o + (i + 1) + vs.length
   ·rw [if_pos hj2, if_pos (by omega)]
    rw [show j - (o + i) = (j - (o + (i + 1))) + 1 by omega]
    simp
   ·rw [if_neg hj2, if_neg (by omega), Array.getElem?_setIfInBounds_ne (Ne.symm hj)]
end Go.Wr
namespace Go.Wr
def clr (σ : St) (d : Nat) : Nat -> St
 | 0 => σ
 | n + 1 => upd (clr σ d n) (vt d n) .u
def dF (σ : St) (d : Nat) (v : AV) : St :=
 match σ d with
 | .tup n => upd (clr σ d n) d v
 | _ => upd σ d v
def iw (σ : St) (d : Option Nat) (v : AV) : St :=
 match d with
 | some d => dF σ d v
 | none => σ
theorem Zha (d : Nat) : ∀ (n : Nat) (σ : St), (iV d n).run σ = some ((), clr σ d n)
 | 0, σ => rfl
 | n + 1, σ => by
  show ((iV d n).bind fun _ => Pg.wr (vt d n) .u).run σ = _
  have := run_bind (iV d n) (fun _ => Pg.wr (vt d n) .u) σ
  simp only [Bind.bind] at this
  rw [this, Zha d n σ]
  rfl
theorem Zhn (d : Nat) (v : AV) (σ : St) : (setS d v).run σ = some ((), dF σ d v) := by
 unfold setS dF
 simp only [Bind.bind, Pg.bind, Pg.rd, Pg.run]
 cases h : σ d
 case tup n =>
  simp only
  have := run_bind (iV d n) (fun _ => Pg.wr d v) σ
  simp only [Bind.bind] at this
  rw [this, Zha d n σ]
  rfl
 all_goals rfl
theorem Zhm (d : Option Nat) (v : AV) (σ : St) : (bT d v).run σ = some ((), iw σ d v) := by
 cases d with
 | none => rfl
 | some d => exact Zhn d v σ
theorem Z2q (σ : St) (d : Nat) (hd : d < 1000) : ∀ (n s : Nat), clr σ d n s = if 1000 <= s /\ s % 1000 = d /\ s / 1000 <= n then .u else σ s
 | 0, s => by
  unfold clr
  rw [if_neg]
  rintro ⟨h1, h2, h3⟩
  omega
 | n + 1, s => by
  unfold clr upd
  rw [Z2q σ d hd n s]
  unfold vt
  by_cases h : s = d + 1000 * (n + 1)
  ·rw [if_pos h, if_pos (by omega)]
  ·rw [if_neg h]
   by_cases h2 : 1000 <= s /\ s % 1000 = d /\ s / 1000 <= n
   ·rw [if_pos h2, if_pos (by omega)]
   ·rw [if_neg h2, if_neg (by omega)]
theorem AV.dR {U U' : Nat -> Prop} (hU : ∀ x, U x -> U' x) {v : AV} (h : v.stamps U) : v.stamps U' := by
 cases v <;> simp only [AV.stamps] at h ⊢
 case st cs =>
  intro c hc
  have := h c hc
  cases c <;> simp only [Cell.stamps] at this ⊢
  exact ⟨hU _ this.1, hU _ this.2.1, hU _ this.2.2⟩
 all_goals exact ⟨hU _ h.1, hU _ h.2.1, hU _ h.2.2⟩
section
variable {X : Cx} {U : Nat -> Prop} {J J' : Nat} {σ σ' σ2 : St} {a a2 : Act} {w w' w2 : World} {ow ow' ow2 : Nat -> Ow}
theorem Ziy (h : Rel X U J σ a w ow) {d : Nat} (hd : d < 1000) (v : AV) (s : Nat) :
  dF σ d v s = if s = d then v else if 1000 <= s /\ s % 1000 = d then .u else σ s := by
 have hv : (1000 <= s /\ s % 1000 = d) -> (∀ n, σ d = .tup n -> ¬ s / 1000 <= n) -> σ s = .u := fun hs hn => by
  cases hσ : σ s <;> first | rfl | skip
  all_goals
   obtain ⟨n, h1, h2⟩ := h.gI s hs.1 (by rw [hσ]; simp)
   rw [hs.2] at h1
   exact absurd h2 (hn n h1)
 unfold dF
 cases hσd : σ d
 case tup n =>
  simp only [upd, Z2q σ d hd n s]
  by_cases h1 : s = d
  ·rw [if_pos h1, if_pos h1]
  ·rw [if_neg h1, if_neg h1]
   by_cases h2 : 1000 <= s /\ s % 1000 = d
   ·rw [if_pos h2]
    by_cases h3 : s / 1000 <= n
    ·rw [if_pos ⟨h2.1, h2.2, h3⟩]
    ·rw [if_neg (fun x => h3 x.2.2)]
     exact hv h2 (fun m hm => by rw [hσd] at hm; cases hm; exact h3)
   ·rw [if_neg h2, if_neg (fun x => h2 ⟨x.1, x.2.1⟩)]
 all_goals
  simp only [upd]
  by_cases h1 : s = d
  ·rw [if_pos h1, if_pos h1]
  ·rw [if_neg h1, if_neg h1]
   by_cases h2 : 1000 <= s /\ s % 1000 = d
   ·rw [if_pos h2]
    exact hv h2 (fun m hm => by rw [hσd] at hm; cases hm)
   ·rw [if_neg h2]
structure gO (X : Cx) (U : Nat -> Prop) (J' : Nat) (w : World) (ow : Nat -> Ow) (w' : World) (ow' : Nat -> Ow) (dst : Option Nat) : Prop where
 z : Zs w ow w' ow'
 other : ∀ b s q, dst ≠ some s -> ow b = .own (.sl s) q -> ow' b = .own (.sl s) q /\ w'.heap[b]? = w.heap[b]?
 low : ∀ b, ow' b ≠ .no -> b < w'.heap.size
 air : ∀ b i q, ow' b = .own (.ar i) q -> i < J'
 grown : w.heap.size <= w'.heap.size
 no : ∀ b, b < w.heap.size -> ow b = .no -> ow' b = .no /\ w'.heap[b]? = w.heap[b]?
 os : w'.os = w.os
 output : w'.output = w.output
theorem Zi3 {b : Nat} (hz : Zs w ow w' ow') (hno : ∀ b, b < w.heap.size -> ow b = .no -> ow' b = .no /\ w'.heap[b]? = w.heap[b]?) {w0 : World} {ow0 : Nat -> Ow}
  (hb : b < w.heap.size) (h : w.heap[b]? = w0.heap[b]? /\ ow b = ow0 b) (hr : ∀ r q, ow0 b ≠ .own r q) : w'.heap[b]? = w0.heap[b]? /\ ow' b = ow0 b := by
 obtain ⟨h1, h2⟩ := h
 cases h3 : ow b with
 | no => obtain ⟨h4, h5⟩ := hno b hb h3; exact ⟨h5.trans h1, by rw [h4, <- h2, h3]⟩
 | z => obtain ⟨h4, h5⟩ := hz b h3; exact ⟨h5.trans h1, by rw [h4, <- h2, h3]⟩
 | own r q => rw [h3] at h2; exact absurd h2.symm (hr r q)
theorem Zm0 (h : Rel X U J σ a w ow) {U' : Nat -> Prop} (hU : ∀ x, U x -> U' x) {dst : Option Nat} {av : AV} {v : Value} (ht : gO X U J' w ow w' ow' dst) (hd : ∀ d, dst = some d -> d < X.n /\ d ∉ X.bu)
  (hst : av.stamps U') (hrc : ∀ c, av.rc = some c -> ¬ U c.k.e)
  (hav : ∀ d, dst = some d -> ∀ σ' a', (∀ r, aQ U σ a w σ' a' w' r) -> aP X σ' a' w' ow' d av v) :
  Rel X U' J' (iw σ dst av) (a.put dst v) w' ow' /\ ∀ r, aQ U σ a w (iw σ dst av) (a.put dst v) w' r := by
 cases dst with
 | none =>
  have cc : ∀ r, aQ U σ a w σ a w' r := fun r => Zer (h.slot r) rfl rfl ht.z (fun b q hb => (ht.other b r q (by simp) hb).2)
  refine ⟨⟨h.size, h.small, h.defers, fun s => Zj6 (h.slot s) (h.bZ s) ht.z cc (fun b q hb => ht.other b s q (by simp) hb), fun s => AV.dR hU (h.bZ s),
   ht.low, ht.air, Y77 h.grown ht.grown, fun b hb hr => Zi3 ht.z ht.no (Y78 hb h.grown) (h.same b hb hr) hr, ht.os.trans h.os, ht.output.trans h.output, h.bu, h.gI⟩, cc⟩
 | some d =>
  obtain ⟨hdn, hdp⟩ := hd d rfl
  have hd1 : d < 1000 := Y78 hdn h.small
  have hdt : d < a.tmps.size := by rw [h.size]; exact hdn
  have hat := fun s => Ziy h hd1 av s
  have cc : ∀ r, aQ U σ a w (dF σ d av) (a.put (some d) v) w' r := fun r => by
   by_cases h1 : r = d
   ·subst h1
    refine aQ.fresh fun c hc => ?_
    rw [hat r, if_pos rfl] at hc
    exact hrc c hc
   ·by_cases h2 : 1000 <= r /\ r % 1000 = d
    ·refine aQ.fresh fun c hc => ?_
     rw [hat r, if_neg h1, if_pos h2] at hc
     simp [AV.rc] at hc
    ·exact Zer (h.slot r) (by rw [hat r, if_neg h1, if_neg h2]) (Zl9 h1 (fun x e => h2 ⟨x, e⟩)) ht.z (fun b q hb => (ht.other b r q (by simpa using Ne.symm h1) hb).2)
  refine ⟨⟨by simp [Act.put, h.size], h.small, h.defers, fun s => ?_, fun s => ?_, ht.low, ht.air, Y77 h.grown ht.grown,
   fun b hb hr => Zi3 ht.z ht.no (Y78 hb h.grown) (h.same b hb hr) hr, ht.os.trans h.os, ht.output.trans h.output, fun i hi => ?_, fun s hs hu => ?_⟩, cc⟩
  ·show aP X (dF σ d av) (a.put (some d) v) w' ow' s (dF σ d av s) (aK (a.put (some d) v) s)
   by_cases h1 : s = d
   ·subst h1
    rw [Zla hdt hd1]
    rw [hat s, if_pos rfl]
    exact hav s rfl _ _ cc
   ·by_cases h2 : 1000 <= s /\ s % 1000 = d
    ·rw [hat s, if_neg h1, if_pos h2]; trivial
    ·rw [hat s, if_neg h1, if_neg h2, Zl9 h1 (fun x e => h2 ⟨x, e⟩)]
     exact Zj6 (h.slot s) (h.bZ s) ht.z cc (fun b q hb => ht.other b s q (by simpa using Ne.symm h1) hb)
  ·show AV.stamps _ (dF σ d av s)
   rw [hat s]
   split
   ·exact hst
   ·split
    ·simp [AV.stamps]
    ·exact AV.dR hU (h.bZ s)
  ·have : i ≠ d := fun e => hdp (e ▸ hi)
   simp only [Act.put]
   rw [Array.getElem?_setIfInBounds_ne (Ne.symm this)]
   exact h.bu i hi
  ·show ∃ n, dF σ d av (s % 1000) = .tup n /\ s / 1000 <= n
   have hu' : dF σ d av s ≠ .u := hu
   rw [hat s] at hu'
   have h1 : s ≠ d := by omega
   rw [if_neg h1] at hu'
   split at hu'
   ·exact absurd rfl hu'
   ·rename_i h2
    obtain ⟨n, h3, h4⟩ := h.gI s hs hu'
    refine ⟨n, ?_, h4⟩
    rw [hat, if_neg (fun e => h2 ⟨hs, e⟩), if_neg (by omega)]
    exact h3
theorem gO.rfl (h : Rel X U J σ a w ow) (dst : Option Nat) (hJ : J <= J') : gO X U J' w ow w ow dst :=
 ⟨fun b hb => ⟨hb, Eq.refl _⟩, fun b s q _ hb => ⟨hb, Eq.refl _⟩, h.low, fun b i q hb => Y78 (h.air b i q hb) hJ, Nat.le_refl _, fun b _ hb => ⟨hb, Eq.refl _⟩, Eq.refl _, Eq.refl _⟩
end
end Go.Wr
namespace Go.Wr
section
variable {X : Cx} {U : Nat -> Prop} {J J' : Nat} {σ σ' σ2 : St} {a a2 : Act} {w w' w2 : World} {ow ow' ow2 : Nat -> Ow}
def Fam (e x : Nat) : Prop := e <= x /\ x < e + 8
theorem Fam.self (e : Nat) : Fam e e := ⟨Nat.le_refl _, by omega⟩
def Sound (X : Cx) (U : Nat -> Prop) (a : Act) (w : World) (e : Nat) (o : Oper) (σ' : St) : Prop :=
 ∀ (K : Act -> World -> Prop) (Q : Exit -> Act -> World -> Prop), (∀ a' w' ow' J', Rel X (fun x => U x \/ Fam e x) J' σ' a' w' ow' -> K a' w') ->
  o.wp X.P a w K Q \/ (o.asks X.P a w /\ LetsOut Q)
theorem Zjl (h : Rel X U J σ a w ow) {e : Nat} {o : Oper} {v : Value} {av : AV} (hv : (execOp a.eval o).run X.P w = .ok (.value v) w') (ht : gO X U J' w ow w' ow' o.dst)
  (hd : ∀ d, o.dst = some d -> d < X.n /\ d ∉ X.bu) (hst : av.stamps (fun x => U x \/ Fam e x)) (hrc : ∀ c, av.rc = some c -> c.k.e = e) (he : ∀ x, Fam e x -> ¬ U x)
  (hav : ∀ d, o.dst = some d -> ∀ σ' a', (∀ r, aQ U σ a w σ' a' w' r) -> aP X σ' a' w' ow' d av v) : Sound X U a w e o (iw σ o.dst av) := fun K Q hK => by
 left
 unfold Oper.wp
 rw [hv, Oper.upon_value]
 exact hK _ _ _ _ (Zm0 h (fun x hx => .inl hx) ht hd hst (fun c hc => he _ (hrc c hc ▸ Fam.self _)) hav).1
def di (X : Cx) (U : Nat -> Prop) (σ : St) (a : Act) (w : World) (ow : Nat -> Ow) (e : Nat) (v : Value) : AV -> Prop
 | .u => True
 | .x t => rep X.tab X.mv w ow none t [v]
 | .own k t => k = ⟨e, e, e⟩ /\ v = .slice none 0 0 /\ ∃ sz, t = .l .y sz []
 | .w r k p z lo n => dc σ a w r k p z lo n v /\ U k.e /\ U k.h /\ U k.d
 | .st cs => ∃ vs : Array Value, v = .agg vs /\ vs.toList.length = cs.length /\ ∀ (j : Nat) c u, cs[j]? = some c -> vs.toList[j]? = some u -> match c with
   | .x t => rep X.tab X.mv w ow none t [u]
   | .w r k p z lo n => dc σ a w r k p z lo n u /\ U k.e /\ U k.h /\ U k.d
 | .box _ _ => False
 | .ptr r k p off => l9 σ a w r k p off v /\ U k.e /\ U k.h /\ U k.d
 | .q t off => ∃ b o vs, v = .pointer (some ⟨b, o + off, none⟩) /\ ow b = .z /\ At w b o vs /\ rep X.tab X.mv w ow none t vs
 | .tup _ => False
theorem Z2j {s : Nat} : ∀ (cs : List Cell) (j0 : Nat) (vs : List Value), vs.length = cs.length -> (∀ (j : Nat) c v, cs[j]? = some c -> vs[j]? = some v -> dm X σ a w ow s (j0 + j) c v) -> dM X σ a w ow s j0 cs vs
 | [], j0, vs, hl, _ => by simp only [dM]; exact Y44.1 hl
 | c :: cs, j0, [], hl, _ => by simp at hl
 | c :: cs, j0, v :: vs, hl, h => by
  simp only [dM]
  refine ⟨v, vs, rfl, by simpa using h 0 c v rfl rfl, Z2j cs (j0 + 1) vs (by simpa using hl) fun j c' u h1 h2 => ?_⟩
  have := h (j + 1) c' u (by simpa using h1) (by simpa using h2)
  rw [show j0 + 1 + j = j0 + (j + 1) by omega]
  exact this
theorem Zai {e : Nat} {v : Value} {av : AV} (hl : di X U σ a w ow e v av) (hz : Zs w ow w' ow') {d : Nat} (hr : ∀ r, aQ U σ a w σ' a2 w' r) : aP X σ' a2 w' ow' d av v := by
 cases av <;> simp only [di] at hl <;> simp only [aP]
 case x t => exact Zg1 hz t (c := none) trivial hl
 case own k t =>
  obtain ⟨_, rfl, sz, rfl⟩ := hl
  exact ⟨⟨_, _, _, rfl, rfl⟩, Z35 (.l .y sz []) _ _ (by simp [T.isConst]) (fun e => by cases e) (fun _ => by simp)⟩
 case w r k p z lo n => exact (hr r).iu hl.2.1 hl.2.2.1 hl.2.2.2 hl.1
 case st cs =>
  obtain ⟨vs, rfl, hlen, hc⟩ := hl
  refine ⟨vs, rfl, Z2j cs 0 vs.toList hlen fun j c u h1 h2 => ?_⟩
  have := hc j c u h1 h2
  cases c with
  | x t => exact Zg1 hz t (c := none) (c' := some (.sl d, [0 + j])) trivial this
  | w r k p z lo n => exact (hr r).iu this.2.1 this.2.2.1 this.2.2.2 this.1
 case ptr r k p off => exact (hr r).BL hl.2.1 hl.2.2.1 hl.2.2.2 hl.1
 case q t off =>
  obtain ⟨b, o, vs, rfl, hb, ha, h⟩ := hl
  obtain ⟨h1, h2⟩ := hz b hb
  exact ⟨b, o, vs, rfl, h1, ha.same h2, Zg1 hz t (c := none) trivial h⟩
theorem Zaj {e : Nat} {v : Value} {av : AV} (hl : di X U σ a w ow e v av) : av.stamps (fun x => U x \/ Fam e x) := by
 cases av <;> simp only [di] at hl <;> simp only [AV.stamps]
 case own k t =>
  obtain ⟨rfl, _⟩ := hl
  exact ⟨.inr (Fam.self _), .inr (Fam.self _), .inr (Fam.self _)⟩
 case w => exact ⟨.inl hl.2.1, .inl hl.2.2.1, .inl hl.2.2.2⟩
 case ptr => exact ⟨.inl hl.2.1, .inl hl.2.2.1, .inl hl.2.2.2⟩
 case st cs =>
  obtain ⟨vs, rfl, hlen, hc⟩ := hl
  intro c hm
  obtain ⟨j, hj⟩ := Y59.1 hm
  have hjl := (Y36.1 hj).1
  have := hc j c vs.toList[j] hj (by simp)
  cases c with
  | x t => simp [Cell.stamps]
  | w r k p z lo n => exact ⟨.inl this.2.1, .inl this.2.2.1, .inl this.2.2.2⟩
theorem Zag {e : Nat} {v : Value} {av : AV} (hl : di X U σ a w ow e v av) (c : RC) (hc : av.rc = some c) : c.k.e = e := by
 cases av <;> simp only [di] at hl <;> simp only [AV.rc, reduceCtorEq, Y89] at hc
 obtain ⟨rfl, _⟩ := hl
 subst hc
 rfl
theorem Zjj (h : Rel X U J σ a w ow) {e : Nat} {o : Oper} {v : Value} {av : AV} (hv : (execOp a.eval o).run X.P w = .ok (.value v) w) (hd : ∀ d, o.dst = some d -> d < X.n /\ d ∉ X.bu) (he : ∀ x, Fam e x -> ¬ U x)
  (hl : di X U σ a w ow e v av) (af : (bT o.dst av).run σ = some ((), σ')) : Sound X U a w e o σ' := by
 rw [Zhm] at af
 simp only [Y89, Y90, true_and] at af
 subst af
 exact Zjl h hv (gO.rfl h o.dst (Nat.le_refl _)) hd (Zaj hl) (Zag hl) he fun d _ σ' a' hr => Zai hl (fun b hb => ⟨hb, rfl⟩) hr
def hX (ow : Nat -> Ow) : Nat -> Ow := fun b => match ow b with | .own _ _ => .z | o => o
theorem Zg (B : List Nat) : ja ow B (hX ow) := ⟨fun b hb => by simp [hX, hb], fun r _ b q hb => by simp [hX, hb]⟩
theorem Zel (h : Rel X U J σ a w ow) {e : Nat} {x : Opd} {v : Value} {av : AV} (hr : cw X U σ a w ow x v av) (fY : ∀ k cs, av ≠ .box k cs) (jX : ∀ n, av ≠ .tup n) (hown : ∀ k t, av = .own k t -> k = ⟨e, e, e⟩ /\ ∃ c, x = .k c)
  (hst : ∀ cs, av = .st cs -> cs.any Cell.fy = false) : di X U σ a w ow e v av := by
 cases av <;> simp only [cw] at hr <;> simp only [di]
 case x t => exact hr
 case own k t =>
  obtain ⟨h1, c, rfl⟩ := hown k t rfl
  obtain ⟨sz, h2, h3⟩ := hr
  exact ⟨h1, h3, sz, h2⟩
 case w => exact hr
 case st cs =>
  have hno := hst cs rfl
  cases x with
  | t s =>
   obtain ⟨_, rfl, hσ⟩ := hr
   have hs := h.slot s
   rw [hσ] at hs
   simp only [aP] at hs
   obtain ⟨vs, he, hc⟩ := hs
   obtain ⟨hlen, dp⟩ := Z2i hc
   refine ⟨vs, he, hlen, fun j c u h1 h2 => ?_⟩
   have h3 := dp j c u h1 h2
   have hm := Y62 h1
   have jb := h.bZ s
   rw [hσ] at jb
   cases c with
   | x t =>
    simp only [dm] at h3
    refine Zah ?_ h3
    cases ht : t.loose with
    | true => rfl
    | false =>
     have : cs.any Cell.fy = true := Y20.2 ⟨_, hm, by simp [Cell.fy, ht]⟩
     rw [hno] at this; cases this
   | w r k p z lo n =>
    simp only [dm] at h3
    exact ⟨h3, jb _ hm⟩
  | k c =>
   obtain ⟨ts, vs, rfl, rfl, hc⟩ := hr
   refine ⟨vs, rfl, by rw [Zy _ _ hc]; simp, fun j c' u h1 h2 => ?_⟩
   rw [Y37] at h1
   obtain ⟨t, ht, rfl⟩ := Y87.1 h1
   obtain ⟨h3, h4⟩ := Zx ts vs.toList j hc ht h2
   refine Z35 t u none h3 (fun _ sz es e => ?_) h4
   have : (ts.map Cell.x).any Cell.fy = true := by
    rw [List.any_map]
    exact Y20.2 ⟨t, Y62 ht, by subst e; rfl⟩
   rw [hno] at this; cases this
 case box k cs => exact fY k cs rfl
 case ptr => exact hr
 case q => exact hr
 case tup n => exact jX n rfl
end
end Go.Wr
namespace Go.Wr
def ma (P : Program) (t : TypeId) : Bool :=
 match P.underlying t with
 | some (.struct fs) => (match fs.toList with
  | [f, g] => f.name != "_" && g.name != "_" && f.offset == 0 && g.offset == 1 &&
    (match P.underlying f.type, P.underlying g.type with | some (.int .i64), some (.int .i64) => true | _, _ => false)
  | _ => false) && !P.stoodInHeld t && !P.eqGuardType P.depth t
 | _ => false
def pn (P : Program) (t : TypeId) : Bool := match P.underlying t with | some .bool => true | _ => false
def BTy.ok (P : Program) (t : TypeId) : BTy -> Bool
 | .o => true
 | .b => pn P t
 | .p => ma P t
section
variable {X : Cx} {U : Nat -> Prop} {J J' : Nat} {σ σ' σ2 : St} {a a2 : Act} {w w' w2 : World} {ow ow' ow2 : Nat -> Ow}
theorem Z9v (h : Rel X U J σ a w ow) {x : Opd} {v : AV} {val : Value} {t : T} (hr : cw X U σ a w ow x val v) (af : (fx v).run σ = some (t, σ')) :
  σ' = σ /\ (rep X.tab X.mv w (hX ow) none t [val] \/ ∃ vs : Array Value, val = .agg vs /\ rep X.tab X.mv w (hX ow) none t vs.toList) := by
 obtain ⟨h1, h2⟩ := Z9u h hr af
 refine ⟨h1, ?_⟩
 have := h2 (hX ow) X.mv (Zg _)
 cases v <;> simp only at this <;> first | exact .inl this | exact .inr this
theorem Zd6 (h : Rel X U J σ a w ow) {e : Nat} {x : Opd} {o : Operand} (hx : x.is X.tab o = true) {t : T} (af : (plain e x).run σ = some (t, σ')) :
  σ' = σ /\ (∀ k n, t = .i k n -> a.eval o = .int k n) /\ (∀ b, t = .b b -> a.eval o = .bool b) /\ (∀ s, t = .s s -> a.eval o = .string s) /\ (∀ m n, t = .a [.i .i64 m, .i .i64 n] -> a.eval o = .agg #[.int .i64 m, .int .i64 n]) := by
 unfold plain at af
 obtain ⟨v, σ1, h1, h2⟩ := Zh3 af
 obtain ⟨rfl, bm⟩ := Zem h hx h1
 obtain ⟨h3, h4⟩ := Z9u h bm h2
 have h5 := h4 (hX ow) X.mv (Zg _)
 refine ⟨h3, ?_, ?_, ?_, ?_⟩
 rotate_left 3
 ·rintro m n rfl
  cases v <;> simp only [rep, aR] at h5 <;> try simp at h5
  obtain ⟨vs, hv, h6⟩ := h5
  rw [hv, <- Array.toArray_toList (xs := vs), h6]
 ·rintro k n rfl
  cases v <;> simp only [rep] at h5 <;> try simpa using h5
  obtain ⟨ts, σ2, h6, h7⟩ := Zh3 h2
  obtain ⟨e, _⟩ := Zhk h7
  cases e
 ·rintro b rfl
  cases v <;> simp only [rep] at h5 <;> try simpa using h5
  obtain ⟨ts, σ2, h6, h7⟩ := Zh3 h2
  obtain ⟨e, _⟩ := Zhk h7
  cases e
 ·rintro b rfl
  cases v <;> simp only [rep] at h5 <;> try simpa using h5
  obtain ⟨ts, σ2, h6, h7⟩ := Zh3 h2
  obtain ⟨e, _⟩ := Zhk h7
  cases e
def T.val : T -> Value
 | .i k n => .int k n
 | .b x => .bool x
 | .s x => .string x
 | _ => undef
theorem Z8o {P : Program} {op : BinOp} {ty : TypeId} {k k' : IntKind} {m n : Int} {r : T} (hb : iF op .o (.i k m) (.i k' n) = some r) :
  (binOp op ty (.int k m) (.int k' n)).run P w = .ok r.val w /\ ∀ tab mv ow, rep tab mv w ow none r [r.val] := by
 cases op <;> simp only [iF] at hb
 case shl =>
  by_cases hn : n < 0
  ·simp [hn] at hb
  ·simp only [hn, if_false, Y89] at hb
   subst hb
   exact ⟨by simp [binOp, Op.shift, hn, T.val, Pure.pure, Sem.run], fun _ _ _ => by simp [rep, T.val]⟩
 case shr =>
  by_cases hn : n < 0
  ·simp [hn] at hb
  ·simp only [hn, if_false, Y89] at hb
   subst hb
   exact ⟨by simp [binOp, Op.shift, hn, T.val, Pure.pure, Sem.run], fun _ _ _ => by simp [rep, T.val]⟩
 case quo =>
  by_cases hk : k = k'
  ·by_cases hn : n = 0
   ·simp [hk, hn] at hb
   ·simp only [hk, hn, if_true, if_false, Y89] at hb
    subst hb hk
    exact ⟨by simp [binOp, Op.intDiv, hn, T.val, Pure.pure, Sem.run], fun _ _ _ => by simp [rep, T.val]⟩
  ·simp [hk] at hb
 case rem =>
  by_cases hk : k = k'
  ·by_cases hn : n = 0
   ·simp [hk, hn] at hb
   ·simp only [hk, hn, if_true, if_false, Y89] at hb
    subst hb hk
    exact ⟨by simp [binOp, Op.intDiv, hn, T.val, Pure.pure, Sem.run], fun _ _ _ => by simp [rep, T.val]⟩
  ·simp [hk] at hb
 all_goals
  by_cases hk : k = k'
  ·simp only [hk, if_true, Y89, reduceCtorEq] at hb
   try
    subst hb hk
    exact ⟨by simp [binOp, Op.intArith, Op.intBits, Op.intCmp, T.val, Pure.pure, Sem.run], fun _ _ _ => by simp [rep, T.val]⟩
  ·simp [hk] at hb
theorem Zjy {P : Program} {op : BinOp} {ty : TypeId} {m n : ByteArray} {r : T} (hb : iF op .o (.s m) (.s n) = some r) :
  (binOp op ty (.string m) (.string n)).run P w = .ok r.val w /\ ∀ tab mv ow, rep tab mv w ow none r [r.val] := by
 cases op <;> simp only [iF, reduceCtorEq] at hb
 case add =>
  by_cases hl : (m.size + n.size : Nat) < 9223372036854775807
  ·rw [if_pos (by exact_mod_cast hl)] at hb
   cases hb
   have : ¬ (((m.size + n.size : Nat) : Int) > IntKind.i64.max) := by
    have : IntKind.i64.max = 9223372036854775807 := by decide
    rw [this]; omega
   exact ⟨by simp only [binOp, Op.stringOp, if_neg this, T.val, Pure.pure, Sem.run], fun _ _ _ => by simp [rep, T.val]⟩
  ·rw [if_neg (by exact_mod_cast hl)] at hb; cases hb
 all_goals
  cases hb
  exact ⟨by simp [binOp, Op.stringOp, T.val, Pure.pure, Sem.run], fun _ _ _ => by simp [rep, T.val]⟩
theorem Zhl {α β : Type} {P : Program} {s : Sem α} {f : α -> Sem β} {x : α} (h : s.run P w = .ok x w') : (s >>= f).run P w = (f x).run P w' := by
 show (Sem.bind s f).run P w = _
 induction s generalizing w with
 | pure a => simp only [Sem.run, Result.ok.injEq] at h; obtain ⟨rfl, rfl⟩ := h; rfl
 | load m a k ih =>
  simp only [Sem.bind, Sem.run] at h ⊢
  split at h
  ·exact ih _ h
  ·split at h
   ·exact ih _ h
   ·cases h
 | store m a v k ih =>
  cases v <;> simp only [Sem.bind, Sem.run, reduceCtorEq] at h ⊢
  all_goals
   split at h
   ·split at h
    ·cases h
    ·rename_i h2; rw [if_neg h2]; exact ih h
   ·split at h
    ·exact ih h
    ·cases h
 | new o k ih => exact ih _ h
 | shape r k ih => exact ih _ h
 | freeze a n k ih => exact ih h
 | frozen a k ih => exact ih _ h
 | getObj r k ih =>
  simp only [Sem.bind, Sem.run] at h ⊢
  split at h
  ·cases h
  ·exact ih _ h
  ·cases h
 | setObj r o k ih =>
  simp only [Sem.bind, Sem.run] at h ⊢
  split at h
  ·cases h
  ·exact ih h
  ·cases h
 | choose q k ih =>
  simp only [Sem.bind, Sem.run] at h ⊢
  split at h
  ·rename_i h2; rw [if_pos h2]; exact ih _ h
  ·rename_i h2; rw [if_neg h2]; exact ih _ h
 | sys c k ih => exact ih _ h
 | program k ih => exact ih _ h
 | mark m k ih => exact ih h
 | halt x => simp only [Sem.run] at h; cases h
theorem Z3k {P : Program} {ty : TypeId} {m n : Bool} (hu : P.underlying ty = some .bool) (d : Nat) : (Op.equalIn (d + 1) ty (.bool m) (.bool n)).run P w = .ok (m == n) w := by
 unfold Op.equalIn
 have : (underlying ty).run P w = .ok .bool w := by simp [underlying, program, Bind.bind, Sem.bind, Sem.run, hu, Pure.pure]
 rw [Zhl this]
 rfl
theorem Z1j {P : Program} {op : BinOp} {ty : TypeId} {m n : Bool} {r : T} (hg : pn P ty = true) (hb : iF op .b (.b m) (.b n) = some r) :
  (binOp op ty (.bool m) (.bool n)).run P w = .ok r.val w /\ ∀ tab mv ow, rep tab mv w ow none r [r.val] := by
 unfold pn at hg
 split at hg
 ·rename_i hu
  have he : (Op.equal ty (.bool m) (.bool n)).run P w = .ok (m == n) w := Z3k hu 9999
  cases op <;> simp only [iF, reduceCtorEq] at hb
  ·cases hb
   exact ⟨Zhl he, fun _ _ _ => by simp [rep, T.val]⟩
  ·cases hb
   exact ⟨Zhl he, fun _ _ _ => by simp [rep, T.val]⟩
 ·cases hg
theorem Zct {P : Program} {ty : TypeId} (hg : ma P ty = true) (a1 a2 b1 b2 : Int) : P.eqGuardType P.depth ty = false /\ (Op.equal ty (.agg #[.int .i64 a1, .int .i64 a2]) (.agg #[.int .i64 b1, .int .i64 b2])).run P w = .ok (a1 == b1 && a2 == b2) w := by
 unfold ma at hg
 split at hg
 ·rename_i fs hu
  simp only [Y2, Y11] at hg
  obtain ⟨⟨hf, hst⟩, hgt⟩ := hg
  refine ⟨hgt, ?_⟩
  split at hf
  ·rename_i f g hl
   simp only [Y2, bne_iff_ne, ne_eq, beq_iff_eq] at hf
   obtain ⟨⟨⟨⟨hn1, hn2⟩, ho1⟩, ho2⟩, hty⟩ := hf
   split at hty
   ·rename_i hu1 hu2
    have hfs : P.fieldsOf ty = fs := by simp [Program.fieldsOf, hu]
    have hp1 : P.plainKey f.type = true := by simp [Program.plainKey, hu1]
    have hp2 : P.plainKey g.type = true := by simp [Program.plainKey, hu2]
    show (Op.equalIn (9998 + 1 + 1) ty _ _).run P w = _
    rw [run_equalIn_struct w (9998 + 1) ty _ _ (by rw [hfs]; exact hu) hst, hfs, hl]
    simp only [Op.eqFields, hn1, hn2, ne_eq, not_false_eq_true, if_true, Sem.run_bind, ho1, ho2]
    rw [run_part_plain w hp1 (v := .int .i64 a1) (by rfl)]
    simp only [Result.andThen_ok]
    rw [run_part_plain w hp1 (v := .int .i64 b1) (by rfl)]
    simp only [Result.andThen_ok]
    rw [run_equalIn_int w 9998 f.type .i64 .i64 a1 b1 hu1]
    simp only [Result.andThen_ok]
    by_cases h1 : a1 = b1
    ·subst h1
     simp only [beq_self_eq_true, Y13, Y9, if_false, Y15, Sem.run_bind]
     rw [run_part_plain w hp2 (v := .int .i64 a2) (by rfl)]
     simp only [Result.andThen_ok]
     rw [run_part_plain w hp2 (v := .int .i64 b2) (by rfl)]
     simp only [Result.andThen_ok]
     rw [run_equalIn_int w 9998 g.type .i64 .i64 a2 b2 hu2]
     simp only [Result.andThen_ok]
     by_cases h2 : a2 = b2
     ·subst h2; simp [Sem.run, Pure.pure]
     ·simp [h2, Sem.run, Pure.pure]
    ·simp [h1, Sem.run, Pure.pure]
   ·cases hty
  ·cases hf
 ·cases hg
theorem Zcu {P : Program} {op : BinOp} {ty : TypeId} {x y : Operand} {a1 a2 b1 b2 : Int} {r : T} (hg : ma P ty = true) (hb : iF op .p (.a [.i .i64 a1, .i .i64 a2]) (.a [.i .i64 b1, .i .i64 b2]) = some r) :
  (Sem.run P (do eqGuard op ty x y (.agg #[.int .i64 a1, .int .i64 a2]) (.agg #[.int .i64 b1, .int .i64 b2]); binOp op ty (.agg #[.int .i64 a1, .int .i64 a2]) (.agg #[.int .i64 b1, .int .i64 b2])) w) = .ok r.val w /\ ∀ tab mv ow, rep tab mv w ow none r [r.val] := by
 obtain ⟨h1, h2⟩ := Zct (w := w) hg a1 a2 b1 b2
 have hgd : (eqGuard op ty x y (.agg #[.int .i64 a1, .int .i64 a2]) (.agg #[.int .i64 b1, .int .i64 b2])).run P w = .ok () w := by
  unfold eqGuard
  cases op <;> first | rfl | (simp only [Y13, Y9, if_false, Sem.run_bind, run_program, Result.andThen_ok, h1, Y12, if_true]; rfl)
 rw [Zhl hgd]
 cases op <;> simp only [iF, reduceCtorEq] at hb
 case eql =>
  cases hb
  exact ⟨by show (do pure (Value.bool (<- Op.equal ty _ _)) : Sem Value).run P w = _; rw [Zhl h2]; rfl, fun _ _ _ => by simp [rep, T.val]⟩
 case neq =>
  cases hb
  exact ⟨by show (do pure (Value.bool (!(<- Op.equal ty _ _))) : Sem Value).run P w = _; rw [Zhl h2]; rfl, fun _ _ _ => by simp [rep, T.val]⟩
theorem Z1h {P : Program} {op : BinOp} {g : BTy} {ty : TypeId} {x y : Operand} {s t r : T} {u v : Value} (hg : g.ok P ty = true) (hb : iF op g s t = some r)
  (hs : (∀ k n, s = .i k n -> u = .int k n) /\ (∀ b, s = .b b -> u = .bool b) /\ (∀ z, s = .s z -> u = .string z) /\ (∀ m n, s = .a [.i .i64 m, .i .i64 n] -> u = .agg #[.int .i64 m, .int .i64 n]))
  (ht : (∀ k n, t = .i k n -> v = .int k n) /\ (∀ b, t = .b b -> v = .bool b) /\ (∀ z, t = .s z -> v = .string z) /\ (∀ m n, t = .a [.i .i64 m, .i .i64 n] -> v = .agg #[.int .i64 m, .int .i64 n])) :
  (Sem.run P (do eqGuard op ty x y u v; binOp op ty u v) w) = .ok r.val w /\ ∀ tab mv ow, rep tab mv w ow none r [r.val] := by
 have hb' := hb
 unfold iF at hb
 split at hb
 ·rename_i k m k' n
  obtain rfl := hs.1 _ _ rfl
  obtain rfl := ht.1 _ _ rfl
  have hgd : eqGuard op ty x y (.int k m) (.int k' n) = pure () := by
   unfold eqGuard; cases op <;> rfl
  rw [hgd]
  exact Z8o hb'
 ·rename_i m n
  obtain rfl := hs.2.2.1 _ rfl
  obtain rfl := ht.2.2.1 _ rfl
  have hgd : eqGuard op ty x y (.string m) (.string n) = pure () := by
   unfold eqGuard; cases op <;> rfl
  rw [hgd]
  exact Zjy hb'
 ·rename_i m n
  obtain rfl := hs.2.1 _ rfl
  obtain rfl := ht.2.1 _ rfl
  have hgd : eqGuard op ty x y (.bool m) (.bool n) = pure () := by
   unfold eqGuard; cases op <;> rfl
  rw [hgd]
  exact Z1j hg hb'
 ·rename_i a1 a2 b1 b2
  obtain rfl := hs.2.2.2 _ _ rfl
  obtain rfl := ht.2.2.2 _ _ rfl
  exact Zcu hg hb'
 ·cases hb
end
end Go.Wr
namespace Go.Wr
section
variable {X : Cx} {U : Nat -> Prop} {J J' : Nat} {σ σ' σ2 : St} {a a2 : Act} {w w' w2 : World} {ow ow' ow2 : Nat -> Ow}
theorem Z3 (b o n : Nat) : (⟨b, o, none⟩ : Addr).add n = ⟨b, o + n, none⟩ := by
 unfold Addr.add; split <;> simp_all
theorem Zhb {P : Program} {b o : Nat} : ∀ (n i : Nat) (acc : Array Value) (vs : List Value), At w b (o + i) vs -> vs.length = n ->
  (loadCellsFrom ⟨b, o, none⟩ i n acc).run P w = .ok (acc ++ vs.toArray) w
 | 0, i, acc, vs, h, hl => by
  have : vs = [] := Y44.1 hl
  subst this
  simp [loadCellsFrom, Pure.pure, Sem.run]
 | n + 1, i, acc, [], h, hl => by simp at hl
 | n + 1, i, acc, v :: vs, h, hl => by
  obtain ⟨h1, h2⟩ := h.cons
  have h3 : (Go.load ((⟨b, o, none⟩ : Addr).add i)).run P w = .ok v w := by
   rw [Z3]
   simp [Go.load, Sem.run, h1]
  unfold loadCellsFrom
  rw [Zhl h3, Zhb n (i + 1) (acc.push v) vs (by rw [<- Y74]; exact h2) (by simpa using hl)]
  simp
def fB (P : Program) (t : TypeId) (n : Nat) : Bool := match P.info? t with | some i => i.size == n | none => false
def fk (P : Program) (t : TypeId) (b : Bool) : Bool :=
 match P.underlying t with
 | some (.struct _) => b
 | some (.array _ _) => b
 | some _ => !b
 | none => false
theorem Zho {P : Program} {t : TypeId} {n : Nat} (h : fB P t n = true) : (sizeOf t).run P w = .ok n w := by
 unfold fB at h
 split at h
 ·rename_i i hi
  simp at h
  subst h
  simp [sizeOf, typeInfo, program, Bind.bind, Sem.bind, Sem.run, hi, Pure.pure]
 ·cases h
theorem Zh9 {P : Program} {t : TypeId} {b : Bool} (h : fk P t b = true) : (isAgg t).run P w = .ok b w := by
 unfold fk at h
 split at h
 ·rename_i fs hi
  subst h
  simp [isAgg, underlying, program, Bind.bind, Sem.bind, Sem.run, hi, Pure.pure]
 ·rename_i m e hi
  subst h
  simp [isAgg, underlying, program, Bind.bind, Sem.bind, Sem.run, hi, Pure.pure]
 ·rename_i d h1 h2 hi
  simp at h
  subst h
  have : (underlying t).run P w = .ok d w := by simp [underlying, program, Bind.bind, Sem.bind, Sem.run, hi, Pure.pure]
  unfold isAgg
  rw [Zhl this]
  split
  ·exact absurd rfl (h1 _)
  ·exact absurd rfl (h2 _ _)
  ·rfl
 ·cases h
theorem Zhc {P : Program} {t : TypeId} {b o : Nat} {v : Value} (h : fk P t false = true) (hc : w.cell? ⟨b, o, none⟩ = some v) : (loadVar t ⟨b, o, none⟩).run P w = .ok v w := by
 unfold loadVar
 rw [Zhl (Zh9 h)]
 simp [Go.load, Sem.run, hc]
theorem Zhd {P : Program} {t : TypeId} {b o n : Nat} {vs : List Value} (h : fk P t true = true) (hs : fB P t n = true) (hc : At w b o vs) (hl : vs.length = n) :
  (loadVar t ⟨b, o, none⟩).run P w = .ok (.agg vs.toArray) w := by
 unfold loadVar
 rw [Zhl (Zh9 h)]
 simp only [if_true]
 rw [Zhl (Zho hs)]
 have := Zhb (P := P) (w := w) n 0 #[] vs (by simpa using hc) hl
 unfold loadCells
 rw [Zhl this]
 simp [Pure.pure, Sem.run]
def kJ (X : Cx) (U : Nat -> Prop) (σ : St) (a : Act) (w : World) (ow : Nat -> Ow) : Cell -> Value -> Prop
 | .x t, u => rep X.tab X.mv w ow none t [u]
 | .w r k p z lo n, u => dc σ a w r k p z lo n u /\ U k.e /\ U k.h /\ U k.d
theorem Zft {c : Loc} {cs : List T} {vs : List Value} (h : rep X.tab X.mv w ow c (.a cs) vs) {j : Nat} {t : T} (ht : cs[j]? = some t) : ∃ v, vs[j]? = some v /\ rep X.tab X.mv w ow (c.push j) t [v] := by
 simp only [rep] at h
 have := Zf7 h ht
 rw [Y83] at this
 exact this
theorem Zbi : ∀ (p : List Nat) (t : T) {m : T} (k : Nat), t.nav p = some m -> t.nav (p ++ [k]) = m.kid k
 | [], t, m, k, h => by
  simp only [T.nav, Y89] at h
  subst h
  simp only [Y66, T.nav]
  cases t.kid k <;> rfl
 | j :: p, t, m, k, h => by
  simp only [Y24, T.nav] at h ⊢
  obtain ⟨c, h1, h2⟩ := Y84.1 h
  rw [h1]
  exact Zbi p c k h2
theorem Za3 : ∀ (p : List Nat) (t : T) {cs : List T} {t' : T} {b o b' o' : Nat} (k : Nat), t.nav p = some (.a cs) -> cs[k]? = some t' -> bp w t b o p = some (b', o') ->
  bp w t b o (p ++ [k]) = some (b', o' + k)
 | [], t, cs, t', b, o, b', o', k, h, hk, hl => by
  simp only [T.nav, Y89] at h
  subst h
  have hl' : (b, o) = (b', o') := by simpa [bp] using hl
  obtain ⟨rfl, rfl⟩ := Prod.mk.inj hl'
  simp only [Y66, bp, hk]
 | j :: p, t, cs, t', b, o, b', o', k, h, hk, hl => by
  simp only [T.nav] at h
  obtain ⟨c, h1, h2⟩ := Y84.1 h
  cases t <;> simp only [T.kid, reduceCtorEq] at h1
  case a cs0 =>
   simp only [bp, h1, Y24] at hl ⊢
   exact Za3 p c k h2 hk hl
  case l ob sz es =>
   simp only [bp, h1, Y24] at hl ⊢
   split at hl
   ·rename_i ad N C t2 he1 he2
    cases he2
    exact Za3 p c k h2 hk hl
   ·cases hl
theorem Zd0 {c : RC} {v : Value} {p : List Nat} {cs : List T} {t' : T} {b o k : Nat} (hn : c.t.nav p = some (.a cs)) (hk : cs[k]? = some t') (hp : place w c v p = some (b, o)) :
  place w c v (p ++ [k]) = some (b, o + k) := by
 unfold place at hp ⊢
 split at hp
 ·rename_i ad hib
  exact Za3 p c.t k hn hk hp
 ·rename_i A N C hib
  cases p with
  | nil =>
   simp only [T.nav, Y89] at hn
   rw [hn] at hp
   simp [cG] at hp
  | cons i p =>
   simp only [T.nav] at hn
   obtain ⟨t1, h1, h2⟩ := Y84.1 hn
   obtain ⟨ib, kk, t⟩ := c
   simp only at hn h1 hp ⊢
   cases t <;> simp only [T.kid, reduceCtorEq] at h1
   ·simp [cG] at hp
   ·cases A with
    | none => simp [cG] at hp
    | some ad =>
     simp only [cG, h1, Y24] at hp ⊢
     exact Za3 p t1 k h2 hk hp
 ·cases hp
theorem Zij (h : Rel X U J σ a w ow) {r : Nat} {c : RC} (hc : (σ r).rc = some c) {p : List Nat} {o : Ob} {sz : Nat} {es : List T} (hn : c.t.nav p = some (.l o sz es)) (hp : c.bi = true \/ p ≠ [])
  {b o' : Nat} {v : Value} (hpl : place w c (aK a r) p = some (b, o')) (bD : w.cell? ⟨b, o', none⟩ = some v) : dc σ a w r c.k p sz 0 es.length v := by
 have hh : hdr w c (aK a r) p = some v := by
  unfold hdr
  rw [if_neg (by
   rcases hp with hp | hp
   ·simp [hp]
   ·cases p <;> simp at hp ⊢), hpl]
  exact bD
 obtain ⟨hv, h1, h2⟩ := Zgh (w := w) hc (h.slot r) hn
 rw [hh] at h1
 cases h1
 obtain ⟨A, C, he, dV, cM⟩ := Zfu h2
 simp only [Y23, and_true] at he
 subst he
 refine ⟨⟨A, C, rfl, dV, fun h0 => ?_⟩, fun c' hc' _ => ?_⟩
 ·obtain ⟨ad, cap, he1, _, hsp, _⟩ := Zfv h2 (by intro e; subst e; simp at h0)
  simp only [Y23, Value.slice.injEq, and_true] at he1
  obtain ⟨b, o, spot⟩ := ad
  simp only at hsp
  subst hsp
  exact ⟨b, o, he1.1⟩
 ·rw [hc] at hc'
  cases hc'
  refine ⟨fun cs hcs => (by rw [hn] at hcs; cases hcs), fun o2 sz2 es2 hn2 A2 N2 C2 hh2 => ?_⟩
  rw [hn] at hn2
  cases hn2
  rw [hh] at hh2
  cases hh2
  exact ⟨rfl, by omega, A, _, C, A, C, rfl, rfl, dV, by omega, .inl ⟨rfl, .inl rfl⟩, fun _ _ => rfl⟩
theorem Zii (h : Rel X U J σ a w ow) {r : Nat} {c : RC} (hc : (σ r).rc = some c) {p : List Nat} {node : T} (hn : c.t.nav p = some node) (hp : c.bi = true \/ p ≠ [])
  {b o : Nat} {vs : List Value} (hpl : place w c (aK a r) p = some (b, o)) (ha : At w b o vs) (bG : rep X.tab X.mv w ow (c.t.cq (some (.sl r, [])) p) node vs) {off : Nat} {t : T} (ht : node.cells[off]? = some t) :
  ∃ v, vs[off]? = some v /\ kJ X U σ a w ow (seen r c.k p off node t) v := by
 have hst : U c.k.e /\ U c.k.h /\ U c.k.d := by
  have := h.bZ r
  rcases Zen hc with ⟨_, cs, _, hσ⟩ | ⟨_, hσ⟩ <;> rw [hσ] at this <;> exact this
 by_cases hna : ∃ cs, node = .a cs
 ·obtain ⟨cs, rfl⟩ := hna
  simp only [T.cells] at ht
  obtain ⟨v, hv, hr⟩ := Zft bG ht
  refine ⟨v, hv, ?_⟩
  have bD := ha off v hv
  cases t
  case l ob sz es =>
   cases ob with
   | n => exact Zah (by rfl) hr
   | y => exact ⟨Zij h hc (by rw [Zbi p c.t off hn]; exact ht) (.inr (by simp)) (Zd0 hn ht hpl) bD, hst⟩
   | m k => exact ⟨Zij h hc (by rw [Zbi p c.t off hn]; exact ht) (.inr (by simp)) (Zd0 hn ht hpl) bD, hst⟩
  case a cs' =>
   have := Zfo _ hr
   simpa [seen, kJ, rep] using this
  all_goals exact Zah (by rfl) hr
 ·have bA : node.cells = [node] := by cases node <;> first | rfl | exact absurd ⟨_, rfl⟩ hna
  rw [bA] at ht
  have hv1 := Zfz bG (fun cs e => hna ⟨cs, e⟩)
  obtain ⟨v, rfl⟩ := Y43.1 hv1
  cases off with
  | succ off => simp at ht
  | zero =>
   simp at ht
   subst ht
   refine ⟨v, rfl, ?_⟩
   have bD := (ha.cons).1
   cases node
   case l ob sz es =>
    cases ob with
    | n => exact Zah (by rfl) bG
    | y => exact ⟨Zij h hc hn hp hpl bD, hst⟩
    | m k => exact ⟨Zij h hc hn hp hpl bD, hst⟩
   case a cs' => exact absurd ⟨_, rfl⟩ hna
   all_goals exact Zah (by rfl) bG
end
end Go.Wr
namespace Go.Wr
section
variable {X : Cx} {U : Nat -> Prop} {J J' : Nat} {σ σ' σ2 : St} {a a2 : Act} {w w' w2 : World} {ow ow' ow2 : Nat -> Ow}
theorem Z4 (h : Rel X U J σ a w ow) {e : Nat} {x : Opd} {o : Operand} (hx : x.is X.tab o = true) {av : AV} (af : (addr e x).run σ = some (av, σ')) :
  σ' = σ /\ di X U σ a w ow e (a.eval o) av /\ ((∃ r k p off, av = .ptr r k p off) \/ ∃ t off, av = .q t off) := by
 unfold addr at af
 obtain ⟨v, σ1, h1, h2⟩ := Zh3 af
 obtain ⟨rfl, bm, hq1, hq2⟩ := Zaf h hx h1
 clear hq1 hq2
 cases v <;> try simp only [Pg.run, reduceCtorEq] at h2
 case x t =>
  cases t <;> simp only [Pg.run, reduceCtorEq] at h2
  obtain ⟨rfl, rfl⟩ := Zhk h2
  simp only [cw, rep] at bm
  obtain ⟨b, arr, ty, fr, he, hb, hh, hr⟩ := bm
  simp only [Y23, and_true] at he
  exact ⟨rfl, ⟨b, 0, arr.toList, by simpa using he, hb, Z13 hh, hr⟩, .inr ⟨_, _, rfl⟩⟩
 case ptr r k p off =>
  obtain ⟨rfl, rfl⟩ := Zhk h2
  exact ⟨rfl, bm, .inl ⟨_, _, _, _, rfl⟩⟩
 case q t off =>
  obtain ⟨rfl, rfl⟩ := Zhk h2
  exact ⟨rfl, bm, .inr ⟨_, _, rfl⟩⟩
theorem Z16 {b o : Nat} {vs : List Value} (h : At w b o vs) (off n : Nat) : At w b (o + off) (sub vs off n) := fun j v hv => by
 rw [Zk2] at hv
 split at hv
 ·rw [Y74]; exact h _ _ hv
 ·cases hv
theorem Zih {r : Nat} {k : K} {p : List Nat} {node : T} : ∀ (ts : List T) (off j : Nat), (seenCells r k p node off ts)[j]? = (ts[j]?).map (seen r k p (off + j) node)
 | [], off, j => by simp [seenCells]
 | t :: ts, off, j => by
  cases j with
  | zero => simp [seenCells]
  | succ j =>
   simp only [seenCells, Y31]
   rw [Zih ts (off + 1) j, show off + 1 + j = off + (j + 1) by omega]
theorem Z2g {e : Nat} {c : Cell} {v : Value} (h : kJ X U σ a w ow c v) : di X U σ a w ow e v c.av := by
 cases c <;> exact h
theorem Za1 (h : Rel X U J σ a w ow) {e : Nat} {agg : Option Nat} {x : Opd} {o : Operand} (hx : x.is X.tab o = true) {t : TypeId}
  (hty : match agg with | none => fk X.P t false = true | some n => fk X.P t true = true /\ fB X.P t n = true) {av : AV} (af : (load e agg x).run σ = some (av, σ')) :
  σ' = σ /\ ∃ v, (Instr.loadAt t (a.eval o)).run X.P w = .ok v w /\ di X U σ a w ow e v av := by
 unfold load at af
 obtain ⟨ad, σ1, h1, h2⟩ := Zh3 af
 obtain ⟨rfl, hl, et⟩ := Z4 h hx h1
 rcases et with ⟨r, k, p, off, rfl⟩ | ⟨t0, off, rfl⟩
 ·simp only at h2
  obtain ⟨c, σ2, h3, h4⟩ := Zh3 h2
  obtain ⟨rfl, hc, hk, hp⟩ := Zgf h3
  cases hn : c.t.nav p with
  | none => simp [hn, Pg.run] at h4
  | some node =>
   simp only [hn] at h4
   obtain ⟨b, o', vs, hpl, hat, bG⟩ := Zgj (w := w) hc (h.slot r) hn hp
   have hv := hl.1.2 c hc hk _ hpl
   rw [hv]
   cases agg with
   | none =>
    simp only at h4 hty
    cases ht : node.cells[off]? with
    | none => simp [ht, Pg.run] at h4
    | some t1 =>
     simp only [ht] at h4
     obtain ⟨rfl, rfl⟩ := Zhk h4
     obtain ⟨v, hvo, hlc⟩ := Zii h hc hn hp hpl hat bG ht
     refine ⟨rfl, v, ?_, Z2g hlc⟩
     show ((Instr.sureAddr _) >>= fun a => loadVar t a).run X.P w = _
     rw [Zhl (x := ⟨b, o' + off, none⟩) (w' := w) rfl]
     exact Zhc hty (hat off v hvo)
   | some n =>
    simp only at h4 hty
    cases node <;> simp only [Pg.run, reduceCtorEq] at h4
    rename_i cs
    split at h4
    ·rename_i hle
     obtain ⟨rfl, rfl⟩ := Zhk h4
     have hvl : vs.length = cs.length := by
      have jo := bG
      simp only [rep] at jo
      exact Zf8 jo
     refine ⟨rfl, .agg (sub vs off n).toArray, ?_, ?_⟩
     ·show ((Instr.sureAddr _) >>= fun a => loadVar t a).run X.P w = _
      rw [Zhl (x := ⟨b, o' + off, none⟩) (w' := w) rfl]
      exact Zhd hty.1 hty.2 (Z16 hat off n) (Zk3 _ _ _ (by omega))
     ·refine ⟨_, rfl, ?_, fun j c' u hj hu => ?_⟩
      ·have : (seenCells r c.k p (.a cs) off (sub cs off n)).length = n := by
        have hlen := Zih (r := r) (k := c.k) (p := p) (node := .a cs) (sub cs off n) off
        have h5 : (seenCells r c.k p (.a cs) off (sub cs off n)).length = (sub cs off n).length := by
         refine Nat.le_antisymm (Nat.not_lt.1 fun hlt => ?_) (Nat.not_lt.1 fun hlt => ?_)
         ·have := hlen (sub cs off n).length
          rw [Y34 hlt, Y35 (Nat.le_refl _)] at this
          cases this
         ·have := hlen (seenCells r c.k p (.a cs) off (sub cs off n)).length
          rw [Y35 (Nat.le_refl _), Y34 hlt] at this
          cases this
        rw [h5, Zk3 _ _ _ hle]
       rw [this]
       simp [Zk3 vs off n (by omega)]
      ·rw [Zih] at hj
       obtain ⟨t1, ht1, rfl⟩ := Y87.1 hj
       rw [Zk2] at ht1
       split at ht1
       ·rename_i hjn
        obtain ⟨v, hvo, hlc⟩ := Zii h hc hn hp hpl hat bG (off := off + j) ht1
        have hu' : u = v := by
         simp only [List.toList_toArray] at hu
         rw [Zk2, if_pos hjn, hvo] at hu
         exact (Option.some.inj hu).symm
        subst hu'
        revert hlc
        cases seen r c.k p (off + j) (.a cs) t1 <;> exact id
       ·cases ht1
    ·simp [Pg.run] at h4
 ·simp only at h2
  obtain ⟨b, o', vs, hv, hb, hat, bG⟩ := hl
  rw [hv]
  cases agg with
  | none =>
   simp only at h2 hty
   cases ht : t0.cells[off]? with
   | none => simp [ht, Pg.run] at h2
   | some t1 =>
    simp only [ht] at h2
    obtain ⟨rfl, rfl⟩ := Zhk h2
    obtain ⟨v, hvo, hr1⟩ : ∃ v, vs[off]? = some v /\ rep X.tab X.mv w ow none t1 [v] := by
     by_cases hna : ∃ cs, t0 = .a cs
     ·obtain ⟨cs, rfl⟩ := hna
      exact Zft bG ht
     ·have bA : t0.cells = [t0] := by cases t0 <;> first | rfl | exact absurd ⟨_, rfl⟩ hna
      rw [bA] at ht
      have hv1 := Zfz bG (fun cs e => hna ⟨cs, e⟩)
      obtain ⟨v, rfl⟩ := Y43.1 hv1
      cases off with
      | succ off => simp at ht
      | zero => simp at ht; subst ht; exact ⟨v, rfl, bG⟩
    refine ⟨rfl, v, ?_, hr1⟩
    show ((Instr.sureAddr _) >>= fun a => loadVar t a).run X.P w = _
    rw [Zhl (x := ⟨b, o' + off, none⟩) (w' := w) rfl]
    exact Zhc hty (hat off v hvo)
  | some n =>
   simp only at h2 hty
   split at h2
   ·rename_i hle
    obtain ⟨rfl, rfl⟩ := Zhk h2
    have hvl : vs.length = t0.cells.length := by
     cases t0 <;> first | exact Zfz bG (fun cs e => by cases e) | skip
     have jo := bG
     simp only [rep] at jo
     exact Zf8 jo
    refine ⟨rfl, .agg (sub vs off n).toArray, ?_, ?_⟩
    ·show ((Instr.sureAddr _) >>= fun a => loadVar t a).run X.P w = _
     rw [Zhl (x := ⟨b, o' + off, none⟩) (w' := w) rfl]
     exact Zhd hty.1 hty.2 (Z16 hat off n) (Zk3 _ _ _ (by omega))
    ·refine ⟨_, rfl, by simp [Zk3 vs off n (by omega), Zk3 t0.cells off n hle], fun j c' u hj hu => ?_⟩
     rw [Y37] at hj
     obtain ⟨t1, ht1, rfl⟩ := Y87.1 hj
     simp only [List.toList_toArray] at hu
     rw [Zk2] at ht1 hu
     split at ht1
     ·rename_i hjn
      rw [if_pos hjn] at hu
      by_cases hna : ∃ cs, t0 = .a cs
      ·obtain ⟨cs, rfl⟩ := hna
       obtain ⟨v, hv1, hr1⟩ := Zft bG ht1
       rw [hu] at hv1
       cases hv1
       exact hr1
      ·have bA : t0.cells = [t0] := by cases t0 <;> first | rfl | exact absurd ⟨_, rfl⟩ hna
       rw [bA] at ht1
       have hv1 := Zfz bG (fun cs e => hna ⟨cs, e⟩)
       obtain ⟨v, rfl⟩ := Y43.1 hv1
       cases hoj : off + j with
       | succ m => rw [hoj] at ht1; simp at ht1
       | zero =>
        rw [hoj] at ht1 hu
        simp at ht1 hu
        subst ht1 hu
        exact bG
     ·cases ht1
   ·simp [Pg.run] at h2
end
end Go.Wr
namespace Go.Wr
theorem Zht {P : Program} {w w' : World} {s : Sem Value} {v : Value} (h : s.run P w = .ok v w') : (do pure (.value (<- s)) : Sem Next).run P w = .ok (.value v) w' := by
 rw [Zhl h]; rfl
theorem Zhs {P : Program} {w : World} {t : TypeId} {d : TypeDesc} (h : P.underlying t = some d) : (underlying t).run P w = .ok d w := by
 simp [underlying, program, Bind.bind, Sem.bind, Sem.run, h, Pure.pure]
def nG (P : Program) (s : TypeId) (f off : Nat) : Bool :=
 match P.underlying s with
 | some (.struct fs) => (match fs[f]? with
  | some fd => fd.offset == off && (match P.info? fd.type with | some i => i.size != 0 | none => false)
  | none => false)
 | _ => false
def iz (P : Program) (t : TypeId) (sz : Nat) : Bool :=
 match P.underlying t with
 | some (.slice e) => fB P e sz
 | _ => false
section
variable {X : Cx} {U : Nat -> Prop} {J J' : Nat} {σ σ' σ2 : St} {a a2 : Act} {w w' w2 : World} {ow ow' ow2 : Nat -> Ow} {e : Nat} {o : Oper}
def ca (X : Cx) (o : Oper) : Prop := ∀ d, o.dst = some d -> d < X.n /\ d ∉ X.bu
theorem Z4r (h : Rel X U J σ a w ow) (hd : ca X o) (he : ∀ x, Fam e x -> ¬ U x) {agg : Option Nat} {x : Opd} {y : Operand} (hx : x.is X.tab y = true) {t : TypeId}
  (hty : match agg with | none => fk X.P t false = true | some n => fk X.P t true = true /\ fB X.P t n = true) (hop : o.op = .load t y)
  (af : (exec e o.dst (.ld agg x)).run σ = some ((), σ')) : Sound X U a w e o σ' := by
 obtain ⟨av, σ1, h1, h2⟩ := Zh3 af
 obtain ⟨rfl, v, hv, hl⟩ := Za1 h hx hty h1
 refine Zjj h ?_ hd he hl h2
 simp only [execOp, hop]
 exact Zht hv
theorem Zae (h : Rel X U J σ a w ow) {x : Opd} {y : Operand} (hx : x.is X.tab y = true) {av : AV} (af : (look e x).run σ = some (av, σ')) (jX : ∀ n, av ≠ .tup n) (hst : ∀ cs, av = .st cs -> cs.any Cell.fy = false) :
  σ' = σ /\ di X U σ a w ow e (a.eval y) av := by
 obtain ⟨rfl, bm, hq1, hq2⟩ := Zaf h hx af
 refine ⟨rfl, Zel h bm hq2 jX (fun k t hkt => ?_) hst⟩
 obtain ⟨c, rfl⟩ := hq1 k t hkt
 refine ⟨?_, c, rfl⟩
 simp only [look] at af
 obtain ⟨h1, _⟩ := Zhk af
 rw [hkt] at h1
 unfold eJ at h1
 split at h1 <;> cases h1
 rfl
theorem Z50 (h : Rel X U J σ a w ow) (hd : ca X o) (he : ∀ x, Fam e x -> ¬ U x) {c x y : Opd} {c' x' y' : Operand} (hc : c.is X.tab c' = true) (hx : x.is X.tab x' = true) (hy : y.is X.tab y' = true) (hop : o.op = .pick c' x' y')
  (af : (exec e o.dst (.pick c x y)).run σ = some ((), σ')) : Sound X U a w e o σ' := by
 obtain ⟨av, σ1, h1, h2⟩ := Zh3 af
 obtain ⟨rfl, bm⟩ := Zem h hc h1
 cases av <;> try simp only [Pg.run, reduceCtorEq] at h2
 rename_i t
 cases t <;> try simp only [Pg.run, reduceCtorEq] at h2
 rename_i b
 obtain ⟨v, σ2, h3, h4⟩ := Zh3 h2
 have hb : a.eval c' = .bool b := by simpa [cw, rep] using bm
 have hz : (if b then x else y).is X.tab (if b then x' else y') = true := by cases b <;> simpa
 obtain ⟨rfl, Ji⟩ := Zem h hz h3
 cases v <;> try simp only [Pg.run, reduceCtorEq] at h4
 rename_i t
 refine Zjj h (v := a.eval (if b then x' else y')) (av := .x t) ?_ hd he Ji h4
 simp only [execOp, hop, hb]
 cases b <;> rfl
theorem Z4b (h : Rel X U J σ a w ow) (hd : ca X o) (he : ∀ x, Fam e x -> ¬ U x) {op : BinOp} {g : BTy} {x y : Opd} {x' y' : Operand} {t t2 : TypeId} (hx : x.is X.tab x' = true) (hy : y.is X.tab y' = true) (hg : g.ok X.P t = true)
  (hop : o.op = .binOp op t x' y' t2) (af : (exec e o.dst (.bin op g x y)).run σ = some ((), σ')) : Sound X U a w e o σ' := by
 obtain ⟨s, σ1, h1, h2⟩ := Zh3 af
 obtain ⟨rfl, hs⟩ := Zd6 h hx h1
 obtain ⟨s2, σ2, h3, h4⟩ := Zh3 h2
 obtain ⟨rfl, hs2⟩ := Zd6 h hy h3
 cases hb : iF op g s s2 with
 | none => simp [hb, Pg.run] at h4
 | some r =>
  simp only [hb] at h4
  obtain ⟨h5, h6⟩ := Z1h (w := w) (P := X.P) (x := x') (y := y') hg hb hs hs2
  refine Zjj h (v := r.val) (av := .x r) ?_ hd he (h6 _ _ _) h4
  simp only [execOp, hop]
  exact Zht h5
theorem Z54 (h : Rel X U J σ a w ow) (hd : ca X o) (he : ∀ x, Fam e x -> ¬ U x) {op : UnOp} {x : Opd} {x' : Operand} {t : TypeId} (hx : x.is X.tab x' = true) (hop : o.op = .unOp op t x')
  (af : (exec e o.dst (.un op x)).run σ = some ((), σ')) : Sound X U a w e o σ' := by
 obtain ⟨s, σ1, h1, h2⟩ := Zh3 af
 obtain ⟨rfl, hs⟩ := Zd6 h hx h1
 cases hb : unT op s with
 | none => simp [hb, Pg.run] at h2
 | some r =>
  simp only [hb] at h2
  unfold unT at hb
  split at hb
  ·rename_i m
   cases hb
   have hv := hs.2.1 _ rfl
   refine Zjj h (v := .bool !m) (av := .x (.b !m)) ?_ hd he (by simp [di, rep]) h2
   simp only [execOp, hop, hv]
   rfl
  ·rename_i k n
   cases hb
   have hv := hs.1 _ _ rfl
   refine Zjj h (v := .int k (k.wrap (0 - n))) (av := .x (.i k (k.wrap (0 - n)))) ?_ hd he (by simp [di, rep]) h2
   simp only [execOp, hop, hv]
   simp [Op.unary, Op.intArith, Bind.bind, Pure.pure, Sem.bind, Sem.run]
  ·cases hb
def qy (P : Program) (s d : TypeId) (k : IntKind) : Bool :=
 match P.underlying s, P.underlying d with
 | some _, some (.int k') => k == k'
 | _, _ => false
theorem Z4j (h : Rel X U J σ a w ow) (hd : ca X o) (he : ∀ x, Fam e x -> ¬ U x) {k : IntKind} {x : Opd} {x' : Operand} {s t : TypeId} (hx : x.is X.tab x' = true) (hg : qy X.P s t k = true) (hop : o.op = .convert s t x')
  (af : (exec e o.dst (.cvt k x)).run σ = some ((), σ')) : Sound X U a w e o σ' := by
 obtain ⟨av, σ1, h1, h2⟩ := Zh3 af
 obtain ⟨rfl, bm⟩ := Zem h hx h1
 cases av <;> try simp only [Pg.run, reduceCtorEq] at h2
 rename_i t
 cases t <;> try simp only [Pg.run, reduceCtorEq] at h2
 rename_i k0 n
 have hv : a.eval x' = .int k0 n := by simpa [cw, rep] using bm
 unfold qy at hg
 split at hg
 ·rename_i d1 k' h3 h4
  simp at hg
  subst hg
  refine Zjj h (v := .int k (k.wrap n)) (av := .x (.i k (k.wrap n))) ?_ hd he (by simp [di, rep]) h2
  simp only [execOp, hop, hv]
  refine Zht ?_
  unfold convert
  rw [Zhl (Zhs h3), Zhl (Zhs h4)]
  rfl
 ·cases hg
theorem Z4n (h : Rel X U J σ a w ow) (hd : ca X o) (he : ∀ x, Fam e x -> ¬ U x) {off f : Nat} {x : Opd} {x' : Operand} {s : TypeId} (hx : x.is X.tab x' = true) (hg : nG X.P s f off = true) (hop : o.op = .fieldAddr s x' f)
  (af : (exec e o.dst (.fa x off)).run σ = some ((), σ')) : Sound X U a w e o σ' := by
 obtain ⟨av, σ1, h1, h2⟩ := Zh3 af
 obtain ⟨rfl, hl, et⟩ := Z4 h hx h1
 have BN : ∀ b o2, a.eval x' = .pointer (some ⟨b, o2, none⟩) -> (execOp a.eval o).run X.P w = .ok (.value (.pointer (some ⟨b, o2 + off, none⟩))) w := fun b o2 hv => by
  unfold nG at hg
  split at hg
  ·rename_i fs hu
   split at hg
   ·rename_i fd hf
    simp only [Y2, beq_iff_eq] at hg
    obtain ⟨rfl, hg2⟩ := hg
    split at hg2
    ·rename_i i hi
     simp at hg2
     simp only [execOp, hop, hv]
     refine Zht ?_
     unfold Instr.fieldAt
     rw [Zhl (Zhs hu)]
     simp only [hf]
     have hs : fB X.P fd.type i.size = true := by simp [fB, hi]
     show ((Instr.sureAddr _) >>= fun a => do pure (Value.pointer (some (<- fieldPlace a fd)))).run X.P w = _
     rw [Zhl (x := ⟨b, o2, none⟩) (w' := w) rfl]
     have : (fieldPlace ⟨b, o2, none⟩ fd).run X.P w = .ok ⟨b, o2 + fd.offset, none⟩ w := by
      unfold fieldPlace
      rw [Zhl (Zho hs), if_neg hg2, Z3]
      rfl
     rw [Zhl this]
     rfl
    ·cases hg2
   ·cases hg
  ·cases hg
 rcases et with ⟨r, k, p, o1, rfl⟩ | ⟨t0, o1, rfl⟩
 ·simp only at h2
  obtain ⟨⟨⟨b, o2, hv⟩, hp⟩, hst⟩ := hl
  refine Zjj h (BN b o2 hv) hd he (av := .ptr r k p (o1 + off)) ⟨⟨⟨_, _, rfl⟩, fun c hc hk bo hbo => ?_⟩, hst⟩ h2
  have := hp c hc hk bo hbo
  rw [hv] at this
  simp only [Value.pointer.injEq, Y89, Addr.mk.injEq, and_true] at this
  obtain ⟨rfl, rfl⟩ := this
  rw [Y74]
 ·simp only at h2
  obtain ⟨b, o2, vs, hv, hz, ha, hr⟩ := hl
  exact Zjj h (BN b _ hv) hd he (av := .q t0 (o1 + off)) ⟨b, o2, vs, by rw [Y74], hz, ha, hr⟩ h2
theorem Z4z (h : Rel X U J σ a w ow) (hd : ca X o) (he : ∀ x, Fam e x -> ¬ U x) {x : Opd} {x' : Operand} (hx : x.is X.tab x' = true) (hop : o.op = .nilCheck x')
  (af : (exec e o.dst (.qq x)).run σ = some ((), σ')) : Sound X U a w e o σ' := by
 obtain ⟨av, σ1, h1, h2⟩ := Zh3 af
 obtain ⟨rfl, bm, hq1, hq2⟩ := Zaf h hx h1
 clear hq1 hq2
 cases av <;> try simp only [Pg.run, reduceCtorEq] at h2
 case ptr r k p off =>
  obtain ⟨⟨⟨b, o2, hv⟩, hp⟩, hst⟩ := bm
  refine Zjj h (v := a.eval x') (av := .ptr r k p off) ?_ hd he ⟨⟨⟨b, o2, hv⟩, hp⟩, hst⟩ h2
  simp only [execOp, hop, hv]
  rfl
 case q t off =>
  obtain ⟨b, o2, vs, hv, hz, ha, hr⟩ := bm
  refine Zjj h (v := a.eval x') (av := .q t off) ?_ hd he ⟨b, o2, vs, hv, hz, ha, hr⟩ h2
  simp only [execOp, hop, hv]
  rfl
end
end Go.Wr
namespace Go.Wr
section
variable {X : Cx} {U : Nat -> Prop} {J J' : Nat} {σ σ' σ2 : St} {a a2 : Act} {w w' w2 : World} {ow ow' ow2 : Nat -> Ow} {e : Nat} {o : Oper}
theorem Za7 : ∀ (p : List Nat) (t : T) {b o j : Nat} {bo : Nat × Nat}, bp w t b o (p ++ [j]) = some bo ->
  (∃ cs, t.nav p = some (.a cs)) \/ ∃ ob sz es b' o' ad N C, t.nav p = some (.l ob sz es) /\ bp w t b o p = some (b', o') /\ w.cell? ⟨b', o', none⟩ = some (.slice (some ad) N C) /\ bo = (ad.block, ad.off + j * sz)
 | [], t, b, o, j, bo, h => by
  cases t <;> simp only [Y66, bp, reduceCtorEq] at h
  case a cs => exact .inl ⟨cs, rfl⟩
  case l ob sz es =>
   split at h
   ·rename_i ad N C t' h1 h2
    have : bp w t' ad.block (ad.off + j * sz) [] = some bo := h
    have hb : (ad.block, ad.off + j * sz) = bo := by cases t' <;> simpa [bp] using this
    exact .inr ⟨ob, sz, es, b, o, ad, N, C, rfl, rfl, h1, hb.symm⟩
   ·cases h
 | i :: p, t, b, o, j, bo, h => by
  cases t <;> simp only [Y24, bp, reduceCtorEq] at h
  case a cs =>
   split at h
   ·rename_i t' ht
    rcases Za7 p t' h with ⟨cs', h1⟩ | ⟨ob, sz, es, b', o', ad, N, C, h1, h2, h3, h4⟩
    ·exact .inl ⟨cs', by simp only [T.nav, T.kid, ht, Y86, h1]⟩
    ·exact .inr ⟨ob, sz, es, b', o', ad, N, C, by simp only [T.nav, T.kid, ht, Y86, h1], by simp only [bp, ht, h2], h3, h4⟩
   ·cases h
  case l ob0 sz0 es0 =>
   split at h
   ·rename_i ad0 N0 C0 t' h1 ht
    rcases Za7 p t' h with ⟨cs', h1⟩ | ⟨ob, sz, es, b', o', ad, N, C, h5, h6, h7, h8⟩
    ·exact .inl ⟨cs', by simp only [T.nav, T.kid, ht, Y86, h1]⟩
    ·exact .inr ⟨ob, sz, es, b', o', ad, N, C, by simp only [T.nav, T.kid, ht, Y86, h5], by simp only [bp, h1, ht, h6], h7, h8⟩
   ·cases h
theorem Zd2 {c : RC} {v : Value} {p : List Nat} {j : Nat} {bo : Nat × Nat} (h : place w c v (p ++ [j]) = some bo) :
  (∃ cs, c.t.nav p = some (.a cs)) \/ ∃ ob sz es ad N C, c.t.nav p = some (.l ob sz es) /\ hdr w c v p = some (.slice (some ad) N C) /\ bo = (ad.block, ad.off + j * sz) := by
 unfold place at h
 split at h
 ·rename_i ad hib
  rcases Za7 p c.t h with h1 | ⟨ob, sz, es, b', o', ad, N, C, h1, h2, h3, h4⟩
  ·exact .inl h1
  ·refine .inr ⟨ob, sz, es, ad, N, C, h1, ?_, h4⟩
   unfold hdr
   rw [hib]
   simp only [Y13, Y8, Y9, if_false, place, hib]
   rw [h2]
   exact h3
 ·rename_i A N C hib
  cases p with
  | nil =>
   obtain ⟨ib, kk, t⟩ := c
   simp only at hib h ⊢
   subst hib
   simp only [Y66] at h
   cases t <;> simp only [cG, reduceCtorEq] at h
   cases A <;> simp only [cG, reduceCtorEq] at h
   rename_i ob sz es ad
   split at h
   ·rename_i t' ht
    have hb : (ad.block, ad.off + j * sz) = bo := by cases t' <;> simpa [bp] using h
    exact .inr ⟨ob, sz, es, ad, N, C, rfl, by simp [hdr], hb.symm⟩
   ·cases h
  | cons i p =>
   obtain ⟨ib, kk, t⟩ := c
   simp only at hib h ⊢
   subst hib
   simp only [Y24] at h
   cases t <;> simp only [cG, reduceCtorEq] at h
   cases A <;> simp only [cG, reduceCtorEq] at h
   rename_i ob0 sz0 es0 ad0
   split at h
   ·rename_i t' ht
    rcases Za7 p t' h with ⟨cs', h1⟩ | ⟨ob, sz, es, b', o', ad, N', C', h1, h2, h3, h4⟩
    ·exact .inl ⟨cs', by simp only [T.nav, T.kid, ht, Y86, h1]⟩
    ·refine .inr ⟨ob, sz, es, ad, N', C', by simp only [T.nav, T.kid, ht, Y86, h1], ?_, h4⟩
     unfold hdr
     simp only [List.isEmpty_cons, Y3, Y9, if_false, place, cG, ht]
     rw [h2]
     exact h3
   ·cases h
 ·cases h
theorem Zao (b : Bool) (p : List Nat) (j : Nat) : fh b (p ++ [j]) = dl b p \/ 2 <= fh b (p ++ [j]) := by
 cases b <;> rcases p with _ | ⟨x, _ | ⟨y, p⟩⟩ <;> simp [fh, dl]
theorem K.ok_two {c k : K} {n m : Nat} (h : c.ok k n = true) (hn : 2 <= n) : c.ok k m = true := by
 obtain ⟨n, rfl⟩ : ∃ n', n = n' + 2 := ⟨n - 2, by omega⟩
 simp only [K.ok, Y2, beq_iff_eq] at h
 unfold K.ok
 split <;> simp [h]
theorem Cp {c k : K} {b : Bool} {p : List Nat} {j : Nat} (h : c.ok k (fh b (p ++ [j])) = true) : c.ok k (dl b p) = true := by
 rcases Zao b p j with e | e
 ·rw [<- e]; exact h
 ·exact K.ok_two h e
theorem Zh8 {P : Program} {t : TypeId} {sz : Nat} {b o N C : Nat} {k : IntKind} {i : Int} (hg : iz P t sz = true) (h0 : 0 <= i) (hi : i < N) :
  (Instr.indexAt t (.slice (some ⟨b, o, none⟩) N C) (.int k i)).run P w = .ok (.pointer (some ⟨b, o + i.toNat * sz, none⟩)) w := by
 unfold iz at hg
 split at hg
 ·rename_i el hu
  unfold Instr.indexAt
  rw [Zhl (x := (k, i)) (w' := w) rfl]
  simp only
  rw [Zhl (Zhs hu)]
  simp only
  rw [Zhl (x := (some (⟨b, o, none⟩ : Addr), N, el)) (w' := w) rfl]
  simp only
  rw [Zhl (Zhs hu)]
  simp only
  rw [if_pos ⟨h0, hi⟩]
  rw [Zhl (Zho hg), Z3]
  rfl
 ·cases hg
theorem Z4p (h : Rel X U J σ a w ow) (hd : ca X o) (he : ∀ x, Fam e x -> ¬ U x) {sz : Nat} {x ix : Opd} {x' ix' : Operand} {t : TypeId} (hx : x.is X.tab x' = true) (hi : ix.is X.tab ix' = true) (hg : iz X.P t sz = true) (hop : o.op = .indexAddr t x' ix')
  (af : (exec e o.dst (.ia sz x ix)).run σ = some ((), σ')) : Sound X U a w e o σ' := by
 obtain ⟨av, σ1, h1, h2⟩ := Zh3 af
 unfold indexAddr at h1
 obtain ⟨iv, σ2, h3, h4⟩ := Zh3 h1
 obtain ⟨e1, bm⟩ := Zem h hi h3
 rw [e1] at h4
 clear h1 h3 e1 σ2
 cases iv <;> try simp only [Pg.run, reduceCtorEq] at h4
 rename_i ti
 cases ti <;> try simp only [Pg.run, reduceCtorEq] at h4
 rename_i k i
 have hiv : a.eval ix' = .int k i := by simpa [cw, rep] using bm
 obtain ⟨xv, σ3, h5, h6⟩ := Zh3 h4
 obtain ⟨e1, hxr, hq1, hq2⟩ := Zaf h hx h5
 rw [e1] at h6
 clear h4 h5 e1 σ3 hq1 hq2
 cases xv <;> try simp only [Pg.run, reduceCtorEq] at h6
 case x tx =>
  cases tx <;> try simp only [Pg.run, reduceCtorEq] at h6
  rename_i ob sz' es
  split at h6
  ·rename_i hc
   obtain ⟨h0, rfl⟩ := hc
   cases ht : es[i.toNat]? with
   | none => simp [ht, Pg.run] at h6
   | some t1 =>
    simp only [ht] at h6
    obtain ⟨rfl, rfl⟩ := Zhk h6
    simp only [cw] at hxr
    have hlt := (Y36.1 ht).1
    obtain ⟨ad, cap, hv, dV, hsp, hb, arr, ty, fr, vs', hh, hfr, hvs, hes⟩ := Zfv hxr (by intro e; subst e; simp at ht)
    obtain ⟨b, of, spot⟩ := ad
    simp only at hsp hb hh hvs
    subst hsp
    have hn : Ob.loc ob none = none := by unfold Ob.loc; split <;> rfl
    rw [hn] at hb hes
    obtain ⟨v1, hl1, hr1, hv1⟩ := Zfh hes ht
    refine Zjj h (v := .pointer (some ⟨b, of + i.toNat * sz', none⟩)) (av := .q t1 0) ?_ hd he ⟨b, of + i.toNat * sz', v1, rfl, hb, fun j u hj => ?_, hr1⟩ h2
    ·simp only [execOp, hop, hiv]
     have hv' : a.eval x' = .slice (some ⟨b, of, none⟩) es.length cap := by simpa using hv
     rw [hv']
     exact Zht (Zh8 hg h0 (by omega))
    ·rw [Z2h hh, Y74]
     exact hvs _ _ (hv1 j u hj)
  ·simp [Pg.run] at h6
 case w r k2 p z lo n =>
  split at h6
  ·rename_i hc
   obtain ⟨h0, hin, rfl⟩ := hc
   obtain ⟨rfl, rfl⟩ := Zhk h6
   obtain ⟨⟨⟨A, C, hv, hnC, hA⟩, iJ⟩, hst⟩ := hxr
   obtain ⟨b, of, rfl⟩ := hA (by omega)
   refine Zjj h (v := .pointer (some ⟨b, of + i.toNat * z, none⟩)) (av := .ptr r k2 (p ++ [lo + i.toNat]) 0) ?_ hd he ⟨⟨⟨_, _, rfl⟩, fun c hc hk bo hbo => ?_⟩, hst⟩ h2
   ·simp only [execOp, hop, hiv, hv]
    exact Zht (Zh8 hg h0 (by omega))
   ·obtain ⟨h7, h8⟩ := iJ c hc (Cp hk)
    rcases Zd2 hbo with ⟨cs, h9⟩ | ⟨ob, sz', es, ad, N, C', h9, h10, h11⟩
    ·exact absurd h9 (h7 cs)
    ·obtain ⟨rfl, hle, A2, N2, C2, A3, c3, e1, e2, h12, h13, h14, h15⟩ := h8 _ _ _ h9 _ _ _ h10
     simp only [Value.slice.injEq] at e1
     obtain ⟨rfl, rfl, rfl⟩ := e1
     rw [hv] at e2
     simp only [Value.slice.injEq, true_and] at e2
     obtain ⟨rfl, rfl⟩ := e2
     subst h11
     simp only [Y75]
     rcases h14 with ⟨e3, e4⟩ | ⟨ad', x0, e3, e4, e5⟩
     ·simp only [Y89] at e3
      subst e3
      rcases e4 with rfl | e4
      ·simp
      ·omega
     ·simp only [Y89] at e3 e4
      subst e3
      simp only [Addr.mk.injEq, and_true] at e4
      obtain ⟨rfl, rfl⟩ := e4
      rcases e5 with rfl | ⟨e5, _⟩
      ·rw [Nat.add_mul, Y74]
      ·omega
  ·simp [Pg.run] at h6
theorem Z4x (h : Rel X U J σ a w ow) (hd : ca X o) (he : ∀ x, Fam e x -> ¬ U x) {x : Opd} {x' : Operand} (hx : x.is X.tab x' = true) (hop : o.op = .move x') (hnt : ∀ n, x = .t n -> ∀ m, σ n ≠ .tup m)
  (af : (exec e o.dst (.mv x)).run σ = some ((), σ')) : Sound X U a w e o σ' := by
 obtain ⟨av, σ1, h1, h2⟩ := Zh3 af
 have jX : ∀ n, av ≠ .tup n := fun n e => by
  subst e
  cases x with
  | t s =>
   have hx' := hx
   simp only [look] at h1
   obtain ⟨v0, σ2, h3, h4⟩ := Zh3 h1
   obtain ⟨rfl, rfl⟩ := Zhj h3
   have := hnt s rfl
   cases hs : σ2 s <;> rw [hs] at h4 this
   case own k t =>
    cases t <;> (obtain ⟨e1, _⟩ := Zhk h4; cases e1)
   case tup m => exact this m rfl
   all_goals (obtain ⟨e1, _⟩ := Zhk h4; cases e1)
  | k c =>
   simp only [look] at h1
   obtain ⟨e1, _⟩ := Zhk h1
   unfold eJ at e1
   split at e1 <;> cases e1
 have hl := fun hst => Zae (e := e) h hx h1 jX hst
 have bz : (execOp a.eval o).run X.P w = .ok (.value (a.eval x')) w := by simp only [execOp, hop]; rfl
 cases av
 case tup n => exact absurd rfl (jX n)
 case st cs =>
  simp only at h2
  split at h2
  ·simp [Pg.run] at h2
  ·rename_i hno
   obtain ⟨rfl, hl⟩ := hl (fun cs' e => by cases e; simpa using hno)
   exact Zjj h bz hd he hl h2
 all_goals
  obtain ⟨rfl, hl⟩ := hl (fun cs' e => by cases e)
  exact Zjj h bz hd he hl h2
def arrIs (P : Program) (t : TypeId) (n sz : Nat) : Bool := match P.underlying t with
 | some (.array m el) => m == n && fB P el sz
 | _ => false
theorem Zh7 {P : Program} {t : TypeId} {n sz : Nat} {b o : Nat} {k : IntKind} {i : Int} (hg : arrIs P t n sz = true) (h0 : 0 <= i) (hi : i < (n : Int)) :
  (Instr.indexAt t (.pointer (some ⟨b, o, none⟩)) (.int k i)).run P w = .ok (.pointer (some ⟨b, o + i.toNat * sz, none⟩)) w := by
 unfold arrIs at hg
 split at hg
 ·rename_i m el hu
  simp only [Y2, beq_iff_eq] at hg
  obtain ⟨rfl, hg⟩ := hg
  unfold Instr.indexAt
  rw [Zhl (x := (k, i)) (w' := w) rfl]
  simp only
  rw [Zhl (Zhs hu)]
  simp only
  rw [Zhl (x := (⟨b, o, none⟩ : Addr)) (w' := w) rfl]
  rw [Zhl (x := (some (⟨b, o, none⟩ : Addr), m, el)) (w' := w) rfl]
  simp only
  rw [Zhl (Zhs hu)]
  simp only
  rw [if_pos ⟨h0, hi⟩]
  rw [Zhl (Zho hg), Z3]
  rfl
 ·cases hg
theorem Z4q (h : Rel X U J σ a w ow) (hd : ca X o) (he : ∀ x, Fam e x -> ¬ U x) {n sz : Nat} {x ix : Opd} {x' ix' : Operand} {t : TypeId} (hx : x.is X.tab x' = true) (hi : ix.is X.tab ix' = true) (hg : arrIs X.P t n sz = true) (hop : o.op = .indexAddr t x' ix')
  (af : (exec e o.dst (.ixa n sz x ix)).run σ = some ((), σ')) : Sound X U a w e o σ' := by
 obtain ⟨iv, σ2, h3, h4⟩ := Zh3 af
 obtain ⟨e1, bm⟩ := Zem h hi h3
 rw [e1] at h4
 clear h3 e1 σ2
 cases iv <;> try simp only [Pg.run, reduceCtorEq] at h4
 rename_i ti
 cases ti <;> try simp only [Pg.run, reduceCtorEq] at h4
 rename_i kd i
 have hiv : a.eval ix' = .int kd i := by simpa [cw, rep] using bm
 obtain ⟨av, σ1, h1, h2⟩ := Zh3 h4
 obtain ⟨e1, hl, et⟩ := Z4 h hx h1
 rw [e1] at h2
 clear h1 e1 σ1
 rcases et with ⟨r, k, p, o1, rfl⟩ | ⟨t0, o1, rfl⟩
 ·simp only at h2
  split at h2
  ·rename_i hc
   obtain ⟨⟨⟨b, o2, hv⟩, hp⟩, hst⟩ := hl
   refine Zjj h (v := .pointer (some ⟨b, o2 + i.toNat * sz, none⟩)) ?_ hd he (av := .ptr r k p (o1 + i.toNat * sz)) ⟨⟨⟨_, _, rfl⟩, fun c hc hk bo hbo => ?_⟩, hst⟩ h2
   ·simp only [execOp, hop, hiv, hv]
    exact Zht (Zh7 hg hc.1 hc.2)
   ·have := hp c hc hk bo hbo
    rw [hv] at this
    simp only [Value.pointer.injEq, Y89, Addr.mk.injEq, and_true] at this
    obtain ⟨rfl, rfl⟩ := this
    rw [Y74]
  ·simp [Pg.run] at h2
 ·simp only at h2
  split at h2
  ·rename_i hc
   obtain ⟨b, o2, vs, hv, hz, ha, hr⟩ := hl
   refine Zjj h (v := .pointer (some ⟨b, o2 + o1 + i.toNat * sz, none⟩)) ?_ hd he (av := .q t0 (o1 + i.toNat * sz)) ⟨b, o2, vs, by rw [Y74], hz, ha, hr⟩ h2
   simp only [execOp, hop, hiv, hv]
   exact Zht (Zh7 hg hc.1 hc.2)
  ·simp [Pg.run] at h2
end
end Go.Wr

