/-
  What is proved: lemmas on the way to the laws of this seat. No condition.
-/
import Derived.Test.YtbghjecopkbhlaaGreatQb
set_option linter.unusedVariables false
set_option linter.unusedSimpArgs false
namespace Go.Wr
def In (n : Int) (s : List aa) : Prop := ∃ x ∈ s, x.Lo <= n /\ n <= x.Hi
theorem Z8h {n : Int} : ¬ In n [] := by rintro ⟨x, hx, _⟩; cases hx
theorem Z8i {n : Int} : In n [] <-> False := ⟨Z8h, False.elim⟩
theorem Z8g {n : Int} {x : aa} {s : List aa} : In n (x :: s) <-> (x.Lo <= n /\ n <= x.Hi) \/ In n s := by
 constructor
 ·rintro ⟨y, hy, h⟩
  rcases Y55.1 hy with rfl | hy
  ·exact .inl h
  ·exact .inr ⟨y, hy, h⟩
 ·rintro (h | ⟨y, hy, h⟩)
  ·exact ⟨x, Y57, h⟩
  ·exact ⟨y, Y56 _ hy, h⟩
theorem Z8e {n : Int} {s t : List aa} : In n (s ++ t) <-> In n s \/ In n t := by
 constructor
 ·rintro ⟨x, hx, h⟩
  rcases Y52.1 hx with hx | hx
  ·exact .inl ⟨x, hx, h⟩
  ·exact .inr ⟨x, hx, h⟩
 ·rintro (⟨x, hx, h⟩ | ⟨x, hx, h⟩)
  ·exact ⟨x, Y53 _ hx, h⟩
  ·exact ⟨x, Y54 _ hx, h⟩
theorem Z8j {n : Int} {x : aa} : In n [x] <-> x.Lo <= n /\ n <= x.Hi := by rw [Z8g]; simp [Z8h]
theorem Zis {s : List aa} {n : Int} : dg s n = true <-> In n s := by
 unfold dg
 rw [Y20]
 constructor
 ·rintro ⟨x, hx, h⟩; exact ⟨x, hx, by simpa [inB] using h⟩
 ·rintro ⟨x, hx, h⟩; exact ⟨x, hx, by simpa [inB] using h⟩
theorem Ziw : bQ [] := ⟨by simp, List.Pairwise.nil⟩
theorem bQ.tail {x : aa} {s : List aa} (h : bQ (x :: s)) : bQ s := ⟨fun y hy => h.lo y (Y56 _ hy), (Y67.1 h.ord).2⟩
theorem bQ.head {x : aa} {s : List aa} (h : bQ (x :: s)) : ∀ y ∈ s, x.Hi + 1 < y.Lo := (Y67.1 h.ord).1
theorem bQ.one {x : aa} {s : List aa} (h : bQ (x :: s)) : cj x := h.lo x Y57
theorem bQ.span {s : List aa} (h : bQ s) {x : aa} (hx : x ∈ s) : cj x := h.lo x hx
theorem bQ.append {s t : List aa} (hs : bQ s) (ht : bQ t) (h : ∀ x ∈ s, ∀ y ∈ t, x.Hi + 1 < y.Lo) : bQ (s ++ t) :=
 ⟨fun x hx => (Y52.1 hx).elim (hs.lo x) (ht.lo x), List.pairwise_append.2 ⟨hs.ord, ht.ord, h⟩⟩
theorem Zix {x : aa} (h : cj x) : bQ [x] := ⟨fun y hy => by simp only [Y65] at hy; subst hy; exact h, by simp⟩
theorem bQ.gt {x : aa} {s : List aa} (h : bQ (x :: s)) {n : Int} (hn : In n s) : x.Hi + 1 < n := by
 obtain ⟨y, hy, h1, _⟩ := hn
 have := h.head y hy
 omega
theorem yQ : ∀ {s t : List aa}, bQ s -> bQ t -> (∀ n, In n s <-> In n t) -> s = t
 | [], [], _, _, _ => rfl
 | [], y :: t, _, ht, h => by
  have := (h y.Lo).2 ⟨y, Y57, Int.le_refl _, (ht.one).2.1⟩
  exact absurd this Z8h
 | x :: s, [], hs, _, h => by
  have := (h x.Lo).1 ⟨x, Y57, Int.le_refl _, (hs.one).2.1⟩
  exact absurd this Z8h
 | x :: s, y :: t, hs, ht, h => by
  have hx := hs.one
  have hy := ht.one
  unfold cj at hx hy
  have hlo : x.Lo = y.Lo := by
   have h1 := (h x.Lo).1 ⟨x, Y57, by omega, by omega⟩
   have h2 := (h y.Lo).2 ⟨y, Y57, by omega, by omega⟩
   rw [Z8g] at h1 h2
   rcases h1 with h1 | h1 <;> rcases h2 with h2 | h2
   ·omega
   ·have := hs.gt h2; omega
   ·have := ht.gt h1; omega
   ·have := hs.gt h2; have := ht.gt h1; omega
  have hhi : x.Hi = y.Hi := by
   have no : ∀ {u : aa} {l : List aa}, bQ (u :: l) -> ¬ In (u.Hi + 1) (u :: l) := fun {u l} hu h2 => by
    rcases Z8g.1 h2 with h2 | h2
    ·omega
    ·have := hu.gt h2; omega
   have h1 := no hs
   have h2 := no ht
   rw [h] at h1
   rw [<- h] at h2
   rw [Z8g] at h1 h2
   have h3 : ¬ (y.Lo <= x.Hi + 1 /\ x.Hi + 1 <= y.Hi) := fun h => h1 (.inl h)
   have h4 : ¬ (x.Lo <= y.Hi + 1 /\ y.Hi + 1 <= x.Hi) := fun h => h2 (.inl h)
   omega
  have hxy : x = y := by
   cases x; cases y; simp only at hlo hhi; rw [hlo, hhi]
  subst hxy
  rw [yQ hs.tail ht.tail fun n => ?_]
  have h1 := h n
  rw [Z8g, Z8g] at h1
  constructor
  ·intro h2
   have := hs.gt h2
   rcases h1.1 (.inr h2) with h3 | h3
   ·omega
   ·exact h3
  ·intro h2
   have := ht.gt h2
   rcases h1.2 (.inr h2) with h3 | h3
   ·omega
   ·exact h3
structure yR (p : eN) (t : List aa) : Prop where
 out : bQ p.out
 rest : bQ t
 apart : ∀ y ∈ p.out, ∀ z ∈ t, y.Hi + 1 < z.Lo
 x : cj p.x
 no : p.done = false -> ∀ y ∈ p.out, y.Hi + 1 < p.x.Lo
 yes : p.done = true -> ∀ z ∈ t, p.x.Hi + 1 < z.Lo
def eN.all (p : eN) : List aa := if p.done then p.out else p.out ++ [p.x]
theorem Zdy {p : eN} {y : aa} {t : List aa} (h : yR p (y :: t)) : yR (ch p y) t /\ ∀ n, In n (ch p y).all \/ In n t <-> In n p.all \/ In n (y :: t) := by
 have hy := h.rest.one
 have hyt := h.rest.head
 have hx := h.x
 have hoy : ∀ z ∈ p.out, z.Hi + 1 < y.Lo := fun z hz => h.apart z hz y Y57
 have hot : ∀ z ∈ p.out, ∀ w ∈ t, z.Hi + 1 < w.Lo := fun z hz w hw => h.apart z hz w (Y56 _ hw)
 have Ca : bQ (p.out ++ [y]) := h.out.append (Zix hy) (by simpa using hoy)
 unfold cj at hx hy
 unfold ch
 split
 ·rename_i h1
  have hd : p.done = false := by
   cases hd : p.done with
   | false => rfl
   | true => have := h.yes hd y Y57; omega
  refine ⟨⟨Ca, h.rest.tail, ?_, h.x, fun _ => ?_, fun h2 => ?_⟩, fun n => ?_⟩
  ·intro z hz w hw
   rcases Y52.1 hz with hz | hz
   ·exact hot z hz w hw
   ·simp only [Y65] at hz; subst hz; exact hyt w hw
  ·intro z hz
   rcases Y52.1 hz with hz | hz
   ·exact h.no hd z hz
   ·simp only [Y65] at hz; subst hz; exact h1
  ·rw [hd] at h2; cases h2
  ·simp only [eN.all, hd, Y9, if_false, Z8e, Z8i, or_false, Z8g]
   grind
 ·rename_i h1
  split
  ·rename_i h2
   cases hd : p.done with
   | true =>
    simp only [if_true]
    refine ⟨⟨Ca, h.rest.tail, ?_, h.x, fun h3 => ?_, fun _ z hz => ?_⟩, fun n => ?_⟩
    ·intro z hz w hw
     rcases Y52.1 hz with hz | hz
     ·exact hot z hz w hw
     ·simp only [Y65] at hz; subst hz; exact hyt w hw
    ·cases h3
    ·exact h.yes hd z (Y56 _ hz)
    ·simp only [eN.all, hd, if_true, Z8e, Z8i, or_false, Z8g]
     grind
   | false =>
    simp only [Y9, if_false]
    have hno := h.no hd
    have hxy : bQ [p.x, y] := ⟨by simpa using ⟨h.x, hy⟩, by simp; omega⟩
    have cc : bQ (p.out ++ [p.x, y]) := h.out.append hxy (by
     intro z hz w hw
     simp only [Y55, List.not_mem_nil, or_false] at hw
     rcases hw with rfl | rfl
     ·exact hno z hz
     ·exact hoy z hz)
    refine ⟨⟨cc, h.rest.tail, ?_, h.x, fun h3 => (by cases h3), fun _ z hz => ?_⟩, fun n => ?_⟩
    ·intro z hz w hw
     simp only [Y52, Y55, List.not_mem_nil, or_false] at hz
     rcases hz with hz | rfl | rfl
     ·exact hot z hz w hw
     ·have := hyt w hw; omega
     ·exact hyt w hw
    ·have := hyt z hz; simp only; omega
    ·simp only [eN.all, hd, Y9, if_false, if_true, Z8e, Z8i, or_false, Z8g]
     grind
  ·rename_i h2
   have hd : p.done = false := by
    cases hd : p.done with
    | false => rfl
    | true => have := h.yes hd y Y57; omega
   have hno := h.no hd
   refine ⟨⟨h.out, h.rest.tail, hot, ?_, fun _ z hz => ?_, fun h3 => ?_⟩, fun n => ?_⟩
   ·unfold cj; simp only; omega
   ·have := hno z hz; have := hoy z hz; simp only; omega
   ·rw [hd] at h3; cases h3
   ·simp only [eN.all, hd, Y9, if_false, Z8e, Z8i, or_false, Z8g]
    have e : (min p.x.Lo y.Lo <= n /\ n <= max p.x.Hi y.Hi) <-> (p.x.Lo <= n /\ n <= p.x.Hi) \/ (y.Lo <= n /\ n <= y.Hi) := by omega
    rw [e]
    grind
theorem Zdi : ∀ {t : List aa} {p : eN}, yR p t -> bQ (t.foldl ch p).all /\ ∀ n, In n (t.foldl ch p).all <-> In n p.all \/ In n t
 | [], p, h => by
  refine ⟨?_, fun n => by simp [Z8h]⟩
  rw [List.foldl_nil, eN.all]
  by_cases hd : p.done = true
  ·rw [if_pos hd]; exact h.out
  ·rw [if_neg hd]; exact h.out.append (Zix h.x) (by simpa using h.no (by simpa using hd))
 | y :: t, p, h => by
  obtain ⟨h1, h2⟩ := Zdy h
  obtain ⟨h3, h4⟩ := Zdi h1
  exact ⟨h3, fun n => (h4 n).trans (h2 n)⟩
theorem Zdj (s : List aa) (x : aa) : cT s x = (s.foldl ch ⟨[], false, x⟩).all := rfl
theorem Zdm {s : List aa} {x : aa} (hs : bQ s) (hx : cj x) : bQ (cT s x) /\ ∀ n, In n (cT s x) <-> In n s \/ (x.Lo <= n /\ n <= x.Hi) := by
 have h : yR ⟨[], false, x⟩ s := ⟨Ziw, hs, by simp, hx, by simp, by simp⟩
 obtain ⟨h1, h2⟩ := Zdi h
 refine ⟨h1, fun n => ?_⟩
 rw [Zdj, h2]
 simp only [eN.all, Y9, if_false, Y66, Z8j]
 exact or_comm
theorem Zei : ∀ {l o : List aa}, bQ o -> (∀ x ∈ l, cj x) -> bQ (l.foldl cT o) /\ ∀ n, In n (l.foldl cT o) <-> In n o \/ In n l
 | [], o, ho, _ => ⟨ho, fun n => by simp [Z8h]⟩
 | x :: l, o, ho, hl => by
  obtain ⟨h1, h2⟩ := Zdm ho (hl x Y57)
  obtain ⟨h3, h4⟩ := Zei (l := l) h1 fun y hy => hl y (Y56 _ hy)
  refine ⟨h3, fun n => ?_⟩
  show In n (l.foldl cT (cT o x)) <-> _
  rw [h4, h2, Z8g, or_assoc]
theorem Z8w {a b : List aa} (ha : bQ a) (hb : bQ b) : bQ (du a b) /\ ∀ n, In n (du a b) <-> In n a \/ In n b := Zei ha fun x hx => hb.span hx
structure yT (o t : List aa) : Prop where
 out : bQ o
 rest : ∀ z ∈ t, cj z
 ord : t.Pairwise fun a b => a.Lo <= b.Lo
 after : ∀ y ∈ o, ∀ z ∈ t, y.Lo <= z.Lo
theorem Zdq {o t : List aa} {x : aa} (h : yT o (x :: t)) : yT (cX o x) t /\ ∀ n, In n (cX o x) <-> In n o \/ (x.Lo <= n /\ n <= x.Hi) := by
 have hx := h.rest x Y57
 have hrt : ∀ z ∈ t, cj z := fun z hz => h.rest z (Y56 _ hz)
 obtain ⟨hxt, BJ⟩ := Y67.1 h.ord
 rcases List.eq_nil_or_concat o with rfl | ⟨o, p, rfl⟩
 ·refine ⟨⟨Zix hx, hrt, BJ, by simpa [Zdp] using hxt⟩, fun n => ?_⟩
  rw [Zdp, Z8j]; simp [Z8h]
 ·rw [List.concat_eq_append] at h ⊢
  have hp := h.out.span (x := p) (by simp)
  have hpx := h.after p (by simp) x Y57
  have hop := (List.pairwise_append.1 h.out.ord).2.2
  have ho : bQ o := ⟨fun y hy => h.out.lo y (by simp [hy]), (List.pairwise_append.1 h.out.ord).1⟩
  have hot : ∀ y ∈ o, ∀ z ∈ t, y.Lo <= z.Lo := fun y hy z hz => h.after y (by simp [hy]) z (Y56 _ hz)
  have hpt : ∀ z ∈ t, p.Lo <= z.Lo := fun z hz => h.after p (by simp) z (Y56 _ hz)
  rw [Zdr]
  unfold cj at hx hp
  split
  ·rename_i h1
   refine ⟨⟨ho.append (Zix (by unfold cj; simp only; omega)) ?_, hrt, BJ, ?_⟩, fun n => ?_⟩
   ·intro y hy z hz
    simp only [Y65] at hz; subst hz
    exact hop y hy p (by simp)
   ·intro y hy z hz
    rcases Y52.1 hy with hy | hy
    ·exact hot y hy z hz
    ·simp only [Y65] at hy; subst hy; exact hpt z hz
   ·simp only [Z8e, Z8g, Z8i, or_false, or_assoc]
    have e : (p.Lo <= n /\ n <= max p.Hi x.Hi) <-> (p.Lo <= n /\ n <= p.Hi) \/ (x.Lo <= n /\ n <= x.Hi) := by omega
    rw [e]
  ·rename_i h1
   refine ⟨⟨h.out.append (Zix hx) ?_, hrt, BJ, ?_⟩, fun n => ?_⟩
   ·intro y hy z hz
    simp only [Y65] at hz; subst hz
    rcases Y52.1 hy with hy | hy
    ·have := hop y hy p (by simp); omega
    ·simp only [Y65] at hy; subst hy; omega
   ·intro y hy z hz
    rcases Y52.1 hy with hy | hy
    ·exact h.after y hy z (Y56 _ hz)
    ·simp only [Y65] at hy; subst hy; exact hxt z hz
   ·rw [Z8e, Z8j]
theorem Zl4 : ∀ {t o : List aa}, yT o t -> bQ (t.foldl cX o) /\ ∀ n, In n (t.foldl cX o) <-> In n o \/ In n t
 | [], o, h => ⟨h.out, fun n => by simp [Z8h]⟩
 | x :: t, o, h => by
  obtain ⟨h1, h2⟩ := Zdq h
  obtain ⟨h3, h4⟩ := Zl4 h1
  refine ⟨h3, fun n => ?_⟩
  show In n (t.foldl cX (cX o x)) <-> _
  rw [h4, h2, Z8g, or_assoc]
theorem Zjd (s : List aa) : (ed s).Pairwise fun a b => a.Lo <= b.Lo := by
 have h := (Zjf (s.map fun x => (x.Lo, x.Hi))).2
 rw [ed, List.pairwise_map]
 exact h
theorem Zja (s : List aa) (n : Int) : In n (ed s) <-> In n s := by
 have h := (Zjf (s.map fun x => (x.Lo, x.Hi))).1
 constructor
 ·rintro ⟨x, hx, h2⟩
  exact ⟨x, Zjc s x hx, h2⟩
 ·rintro ⟨x, hx, h2⟩
  exact ⟨x, Y60.2 ⟨(x.Lo, x.Hi), h.mem_iff.2 (Y60.2 ⟨x, hx, rfl⟩), rfl⟩, h2⟩
theorem Zl6 {s : List aa} (hs : ∀ x ∈ s, cj x) : bQ (eM s) /\ ∀ n, In n (eM s) <-> In n s := by
 have h : yT [] (ed s) := ⟨Ziw, fun z hz => hs z (Zjc s z hz), Zjd s, by simp⟩
 obtain ⟨h1, h2⟩ := Zl4 h
 exact ⟨h1, fun n => by rw [eM, h2, Zja]; simp [Z8h]⟩
end Go.Wr
namespace Go.Wr
def jk (s t : List aa) : Prop := ∀ n, ¬ (In n s /\ In n t)
theorem Zjm {x y : aa} (hx : cj x) (hy : cj y) : cA x y = true <-> ∀ n, ¬ ((x.Lo <= n /\ n <= x.Hi) /\ y.Lo <= n /\ n <= y.Hi) := by
 unfold cj at hx hy
 simp only [cA, Y11, Bool.and_eq_false_iff, decide_eq_false_iff_not]
 constructor
 ·intro h n; omega
 ·intro h; have := h (max x.Lo y.Lo); omega
theorem Zim {s t : List aa} : cD s t = true <-> bQ s /\ bQ t /\ jk s t := by
 simp only [cD, Y2, Ziv, Y18, and_assoc]
 constructor
 ·rintro ⟨hs, ht, h⟩
  refine ⟨hs, ht, fun n ⟨⟨x, hx, h1⟩, y, hy, h2⟩ => ?_⟩
  exact (Zjm (hs.span hx) (ht.span hy)).1 (h x hx y hy) n ⟨h1, h2⟩
 ·rintro ⟨hs, ht, h⟩
  refine ⟨hs, ht, fun x hx y hy => (Zjm (hs.span hx) (ht.span hy)).2 fun n h2 => ?_⟩
  exact h n ⟨⟨x, hx, h2.1⟩, y, hy, h2.2⟩
theorem jk.symm {s t : List aa} (h : jk s t) : jk t s := fun n h2 => h n ⟨h2.2, h2.1⟩
structure ee (l : List ab) : Prop where
 ok : ∀ e ∈ l, e.ok = true
 dis : l.Pairwise fun a b => jk a.Ids b.Ids
theorem ek {e : ab} (h : e.ok = true) : bQ e.Ids := (Ziv _).1 (nr h)
theorem Z3h {l : List ab} : ck l = true <-> ee l := by
 unfold ck
 rw [Zd]
 constructor
 ·intro h
  have hok : ∀ e ∈ l, e.ok = true := fun e he => Z3i (by unfold ck; rw [Zd]; exact h) he
  refine ⟨hok, ?_⟩
  rw [Y68]
  intro i j hi hj hij
  have h1 := h j hj
  rw [ej, Y34 hj] at h1
  simp only [Y2, Y18] at h1
  have h2 := h1.2 l[i] (List.mem_take_iff_getElem.2 ⟨i, by omega, rfl⟩)
  exact (Zim.1 h2).2.2.symm
 ·intro h j hj
  rw [ej, Y34 hj]
  simp only [Y2, Y18]
  refine ⟨h.ok _ (Y40 hj), fun o ho => ?_⟩
  obtain ⟨i, hi, rfl⟩ := List.mem_take_iff_getElem.1 ho
  have hij : i < j := by omega
  exact Zim.2 ⟨ek (h.ok _ (Y40 hj)), ek (h.ok _ (Y40 _)), ((Y68.1 h.dis) i j (by omega) hj hij).symm⟩
abbrev cY (l : List ab) (o : List aa) : List aa := l.foldl (fun o e => du o e.Ids) o
theorem Z8z : ∀ {l : List ab} {o : List aa}, bQ o -> (∀ e ∈ l, e.ok = true) -> bQ (cY l o) /\ ∀ n, In n (cY l o) <-> In n o \/ In n (l.flatMap ab.Ids)
 | [], o, ho, _ => ⟨ho, fun n => by simp [Z8h]⟩
 | e :: l, o, ho, hl => by
  obtain ⟨h1, h2⟩ := Z8w ho (ek (hl e Y57))
  obtain ⟨h3, h4⟩ := Z8z (l := l) h1 fun y hy => hl y (Y56 _ hy)
  refine ⟨h3, fun n => ?_⟩
  show In n (cY l (du o e.Ids)) <-> _
  rw [h4, h2, List.flatMap_cons, Z8e, or_assoc]
theorem Z5t {l : List ab} (h : ∀ e ∈ l, e.ok = true) : ∀ x ∈ l.flatMap ab.Ids, cj x := fun x hx => by
 obtain ⟨e, he, hx⟩ := Y58.1 hx
 exact (ek (h e he)).span hx
theorem Z89 {l : List ab} (h : ∀ e ∈ l, e.ok = true) : bQ (cz l) /\ ∀ n, In n (cz l) <-> In n (l.flatMap ab.Ids) := Zl6 (Z5t h)
theorem Z8a {l : List ab} (h : ∀ e ∈ l, e.ok = true) : cz l = cY l [] := by
 obtain ⟨h1, h2⟩ := Z89 h
 obtain ⟨h3, h4⟩ := Z8z Ziw h
 refine yQ h1 h3 fun n => ?_
 rw [h2, h4]
 simp [Z8h]
theorem Zgu (r : ai) : gd r = dS r := by
 unfold gd dS
 split
 ·rename_i h
  exact Z8a fun e he => Z3i (Zgy h) he
 ·rfl
theorem Zgv (r : ai) : bQ (gd r) := by
 unfold gd
 split
 ·rename_i h
  exact (Z89 fun e he => Z3i (Zgy h) he).1
 ·exact Ziw
def jB (l : List ab) (i : Nat) : Bool := match l[i]? with
 | none => false
 | some e => cD (cY (l.take i) []) e.Ids
def nS (l : List ab) : Bool := bV l.length (jB l)
theorem Z1 {l : List ab} (hok : ∀ e ∈ l, e.ok = true) : nS l = true <-> l.Pairwise fun a b => jk a.Ids b.Ids := by
 unfold nS
 rw [Zd, Y68]
 have hj : ∀ i n, In n (cY (l.take i) []) <-> ∃ j, ∃ h : j < l.length, j < i /\ In n l[j].Ids := fun i n => by
  rw [(Z8z Ziw fun e he => hok e (Y63 he)).2]
  constructor
  ·rintro (h | ⟨x, hx, h⟩)
   ·exact absurd h Z8h
   ·obtain ⟨e, he, hx⟩ := Y58.1 hx
    obtain ⟨j, hj, rfl⟩ := List.mem_take_iff_getElem.1 he
    exact ⟨j, by omega, by omega, x, hx, h⟩
  ·rintro ⟨j, hj, hji, x, hx, h⟩
   exact .inr ⟨x, Y58.2 ⟨l[j], List.mem_take_iff_getElem.2 ⟨j, by omega, rfl⟩, hx⟩, h⟩
 constructor
 ·intro h i j hi hj2 hij n ⟨h1, h2⟩
  have h3 := h j hj2
  rw [jB, Y34 hj2] at h3
  exact (Zim.1 h3).2.2 n ⟨(hj j n).2 ⟨i, hi, hij, h1⟩, h2⟩
 ·intro h j hj2
  rw [jB, Y34 hj2]
  refine Zim.2 ⟨(Z8z Ziw fun e he => hok e (Y63 he)).1, ek (hok _ (Y40 hj2)), fun n ⟨h1, h2⟩ => ?_⟩
  obtain ⟨i, hi, hij, h1⟩ := (hj j n).1 h1
  exact h i j hi hj2 hij n ⟨h1, h2⟩
def cF (s : List aa) (a : Int) (m : Nat) : Nat := (List.range m).countP fun (k : Nat) => dg s (100 * a + (k + 1))
theorem Z37 {p q : Nat -> Bool} (h : ∀ k, ¬ (p k = true /\ q k = true)) (l : List Nat) : l.countP (fun k => p k || q k) = l.countP p + l.countP q := by
 induction l with
 | nil => rfl
 | cons x l ih =>
  simp only [List.countP_cons, ih]
  cases hp : p x with
  | false => cases hq : q x <;> simp <;> omega
  | true =>
   cases hq : q x with
   | false => simp; omega
   | true => exact absurd ⟨hp, hq⟩ (h x)
theorem Z30 (lo hi : Int) (m : Nat) : ((List.range m).countP (fun (k : Nat) => decide (lo <= (k : Int) + 1) && decide ((k : Int) + 1 <= hi)) : Int) = max (min hi m - max lo 1 + 1) 0 := by
 induction m with
 | zero => simp; omega
 | succ m ih =>
  rw [List.range_succ, List.countP_append, List.countP_singleton, Int.natCast_add, ih]
  simp only [Y2, decide_eq_true_eq]
  split <;> omega
theorem Z2u {s t : List aa} (h : ∀ n, In n s <-> In n t) (a : Int) (m : Nat) : cF s a m = cF t a m := by
 unfold cF
 congr 1
 funext k
 rw [Y7, Zis, Zis]
 exact h _
theorem Z2t {s t : List aa} (h : jk s t) (a : Int) (m : Nat) : cF (s ++ t) a m = cF s a m + cF t a m := by
 unfold cF
 rw [<- Z37]
 ·congr 1
  funext k
  simp only [dg, List.any_append]
 ·intro k hk
  rw [Zis, Zis] at hk
  exact h _ hk
theorem Z2x (a : Int) (m : Nat) : cF [] a m = 0 := by
 unfold cF
 rw [List.countP_eq_zero]
 intro k _
 simp [dg]
theorem Z2y (x : aa) (a : Int) : (cF [x] a 60 : Int) = fF x a := by
 have h := Z30 (x.Lo - 100 * a) (x.Hi - 100 * a) 60
 have e : cF [x] a 60 = (List.range 60).countP (fun (k : Nat) => decide (x.Lo - 100 * a <= (k : Int) + 1) && decide ((k : Int) + 1 <= x.Hi - 100 * a)) := by
  unfold cF
  congr 1
  funext k
  simp only [dg, List.any_cons, List.any_nil, Bool.or_false, inB]
  congr 1 <;> (rw [decide_eq_decide]; omega)
 rw [e, h, fF]
 omega
theorem Z2z : ∀ {s : List aa}, bQ s -> ∀ a, (cF s a 60 : Int) = cE s a
 | [], _, a => by rw [Z2x]; rfl
 | x :: s, h, a => by
  have hd : jk [x] s := fun n ⟨h1, h2⟩ => by
   rw [Z8j] at h1
   have := h.gt h2
   omega
  rw [show x :: s = [x] ++ s from rfl, Z2t hd, Int.natCast_add, Z2y, Z2z h.tail]
  rfl
theorem Z39 {e : ab} {l : List ab} (h : ∀ x ∈ l, jk e.Ids x.Ids) : jk e.Ids (l.flatMap ab.Ids) := by
 rintro n ⟨h1, x, hx, h2⟩
 obtain ⟨y, hy, hx⟩ := Y58.1 hx
 exact h y hy n ⟨h1, x, hx, h2⟩
theorem Z2v : ∀ {l : List ab}, ee l -> ∀ a, (cF (l.flatMap ab.Ids) a 60 : Int) = (l.map fun e => cE e.Ids a).sum
 | [], _, a => by simp [Z2x]
 | e :: l, h, a => by
  obtain ⟨h1, h2⟩ := Y67.1 h.dis
  have hl : ee l := ⟨fun x hx => h.ok x (Y56 _ hx), h2⟩
  rw [List.flatMap_cons, Z2t (Z39 h1), Int.natCast_add, Z2z (ek (h.ok e Y57)), Z2v hl, Y50, Y69]
theorem ee.right {a b : List ab} (h : ee (a ++ b)) : ee b := ⟨fun e he => h.ok e (Y54 _ he), (List.pairwise_append.1 h.dis).2.1⟩
theorem Z2w {l : List ab} (h : ee l) (a : Int) : (cF (cz l) a 60 : Int) = (l.map fun e => cE e.Ids a).sum := by
 rw [Z2u (Z89 h.ok).2, Z2v h]
theorem Zc1 {x : aa} (hx : cj x) (a : Int) : fF x a <= x.Hi - x.Lo + 1 /\ (fF x a = x.Hi - x.Lo + 1 <-> 100 * a + 1 <= x.Lo /\ x.Hi <= 100 * a + 60) := by
 unfold fF cj at *
 omega
theorem Zc3 : ∀ {s : List aa}, (∀ x ∈ s, cj x) -> ∀ a, cE s a <= bS s /\ (cE s a = bS s <-> ∀ x ∈ s, 100 * a + 1 <= x.Lo /\ x.Hi <= 100 * a + 60)
 | [], _, a => by simp [cE, bS]
 | x :: s, h, a => by
  have h1 := Zc1 (h x Y57) a
  have h2 := Zc3 (s := s) (fun y hy => h y (Y56 _ hy)) a
  rw [Zby] at h2 ⊢
  unfold bS at h2 ⊢
  simp only [Y50, Y69, Y55, forall_eq_or_imp]
  rw [<- h2.2, <- h1.2]
  omega
theorem Zc2 {s : List aa} (h : bQ s) (a : Int) : (cE s a == cK s) = ez s (100 * a + 1) (100 * a + 60) := by
 have hok := (Ziv s).2 h
 rw [cK, if_pos hok, ez, hok, Y15, Y7, beq_iff_eq, (Zc3 (fun x hx => h.span hx) a).2, Y18]
 simp only [Y2, decide_eq_true_eq]
theorem Z88 {a : Nat} (ha : a <= 2) {s : Int} (hs : 1 <= s /\ s <= 60) : dk a s = 100 * a + s := by
 unfold dk inB
 simp only [Y2, decide_eq_true_eq]
 rw [if_pos (by omega)]
def dG (a : Nat) (r : ai) : Bool := r.ok && ez (gd r) (dk a 1) (dk a 60)
def dh (a : Nat) (r : ai) : Bool := r.ok && (cE (dS r) a == cK (dS r))
theorem Zgx {a : Nat} (ha : a <= 2) (r : ai) : dG a r = dh a r := by
 unfold dG dh
 rw [<- Zgu, Zc2 (Zgv r), Z88 ha (by omega), Z88 ha (by omega)]
def eO (rin : Nat -> ai -> Bool) (h : ao) (a : Nat) : Bool := match h.aO[a]?, h.Rows[a]? with
 | some s, some rs => s.ok h.bP.Per && decide (rs.length = 2) && rs.all (rin a)
 | _, _ => false
def gy (h : ao) : Bool := decide (h.aO.length = 3) && decide (h.Rows.length = 3) && decide (h.bX.length = 2) && inB h.js 0 1000 && inB h.lA 0 100000
def cC (rin : Nat -> ai -> Bool) (h : ao) : Bool := gy h && bV 3 (eO rin h) && h.bX.all au.ok
theorem Zi9 {h : ao} {a : Nat} (ha : a < 3) : eO dG h a = eO dh h a := by
 unfold eO
 split
 ·congr 2
  funext r
  exact Zgx (by omega) r
 ·rfl
theorem Zcv (h : ao) : cC dG h = cC dh h := by
 unfold cC
 rw [Zc fun a ha => Zi9 ha]
def okE (l : List ab) (i : Nat) : Bool := match l[i]? with
 | some e => e.ok
 | none => false
def fU (l : List ab) (i : Nat) : Bool := match l[i]? with
 | none => false
 | some e => match i with
  | 0 => true
  | k + 1 => match l[k]? with
   | some p => iE p e
   | none => false
def fc (l : List ay) (i : Nat) : Bool := match l[i]? with
 | none => false
 | some o => o.Gen == (ik (l.take i) o.aL.Key o.aL.cJ : Int)
def okO (l : List ay) (i : Nat) : Bool := match l[i]? with
 | some o => o.aL.ok
 | none => false
def fv (h : ao) : Bool := bV h.aH.length (fun i => okE h.aH i && fU h.aH i) && bV h.aY.length fun i => okO h.aY i && fc h.aY i
def fV (h : ao) (a : Nat) : Bool := match h.aO[a]? with
 | some s => (cF (cz (ct h)) a 60 : Int) == s.fb
 | none => false
def fe (h : ao) (a : Nat) : Bool := match h.aO[a]? with
 | some s => (h.aH.map fun e => cE e.Ids a).sum + (h.aY.map fun o => cE o.aL.Ids a).sum == s.fb
 | none => false
def bl (h : ao) : List ab := dx h ++ ct h
def gf (h : ao) : Bool := h.bP.ok && cC dG h && bV h.aH.length (fU h.aH) && ck (bl h) && bV 3 (fV h) && decide (eM (cu h.aO 0) = cz (bl h)) && bV h.aY.length (fc h.aY)
def houseS (h : ao) : Bool := h.bP.ok && cC dh h && fv h && nS (bl h) && decide (cY (bl h) [] = (cu h.aO 0).foldl cT []) && bV 3 (fe h)
theorem Zb {n : Nat} {p q : Nat -> Bool} : bV n (fun i => p i && q i) = (bV n p && bV n q) := by
 rw [Y7]
 simp only [Zd, Y2]
 exact ⟨fun h => ⟨fun j hj => (h j hj).1, fun j hj => (h j hj).2⟩, fun h j hj => ⟨h.1 j hj, h.2 j hj⟩⟩
theorem Zca {l : List ab} : bV l.length (okE l) = true <-> ∀ e ∈ l, e.ok = true := by
 rw [Zd]
 constructor
 ·intro h e he
  obtain ⟨i, hi⟩ := Y59.1 he
  have := h i (Y36.1 hi).1
  simpa only [okE, hi] using this
 ·intro h j hj
  rw [okE, Y34 hj]
  exact h _ (Y40 hj)
theorem Zcc {l : List ay} : bV l.length (okO l) = true <-> ∀ o ∈ l, o.aL.ok = true := by
 rw [Zd]
 constructor
 ·intro h e he
  obtain ⟨i, hi⟩ := Y59.1 he
  have := h i (Y36.1 hi).1
  simpa only [okO, hi] using this
 ·intro h j hj
  rw [okO, Y34 hj]
  exact h _ (Y40 hj)
theorem Zi7 {rin : Nat -> ai -> Bool} {h : ao} {a : Nat} {s : al} {rs : List ai} (h1 : h.aO[a]? = some s) (h2 : h.Rows[a]? = some rs) (h3 : eO rin h a = true) : s.ok h.bP.Per = true /\ rs.length = 2 /\ ∀ r ∈ rs, rin a r = true := by
 simp only [eO, h1, h2, Y2, decide_eq_true_eq, Y18] at h3
 exact ⟨h3.1.1, h3.1.2, h3.2⟩
theorem Zcy {rin : Nat -> ai -> Bool} {h : ao} (hp : cC rin h = true) : zJ h.aO := by
 simp only [cC, gy, Y2, decide_eq_true_eq, Zd] at hp
 obtain ⟨⟨⟨⟨⟨⟨h3, h3r⟩, _⟩, _⟩, _⟩, hs⟩, _⟩ := hp
 refine ⟨h3, fun s hs2 x hx => ?_⟩
 obtain ⟨i, hi⟩ := Y59.1 hs2
 have hil := (Y36.1 hi).1
 have hok := (Zi7 hi (Y34 (show i < h.Rows.length by omega)) (hs i (by omega))).1
 simp only [al.ok, Y2, ez, Y18, inB, decide_eq_true_eq] at hok
 obtain ⟨⟨⟨⟨⟨⟨_, _⟩, hg⟩, qE, LM⟩, _⟩, _⟩, _⟩ := hok
 have h1 := LM x hx
 have h2 := Zit qE hx
 omega
theorem Zcx {rin : Nat -> ai -> Bool} {h : ao} (hr : ∀ a r, rin a r = true -> r.ok = true) (hp : cC rin h = true) : ∀ e ∈ dx h, e.ok = true := by
 simp only [cC, gy, Y2, decide_eq_true_eq, Zd] at hp
 obtain ⟨⟨⟨⟨⟨⟨h3, h3r⟩, _⟩, _⟩, _⟩, hs⟩, _⟩ := hp
 intro e he
 obtain ⟨l, hl, he⟩ := List.mem_flatten.1 he
 obtain ⟨rs, hrs, rfl⟩ := Y60.1 hl
 obtain ⟨l, hl, he⟩ := List.mem_flatten.1 he
 obtain ⟨r, hr2, rfl⟩ := Y60.1 hl
 obtain ⟨i, hi⟩ := Y59.1 hrs
 have hil := (Y36.1 hi).1
 have hok := (Zi7 (Y34 (show i < h.aO.length by omega)) hi (hs i (by omega))).2.2 r hr2
 exact Z3i (Zgy (hr i r hok)) he
theorem Zgw {a : Nat} {r : ai} (h : dG a r = true) : r.ok = true := by
 simp only [dG, Y2] at h; exact h.1
theorem Z82 (h : ao) : gf h = houseS h := by
 unfold gf houseS
 rw [<- Zcv]
 cases hc : h.bP.ok with
 | false => rfl
 | true =>
  cases hp : cC dG h with
  | false => rfl
  | true =>
   simp only [Y15]
   have hse := Zcy hp
   have LN := Zcx (fun a r h => Zgw h) hp
   have ij : fv h = (bV h.aH.length (okE h.aH) && bV h.aY.length (okO h.aY) && (bV h.aH.length (fU h.aH) && bV h.aY.length (fc h.aY))) := by
    unfold fv
    rw [Zb, Zb]
    generalize bV h.aH.length (okE h.aH) = a
    generalize bV h.aH.length (fU h.aH) = b
    generalize bV h.aY.length (okO h.aY) = c
    generalize bV h.aY.length (fc h.aY) = d
    revert a b c d; decide
   have nF : (bV h.aH.length (okE h.aH) && bV h.aY.length (okO h.aY)) = true <-> ∀ e ∈ bl h, e.ok = true := by
    rw [Y2, Zca, Zcc]
    unfold bl ct
    simp only [Y52, Y60, or_imp, forall_and]
    constructor
    ·rintro ⟨h1, h2⟩
     refine ⟨LN, h1, ?_⟩
     rintro _ ⟨o, ho, rfl⟩
     exact h2 o ho
    ·rintro ⟨_, h1, h2⟩
     exact ⟨h1, fun o ho => h2 _ ⟨o, ho, rfl⟩⟩
   have htk : eM (cu h.aO 0) = (cu h.aO 0).foldl cT [] := by
    have hr := Zkq (l := h.aO) (a := 0) hse.2 (by rw [hse.1]; omega)
    obtain ⟨h1, h2⟩ := Zl6 hr
    obtain ⟨h3, h4⟩ := Zei Ziw hr
    refine yQ h1 h3 fun n => ?_
    rw [h2, h4]; simp [Z8h]
   rw [ij]
   by_cases hok : ∀ e ∈ bl h, e.ok = true
   ·rw [nF.2 hok, Y15, htk, Z8a hok]
    have e1 : ck (bl h) = nS (bl h) := by
     rw [Y7, Z3h, Z1 hok]
     exact ⟨fun h => h.dis, fun h => ⟨hok, h⟩⟩
    rw [<- e1]
    cases hap : ck (bl h) with
    | false => simp
    | true =>
     have he := Z3h.1 hap
     have e2 : bV 3 (fV h) = bV 3 (fe h) := by
      refine Zc fun a ha => ?_
      unfold fV fe
      split
      ·rw [Z2w (ee.right he)]
       unfold ct
       rw [Y49, List.sum_append, Y51]
       rfl
      ·rfl
     rw [e2]
     have e3 : decide ((cu h.aO 0).foldl cT [] = cY (bl h) []) = decide (cY (bl h) [] = (cu h.aO 0).foldl cT []) := by rw [decide_eq_decide]; exact eq_comm
     rw [e3]
     generalize bV 3 (fe h) = a
     generalize decide (cY (bl h) [] = (cu h.aO 0).foldl cT []) = b
     generalize bV h.aH.length (fU h.aH) = c
     generalize bV h.aY.length (fc h.aY) = d
     revert a b c d; decide
   ·have h1 : (bV h.aH.length (okE h.aH) && bV h.aY.length (okO h.aY)) = false := by
     rw [Y6]; exact fun h2 => hok (nF.1 h2)
    have h2 : ck (bl h) = false := by
     rw [Y6]; exact fun h2 => hok (Z3h.1 h2).ok
    rw [h1, h2]
    simp
end Go.Wr

