/-
  What is proved: lemmas on the way to the laws of this seat. No condition.
-/
import Derived.Test.YtbghjecopkbhlaaGreatQb
set_option linter.unusedVariables false
set_option linter.unusedSimpArgs false
namespace Go.Wr
def In (n : Int) (s : List GSpan) : Prop := ∃ x ∈ s, x.Lo <= n /\ n <= x.Hi
theorem Z8h {n : Int} : ¬ In n [] := by rintro ⟨x, hx, _⟩; cases hx
theorem Z8i {n : Int} : In n [] <-> False := ⟨Z8h, False.elim⟩
theorem Z8g {n : Int} {x : GSpan} {s : List GSpan} : In n (x :: s) <-> (x.Lo <= n /\ n <= x.Hi) \/ In n s := by
 constructor
 ·rintro ⟨y, hy, h⟩
  rcases Y55.1 hy with rfl | hy
  ·exact .inl h
  ·exact .inr ⟨y, hy, h⟩
 ·rintro (h | ⟨y, hy, h⟩)
  ·exact ⟨x, Y57, h⟩
  ·exact ⟨y, Y56 _ hy, h⟩
theorem Z8e {n : Int} {s t : List GSpan} : In n (s ++ t) <-> In n s \/ In n t := by
 constructor
 ·rintro ⟨x, hx, h⟩
  rcases Y52.1 hx with hx | hx
  ·exact .inl ⟨x, hx, h⟩
  ·exact .inr ⟨x, hx, h⟩
 ·rintro (⟨x, hx, h⟩ | ⟨x, hx, h⟩)
  ·exact ⟨x, Y53 _ hx, h⟩
  ·exact ⟨x, Y54 _ hx, h⟩
theorem Z8j {n : Int} {x : GSpan} : In n [x] <-> x.Lo <= n /\ n <= x.Hi := by rw [Z8g]; simp [Z8h]
theorem Zis {s : List GSpan} {n : Int} : setHas s n = true <-> In n s := by
 unfold setHas
 rw [Y20]
 constructor
 ·rintro ⟨x, hx, h⟩; exact ⟨x, hx, by simpa [inB] using h⟩
 ·rintro ⟨x, hx, h⟩; exact ⟨x, hx, by simpa [inB] using h⟩
theorem Ziw : SetR [] := ⟨by simp, List.Pairwise.nil⟩
theorem SetR.tail {x : GSpan} {s : List GSpan} (h : SetR (x :: s)) : SetR s := ⟨fun y hy => h.lo y (Y56 _ hy), (Y67.1 h.ord).2⟩
theorem SetR.head {x : GSpan} {s : List GSpan} (h : SetR (x :: s)) : ∀ y ∈ s, x.Hi + 1 < y.Lo := (Y67.1 h.ord).1
theorem SetR.one {x : GSpan} {s : List GSpan} (h : SetR (x :: s)) : SpanR x := h.lo x Y57
theorem SetR.span {s : List GSpan} (h : SetR s) {x : GSpan} (hx : x ∈ s) : SpanR x := h.lo x hx
theorem SetR.append {s t : List GSpan} (hs : SetR s) (ht : SetR t) (h : ∀ x ∈ s, ∀ y ∈ t, x.Hi + 1 < y.Lo) : SetR (s ++ t) :=
 ⟨fun x hx => (Y52.1 hx).elim (hs.lo x) (ht.lo x), List.pairwise_append.2 ⟨hs.ord, ht.ord, h⟩⟩
theorem Zix {x : GSpan} (h : SpanR x) : SetR [x] := ⟨fun y hy => by simp only [Y65] at hy; subst hy; exact h, by simp⟩
theorem SetR.gt {x : GSpan} {s : List GSpan} (h : SetR (x :: s)) {n : Int} (hn : In n s) : x.Hi + 1 < n := by
 obtain ⟨y, hy, h1, _⟩ := hn
 have := h.head y hy
 omega
theorem canon : ∀ {s t : List GSpan}, SetR s -> SetR t -> (∀ n, In n s <-> In n t) -> s = t
 | [], [], _, _, _ => rfl
 | [], y :: t, _, ht, h => by
  have := (h y.Lo).2 ⟨y, Y57, Int.le_refl _, (ht.one).2.1⟩
  exact absurd this Z8h
 | x :: s, [], hs, _, h => by
  have := (h x.Lo).1 ⟨x, Y57, Int.le_refl _, (hs.one).2.1⟩
  exact absurd this Z8h
 | x :: s, y :: t, hs, ht, h => by
  have hx := hs.one
  have hy := ht.one
  unfold SpanR at hx hy
  have hlo : x.Lo = y.Lo := by
   have h1 := (h x.Lo).1 ⟨x, Y57, by omega, by omega⟩
   have h2 := (h y.Lo).2 ⟨y, Y57, by omega, by omega⟩
   rw [Z8g] at h1 h2
   rcases h1 with h1 | h1 <;> rcases h2 with h2 | h2
   ·omega
   ·have := hs.gt h2; omega
   ·have := ht.gt h1; omega
   ·have := hs.gt h2; have := ht.gt h1; omega
  have hhi : x.Hi = y.Hi := by
   have no : ∀ {u : GSpan} {l : List GSpan}, SetR (u :: l) -> ¬ In (u.Hi + 1) (u :: l) := fun {u l} hu h2 => by
    rcases in_cons.1 h2 with h2 | h2
    ·omega
    ·have := hu.gt h2; omega
   have h1 := no hs
   have h2 := no ht
   rw [h] at h1
   rw [<- h] at h2
   rw [Z8g] at h1 h2
   have h3 : ¬ (y.Lo <= x.Hi + 1 /\ x.Hi + 1 <= y.Hi) := fun h => h1 (.inl h)
   have h4 : ¬ (x.Lo <= y.Hi + 1 /\ y.Hi + 1 <= x.Hi) := fun h => h2 (.inl h)
   omega
  have hxy : x = y := by
   cases x; cases y; simp only at hlo hhi; rw [hlo, hhi]
  subst hxy
  rw [canon hs.tail ht.tail fun n => ?_]
  have h1 := h n
  rw [Z8g, Z8g] at h1
  constructor
  ·intro h2
   have := hs.gt h2
   rcases h1.1 (.inr h2) with h3 | h3
   ·omega
   ·exact h3
  ·intro h2
   have := ht.gt h2
   rcases h1.2 (.inr h2) with h3 | h3
   ·omega
   ·exact h3
structure PutI (p : PutS) (t : List GSpan) : Prop where
 out : SetR p.out
 rest : SetR t
 apart : ∀ y ∈ p.out, ∀ z ∈ t, y.Hi + 1 < z.Lo
 x : SpanR p.x
 no : p.done = false -> ∀ y ∈ p.out, y.Hi + 1 < p.x.Lo
 yes : p.done = true -> ∀ z ∈ t, p.x.Hi + 1 < z.Lo
def PutS.all (p : PutS) : List GSpan := if p.done then p.out else p.out ++ [p.x]
theorem Zdy {p : PutS} {y : GSpan} {t : List GSpan} (h : PutI p (y :: t)) : PutI (putStep p y) t /\ ∀ n, In n (putStep p y).all \/ In n t <-> In n p.all \/ In n (y :: t) := by
 have hy := h.rest.one
 have hyt := h.rest.head
 have hx := h.x
 have hoy : ∀ z ∈ p.out, z.Hi + 1 < y.Lo := fun z hz => h.apart z hz y Y57
 have hot : ∀ z ∈ p.out, ∀ w ∈ t, z.Hi + 1 < w.Lo := fun z hz w hw => h.apart z hz w (Y56 _ hw)
 have hsnoc : SetR (p.out ++ [y]) := h.out.append (Zix hy) (by simpa using hoy)
 unfold SpanR at hx hy
 unfold putStep
 split
 ·rename_i h1
  have hd : p.done = false := by
   cases hd : p.done with
   | false => rfl
   | true => have := h.yes hd y Y57; omega
  refine ⟨⟨hsnoc, h.rest.tail, ?_, h.x, fun _ => ?_, fun h2 => ?_⟩, fun n => ?_⟩
  ·intro z hz w hw
   rcases Y52.1 hz with hz | hz
   ·exact hot z hz w hw
   ·simp only [Y65] at hz; subst hz; exact hyt w hw
  ·intro z hz
   rcases Y52.1 hz with hz | hz
   ·exact h.no hd z hz
   ·simp only [Y65] at hz; subst hz; exact h1
  ·rw [hd] at h2; cases h2
  ·simp only [PutS.all, hd, Y9, if_false, Z8e, Z8i, or_false, Z8g]
   grind
 ·rename_i h1
  split
  ·rename_i h2
   cases hd : p.done with
   | true =>
    simp only [if_true]
    refine ⟨⟨hsnoc, h.rest.tail, ?_, h.x, fun h3 => ?_, fun _ z hz => ?_⟩, fun n => ?_⟩
    ·intro z hz w hw
     rcases Y52.1 hz with hz | hz
     ·exact hot z hz w hw
     ·simp only [Y65] at hz; subst hz; exact hyt w hw
    ·cases h3
    ·exact h.yes hd z (Y56 _ hz)
    ·simp only [PutS.all, hd, if_true, Z8e, Z8i, or_false, Z8g]
     grind
   | false =>
    simp only [Y9, if_false]
    have hno := h.no hd
    have hxy : SetR [p.x, y] := ⟨by simpa using ⟨h.x, hy⟩, by simp; omega⟩
    have hall : SetR (p.out ++ [p.x, y]) := h.out.append hxy (by
     intro z hz w hw
     simp only [Y55, List.not_mem_nil, or_false] at hw
     rcases hw with rfl | rfl
     ·exact hno z hz
     ·exact hoy z hz)
    refine ⟨⟨hall, h.rest.tail, ?_, h.x, fun h3 => (by cases h3), fun _ z hz => ?_⟩, fun n => ?_⟩
    ·intro z hz w hw
     simp only [Y52, Y55, List.not_mem_nil, or_false] at hz
     rcases hz with hz | rfl | rfl
     ·exact hot z hz w hw
     ·have := hyt w hw; omega
     ·exact hyt w hw
    ·have := hyt z hz; simp only; omega
    ·simp only [PutS.all, hd, Y9, if_false, if_true, Z8e, Z8i, or_false, Z8g]
     grind
  ·rename_i h2
   have hd : p.done = false := by
    cases hd : p.done with
    | false => rfl
    | true => have := h.yes hd y Y57; omega
   have hno := h.no hd
   refine ⟨⟨h.out, h.rest.tail, hot, ?_, fun _ z hz => ?_, fun h3 => ?_⟩, fun n => ?_⟩
   ·unfold SpanR; simp only; omega
   ·have := hno z hz; have := hoy z hz; simp only; omega
   ·rw [hd] at h3; cases h3
   ·simp only [PutS.all, hd, Y9, if_false, Z8e, Z8i, or_false, Z8g]
    have e : (min p.x.Lo y.Lo <= n /\ n <= max p.x.Hi y.Hi) <-> (p.x.Lo <= n /\ n <= p.x.Hi) \/ (y.Lo <= n /\ n <= y.Hi) := by omega
    rw [e]
    grind
theorem Zdi : ∀ {t : List GSpan} {p : PutS}, PutI p t -> SetR (t.foldl putStep p).all /\ ∀ n, In n (t.foldl putStep p).all <-> In n p.all \/ In n t
 | [], p, h => by
  refine ⟨?_, fun n => by simp [Z8h]⟩
  rw [List.foldl_nil, PutS.all]
  by_cases hd : p.done = true
  ·rw [if_pos hd]; exact h.out
  ·rw [if_neg hd]; exact h.out.append (Zix h.x) (by simpa using h.no (by simpa using hd))
 | y :: t, p, h => by
  obtain ⟨h1, h2⟩ := Zdy h
  obtain ⟨h3, h4⟩ := Zdi h1
  exact ⟨h3, fun n => (h4 n).trans (h2 n)⟩
theorem Zdj (s : List GSpan) (x : GSpan) : putG s x = (s.foldl putStep ⟨[], false, x⟩).all := rfl
theorem Zdm {s : List GSpan} {x : GSpan} (hs : SetR s) (hx : SpanR x) : SetR (putG s x) /\ ∀ n, In n (putG s x) <-> In n s \/ (x.Lo <= n /\ n <= x.Hi) := by
 have h : PutI ⟨[], false, x⟩ s := ⟨Ziw, hs, by simp, hx, by simp, by simp⟩
 obtain ⟨h1, h2⟩ := Zdi h
 refine ⟨h1, fun n => ?_⟩
 rw [Zdj, h2]
 simp only [PutS.all, Y9, if_false, Y66, Z8j]
 exact or_comm
theorem Zei : ∀ {l o : List GSpan}, SetR o -> (∀ x ∈ l, SpanR x) -> SetR (l.foldl putG o) /\ ∀ n, In n (l.foldl putG o) <-> In n o \/ In n l
 | [], o, ho, _ => ⟨ho, fun n => by simp [Z8h]⟩
 | x :: l, o, ho, hl => by
  obtain ⟨h1, h2⟩ := Zdm ho (hl x Y57)
  obtain ⟨h3, h4⟩ := Zei (l := l) h1 fun y hy => hl y (Y56 _ hy)
  refine ⟨h3, fun n => ?_⟩
  show In n (l.foldl putG (putG o x)) <-> _
  rw [h4, h2, Z8g, or_assoc]
theorem Z8w {a b : List GSpan} (ha : SetR a) (hb : SetR b) : SetR (joinG a b) /\ ∀ n, In n (joinG a b) <-> In n a \/ In n b := Zei ha fun x hx => hb.span hx
structure UniI (o t : List GSpan) : Prop where
 out : SetR o
 rest : ∀ z ∈ t, SpanR z
 ord : t.Pairwise fun a b => a.Lo <= b.Lo
 after : ∀ y ∈ o, ∀ z ∈ t, y.Lo <= z.Lo
theorem Zdq {o t : List GSpan} {x : GSpan} (h : UniI o (x :: t)) : UniI (putLast o x) t /\ ∀ n, In n (putLast o x) <-> In n o \/ (x.Lo <= n /\ n <= x.Hi) := by
 have hx := h.rest x Y57
 have hrt : ∀ z ∈ t, SpanR z := fun z hz => h.rest z (Y56 _ hz)
 obtain ⟨hxt, hord⟩ := Y67.1 h.ord
 rcases List.eq_nil_or_concat o with rfl | ⟨o, p, rfl⟩
 ·refine ⟨⟨Zix hx, hrt, hord, by simpa [Zdp] using hxt⟩, fun n => ?_⟩
  rw [Zdp, Z8j]; simp [Z8h]
 ·rw [List.concat_eq_append] at h ⊢
  have hp := h.out.span (x := p) (by simp)
  have hpx := h.after p (by simp) x Y57
  have hop := (List.pairwise_append.1 h.out.ord).2.2
  have ho : SetR o := ⟨fun y hy => h.out.lo y (by simp [hy]), (List.pairwise_append.1 h.out.ord).1⟩
  have hot : ∀ y ∈ o, ∀ z ∈ t, y.Lo <= z.Lo := fun y hy z hz => h.after y (by simp [hy]) z (Y56 _ hz)
  have hpt : ∀ z ∈ t, p.Lo <= z.Lo := fun z hz => h.after p (by simp) z (Y56 _ hz)
  rw [Zdr]
  unfold SpanR at hx hp
  split
  ·rename_i h1
   refine ⟨⟨ho.append (Zix (by unfold SpanR; simp only; omega)) ?_, hrt, hord, ?_⟩, fun n => ?_⟩
   ·intro y hy z hz
    simp only [Y65] at hz; subst hz
    exact hop y hy p (by simp)
   ·intro y hy z hz
    rcases Y52.1 hy with hy | hy
    ·exact hot y hy z hz
    ·simp only [Y65] at hy; subst hy; exact hpt z hz
   ·simp only [Z8e, Z8g, Z8i, or_false, or_assoc]
    have e : (p.Lo <= n /\ n <= max p.Hi x.Hi) <-> (p.Lo <= n /\ n <= p.Hi) \/ (x.Lo <= n /\ n <= x.Hi) := by omega
    rw [e]
  ·rename_i h1
   refine ⟨⟨h.out.append (Zix hx) ?_, hrt, hord, ?_⟩, fun n => ?_⟩
   ·intro y hy z hz
    simp only [Y65] at hz; subst hz
    rcases Y52.1 hy with hy | hy
    ·have := hop y hy p (by simp); omega
    ·simp only [Y65] at hy; subst hy; omega
   ·intro y hy z hz
    rcases Y52.1 hy with hy | hy
    ·exact h.after y hy z (Y56 _ hz)
    ·simp only [Y65] at hy; subst hy; exact hxt z hz
   ·rw [Z8e, Z8j]
theorem Zl4 : ∀ {t o : List GSpan}, UniI o t -> SetR (t.foldl putLast o) /\ ∀ n, In n (t.foldl putLast o) <-> In n o \/ In n t
 | [], o, h => ⟨h.out, fun n => by simp [Z8h]⟩
 | x :: t, o, h => by
  obtain ⟨h1, h2⟩ := Zdq h
  obtain ⟨h3, h4⟩ := Zl4 h1
  refine ⟨h3, fun n => ?_⟩
  show In n (t.foldl putLast (putLast o x)) <-> _
  rw [h4, h2, Z8g, or_assoc]
theorem Zjd (s : List GSpan) : (sortG s).Pairwise fun a b => a.Lo <= b.Lo := by
 have h := (Zjf (s.map fun x => (x.Lo, x.Hi))).2
 rw [sortG, List.pairwise_map]
 exact h
theorem Zja (s : List GSpan) (n : Int) : In n (sortG s) <-> In n s := by
 have h := (Zjf (s.map fun x => (x.Lo, x.Hi))).1
 constructor
 ·rintro ⟨x, hx, h2⟩
  exact ⟨x, Zjc s x hx, h2⟩
 ·rintro ⟨x, hx, h2⟩
  exact ⟨x, Y60.2 ⟨(x.Lo, x.Hi), h.mem_iff.2 (Y60.2 ⟨x, hx, rfl⟩), rfl⟩, h2⟩
theorem Zl6 {s : List GSpan} (hs : ∀ x ∈ s, SpanR x) : SetR (unionG s) /\ ∀ n, In n (unionG s) <-> In n s := by
 have h : UniI [] (sortG s) := ⟨Ziw, fun z hz => hs z (Zjc s z hz), Zjd s, by simp⟩
 obtain ⟨h1, h2⟩ := Zl4 h
 exact ⟨h1, fun n => by rw [unionG, h2, Zja]; simp [Z8h]⟩
end Go.Wr
namespace Go.Wr
def Disj (s t : List GSpan) : Prop := ∀ n, ¬ (In n s /\ In n t)
theorem Zjm {x y : GSpan} (hx : SpanR x) (hy : SpanR y) : spanApart x y = true <-> ∀ n, ¬ ((x.Lo <= n /\ n <= x.Hi) /\ y.Lo <= n /\ n <= y.Hi) := by
 unfold SpanR at hx hy
 simp only [spanApart, Y11, Bool.and_eq_false_iff, decide_eq_false_iff_not]
 constructor
 ·intro h n; omega
 ·intro h; have := h (max x.Lo y.Lo); omega
theorem Zim {s t : List GSpan} : setApart s t = true <-> SetR s /\ SetR t /\ Disj s t := by
 simp only [setApart, Y2, Ziv, Y18, and_assoc]
 constructor
 ·rintro ⟨hs, ht, h⟩
  refine ⟨hs, ht, fun n ⟨⟨x, hx, h1⟩, y, hy, h2⟩ => ?_⟩
  exact (Zjm (hs.span hx) (ht.span hy)).1 (h x hx y hy) n ⟨h1, h2⟩
 ·rintro ⟨hs, ht, h⟩
  refine ⟨hs, ht, fun x hx y hy => (Zjm (hs.span hx) (ht.span hy)).2 fun n h2 => ?_⟩
  exact h n ⟨⟨x, hx, h2.1⟩, y, hy, h2.2⟩
theorem Disj.symm {s t : List GSpan} (h : Disj s t) : Disj t s := fun n h2 => h n ⟨h2.2, h2.1⟩
structure EntsR (l : List GEntry) : Prop where
 ok : ∀ e ∈ l, e.ok = true
 dis : l.Pairwise fun a b => Disj a.Ids b.Ids
theorem ok_setR {e : GEntry} (h : e.ok = true) : SetR e.Ids := (Ziv _).1 (ok_ids h)
theorem Z3h {l : List GEntry} : entsApart l = true <-> EntsR l := by
 unfold entsApart
 rw [Zd]
 constructor
 ·intro h
  have hok : ∀ e ∈ l, e.ok = true := fun e he => Z3i (by unfold entsApart; rw [Zd]; exact h) he
  refine ⟨hok, ?_⟩
  rw [Y68]
  intro i j hi hj hij
  have h1 := h j hj
  rw [apartAt, Y34 hj] at h1
  simp only [Y2, Y18] at h1
  have h2 := h1.2 l[i] (List.mem_take_iff_getElem.2 ⟨i, by omega, rfl⟩)
  exact (setApart_iff.1 h2).2.2.symm
 ·intro h j hj
  rw [apartAt, Y34 hj]
  simp only [Y2, Y18]
  refine ⟨h.ok _ (Y40 hj), fun o ho => ?_⟩
  obtain ⟨i, hi, rfl⟩ := List.mem_take_iff_getElem.1 ho
  have hij : i < j := by omega
  exact setApart_iff.2 ⟨ok_setR (h.ok _ (Y40 hj)), ok_setR (h.ok _ (Y40 _)), ((Y68.1 h.dis) i j (by omega) hj hij).symm⟩
abbrev joins (l : List GEntry) (o : List GSpan) : List GSpan := l.foldl (fun o e => joinG o e.Ids) o
theorem Z8z : ∀ {l : List GEntry} {o : List GSpan}, SetR o -> (∀ e ∈ l, e.ok = true) -> SetR (joins l o) /\ ∀ n, In n (joins l o) <-> In n o \/ In n (l.flatMap GEntry.Ids)
 | [], o, ho, _ => ⟨ho, fun n => by simp [Z8h]⟩
 | e :: l, o, ho, hl => by
  obtain ⟨h1, h2⟩ := Z8w ho (ok_setR (hl e Y57))
  obtain ⟨h3, h4⟩ := Z8z (l := l) h1 fun y hy => hl y (Y56 _ hy)
  refine ⟨h3, fun n => ?_⟩
  show In n (joins l (joinG o e.Ids)) <-> _
  rw [h4, h2, Y92, Z8e, or_assoc]
theorem Z5t {l : List GEntry} (h : ∀ e ∈ l, e.ok = true) : ∀ x ∈ l.flatMap GEntry.Ids, SpanR x := fun x hx => by
 obtain ⟨e, he, hx⟩ := Y58.1 hx
 exact (ok_setR (h e he)).span hx
theorem Z89 {l : List GEntry} (h : ∀ e ∈ l, e.ok = true) : SetR (idsOf l) /\ ∀ n, In n (idsOf l) <-> In n (l.flatMap GEntry.Ids) := Zl6 (Z5t h)
theorem Z8a {l : List GEntry} (h : ∀ e ∈ l, e.ok = true) : idsOf l = joins l [] := by
 obtain ⟨h1, h2⟩ := Z89 h
 obtain ⟨h3, h4⟩ := Z8z Ziw h
 refine canon h1 h3 fun n => ?_
 rw [h2, h4]
 simp [Z8h]
theorem Zgu (r : GRow) : rowIds r = rowIdsS r := by
 unfold rowIds rowIdsS
 split
 ·rename_i h
  exact Z8a fun e he => Z3i (Zgy h) he
 ·rfl
theorem Zgv (r : GRow) : SetR (rowIds r) := by
 unfold rowIds
 split
 ·rename_i h
  exact (Z89 fun e he => Z3i (Zgy h) he).1
 ·exact Ziw
def accAt (l : List GEntry) (i : Nat) : Bool := match l[i]? with
 | none => false
 | some e => setApart (joins (l.take i) []) e.Ids
def accB (l : List GEntry) : Bool := allIx l.length (accAt l)
theorem Z1 {l : List GEntry} (hok : ∀ e ∈ l, e.ok = true) : accB l = true <-> l.Pairwise fun a b => Disj a.Ids b.Ids := by
 unfold accB
 rw [Zd, Y68]
 have hj : ∀ i n, In n (joins (l.take i) []) <-> ∃ j, ∃ h : j < l.length, j < i /\ In n l[j].Ids := fun i n => by
  rw [(Z8z Ziw fun e he => hok e (Y63 he)).2]
  constructor
  ·rintro (h | ⟨x, hx, h⟩)
   ·exact absurd h Z8h
   ·obtain ⟨e, he, hx⟩ := Y58.1 hx
    obtain ⟨j, hj, rfl⟩ := List.mem_take_iff_getElem.1 he
    exact ⟨j, by omega, by omega, x, hx, h⟩
  ·rintro ⟨j, hj, hji, x, hx, h⟩
   exact .inr ⟨x, Y58.2 ⟨l[j], List.mem_take_iff_getElem.2 ⟨j, by omega, rfl⟩, hx⟩, h⟩
 constructor
 ·intro h i j hi hj2 hij n ⟨h1, h2⟩
  have h3 := h j hj2
  rw [accAt, Y34 hj2] at h3
  exact (setApart_iff.1 h3).2.2 n ⟨(hj j n).2 ⟨i, hi, hij, h1⟩, h2⟩
 ·intro h j hj2
  rw [accAt, Y34 hj2]
  refine setApart_iff.2 ⟨(Z8z Ziw fun e he => hok e (Y63 he)).1, ok_setR (hok _ (Y40 hj2)), fun n ⟨h1, h2⟩ => ?_⟩
  obtain ⟨i, hi, hij, h1⟩ := (hj j n).1 h1
  exact h i j hi hj2 hij n ⟨h1, h2⟩
def cntHas (s : List GSpan) (a : Int) (m : Nat) : Nat := (List.range m).countP fun (k : Nat) => setHas s (100 * a + (k + 1))
theorem Z37 {p q : Nat -> Bool} (h : ∀ k, ¬ (p k = true /\ q k = true)) (l : List Nat) : l.countP (fun k => p k || q k) = l.countP p + l.countP q := by
 induction l with
 | nil => rfl
 | cons x l ih =>
  simp only [List.countP_cons, ih]
  cases hp : p x with
  | false => cases hq : q x <;> simp <;> omega
  | true =>
   cases hq : q x with
   | false => simp; omega
   | true => exact absurd ⟨hp, hq⟩ (h x)
theorem Z30 (lo hi : Int) (m : Nat) : ((List.range m).countP (fun (k : Nat) => decide (lo <= (k : Int) + 1) && decide ((k : Int) + 1 <= hi)) : Int) = max (min hi m - max lo 1 + 1) 0 := by
 induction m with
 | zero => simp; omega
 | succ m ih =>
  rw [List.range_succ, List.countP_append, List.countP_singleton, Int.natCast_add, ih]
  simp only [Y2, decide_eq_true_eq]
  split <;> omega
theorem Z2u {s t : List GSpan} (h : ∀ n, In n s <-> In n t) (a : Int) (m : Nat) : cntHas s a m = cntHas t a m := by
 unfold cntHas
 congr 1
 funext k
 rw [Y7, Zis, Zis]
 exact h _
theorem Z2t {s t : List GSpan} (h : Disj s t) (a : Int) (m : Nat) : cntHas (s ++ t) a m = cntHas s a m + cntHas t a m := by
 unfold cntHas
 rw [<- Z37]
 ·congr 1
  funext k
  simp only [setHas, List.any_append]
 ·intro k hk
  rw [Zis, Zis] at hk
  exact h _ hk
theorem Z2x (a : Int) (m : Nat) : cntHas [] a m = 0 := by
 unfold cntHas
 rw [List.countP_eq_zero]
 intro k _
 simp [setHas]
theorem Z2y (x : GSpan) (a : Int) : (cntHas [x] a 60 : Int) = ofSpan x a := by
 have h := Z30 (x.Lo - 100 * a) (x.Hi - 100 * a) 60
 have e : cntHas [x] a 60 = (List.range 60).countP (fun (k : Nat) => decide (x.Lo - 100 * a <= (k : Int) + 1) && decide ((k : Int) + 1 <= x.Hi - 100 * a)) := by
  unfold cntHas
  congr 1
  funext k
  simp only [setHas, List.any_cons, List.any_nil, Bool.or_false, inB]
  congr 1 <;> (rw [decide_eq_decide]; omega)
 rw [e, h, ofSpan]
 omega
theorem Z2z : ∀ {s : List GSpan}, SetR s -> ∀ a, (cntHas s a 60 : Int) = ofAgent s a
 | [], _, a => by rw [Z2x]; rfl
 | x :: s, h, a => by
  have hd : Disj [x] s := fun n ⟨h1, h2⟩ => by
   rw [Z8j] at h1
   have := h.gt h2
   omega
  rw [show x :: s = [x] ++ s from rfl, Z2t hd, Int.natCast_add, Z2y, Z2z h.tail]
  rfl
theorem Z39 {e : GEntry} {l : List GEntry} (h : ∀ x ∈ l, Disj e.Ids x.Ids) : Disj e.Ids (l.flatMap GEntry.Ids) := by
 rintro n ⟨h1, x, hx, h2⟩
 obtain ⟨y, hy, hx⟩ := Y58.1 hx
 exact h y hy n ⟨h1, x, hx, h2⟩
theorem Z2v : ∀ {l : List GEntry}, EntsR l -> ∀ a, (cntHas (l.flatMap GEntry.Ids) a 60 : Int) = (l.map fun e => ofAgent e.Ids a).sum
 | [], _, a => by simp [Z2x]
 | e :: l, h, a => by
  obtain ⟨h1, h2⟩ := Y67.1 h.dis
  have hl : EntsR l := ⟨fun x hx => h.ok x (Y56 _ hx), h2⟩
  rw [Y92, Z2t (Z39 h1), Int.natCast_add, Z2z (ok_setR (h.ok e Y57)), Z2v hl, Y50, Y69]
theorem EntsR.right {a b : List GEntry} (h : EntsR (a ++ b)) : EntsR b := ⟨fun e he => h.ok e (Y54 _ he), (List.pairwise_append.1 h.dis).2.1⟩
theorem Z2w {l : List GEntry} (h : EntsR l) (a : Int) : (cntHas (idsOf l) a 60 : Int) = (l.map fun e => ofAgent e.Ids a).sum := by
 rw [Z2u (Z89 h.ok).2, Z2v h]
theorem Zc1 {x : GSpan} (hx : SpanR x) (a : Int) : ofSpan x a <= x.Hi - x.Lo + 1 /\ (ofSpan x a = x.Hi - x.Lo + 1 <-> 100 * a + 1 <= x.Lo /\ x.Hi <= 100 * a + 60) := by
 unfold ofSpan SpanR at *
 omega
theorem Zc3 : ∀ {s : List GSpan}, (∀ x ∈ s, SpanR x) -> ∀ a, ofAgent s a <= sumSpan s /\ (ofAgent s a = sumSpan s <-> ∀ x ∈ s, 100 * a + 1 <= x.Lo /\ x.Hi <= 100 * a + 60)
 | [], _, a => by simp [ofAgent, sumSpan]
 | x :: s, h, a => by
  have h1 := Zc1 (h x Y57) a
  have h2 := Zc3 (s := s) (fun y hy => h y (Y56 _ hy)) a
  rw [Zby] at h2 ⊢
  unfold sumSpan at h2 ⊢
  simp only [Y50, Y69, Y55, forall_eq_or_imp]
  rw [<- h2.2, <- h1.2]
  omega
theorem Zc2 {s : List GSpan} (h : SetR s) (a : Int) : (ofAgent s a == setSize s) = allIn s (100 * a + 1) (100 * a + 60) := by
 have hok := (Ziv s).2 h
 rw [setSize, if_pos hok, allIn, hok, Y15, Y7, beq_iff_eq, (Zc3 (fun x hx => h.span hx) a).2, Y18]
 simp only [Y2, decide_eq_true_eq]
theorem Z88 {a : Nat} (ha : a <= 2) {s : Int} (hs : 1 <= s /\ s <= 60) : idOf a s = 100 * a + s := by
 unfold idOf inB
 simp only [Y2, decide_eq_true_eq]
 rw [if_pos (by omega)]
def rowIn (a : Nat) (r : GRow) : Bool := r.ok && allIn (rowIds r) (idOf a 1) (idOf a 60)
def rowInS (a : Nat) (r : GRow) : Bool := r.ok && (ofAgent (rowIdsS r) a == setSize (rowIdsS r))
theorem Zgx {a : Nat} (ha : a <= 2) (r : GRow) : rowIn a r = rowInS a r := by
 unfold rowIn rowInS
 rw [<- Zgu, Zc2 (Zgv r), Z88 ha (by omega), Z88 ha (by omega)]
def seatAt (rin : Nat -> GRow -> Bool) (h : GHouse) (a : Nat) : Bool := match h.Seats[a]?, h.Rows[a]? with
 | some s, some rs => s.ok h.Conf.Per && decide (rs.length = 2) && rs.all (rin a)
 | _, _ => false
def topB (h : GHouse) : Bool := decide (h.Seats.length = 3) && decide (h.Rows.length = 3) && decide (h.Turns.length = 2) && inB h.Since 0 1000 && inB h.Clock 0 100000
def partsB (rin : Nat -> GRow -> Bool) (h : GHouse) : Bool := topB h && allIx 3 (seatAt rin h) && h.Turns.all GTurn.ok
theorem Zi9 {h : GHouse} {a : Nat} (ha : a < 3) : seatAt rowIn h a = seatAt rowInS h a := by
 unfold seatAt
 split
 ·congr 2
  funext r
  exact Zgx (by omega) r
 ·rfl
theorem Zcv (h : GHouse) : partsB rowIn h = partsB rowInS h := by
 unfold partsB
 rw [Zc fun a ha => Zi9 ha]
def okE (l : List GEntry) (i : Nat) : Bool := match l[i]? with
 | some e => e.ok
 | none => false
def ordAt (l : List GEntry) (i : Nat) : Bool := match l[i]? with
 | none => false
 | some e => match i with
  | 0 => true
  | k + 1 => match l[k]? with
   | some p => aheadE p e
   | none => false
def gensAt (l : List GOut) (i : Nat) : Bool := match l[i]? with
 | none => false
 | some o => o.Gen == (toldN (l.take i) o.Entry.Key o.Entry.Window : Int)
def okO (l : List GOut) (i : Nat) : Bool := match l[i]? with
 | some o => o.Entry.ok
 | none => false
def rootS (h : GHouse) : Bool := allIx h.Root.length (fun i => okE h.Root i && ordAt h.Root i) && allIx h.Outs.length fun i => okO h.Outs i && gensAt h.Outs i
def mergedI (h : GHouse) (a : Nat) : Bool := match h.Seats[a]? with
 | some s => (cntHas (idsOf (addedE h)) a 60 : Int) == s.Merged
 | none => false
def mergedS (h : GHouse) (a : Nat) : Bool := match h.Seats[a]? with
 | some s => (h.Root.map fun e => ofAgent e.Ids a).sum + (h.Outs.map fun o => ofAgent o.Entry.Ids a).sum == s.Merged
 | none => false
def allE (h : GHouse) : List GEntry := rowEnts h ++ addedE h
def houseI (h : GHouse) : Bool := h.Conf.ok && partsB rowIn h && allIx h.Root.length (ordAt h.Root) && entsApart (allE h) && allIx 3 (mergedI h) && decide (unionG (takenL h.Seats 0) = idsOf (allE h)) && allIx h.Outs.length (gensAt h.Outs)
def houseS (h : GHouse) : Bool := h.Conf.ok && partsB rowInS h && rootS h && accB (allE h) && decide (joins (allE h) [] = (takenL h.Seats 0).foldl putG []) && allIx 3 (mergedS h)
theorem Zb {n : Nat} {p q : Nat -> Bool} : allIx n (fun i => p i && q i) = (allIx n p && allIx n q) := by
 rw [Y7]
 simp only [Zd, Y2]
 exact ⟨fun h => ⟨fun j hj => (h j hj).1, fun j hj => (h j hj).2⟩, fun h j hj => ⟨h.1 j hj, h.2 j hj⟩⟩
theorem Zca {l : List GEntry} : allIx l.length (okE l) = true <-> ∀ e ∈ l, e.ok = true := by
 rw [Zd]
 constructor
 ·intro h e he
  obtain ⟨i, hi⟩ := Y59.1 he
  have := h i (Y36.1 hi).1
  simpa only [okE, hi] using this
 ·intro h j hj
  rw [okE, Y34 hj]
  exact h _ (Y40 hj)
theorem Zcc {l : List GOut} : allIx l.length (okO l) = true <-> ∀ o ∈ l, o.Entry.ok = true := by
 rw [Zd]
 constructor
 ·intro h e he
  obtain ⟨i, hi⟩ := Y59.1 he
  have := h i (Y36.1 hi).1
  simpa only [okO, hi] using this
 ·intro h j hj
  rw [okO, Y34 hj]
  exact h _ (Y40 hj)
theorem Zi7 {rin : Nat -> GRow -> Bool} {h : GHouse} {a : Nat} {s : GSeat} {rs : List GRow} (h1 : h.Seats[a]? = some s) (h2 : h.Rows[a]? = some rs) (h3 : seatAt rin h a = true) : s.ok h.Conf.Per = true /\ rs.length = 2 /\ ∀ r ∈ rs, rin a r = true := by
 simp only [seatAt, h1, h2, Y2, decide_eq_true_eq, Y18] at h3
 exact ⟨h3.1.1, h3.1.2, h3.2⟩
theorem Zcy {rin : Nat -> GRow -> Bool} {h : GHouse} (hp : partsB rin h = true) : SeatsR h.Seats := by
 simp only [partsB, topB, Y2, decide_eq_true_eq, Zd] at hp
 obtain ⟨⟨⟨⟨⟨⟨h3, h3r⟩, _⟩, _⟩, _⟩, hs⟩, _⟩ := hp
 refine ⟨h3, fun s hs2 x hx => ?_⟩
 obtain ⟨i, hi⟩ := Y59.1 hs2
 have hil := (Y36.1 hi).1
 have hok := (Zi7 hi (Y34 (show i < h.Rows.length by omega)) (hs i (by omega))).1
 simp only [GSeat.ok, Y2, allIn, Y18, inB, decide_eq_true_eq] at hok
 obtain ⟨⟨⟨⟨⟨⟨_, _⟩, hg⟩, hok1, hok2⟩, _⟩, _⟩, _⟩ := hok
 have h1 := hok2 x hx
 have h2 := Zit hok1 hx
 omega
theorem Zcx {rin : Nat -> GRow -> Bool} {h : GHouse} (hr : ∀ a r, rin a r = true -> r.ok = true) (hp : partsB rin h = true) : ∀ e ∈ rowEnts h, e.ok = true := by
 simp only [partsB, topB, Y2, decide_eq_true_eq, Zd] at hp
 obtain ⟨⟨⟨⟨⟨⟨h3, h3r⟩, _⟩, _⟩, _⟩, hs⟩, _⟩ := hp
 intro e he
 obtain ⟨l, hl, he⟩ := List.mem_flatten.1 he
 obtain ⟨rs, hrs, rfl⟩ := Y60.1 hl
 obtain ⟨l, hl, he⟩ := List.mem_flatten.1 he
 obtain ⟨r, hr2, rfl⟩ := Y60.1 hl
 obtain ⟨i, hi⟩ := Y59.1 hrs
 have hil := (Y36.1 hi).1
 have hok := (Zi7 (Y34 (show i < h.Seats.length by omega)) hi (hs i (by omega))).2.2 r hr2
 exact Z3i (Zgy (hr i r hok)) he
theorem Zgw {a : Nat} {r : GRow} (h : rowIn a r = true) : r.ok = true := by
 simp only [rowIn, Y2] at h; exact h.1
theorem Z82 (h : GHouse) : houseI h = houseS h := by
 unfold houseI houseS
 rw [<- Zcv]
 cases hc : h.Conf.ok with
 | false => rfl
 | true =>
  cases hp : partsB rowIn h with
  | false => rfl
  | true =>
   simp only [Y15]
   have hse := Zcy hp
   have hrow := Zcx (fun a r h => Zgw h) hp
   have hroot : rootS h = (allIx h.Root.length (okE h.Root) && allIx h.Outs.length (okO h.Outs) && (allIx h.Root.length (ordAt h.Root) && allIx h.Outs.length (gensAt h.Outs))) := by
    unfold rootS
    rw [Zb, Zb]
    generalize allIx h.Root.length (okE h.Root) = a
    generalize allIx h.Root.length (ordAt h.Root) = b
    generalize allIx h.Outs.length (okO h.Outs) = c
    generalize allIx h.Outs.length (gensAt h.Outs) = d
    revert a b c d; decide
   have hadd : (allIx h.Root.length (okE h.Root) && allIx h.Outs.length (okO h.Outs)) = true <-> ∀ e ∈ allE h, e.ok = true := by
    rw [Y2, Zca, Zcc]
    unfold allE addedE
    simp only [Y52, Y60, or_imp, forall_and]
    constructor
    ·rintro ⟨h1, h2⟩
     refine ⟨hrow, h1, ?_⟩
     rintro _ ⟨o, ho, rfl⟩
     exact h2 o ho
    ·rintro ⟨_, h1, h2⟩
     exact ⟨h1, fun o ho => h2 _ ⟨o, ho, rfl⟩⟩
   have htk : unionG (takenL h.Seats 0) = (takenL h.Seats 0).foldl putG [] := by
    have hr := Zkq (l := h.Seats) (a := 0) hse.2 (by rw [hse.1]; omega)
    obtain ⟨h1, h2⟩ := Zl6 hr
    obtain ⟨h3, h4⟩ := Zei Ziw hr
    refine canon h1 h3 fun n => ?_
    rw [h2, h4]; simp [Z8h]
   rw [hroot]
   by_cases hok : ∀ e ∈ allE h, e.ok = true
   ·rw [hadd.2 hok, Y15, htk, Z8a hok]
    have e1 : entsApart (allE h) = accB (allE h) := by
     rw [Y7, Z3h, Z1 hok]
     exact ⟨fun h => h.dis, fun h => ⟨hok, h⟩⟩
    rw [<- e1]
    cases hap : entsApart (allE h) with
    | false => simp
    | true =>
     have he := entsApart_iff.1 hap
     have e2 : allIx 3 (mergedI h) = allIx 3 (mergedS h) := by
      refine Zc fun a ha => ?_
      unfold mergedI mergedS
      split
      ·rw [Z2w (EntsR.right he)]
       unfold addedE
       rw [Y49, List.sum_append, Y51]
       rfl
      ·rfl
     rw [e2]
     have e3 : decide ((takenL h.Seats 0).foldl putG [] = joins (allE h) []) = decide (joins (allE h) [] = (takenL h.Seats 0).foldl putG []) := by rw [decide_eq_decide]; exact eq_comm
     rw [e3]
     generalize allIx 3 (mergedS h) = a
     generalize decide (joins (allE h) [] = (takenL h.Seats 0).foldl putG []) = b
     generalize allIx h.Root.length (ordAt h.Root) = c
     generalize allIx h.Outs.length (gensAt h.Outs) = d
     revert a b c d; decide
   ·have h1 : (allIx h.Root.length (okE h.Root) && allIx h.Outs.length (okO h.Outs)) = false := by
     rw [Y6]; exact fun h2 => hok (hadd.1 h2)
    have h2 : entsApart (allE h) = false := by
     rw [Y6]; exact fun h2 => hok (entsApart_iff.1 h2).ok
    rw [h1, h2]
    simp
end Go.Wr

