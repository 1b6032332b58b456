/-
  What is proved: lemmas on the way to the laws of this seat. No condition.
-/
import Derived.Test.YtjnfhlmfdchepaaGreatQb
set_option linter.unusedVariables false
set_option linter.unusedSimpArgs false
namespace Go.Wr
def In (n : Int) (s : List GSpan) : Prop := ∃ x ∈ s, x.Lo <= n /\ n <= x.Hi
theorem SetR.tail {x : GSpan} {s : List GSpan} (h : SetR (x :: s)) : SetR s := ⟨fun y hy => h.lo y (List.mem_cons_of_mem _ hy), (List.pairwise_cons.1 h.ord).2⟩
theorem SetR.head {x : GSpan} {s : List GSpan} (h : SetR (x :: s)) : ∀ y ∈ s, x.Hi + 1 < y.Lo := (List.pairwise_cons.1 h.ord).1
theorem SetR.one {x : GSpan} {s : List GSpan} (h : SetR (x :: s)) : SpanR x := h.lo x List.mem_cons_self
theorem SetR.span {s : List GSpan} (h : SetR s) {x : GSpan} (hx : x ∈ s) : SpanR x := h.lo x hx
theorem SetR.append {s t : List GSpan} (hs : SetR s) (ht : SetR t) (h : ∀ x ∈ s, ∀ y ∈ t, x.Hi + 1 < y.Lo) : SetR (s ++ t) :=
 ⟨fun x hx => (List.mem_append.1 hx).elim (hs.lo x) (ht.lo x), List.pairwise_append.2 ⟨hs.ord, ht.ord, h⟩⟩
structure PutI (p : PutS) (t : List GSpan) : Prop where
 out : SetR p.out
 rest : SetR t
 apart : ∀ y ∈ p.out, ∀ z ∈ t, y.Hi + 1 < z.Lo
 x : SpanR p.x
 no : p.done = false -> ∀ y ∈ p.out, y.Hi + 1 < p.x.Lo
 yes : p.done = true -> ∀ z ∈ t, p.x.Hi + 1 < z.Lo
def PutS.all (p : PutS) : List GSpan := if p.done then p.out else p.out ++ [p.x]
structure UniI (o t : List GSpan) : Prop where
 out : SetR o
 rest : ∀ z ∈ t, SpanR z
 ord : t.Pairwise fun a b => a.Lo <= b.Lo
 after : ∀ y ∈ o, ∀ z ∈ t, y.Lo <= z.Lo
end Go.Wr
namespace Go.Wr
def Disj (s t : List GSpan) : Prop := ∀ n, ¬ (In n s /\ In n t)
theorem Disj.symm {s t : List GSpan} (h : Disj s t) : Disj t s := fun n h2 => h n ⟨h2.2, h2.1⟩
structure EntsR (l : List GEntry) : Prop where
 ok : ∀ e ∈ l, e.ok = true
 dis : l.Pairwise fun a b => Disj a.Ids b.Ids
theorem EntsR.right {a b : List GEntry} (h : EntsR (a ++ b)) : EntsR b := ⟨fun e he => h.ok e (List.mem_append_right _ he), (List.pairwise_append.1 h.dis).2.1⟩
end Go.Wr

