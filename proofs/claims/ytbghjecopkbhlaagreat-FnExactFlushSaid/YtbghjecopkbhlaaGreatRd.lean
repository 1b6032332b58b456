/-
  What is proved: lemmas on the way to the laws of this seat. No condition.
-/
import Derived.Test.YtbghjecopkbhlaaGreatRe
set_option linter.unusedVariables false
set_option linter.unusedSimpArgs false
namespace Go.Wr
abbrev Fs := Option (List (List Nat × List Nat))
def Fs.hd (fs : Fs) {α : Type} (p : Pg α) : Pg α := match fs with
 | none => p
 | some ((r, w) :: _) => p.within r w
 | some [] => .fail
def Fs.tl (fs : Fs) : Fs := match fs with
 | some (_ :: l) => some l
 | _ => none
def Fs.tlK (fs : Fs) (k : Fs -> Prop) : Prop := match fs with
 | some (_ :: l) => k (some l)
 | _ => k none
theorem Zku (fs : Fs) (k : Fs -> Prop) : fs.tlK k = k fs.tl := by
 match fs with
 | none => rfl
 | some [] => rfl
 | some (_ :: _) => rfl
def gb (id : Nat) (i : Nat) (os : List aC) (fs : Fs) : Pg Unit := match fs with
 | none => jW id i os
 | some l => ir id i os l
structure EvX (id i : Nat) (os : List aC) (fs : Fs) (l : LS) (K : LS -> Prop) : Prop where
 out : ∃ l', (gb id i os fs).ev l = some ((), l') /\ K l'
section
variable {id i : Nat} {o : aC} {d : Option Nat} {op : MOp} {os : List aC} {fs fs' : Fs} {l l1 l2 : LS} {K : LS -> Prop} {s : Nat} {b want : Bool} {kl : List Nat}
theorem Z5a : gb id i [] fs = .ret () := by
 unfold gb
 cases fs <;> rfl
theorem zn (h : K l) : EvX id i [] fs l K := ⟨⟨l, by rw [Z5a]; rfl, h⟩⟩
theorem Z59 (hf : fs = none \/ ∃ x l, fs = some (x :: l)) : gb id i (o :: os) fs = (fs.hd (o.exec ((id * 1000 + i + 1) * 8))).bind fun _ => gb id (i + 1) os fs.tl := by
 rcases hf with rfl | ⟨⟨r, w⟩, fs, rfl⟩ <;> rfl
theorem Z7z {p : Pg Unit} (h : ((fs.hd p)).ev l = some ((), l1)) : fs = none \/ ∃ x l, fs = some (x :: l) := by
 match fs, h with
 | none, _ => exact .inl rfl
 | some (x :: l), _ => exact .inr ⟨x, l, rfl⟩
 | some [], h => cases h
theorem zo (h : (fs.hd (o.exec ((id * 1000 + i + 1) * 8))).ev l = some ((), l1)) (hf : fs.tlK fun f => f = fs') (hK : EvX id (i + 1) os fs' l1 K) : EvX id i (o :: os) fs l K := by
 obtain ⟨l', h1, h2⟩ := hK.out
 refine ⟨⟨l', ?_, h2⟩⟩
 rw [Zku] at hf
 rw [Z59 (Z7z h), Z3p, h, hf]
 exact h1
theorem zo' {o' : aC} (h : (fs.hd (o.exec ((id * 1000 + i + 1) * 8))).ev l = (fs.hd (o'.exec ((id * 1000 + i + 1) * 8))).ev l) (hK : EvX id i (o' :: os) fs l K) : EvX id i (o :: os) fs l K := by
 obtain ⟨l', h1, h2⟩ := hK.out
 refine ⟨⟨l', ?_, h2⟩⟩
 have hf : fs = none \/ ∃ x l, fs = some (x :: l) := by
  match fs, h1 with
  | none, _ => exact .inl rfl
  | some (x :: l), _ => exact .inr ⟨x, l, rfl⟩
  | some [], h1 => cases h1
 rw [Z59 hf, Z3p] at h1 ⊢
 rw [h]
 exact h1
def Fs.has (fs : Fs) (s : Nat) : Bool := match fs with
 | none => true
 | some ((r, _) :: _) => r.contains s
 | some [] => false
theorem Z77 {e : Nat} (hr : fs.has s = true) (hg : l.get s = .x (.b b)) (ht : b = want) : (fs.hd (aC.exec e ⟨d, op, some (s, want), kl⟩)).ev l = (fs.hd (aC.exec e ⟨d, op, none, kl⟩)).ev l := by
 match fs, hr with
 | none, _ => exact Z75 hg ht
 | some ((r, w) :: fs), hr => exact Z76 hr hg ht
 | some [], hr => cases hr
theorem Z74 {e : Nat} (hr : fs.has s = true) (hg : l.get s = .x (.b b)) (ht : b = !want) : (fs.hd (aC.exec e ⟨d, op, some (s, want), kl⟩)).ev l = (fs.hd ((bT d (.tup 0)).bind fun _ => forget kl)).ev l := by
 match fs, hr with
 | none, _ => exact Z72 hg ht
 | some ((r, w) :: fs), hr => exact Z73 hr hg ht
 | some [], hr => cases hr
theorem zy (hr : fs.has s = true) (hg : l.get s = .x (.b b)) (ht : b = want) (h : EvX id i (⟨d, op, none, kl⟩ :: os) fs l K) : EvX id i (⟨d, op, some (s, want), kl⟩ :: os) fs l K := zo' (Z77 hr hg ht) h
theorem zm (hr : fs.has s = true) (hg : l.get s = .x (.b b)) (ht : b = !want) (h1 : (fs.hd ((bT d (.tup 0)).bind fun _ => forget kl)).ev l = some ((), l1)) (hf : fs.tlK fun f => f = fs') (h : EvX id (i + 1) os fs' l1 K) : EvX id i (⟨d, op, some (s, want), kl⟩ :: os) fs l K :=
 zo ((Z74 hr hg ht).trans h1) hf h
theorem zp {c x y : Opd} {v : T} (hg : (fs.hd (raw ((id * 1000 + i + 1) * 8) c)).ev l = some (.x (.b b), l)) (ht : b = want) (hx : (fs.hd (raw ((id * 1000 + i + 1) * 8) (bif want then x else y))).ev l = some (.x v, l))
  (h1 : (fs.hd ((bT d (.x v)).bind fun _ => forget kl)).ev l = some ((), l1)) (hf : fs.tlK fun f => f = fs') (h : EvX id (i + 1) os fs' l1 K) : EvX id i (⟨d, .pick c x y, none, kl⟩ :: os) fs l K := by
 refine zo ?_ hf h
 subst ht
 match fs, hg, hx, h1 with
 | none, hg, hx, h1 =>
  simp only [Fs.hd] at hg hx h1 ⊢
  rw [Z3p] at h1
  cases b <;> simp only [cond_true, cond_false] at hx <;> simp only [aC.exec, aC.go, exec, Bind.bind, Z3p, hg, hx, if_true, Y9, if_false] <;> exact h1
 | some ((r, w) :: fs), hg, hx, h1 =>
  simp only [Fs.hd] at hg hx h1 ⊢
  rw [Zls, Z3p] at h1
  cases b <;> simp only [cond_true, cond_false] at hx <;> simp only [aC.exec, aC.go, exec, Bind.bind, Zls, Z3p, hg, hx, if_true, Y9, if_false] <;> exact h1
 | some [], hg, _, _ => cases hg
theorem zk (g : Nat) {F : Fun} {args : List (Pass × Opd)} {hs : List Hand} {ags : List Arg} {q : Out} (h1 : (fs.hd (eh ((id * 1000 + i + 1) * 8) args [])).ev l = some (hs, l1)) (ha : hs.map Hand.arg = ags) (h2 : F ags = some q)
  (h3 : db hs q = true) (h4 : (fs.hd ((dC ((id * 1000 + i + 1) * 8) d hs q).bind fun _ => forget kl)).ev l1 = some ((), l2)) (hf : fs.tlK fun f => f = fs') (hK : EvX id (i + 1) os fs' l2 K) : EvX id i (⟨d, .call g F args, none, kl⟩ :: os) fs l K := by
 refine zo ?_ hf hK
 match fs, h1, h4 with
 | none, h1, h4 =>
  simp only [Fs.hd] at h1 h4 ⊢
  rw [Z3p] at h4
  cases h5 : (dC ((id * 1000 + i + 1) * 8) d hs q).ev l1 with
  | none => rw [h5] at h4; cases h4
  | some x =>
   rw [h5] at h4
   show ((ga ((id * 1000 + i + 1) * 8) d F args []).bind fun _ => forget kl).ev l = _
   rw [Z3p, Z44 h1 (ha ▸ h2) h3 h5]
   exact h4
 | some ((r, w) :: fs), h1, h4 =>
  simp only [Fs.hd] at h1 h4 ⊢
  rw [Zls, Z3p] at h4
  cases h5 : ((dC ((id * 1000 + i + 1) * 8) d hs q).within r w).ev l1 with
  | none => rw [h5] at h4; cases h4
  | some x =>
   rw [h5] at h4
   show (((ga ((id * 1000 + i + 1) * 8) d F args []).bind fun _ => forget kl).within r w).ev l = _
   rw [Zls, Z3p, Z45 h1 (ha ▸ h2) h3 h5]
   exact h4
 | some [], h1, _ => cases h1
theorem zd {x : Opd} {eo : List (Nat × Fun)} {g : Nat} {env : List T} {F : Fun} {args : List (Pass × Opd)} {hs : List Hand} {ags : List Arg} {q : Out} (h0 : (fs.hd (raw ((id * 1000 + i + 1) * 8) x)).ev l = some (.x (.f g env), l)) (hc : eo.find? (fun c => c.1 == g) = some (g, F))
  (h1 : (fs.hd (eh ((id * 1000 + i + 1) * 8) args env)).ev l = some (hs, l1)) (ha : hs.map Hand.arg = ags) (h2 : F ags = some q) (h3 : db hs q = true) (h4 : (fs.hd ((dC ((id * 1000 + i + 1) * 8) d hs q).bind fun _ => forget kl)).ev l1 = some ((), l2)) (hf : fs.tlK fun f => f = fs')
  (hK : EvX id (i + 1) os fs' l2 K) : EvX id i (⟨d, .dyn x eo args, none, kl⟩ :: os) fs l K := by
 refine zo ?_ hf hK
 match fs, h0, h1, h4 with
 | none, h0, h1, h4 =>
  simp only [Fs.hd] at h0 h1 h4 ⊢
  rw [Z3p] at h4
  cases h5 : (dC ((id * 1000 + i + 1) * 8) d hs q).ev l1 with
  | none => rw [h5] at h4; cases h4
  | some y =>
   rw [h5] at h4
   simp only [aC.exec, aC.go, exec, Bind.bind, Z3p, h0, hc]
   rw [Z44 h1 (ha ▸ h2) h3 h5]
   exact h4
 | some ((r, w) :: fs), h0, h1, h4 =>
  simp only [Fs.hd] at h0 h1 h4 ⊢
  rw [Zls, Z3p] at h4
  cases h5 : ((dC ((id * 1000 + i + 1) * 8) d hs q).within r w).ev l1 with
  | none => rw [h5] at h4; cases h4
  | some y =>
   rw [h5] at h4
   simp only [aC.exec, aC.go, exec, Bind.bind, Zls, Z3p, h0, hc]
   rw [Z45 h1 (ha ▸ h2) h3 h5]
   exact h4
 | some [], h0, _, _ => cases h0
theorem zi {sz : Nat} {x ix : Opd} {k : IntKind} {n : Int} {es : List T} (t : T) (h1 : (fs.hd (raw ((id * 1000 + i + 1) * 8) ix)).ev l = some (.x (.i k n), l)) (h2 : (fs.hd (look ((id * 1000 + i + 1) * 8) x)).ev l = some (.x (.l .n sz es), l)) (h0 : 0 <= n)
  (ht : es[n.toNat]? = some t) (h3 : (fs.hd ((bT d (.q t 0)).bind fun _ => forget kl)).ev l = some ((), l1)) (hf : fs.tlK fun f => f = fs') (h : EvX id (i + 1) os fs' l1 K) : EvX id i (⟨d, .ia sz x ix, none, kl⟩ :: os) fs l K := by
 refine zo ?_ hf h
 match fs, h1, h2, h3 with
 | none, h1, h2, h3 =>
  simp only [Fs.hd] at h1 h2 h3 ⊢
  rw [Z3p] at h3
  simp only [aC.exec, aC.go, exec, indexAddr, Bind.bind, Z3p, h1, h2, h0, true_and, if_true, ht, Pure.pure, Z3y]
  exact h3
 | some ((r, w) :: fs), h1, h2, h3 =>
  simp only [Fs.hd] at h1 h2 h3 ⊢
  rw [Zls, Z3p] at h3
  simp only [aC.exec, aC.go, exec, indexAddr, Bind.bind, Zls, Z3p, h1, h2, h0, true_and, if_true, ht, Pure.pure, Zlu, Z3y]
  exact h3
 | some [], h1, _, _ => cases h1
theorem zw {sz : Nat} {x ix : Opd} {k : IntKind} {n : Int} {r' : Nat} {kk : Wr.K} {p : List Nat} {lo m : Nat} (h1 : (fs.hd (raw ((id * 1000 + i + 1) * 8) ix)).ev l = some (.x (.i k n), l)) (h2 : (fs.hd (look ((id * 1000 + i + 1) * 8) x)).ev l = some (.w r' kk p sz lo m, l)) (h0 : 0 <= n) (ht : n < m)
  (h3 : (fs.hd ((bT d (.ptr r' kk (p ++ [lo + n.toNat]) 0)).bind fun _ => forget kl)).ev l = some ((), l1)) (hf : fs.tlK fun f => f = fs') (h : EvX id (i + 1) os fs' l1 K) : EvX id i (⟨d, .ia sz x ix, none, kl⟩ :: os) fs l K := by
 refine zo ?_ hf h
 match fs, h1, h2, h3 with
 | none, h1, h2, h3 =>
  simp only [Fs.hd] at h1 h2 h3 ⊢
  rw [Z3p] at h3
  simp only [aC.exec, aC.go, exec, indexAddr, Bind.bind, Z3p, h1, h2, h0, ht, and_self, if_true, Pure.pure, Z3y]
  exact h3
 | some ((r, w) :: fs), h1, h2, h3 =>
  simp only [Fs.hd] at h1 h2 h3 ⊢
  rw [Zls, Z3p] at h3
  simp only [aC.exec, aC.go, exec, indexAddr, Bind.bind, Zls, Z3p, h1, h2, h0, ht, and_self, if_true, Pure.pure, Zlu, Z3y]
  exact h3
 | some [], h1, _, _ => cases h1
end
end Go.Wr
namespace Go.Wr
section
variable {id i : Nat} {o : aC} {d : Option Nat} {op : MOp} {os : List aC} {fs fs' : Fs} {l l1 l2 l3 : LS} {K : LS -> Prop} {s : Nat} {b want : Bool} {kl : List Nat}
theorem zs {sz : Nat} {agg : Bool} {zero : List T} {x y : Opd} {n m : Int} (h1 : (fs.hd (num ((id * 1000 + i + 1) * 8) x)).ev l = some (n, l)) (h2 : (fs.hd (num ((id * 1000 + i + 1) * 8) y)).ev l = some (m, l)) (he : n = m) (h0 : 0 <= n) (hm : n < aS)
  (h3 : (fs.hd ((bT d (.own ⟨(id * 1000 + i + 1) * 8, (id * 1000 + i + 1) * 8, (id * 1000 + i + 1) * 8⟩ (.l .y sz (List.replicate n.toNat (gG agg zero))))).bind fun _ => forget kl)).ev l = some ((), l1)) (hf : fs.tlK fun f => f = fs') (h : EvX id (i + 1) os fs' l1 K) :
  EvX id i (⟨d, .mks sz agg zero x y, none, kl⟩ :: os) fs l K := by
 refine zo ?_ hf h
 subst he
 match fs, h1, h2, h3 with
 | none, h1, h2, h3 =>
  simp only [Fs.hd] at h1 h2 h3 ⊢
  rw [Z3p] at h3
  simp only [aC.exec, aC.go, exec, Bind.bind, Z3p, h1, h2, h0, hm, and_self, if_true]
  exact h3
 | some ((r, w) :: fs), h1, h2, h3 =>
  simp only [Fs.hd] at h1 h2 h3 ⊢
  rw [Zls, Z3p] at h3
  simp only [aC.exec, aC.go, exec, Bind.bind, Zls, Z3p, h1, h2, h0, hm, and_self, if_true]
  exact h3
 | some [], h1, _, _ => cases h1
theorem zl {x : Opd} {rr : Nat} {k : Wr.K} {p : List Nat} {off : Nat} {c : RC} (node : T) {t : T} (h1 : (fs.hd (addr ((id * 1000 + i + 1) * 8) x)).ev l = some (.ptr rr k p off, l)) (h2 : (fs.hd (fH rr k p)).ev l = some (c, l)) (hn : c.t.nav p = some node) (ht : node.cells[off]? = some t)
  (h3 : (fs.hd ((bT d (seen rr c.k p off node t).av).bind fun _ => forget kl)).ev l = some ((), l1)) (hf : fs.tlK fun f => f = fs') (h : EvX id (i + 1) os fs' l1 K) : EvX id i (⟨d, .ld none x, none, kl⟩ :: os) fs l K := by
 refine zo ?_ hf h
 match fs, h1, h2, h3 with
 | none, h1, h2, h3 =>
  simp only [Fs.hd] at h1 h2 h3 ⊢
  rw [Z3p] at h3
  simp only [aC.exec, aC.go, exec, load, Bind.bind, Z3p, h1, h2, hn, ht, Pure.pure, Z3y]
  exact h3
 | some ((r, w) :: fs), h1, h2, h3 =>
  simp only [Fs.hd] at h1 h2 h3 ⊢
  rw [Zls, Z3p] at h3
  simp only [aC.exec, aC.go, exec, load, Bind.bind, Zls, Z3p, h1, h2, hn, ht, Pure.pure, Zlu, Z3y]
  exact h3
 | some [], h1, _, _ => cases h1
theorem zL {n : Nat} {x : Opd} {rr : Nat} {k : Wr.K} {p : List Nat} {off : Nat} {c : RC} (cs : List T) (h1 : (fs.hd (addr ((id * 1000 + i + 1) * 8) x)).ev l = some (.ptr rr k p off, l)) (h2 : (fs.hd (fH rr k p)).ev l = some (c, l)) (hn : c.t.nav p = some (.a cs)) (hl : Nat.ble (off + n) cs.length = true)
  (h3 : (fs.hd ((bT d (.st (seenCells rr c.k p (.a cs) off (sub cs off n)))).bind fun _ => forget kl)).ev l = some ((), l1)) (hf : fs.tlK fun f => f = fs') (h : EvX id (i + 1) os fs' l1 K) : EvX id i (⟨d, .ld (some n) x, none, kl⟩ :: os) fs l K := by
 refine zo ?_ hf h
 match fs, h1, h2, h3 with
 | none, h1, h2, h3 =>
  simp only [Fs.hd] at h1 h2 h3 ⊢
  rw [Z3p] at h3
  simp only [aC.exec, aC.go, exec, load, Bind.bind, Z3p, h1, h2, hn, if_pos (Y76 hl), Pure.pure, Z3y]
  exact h3
 | some ((r, w) :: fs), h1, h2, h3 =>
  simp only [Fs.hd] at h1 h2 h3 ⊢
  rw [Zls, Z3p] at h3
  simp only [aC.exec, aC.go, exec, load, Bind.bind, Zls, Z3p, h1, h2, hn, if_pos (Y76 hl), Pure.pure, Zlu, Z3y]
  exact h3
 | some [], h1, _, _ => cases h1
theorem zS {n : Nat} {tk : Bool} {x v : Opd} {rr : Nat} {k k' : Wr.K} {p : List Nat} {off : Nat} {c : RC} (node t : T) {new : List T}
  (h0 : (fs.hd (dz ((id * 1000 + i + 1) * 8) tk v)).ev l = some (new, l1)) (hl : new.length = n) (h1 : (fs.hd (addr ((id * 1000 + i + 1) * 8) x)).ev l1 = some (.ptr rr k p off, l1)) (h2 : (fs.hd (fH rr k p)).ev l1 = some (c, l1)) (hn : c.t.nav p = some node) (hm : c.t.cb p = true) (hok : oc c p off node new = true)
  (ht : c.t.put p (node.bO (bC node.cells off new)) = t) (hk : (bif (sub node.cells off new.length).all T.scalar && new.all T.scalar then c.k else bump ((id * 1000 + i + 1) * 8) c p) = k') (h3 : (fs.hd ((Pg.wr rr ({ c with k := k', t := t } : RC).av).bind fun _ => forget kl)).ev l1 = some ((), l2)) (hf : fs.tlK fun f => f = fs')
  (h : EvX id (i + 1) os fs' l2 K) : EvX id i (⟨none, .sto n tk x v, none, kl⟩ :: os) fs l K := by
 refine zo ?_ hf h
 match fs, h0, h1, h2, h3 with
 | none, h0, h1, h2, h3 =>
  simp only [Fs.hd] at h0 h1 h2 h3 ⊢
  rw [Z3p] at h3
  simp only [aC.exec, aC.go, exec, store, Bind.bind, Z3p, h0, hl, if_true, h1, h2, Zde hn hm hok hk ht]
  exact h3
 | some ((r, w) :: fs), h0, h1, h2, h3 =>
  simp only [Fs.hd] at h0 h1 h2 h3 ⊢
  rw [Zls, Z3p] at h3
  simp only [aC.exec, aC.go, exec, store, Bind.bind, Zls, Z3p, h0, hl, if_true, h1, h2, Zde hn hm hok hk ht]
  exact h3
 | some [], h0, _, _, _ => cases h0
theorem za {sz : Nat} {agg : Bool} {zero : List T} {tk : Bool} {dd : Nat} {x y : Opd} {es es2 : List T} {o2 : Ob} {v : AV} (h1 : (fs.hd (c6 ((id * 1000 + i + 1) * 8) x)).ev l = some (.l .y sz es, l1))
  (h2 : (fs.hd (raw ((id * 1000 + i + 1) * 8) y)).ev l1 = some (v, l1)) (h3 : (fs.hd (fx v)).ev l1 = some (.l o2 sz es2, l1)) (hlen : es.length + es2.length < aS) (hfl : eE es2 = true) (h4 : (fs.hd ((setS dd (.own ⟨(id * 1000 + i + 1) * 8, (id * 1000 + i + 1) * 8, (id * 1000 + i + 1) * 8⟩ (.l .y sz (es ++ es2)))).bind fun _ => forget kl)).ev l1 = some ((), l2))
  (hf : fs.tlK fun f => f = fs') (h : EvX id (i + 1) os fs' l2 K) : EvX id i (⟨some dd, .app sz agg zero tk x y, none, kl⟩ :: os) fs l K := by
 refine zo ?_ hf h
 match fs, h1, h2, h3, h4 with
 | none, h1, h2, h3, h4 =>
  simp only [Fs.hd] at h1 h2 h3 h4 ⊢
  rw [Z3p] at h4
  simp only [aC.exec, aC.go, exec, append, Bind.bind, Z3p, h1, h2, h3, hlen, and_self, if_true, hfl]
  exact h4
 | some ((r, w) :: fs), h1, h2, h3, h4 =>
  simp only [Fs.hd] at h1 h2 h3 h4 ⊢
  rw [Zls, Z3p] at h4
  simp only [aC.exec, aC.go, exec, append, Bind.bind, Zls, Z3p, h1, h2, h3, hlen, and_self, if_true, hfl]
  exact h4
 | some [], h1, _, _, _ => cases h1
theorem zA {sz : Nat} {agg : Bool} {zero : List T} {tk : Bool} {dd : Nat} {x y : Opd} {es es2 es3 : List T} {o2 o3 : Ob} {v : AV}
  (h1 : (fs.hd (c6 ((id * 1000 + i + 1) * 8) x)).ev l = some (.l .y sz es, l1)) (h2 : (fs.hd (raw ((id * 1000 + i + 1) * 8) y)).ev l1 = some (v, l1)) (h3 : (fs.hd (fx v)).ev l1 = some (.l o2 sz es2, l1)) (h5 : (fs.hd (dz ((id * 1000 + i + 1) * 8) tk y)).ev l1 = some ([.l o3 sz es3], l3)) (hlen : es.length + es2.length < aS) (hfl : eE es2 = false) (iL : es.length + es3.length < aS)
  (h4 : (fs.hd ((setS dd (.own ⟨(id * 1000 + i + 1) * 8, (id * 1000 + i + 1) * 8, (id * 1000 + i + 1) * 8⟩ (.l .y sz (es ++ es3)))).bind fun _ => forget kl)).ev l3 = some ((), l2)) (hf : fs.tlK fun f => f = fs') (h : EvX id (i + 1) os fs' l2 K) :
  EvX id i (⟨some dd, .app sz agg zero tk x y, none, kl⟩ :: os) fs l K := by
 refine zo ?_ hf h
 match fs, h1, h2, h3, h4, h5 with
 | none, h1, h2, h3, h4, h5 =>
  simp only [Fs.hd] at h1 h2 h3 h4 h5 ⊢
  rw [Z3p] at h4
  simp only [aC.exec, aC.go, exec, append, Bind.bind, Z3p, h1, h2, h3, hlen, and_self, if_true, hfl, Y9, if_false, h5, iL]
  exact h4
 | some ((r, w) :: fs), h1, h2, h3, h4, h5 =>
  simp only [Fs.hd] at h1 h2 h3 h4 h5 ⊢
  rw [Zls, Z3p] at h4
  simp only [aC.exec, aC.go, exec, append, Bind.bind, Zls, Z3p, h1, h2, h3, hlen, and_self, if_true, hfl, Y9, if_false, h5, iL]
  exact h4
 | some [], h1, _, _, _, _ => cases h1
theorem Zko {e : Nat} {x : Opd} {r : Nat} {k : Wr.K} {p : List Nat} {z n sz : Nat} {c : RC} {es : List T} (h1 : (fs.hd (raw e x)).ev l = some (.w r k p z 0 n, l)) (h2 : (fs.hd (dZ r k p)).ev l = some (c, l)) (hn : c.t.nav p = some (.l .y sz es)) (hl : n = es.length)
  (hw : (fs.hd (Pg.wr r ({ c with t := c.t.put p .u } : RC).av)).ev l = some ((), l1)) : (fs.hd (c6 e x)).ev l = some (.l .y sz es, l1) := by
 have gN : sub es 0 es.length = es := by simp [sub]
 subst hl
 match fs, h1, h2, hw with
 | none, h1, h2, hw =>
  simp only [Fs.hd] at h1 h2 hw ⊢
  simp only [c6, dL, Bind.bind, Z3p, h1, h2, hn, and_self, if_true, hw, gN]
  rfl
 | some ((r, w) :: fs), h1, h2, hw =>
  simp only [Fs.hd] at h1 h2 hw ⊢
  simp only [c6, dL, Bind.bind, Zls, Z3p, h1, h2, hn, and_self, if_true, hw, gN]
  rfl
 | some [], h1, _, _ => cases h1
theorem zv {sz : Nat} {agg : Bool} {zero : List T} {tk : Bool} {dd : Nat} {x y : Opd} {r : Nat} {k : Wr.K} {p : List Nat} {z n : Nat} {c : RC} {es es2 : List T} {o2 : Ob} {v : AV} (g1 : (fs.hd (raw ((id * 1000 + i + 1) * 8) x)).ev l = some (.w r k p z 0 n, l)) (g2 : (fs.hd (dZ r k p)).ev l = some (c, l))
  (gn : c.t.nav p = some (.l .y sz es)) (gl : n = es.length) (gw : (fs.hd (Pg.wr r ({ c with t := c.t.put p .u } : RC).av)).ev l = some ((), l1))
  (h2 : (fs.hd (raw ((id * 1000 + i + 1) * 8) y)).ev l1 = some (v, l1)) (h3 : (fs.hd (fx v)).ev l1 = some (.l o2 sz es2, l1)) (hlen : es.length + es2.length < aS) (hfl : eE es2 = true) (h4 : (fs.hd ((setS dd (.own ⟨(id * 1000 + i + 1) * 8, (id * 1000 + i + 1) * 8, (id * 1000 + i + 1) * 8⟩ (.l .y sz (es ++ es2)))).bind fun _ => forget kl)).ev l1 = some ((), l2))
  (hf : fs.tlK fun f => f = fs') (h : EvX id (i + 1) os fs' l2 K) : EvX id i (⟨some dd, .app sz agg zero tk x y, none, kl⟩ :: os) fs l K := za (Zko g1 g2 gn gl gw) h2 h3 hlen hfl h4 hf h
theorem zV {sz : Nat} {agg : Bool} {zero : List T} {tk : Bool} {dd : Nat} {x y : Opd} {r : Nat} {k : Wr.K} {p : List Nat} {z n : Nat} {c : RC} {es es2 es3 : List T} {o2 o3 : Ob} {v : AV} (g1 : (fs.hd (raw ((id * 1000 + i + 1) * 8) x)).ev l = some (.w r k p z 0 n, l)) (g2 : (fs.hd (dZ r k p)).ev l = some (c, l))
  (gn : c.t.nav p = some (.l .y sz es)) (gl : n = es.length) (gw : (fs.hd (Pg.wr r ({ c with t := c.t.put p .u } : RC).av)).ev l = some ((), l1))
  (h2 : (fs.hd (raw ((id * 1000 + i + 1) * 8) y)).ev l1 = some (v, l1)) (h3 : (fs.hd (fx v)).ev l1 = some (.l o2 sz es2, l1)) (h5 : (fs.hd (dz ((id * 1000 + i + 1) * 8) tk y)).ev l1 = some ([.l o3 sz es3], l3)) (hlen : es.length + es2.length < aS) (hfl : eE es2 = false) (iL : es.length + es3.length < aS)
  (h4 : (fs.hd ((setS dd (.own ⟨(id * 1000 + i + 1) * 8, (id * 1000 + i + 1) * 8, (id * 1000 + i + 1) * 8⟩ (.l .y sz (es ++ es3)))).bind fun _ => forget kl)).ev l3 = some ((), l2)) (hf : fs.tlK fun f => f = fs') (h : EvX id (i + 1) os fs' l2 K) :
  EvX id i (⟨some dd, .app sz agg zero tk x y, none, kl⟩ :: os) fs l K := zA (Zko g1 g2 gn gl gw) h2 h3 h5 hlen hfl iL h4 hf h
def Fs.drop (fs : Fs) : Nat -> Fs
 | 0 => fs
 | n + 1 => fs.tl.drop n
def Fs.lx (fs : Fs) (n : Nat) (k : Fs -> Prop) : Prop := match n with
 | 0 => k fs
 | n + 1 => fs.tlK fun f => f.lx n k
theorem Z3e : ∀ (n : Nat) (fs : Fs) (k : Fs -> Prop), fs.lx n k = k (fs.drop n)
 | 0, _, _ => rfl
 | n + 1, fs, k => by rw [Fs.lx, Zku, Z3e n]; rfl
theorem Z58 : ∀ (a c : List aC) (i : Nat) (fs : Fs) (l : LS), (gb id i a fs).ev l ≠ none -> (gb id i (a ++ c) fs).ev l = match (gb id i a fs).ev l with | some (_, l') => (gb id (i + a.length) c (fs.drop a.length)).ev l' | none => none
 | [], c, i, fs, l, _ => by rw [Z5a]; rfl
 | o :: a, c, i, fs, l, h => by
  have hf : fs = none \/ ∃ x l, fs = some (x :: l) := by
   match fs, h with
   | none, _ => exact .inl rfl
   | some (x :: l), _ => exact .inr ⟨x, l, rfl⟩
   | some [], h => exact absurd rfl h
  rw [Z59 hf, Z3p] at h ⊢
  show (gb id i (o :: (a ++ c)) fs).ev l = _
  rw [Z59 hf, Z3p]
  cases h1 : (fs.hd (o.exec ((id * 1000 + i + 1) * 8))).ev l with
  | none => rfl
  | some x =>
   rw [h1] at h
   simp only at h ⊢
   rw [Z58 a c (i + 1) fs.tl x.2 h, show i + 1 + a.length = i + (a.length + 1) by omega]
   rfl
theorem Z46 {n : Nat} {ops : List aC} (h : EvX id i (ops.take n) fs l fun l' => l' = l1) (hn : n <= ops.length) (hf : fs.lx n fun f => f = fs') (h2 : EvX id (i + n) (ops.drop n) fs' l1 K) : EvX id i ops fs l K := by
 obtain ⟨l', h3, h4⟩ := h.out
 obtain ⟨l'', h5, h6⟩ := h2.out
 subst h4
 rw [Z3e] at hf
 refine ⟨⟨l'', ?_, h6⟩⟩
 have := Z58 (id := id) (ops.take n) (ops.drop n) i fs l (by rw [h3]; simp)
 rw [Y71, h3] at this
 rw [this, Y48, Nat.min_eq_left hn, hf]
 exact h5
theorem ze {ops : List aC} {n dd : Nat} {v : Bool} {ln : LS} (hg : l.get s = .x (.b b)) (hu : qY s (⟨d, op, some (s, true), kl⟩ :: ops) fun m => m = n) (hd : qZ (List.take n (⟨d, op, some (s, true), kl⟩ :: ops)) fun m => m = dd) (hn : Nat.ble n (ops.length + 1) = true) (hf : fs.lx n fun f => f = fs')
  (hy : b = true -> EvX id i (List.take n (⟨d, op, some (s, true), kl⟩ :: ops)) fs l fun l' => l' = l1) (hno : b = (!true) -> EvX id i (List.take n (⟨d, op, some (s, true), kl⟩ :: ops)) fs l fun l' => l' = ln) (hv : l1.get dd = .x (.b v)) (hvn : ln.get dd = .x (.b false))
  (he : l1.j7 dd (.x (.b (b && v))) fun x => x = l2) (hen : ln.j7 dd (.x (.b (b && v))) fun x => x = l2) (h : EvX id (i + n) (List.drop n (⟨d, op, some (s, true), kl⟩ :: ops)) fs' l2 K) : EvX id i (⟨d, op, some (s, true), kl⟩ :: ops) fs l K := by
 have hn' : n <= (⟨d, op, some (s, true), kl⟩ :: ops).length := by simpa using Y76 hn
 rw [Zik] at he hen
 cases hb : b with
 | true =>
  have : l2 = l1 := by
   rw [<- he, hb, Y15]; exact Zil _ _ _ hv
  exact Z46 (hy hb) hn' hf (this ▸ h)
 | false =>
  have : l2 = ln := by
   rw [<- hen, hb, Y8]; exact Zil _ _ _ hvn
  exact Z46 (hno hb) hn' hf (this ▸ h)
theorem zf {ops : List aC} {n dd : Nat} {v : Bool} {ln : LS} (hg : l.get s = .x (.b b)) (hu : qY s (⟨d, op, some (s, false), kl⟩ :: ops) fun m => m = n) (hd : qZ (List.take n (⟨d, op, some (s, false), kl⟩ :: ops)) fun m => m = dd) (hn : Nat.ble n (ops.length + 1) = true) (hf : fs.lx n fun f => f = fs')
  (hy : b = false -> EvX id i (List.take n (⟨d, op, some (s, false), kl⟩ :: ops)) fs l fun l' => l' = l1) (hno : b = (!false) -> EvX id i (List.take n (⟨d, op, some (s, false), kl⟩ :: ops)) fs l fun l' => l' = ln) (hv : l1.get dd = .x (.b v)) (hvn : ln.get dd = .x (.b true))
  (he : l1.j7 dd (.x (.b (b || v))) fun x => x = l2) (hen : ln.j7 dd (.x (.b (b || v))) fun x => x = l2) (h : EvX id (i + n) (List.drop n (⟨d, op, some (s, false), kl⟩ :: ops)) fs' l2 K) : EvX id i (⟨d, op, some (s, false), kl⟩ :: ops) fs l K := by
 have hn' : n <= (⟨d, op, some (s, false), kl⟩ :: ops).length := by simpa using Y76 hn
 rw [Zik] at he hen
 cases hb : b with
 | false =>
  have : l2 = l1 := by
   rw [<- he, hb, Bool.false_or]; exact Zil _ _ _ hv
  exact Z46 (hy hb) hn' hf (this ▸ h)
 | true =>
  have : l2 = ln := by
   rw [<- hen, hb, Bool.true_or]; exact Zil _ _ _ hvn
  exact Z46 (hno hb) hn' hf (this ▸ h)
end
section
variable {l : LS} {us : List Nat} {K : Ex -> LS -> List Nat -> Prop}
def od : bR -> LS -> List Nat -> (Ex -> LS -> List Nat -> Prop) -> Prop
 | .sk, l, us, K => K .nx l us
 | .ret, l, us, K => K .ret l us
 | .exit id, l, us, K => K (.exit id) l us
 | .seq a b, l, us, K => Ev a l us (CE b K)
 | .blk id c, l, us, K => Ev c l us (Ay id K)
 | .reg id fs ops, l, us, K => bif us.contains id then False else EvX id 0 ops fs l fun l' => K .nx l' (id :: us)
 | _, _, _, _ => False
def isStep : bR -> Bool
 | .cond _ _ _ => false
 | .loop _ _ => false
 | .bad => false
 | _ => true
theorem zcc : ∀ {c : bR} {l : LS} {us : List Nat} {K : Ex -> LS -> List Nat -> Prop}, od c l us K -> Ev c l us K
 | .sk, _, _, _, h => Z42 h
 | .ret, _, _, _, h => Z3z h
 | .exit _, _, _, _, h => Z3u h
 | .seq _ _, _, _, _, h => Z41 h
 | .blk _ _, _, _, _, h => Z3q h
 | .reg id fs ops, l, us, K, h => by
  simp only [od] at h
  cases hu : us.contains id with
  | true => rw [hu] at h; exact h.elim
  | false =>
   rw [hu] at h
   obtain ⟨l', h1, h2⟩ := h.out
   refine ⟨.nx, l', id :: us, ?_, h2⟩
   simp only [den, hu, Y9, if_false]
   have : (yX id fs ops).run l.of = some ((), l'.of) := by
    cases fs <;> exact Z40 _ h1
   rw [this]
theorem zc {c : bR} (hs : isStep c = true) (h : od c l us K) : Ev c l us K := zcc h
theorem zt {c : Opd} {a b : bR} {t : Bool} {l l1 : LS} {us : List Nat} {K : Ex -> LS -> List Nat -> Prop} (h : (raw 0 c).ev l = some (.x (.b t), l1)) (h1 : t = true -> Ev a l us K) (h2 : t = false -> Ev b l us K) : Ev (.cond c a b) l us K := Z3r h h1 h2
theorem zt1 {c : Opd} {a b : bR} {t : Bool} {l l1 : LS} {us : List Nat} {K : Ex -> LS -> List Nat -> Prop} (h : (raw 0 c).ev l = some (.x (.b t), l1)) (ht : t = true) (h1 : Ev a l us K) : Ev (.cond c a b) l us K := Z3t h ht h1
theorem zt0 {c : Opd} {a b : bR} {t : Bool} {l l1 : LS} {us : List Nat} {K : Ex -> LS -> List Nat -> Prop} (h : (raw 0 c).ev l = some (.x (.b t), l1)) (ht : t = false) (h1 : Ev b l us K) : Ev (.cond c a b) l us K := Z3s h ht h1
theorem bq {bd : List Nat} {c : bR} {l : LS} {us : List Nat} {K : Ex -> LS -> List Nat -> Prop} {α β : Type} (f : α -> T) (xs : List α) (S : Nat -> β -> LS) (Inv : Nat -> β -> Prop) (x0 : β) (h0 : Inv 0 x0) (hS : (l.cL bd fun x => x) = S 0 x0)
  (step : ∀ i x y, xs[i]? = some y -> i < xs.length -> decide ((i : Int) < (xs.map f).length) = true -> decide ((i : Int) < xs.length) = true -> Inv i x ->
   (∀ x', Inv (i + 1) x' -> ∀ l' us', (l'.cL bd fun x => x) = S (i + 1) x' -> fP bd c K .nx l' us') -> Ev c (S i x) [] (fP bd c K))
  (last : ∀ x, decide ((xs.length : Int) < (xs.map f).length) = false -> decide ((xs.length : Int) < xs.length) = false -> Inv xs.length x -> Ev c (S xs.length x) [] (fP bd c K)) : Ev (.loop bd c) l us K := by
 refine Z3v S Inv xs.length x0 h0 hS fun i x hi hx ih => ?_
 rcases Y79 i xs.length with hlt | hge
 ·exact step i x xs[i] (Y34 hlt) hlt (by simpa using hlt) (by simpa using hlt) hx fun x' hx' => ih x' hlt hx'
 ·have : i = xs.length := by omega
  subst this
  exact last x (by simp) (by simp) hx
end
end Go.Wr
namespace Go.Wr
namespace C
abbrev o (d : Nat) (p : MOp) (k : List Nat) : aC := ⟨some d, p, none, k⟩
abbrev n (p : MOp) (k : List Nat) : aC := ⟨none, p, none, k⟩
abbrev g (s : Nat) (x : aC) : aC := ⟨x.d, x.op, some (s, true), x.kl⟩
abbrev h (s : Nat) (x : aC) : aC := ⟨x.d, x.op, some (s, false), x.kl⟩
abbrev v (d x : Nat) (k : List Nat) : aC := ⟨some d, .mv (.t x), none, k⟩
abbrev w (d x : Nat) (k : List Nat) : aC := ⟨some d, .asg (.t x), none, k⟩
abbrev j (d : Nat) (x : T) (k : List Nat) : aC := ⟨some d, .asg (.k x), none, k⟩
abbrev l (d x : Nat) (k : List Nat) : aC := ⟨some d, .ld none (.t x), none, k⟩
abbrev L (d n x : Nat) (k : List Nat) : aC := ⟨some d, .ld (some n) (.t x), none, k⟩
abbrev f (d x m : Nat) (k : List Nat) : aC := ⟨some d, .fa (.t x) m, none, k⟩
abbrev i (d m x y : Nat) (k : List Nat) : aC := ⟨some d, .ia m (.t x) (.t y), none, k⟩
abbrev b (d : Nat) (p : BinOp) (x y : Nat) (k : List Nat) : aC := ⟨some d, .bin p .o (.t x) (.t y), none, k⟩
abbrev B (d : Nat) (p : BinOp) (x : Nat) (y : Int) (k : List Nat) : aC := ⟨some d, .bin p .o (.t x) (.k (.i .i64 y)), none, k⟩
abbrev u (d x : Nat) (k : List Nat) : aC := ⟨some d, .un .not (.t x), none, k⟩
abbrev m (d x : Nat) (k : List Nat) : aC := ⟨some d, .len false (.t x), none, k⟩
abbrev c (d : Nat) (g : Nat) (F : Fun) (a : List (Pass × Opd)) (k : List Nat) : aC := ⟨some d, .call g F a, none, k⟩
abbrev S (x : Nat) : Pass × Opd := (.S, .t x)
abbrev s (z a x : Nat) (k : List Nat) : aC := ⟨none, .sto z true (.t a) (.t x), none, k⟩
abbrev Y (x : Int) : T := .i .i64 x
abbrev q : List bR -> bR
 | [] => .sk
 | [a] => a
 | a :: l => .seq a (q l)
abbrev r (i : Nat) (l : List aC) : bR := .reg i none l
abbrev R (i : Nat) (fs : List (List Nat × List Nat)) (l : List aC) : bR := .reg i (some fs) l
abbrev t (x : Nat) (a b : bR) : bR := .cond (.t x) a b
abbrev k (i : Nat) (a : bR) : bR := .blk i a
abbrev p (l : List Nat) (a : bR) : bR := .loop l a
abbrev e (i : Nat) : bR := .exit i
abbrev x : bR := .ret
abbrev z : bR := .sk
abbrev o' (d : Nat) (p : MOp) : aC := ⟨some d, p, none, []⟩
abbrev n' (p : MOp) : aC := ⟨none, p, none, []⟩
abbrev v' (d x : Nat) : aC := ⟨some d, .mv (.t x), none, []⟩
abbrev vv (d x : Nat) : aC := ⟨some d, .mv (.t x), none, [x]⟩
abbrev w' (d x : Nat) : aC := ⟨some d, .asg (.t x), none, []⟩
abbrev ww (d x : Nat) : aC := ⟨some d, .asg (.t x), none, [x]⟩
abbrev j' (d : Nat) (x : T) : aC := ⟨some d, .asg (.k x), none, []⟩
abbrev l' (d x : Nat) : aC := ⟨some d, .ld none (.t x), none, []⟩
abbrev ll (d x : Nat) : aC := ⟨some d, .ld none (.t x), none, [x]⟩
abbrev L' (d n x : Nat) : aC := ⟨some d, .ld (some n) (.t x), none, []⟩
abbrev LL (d n x : Nat) : aC := ⟨some d, .ld (some n) (.t x), none, [x]⟩
abbrev f' (d x m : Nat) : aC := ⟨some d, .fa (.t x) m, none, []⟩
abbrev ff (d x m : Nat) : aC := ⟨some d, .fa (.t x) m, none, [x]⟩
abbrev i' (d m x y : Nat) : aC := ⟨some d, .ia m (.t x) (.t y), none, []⟩
abbrev ii (d m x y : Nat) : aC := ⟨some d, .ia m (.t x) (.t y), none, [x, y]⟩
abbrev b' (d : Nat) (p : BinOp) (x y : Nat) : aC := ⟨some d, .bin p .o (.t x) (.t y), none, []⟩
abbrev bb (d : Nat) (p : BinOp) (x y : Nat) : aC := ⟨some d, .bin p .o (.t x) (.t y), none, [x, y]⟩
abbrev BB (d : Nat) (p : BinOp) (x : Nat) (y : Int) : aC := ⟨some d, .bin p .o (.t x) (.k (.i .i64 y)), none, [x]⟩
abbrev u' (d x : Nat) : aC := ⟨some d, .un .not (.t x), none, []⟩
abbrev uu (d x : Nat) : aC := ⟨some d, .un .not (.t x), none, [x]⟩
abbrev m' (d x : Nat) : aC := ⟨some d, .len false (.t x), none, []⟩
abbrev mm (d x : Nat) : aC := ⟨some d, .len false (.t x), none, [x]⟩
abbrev d (d : Nat) (g : Nat) (F : Fun) (a : List Nat) (k : List Nat) : aC := ⟨some d, .call g F (a.map S), none, k⟩
abbrev d' (d : Nat) (g : Nat) (F : Fun) (a : List Nat) : aC := ⟨some d, .call g F (a.map S), none, []⟩
abbrev dd (d : Nat) (g : Nat) (F : Fun) (a : List Nat) : aC := ⟨some d, .call g F (a.map S), none, a⟩
abbrev s' (z a x : Nat) : aC := ⟨none, .sto z true (.t a) (.t x), none, []⟩
abbrev ss (z a x : Nat) : aC := ⟨none, .sto z true (.t a) (.t x), none, [x]⟩
def tm1 : Opd -> List Nat
 | .t n => [n]
 | .k _ => []
def tms : List (Nat × Nat × Opd) -> List Nat
 | [] => []
 | (_, _, x) :: l => tm1 x ++ tms l
def tma : List (Pass × Opd) -> List Nat
 | [] => []
 | (_, x) :: l => tm1 x ++ tma l
def tmo : List Opd -> List Nat
 | [] => []
 | x :: l => tm1 x ++ tmo l
def tmq : Option Opd -> List Nat
 | some x => tm1 x
 | none => []
def tm : MOp -> List Nat
 | .mv x => tm1 x
 | .asg x => tm1 x
 | .pick c a b => tm1 c ++ tm1 a ++ tm1 b
 | .box _ x => tm1 x
 | .fa x _ => tm1 x
 | .ia _ x y => tm1 x ++ tm1 y
 | .ixa _ _ x y => tm1 x ++ tm1 y
 | .ld _ x => tm1 x
 | .ldo x => tm1 x
 | .sto _ _ x v => tm1 x ++ tm1 v
 | .bin _ _ x y => tm1 x ++ tm1 y
 | .un _ x => tm1 x
 | .cvt _ x => tm1 x
 | .Ck x => tm1 x
 | .nW x => tm1 x
 | .mks _ _ _ x y => tm1 x ++ tm1 y
 | .slc _ _ x lo hi => tm1 x ++ tmq lo ++ tmq hi
 | .bld _ _ l => tms l
 | .bsl _ _ _ _ _ l => tms l
 | .ext x _ => tm1 x
 | .len _ x => tm1 x
 | .app _ _ _ _ x y => tm1 x ++ tm1 y
 | .mn l => tmo l
 | .mx l => tmo l
 | .call _ _ l => tma l
 | .dyn x _ l => tm1 x ++ tma l
 | .fn _ l => tmo l
 | .qq x => tm1 x
 | .bU _ _ x l => tm1 x ++ tma l
 | .kE x => tm1 x
 | .gv (.ld _ x) => tm1 x
 | .gv (.sto _ _ x v) => tm1 x ++ tm1 v
 | .gv (.app _ _ _ _ x y) => tm1 x ++ tm1 y
 | _ => []
def ftR : List Nat -> List Nat
 | [] => []
 | x :: l => bif Nat.ble 100000000 x then ftR l else x :: ftR l
def ftW : List Nat -> List Nat
 | [] => []
 | x :: l => bif Nat.ble 100000000 x then (x - 100000000) :: ftW l else ftW l
def ft (o : aC) (e : List Nat) : List Nat × List Nat :=
 let w := (match o.d with | some d => [d] | none => []) ++ o.kl ++ ftW e
 (tm o.op ++ (match o.guard with | some (s, _) => [s] | none => []) ++ w ++ ftR e, w)
def fts : List aC -> List (List Nat) -> List (List Nat × List Nat)
 | o :: os, e :: es => ft o e :: fts os es
 | _, _ => []
abbrev D (i : Nat) (es : List (List Nat)) (l : List aC) : bR := .reg i (some (fts l es)) l
end C
end Go.Wr
namespace Go.Wr
section
variable {id i : Nat} {os : List aC} {fs fs' : Fs} {l l1 l2 : LS} {K : LS -> Prop} {kl : List Nat}
theorem zan {sz : Nat} {agg : Bool} {zero : List T} {tk : Bool} {dd : Nat} {x y : Opd} {es es2 : List T} {o2 o3 : Ob} {v : AV}
  (h1 : (fs.hd (c6 ((id * 1000 + i + 1) * 8) x)).ev l = some (.l .y sz es, l1)) (h2 : (fs.hd (raw ((id * 1000 + i + 1) * 8) y)).ev l1 = some (v, l1)) (h3 : (fs.hd (fx v)).ev l1 = some (.l o2 sz es2, l1)) (h5 : (fs.hd (dz ((id * 1000 + i + 1) * 8) tk y)).ev l1 = some ([.l o3 sz es2], l1)) (hlen : es.length + es2.length < aS)
  (h4 : (fs.hd ((setS dd (.own ⟨(id * 1000 + i + 1) * 8, (id * 1000 + i + 1) * 8, (id * 1000 + i + 1) * 8⟩ (.l .y sz (es ++ es2)))).bind fun _ => forget kl)).ev l1 = some ((), l2)) (hf : fs.tlK fun f => f = fs') (h : EvX id (i + 1) os fs' l2 K) :
  EvX id i (⟨some dd, .app sz agg zero tk x y, none, kl⟩ :: os) fs l K := by
 cases hfl : eE es2 with
 | true => exact za h1 h2 h3 hlen hfl h4 hf h
 | false => exact zA h1 h2 h3 h5 hlen hfl hlen h4 hf h
theorem zao {sz : Nat} {agg : Bool} {zero : List T} {tk : Bool} {dd : Nat} {x y : Opd} {es es2 es3 : List T} {o2 o3 : Ob} {v : AV} {l3 : LS}
  (h1 : (fs.hd (c6 ((id * 1000 + i + 1) * 8) x)).ev l = some (.l .y sz es, l1)) (h2 : (fs.hd (raw ((id * 1000 + i + 1) * 8) y)).ev l1 = some (v, l1)) (h3 : (fs.hd (fx v)).ev l1 = some (.l o2 sz es3, l1)) (h5 : (fs.hd (dz ((id * 1000 + i + 1) * 8) tk y)).ev l1 = some ([.l o3 sz es2], l3)) (he : es3 = es2) (hlen : es.length + es2.length < aS)
  (h4 : (fs.hd ((setS dd (.own ⟨(id * 1000 + i + 1) * 8, (id * 1000 + i + 1) * 8, (id * 1000 + i + 1) * 8⟩ (.l .y sz (es ++ es2)))).bind fun _ => forget kl)).ev l3 = some ((), l2)) (h4' : (fs.hd ((setS dd (.own ⟨(id * 1000 + i + 1) * 8, (id * 1000 + i + 1) * 8, (id * 1000 + i + 1) * 8⟩ (.l .y sz (es ++ es2)))).bind fun _ => forget kl)).ev l1 = some ((), l2)) (hf : fs.tlK fun f => f = fs') (h : EvX id (i + 1) os fs' l2 K) :
  EvX id i (⟨some dd, .app sz agg zero tk x y, none, kl⟩ :: os) fs l K := by
 subst he
 cases hfl : eE es3 with
 | true => exact za h1 h2 h3 hlen hfl h4' hf h
 | false => exact zA h1 h2 h3 h5 hlen hfl hlen h4 hf h
theorem zvn {sz : Nat} {agg : Bool} {zero : List T} {tk : Bool} {dd : Nat} {x y : Opd} {r : Nat} {k : Wr.K} {p : List Nat} {z n : Nat} {c : RC} {es es2 : List T} {o2 o3 : Ob} {v : AV} (g1 : (fs.hd (raw ((id * 1000 + i + 1) * 8) x)).ev l = some (.w r k p z 0 n, l)) (g2 : (fs.hd (dZ r k p)).ev l = some (c, l))
  (gn : c.t.nav p = some (.l .y sz es)) (gl : n = es.length) (gw : (fs.hd (Pg.wr r ({ c with t := c.t.put p .u } : RC).av)).ev l = some ((), l1))
  (h2 : (fs.hd (raw ((id * 1000 + i + 1) * 8) y)).ev l1 = some (v, l1)) (h3 : (fs.hd (fx v)).ev l1 = some (.l o2 sz es2, l1)) (h5 : (fs.hd (dz ((id * 1000 + i + 1) * 8) tk y)).ev l1 = some ([.l o3 sz es2], l1)) (hlen : es.length + es2.length < aS)
  (h4 : (fs.hd ((setS dd (.own ⟨(id * 1000 + i + 1) * 8, (id * 1000 + i + 1) * 8, (id * 1000 + i + 1) * 8⟩ (.l .y sz (es ++ es2)))).bind fun _ => forget kl)).ev l1 = some ((), l2)) (hf : fs.tlK fun f => f = fs') (h : EvX id (i + 1) os fs' l2 K) :
  EvX id i (⟨some dd, .app sz agg zero tk x y, none, kl⟩ :: os) fs l K := zan (Zko g1 g2 gn gl gw) h2 h3 h5 hlen h4 hf h
theorem Z1k {e Am m : Nat} {x : Opd} {k : IntKind} {n : Int} (h : (fs.hd (raw e x)).ev l = some (.x (.i k n), l)) (hn : n = m) : (fs.hd (gF e Am (some x))).ev l = some (m, l) := by
 subst hn
 match fs, h with
 | none, h =>
  simp only [Fs.hd] at h ⊢
  simp only [gF, Bind.bind, Z3p, h, Y16, if_true]
  rfl
 | some ((r, w) :: fs), h =>
  simp only [Fs.hd] at h ⊢
  simp only [gF, Bind.bind, Zls, Z3p, h, Y16, if_true]
  rfl
 | some [], h => cases h
theorem zu {sz : Nat} {tk : Bool} {d : Option Nat} {x : Opd} {lo hi : Option Opd} {es es2 : List T} {m n : Nat} (h1 : (fs.hd (look ((id * 1000 + i + 1) * 8) x)).ev l = some (.x (.l .n sz es), l)) (h2 : (fs.hd (gF ((id * 1000 + i + 1) * 8) es.length hi)).ev l = some (n, l)) (h3 : (fs.hd (gF ((id * 1000 + i + 1) * 8) 0 lo)).ev l = some (m, l))
  (h4 : m <= n /\ n <= es.length) (hs : Nat.ble 1 sz = true) (he : sub es m (n - m) = es2) (h5 : (fs.hd ((bT d (.x (.l .n sz es2))).bind fun _ => forget kl)).ev l = some ((), l1)) (hf : fs.tlK fun f => f = fs') (h : EvX id (i + 1) os fs' l1 K) : EvX id i (⟨d, .slc sz tk x lo hi, none, kl⟩ :: os) fs l K := by
 refine zo ?_ hf h
 have hs' : 0 < sz := Y76 hs
 subst he
 match fs, h1, h2, h3, h5 with
 | none, h1, h2, h3, h5 =>
  simp only [Fs.hd] at h1 h2 h3 h5 ⊢
  rw [Z3p] at h5
  simp only [aC.exec, aC.go, exec, slice, Bind.bind, Z3p, h1, h2, h3, h4, hs', and_self, if_true, Pure.pure, Z3y]
  exact h5
 | some ((r, w) :: fs), h1, h2, h3, h5 =>
  simp only [Fs.hd] at h1 h2 h3 h5 ⊢
  rw [Zls, Z3p] at h5
  simp only [aC.exec, aC.go, exec, slice, Bind.bind, Zls, Z3p, h1, h2, h3, h4, hs', and_self, if_true, Pure.pure, Zlu, Z3y]
  exact h5
 | some [], h1, _, _, _ => cases h1
theorem Zk5 {α : Type} {f : α -> T} {l : List α} {i : Nat} : sub (l.map f) 0 (i - 0) = (l.take i).map f := by simp [sub, List.map_take]
theorem zkM (g : Nat) {F : Fun} {d : Option Nat} {x y : Opd} {r z n sz : Nat} {k kk : Wr.K} {es : List T} {hb : Hand} {ags : List Arg} {q : Out} (h1 : (fs.hd (raw ((id * 1000 + i + 1) * 8) x)).ev l = some (.w r k [] z 0 n, l)) (h2 : (fs.hd (dZ r k [])).ev l = some (⟨false, kk, .l .y sz es⟩, l)) (hn : n = es.length) (hr : Nat.ble (r + 1) 1000 = true)
  (hy : (fs.hd (hand ((id * 1000 + i + 1) * 8) .S y none)).ev l = some (hb, l)) (ha : [.mu (.l .y sz es), hb.arg] = ags) (hq : F ags = some q) (h3 : db [{ arg := .mu (.l .y sz es), box := some r }, hb] q = true) (h4 : (fs.hd ((dC ((id * 1000 + i + 1) * 8) d [{ arg := .mu (.l .y sz es), box := some r }, hb] q).bind fun _ => forget kl)).ev l = some ((), l2)) (hf : fs.tlK fun f => f = fs') (hK : EvX id (i + 1) os fs' l2 K) :
  EvX id i (⟨d, .call g F [(.M, x), (.S, y)], none, kl⟩ :: os) fs l K := by
 refine zk g (l1 := l) (hs := [{ arg := .mu (.l .y sz es), box := some r }, hb]) ?_ ha hq h3 h4 hf hK
 have hr' : r < 1000 := Y76 hr
 match fs, h1, h2, hy with
 | none, h1, h2, hy =>
  simp only [Fs.hd] at h1 h2 hy ⊢
  have e1 : (hand ((id * 1000 + i + 1) * 8) .M x none).ev l = some ({ arg := .mu (.l .y sz es), box := some r }, l) := by
   simp only [hand, Bind.bind, Z3p, h1, h2, hn, hr', and_self, if_true]; rfl
  simp only [eh, gH, fI, Bind.bind, Z3p, Pure.pure, Z3y, List.head?_cons, Option.join_some, List.tail_cons, e1, hy, Y22, List.map_nil]
 | some ((r2, w) :: fs), h1, h2, hy =>
  simp only [Fs.hd] at h1 h2 hy ⊢
  have e1 : ((hand ((id * 1000 + i + 1) * 8) .M x none).within r2 w).ev l = some ({ arg := .mu (.l .y sz es), box := some r }, l) := by
   simp only [hand, Bind.bind, Zls, Z3p, h1, h2, hn, hr', and_self, if_true]; rfl
  simp only [eh, gH, fI, Bind.bind, Zls, Zlu, Z3p, Pure.pure, Z3y, List.head?_cons, Option.join_some, List.tail_cons, e1, hy, Y22, List.map_nil]
 | some [], h1, _, _ => cases h1
end
theorem Z28 {hs : List Hand} {sz : Nat} {es : List T} (ha : apart hs = true) (hc : ba es = true) : db hs ⟨[.one (.l .y sz es)], []⟩ = true := by
 simp [db, ha, RV.closed, T.closed, hc, RV.fi]
theorem Z2p {α : Type} {f : α -> T} (h : ∀ x, (f x).closed = true) (l : List α) : ba (l.map f) = true := by
 induction l with
 | nil => rfl
 | cons x l ih => simp [ba, h x, ih]
end Go.Wr
namespace Go.Wr
end Go.Wr

