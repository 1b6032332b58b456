/-
  What is proved: lemmas on the way to the laws of this seat. No condition.
-/
import Derived.Test.YtjnfhlmfdchepaaGreatRe
set_option linter.unusedVariables false
set_option linter.unusedSimpArgs false
namespace Go.Wr
abbrev Fs := Option (List (List Nat × List Nat))
def Fs.hd (fs : Fs) {α : Type} (p : Pg α) : Pg α := match fs with
 | none => p
 | some ((r, w) :: _) => p.within r w
 | some [] => .fail
def Fs.tl (fs : Fs) : Fs := match fs with
 | some (_ :: l) => some l
 | _ => none
def Fs.tlK (fs : Fs) (k : Fs -> Prop) : Prop := match fs with
 | some (_ :: l) => k (some l)
 | _ => k none
theorem tlK_eq (fs : Fs) (k : Fs -> Prop) : fs.tlK k = k fs.tl := by
 match fs with
 | none => rfl
 | some [] => rfl
 | some (_ :: _) => rfl
def execsX (id : Nat) (i : Nat) (os : List MOper) (fs : Fs) : Pg Unit := match fs with
 | none => execs id i os
 | some l => execsD id i os l
structure EvX (id i : Nat) (os : List MOper) (fs : Fs) (l : LS) (K : LS -> Prop) : Prop where
 out : ∃ l', (execsX id i os fs).ev l = some ((), l') /\ K l'
section
variable {id i : Nat} {o : MOper} {d : Option Nat} {op : MOp} {os : List MOper} {fs fs' : Fs} {l l1 l2 : LS} {K : LS -> Prop} {s : Nat} {b want : Bool} {kl : List Nat}
theorem execsX_nil : execsX id i [] fs = .ret () := by
 unfold execsX
 cases fs <;> rfl
theorem zn (h : K l) : EvX id i [] fs l K := ⟨⟨l, by rw [execsX_nil]; rfl, h⟩⟩
theorem execsX_cons (hf : fs = none \/ ∃ x l, fs = some (x :: l)) : execsX id i (o :: os) fs = (fs.hd (o.exec ((id * 1000 + i + 1) * 8))).bind fun _ => execsX id (i + 1) os fs.tl := by
 rcases hf with rfl | ⟨⟨r, w⟩, fs, rfl⟩ <;> rfl
theorem hd_some {p : Pg Unit} (h : ((fs.hd p)).ev l = some ((), l1)) : fs = none \/ ∃ x l, fs = some (x :: l) := by
 match fs, h with
 | none, _ => exact .inl rfl
 | some (x :: l), _ => exact .inr ⟨x, l, rfl⟩
 | some [], h => cases h
theorem zo (h : (fs.hd (o.exec ((id * 1000 + i + 1) * 8))).ev l = some ((), l1)) (hf : fs.tlK fun f => f = fs') (hK : EvX id (i + 1) os fs' l1 K) : EvX id i (o :: os) fs l K := by
 obtain ⟨l', h1, h2⟩ := hK.out
 refine ⟨⟨l', ?_, h2⟩⟩
 rw [tlK_eq] at hf
 rw [execsX_cons (hd_some h), ev_bind, h, hf]
 exact h1
theorem zo' {o' : MOper} (h : (fs.hd (o.exec ((id * 1000 + i + 1) * 8))).ev l = (fs.hd (o'.exec ((id * 1000 + i + 1) * 8))).ev l) (hK : EvX id i (o' :: os) fs l K) : EvX id i (o :: os) fs l K := by
 obtain ⟨l', h1, h2⟩ := hK.out
 refine ⟨⟨l', ?_, h2⟩⟩
 have hf : fs = none \/ ∃ x l, fs = some (x :: l) := by
  match fs, h1 with
  | none, _ => exact .inl rfl
  | some (x :: l), _ => exact .inr ⟨x, l, rfl⟩
  | some [], h1 => cases h1
 rw [execsX_cons hf, ev_bind] at h1 ⊢
 rw [h]
 exact h1
def Fs.has (fs : Fs) (s : Nat) : Bool := match fs with
 | none => true
 | some ((r, _) :: _) => r.contains s
 | some [] => false
theorem gd_yesX {e : Nat} (hr : fs.has s = true) (hg : l.get s = .x (.b b)) (ht : b = want) : (fs.hd (MOper.exec e ⟨d, op, some (s, want), kl⟩)).ev l = (fs.hd (MOper.exec e ⟨d, op, none, kl⟩)).ev l := by
 match fs, hr with
 | none, _ => exact gd_yes hg ht
 | some ((r, w) :: fs), hr => exact gd_yesD hr hg ht
 | some [], hr => cases hr
theorem gd_noX {e : Nat} (hr : fs.has s = true) (hg : l.get s = .x (.b b)) (ht : b = !want) : (fs.hd (MOper.exec e ⟨d, op, some (s, want), kl⟩)).ev l = (fs.hd ((setD d (.tup 0)).bind fun _ => forget kl)).ev l := by
 match fs, hr with
 | none, _ => exact gd_no hg ht
 | some ((r, w) :: fs), hr => exact gd_noD hr hg ht
 | some [], hr => cases hr
theorem zy (hr : fs.has s = true) (hg : l.get s = .x (.b b)) (ht : b = want) (h : EvX id i (⟨d, op, none, kl⟩ :: os) fs l K) : EvX id i (⟨d, op, some (s, want), kl⟩ :: os) fs l K := zo' (gd_yesX hr hg ht) h
theorem zm (hr : fs.has s = true) (hg : l.get s = .x (.b b)) (ht : b = !want) (h1 : (fs.hd ((setD d (.tup 0)).bind fun _ => forget kl)).ev l = some ((), l1)) (hf : fs.tlK fun f => f = fs') (h : EvX id (i + 1) os fs' l1 K) : EvX id i (⟨d, op, some (s, want), kl⟩ :: os) fs l K :=
 zo ((gd_noX hr hg ht).trans h1) hf h
theorem zp {c x y : Opd} {v : T} (hg : (fs.hd (raw ((id * 1000 + i + 1) * 8) c)).ev l = some (.x (.b b), l)) (ht : b = want) (hx : (fs.hd (raw ((id * 1000 + i + 1) * 8) (bif want then x else y))).ev l = some (.x v, l))
  (h1 : (fs.hd ((setD d (.x v)).bind fun _ => forget kl)).ev l = some ((), l1)) (hf : fs.tlK fun f => f = fs') (h : EvX id (i + 1) os fs' l1 K) : EvX id i (⟨d, .pick c x y, none, kl⟩ :: os) fs l K := by
 refine zo ?_ hf h
 subst ht
 match fs, hg, hx, h1 with
 | none, hg, hx, h1 =>
  simp only [Fs.hd] at hg hx h1 ⊢
  rw [ev_bind] at h1
  cases b <;> simp only [cond_true, cond_false] at hx <;> simp only [MOper.exec, MOper.go, exec, Bind.bind, ev_bind, hg, hx, if_true, Bool.false_eq_true, if_false] <;> exact h1
 | some ((r, w) :: fs), hg, hx, h1 =>
  simp only [Fs.hd] at hg hx h1 ⊢
  rw [within_bind, ev_bind] at h1
  cases b <;> simp only [cond_true, cond_false] at hx <;> simp only [MOper.exec, MOper.go, exec, Bind.bind, within_bind, ev_bind, hg, hx, if_true, Bool.false_eq_true, if_false] <;> exact h1
 | some [], hg, _, _ => cases hg
theorem zk (g : Nat) {F : Fun} {args : List (Pass × Opd)} {hs : List Hand} {ags : List Arg} {q : Out} (h1 : (fs.hd (callPre ((id * 1000 + i + 1) * 8) args [])).ev l = some (hs, l1)) (ha : hs.map Hand.arg = ags) (h2 : F ags = some q)
  (h3 : callOk hs q = true) (h4 : (fs.hd ((callPost ((id * 1000 + i + 1) * 8) d hs q).bind fun _ => forget kl)).ev l1 = some ((), l2)) (hf : fs.tlK fun f => f = fs') (hK : EvX id (i + 1) os fs' l2 K) : EvX id i (⟨d, .call g F args, none, kl⟩ :: os) fs l K := by
 refine zo ?_ hf hK
 match fs, h1, h4 with
 | none, h1, h4 =>
  simp only [Fs.hd] at h1 h4 ⊢
  rw [ev_bind] at h4
  cases h5 : (callPost ((id * 1000 + i + 1) * 8) d hs q).ev l1 with
  | none => rw [h5] at h4; cases h4
  | some x =>
   rw [h5] at h4
   show ((doCall ((id * 1000 + i + 1) * 8) d F args []).bind fun _ => forget kl).ev l = _
   rw [ev_bind, evp_call h1 (ha ▸ h2) h3 h5]
   exact h4
 | some ((r, w) :: fs), h1, h4 =>
  simp only [Fs.hd] at h1 h4 ⊢
  rw [within_bind, ev_bind] at h4
  cases h5 : ((callPost ((id * 1000 + i + 1) * 8) d hs q).within r w).ev l1 with
  | none => rw [h5] at h4; cases h4
  | some x =>
   rw [h5] at h4
   show (((doCall ((id * 1000 + i + 1) * 8) d F args []).bind fun _ => forget kl).within r w).ev l = _
   rw [within_bind, ev_bind, evp_callD h1 (ha ▸ h2) h3 h5]
   exact h4
 | some [], h1, _ => cases h1
theorem zi {sz : Nat} {x ix : Opd} {k : IntKind} {n : Int} {es : List T} (t : T) (h1 : (fs.hd (raw ((id * 1000 + i + 1) * 8) ix)).ev l = some (.x (.i k n), l)) (h2 : (fs.hd (look ((id * 1000 + i + 1) * 8) x)).ev l = some (.x (.l .n sz es), l)) (h0 : 0 <= n)
  (ht : es[n.toNat]? = some t) (h3 : (fs.hd ((setD d (.q t 0)).bind fun _ => forget kl)).ev l = some ((), l1)) (hf : fs.tlK fun f => f = fs') (h : EvX id (i + 1) os fs' l1 K) : EvX id i (⟨d, .ia sz x ix, none, kl⟩ :: os) fs l K := by
 refine zo ?_ hf h
 match fs, h1, h2, h3 with
 | none, h1, h2, h3 =>
  simp only [Fs.hd] at h1 h2 h3 ⊢
  rw [ev_bind] at h3
  simp only [MOper.exec, MOper.go, exec, indexAddr, Bind.bind, ev_bind, h1, h2, h0, true_and, if_true, ht, Pure.pure, ev_ret]
  exact h3
 | some ((r, w) :: fs), h1, h2, h3 =>
  simp only [Fs.hd] at h1 h2 h3 ⊢
  rw [within_bind, ev_bind] at h3
  simp only [MOper.exec, MOper.go, exec, indexAddr, Bind.bind, within_bind, ev_bind, h1, h2, h0, true_and, if_true, ht, Pure.pure, within_ret, ev_ret]
  exact h3
 | some [], h1, _, _ => cases h1
theorem zw {sz : Nat} {x ix : Opd} {k : IntKind} {n : Int} {r' : Nat} {kk : Wr.K} {p : List Nat} {lo m : Nat} (h1 : (fs.hd (raw ((id * 1000 + i + 1) * 8) ix)).ev l = some (.x (.i k n), l)) (h2 : (fs.hd (look ((id * 1000 + i + 1) * 8) x)).ev l = some (.w r' kk p sz lo m, l)) (h0 : 0 <= n) (ht : n < m)
  (h3 : (fs.hd ((setD d (.ptr r' kk (p ++ [lo + n.toNat]) 0)).bind fun _ => forget kl)).ev l = some ((), l1)) (hf : fs.tlK fun f => f = fs') (h : EvX id (i + 1) os fs' l1 K) : EvX id i (⟨d, .ia sz x ix, none, kl⟩ :: os) fs l K := by
 refine zo ?_ hf h
 match fs, h1, h2, h3 with
 | none, h1, h2, h3 =>
  simp only [Fs.hd] at h1 h2 h3 ⊢
  rw [ev_bind] at h3
  simp only [MOper.exec, MOper.go, exec, indexAddr, Bind.bind, ev_bind, h1, h2, h0, ht, and_self, if_true, Pure.pure, ev_ret]
  exact h3
 | some ((r, w) :: fs), h1, h2, h3 =>
  simp only [Fs.hd] at h1 h2 h3 ⊢
  rw [within_bind, ev_bind] at h3
  simp only [MOper.exec, MOper.go, exec, indexAddr, Bind.bind, within_bind, ev_bind, h1, h2, h0, ht, and_self, if_true, Pure.pure, within_ret, ev_ret]
  exact h3
 | some [], h1, _, _ => cases h1
end
end Go.Wr
namespace Go.Wr
section
variable {id i : Nat} {o : MOper} {d : Option Nat} {op : MOp} {os : List MOper} {fs fs' : Fs} {l l1 l2 l3 : LS} {K : LS -> Prop} {s : Nat} {b want : Bool} {kl : List Nat}
theorem zs {sz : Nat} {agg : Bool} {zero : List T} {x y : Opd} {n m : Int} (h1 : (fs.hd (num ((id * 1000 + i + 1) * 8) x)).ev l = some (n, l)) (h2 : (fs.hd (num ((id * 1000 + i + 1) * 8) y)).ev l = some (m, l)) (he : n = m) (h0 : 0 <= n) (hm : n < lenMax)
  (h3 : (fs.hd ((setD d (.own ⟨(id * 1000 + i + 1) * 8, (id * 1000 + i + 1) * 8, (id * 1000 + i + 1) * 8⟩ (.l .y sz (List.replicate n.toNat (elemT agg zero))))).bind fun _ => forget kl)).ev l = some ((), l1)) (hf : fs.tlK fun f => f = fs') (h : EvX id (i + 1) os fs' l1 K) :
  EvX id i (⟨d, .mks sz agg zero x y, none, kl⟩ :: os) fs l K := by
 refine zo ?_ hf h
 subst he
 match fs, h1, h2, h3 with
 | none, h1, h2, h3 =>
  simp only [Fs.hd] at h1 h2 h3 ⊢
  rw [ev_bind] at h3
  simp only [MOper.exec, MOper.go, exec, Bind.bind, ev_bind, h1, h2, h0, hm, and_self, if_true]
  exact h3
 | some ((r, w) :: fs), h1, h2, h3 =>
  simp only [Fs.hd] at h1 h2 h3 ⊢
  rw [within_bind, ev_bind] at h3
  simp only [MOper.exec, MOper.go, exec, Bind.bind, within_bind, ev_bind, h1, h2, h0, hm, and_self, if_true]
  exact h3
 | some [], h1, _, _ => cases h1
theorem zl {x : Opd} {rr : Nat} {k : Wr.K} {p : List Nat} {off : Nat} {c : RC} (node : T) {t : T} (h1 : (fs.hd (addr ((id * 1000 + i + 1) * 8) x)).ev l = some (.ptr rr k p off, l)) (h2 : (fs.hd (rootP rr k p)).ev l = some (c, l)) (hn : c.t.nav p = some node) (ht : node.cells[off]? = some t)
  (h3 : (fs.hd ((setD d (seen rr c.k p off node t).av).bind fun _ => forget kl)).ev l = some ((), l1)) (hf : fs.tlK fun f => f = fs') (h : EvX id (i + 1) os fs' l1 K) : EvX id i (⟨d, .ld none x, none, kl⟩ :: os) fs l K := by
 refine zo ?_ hf h
 match fs, h1, h2, h3 with
 | none, h1, h2, h3 =>
  simp only [Fs.hd] at h1 h2 h3 ⊢
  rw [ev_bind] at h3
  simp only [MOper.exec, MOper.go, exec, load, Bind.bind, ev_bind, h1, h2, hn, ht, Pure.pure, ev_ret]
  exact h3
 | some ((r, w) :: fs), h1, h2, h3 =>
  simp only [Fs.hd] at h1 h2 h3 ⊢
  rw [within_bind, ev_bind] at h3
  simp only [MOper.exec, MOper.go, exec, load, Bind.bind, within_bind, ev_bind, h1, h2, hn, ht, Pure.pure, within_ret, ev_ret]
  exact h3
 | some [], h1, _, _ => cases h1
theorem zS {n : Nat} {tk : Bool} {x v : Opd} {rr : Nat} {k k' : Wr.K} {p : List Nat} {off : Nat} {c : RC} (node t : T) {new : List T}
  (h0 : (fs.hd (give ((id * 1000 + i + 1) * 8) tk v)).ev l = some (new, l1)) (hl : new.length = n) (h1 : (fs.hd (addr ((id * 1000 + i + 1) * 8) x)).ev l1 = some (.ptr rr k p off, l1)) (h2 : (fs.hd (rootP rr k p)).ev l1 = some (c, l1)) (hn : c.t.nav p = some node) (hm : c.t.mine p = true) (hok : putOk c p off node new = true)
  (ht : c.t.put p (node.ofCells (splice node.cells off new)) = t) (hk : (bif (sub node.cells off new.length).all T.scalar && new.all T.scalar then c.k else bump ((id * 1000 + i + 1) * 8) c p) = k') (h3 : (fs.hd ((Pg.wr rr ({ c with k := k', t := t } : RC).av).bind fun _ => forget kl)).ev l1 = some ((), l2)) (hf : fs.tlK fun f => f = fs')
  (h : EvX id (i + 1) os fs' l2 K) : EvX id i (⟨none, .sto n tk x v, none, kl⟩ :: os) fs l K := by
 refine zo ?_ hf h
 match fs, h0, h1, h2, h3 with
 | none, h0, h1, h2, h3 =>
  simp only [Fs.hd] at h0 h1 h2 h3 ⊢
  rw [ev_bind] at h3
  simp only [MOper.exec, MOper.go, exec, store, Bind.bind, ev_bind, h0, hl, if_true, h1, h2, putCells_ev hn hm hok hk ht]
  exact h3
 | some ((r, w) :: fs), h0, h1, h2, h3 =>
  simp only [Fs.hd] at h0 h1 h2 h3 ⊢
  rw [within_bind, ev_bind] at h3
  simp only [MOper.exec, MOper.go, exec, store, Bind.bind, within_bind, ev_bind, h0, hl, if_true, h1, h2, putCells_ev hn hm hok hk ht]
  exact h3
 | some [], h0, _, _, _ => cases h0
theorem za {sz : Nat} {agg : Bool} {zero : List T} {tk : Bool} {dd : Nat} {x y : Opd} {es es2 : List T} {o2 : Ob} {v : AV} (h1 : (fs.hd (takeSlice ((id * 1000 + i + 1) * 8) x)).ev l = some (.l .y sz es, l1))
  (h2 : (fs.hd (raw ((id * 1000 + i + 1) * 8) y)).ev l1 = some (v, l1)) (h3 : (fs.hd (lend v)).ev l1 = some (.l o2 sz es2, l1)) (hlen : es.length + es2.length < lenMax) (hfl : flats es2 = true) (h4 : (fs.hd ((setS dd (.own ⟨(id * 1000 + i + 1) * 8, (id * 1000 + i + 1) * 8, (id * 1000 + i + 1) * 8⟩ (.l .y sz (es ++ es2)))).bind fun _ => forget kl)).ev l1 = some ((), l2))
  (hf : fs.tlK fun f => f = fs') (h : EvX id (i + 1) os fs' l2 K) : EvX id i (⟨some dd, .app sz agg zero tk x y, none, kl⟩ :: os) fs l K := by
 refine zo ?_ hf h
 match fs, h1, h2, h3, h4 with
 | none, h1, h2, h3, h4 =>
  simp only [Fs.hd] at h1 h2 h3 h4 ⊢
  rw [ev_bind] at h4
  simp only [MOper.exec, MOper.go, exec, append, Bind.bind, ev_bind, h1, h2, h3, hlen, and_self, if_true, hfl]
  exact h4
 | some ((r, w) :: fs), h1, h2, h3, h4 =>
  simp only [Fs.hd] at h1 h2 h3 h4 ⊢
  rw [within_bind, ev_bind] at h4
  simp only [MOper.exec, MOper.go, exec, append, Bind.bind, within_bind, ev_bind, h1, h2, h3, hlen, and_self, if_true, hfl]
  exact h4
 | some [], h1, _, _, _ => cases h1
theorem zA {sz : Nat} {agg : Bool} {zero : List T} {tk : Bool} {dd : Nat} {x y : Opd} {es es2 es3 : List T} {o2 o3 : Ob} {v : AV}
  (h1 : (fs.hd (takeSlice ((id * 1000 + i + 1) * 8) x)).ev l = some (.l .y sz es, l1)) (h2 : (fs.hd (raw ((id * 1000 + i + 1) * 8) y)).ev l1 = some (v, l1)) (h3 : (fs.hd (lend v)).ev l1 = some (.l o2 sz es2, l1)) (h5 : (fs.hd (give ((id * 1000 + i + 1) * 8) tk y)).ev l1 = some ([.l o3 sz es3], l3)) (hlen : es.length + es2.length < lenMax) (hfl : flats es2 = false) (hlen2 : es.length + es3.length < lenMax)
  (h4 : (fs.hd ((setS dd (.own ⟨(id * 1000 + i + 1) * 8, (id * 1000 + i + 1) * 8, (id * 1000 + i + 1) * 8⟩ (.l .y sz (es ++ es3)))).bind fun _ => forget kl)).ev l3 = some ((), l2)) (hf : fs.tlK fun f => f = fs') (h : EvX id (i + 1) os fs' l2 K) :
  EvX id i (⟨some dd, .app sz agg zero tk x y, none, kl⟩ :: os) fs l K := by
 refine zo ?_ hf h
 match fs, h1, h2, h3, h4, h5 with
 | none, h1, h2, h3, h4, h5 =>
  simp only [Fs.hd] at h1 h2 h3 h4 h5 ⊢
  rw [ev_bind] at h4
  simp only [MOper.exec, MOper.go, exec, append, Bind.bind, ev_bind, h1, h2, h3, hlen, and_self, if_true, hfl, Bool.false_eq_true, if_false, h5, hlen2]
  exact h4
 | some ((r, w) :: fs), h1, h2, h3, h4, h5 =>
  simp only [Fs.hd] at h1 h2 h3 h4 h5 ⊢
  rw [within_bind, ev_bind] at h4
  simp only [MOper.exec, MOper.go, exec, append, Bind.bind, within_bind, ev_bind, h1, h2, h3, hlen, and_self, if_true, hfl, Bool.false_eq_true, if_false, h5, hlen2]
  exact h4
 | some [], h1, _, _, _, _ => cases h1
theorem take_w {e : Nat} {x : Opd} {r : Nat} {k : Wr.K} {p : List Nat} {z n sz : Nat} {c : RC} {es : List T} (h1 : (fs.hd (raw e x)).ev l = some (.w r k p z 0 n, l)) (h2 : (fs.hd (rootW r k p)).ev l = some (c, l)) (hn : c.t.nav p = some (.l .y sz es)) (hl : n = es.length)
  (hw : (fs.hd (Pg.wr r ({ c with t := c.t.put p .u } : RC).av)).ev l = some ((), l1)) : (fs.hd (takeSlice e x)).ev l = some (.l .y sz es, l1) := by
 have hsub : sub es 0 es.length = es := by simp [sub]
 subst hl
 match fs, h1, h2, hw with
 | none, h1, h2, hw =>
  simp only [Fs.hd] at h1 h2 hw ⊢
  simp only [takeSlice, giveW, Bind.bind, ev_bind, h1, h2, hn, and_self, if_true, hw, hsub]
  rfl
 | some ((r, w) :: fs), h1, h2, hw =>
  simp only [Fs.hd] at h1 h2 hw ⊢
  simp only [takeSlice, giveW, Bind.bind, within_bind, ev_bind, h1, h2, hn, and_self, if_true, hw, hsub]
  rfl
 | some [], h1, _, _ => cases h1
theorem zv {sz : Nat} {agg : Bool} {zero : List T} {tk : Bool} {dd : Nat} {x y : Opd} {r : Nat} {k : Wr.K} {p : List Nat} {z n : Nat} {c : RC} {es es2 : List T} {o2 : Ob} {v : AV} (g1 : (fs.hd (raw ((id * 1000 + i + 1) * 8) x)).ev l = some (.w r k p z 0 n, l)) (g2 : (fs.hd (rootW r k p)).ev l = some (c, l))
  (gn : c.t.nav p = some (.l .y sz es)) (gl : n = es.length) (gw : (fs.hd (Pg.wr r ({ c with t := c.t.put p .u } : RC).av)).ev l = some ((), l1))
  (h2 : (fs.hd (raw ((id * 1000 + i + 1) * 8) y)).ev l1 = some (v, l1)) (h3 : (fs.hd (lend v)).ev l1 = some (.l o2 sz es2, l1)) (hlen : es.length + es2.length < lenMax) (hfl : flats es2 = true) (h4 : (fs.hd ((setS dd (.own ⟨(id * 1000 + i + 1) * 8, (id * 1000 + i + 1) * 8, (id * 1000 + i + 1) * 8⟩ (.l .y sz (es ++ es2)))).bind fun _ => forget kl)).ev l1 = some ((), l2))
  (hf : fs.tlK fun f => f = fs') (h : EvX id (i + 1) os fs' l2 K) : EvX id i (⟨some dd, .app sz agg zero tk x y, none, kl⟩ :: os) fs l K := za (take_w g1 g2 gn gl gw) h2 h3 hlen hfl h4 hf h
theorem zV {sz : Nat} {agg : Bool} {zero : List T} {tk : Bool} {dd : Nat} {x y : Opd} {r : Nat} {k : Wr.K} {p : List Nat} {z n : Nat} {c : RC} {es es2 es3 : List T} {o2 o3 : Ob} {v : AV} (g1 : (fs.hd (raw ((id * 1000 + i + 1) * 8) x)).ev l = some (.w r k p z 0 n, l)) (g2 : (fs.hd (rootW r k p)).ev l = some (c, l))
  (gn : c.t.nav p = some (.l .y sz es)) (gl : n = es.length) (gw : (fs.hd (Pg.wr r ({ c with t := c.t.put p .u } : RC).av)).ev l = some ((), l1))
  (h2 : (fs.hd (raw ((id * 1000 + i + 1) * 8) y)).ev l1 = some (v, l1)) (h3 : (fs.hd (lend v)).ev l1 = some (.l o2 sz es2, l1)) (h5 : (fs.hd (give ((id * 1000 + i + 1) * 8) tk y)).ev l1 = some ([.l o3 sz es3], l3)) (hlen : es.length + es2.length < lenMax) (hfl : flats es2 = false) (hlen2 : es.length + es3.length < lenMax)
  (h4 : (fs.hd ((setS dd (.own ⟨(id * 1000 + i + 1) * 8, (id * 1000 + i + 1) * 8, (id * 1000 + i + 1) * 8⟩ (.l .y sz (es ++ es3)))).bind fun _ => forget kl)).ev l3 = some ((), l2)) (hf : fs.tlK fun f => f = fs') (h : EvX id (i + 1) os fs' l2 K) :
  EvX id i (⟨some dd, .app sz agg zero tk x y, none, kl⟩ :: os) fs l K := zA (take_w g1 g2 gn gl gw) h2 h3 h5 hlen hfl hlen2 h4 hf h
def Fs.drop (fs : Fs) : Nat -> Fs
 | 0 => fs
 | n + 1 => fs.tl.drop n
def Fs.dropK (fs : Fs) (n : Nat) (k : Fs -> Prop) : Prop := match n with
 | 0 => k fs
 | n + 1 => fs.tlK fun f => f.dropK n k
theorem dropK_eq : ∀ (n : Nat) (fs : Fs) (k : Fs -> Prop), fs.dropK n k = k (fs.drop n)
 | 0, _, _ => rfl
 | n + 1, fs, k => by rw [Fs.dropK, tlK_eq, dropK_eq n]; rfl
theorem execsX_append : ∀ (a c : List MOper) (i : Nat) (fs : Fs) (l : LS), (execsX id i a fs).ev l ≠ none -> (execsX id i (a ++ c) fs).ev l = match (execsX id i a fs).ev l with | some (_, l') => (execsX id (i + a.length) c (fs.drop a.length)).ev l' | none => none
 | [], c, i, fs, l, _ => by rw [execsX_nil]; rfl
 | o :: a, c, i, fs, l, h => by
  have hf : fs = none \/ ∃ x l, fs = some (x :: l) := by
   match fs, h with
   | none, _ => exact .inl rfl
   | some (x :: l), _ => exact .inr ⟨x, l, rfl⟩
   | some [], h => exact absurd rfl h
  rw [execsX_cons hf, ev_bind] at h ⊢
  show (execsX id i (o :: (a ++ c)) fs).ev l = _
  rw [execsX_cons hf, ev_bind]
  cases h1 : (fs.hd (o.exec ((id * 1000 + i + 1) * 8))).ev l with
  | none => rfl
  | some x =>
   rw [h1] at h
   simp only at h ⊢
   rw [execsX_append a c (i + 1) fs.tl x.2 h, show i + 1 + a.length = i + (a.length + 1) by omega]
   rfl
theorem evx_split {n : Nat} {ops : List MOper} (h : EvX id i (ops.take n) fs l fun l' => l' = l1) (hn : n <= ops.length) (hf : fs.dropK n fun f => f = fs') (h2 : EvX id (i + n) (ops.drop n) fs' l1 K) : EvX id i ops fs l K := by
 obtain ⟨l', h3, h4⟩ := h.out
 obtain ⟨l'', h5, h6⟩ := h2.out
 subst h4
 rw [dropK_eq] at hf
 refine ⟨⟨l'', ?_, h6⟩⟩
 have := execsX_append (id := id) (ops.take n) (ops.drop n) i fs l (by rw [h3]; simp)
 rw [List.take_append_drop, h3] at this
 rw [this, List.length_take, Nat.min_eq_left hn, hf]
 exact h5
theorem ze {ops : List MOper} {n dd : Nat} {v : Bool} {ln : LS} (hg : l.get s = .x (.b b)) (hu : upTo s (⟨d, op, some (s, true), kl⟩ :: ops) fun m => m = n) (hd : lastD (List.take n (⟨d, op, some (s, true), kl⟩ :: ops)) fun m => m = dd) (hn : Nat.ble n (ops.length + 1) = true) (hf : fs.dropK n fun f => f = fs')
  (hy : b = true -> EvX id i (List.take n (⟨d, op, some (s, true), kl⟩ :: ops)) fs l fun l' => l' = l1) (hno : b = (!true) -> EvX id i (List.take n (⟨d, op, some (s, true), kl⟩ :: ops)) fs l fun l' => l' = ln) (hv : l1.get dd = .x (.b v)) (hvn : ln.get dd = .x (.b false))
  (he : l1.set1K dd (.x (.b (b && v))) fun x => x = l2) (hen : ln.set1K dd (.x (.b (b && v))) fun x => x = l2) (h : EvX id (i + n) (List.drop n (⟨d, op, some (s, true), kl⟩ :: ops)) fs' l2 K) : EvX id i (⟨d, op, some (s, true), kl⟩ :: ops) fs l K := by
 have hn' : n <= (⟨d, op, some (s, true), kl⟩ :: ops).length := by simpa using Nat.le_of_ble_eq_true hn
 rw [set1K_eq] at he hen
 cases hb : b with
 | true =>
  have : l2 = l1 := by
   rw [<- he, hb, Bool.true_and]; exact set1_self _ _ _ hv
  exact evx_split (hy hb) hn' hf (this ▸ h)
 | false =>
  have : l2 = ln := by
   rw [<- hen, hb, Bool.false_and]; exact set1_self _ _ _ hvn
  exact evx_split (hno hb) hn' hf (this ▸ h)
theorem zf {ops : List MOper} {n dd : Nat} {v : Bool} {ln : LS} (hg : l.get s = .x (.b b)) (hu : upTo s (⟨d, op, some (s, false), kl⟩ :: ops) fun m => m = n) (hd : lastD (List.take n (⟨d, op, some (s, false), kl⟩ :: ops)) fun m => m = dd) (hn : Nat.ble n (ops.length + 1) = true) (hf : fs.dropK n fun f => f = fs')
  (hy : b = false -> EvX id i (List.take n (⟨d, op, some (s, false), kl⟩ :: ops)) fs l fun l' => l' = l1) (hno : b = (!false) -> EvX id i (List.take n (⟨d, op, some (s, false), kl⟩ :: ops)) fs l fun l' => l' = ln) (hv : l1.get dd = .x (.b v)) (hvn : ln.get dd = .x (.b true))
  (he : l1.set1K dd (.x (.b (b || v))) fun x => x = l2) (hen : ln.set1K dd (.x (.b (b || v))) fun x => x = l2) (h : EvX id (i + n) (List.drop n (⟨d, op, some (s, false), kl⟩ :: ops)) fs' l2 K) : EvX id i (⟨d, op, some (s, false), kl⟩ :: ops) fs l K := by
 have hn' : n <= (⟨d, op, some (s, false), kl⟩ :: ops).length := by simpa using Nat.le_of_ble_eq_true hn
 rw [set1K_eq] at he hen
 cases hb : b with
 | false =>
  have : l2 = l1 := by
   rw [<- he, hb, Bool.false_or]; exact set1_self _ _ _ hv
  exact evx_split (hy hb) hn' hf (this ▸ h)
 | true =>
  have : l2 = ln := by
   rw [<- hen, hb, Bool.true_or]; exact set1_self _ _ _ hvn
  exact evx_split (hno hb) hn' hf (this ▸ h)
end
section
variable {l : LS} {us : List Nat} {K : Ex -> LS -> List Nat -> Prop}
def stepC : MCode -> LS -> List Nat -> (Ex -> LS -> List Nat -> Prop) -> Prop
 | .sk, l, us, K => K .nx l us
 | .ret, l, us, K => K .ret l us
 | .exit id, l, us, K => K (.exit id) l us
 | .seq a b, l, us, K => Ev a l us (seqK b K)
 | .blk id c, l, us, K => Ev c l us (blkK id K)
 | .reg id fs ops, l, us, K => bif us.contains id then False else EvX id 0 ops fs l fun l' => K .nx l' (id :: us)
 | _, _, _, _ => False
def isStep : MCode -> Bool
 | .cond _ _ _ => false
 | .loop _ _ => false
 | .bad => false
 | _ => true
theorem zcc : ∀ {c : MCode} {l : LS} {us : List Nat} {K : Ex -> LS -> List Nat -> Prop}, stepC c l us K -> Ev c l us K
 | .sk, _, _, _, h => ev_sk h
 | .ret, _, _, _, h => ev_rt h
 | .exit _, _, _, _, h => ev_exit h
 | .seq _ _, _, _, _, h => ev_seq h
 | .blk _ _, _, _, _, h => ev_blk h
 | .reg id fs ops, l, us, K, h => by
  simp only [stepC] at h
  cases hu : us.contains id with
  | true => rw [hu] at h; exact h.elim
  | false =>
   rw [hu] at h
   obtain ⟨l', h1, h2⟩ := h.out
   refine ⟨.nx, l', id :: us, ?_, h2⟩
   simp only [den, hu, Bool.false_eq_true, if_false]
   have : (regRun id fs ops).run l.of = some ((), l'.of) := by
    cases fs <;> exact ev_run _ h1
   rw [this]
theorem zc {c : MCode} (hs : isStep c = true) (h : stepC c l us K) : Ev c l us K := zcc h
theorem zt {c : Opd} {a b : MCode} {t : Bool} {l l1 : LS} {us : List Nat} {K : Ex -> LS -> List Nat -> Prop} (h : (raw 0 c).ev l = some (.x (.b t), l1)) (h1 : t = true -> Ev a l us K) (h2 : t = false -> Ev b l us K) : Ev (.cond c a b) l us K := ev_cond h h1 h2
theorem zt1 {c : Opd} {a b : MCode} {t : Bool} {l l1 : LS} {us : List Nat} {K : Ex -> LS -> List Nat -> Prop} (h : (raw 0 c).ev l = some (.x (.b t), l1)) (ht : t = true) (h1 : Ev a l us K) : Ev (.cond c a b) l us K := ev_condY h ht h1
theorem zt0 {c : Opd} {a b : MCode} {t : Bool} {l l1 : LS} {us : List Nat} {K : Ex -> LS -> List Nat -> Prop} (h : (raw 0 c).ev l = some (.x (.b t), l1)) (ht : t = false) (h1 : Ev b l us K) : Ev (.cond c a b) l us K := ev_condN h ht h1
theorem zfor {keep : List Nat} {c : MCode} {l : LS} {us : List Nat} {K : Ex -> LS -> List Nat -> Prop} {α β : Type} (f : α -> T) (xs : List α) (S : Nat -> β -> LS) (Inv : Nat -> β -> Prop) (x0 : β) (h0 : Inv 0 x0) (hS : (l.restr keep fun x => x) = S 0 x0)
  (step : ∀ i x y, xs[i]? = some y -> i < xs.length -> decide ((i : Int) < (xs.map f).length) = true -> decide ((i : Int) < xs.length) = true -> Inv i x ->
   (∀ x', Inv (i + 1) x' -> ∀ l' us', (l'.restr keep fun x => x) = S (i + 1) x' -> loopK keep c K .nx l' us') -> Ev c (S i x) [] (loopK keep c K))
  (last : ∀ x, decide ((xs.length : Int) < (xs.map f).length) = false -> decide ((xs.length : Int) < xs.length) = false -> Inv xs.length x -> Ev c (S xs.length x) [] (loopK keep c K)) : Ev (.loop keep c) l us K := by
 refine ev_for S Inv xs.length x0 h0 hS fun i x hi hx ih => ?_
 rcases Nat.lt_or_ge i xs.length with hlt | hge
 ·exact step i x xs[i] (List.getElem?_eq_getElem hlt) hlt (by simpa using hlt) (by simpa using hlt) hx fun x' hx' => ih x' hlt hx'
 ·have : i = xs.length := by omega
  subst this
  exact last x (by simp) (by simp) hx
end
end Go.Wr
namespace Go.Wr
namespace C
abbrev o (d : Nat) (p : MOp) (k : List Nat) : MOper := ⟨some d, p, none, k⟩
abbrev n (p : MOp) (k : List Nat) : MOper := ⟨none, p, none, k⟩
abbrev g (s : Nat) (x : MOper) : MOper := ⟨x.d, x.op, some (s, true), x.kl⟩
abbrev h (s : Nat) (x : MOper) : MOper := ⟨x.d, x.op, some (s, false), x.kl⟩
abbrev v (d x : Nat) (k : List Nat) : MOper := ⟨some d, .mv (.t x), none, k⟩
abbrev w (d x : Nat) (k : List Nat) : MOper := ⟨some d, .asg (.t x), none, k⟩
abbrev j (d : Nat) (x : T) (k : List Nat) : MOper := ⟨some d, .asg (.k x), none, k⟩
abbrev l (d x : Nat) (k : List Nat) : MOper := ⟨some d, .ld none (.t x), none, k⟩
abbrev L (d n x : Nat) (k : List Nat) : MOper := ⟨some d, .ld (some n) (.t x), none, k⟩
abbrev f (d x m : Nat) (k : List Nat) : MOper := ⟨some d, .fa (.t x) m, none, k⟩
abbrev i (d m x y : Nat) (k : List Nat) : MOper := ⟨some d, .ia m (.t x) (.t y), none, k⟩
abbrev b (d : Nat) (p : BinOp) (x y : Nat) (k : List Nat) : MOper := ⟨some d, .bin p .o (.t x) (.t y), none, k⟩
abbrev B (d : Nat) (p : BinOp) (x : Nat) (y : Int) (k : List Nat) : MOper := ⟨some d, .bin p .o (.t x) (.k (.i .i64 y)), none, k⟩
abbrev u (d x : Nat) (k : List Nat) : MOper := ⟨some d, .un .not (.t x), none, k⟩
abbrev m (d x : Nat) (k : List Nat) : MOper := ⟨some d, .len false (.t x), none, k⟩
abbrev c (d : Nat) (g : Nat) (F : Fun) (a : List (Pass × Opd)) (k : List Nat) : MOper := ⟨some d, .call g F a, none, k⟩
abbrev S (x : Nat) : Pass × Opd := (.S, .t x)
abbrev s (z a x : Nat) (k : List Nat) : MOper := ⟨none, .sto z true (.t a) (.t x), none, k⟩
abbrev Y (x : Int) : T := .i .i64 x
abbrev q : List MCode -> MCode
 | [] => .sk
 | [a] => a
 | a :: l => .seq a (q l)
abbrev r (i : Nat) (l : List MOper) : MCode := .reg i none l
abbrev R (i : Nat) (fs : List (List Nat × List Nat)) (l : List MOper) : MCode := .reg i (some fs) l
abbrev t (x : Nat) (a b : MCode) : MCode := .cond (.t x) a b
abbrev k (i : Nat) (a : MCode) : MCode := .blk i a
abbrev p (l : List Nat) (a : MCode) : MCode := .loop l a
abbrev e (i : Nat) : MCode := .exit i
abbrev x : MCode := .ret
abbrev z : MCode := .sk
end C
end Go.Wr
namespace Go.Wr
section
variable {id i : Nat} {os : List MOper} {fs fs' : Fs} {l l1 l2 : LS} {K : LS -> Prop} {kl : List Nat}
end
theorem closeds_map {α : Type} {f : α -> T} (h : ∀ x, (f x).closed = true) (l : List α) : closeds (l.map f) = true := by
 induction l with
 | nil => rfl
 | cons x l ih => simp [closeds, h x, ih]
end Go.Wr

