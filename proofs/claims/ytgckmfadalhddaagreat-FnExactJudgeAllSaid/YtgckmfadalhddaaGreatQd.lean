/-
  What is proved: lemmas on the way to the laws of this seat. No condition.
-/
import Derived.Test.YtgckmfadalhddaaGreatQc
import Derived.Test.YtgckmfadalhddaaGreatPb
import Derived.Test.YtgckmfadalhddaaGreatHa
set_option linter.unusedVariables false
set_option linter.unusedSimpArgs false
namespace Go.Wr
set_option maxRecDepth 20000
theorem not_t {b : Bool} (h : (!b) = true) : b = false := by cases b with | false => rfl | true => cases h
theorem not_f {b : Bool} (h : (!b) = false) : b = true := by cases b with | false => cases h | true => rfl
theorem q4_eq (x : GItem) (hl : x.bulk <= 4000000) : F_q4 [.st (x.cs .n)] = some ⟨[.one (.b x.ok)], []⟩ := by
 have hs : x.Sketch.bulk <= 4000000 := hl
 (refine fun_ev rfl ?_; show Ev m_q4.code _ _ _)
 repeat' (first | refine yy ?_ | refine ym ?_ | (apply ze;(iterate 5 exact rfl)) | (apply zf;(iterate 5 exact rfl)) | refine yp ?_ | refine yk g_q2 (q2_eq _ _ _) ?_ | refine yk g_q3 (q3_eq x.Sketch hs) ?_ | refine yo ?_ | apply zn | refine yc ?_ | exact rfl | intro _)
 exact fin rfl rfl
theorem q3b_eq (x : GItem) (hl : x.bulk <= 4000000) : F_q3b [.st (x.cs .n)] = some ⟨[.one (.b x.ok)], []⟩ := by
 have hs : x.Sketch.bulk <= 4194304 := Nat.le_trans hl (by omega)
 (refine fun_ev rfl ?_; show Ev m_q3b.code _ _ _)
 repeat' (first | refine yy ?_ | refine ym ?_ | (apply ze;(iterate 5 exact rfl)) | (apply zf;(iterate 5 exact rfl)) | refine yp ?_ | refine yk g_q37 (q37_eq _ _ _) ?_ | refine yk g_q3a (q3a_eq _ _) ?_ | refine yk g_q39 (q39_eq x.Sketch hs) ?_ | refine yo ?_ | apply zn | refine yc ?_ | exact rfl | intro _)
 refine fin rfl (outB ?_)
 rw [GItem.ok]
 generalize inB x.Seq 1 60 = a
 generalize inB x.Class 0 1 = b
 generalize inB x.Key 0 4 = c
 generalize inB x.Window 0 20 = d
 generalize x.Sketch.ok = e
 revert a b c d e; decide
theorem agent_in {a : GAgent} (hl : a.bulk <= 4000000) : a.Sealed.length <= 4000000 /\ a.Taken.length <= 4194304 /\ ∀ (i : Nat) x, a.Sealed[i]? = some x -> x.bulk <= 4000000 := by
 have h1 := bulks_len GItem.bulk a.Sealed
 unfold GAgent.bulk at hl
 refine ⟨by omega, by omega, fun i x hx => ?_⟩
 have := bulks_mem (f := GItem.bulk) hx
 omega
theorem gt_not (n m : Nat) : decide ((n : Int) > (m : Nat)) = !decide (n <= m) := by
 rw [Bool.eq_iff_iff]; simp only [decide_eq_true_eq, Bool.not_eq_true', decide_eq_false_iff_not]; omega
theorem not_agentTop {a : GAgent} : ((((!inB a.Id 0 2 || !inB a.Epoch 0 1000) || !inB a.Granted 0 60) || decide (((a.Sealed.map (GItem.el .n)).length : Int) > 60)) || !inB a.Next 0 60) = !agentTop a := by
 rw [show (60 : Int) = ((60 : Nat) : Int) from rfl, List.length_map, gt_not, agentTop]
 cases inB a.Id 0 2 <;> cases inB a.Epoch 0 1000 <;> cases inB a.Granted 0 (60 : Nat) <;> cases decide (a.Sealed.length <= 60) <;> simp
theorem q7_eq (a : GAgent) (hl : a.bulk <= 4000000) : F_q7 [.st (a.cs .n)] = some ⟨[.one (.b a.ok)], []⟩ := by
 obtain ⟨h1, h2, h3⟩ := agent_in hl
 (refine fun_ev rfl ?_; show Ev m_q7.code _ _ _)
 repeat' (first | refine yy ?_ | refine ym ?_ | (apply ze;(iterate 5 exact rfl)) | (apply zf;(iterate 5 exact rfl)) | refine yp ?_ | refine yk g_q2 (q2_eq _ _ _) ?_ | refine yt1 ?_ | refine yt0 ?_ | refine yt ?_ ?_ | refine yo ?_ | apply zn | refine yc ?_ | exact rfl | intro _)
 ·refine fin rfl (outB ?_)
  rename_i h
  rw [not_agentTop] at h
  have h4 : agentTop a = false := by simpa using h
  rw [GAgent.ok, h4]; rfl
 ·rename_i h
  rw [not_agentTop] at h
  have h4 : agentTop a = true := by simpa using h
  refine zfor (GItem.el .n) a.Sealed (fun i (_ : Unit) => [(1, .box ⟨0, 0, 0⟩ (a.cs .n)), (34, .x (GItem.ls .n a.Sealed)), (35, .x (iT (a.Sealed.map (GItem.el .n)).length)), (36, .x (iT i))]) (fun i _ => ∀ j, j < i -> sealAt a.Sealed j = true) () (by omega) rfl ?_ ?_
  ·rintro i _ x hx hlt hc _ hinv ih
   have hbx := h3 i x hx
   have hw : IntKind.i64.wrap ((i : Int) + 1) = (i : Int) + 1 := w64 (by omega)
   repeat' (first | refine yy ?_ | refine ym ?_ | (apply ze;(iterate 5 exact rfl)) | (apply zf;(iterate 5 exact rfl)) | refine yp ?_ | refine yi (GItem.el .n x) (map_at hx) ?_ | refine yk g_q4 (q4_eq x hbx) ?_ | refine yt1 ?_ | refine yt0 ?_ | refine yt ?_ ?_ | refine yo ?_ | apply zn | refine yc ?_ | exact rfl | intro _)
   ·refine fin rfl (outB ?_)
    rename_i h5
    rw [hw, bne] at h5
    have h6 : sealAt a.Sealed i = false := by rw [sealAt_at hx]; revert h5; cases x.ok <;> simp
    rw [GAgent.ok, allIx_not hlt h6, Bool.and_false]
   ·rename_i h5
    rw [hw, bne] at h5
    have h6 : sealAt a.Sealed i = true := by rw [sealAt_at hx]; revert h5; cases x.ok <;> simp
    refine ih () (upto_succ hinv h6) _ _ ?_
    rw [w64s (by omega)]; rfl
  ·rintro _ hc _ hinv
   repeat' (first | refine yy ?_ | refine ym ?_ | (apply ze;(iterate 5 exact rfl)) | (apply zf;(iterate 5 exact rfl)) | refine yp ?_ | refine yk g_q6 (q6_eq a.Taken _ _ h2) ?_ | refine yt1 ?_ | refine yt0 ?_ | refine yt ?_ ?_ | refine yo ?_ | apply zn | refine yc ?_ | exact rfl | intro _)
   refine fin rfl (outB ?_)
   rw [GAgent.ok, h4, allIx_of hinv, List.length_map]
   have h7 : inB a.Granted 0 60 = true := by simp only [agentTop, Bool.and_eq_true] at h4; exact h4.1.1.2
   have h8 : (a.Granted == 0) = !decide (a.Granted > 0) := by
    simp only [inB, Bool.and_eq_true, decide_eq_true_eq] at h7
    rw [Bool.eq_iff_iff]; simp only [beq_iff_eq, Bool.not_eq_true', decide_eq_false_iff_not]; omega
   rw [h8, Bool.true_and, Bool.and_true]
theorem q3f_eq (a : GAgent) (hl : a.bulk <= 4000000) : F_q3f [.st (a.cs .n)] = some ⟨[.one (.b a.ok)], []⟩ := by
 obtain ⟨h1, h2, h3⟩ := agent_in hl
 (refine fun_ev rfl ?_; show Ev m_q3f.code _ _ _)
 repeat' (first | refine yy ?_ | refine ym ?_ | (apply ze;(iterate 5 exact rfl)) | (apply zf;(iterate 5 exact rfl)) | refine yp ?_ | refine yk g_q37 (q37_eq _ _ _) ?_ | refine yk g_q3c (q3c_eq _) ?_ | refine yk g_q3e (q3e_eq a.Taken _ h2) ?_ | refine yt1 ?_ | refine yt0 ?_ | refine yt ?_ ?_ | refine yo ?_ | apply zn | refine yc ?_ | exact rfl | intro _)
 ·refine fin rfl (outB ?_)
  rename_i h
  rw [not_agentTop, List.length_map] at h
  rw [GAgent.ok]
  revert h
  cases agentTop a <;> cases allIn a.Taken 1 a.Sealed.length <;> cases a.Live <;> cases decide (a.Granted > 0) <;> simp
 ·rename_i h
  rw [not_agentTop, List.length_map] at h
  have h4 : (agentTop a && allIn a.Taken 1 a.Sealed.length && (a.Live || !decide (a.Granted > 0))) = true := by
   revert h
   cases agentTop a <;> cases allIn a.Taken 1 a.Sealed.length <;> cases a.Live <;> cases decide (a.Granted > 0) <;> simp
  rw [GAgent.ok, h4, Bool.true_and]
  refine zfor (GItem.el .n) a.Sealed (fun i (_ : Unit) => [(1, .box ⟨0, 0, 0⟩ (a.cs .n)), (3, .x (iT i))]) (fun i _ => ∀ j, j < i -> sealAt a.Sealed j = true) () (by omega) rfl ?_ ?_
  ·rintro i _ x hx hlt hc _ hinv ih
   have hbx := h3 i x hx
   have hw : IntKind.i64.wrap ((i : Int) + 1) = (i : Int) + 1 := w64 (by omega)
   repeat' (first | refine yy ?_ | refine ym ?_ | (apply ze;(iterate 5 exact rfl)) | (apply zf;(iterate 5 exact rfl)) | refine yp ?_ | refine yi (GItem.el .n x) (map_at hx) ?_ | refine yk g_q3b (q3b_eq x hbx) ?_ | refine yt1 ?_ | refine yt0 ?_ | refine yt ?_ ?_ | refine yo ?_ | apply zn | refine yc ?_ | exact rfl | intro _)
   ·refine fin rfl (outB ?_)
    rename_i h5
    rw [hw, bne] at h5
    have h6 : sealAt a.Sealed i = false := by rw [sealAt_at hx]; revert h5; cases x.ok <;> simp
    rw [allIx_not hlt h6]
   ·rename_i h5
    rw [hw, bne] at h5
    have h6 : sealAt a.Sealed i = true := by rw [sealAt_at hx]; revert h5; cases x.ok <;> simp
    refine ih () (upto_succ hinv h6) _ _ ?_
    rw [w64s (by omega)]; rfl
  ·rintro _ hc _ hinv
   rw [allIx_of hinv]
   repeat' (first | refine yy ?_ | refine ym ?_ | (apply ze;(iterate 5 exact rfl)) | (apply zf;(iterate 5 exact rfl)) | refine yp ?_ | refine yt1 ?_ | refine yt0 ?_ | refine yt ?_ ?_ | refine yo ?_ | apply zn | refine yc ?_ | exact rfl | intro _)
   exact fin rfl rfl
theorem world_in {w : GWorld} (hl : w.bulk <= 4000000) : w.House.bulk <= 4000000 /\ w.Agents.length <= 4000000 /\ w.Net.length <= 4000000 /\ ∀ (i : Nat) a, w.Agents[i]? = some a -> a.bulk <= 4000000 := by
 have h1 := bulks_len GAgent.bulk w.Agents
 have h2 := bulks_len GPack.bulk w.Net
 unfold GWorld.bulk at hl
 refine ⟨by omega, by omega, by omega, fun i x hx => ?_⟩
 have := bulks_mem (f := GAgent.bulk) hx
 omega
theorem not_worldTop {w : GWorld} {b : Bool} : ((((w.Agents.map (GAgent.el .n)).length : Int) != 3 || !b) || decide (((w.Net.map (GPack.el .n)).length : Int) > 10)) = !(decide (w.Agents.length = 3) && b && decide (w.Net.length <= 10)) := by
 rw [show (3 : Int) = ((3 : Nat) : Int) from rfl, show (10 : Int) = ((10 : Nat) : Int) from rfl, len_ne, List.length_map, gt_not]
 cases decide (w.Agents.length = 3) <;> cases b <;> simp
theorem q11_eq (w : GWorld) (hl : w.bulk <= 4000000) : F_q11 [.st (w.cs .n)] = some ⟨[.one (.b (worldB w))], []⟩ := by
 obtain ⟨hh, hal, hnl, hab⟩ := world_in hl
 (refine fun_ev rfl ?_; show Ev m_q11.code _ _ _)
 repeat' (first | refine yy ?_ | refine ym ?_ | (apply ze;(iterate 5 exact rfl)) | (apply zf;(iterate 5 exact rfl)) | refine yp ?_ | refine yk g_q10 (q10_eq w.House hh) ?_ | refine yt1 ?_ | refine yt0 ?_ | refine yt ?_ ?_ | refine yo ?_ | apply zn | refine yc ?_ | exact rfl | intro _)
 ·refine fin rfl (outB ?_)
  rename_i h
  rw [not_worldTop, house_same] at h
  rw [worldB, not_t h]; rfl
 ·rename_i h
  rw [not_worldTop, house_same] at h
  have h4 : (decide (w.Agents.length = 3) && houseS w.House && decide (w.Net.length <= 10)) = true := by simpa using h
  have h3 : w.Agents.length = 3 := by simp only [Bool.and_eq_true, decide_eq_true_eq] at h4; exact h4.1.1
  rw [worldB, h4, Bool.true_and]
  refine zfor (GAgent.el .n) w.Agents (fun i (_ : Unit) => [(1, .box ⟨0, 0, 0⟩ (w.cs .n)), (24, .x (GAgent.ls .n w.Agents)), (25, .x (iT (w.Agents.map (GAgent.el .n)).length)), (26, .x (iT i))]) (fun i _ => ∀ j, j < i -> agentAt w.Agents j = true) () (by omega) rfl ?_ ?_
  ·rintro i _ a hx hlt hc _ hinv ih
   have hba := hab i a hx
   repeat' (first | refine yy ?_ | refine ym ?_ | (apply ze;(iterate 5 exact rfl)) | (apply zf;(iterate 5 exact rfl)) | refine yp ?_ | refine yi (GAgent.el .n a) (map_at hx) ?_ | refine yk g_q7 (q7_eq a hba) ?_ | refine yt1 ?_ | refine yt0 ?_ | refine yt ?_ ?_ | refine yo ?_ | apply zn | refine yc ?_ | exact rfl | intro _)
   ·refine fin rfl (outB ?_)
    rename_i h5
    rw [bne] at h5
    have h6 : agentAt w.Agents i = false := by rw [agentAt_at hx]; revert h5; cases a.ok <;> simp
    rw [allIx_not (h3 ▸ hlt) h6, Bool.false_and]
   ·rename_i h5
    rw [bne] at h5
    have h6 : agentAt w.Agents i = true := by rw [agentAt_at hx]; revert h5; cases a.ok <;> simp
    refine ih () (upto_succ hinv h6) _ _ ?_
    rw [w64s (by omega)]; rfl
  ·rintro _ hc _ hinv
   rw [allIx_of (h3 ▸ hinv), Bool.true_and]
   repeat' (first | refine yy ?_ | refine ym ?_ | (apply ze;(iterate 5 exact rfl)) | (apply zf;(iterate 5 exact rfl)) | refine yp ?_ | refine yt1 ?_ | refine yt0 ?_ | refine yt ?_ ?_ | refine yo ?_ | apply zn | refine yc ?_ | exact rfl | intro _)
   refine zfor (GPack.el .n) w.Net (fun i (_ : Unit) => [(1, .box ⟨0, 0, 0⟩ (w.cs .n)), (42, .x (GPack.ls .n w.Net)), (43, .x (iT (w.Net.map (GPack.el .n)).length)), (44, .x (iT i))]) (fun i _ => (w.Net.take i).all (fun p => inB p.To (-1) 2) = true) () (by simp) rfl ?_ ?_
   ·rintro i _ p hx hlt hc _ hinv ih
    repeat' (first | refine yy ?_ | refine ym ?_ | (apply ze;(iterate 5 exact rfl)) | (apply zf;(iterate 5 exact rfl)) | refine yp ?_ | refine yi (GPack.el .n p) (map_at hx) ?_ | refine yk g_q2 (q2_eq _ _ _) ?_ | refine yt1 ?_ | refine yt0 ?_ | refine yt ?_ ?_ | refine yo ?_ | apply zn | refine yc ?_ | exact rfl | intro _)
    ·refine fin rfl (outB ?_)
     rename_i h5
     rw [not_all (p := fun p : GPack => inB p.To (-1) 2) hx (by simpa using h5)]
    ·rename_i h5
     refine ih () (take_all (p := fun p : GPack => inB p.To (-1) 2) hinv hx (by simpa using h5)) _ _ ?_
     rw [w64s (by omega)]; rfl
   ·rintro _ hc _ hinv
    rw [take_end hinv]
    repeat' (first | refine yy ?_ | refine ym ?_ | (apply ze;(iterate 5 exact rfl)) | (apply zf;(iterate 5 exact rfl)) | refine yp ?_ | refine yt1 ?_ | refine yt0 ?_ | refine yt ?_ ?_ | refine yo ?_ | apply zn | refine yc ?_ | exact rfl | intro _)
    exact fin rfl rfl
theorem q43_eq (w : GWorld) (hl : w.bulk <= 4000000) : F_q43 [.st (w.cs .n)] = some ⟨[.one (.b (worldB w))], []⟩ := by
 obtain ⟨hh, hal, hnl, hab⟩ := world_in hl
 (refine fun_ev rfl ?_; show Ev m_q43.code _ _ _)
 repeat' (first | refine yy ?_ | refine ym ?_ | (apply ze;(iterate 5 exact rfl)) | (apply zf;(iterate 5 exact rfl)) | refine yp ?_ | refine yk g_q42 (q42_eq w.House hh) ?_ | refine yt1 ?_ | refine yt0 ?_ | refine yt ?_ ?_ | refine yo ?_ | apply zn | refine yc ?_ | exact rfl | intro _)
 ·refine fin rfl (outB ?_)
  rename_i h
  rw [not_worldTop] at h
  rw [worldB, not_t h]; rfl
 ·rename_i h
  rw [not_worldTop] at h
  have h4 : (decide (w.Agents.length = 3) && houseS w.House && decide (w.Net.length <= 10)) = true := by simpa using h
  have h3 : w.Agents.length = 3 := by simp only [Bool.and_eq_true, decide_eq_true_eq] at h4; exact h4.1.1
  rw [worldB, h4, Bool.true_and]
  refine zfor (GAgent.el .n) w.Agents (fun i (_ : Unit) => [(1, .box ⟨0, 0, 0⟩ (w.cs .n)), (3, .x (iT i))]) (fun i _ => ∀ j, j < i -> agentAt w.Agents j = true) () (by omega) rfl ?_ ?_
  ·rintro i _ a hx hlt _ _ hinv ih
   have hc : decide ((i : Int) < 3) = true := by simp; omega
   have hba := hab i a hx
   repeat' (first | refine yy ?_ | refine ym ?_ | (apply ze;(iterate 5 exact rfl)) | (apply zf;(iterate 5 exact rfl)) | refine yp ?_ | refine yi (GAgent.el .n a) (map_at hx) ?_ | refine yk g_q3f (q3f_eq a hba) ?_ | refine yt1 ?_ | refine yt0 ?_ | refine yt ?_ ?_ | refine yo ?_ | apply zn | refine yc ?_ | exact rfl | intro _)
   ·refine fin rfl (outB ?_)
    rename_i h5
    rw [bne] at h5
    have h6 : agentAt w.Agents i = false := by rw [agentAt_at hx]; revert h5; cases a.ok <;> simp
    rw [allIx_not (h3 ▸ hlt) h6, Bool.false_and]
   ·rename_i h5
    rw [bne] at h5
    have h6 : agentAt w.Agents i = true := by rw [agentAt_at hx]; revert h5; cases a.ok <;> simp
    refine ih () (upto_succ hinv h6) _ _ ?_
    rw [w64s (by omega)]; rfl
  ·rintro _ _ _ hinv
   have hc : decide ((w.Agents.length : Int) < 3) = false := by rw [h3]; rfl
   rw [allIx_of (h3 ▸ hinv), Bool.true_and]
   repeat' (first | refine yy ?_ | refine ym ?_ | (apply ze;(iterate 5 exact rfl)) | (apply zf;(iterate 5 exact rfl)) | refine yp ?_ | refine yt1 ?_ | refine yt0 ?_ | refine yt ?_ ?_ | refine yo ?_ | apply zn | refine yc ?_ | exact rfl | intro _)
   refine zfor (GPack.el .n) w.Net (fun i (_ : Unit) => [(1, .box ⟨0, 0, 0⟩ (w.cs .n)), (4, .x (iT i))]) (fun i _ => (w.Net.take i).all (fun p => inB p.To (-1) 2) = true) () (by simp) rfl ?_ ?_
   ·rintro i _ p hx hlt hc _ hinv ih
    repeat' (first | refine yy ?_ | refine ym ?_ | (apply ze;(iterate 5 exact rfl)) | (apply zf;(iterate 5 exact rfl)) | refine yp ?_ | refine yi (GPack.el .n p) (map_at hx) ?_ | refine yk g_q37 (q37_eq _ _ _) ?_ | refine yt1 ?_ | refine yt0 ?_ | refine yt ?_ ?_ | refine yo ?_ | apply zn | refine yc ?_ | exact rfl | intro _)
    ·refine fin rfl (outB ?_)
     rename_i h5
     rw [not_all (p := fun p : GPack => inB p.To (-1) 2) hx (by simpa using h5)]
    ·rename_i h5
     refine ih () (take_all (p := fun p : GPack => inB p.To (-1) 2) hinv hx (by simpa using h5)) _ _ ?_
     rw [w64s (by omega)]; rfl
   ·rintro _ hc _ hinv
    rw [take_end hinv]
    repeat' (first | refine yy ?_ | refine ym ?_ | (apply ze;(iterate 5 exact rfl)) | (apply zf;(iterate 5 exact rfl)) | refine yp ?_ | refine yt1 ?_ | refine yt0 ?_ | refine yt ?_ ?_ | refine yo ?_ | apply zn | refine yc ?_ | exact rfl | intro _)
    exact fin rfl rfl
end Go.Wr
namespace Go.Wr
set_option maxRecDepth 20000
theorem wsum {α : Type} {f : α -> Int} {l : List α} {i : Nat} {x : α} (hl : l.length <= 4000000) (hf : ∀ y ∈ l, 0 <= f y /\ f y <= 41943040000) (hx : l[i]? = some x) : IntKind.i64.wrap (sumZ f (l.take i) + f x) = sumZ f (l.take (i + 1)) := by
 have h1 := sumZ_bnd (f := f) (m := 41943040000) (by omega) (l := l.take i) fun y hy => hf y (List.mem_of_mem_take hy)
 have h2 := hf x (List.mem_of_getElem? hx)
 rw [List.length_take] at h1
 rw [sumZ_succ hx, w64 (by omega)]
theorem seat_l {s : GSeat} (hl : s.bulk <= 4000000) : s.Taken.length <= 4194304 := by unfold GSeat.bulk at hl; omega
end Go.Wr
namespace Go.Wr
set_option maxRecDepth 20000
theorem owed_w {s : GSeat} (h : (inB s.Granted 0 60 && inB s.Merged 0 60) = true) : IntKind.i64.wrap (s.Granted - s.Merged) = s.Granted - s.Merged := by
 simp only [inB, Bool.and_eq_true, decide_eq_true_eq] at h
 exact w64 (by omega)
theorem not_owed {s : GSeat} : (!inB s.Granted 0 60 || !inB s.Merged 0 60) = !(inB s.Granted 0 60 && inB s.Merged 0 60) := by cases inB s.Granted 0 60 <;> simp
theorem q4m_eq (s : GSeat) : F_q4m [.st (s.cs .n)] = some ⟨[.one (iT (owedS s))], []⟩ := by
 (refine fun_ev rfl ?_; show Ev m_q4m.code _ _ _)
 repeat' (first | refine yy ?_ | refine ym ?_ | (apply ze;(iterate 5 exact rfl)) | (apply zf;(iterate 5 exact rfl)) | refine yp ?_ | refine yk g_q2 (q2_eq _ _ _) ?_ | refine yt1 ?_ | refine yt0 ?_ | refine yt ?_ ?_ | refine yo ?_ | apply zn | refine yc ?_ | exact rfl | intro _)
 ·refine fin rfl (outI ?_)
  rename_i h
  rw [not_owed] at h
  rw [owedS, if_neg (by rw [not_t h]; simp)]
 ·rename_i h
  rw [not_owed] at h
  have hx : (if s.Granted - s.Merged > 0 then s.Granted - s.Merged else 0) = owedS s := by rw [owedS, if_pos (not_f h)]; split <;> omega
  refine fin rfl (outI ?_)
  rw [owed_w (not_f h)]
  exact hx
theorem q4o_eq (s : GSeat) : F_q4o [.st (s.cs .n)] = some ⟨[.one (iT (owedS s))], []⟩ := by
 (refine fun_ev rfl ?_; show Ev m_q4o.code _ _ _)
 repeat' (first | refine yy ?_ | refine ym ?_ | (apply ze;(iterate 5 exact rfl)) | (apply zf;(iterate 5 exact rfl)) | refine yp ?_ | refine yk g_q37 (q37_eq _ _ _) ?_ | refine yk g_q3k (q3k_eq _ _) ?_ | refine yt1 ?_ | refine yt0 ?_ | refine yt ?_ ?_ | refine yo ?_ | apply zn | refine yc ?_ | exact rfl | intro _)
 ·refine fin rfl (outI ?_)
  rename_i h
  rw [not_owed] at h
  rw [owedS, if_neg (by rw [not_t h]; simp)]
 ·rename_i h
  rw [not_owed] at h
  refine fin rfl (outI ?_)
  rw [owed_w (not_f h), owedS, if_pos (not_f h)]
theorem creditAt_at {w : GWorld} {i : Nat} {a : GAgent} {s : GSeat} {rs : List GRow} (h1 : w.Agents[i]? = some a) (h2 : w.House.Seats[i]? = some s) (h3 : w.House.Rows[i]? = some rs) :
  creditAt w i = (!decide (owedS s > w.House.Conf.Per) && !decide (rowsN rs > setSize s.Taken - s.Merged) && !decide (a.Epoch > s.Epoch) && !(a.Epoch == s.Epoch && (decide (a.Granted > w.House.Conf.Per + s.Merged) || !w.House.Closed && decide (a.Granted > s.Granted)))) := by simp [creditAt, h1, h2, h3]
theorem house_conf {h : GHouse} (hh : houseS h = true) : 1 <= h.Conf.Per /\ h.Conf.Per <= 8 := by
 simp only [houseS, GConf.ok, Bool.and_eq_true, inB, decide_eq_true_eq] at hh
 omega
theorem seat_b {s : GSeat} {per : Int} (h : s.ok per = true) (hl : s.bulk <= 4000000) : 0 <= s.Merged /\ s.Merged <= setSize s.Taken /\ setSize s.Taken <= 41943040000 := by
 simp only [GSeat.ok, Bool.and_eq_true, inB, decide_eq_true_eq] at h
 have := setSize_bnd (seat_l hl)
 omega
theorem rows_f {h : GHouse} (hl : h.bulk <= 4000000) {i : Nat} {rs : List GRow} (hx : h.Rows[i]? = some rs) : rs.length <= 4000000 /\ ∀ r ∈ rs, 0 <= (r.Lst.length : Int) /\ (r.Lst.length : Int) <= 41943040000 := by
 have h1 := bulks_mem (f := bulks GRow.bulk) hx
 have h2 := bulks_len GRow.bulk rs
 unfold GHouse.bulk at hl
 refine ⟨by omega, fun r hr => ?_⟩
 obtain ⟨k, hk⟩ := List.mem_iff_getElem?.1 hr
 have h3 := bulks_mem (f := GRow.bulk) hk
 have h4 : r.Lst.length <= r.bulk := bulks_len GEntry.bulk r.Lst
 omega
end Go.Wr
namespace Go.Wr
set_option maxRecDepth 20000
theorem q4n_eq (w : GWorld) (hl : w.bulk <= 4000000) : F_q4n [.st (w.cs .n)] = some ⟨[.one (.b (creditW w))], []⟩ := by
 obtain ⟨hh, hal, hnl, hab⟩ := world_in hl
 (refine fun_ev rfl ?_; show Ev m_q4n.code _ _ _)
 repeat' (first | refine yy ?_ | refine ym ?_ | (apply ze;(iterate 5 exact rfl)) | (apply zf;(iterate 5 exact rfl)) | refine yp ?_ | refine yk g_q11 (q11_eq w hl) ?_ | refine yt1 ?_ | refine yt0 ?_ | refine yt ?_ ?_ | refine yo ?_ | apply zn | refine yc ?_ | exact rfl | intro _)
 ·refine fin rfl (outB ?_)
  rename_i h
  rw [creditW, not_t h]; rfl
 ·rename_i h
  have hw := not_f h
  obtain ⟨h3, hhs, hag⟩ := world_agents hw
  obtain ⟨hs3, hr3, hr2, hso⟩ := house_seats hhs
  have hcf := house_conf hhs
  rw [creditW, hw, Bool.true_and]
  refine zfor (GSeat.el .n) w.House.Seats (fun i (_ : Unit) => [(1, .box ⟨0, 0, 0⟩ (w.cs .n)), (3, .x (iT w.House.Conf.Per)), (19, .x (GSeat.ls .n w.House.Seats)), (20, .x (iT (w.House.Seats.map (GSeat.el .n)).length)), (21, .x (iT i))]) (fun i _ => ∀ j, j < i -> creditAt w j = true) () (by omega) rfl ?_ ?_
  ·rintro i _ s hx hlt hc _ hinv ih
   have hxa := List.getElem?_eq_getElem (show i < w.Agents.length by omega)
   generalize w.Agents[i]'(by omega) = a at hxa
   have hxr := List.getElem?_eq_getElem (show i < w.House.Rows.length by omega)
   generalize w.House.Rows[i]'(by omega) = rs at hxr
   have hbs := seat_in hh hx
   have htl := seat_l hbs
   have hsb := seat_b (hso s (List.mem_of_getElem? hx)) hbs
   obtain ⟨hrl, hrf⟩ := rows_f hh hxr
   have hw1 : IntKind.i64.wrap (setSize s.Taken - s.Merged) = setSize s.Taken - s.Merged := w64 (by omega)
   have hw2 : IntKind.i64.wrap (w.House.Conf.Per + s.Merged) = w.House.Conf.Per + s.Merged := w64 (by omega)
   have hcr := creditAt_at hxa hx hxr
   repeat' (first | refine yy ?_ | refine ym ?_ | (apply ze;(iterate 5 exact rfl)) | (apply zf;(iterate 5 exact rfl)) | refine yp ?_ | refine yi (GSeat.el .n s) (map_at hx) ?_ | refine yi (GAgent.el .n a) (map_at hxa) ?_ | refine yi (GRow.ls .n rs) (map_at hxr) ?_ | refine yt1 ?_ | refine yt0 ?_ | refine yt ?_ ?_ | refine yo ?_ | apply zn | refine yc ?_ | exact rfl | intro _)
   refine zfor (GRow.el .n) rs (fun k (n : Int) => [(1, .box ⟨0, 0, 0⟩ (w.cs .n)), (3, .x (iT w.House.Conf.Per)), (5, .box ⟨0, 0, 0⟩ (s.cs .n)), (6, .box ⟨0, 0, 0⟩ (a.cs .n)), (7, .x (iT n)), (19, .x (GSeat.ls .n w.House.Seats)), (20, .x (iT (w.House.Seats.map (GSeat.el .n)).length)), (21, .x (iT i)), (36, .x (GRow.ls .n rs)), (37, .x (iT (rs.map (GRow.el .n)).length)), (38, .x (iT k))]) (fun k n => n = sumZ (fun r : GRow => (r.Lst.length : Int)) (rs.take k)) 0 rfl rfl ?_ ?_
   ·rintro k n r hy hlt2 hc2 _ hinv2 ih2
    have hw3 := wsum hrl hrf hy
    repeat' (first | refine yy ?_ | refine ym ?_ | (apply ze;(iterate 5 exact rfl)) | (apply zf;(iterate 5 exact rfl)) | refine yp ?_ | refine yi (GRow.el .n r) (map_at hy) ?_ | refine yt1 ?_ | refine yt0 ?_ | refine yt ?_ ?_ | refine yo ?_ | apply zn | refine yc ?_ | exact rfl | intro _)
    refine ih2 _ rfl _ _ ?_
    rw [hinv2, (show ((r.Lst.map (GEntry.el .n)).length : Int) = r.Lst.length by rw [List.length_map]), hw3, w64s (by omega)]; rfl
   ·rintro n hc2 _ hinv2
    rw [List.take_length] at hinv2
    have hn : n = rowsN rs := hinv2
    repeat' (first | refine yy ?_ | refine ym ?_ | (apply ze;(iterate 5 exact rfl)) | (apply zf;(iterate 5 exact rfl)) | refine yp ?_ | refine yk g_q4m (q4m_eq s) ?_ | refine yk g_qs (qs_eq s.Taken htl) ?_ | refine yt1 ?_ | refine yt0 ?_ | refine yt ?_ ?_ | refine yo ?_ | apply zn | refine yc ?_ | exact rfl | intro _)
    ·refine fin rfl (outB ?_)
     rename_i h5
     rw [hw1, hn] at h5
     have h6 : creditAt w i = false := by
      rw [hcr]; revert h5
      cases decide (owedS s > w.House.Conf.Per) <;> cases decide (rowsN rs > setSize s.Taken - s.Merged) <;> cases decide (a.Epoch > s.Epoch) <;> simp
     rw [allIx_not (hs3 ▸ hlt) h6]
    ·refine fin rfl (outB ?_)
     rename_i h5 h7
     rw [hw2] at h7
     have h6 : creditAt w i = false := by rw [hcr, h7]; simp
     rw [allIx_not (hs3 ▸ hlt) h6]
    ·rename_i h5 h7
     rw [hw1, hn] at h5
     rw [hw2] at h7
     have h6 : creditAt w i = true := by
      rw [hcr, h7]; revert h5
      cases decide (owedS s > w.House.Conf.Per) <;> cases decide (rowsN rs > setSize s.Taken - s.Merged) <;> cases decide (a.Epoch > s.Epoch) <;> simp
     refine ih () (upto_succ hinv h6) _ _ ?_
     rw [w64s (by omega)]; rfl
  ·rintro _ hc _ hinv
   rw [allIx_of (hs3 ▸ hinv)]
   repeat' (first | refine yy ?_ | refine ym ?_ | (apply ze;(iterate 5 exact rfl)) | (apply zf;(iterate 5 exact rfl)) | refine yp ?_ | refine yt1 ?_ | refine yt0 ?_ | refine yt ?_ ?_ | refine yo ?_ | apply zn | refine yc ?_ | exact rfl | intro _)
   exact fin rfl rfl
theorem q4p_eq (w : GWorld) (hl : w.bulk <= 4000000) : F_q4p [.st (w.cs .n)] = some ⟨[.one (.b (creditW w))], []⟩ := by
 obtain ⟨hh, hal, hnl, hab⟩ := world_in hl
 (refine fun_ev rfl ?_; show Ev m_q4p.code _ _ _)
 repeat' (first | refine yy ?_ | refine ym ?_ | (apply ze;(iterate 5 exact rfl)) | (apply zf;(iterate 5 exact rfl)) | refine yp ?_ | refine yk g_q43 (q43_eq w hl) ?_ | refine yt1 ?_ | refine yt0 ?_ | refine yt ?_ ?_ | refine yo ?_ | apply zn | refine yc ?_ | exact rfl | intro _)
 ·refine fin rfl (outB ?_)
  rename_i h
  rw [creditW, not_t h]; rfl
 ·rename_i h
  have hw := not_f h
  obtain ⟨h3, hhs, hag⟩ := world_agents hw
  obtain ⟨hs3, hr3, hr2, hso⟩ := house_seats hhs
  have hcf := house_conf hhs
  rw [creditW, hw, Bool.true_and]
  refine zfor (GSeat.el .n) w.House.Seats (fun i (_ : Unit) => [(1, .box ⟨0, 0, 0⟩ (w.cs .n)), (3, .x (iT i))]) (fun i _ => ∀ j, j < i -> creditAt w j = true) () (by omega) rfl ?_ ?_
  ·rintro i _ s hx hlt _ _ hinv ih
   have hc : decide ((i : Int) < 3) = true := by simp; omega
   have hxa := List.getElem?_eq_getElem (show i < w.Agents.length by omega)
   generalize w.Agents[i]'(by omega) = a at hxa
   have hxr := List.getElem?_eq_getElem (show i < w.House.Rows.length by omega)
   generalize w.House.Rows[i]'(by omega) = rs at hxr
   have hrs2 := hr2 rs (List.mem_of_getElem? hxr)
   have hbs := seat_in hh hx
   have htl := seat_l hbs
   have hsb := seat_b (hso s (List.mem_of_getElem? hx)) hbs
   obtain ⟨hrl, hrf⟩ := rows_f hh hxr
   have hw1 : IntKind.i64.wrap (setSize s.Taken - s.Merged) = setSize s.Taken - s.Merged := w64 (by omega)
   have hw2 : IntKind.i64.wrap (s.Merged + w.House.Conf.Per) = w.House.Conf.Per + s.Merged := by rw [w64 (by omega)]; omega
   have hcr := creditAt_at hxa hx hxr
   repeat' (first | refine yy ?_ | refine ym ?_ | (apply ze;(iterate 5 exact rfl)) | (apply zf;(iterate 5 exact rfl)) | refine yp ?_ | refine yi (GSeat.el .n s) (map_at hx) ?_ | refine yt1 ?_ | refine yt0 ?_ | refine yt ?_ ?_ | refine yo ?_ | apply zn | refine yc ?_ | exact rfl | intro _)
   refine zfor (GRow.el .n) rs (fun k (n : Int) => [(1, .box ⟨0, 0, 0⟩ (w.cs .n)), (3, .x (iT i)), (4, .box ⟨0, 0, 0⟩ (s.cs .n)), (5, .x (iT n)), (6, .x (iT k))]) (fun k n => n = sumZ (fun r : GRow => (r.Lst.length : Int)) (rs.take k)) 0 rfl rfl ?_ ?_
   ·rintro k n r hy hlt2 _ _ hinv2 ih2
    have hc2 : decide ((k : Int) < 2) = true := by simp; omega
    have hw3 := wsum hrl hrf hy
    repeat' (first | refine yy ?_ | refine ym ?_ | (apply ze;(iterate 5 exact rfl)) | (apply zf;(iterate 5 exact rfl)) | refine yp ?_ | refine yi (GRow.ls .n rs) (map_at hxr) ?_ | refine yi (GRow.el .n r) (map_at hy) ?_ | refine yt1 ?_ | refine yt0 ?_ | refine yt ?_ ?_ | refine yo ?_ | apply zn | refine yc ?_ | exact rfl | intro _)
    refine ih2 _ rfl _ _ ?_
    rw [hinv2, (show ((r.Lst.map (GEntry.el .n)).length : Int) = r.Lst.length by rw [List.length_map]), hw3, w64s (by omega)]; rfl
   ·rintro n _ _ hinv2
    have hc2 : decide ((rs.length : Int) < 2) = false := by simp; omega
    rw [List.take_length] at hinv2
    have hn : n = rowsN rs := hinv2
    repeat' (first | refine yy ?_ | refine ym ?_ | (apply ze;(iterate 5 exact rfl)) | (apply zf;(iterate 5 exact rfl)) | refine yp ?_ | refine yk g_q4o (q4o_eq s) ?_ | refine yk g_q3t (q3t_eq s.Taken htl) ?_ | refine yi (GAgent.el .n a) (map_at hxa) ?_ | refine yt1 ?_ | refine yt0 ?_ | refine yt ?_ ?_ | refine yo ?_ | apply zn | refine yc ?_ | exact rfl | intro _)
    ·refine fin rfl (outB ?_)
     rename_i h5
     rw [hw1, hn] at h5
     have h6 : creditAt w i = false := by
      rw [hcr]; revert h5
      cases decide (owedS s > w.House.Conf.Per) <;> cases decide (rowsN rs > setSize s.Taken - s.Merged) <;> simp
     rw [allIx_not (hs3 ▸ hlt) h6]
    ·refine fin rfl (outB ?_)
     rename_i h5 h7
     rw [hw2] at h7
     have h6 : creditAt w i = false := by
      rw [hcr]; revert h7
      generalize (a.Epoch == s.Epoch && (decide (a.Granted > w.House.Conf.Per + s.Merged) || !w.House.Closed && decide (a.Granted > s.Granted))) = c
      cases decide (a.Epoch > s.Epoch) <;> cases c <;> simp
     rw [allIx_not (hs3 ▸ hlt) h6]
    ·rename_i h5 h7
     rw [hw1, hn] at h5
     rw [hw2] at h7
     have h6 : creditAt w i = true := by
      rw [hcr]; revert h5 h7
      generalize (a.Epoch == s.Epoch && (decide (a.Granted > w.House.Conf.Per + s.Merged) || !w.House.Closed && decide (a.Granted > s.Granted))) = c
      cases decide (owedS s > w.House.Conf.Per) <;> cases decide (rowsN rs > setSize s.Taken - s.Merged) <;> cases decide (a.Epoch > s.Epoch) <;> cases c <;> simp
     refine ih () (upto_succ hinv h6) _ _ ?_
     rw [w64s (by omega)]; rfl
  ·rintro _ _ _ hinv
   have hc : decide ((w.House.Seats.length : Int) < 3) = false := by rw [hs3]; rfl
   rw [allIx_of (hs3 ▸ hinv)]
   repeat' (first | refine yy ?_ | refine ym ?_ | (apply ze;(iterate 5 exact rfl)) | (apply zf;(iterate 5 exact rfl)) | refine yp ?_ | refine yt1 ?_ | refine yt0 ?_ | refine yt ?_ ?_ | refine yo ?_ | apply zn | refine yc ?_ | exact rfl | intro _)
   exact fin rfl rfl
end Go.Wr
namespace Go.Wr
set_option maxRecDepth 20000
def mOf (x : GSpan) : List Int := (List.range (x.Hi - x.Lo + 1).toNat).map fun k => x.Lo + (k : Nat)
theorem membersL_eq (s : List GSpan) : membersL s = (s.map mOf).flatten := by rw [membersL, List.flatMap_def]; rfl
theorem mOf_len (x : GSpan) : (mOf x).length = (x.Hi - x.Lo + 1).toNat := by simp [mOf]
theorem mOf_at {x : GSpan} {k : Nat} {y : Int} (h : (mOf x)[k]? = some y) : y = x.Lo + (k : Nat) /\ x.Lo + (k : Nat) <= x.Hi := by
 have hk := (List.getElem?_eq_some_iff.1 h).1
 rw [mOf_len] at hk
 rw [mOf, List.getElem?_map, List.getElem?_range hk] at h
 simp at h
 omega
theorem members_len : ∀ {s : List GSpan}, SetR s -> ((membersL s).length : Int) = sumSpan s
 | [], _ => rfl
 | x :: s, hs => by
  have h1 := members_len hs.tail
  have h2 := hs.one
  unfold SpanR at h2
  rw [membersL_eq] at h1 ⊢
  rw [List.map_cons, List.flatten_cons, List.length_append, mOf_len]
  unfold sumSpan at h1 ⊢
  rw [List.map_cons, List.sum_cons]
  omega
theorem members_le {s : List GSpan} (hs : SetR s) : (membersL s).length <= 10000 := by
 have h1 := members_len hs
 have h2 := sumSpan_le (lo := 0) (m := 9999) hs (fun x hx => by have := hs.span hx; unfold SpanR at this; omega) (by omega)
 omega
theorem q4s_eq (s : List GSpan) (hl : s.length <= 4194304) (hs : SetR s) : F_q4s [.x (GSpan.ls .n s)] = some ⟨[.one (ints .y (membersL s))], []⟩ := by
 have hml := members_le hs
 (refine fun_ev rfl ?_; show Ev m_q4s.code _ _ _)
 repeat' (first | refine yt1 ?_ | refine yt0 ?_ | refine yt ?_ ?_ | refine yo ?_ | apply zn | refine yc ?_ | intro _)
 refine zfor (GSpan.el .n) s (fun i (es : List T) => [(3, .own ⟨0, 0, 0⟩ (.l .y 1 es)), (7, .x (GSpan.ls .n s)), (8, .x (iT (s.map (GSpan.el .n)).length)), (9, .x (iT i))]) (fun i es => es = (((s.take i).map mOf).flatten).map iT) [] rfl rfl ?_ ?_
 ·rintro i es x hx hlt hc _ hinv ih
  have hsp := hs.span (List.mem_of_getElem? hx)
  unfold SpanR at hsp
  have hb := flat_bnd (f := mOf) hx
  rw [<- membersL_eq s] at hb
  repeat' (first | refine yi (GSpan.el .n x) (map_at hx) ?_ | refine yt1 ?_ | refine yt0 ?_ | refine yt ?_ ?_ | refine yo ?_ | apply zn | refine yc ?_ | intro _)
  refine zfor iT (mOf x) (fun k (es : List T) => [(3, .own ⟨0, 0, 0⟩ (.l .y 1 es)), (5, .box ⟨0, 0, 0⟩ (x.cs .n)), (6, .x (iT (x.Lo + (k : Nat)))), (7, .x (GSpan.ls .n s)), (8, .x (iT (s.map (GSpan.el .n)).length)), (9, .x (iT i))]) (fun k es => es = (((s.take i).map mOf).flatten ++ (mOf x).take k).map iT) es (by rw [hinv]; simp) (by rw [show x.Lo + ((0 : Nat) : Int) = x.Lo by omega]; rfl) ?_ ?_
  ·rintro k es y hy hlt2 _ _ hinv2 ih2
   obtain ⟨rfl, hle⟩ := mOf_at hy
   have hc2 : decide (x.Lo + ((k : Nat) : Int) <= x.Hi) = true := by simpa using hle
   have happ : es.length + [iT (x.Lo + ((k : Nat) : Int))].length < lenMax := by
    show es.length + 1 < lenMax
    rw [hinv2, List.length_map, List.length_append, List.length_take]
    unfold lenMax; omega
   repeat' (first | (apply zv;(iterate 7 exact rfl);exact (happ);exact (rfl);exact rfl;exact rfl) | refine yt1 ?_ | refine yt0 ?_ | refine yt ?_ ?_ | refine yo ?_ | apply zn | refine yc ?_ | intro _)
   refine ih2 (es ++ [iT (x.Lo + ((k : Nat) : Int))]) ?_ _ _ ?_
   ·rw [hinv2, List.take_add_one, hy]; simp
   ·rw [show IntKind.i64.wrap (x.Lo + ((k : Nat) : Int) + 1) = x.Lo + ((k + 1 : Nat) : Int) by rw [w64 (by omega)]; omega]; rfl
  ·rintro es _ _ hinv2
   have hc2 : decide (x.Lo + (((mOf x).length : Nat) : Int) <= x.Hi) = false := by rw [mOf_len]; simp; omega
   rw [List.take_length] at hinv2
   repeat' (first | refine yt1 ?_ | refine yt0 ?_ | refine yt ?_ ?_ | refine yo ?_ | apply zn | refine yc ?_ | intro _)
   refine ih es ?_ _ _ ?_
   ·rw [hinv2, flat_succ hx]
   ·rw [w64s (by omega)]; rfl
 ·rintro es hc _ hinv
  rw [List.take_length, <- membersL_eq] at hinv
  subst hinv
  repeat' (first | refine yt1 ?_ | refine yt0 ?_ | refine yt ?_ ?_ | refine yo ?_ | apply zn | refine yc ?_ | intro _)
  exact fin rfl (by simp only [sub_all])
theorem q4r_eq (s : List GSpan) (hl : s.length <= 4194304) : F_q4r [.x (GSpan.ls .n s)] = some ⟨[.one (iT (greatestS s))], []⟩ := by
 rcases Nat.eq_zero_or_pos s.length with h0 | h0
 ·obtain rfl := List.eq_nil_of_length_eq_zero h0
  have h3 : (((([] : List GSpan).map (GSpan.el .n)).length : Int) == 0) = true := rfl
  (refine fun_ev rfl ?_; show Ev m_q4r.code _ _ _)
  repeat' (first | refine yt1 ?_ | refine yt0 ?_ | refine yt ?_ ?_ | refine yo ?_ | apply zn | refine yc ?_ | intro _)
  exact fin rfl rfl
 ·have h2 : (((s.map (GSpan.el .n)).length : Int) == 0) = false := by
   have : ((s.length : Int) == 0) = false := by rw [beq_eq_false_iff_ne]; omega
   rwa [List.length_map]
  have hb := List.getElem?_eq_getElem (show s.length - 1 < s.length by omega)
  generalize s[s.length - 1]'_ = b at hb
  have hk : IntKind.i64.wrap (((s.map (GSpan.el .n)).length : Int) - 1) = ((s.length - 1 : Nat) : Int) := by rw [List.length_map, w64 (by omega)]; omega
  have hk0 : 0 <= IntKind.i64.wrap (((s.map (GSpan.el .n)).length : Int) - 1) := by rw [hk]; omega
  have hkp : (s.map (GSpan.el .n))[(IntKind.i64.wrap (((s.map (GSpan.el .n)).length : Int) - 1)).toNat]? = some (GSpan.el .n b) := by rw [hk]; exact map_at hb
  (refine fun_ev rfl ?_; show Ev m_q4r.code _ _ _)
  repeat' (first | refine yj (GSpan.el .n b) (hk0) (hkp) ?_ | refine yt1 ?_ | refine yt0 ?_ | refine yt ?_ ?_ | refine yo ?_ | apply zn | refine yc ?_ | intro _)
  refine fin rfl (outI ?_)
  rw [greatestS, List.getLast?_eq_getElem?, hb]
theorem q4t_eq (n : Int) (b : List GSpan) (hl : b.length <= 4194304) : F_q4t [.x (iT n), .x (.p (GSpan.ls .n b))] = some ⟨[.one (.b (!setHas b n))], []⟩ := by
 (refine fun_ev rfl ?_; show Ev m_q4t.code _ _ _)
 repeat' (first | refine yk g_qc (qc_eq b n hl) ?_ | refine yo ?_ | apply zn | refine yc ?_ | intro _)
 exact fin rfl rfl
theorem q4u_eq (s : List Int) (b : List GSpan) (hl : s.length <= 4194304) (hb : b.length <= 4194304) (k : Int) (hk : k = match s.findIdx? (fun x => !setHas b x) with | some i => (i : Int) | none => -1) : F_q4u [.x (ints .n s), .x (.f g_q4t [.p (GSpan.ls .n b)])] = some ⟨[.one (iT k)], []⟩ := by
 (refine fun_ev rfl ?_; show Ev m_q4u.code _ _ _)
 repeat' (first | refine yt1 ?_ | refine yt0 ?_ | refine yt ?_ ?_ | refine yo ?_ | apply zn | refine yc ?_ | intro _)
 refine zfor iT s (fun i (_ : Unit) => [(0, .x (ints .n s)), (1, .x (.f g_q4t [.p (GSpan.ls .n b)])), (7, .x (iT (s.map iT).length)), (8, .x (iT i))]) (fun i _ => ∀ j x, j < i -> s[j]? = some x -> (!setHas b x) = false) () (by omega) rfl ?_ ?_
 ·rintro i _ x hx hlt hc _ hinv ih
  repeat' (first | refine yi (iT x) (map_at hx) ?_ | refine yd (q4t_eq x b hb) ?_ | refine yt1 ?_ | refine yt0 ?_ | refine yt ?_ ?_ | refine yo ?_ | apply zn | refine yc ?_ | intro _)
  ·refine fin rfl (outI ?_)
   rename_i h
   have h3 : s.findIdx? (fun x => !setHas b x) = some i := by
    rw [List.findIdx?_eq_some_iff_getElem]
    refine ⟨hlt, ?_, fun j hj => ?_⟩
    ·rw [(List.getElem?_eq_some_iff.1 hx).2]; exact h
    ·rw [hinv j _ hj (List.getElem?_eq_getElem (by omega))]; simp
   rw [hk, h3]
  ·rename_i h
   refine ih () ?_ _ _ ?_
   ·intro j y hj hy
    rcases Nat.lt_succ_iff_lt_or_eq.1 hj with h1 | rfl
    ·exact hinv j y h1 hy
    ·rw [hx] at hy; cases hy; exact h
   ·rw [w64s (by omega)]; rfl
 ·rintro _ hc _ hinv
  repeat' (first | refine yt1 ?_ | refine yt0 ?_ | refine yt ?_ ?_ | refine yo ?_ | apply zn | refine yc ?_ | intro _)
  refine fin rfl (outI ?_)
  have h3 : s.findIdx? (fun x => !setHas b x) = none := by
   rw [List.findIdx?_eq_none_iff]
   intro x hx
   obtain ⟨j, hj⟩ := List.mem_iff_getElem?.1 hx
   exact hinv j x (List.getElem?_eq_some_iff.1 hj).1 hj
  rw [hk, h3]
theorem q4v_eq (s : List Int) (b : List GSpan) (hl : s.length <= 4194304) (hb : b.length <= 4194304) : F_q4v [.x (ints .n s), .x (.f g_q4t [.p (GSpan.ls .n b)])] = some ⟨[.one (.b (s.any fun x => !setHas b x))], []⟩ := by
 (refine fun_ev rfl ?_; show Ev m_q4v.code _ _ _)
 repeat' (first | refine yk g_q4u (q4u_eq s b hl hb _ rfl) ?_ | refine yo ?_ | apply zn | refine yc ?_ | intro _)
 refine fin rfl (outB ?_)
 cases h : s.findIdx? (fun x => !setHas b x) with
 | none =>
  rw [List.findIdx?_eq_none_iff] at h
  rw [eq_comm]
  show _ = false
  rw [List.any_eq_false]
  intro x hx; rw [h x hx]; simp
 | some i =>
  rw [List.findIdx?_eq_some_iff_getElem] at h
  obtain ⟨hi, h, _⟩ := h
  rw [eq_comm, List.any_eq_true.2 ⟨_, List.getElem_mem hi, h⟩]
  simp
theorem boxT_sp (b : List GSpan) : boxT [GSpan.ls .n b] = GSpan.ls .n b := by simp only [boxT, fzs, T.fz, fz_map, GSpan.fze]
theorem q4w_eq (a b : List GSpan) (hl : a.length <= 4194304) (ha : SetR a) (hb : b.length <= 4194304) : F_q4w [.x (GSpan.ls .n a), .x (GSpan.ls .n b)] = some ⟨[.one (.b (!((membersL a).any fun n => !setHas b n)))], []⟩ := by
 have hml := members_le ha
 (refine fun_ev rfl ?_; show Ev m_q4w.code _ _ _)
 repeat' (first | refine yk g_q4s (q4s_eq a hl ha) ?_ | (apply zk g_q4v;exact rfl;simp only [List.map,fzl,boxT_sp];exact rfl;exact (q4v_eq (membersL a) b (by omega) hb);exact rfl;exact rfl;exact rfl) | refine yo ?_ | apply zn | refine yc ?_ | intro _)
 exact fin rfl rfl
theorem q4y_eq (s : List GSpan) (n : Int) (hl : s.length <= 4194304) : F_q4y [.x (GSpan.ls .n s), .x (iT n)] = some ⟨[.one (.b (setHas s n))], []⟩ := by
 (refine fun_ev rfl ?_; show Ev m_q4y.code _ _ _)
 repeat' (first | refine yt1 ?_ | refine yt0 ?_ | refine yt ?_ ?_ | refine yo ?_ | apply zn | refine yc ?_ | intro _)
 refine zfor (GSpan.el .n) s (fun i (_ : Unit) => [(0, .x (GSpan.ls .n s)), (1, .x (iT n)), (5, .x (iT i))]) (fun i _ => (s.take i).all (fun x => !inB n x.Lo x.Hi) = true) () (by simp) rfl ?_ ?_
 ·rintro i _ x hx hlt hc _ hinv ih
  repeat' (first | refine yi (GSpan.el .n x) (map_at hx) ?_ | refine yk g_q37 (q37_eq _ _ _) ?_ | refine yt1 ?_ | refine yt0 ?_ | refine yt ?_ ?_ | refine yo ?_ | apply zn | refine yc ?_ | intro _)
  ·refine fin rfl (outB ?_)
   rename_i h
   rw [setHas, List.any_eq_true.2 ⟨x, List.mem_of_getElem? hx, h⟩]
  ·rename_i h
   refine ih () (take_all (p := fun x : GSpan => !inB n x.Lo x.Hi) hinv hx (by rw [h]; rfl)) _ _ ?_
   rw [w64s (by omega)]; rfl
 ·rintro _ hc _ hinv
  have h := take_end hinv
  repeat' (first | refine yt1 ?_ | refine yt0 ?_ | refine yt ?_ ?_ | refine yo ?_ | apply zn | refine yc ?_ | intro _)
  refine fin rfl (outB ?_)
  rw [setHas, eq_comm, List.any_eq_false]
  intro x hx
  have := List.all_eq_true.1 h x hx
  simpa using this
end Go.Wr
namespace Go.Wr
set_option maxRecDepth 20000
theorem q4x_eq (w : GWorld) (hl : w.bulk <= 4000000) : F_q4x [.st (w.cs .n)] = some ⟨[.one (.b (knownJ w))], []⟩ := by
 obtain ⟨hh, hal, hnl, hab⟩ := world_in hl
 (refine fun_ev rfl ?_; show Ev m_q4x.code _ _ _)
 repeat' (first | refine yy ?_ | refine ym ?_ | (apply ze;(iterate 5 exact rfl)) | (apply zf;(iterate 5 exact rfl)) | refine yp ?_ | refine yk g_q11 (q11_eq w hl) ?_ | refine yt1 ?_ | refine yt0 ?_ | refine yt ?_ ?_ | refine yo ?_ | apply zn | refine yc ?_ | exact rfl | intro _)
 ·refine fin rfl (outB ?_)
  rename_i h
  rw [knownJ, not_t h]; rfl
 ·rename_i h
  have hw := not_f h
  obtain ⟨h3, hhs, hag⟩ := world_agents hw
  obtain ⟨hs3, hr3, hr2, hso⟩ := house_seats hhs
  rw [knownJ, hw, Bool.true_and]
  refine zfor (GSeat.el .n) w.House.Seats (fun i (_ : Unit) => [(1, .box ⟨0, 0, 0⟩ (w.cs .n)), (10, .x (GSeat.ls .n w.House.Seats)), (11, .x (iT (w.House.Seats.map (GSeat.el .n)).length)), (12, .x (iT i))]) (fun i _ => ∀ j, j < i -> knownAt w j = true) () (by omega) rfl ?_ ?_
  ·rintro i _ s hx hlt hc _ hinv ih
   have hxa := List.getElem?_eq_getElem (show i < w.Agents.length by omega)
   generalize w.Agents[i]'(by omega) = a at hxa
   have hsok := hso s (List.mem_of_getElem? hx)
   have haok := (hag i a hxa).1
   have hat : knownAt w i = knownI a s := by
    rw [known_same haok hsok, knownAt, hxa, hx]
   have htl := seat_l (seat_in hh hx)
   have hta := (agent_in (hab i a hxa)).2.1
   have hra : SetR a.Taken := (agent_size haok).2.2.1
   repeat' (first | refine yy ?_ | refine ym ?_ | (apply ze;(iterate 5 exact rfl)) | (apply zf;(iterate 5 exact rfl)) | refine yp ?_ | refine yi (GSeat.el .n s) (map_at hx) ?_ | refine yi (GAgent.el .n a) (map_at hxa) ?_ | refine yk g_q4w (q4w_eq a.Taken s.Taken hta hra htl) ?_ | refine yk g_q4r (q4r_eq s.Taken htl) ?_ | refine yt1 ?_ | refine yt0 ?_ | refine yt ?_ ?_ | refine yo ?_ | apply zn | refine yc ?_ | exact rfl | intro _)
   ·refine fin rfl (outB ?_)
    rename_i h5
    rw [List.length_map] at h5
    have h6 : knownAt w i = false := by
     rw [hat, knownI]; revert h5
     cases (membersL a.Taken).any fun n => !setHas s.Taken n <;> cases decide (greatestS s.Taken > (a.Sealed.length : Int)) <;> simp
    rw [allIx_not (hs3 ▸ hlt) h6]
   ·rename_i h5
    rw [List.length_map] at h5
    have h6 : knownAt w i = true := by
     rw [hat, knownI]; revert h5
     cases (membersL a.Taken).any fun n => !setHas s.Taken n <;> cases decide (greatestS s.Taken > (a.Sealed.length : Int)) <;> simp
    refine ih () (upto_succ hinv h6) _ _ ?_
    rw [w64s (by omega)]; rfl
  ·rintro _ hc _ hinv
   rw [allIx_of (hs3 ▸ hinv)]
   repeat' (first | refine yy ?_ | refine ym ?_ | (apply ze;(iterate 5 exact rfl)) | (apply zf;(iterate 5 exact rfl)) | refine yp ?_ | refine yt1 ?_ | refine yt0 ?_ | refine yt ?_ ?_ | refine yo ?_ | apply zn | refine yc ?_ | exact rfl | intro _)
   exact fin rfl rfl
theorem q4z_eq (w : GWorld) (hl : w.bulk <= 4000000) : F_q4z [.st (w.cs .n)] = some ⟨[.one (.b (knownJ w))], []⟩ := by
 obtain ⟨hh, hal, hnl, hab⟩ := world_in hl
 (refine fun_ev rfl ?_; show Ev m_q4z.code _ _ _)
 repeat' (first | refine yy ?_ | refine ym ?_ | (apply ze;(iterate 5 exact rfl)) | (apply zf;(iterate 5 exact rfl)) | refine yp ?_ | refine yk g_q43 (q43_eq w hl) ?_ | refine yt1 ?_ | refine yt0 ?_ | refine yt ?_ ?_ | refine yo ?_ | apply zn | refine yc ?_ | exact rfl | intro _)
 ·refine fin rfl (outB ?_)
  rename_i h
  rw [knownJ, not_t h]; rfl
 ·rename_i h
  have hw := not_f h
  obtain ⟨h3, hhs, hag⟩ := world_agents hw
  obtain ⟨hs3, hr3, hr2, hso⟩ := house_seats hhs
  rw [knownJ, hw, Bool.true_and]
  refine zfor (GSeat.el .n) w.House.Seats (fun i (_ : Unit) => [(1, .box ⟨0, 0, 0⟩ (w.cs .n)), (3, .x (iT i))]) (fun i _ => ∀ j, j < i -> knownAt w j = true) () (by omega) rfl ?_ ?_
  ·rintro i _ s hx hlt _ _ hinv ih
   have hc : decide ((i : Int) < 3) = true := by simp; omega
   have hxa := List.getElem?_eq_getElem (show i < w.Agents.length by omega)
   generalize w.Agents[i]'(by omega) = a at hxa
   have hat : knownAt w i = allIx 60 (knownSeq a s) := by rw [knownAt, hxa, hx]
   have htl := seat_l (seat_in hh hx)
   have hta := (agent_in (hab i a hxa)).2.1
   repeat' (first | refine yy ?_ | refine ym ?_ | (apply ze;(iterate 5 exact rfl)) | (apply zf;(iterate 5 exact rfl)) | refine yp ?_ | refine yt1 ?_ | refine yt0 ?_ | refine yt ?_ ?_ | refine yo ?_ | apply zn | refine yc ?_ | exact rfl | intro _)
   refine zfor (fun k : Nat => iT k) (List.range 60) (fun k (_ : Unit) => [(1, .box ⟨0, 0, 0⟩ (w.cs .n)), (3, .x (iT i)), (4, .x (iT ((k : Int) + 1)))]) (fun k _ => ∀ j, j < k -> knownSeq a s j = true) () (by omega) rfl ?_ ?_
   ·rintro k _ y hy hlt2 _ _ hinv2 ih2
    rw [List.length_range] at hlt2
    have hc2 : decide ((k : Int) + 1 <= 60) = true := by simp; omega
    repeat' (first | refine yy ?_ | refine ym ?_ | (apply ze;(iterate 5 exact rfl)) | (apply zf;(iterate 5 exact rfl)) | refine yp ?_ | refine yi (GSeat.el .n s) (map_at hx) ?_ | refine yi (GAgent.el .n a) (map_at hxa) ?_ | refine yk g_q4y (q4y_eq s.Taken _ htl) ?_ | refine yk g_q4y (q4y_eq a.Taken _ hta) ?_ | refine yt1 ?_ | refine yt0 ?_ | refine yt ?_ ?_ | refine yo ?_ | apply zn | refine yc ?_ | exact rfl | intro _)
    ·refine fin rfl (outB ?_)
     rename_i h5
     rw [List.length_map] at h5
     have h6 : knownSeq a s k = false := by rw [knownSeq, h5]; rfl
     rw [allIx_not (hs3 ▸ hlt) (hat.trans (allIx_not hlt2 h6))]
    ·rename_i h5
     rw [List.length_map] at h5
     have h6 : knownSeq a s k = true := by rw [knownSeq, h5]; rfl
     refine ih2 () (upto_succ hinv2 h6) _ _ ?_
     rw [show IntKind.i64.wrap ((k : Int) + 1 + 1) = ((k + 1 : Nat) : Int) + 1 by rw [w64 (by omega)]; omega]; rfl
   ·rintro _ _ _ hinv2
    have hc2 : decide ((((List.range 60).length : Nat) : Int) + 1 <= 60) = false := by simp
    rw [List.length_range] at hinv2
    repeat' (first | refine yy ?_ | refine ym ?_ | (apply ze;(iterate 5 exact rfl)) | (apply zf;(iterate 5 exact rfl)) | refine yp ?_ | refine yt1 ?_ | refine yt0 ?_ | refine yt ?_ ?_ | refine yo ?_ | apply zn | refine yc ?_ | exact rfl | intro _)
    refine ih () (upto_succ hinv (hat.trans (allIx_of hinv2))) _ _ ?_
    rw [w64s (by omega)]; rfl
  ·rintro _ _ _ hinv
   have hc : decide ((w.House.Seats.length : Int) < 3) = false := by rw [hs3]; rfl
   rw [allIx_of (hs3 ▸ hinv)]
   repeat' (first | refine yy ?_ | refine ym ?_ | (apply ze;(iterate 5 exact rfl)) | (apply zf;(iterate 5 exact rfl)) | refine yp ?_ | refine yt1 ?_ | refine yt0 ?_ | refine yt ?_ ?_ | refine yo ?_ | apply zn | refine yc ?_ | exact rfl | intro _)
   exact fin rfl rfl
end Go.Wr
namespace Go.Wr
set_option maxRecDepth 20000
theorem not_due {c : GConf} {n : Int} : (!c.ok || !inB n 0 20) = !(c.ok && inB n 0 20) := by cases c.ok <;> simp
theorem due_w {c : GConf} {n : Int} (h : (c.ok && inB n 0 20) = true) : IntKind.i64.wrap (IntKind.i64.wrap (c.Long * IntKind.i64.wrap (n + 1)) + c.Grace) = c.Long * (n + 1) + c.Grace := by
 simp only [GConf.ok, Bool.and_eq_true, inB, decide_eq_true_eq] at h
 have h1 : 0 <= c.Long * (n + 1) := Int.mul_nonneg (by omega) (by omega)
 have h2 : c.Long * (n + 1) <= 20 * 21 := Int.mul_le_mul (by omega) (by omega) (by omega) (by omega)
 rw [w64 (n := n + 1) (by omega), w64 (n := c.Long * (n + 1)) (by omega), w64 (by omega)]
theorem q51_eq (c : GConf) (n : Int) (hl : c.Weights.length <= 4194304) : F_q51 [.st (c.cs .n), .x (iT n)] = some ⟨[.one (iT (dueOf c n))], []⟩ := by
 (refine fun_ev rfl ?_; show Ev m_q51.code _ _ _)
 repeat' (first | refine yy ?_ | refine ym ?_ | (apply ze;(iterate 5 exact rfl)) | (apply zf;(iterate 5 exact rfl)) | refine yp ?_ | refine yk g_qp (qp_eq c hl) ?_ | refine yk g_q2 (q2_eq _ _ _) ?_ | refine yt1 ?_ | refine yt0 ?_ | refine yt ?_ ?_ | refine yo ?_ | apply zn | refine yc ?_ | exact rfl | intro _)
 ·refine fin rfl (outI ?_)
  rename_i h
  rw [not_due] at h
  rw [dueOf, if_neg (by rw [not_t h]; simp)]
 ·rename_i h
  rw [not_due] at h
  refine fin rfl (outI ?_)
  rw [due_w (not_f h), dueOf, if_pos (not_f h)]
theorem q53_eq (c : GConf) (n : Int) (hl : c.Weights.length <= 4194304) : F_q53 [.st (c.cs .n), .x (iT n)] = some ⟨[.one (iT (dueOf c n))], []⟩ := by
 (refine fun_ev rfl ?_; show Ev m_q53.code _ _ _)
 repeat' (first | refine yy ?_ | refine ym ?_ | (apply ze;(iterate 5 exact rfl)) | (apply zf;(iterate 5 exact rfl)) | refine yp ?_ | refine yk g_q3h (q3h_eq c hl) ?_ | refine yk g_q37 (q37_eq _ _ _) ?_ | refine yt1 ?_ | refine yt0 ?_ | refine yt ?_ ?_ | refine yo ?_ | apply zn | refine yc ?_ | exact rfl | intro _)
 ·refine fin rfl (outI ?_)
  rename_i h
  rw [not_due] at h
  rw [dueOf, if_neg (by rw [not_t h]; simp)]
 ·rename_i h
  rw [not_due] at h
  refine fin rfl (outI ?_)
  rw [due_w (not_f h), dueOf, if_pos (not_f h)]
theorem sealed_cases {w : GWorld} (h3 : w.Agents.length = 3) (id key wn : Int) :
  (inB (id.tdiv 100) 0 2 = false /\ sealedIn w id key wn = false) \/
  (∃ a, inB (id.tdiv 100) 0 2 = true /\ 0 <= id.tdiv 100 /\ w.Agents[(id.tdiv 100).toNat]? = some a /\ inB (id.tmod 100) 1 a.Sealed.length = false /\ sealedIn w id key wn = false) \/
  (∃ a x, inB (id.tdiv 100) 0 2 = true /\ 0 <= id.tdiv 100 /\ w.Agents[(id.tdiv 100).toNat]? = some a /\ inB (id.tmod 100) 1 a.Sealed.length = true /\ 0 <= id.tmod 100 - 1 /\ a.Sealed[(id.tmod 100 - 1).toNat]? = some x /\ sealedIn w id key wn = (x.Key == key && x.Window == wn)) := by
 unfold sealedIn
 generalize id.tdiv 100 = q
 generalize id.tmod 100 = r
 cases h1 : inB q 0 2 with
 | false => exact .inl ⟨rfl, rfl⟩
 | true =>
  refine .inr ?_
  have h1' := h1
  simp only [inB, Bool.and_eq_true, decide_eq_true_eq] at h1
  have ha := List.getElem?_eq_getElem (show q.toNat < w.Agents.length by omega)
  generalize w.Agents[q.toNat]'(by omega) = a at ha
  cases h2 : inB r 1 a.Sealed.length with
  | false => exact .inl ⟨a, rfl, h1.1, ha, h2, by rw [ha]; simp [h2]⟩
  | true =>
   have h2' := h2
   simp only [inB, Bool.and_eq_true, decide_eq_true_eq] at h2
   have hx := List.getElem?_eq_getElem (show (r - 1).toNat < a.Sealed.length by omega)
   generalize a.Sealed[(r - 1).toNat]'(by omega) = x at hx
   exact .inr ⟨a, x, rfl, h1.1, ha, h2', by omega, hx, by simp only [Bool.true_and, ha, h2', hx]⟩
theorem id_div {n : Int} (h : 0 <= n /\ n <= 9999) : IntKind.i64.wrap (n.tdiv 100) = n.tdiv 100 := by
 rw [Int.tdiv_eq_ediv_of_nonneg h.1, w64 (by omega)]
theorem id_mod {n : Int} (h : 0 <= n /\ n <= 9999) : IntKind.i64.wrap (n.tmod 100 - 1) = n.tmod 100 - 1 := by
 rw [Int.tmod_eq_emod_of_nonneg h.1, w64 (by omega)]
theorem q54_eq (w : GWorld) (n key wn : Int) (hl : w.bulk <= 4000000) (h3 : w.Agents.length = 3) (hn : 0 <= n /\ n <= 9999) : F_q54 [.st (w.cs .n), .x (iT n), .x (iT key), .x (iT wn)] = some ⟨[.one (.b (sealedIn w n key wn))], []⟩ := by
 obtain ⟨hh, hal, hnl, hab⟩ := world_in hl
 have hq := id_div hn
 have hr := id_mod hn
 rcases sealed_cases h3 n key wn with ⟨h1, h2⟩ | ⟨a, h1, h0, ha, h2, h4⟩ | ⟨a, x, h1, h0, ha, h2, h5, hx, h4⟩
 ·have g1 : (!inB (IntKind.i64.wrap (n.tdiv 100)) 0 2) = !false := by rw [hq, h1]
  have g2 : true = true := rfl
  (refine fun_ev rfl ?_; show Ev m_q54.code _ _ _)
  repeat' (first | refine yy ?_ | refine ym ?_ | (apply ze;(iterate 5 exact rfl)) | (apply zf;(iterate 5 exact rfl)) | refine yp ?_ | refine yk g_q3c (q3c_eq _) ?_ | refine yt1 ?_ | refine yt0 ?_ | refine yt ?_ ?_ | refine yo ?_ | apply zn | refine yc ?_ | exact rfl | intro _)
  exact fin rfl (outB h2.symm)
 ·have g1 : (!inB (IntKind.i64.wrap (n.tdiv 100)) 0 2) = false := by rw [hq, h1]; rfl
  have g2 : (!inB (n.tmod 100) 1 ((a.Sealed.map (GItem.el .n)).length : Int)) = true := by rw [List.length_map, h2]; rfl
  have k0 : 0 <= IntKind.i64.wrap (n.tdiv 100) := by rw [hq]; exact h0
  have kp : (w.Agents.map (GAgent.el .n))[(IntKind.i64.wrap (n.tdiv 100)).toNat]? = some (GAgent.el .n a) := by rw [hq]; exact map_at ha
  (refine fun_ev rfl ?_; show Ev m_q54.code _ _ _)
  repeat' (first | refine yy ?_ | refine ym ?_ | (apply ze;(iterate 5 exact rfl)) | (apply zf;(iterate 5 exact rfl)) | refine yp ?_ | refine yk g_q3c (q3c_eq _) ?_ | refine yk g_q37 (q37_eq _ _ _) ?_ | refine yj (GAgent.el .n a) (k0) (kp) ?_ | refine yt1 ?_ | refine yt0 ?_ | refine yt ?_ ?_ | refine yo ?_ | apply zn | refine yc ?_ | exact rfl | intro _)
  exact fin rfl (outB h4.symm)
 ·have g1 : (!inB (IntKind.i64.wrap (n.tdiv 100)) 0 2) = false := by rw [hq, h1]; rfl
  have g2 : (!inB (n.tmod 100) 1 ((a.Sealed.map (GItem.el .n)).length : Int)) = false := by rw [List.length_map, h2]; rfl
  have k0 : 0 <= IntKind.i64.wrap (n.tdiv 100) := by rw [hq]; exact h0
  have kp : (w.Agents.map (GAgent.el .n))[(IntKind.i64.wrap (n.tdiv 100)).toNat]? = some (GAgent.el .n a) := by rw [hq]; exact map_at ha
  have l0 : 0 <= IntKind.i64.wrap (n.tmod 100 - 1) := by rw [hr]; exact h5
  have lp : (a.Sealed.map (GItem.el .n))[(IntKind.i64.wrap (n.tmod 100 - 1)).toNat]? = some (GItem.el .n x) := by rw [hr]; exact map_at hx
  (refine fun_ev rfl ?_; show Ev m_q54.code _ _ _)
  repeat' (first | refine yy ?_ | refine ym ?_ | (apply ze;(iterate 5 exact rfl)) | (apply zf;(iterate 5 exact rfl)) | refine yp ?_ | refine yk g_q3c (q3c_eq _) ?_ | refine yk g_q37 (q37_eq _ _ _) ?_ | refine yj (GAgent.el .n a) (k0) (kp) ?_ | refine yj (GItem.el .n x) (l0) (lp) ?_ | refine yt1 ?_ | refine yt0 ?_ | refine yt ?_ ?_ | refine yo ?_ | apply zn | refine yc ?_ | exact rfl | intro _)
  exact fin rfl (outB h4.symm)
theorem outs_ids {h : GHouse} (hh : houseS h = true) {o : GOut} (ho : o ∈ h.Outs) : SetR o.Entry.Ids :=
 ok_setR (house_ents hh _ (List.mem_append_right _ (List.mem_append_right _ (List.mem_map.2 ⟨o, ho, rfl⟩))))
theorem outs_len {h : GHouse} (hl : h.bulk <= 4000000) : h.Outs.length <= 4000000 /\ h.Conf.Weights.length <= 4194304 /\ ∀ (i : Nat) o, h.Outs[i]? = some o -> o.Entry.Ids.length <= 4000000 := by
 have h1 := bulks_len GOut.bulk h.Outs
 unfold GHouse.bulk at hl
 have hc : h.Conf.Weights.length <= h.Conf.bulk := Nat.le_refl _
 refine ⟨by omega, by omega, fun i o ho => ?_⟩
 have h2 := bulks_mem (f := GOut.bulk) ho
 have h3 : o.Entry.Ids.length <= o.bulk := by unfold GOut.bulk GEntry.bulk; omega
 omega
theorem members_bnd {s : List GSpan} (hs : SetR s) {k : Nat} {n : Int} (h : (membersL s)[k]? = some n) : 0 <= n /\ n <= 9999 := by
 obtain ⟨x, hx, h1, h2⟩ := mem_members.1 (List.mem_of_getElem? h)
 have := hs.span hx
 unfold SpanR at this
 omega
theorem told_not {w : GWorld} {i : Nat} {o : GOut} (hx : w.House.Outs[i]? = some o) (h : toldO w o = false) : w.House.Outs.all (toldO w) = false := not_all hx h
theorem q52_eq (w : GWorld) (hl : w.bulk <= 4000000) : F_q52 [.st (w.cs .n)] = some ⟨[.one (.b (toldJ w))], []⟩ := by
 obtain ⟨hh, hal, hnl, hab⟩ := world_in hl
 obtain ⟨hol, hwl, hid⟩ := outs_len hh
 (refine fun_ev rfl ?_; show Ev m_q52.code _ _ _)
 repeat' (first | refine yy ?_ | refine ym ?_ | (apply ze;(iterate 5 exact rfl)) | (apply zf;(iterate 5 exact rfl)) | refine yp ?_ | refine yk g_q11 (q11_eq w hl) ?_ | refine yt1 ?_ | refine yt0 ?_ | refine yt ?_ ?_ | refine yo ?_ | apply zn | refine yc ?_ | exact rfl | intro _)
 ·refine fin rfl (outB ?_)
  rename_i h
  rw [toldJ, not_t h]; rfl
 ·rename_i h
  have hw := not_f h
  obtain ⟨h3, hhs, hag⟩ := world_agents hw
  rw [toldJ, hw, Bool.true_and]
  refine zfor (GOut.el .n) w.House.Outs (fun i (_ : Unit) => [(1, .box ⟨0, 0, 0⟩ (w.cs .n)), (15, .x (GOut.ls .n w.House.Outs)), (16, .x (iT (w.House.Outs.map (GOut.el .n)).length)), (17, .x (iT i))]) (fun i _ => (w.House.Outs.take i).all (toldO w) = true) () (by simp) rfl ?_ ?_
  ·rintro i _ o hx hlt hc _ hinv ih
   have hor := outs_ids hhs (List.mem_of_getElem? hx)
   have hil : o.Entry.Ids.length <= 4194304 := by have := hid i o hx; omega
   have hml := members_le hor
   repeat' (first | refine yy ?_ | refine ym ?_ | (apply ze;(iterate 5 exact rfl)) | (apply zf;(iterate 5 exact rfl)) | refine yp ?_ | refine yi (GOut.el .n o) (map_at hx) ?_ | refine yk g_q4s (q4s_eq o.Entry.Ids hil hor) ?_ | refine yt1 ?_ | refine yt0 ?_ | refine yt ?_ ?_ | refine yo ?_ | apply zn | refine yc ?_ | exact rfl | intro _)
   refine zfor iT (membersL o.Entry.Ids) (fun k (_ : Unit) => [(1, .box ⟨0, 0, 0⟩ (w.cs .n)), (4, .box ⟨0, 0, 0⟩ (o.cs .n)), (15, .x (GOut.ls .n w.House.Outs)), (16, .x (iT (w.House.Outs.map (GOut.el .n)).length)), (17, .x (iT i)), (24, .own ⟨0, 0, 0⟩ (ints .y (membersL o.Entry.Ids))), (25, .x (iT ((membersL o.Entry.Ids).map iT).length)), (26, .x (iT k))]) (fun k _ => ((membersL o.Entry.Ids).take k).all (fun n => sealedIn w n o.Entry.Key o.Entry.Window) = true) () (by simp) rfl ?_ ?_
   ·rintro k _ n hy hlt2 hc2 _ hinv2 ih2
    have hn := members_bnd hor hy
    have hq := id_div hn
    have hr := id_mod hn
    have hno : sealedIn w n o.Entry.Key o.Entry.Window = false -> w.House.Outs.all (toldO w) = false := fun h => told_not hx (by rw [toldO, not_all (p := fun n => sealedIn w n o.Entry.Key o.Entry.Window) hy h]; rfl)
    rcases sealed_cases h3 n o.Entry.Key o.Entry.Window with ⟨h1, h2⟩ | ⟨a, h1, h0, ha, h2, h4⟩ | ⟨a, x, h1, h0, ha, h2, h5, hxx, h4⟩
    ·have g1 : (!inB (IntKind.i64.wrap (n.tdiv 100)) 0 2) = !false := by rw [hq, h1]
     have g2 : true = true := rfl
     repeat' (first | refine yy ?_ | refine ym ?_ | (apply ze;(iterate 5 exact rfl)) | (apply zf;(iterate 5 exact rfl)) | refine yp ?_ | refine yx (own_lt hlt2) ?_ | refine yl (iT n) (nav_at (map_at hy)) ?_ | refine yk g_q2 (q2_eq _ _ _) ?_ | refine yt1 ?_ | refine yt0 ?_ | refine yt ?_ ?_ | refine yo ?_ | apply zn | refine yc ?_ | exact rfl | intro _)
     exact fin rfl (outB (hno h2).symm)
    ·have g1 : (!inB (IntKind.i64.wrap (n.tdiv 100)) 0 2) = false := by rw [hq, h1]; rfl
     have g2 : (!inB (n.tmod 100) 1 ((a.Sealed.map (GItem.el .n)).length : Int)) = true := by rw [List.length_map, h2]; rfl
     have k0 : 0 <= IntKind.i64.wrap (n.tdiv 100) := by rw [hq]; exact h0
     have kp : (w.Agents.map (GAgent.el .n))[(IntKind.i64.wrap (n.tdiv 100)).toNat]? = some (GAgent.el .n a) := by rw [hq]; exact map_at ha
     repeat' (first | refine yy ?_ | refine ym ?_ | (apply ze;(iterate 5 exact rfl)) | (apply zf;(iterate 5 exact rfl)) | refine yp ?_ | refine yx (own_lt hlt2) ?_ | refine yl (iT n) (nav_at (map_at hy)) ?_ | refine yk g_q2 (q2_eq _ _ _) ?_ | refine yj (GAgent.el .n a) (k0) (kp) ?_ | refine yt1 ?_ | refine yt0 ?_ | refine yt ?_ ?_ | refine yo ?_ | apply zn | refine yc ?_ | exact rfl | intro _)
     exact fin rfl (outB (hno h4).symm)
    ·have g1 : (!inB (IntKind.i64.wrap (n.tdiv 100)) 0 2) = false := by rw [hq, h1]; rfl
     have g2 : (!inB (n.tmod 100) 1 ((a.Sealed.map (GItem.el .n)).length : Int)) = false := by rw [List.length_map, h2]; rfl
     have k0 : 0 <= IntKind.i64.wrap (n.tdiv 100) := by rw [hq]; exact h0
     have kp : (w.Agents.map (GAgent.el .n))[(IntKind.i64.wrap (n.tdiv 100)).toNat]? = some (GAgent.el .n a) := by rw [hq]; exact map_at ha
     have l0 : 0 <= IntKind.i64.wrap (n.tmod 100 - 1) := by rw [hr]; exact h5
     have lp : (a.Sealed.map (GItem.el .n))[(IntKind.i64.wrap (n.tmod 100 - 1)).toNat]? = some (GItem.el .n x) := by rw [hr]; exact map_at hxx
     repeat' (first | refine yy ?_ | refine ym ?_ | (apply ze;(iterate 5 exact rfl)) | (apply zf;(iterate 5 exact rfl)) | refine yp ?_ | refine yx (own_lt hlt2) ?_ | refine yl (iT n) (nav_at (map_at hy)) ?_ | refine yk g_q2 (q2_eq _ _ _) ?_ | refine yj (GAgent.el .n a) (k0) (kp) ?_ | refine yj (GItem.el .n x) (l0) (lp) ?_ | refine yt1 ?_ | refine yt0 ?_ | refine yt ?_ ?_ | refine yo ?_ | apply zn | refine yc ?_ | exact rfl | intro _)
     ·refine fin rfl (outB (hno ?_).symm)
      rename_i h6
      rw [h4]; revert h6; rw [bne, bne]
      cases x.Key == o.Entry.Key <;> cases x.Window == o.Entry.Window <;> simp
     ·rename_i h6
      have h7 : sealedIn w n o.Entry.Key o.Entry.Window = true := by
       rw [h4]; revert h6; rw [bne, bne]
       cases x.Key == o.Entry.Key <;> cases x.Window == o.Entry.Window <;> simp
      refine ih2 () (take_all (p := fun n => sealedIn w n o.Entry.Key o.Entry.Window) hinv2 hy h7) _ _ ?_
      rw [w64s (by omega)]; rfl
   ·rintro _ hc2 _ hinv2
    have hall := take_end hinv2
    repeat' (first | refine yy ?_ | refine ym ?_ | (apply ze;(iterate 5 exact rfl)) | (apply zf;(iterate 5 exact rfl)) | refine yp ?_ | refine yk g_q51 (q51_eq w.House.Conf _ hwl) ?_ | refine yt1 ?_ | refine yt0 ?_ | refine yt ?_ ?_ | refine yo ?_ | apply zn | refine yc ?_ | exact rfl | intro _)
    ·refine fin rfl (outB (told_not hx ?_).symm)
     rename_i h5
     rw [toldO, h5]; simp
    ·rename_i h5
     refine ih () (take_all hinv hx ?_) _ _ ?_
     ·rw [toldO, hall, h5]; rfl
     ·rw [w64s (by omega)]; rfl
  ·rintro _ hc _ hinv
   rw [take_end hinv]
   repeat' (first | refine yy ?_ | refine ym ?_ | (apply ze;(iterate 5 exact rfl)) | (apply zf;(iterate 5 exact rfl)) | refine yp ?_ | refine yt1 ?_ | refine yt0 ?_ | refine yt ?_ ?_ | refine yo ?_ | apply zn | refine yc ?_ | exact rfl | intro _)
   exact fin rfl rfl
theorem q55_eq (w : GWorld) (hl : w.bulk <= 4000000) : F_q55 [.st (w.cs .n)] = some ⟨[.one (.b (toldJ w))], []⟩ := by
 obtain ⟨hh, hal, hnl, hab⟩ := world_in hl
 obtain ⟨hol, hwl, hid⟩ := outs_len hh
 (refine fun_ev rfl ?_; show Ev m_q55.code _ _ _)
 repeat' (first | refine yy ?_ | refine ym ?_ | (apply ze;(iterate 5 exact rfl)) | (apply zf;(iterate 5 exact rfl)) | refine yp ?_ | refine yk g_q43 (q43_eq w hl) ?_ | refine yt1 ?_ | refine yt0 ?_ | refine yt ?_ ?_ | refine yo ?_ | apply zn | refine yc ?_ | exact rfl | intro _)
 ·refine fin rfl (outB ?_)
  rename_i h
  rw [toldJ, not_t h]; rfl
 ·rename_i h
  have hw := not_f h
  obtain ⟨h3, hhs, hag⟩ := world_agents hw
  rw [toldJ, hw, Bool.true_and]
  refine zfor (GOut.el .n) w.House.Outs (fun i (_ : Unit) => [(1, .box ⟨0, 0, 0⟩ (w.cs .n)), (3, .x (iT i))]) (fun i _ => (w.House.Outs.take i).all (toldO w) = true) () (by simp) rfl ?_ ?_
  ·rintro i _ o hx hlt hc _ hinv ih
   have hor := outs_ids hhs (List.mem_of_getElem? hx)
   have hil : o.Entry.Ids.length <= 4194304 := by have := hid i o hx; omega
   repeat' (first | refine yy ?_ | refine ym ?_ | (apply ze;(iterate 5 exact rfl)) | (apply zf;(iterate 5 exact rfl)) | refine yp ?_ | refine yi (GOut.el .n o) (map_at hx) ?_ | refine yt1 ?_ | refine yt0 ?_ | refine yt ?_ ?_ | refine yo ?_ | apply zn | refine yc ?_ | exact rfl | intro _)
   refine zfor (GSpan.el .n) o.Entry.Ids (fun k (_ : Unit) => [(1, .box ⟨0, 0, 0⟩ (w.cs .n)), (3, .x (iT i)), (4, .box ⟨0, 0, 0⟩ (o.cs .n)), (5, .x (iT k))]) (fun k _ => ((membersL (o.Entry.Ids.take k)).all fun n => sealedIn w n o.Entry.Key o.Entry.Window) = true) () (by simp [membersL]) rfl ?_ ?_
   ·rintro k _ y hy hlt2 hc2 _ hinv2 ih2
    have hsp := hor.span (List.mem_of_getElem? hy)
    unfold SpanR at hsp
    repeat' (first | refine yy ?_ | refine ym ?_ | (apply ze;(iterate 5 exact rfl)) | (apply zf;(iterate 5 exact rfl)) | refine yp ?_ | refine yi (GSpan.el .n y) (map_at hy) ?_ | refine yt1 ?_ | refine yt0 ?_ | refine yt ?_ ?_ | refine yo ?_ | apply zn | refine yc ?_ | exact rfl | intro _)
    refine zfor iT (mOf y) (fun m (_ : Unit) => [(1, .box ⟨0, 0, 0⟩ (w.cs .n)), (3, .x (iT i)), (4, .box ⟨0, 0, 0⟩ (o.cs .n)), (5, .x (iT k)), (6, .x (iT (y.Lo + (m : Nat))))]) (fun m _ => ((mOf y).take m).all (fun n => sealedIn w n o.Entry.Key o.Entry.Window) = true) () (by simp) (by rw [show y.Lo + ((0 : Nat) : Int) = y.Lo by omega]; rfl) ?_ ?_
    ·rintro m _ n hz hlt3 _ _ hinv3 ih3
     have hz0 := hz
     obtain ⟨rfl, hle⟩ := mOf_at hz
     have hc3 : decide (y.Lo + ((m : Nat) : Int) <= y.Hi) = true := by simpa using hle
     repeat' (first | refine yy ?_ | refine ym ?_ | (apply ze;(iterate 5 exact rfl)) | (apply zf;(iterate 5 exact rfl)) | refine yp ?_ | refine yi (GSpan.el .n y) (map_at hy) ?_ | (apply zk g_q54;exact rfl;exact rfl;exact (q54_eq w _ _ _ hl h3 ⟨by omega, by omega⟩);(iterate 3 exact rfl)) | refine yt1 ?_ | refine yt0 ?_ | refine yt ?_ ?_ | refine yo ?_ | apply zn | refine yc ?_ | exact rfl | intro _)
     ·refine fin rfl (outB (told_not hx ?_).symm)
      rename_i h5
      have hmm : y.Lo + ((m : Nat) : Int) ∈ membersL o.Entry.Ids := mem_members.2 ⟨y, List.mem_of_getElem? hy, by omega, hle⟩
      obtain ⟨j, hj⟩ := List.mem_iff_getElem?.1 hmm
      rw [toldO, not_all (p := fun n => sealedIn w n o.Entry.Key o.Entry.Window) hj (not_t h5)]; rfl
     ·rename_i h5
      refine ih3 () (take_all (p := fun n => sealedIn w n o.Entry.Key o.Entry.Window) hinv3 hz0 (not_f h5)) _ _ ?_
      rw [show IntKind.i64.wrap (y.Lo + ((m : Nat) : Int) + 1) = y.Lo + ((m + 1 : Nat) : Int) by rw [w64 (by omega)]; omega]; rfl
    ·rintro _ _ _ hinv3
     have hc3 : decide (y.Lo + (((mOf y).length : Nat) : Int) <= y.Hi) = false := by rw [mOf_len]; simp; omega
     repeat' (first | refine yy ?_ | refine ym ?_ | (apply ze;(iterate 5 exact rfl)) | (apply zf;(iterate 5 exact rfl)) | refine yp ?_ | refine yi (GSpan.el .n y) (map_at hy) ?_ | refine yt1 ?_ | refine yt0 ?_ | refine yt ?_ ?_ | refine yo ?_ | apply zn | refine yc ?_ | exact rfl | intro _)
     refine ih2 () ?_ _ _ ?_
     ·rw [membersL_eq, flat_succ hy, List.all_append, <- membersL_eq, hinv2, take_end hinv3]; rfl
     ·rw [w64s (by omega)]; rfl
   ·rintro _ hc2 _ hinv2
    rw [List.take_length] at hinv2
    repeat' (first | refine yy ?_ | refine ym ?_ | (apply ze;(iterate 5 exact rfl)) | (apply zf;(iterate 5 exact rfl)) | refine yp ?_ | refine yk g_q53 (q53_eq w.House.Conf _ hwl) ?_ | refine yt1 ?_ | refine yt0 ?_ | refine yt ?_ ?_ | refine yo ?_ | apply zn | refine yc ?_ | exact rfl | intro _)
    ·refine fin rfl (outB (told_not hx ?_).symm)
     rename_i h5
     rw [toldO, h5]; simp
    ·rename_i h5
     refine ih () (take_all hinv hx ?_) _ _ ?_
     ·rw [toldO, hinv2, h5]; rfl
     ·rw [w64s (by omega)]; rfl
  ·rintro _ hc _ hinv
   rw [take_end hinv]
   repeat' (first | refine yy ?_ | refine ym ?_ | (apply ze;(iterate 5 exact rfl)) | (apply zf;(iterate 5 exact rfl)) | refine yp ?_ | refine yt1 ?_ | refine yt0 ?_ | refine yt ?_ ?_ | refine yo ?_ | apply zn | refine yc ?_ | exact rfl | intro _)
   exact fin rfl rfl
end Go.Wr
namespace Go.Wr
set_option maxRecDepth 20000
theorem q5a_eq (n lo hi : Int) : F_q5a [.x (iT n), .x (iT lo), .x (iT hi)] = some ⟨[.one (iT (min (max n lo) hi))], []⟩ := by
 (refine fun_ev rfl ?_; show Ev m_q5a.code _ _ _)
 repeat' (first | refine yo ?_ | apply zn | refine yc ?_ | intro _)
 refine fin rfl (outI ?_)
 show (if hi < (if lo > n then lo else n) then hi else (if lo > n then lo else n)) = _
 split <;> split <;> omega
theorem q5b_eq (a b : Int) : F_q5b [.x (iT a), .x (iT b)] = some ⟨[.one (iT (addZ a b))], []⟩ := by
 (refine fun_ev rfl ?_; show Ev m_q5b.code _ _ _)
 repeat' (first | refine yk g_q5a (q5a_eq _ _ _) ?_ | refine yo ?_ | apply zn | refine yc ?_ | intro _)
 refine fin rfl (outI ?_)
 show (if (1000000000 : Int) < IntKind.i64.wrap (min (max a 0) 1000000000 + min (max b 0) 1000000000) then (1000000000 : Int) else IntKind.i64.wrap (min (max a 0) 1000000000 + min (max b 0) 1000000000)) = _
 rw [w64 (by omega), addZ]
 split <;> omega
theorem q5p_eq (n m : Int) : F_q5p [.x (iT n), .x (iT m)] = some ⟨[.one (iT (max 0 (min n m)))], []⟩ := by
 (refine fun_ev rfl ?_; show Ev m_q5p.code _ _ _)
 repeat' (first | refine yk g_q3l (q3l_eq _ _) ?_ | refine yk g_q3k (q3k_eq _ _) ?_ | refine yo ?_ | apply zn | refine yc ?_ | intro _)
 exact fin rfl rfl
theorem q5q_eq (a b : Int) : F_q5q [.x (iT a), .x (iT b)] = some ⟨[.one (iT (addZ a b))], []⟩ := by
 (refine fun_ev rfl ?_; show Ev m_q5q.code _ _ _)
 repeat' (first | refine yk g_q5p (q5p_eq _ _) ?_ | refine yk g_q3l (q3l_eq _ _) ?_ | refine yo ?_ | apply zn | refine yc ?_ | intro _)
 refine fin rfl (outI ?_)
 rw [w64 (by omega), addZ]
theorem q59_eq : F_q59 [] = some ⟨[.st (newS.cs .y)], []⟩ := by
 (refine fun_ev rfl ?_; show Ev m_q59.code _ _ _)
 repeat' (first | (apply zs;(iterate 3 exact rfl);exact (by decide);exact (by simp [lenMax]);exact rfl;exact rfl) | refine yo ?_ | apply zn | refine yc ?_ | intro _)
 exact fin rfl rfl
theorem q5o_eq : F_q5o [] = some ⟨[.st (newS.cs .y)], []⟩ := by
 (refine fun_ev rfl ?_; show Ev m_q5o.code _ _ _)
 repeat' (first | (apply zs;(iterate 3 exact rfl);exact (by decide);exact (by simp [lenMax]);exact rfl;exact rfl) | refine yo ?_ | apply zn | refine yc ?_ | intro _)
 exact fin rfl rfl
theorem q5n_eq (a s : Int) : F_q5n [.x (iT a), .x (iT s)] = some ⟨[.one (iT (idOf a s))], []⟩ := by
 (refine fun_ev rfl ?_; show Ev m_q5n.code _ _ _)
 repeat' (first | refine yy ?_ | refine ym ?_ | (apply ze;(iterate 5 exact rfl)) | (apply zf;(iterate 5 exact rfl)) | refine yp ?_ | refine yk g_q3c (q3c_eq _) ?_ | refine yk g_q37 (q37_eq _ _ _) ?_ | refine yt1 ?_ | refine yt0 ?_ | refine yt ?_ ?_ | refine yo ?_ | apply zn | refine yc ?_ | exact rfl | intro _)
 all_goals (refine fin rfl ?_; rename_i h)
 ·simp [idOf] at h ⊢
  rcases h with h | h <;> simp [h]
 ·simp at h
  have h1 := h.1; have h2 := h.2
  simp only [inB, Bool.and_eq_true, decide_eq_true_eq] at h1 h2
  rw [idOf, h.1, h.2, w64 (n := 100 * a) (by omega), w64 (by omega)]
  rfl
theorem q5t_eq (n : Int) : F_q5t [.x (iT n)] = some ⟨[.st ((⟨n, n⟩ : GSpan).cs .y)], []⟩ := by
 (refine fun_ev rfl ?_; show Ev m_q5t.code _ _ _)
 repeat' (first | refine yo ?_ | apply zn | refine yc ?_ | intro _)
 exact fin rfl rfl
theorem q5w_eq (a b : List Int) (hl : a.length <= 4194304) : F_q5w [.x (ints .n a), .x (ints .n b)] = some ⟨[.one (.b (decide (a = b)))], []⟩ := by
 (refine fun_ev rfl ?_; show Ev m_q5w.code _ _ _)
 repeat' (first | refine yt1 ?_ | refine yt0 ?_ | refine yt ?_ ?_ | refine yo ?_ | apply zn | refine yc ?_ | intro _)
 ·refine fin rfl (outB ?_)
  rename_i h
  have h2 : a ≠ b := ne_len h
  simp [h2]
 ·have hlen : a.length = b.length := by rename_i h; exact eq_len h
  refine zfor iT a (fun i (_ : Unit) => [(0, .x (ints .n a)), (1, .x (ints .n b)), (5, .x (iT i))]) (fun i _ => a.take i = b.take i) () (by simp) rfl ?_ ?_
  ·rintro i _ x hx hlt hc _ hinv ih
   have hy := List.getElem?_eq_getElem (show i < b.length by omega)
   generalize b[i]'(by omega) = y at hy
   repeat' (first | refine yi (iT x) (map_at hx) ?_ | refine yi (iT y) (map_at hy) ?_ | refine yt1 ?_ | refine yt0 ?_ | refine yt ?_ ?_ | refine yo ?_ | apply zn | refine yc ?_ | intro _)
   ·rename_i h
    have h2 : a ≠ b := ne_at hx hy (by intro e; subst e; simp at h)
    exact fin rfl (outB (by simp [h2]))
   ·rename_i h
    have hxy : x = y := by simpa using h
    refine ih () (eq_step hinv hx (hxy ▸ hy)) _ _ ?_
    rw [w64s (by omega)]; rfl
  ·rintro _ hc _ hinv
   repeat' (first | refine yt1 ?_ | refine yt0 ?_ | refine yt ?_ ?_ | refine yo ?_ | apply zn | refine yc ?_ | intro _)
   refine fin rfl (outB ?_)
   simp [eq_end hinv hlen (Nat.le_refl _)]
theorem q5j_eq (a b : List Int) (hl : a.length <= 4194304) : F_q5j [.x (ints .n a), .x (ints .n b)] = some ⟨[.one (.b (decide (a = b)))], []⟩ := by
 (refine fun_ev rfl ?_; show Ev m_q5j.code _ _ _)
 repeat' (first | refine yt1 ?_ | refine yt0 ?_ | refine yt ?_ ?_ | refine yo ?_ | apply zn | refine yc ?_ | intro _)
 ·refine fin rfl (outB ?_)
  rename_i h
  have h2 : a ≠ b := ne_len h
  simp [h2]
 ·have hlen : a.length = b.length := by rename_i h; exact eq_len h
  refine zfor iT a (fun i (_ : Unit) => [(0, .x (ints .n a)), (1, .x (ints .n b)), (12, .x (iT (a.map iT).length)), (13, .x (iT i))]) (fun i _ => a.take i = b.take i) () (by simp) rfl ?_ ?_
  ·rintro i _ x hx hlt hc _ hinv ih
   have hy := List.getElem?_eq_getElem (show i < b.length by omega)
   generalize b[i]'(by omega) = y at hy
   repeat' (first | refine yi (iT x) (map_at hx) ?_ | refine yi (iT y) (map_at hy) ?_ | refine yt1 ?_ | refine yt0 ?_ | refine yt ?_ ?_ | refine yo ?_ | apply zn | refine yc ?_ | intro _)
   ·rename_i h
    have h2 : a ≠ b := ne_at hx hy (by intro e; subst e; simp at h)
    exact fin rfl (outB (by simp [h2]))
   ·rename_i h
    have hxy : x = y := by simpa using h
    refine ih () (eq_step hinv hx (hxy ▸ hy)) _ _ ?_
    rw [w64s (by omega)]; rfl
  ·rintro _ hc _ hinv
   repeat' (first | refine yt1 ?_ | refine yt0 ?_ | refine yt ?_ ?_ | refine yo ?_ | apply zn | refine yc ?_ | intro _)
   refine fin rfl (outB ?_)
   simp [eq_end hinv hlen (Nat.le_refl _)]
theorem q5k_eq (a b : List (List Int)) (hl : a.length <= 4194304) (hm : ∀ x ∈ a, x.length <= 4194304) : F_q5k [.x (GInt.lss .n a), .x (GInt.lss .n b), .x (.f g_q5j [])] = some ⟨[.one (.b (decide (a = b)))], []⟩ := by
 (refine fun_ev rfl ?_; show Ev m_q5k.code _ _ _)
 repeat' (first | refine yt1 ?_ | refine yt0 ?_ | refine yt ?_ ?_ | refine yo ?_ | apply zn | refine yc ?_ | intro _)
 ·refine fin rfl (outB ?_)
  rename_i h
  have h2 : a ≠ b := ne_len h
  simp [h2]
 ·have hlen : a.length = b.length := by rename_i h; exact eq_len h
  refine zfor (ints .n) a (fun i (_ : Unit) => [(1, .x (GInt.lss .n b)), (2, .x (.f g_q5j [])), (15, .x (GInt.lss .n a)), (16, .x (iT (a.map (ints .n)).length)), (17, .x (iT i))]) (fun i _ => a.take i = b.take i) () (by simp) rfl ?_ ?_
  ·rintro i _ x hx hlt hc _ hinv ih
   have hy := List.getElem?_eq_getElem (show i < b.length by omega)
   generalize b[i]'(by omega) = y at hy
   have hxl := hm x (List.mem_of_getElem? hx)
   repeat' (first | refine yi (ints .n x) (map_at hx) ?_ | refine yi (ints .n y) (map_at hy) ?_ | refine yd (q5j_eq x y hxl) ?_ | refine yt1 ?_ | refine yt0 ?_ | refine yt ?_ ?_ | refine yo ?_ | apply zn | refine yc ?_ | intro _)
   ·rename_i h
    have h2 : a ≠ b := ne_at hx hy (by simpa using h)
    exact fin rfl (outB (by simp [h2]))
   ·rename_i h
    have hxy : x = y := by simpa using h
    refine ih () (eq_step hinv hx (hxy ▸ hy)) _ _ ?_
    rw [w64s (by omega)]; rfl
  ·rintro _ hc _ hinv
   repeat' (first | refine yt1 ?_ | refine yt0 ?_ | refine yt ?_ ?_ | refine yo ?_ | apply zn | refine yc ?_ | intro _)
   refine fin rfl (outB ?_)
   simp [eq_end hinv hlen (Nat.le_refl _)]
theorem sk_eq (a b : GSketch) : decide (a = b) = (decide (a.Count = b.Count) && decide (a.Sum = b.Sum) && decide (a.Min = b.Min) && decide (a.Max = b.Max) && decide (a.Hist = b.Hist) && decide (a.Regs = b.Regs) && decide (a.Rows = b.Rows)) := by
 rw [Bool.eq_iff_iff]
 obtain ⟨a1, a2, a3, a4, a5, a6, a7⟩ := a
 obtain ⟨b1, b2, b3, b4, b5, b6, b7⟩ := b
 simp only [decide_eq_true_eq, Bool.and_eq_true, GSketch.mk.injEq, and_assoc]
theorem int_beq (a b : Int) : (a == b) = decide (a = b) := by rw [Bool.eq_iff_iff]; simp
theorem sk_in {x : GSketch} (h : x.bulk <= 4194304) : x.Hist.length <= 4194304 /\ x.Regs.length <= 4194304 /\ x.Rows.length <= 4194304 /\ ∀ (i : Nat) r, x.Rows[i]? = some r -> r.length <= 4194304 := by
 have h1 := bulks_len List.length x.Rows
 unfold GSketch.bulk at h
 refine ⟨by omega, by omega, by omega, fun i r hr => ?_⟩
 have := bulks_mem (f := List.length) hr
 omega
theorem q5l_eq (a b : GSketch) (hl : a.bulk <= 4194304) : F_q5l [.st (a.cs .n), .st (b.cs .n)] = some ⟨[.one (.b (decide (a = b)))], []⟩ := by
 obtain ⟨h1, h2, h3, h4⟩ := sk_in hl
 (refine fun_ev rfl ?_; show Ev m_q5l.code _ _ _)
 repeat' (first | refine yy ?_ | refine ym ?_ | (apply ze;(iterate 5 exact rfl)) | (apply zf;(iterate 5 exact rfl)) | refine yp ?_ | refine yk g_q5j (q5j_eq a.Hist b.Hist h1) ?_ | refine yk g_q5j (q5j_eq a.Regs b.Regs h2) ?_ | refine yk g_q5k (q5k_eq a.Rows b.Rows h3 (fun x hx => by obtain ⟨i, hi⟩ := List.mem_iff_getElem?.1 hx; exact h4 i x hi)) ?_ | refine yo ?_ | apply zn | refine yc ?_ | exact rfl | intro _)
 refine fin rfl (outB ?_)
 rw [sk_eq]
 simp only [int_beq]
theorem q5x_eq (a b : GSketch) (hl : a.bulk <= 4194304) : F_q5x [.st (a.cs .n), .st (b.cs .n)] = some ⟨[.one (.b (decide (a = b)))], []⟩ := by
 obtain ⟨h1, h2, h3, h4⟩ := sk_in hl
 (refine fun_ev rfl ?_; show Ev m_q5x.code _ _ _)
 repeat' (first | refine yy ?_ | refine ym ?_ | (apply ze;(iterate 5 exact rfl)) | (apply zf;(iterate 5 exact rfl)) | refine yp ?_ | refine yk g_q5w (q5w_eq a.Hist b.Hist h1) ?_ | refine yk g_q5w (q5w_eq a.Regs b.Regs h2) ?_ | refine yt1 ?_ | refine yt0 ?_ | refine yt ?_ ?_ | refine yo ?_ | apply zn | refine yc ?_ | exact rfl | intro _)
 ·refine fin rfl (outB ?_)
  rename_i h
  rw [eq_comm, decide_eq_false_iff_not]
  rintro rfl
  simp at h
 ·rename_i h
  simp only [Bool.or_eq_false_iff, bne_eq_false_iff_eq, Bool.not_eq_false', decide_eq_true_eq, List.length_map] at h
  obtain ⟨⟨⟨⟨⟨⟨e1, e2⟩, e3⟩, e4⟩, e5⟩, e6⟩, e7⟩ := h
  have e7 : a.Rows.length = b.Rows.length := by omega
  have hab : decide (a = b) = decide (a.Rows = b.Rows) := by
   rw [sk_eq, e1, e2, e3, e4, e5, e6]; simp
  rw [hab]
  refine zfor (ints .n) a.Rows (fun i (_ : Unit) => [(2, .box ⟨0, 0, 0⟩ (a.cs .n)), (3, .box ⟨0, 0, 0⟩ (b.cs .n)), (5, .x (iT i))]) (fun i _ => a.Rows.take i = b.Rows.take i) () (by simp) rfl ?_ ?_
  ·rintro i _ x hx hlt hc _ hinv ih
   have hy := List.getElem?_eq_getElem (show i < b.Rows.length by omega)
   generalize b.Rows[i]'(by omega) = y at hy
   have hxl := h4 i x hx
   repeat' (first | refine yy ?_ | refine ym ?_ | (apply ze;(iterate 5 exact rfl)) | (apply zf;(iterate 5 exact rfl)) | refine yp ?_ | refine yi (ints .n x) (map_at hx) ?_ | refine yi (ints .n y) (map_at hy) ?_ | refine yk g_q5w (q5w_eq x y hxl) ?_ | refine yt1 ?_ | refine yt0 ?_ | refine yt ?_ ?_ | refine yo ?_ | apply zn | refine yc ?_ | exact rfl | intro _)
   ·rename_i h
    have h2 : a.Rows ≠ b.Rows := ne_at hx hy (by simpa using h)
    exact fin rfl (outB (by simp [h2]))
   ·rename_i h
    have hxy : x = y := by simpa using h
    refine ih () (eq_step hinv hx (hxy ▸ hy)) _ _ ?_
    rw [w64s (by omega)]; rfl
  ·rintro _ hc _ hinv
   repeat' (first | refine yy ?_ | refine ym ?_ | (apply ze;(iterate 5 exact rfl)) | (apply zf;(iterate 5 exact rfl)) | refine yp ?_ | refine yt1 ?_ | refine yt0 ?_ | refine yt ?_ ?_ | refine yo ?_ | apply zn | refine yc ?_ | exact rfl | intro _)
   refine fin rfl (outB ?_)
   simp [eq_end hinv e7 (Nat.le_refl _)]
end Go.Wr
namespace Go.Wr
set_option maxRecDepth 20000
theorem q57_eq (x : GSketch) (hl : x.bulk <= 4194304) : F_q57 [.st (x.cs .n)] = some ⟨[.st (x.cs .y)], []⟩ := by
 obtain ⟨h1, h2, h3, h4⟩ := sk_in hl
 (refine fun_ev rfl ?_; show Ev m_q57.code _ _ _)
 repeat' (first | refine yk g_q0 (q0_eq x.Hist h1) ?_ | refine yk g_q0 (q0_eq x.Regs h2) ?_ | refine yt1 ?_ | refine yt0 ?_ | refine yt ?_ ?_ | refine yo ?_ | apply zn | refine yc ?_ | intro _)
 refine zfor (ints .n) x.Rows (fun i (es : List T) => [(1, .box ⟨0, 0, 0⟩ (x.cs .n)), (2, .box ⟨0, 0, 0⟩ [iT 0, iT 0, iT 0, iT 0, .l .y 1 [], .l .y 1 [], .l .y 1 []]), (3, .box ⟨0, 0, 0⟩ [iT x.Count, iT x.Sum, iT x.Min, iT x.Max, ints .y x.Hist, ints .y x.Regs, .l .y 1 es]), (17, .x (GInt.lss .n x.Rows)), (18, .x (iT (x.Rows.map (ints .n)).length)), (19, .x (iT i))]) (fun i es => es = (x.Rows.take i).map (ints .y)) [] rfl rfl ?_ ?_
 ·rintro i es r hx hlt hc _ hinv ih
  have hrl := h4 i r hx
  have happ : es.length + 1 < lenMax := by
   rw [hinv, List.length_map, List.length_take]; unfold lenMax; omega
  repeat' (first | refine yi (ints .n r) (map_at hx) ?_ | refine yk g_q0 (q0_eq r hrl) ?_ | (apply zV;(iterate 8 exact rfl);exact (happ);exact (rfl);exact (happ);exact rfl;exact rfl) | refine yt1 ?_ | refine yt0 ?_ | refine yt ?_ ?_ | refine yo ?_ | apply zn | refine yc ?_ | intro _)
  refine ih (es ++ [ints .y r]) ?_ _ _ ?_
  ·rw [hinv, map_succ hx]
  ·rw [w64s (by omega)]; rfl
 ·rintro es hc _ hinv
  rw [List.take_length] at hinv
  subst hinv
  repeat' (first | refine yt1 ?_ | refine yt0 ?_ | refine yt ?_ ?_ | refine yo ?_ | apply zn | refine yc ?_ | intro _)
  refine fin rfl ?_
  try simp only [sub_all]
  try rfl
theorem q5d_eq (e : GEntry) (hl : e.bulk <= 4194304) : F_q5d [.st (e.cs .n)] = some ⟨[.st (e.cs .y)], []⟩ := by
 have h1 : e.Ids.length <= 4194304 := by unfold GEntry.bulk at hl; omega
 have h2 : e.Sketch.bulk <= 4194304 := by unfold GEntry.bulk at hl; omega
 (refine fun_ev rfl ?_; show Ev m_q5d.code _ _ _)
 repeat' (first | refine yk g_qh (qh_eq e.Ids h1) ?_ | refine yk g_q57 (q57_eq e.Sketch h2) ?_ | refine yo ?_ | apply zn | refine yc ?_ | intro _)
 refine fin rfl ?_
 try simp only [sub_all]
 try rfl
theorem q58_eq (i : Nat) (x : GItem) (hl : x.bulk <= 4000000) (hok : x.ok = true) (hid : 0 <= idOf i x.Seq) : F_q58 [.x (iT i), .st (x.cs .n)] = some ⟨[.st ((entOf i x).cs .y), .one (.b true)], []⟩ := by
 have hs : x.Sketch.bulk <= 4194304 := Nat.le_trans hl (by omega)
 have hc : (!x.ok || decide (idOf i x.Seq < 0)) = false := by rw [hok]; simp; omega
 (refine fun_ev rfl ?_; show Ev m_q58.code _ _ _)
 repeat' (first | refine yy ?_ | refine ym ?_ | (apply ze;(iterate 5 exact rfl)) | (apply zf;(iterate 5 exact rfl)) | refine yp ?_ | refine yk g_q8 (q8_eq _ _) ?_ | refine yk g_q4 (q4_eq x hl) ?_ | refine yk g_q57 (q57_eq x.Sketch hs) ?_ | refine yt1 ?_ | refine yt0 ?_ | refine yt ?_ ?_ | refine yo ?_ | apply zn | refine yc ?_ | exact rfl | intro _)
 refine fin rfl ?_
 try simp only [sub_all]
 try rfl
theorem filter_succ {α : Type} {p : α -> Bool} {l : List α} {i : Nat} {x : α} (h : l[i]? = some x) : (l.take (i + 1)).filter p = (l.take i).filter p ++ (if p x then [x] else []) := by
 rw [List.take_add_one, h, List.filter_append]; simp [List.filter_cons]
theorem filter_lt {α : Type} {p : α -> Bool} {l : List α} {i : Nat} : ((l.take i).filter p).length <= i := Nat.le_trans (List.length_filter_le _ _) (by rw [List.length_take]; omega)
theorem q5g_eq (l : List GEntry) (k w : Int) (hl : l.length <= 4194304) : F_q5g [.x (GEntry.ls .n l), .x (iT k), .x (iT w)] = some ⟨[.one (.l .y 10 ((l.filter (atE k w)).map (GEntry.el .n)))], []⟩ := by
 (refine fun_ev rfl ?_; show Ev m_q5g.code _ _ _)
 repeat' (first | refine yy ?_ | refine ym ?_ | (apply ze;(iterate 5 exact rfl)) | (apply zf;(iterate 5 exact rfl)) | refine yp ?_ | refine yt1 ?_ | refine yt0 ?_ | refine yt ?_ ?_ | refine yo ?_ | apply zn | refine yc ?_ | exact rfl | intro _)
 refine zfor (GEntry.el .n) l (fun i (es : List T) => [(1, .x (iT k)), (2, .x (iT w)), (7, .own ⟨0, 0, 0⟩ (.l .y 10 es)), (10, .x (GEntry.ls .n l)), (11, .x (iT (l.map (GEntry.el .n)).length)), (12, .x (iT i))]) (fun i es => es = ((l.take i).filter (atE k w)).map (GEntry.el .n)) [] rfl rfl ?_ ?_
 ·rintro i es e hx hlt hc _ hinv ih
  have hlen : es.length + [e].length <= 4194304 := by
   rw [hinv, List.length_map]
   have := filter_lt (p := atE k w) (l := l) (i := i)
   simp; omega
  repeat' (first | refine yy ?_ | refine ym ?_ | (apply ze;(iterate 5 exact rfl)) | (apply zf;(iterate 5 exact rfl)) | refine yp ?_ | refine yi (GEntry.el .n e) (map_at hx) ?_ | (apply zV;(iterate 8 exact rfl);exact (app_es (f := GEntry.el .n) hlen);exact (rfl);exact (app_es (f := GEntry.el .n) hlen);exact rfl;exact rfl) | refine yt1 ?_ | refine yt0 ?_ | refine yt ?_ ?_ | refine yo ?_ | apply zn | refine yc ?_ | exact rfl | intro _)
  ·rename_i h
   have h2 : atE k w e = true := h
   refine ih (es ++ [GEntry.el .n e]) ?_ _ _ ?_
   ·rw [hinv, filter_succ hx, h2]; simp
   ·rw [w64s (by omega)]; rfl
  ·rename_i h
   have h2 : atE k w e = false := h
   refine ih es ?_ _ _ ?_
   ·rw [hinv, filter_succ hx, h2]; simp
   ·rw [w64s (by omega)]; rfl
 ·rintro es hc _ hinv
  rw [List.take_length] at hinv
  subst hinv
  repeat' (first | refine yy ?_ | refine ym ?_ | (apply ze;(iterate 5 exact rfl)) | (apply zf;(iterate 5 exact rfl)) | refine yp ?_ | refine yt1 ?_ | refine yt0 ?_ | refine yt ?_ ?_ | refine yo ?_ | apply zn | refine yc ?_ | exact rfl | intro _)
  exact fin rfl (by simp only [sub_all])
theorem zip_at {f : Int -> Int -> Int} {a b : List Int} {i : Nat} {x y : Int} (hx : a[i]? = some x) (hy : b[i]? = some y) : (List.zipWith f a b)[i]? = some (f x y) := by
 rw [List.getElem?_zipWith, hx, hy]
theorem q5r_eq (a b : List Int) (hl : a.length <= 4194304) (hb : a.length <= b.length) : F_q5r [.x (ints .n a), .x (ints .n b)] = some ⟨[.one (ints .y (List.zipWith addZ a b))], []⟩ := by
 (refine fun_ev rfl ?_; show Ev m_q5r.code _ _ _)
 repeat' (first | refine yt1 ?_ | refine yt0 ?_ | refine yt ?_ ?_ | refine yo ?_ | apply zn | refine yc ?_ | intro _)
 refine zfor iT a (fun i (es : List T) => [(0, .x (ints .n a)), (1, .x (ints .n b)), (5, .own ⟨0, 0, 0⟩ (.l .y 1 es)), (6, .x (iT i))]) (fun i es => es = ((List.zipWith addZ a b).take i).map iT) [] rfl rfl ?_ ?_
 ·rintro i es x hx hlt hc _ hinv ih
  have hy := List.getElem?_eq_getElem (show i < b.length by omega)
  generalize b[i]'(by omega) = y at hy
  have happ : es.length + [iT (addZ x y)].length < lenMax := by
   show es.length + 1 < lenMax
   rw [hinv, List.length_map, List.length_take]; unfold lenMax; omega
  repeat' (first | refine yi (iT x) (map_at hx) ?_ | refine yi (iT y) (map_at hy) ?_ | refine yk g_q5q (q5q_eq x y) ?_ | (apply zv;(iterate 7 exact rfl);exact (happ);exact (rfl);exact rfl;exact rfl) | refine yt1 ?_ | refine yt0 ?_ | refine yt ?_ ?_ | refine yo ?_ | apply zn | refine yc ?_ | intro _)
  refine ih (es ++ [iT (addZ x y)]) ?_ _ _ ?_
  ·rw [hinv, map_succ (zip_at hx hy)]
  ·rw [w64s (by omega)]; rfl
 ·rintro es hc _ hinv
  rw [List.take_of_length_le (by rw [List.length_zipWith]; omega)] at hinv
  subst hinv
  repeat' (first | refine yt1 ?_ | refine yt0 ?_ | refine yt ?_ ?_ | refine yo ?_ | apply zn | refine yc ?_ | intro _)
  exact fin rfl (by simp only [sub_all])
set_option maxHeartbeats 2000000 in
theorem q5s_eq (a b : GSketch) (ha : SkR a) (hb : SkR b) : F_q5s [.st (a.cs .n), .st (b.cs .n)] = some ⟨[.st ((mergeS a b).cs .y)], []⟩ := by
 obtain ⟨ac, az, an, ax, ah, ar, aw⟩ := a
 obtain ⟨bc, bs, bn, bx, bh, br, bw⟩ := b
 obtain ⟨_, _, _, _, ⟨ha5, _⟩, ⟨ha6, _⟩, ha7, ha8⟩ := ha
 obtain ⟨_, _, _, _, ⟨hb5, _⟩, ⟨hb6, _⟩, hb7, hb8⟩ := hb
 simp only at *
 match aw, bw, ha7, hb7 with
 | [p, q], [p', q'], _, _ =>
 have hp := (ha8 p (by simp)).1
 have hq := (ha8 q (by simp)).1
 have hp' := (hb8 p' (by simp)).1
 have hq' := (hb8 q' (by simp)).1
 have k0 : ([p, q].map (ints .n))[(0 : Int).toNat]? = some (ints .n p) := rfl
 have k1 : ([p, q].map (ints .n))[(1 : Int).toNat]? = some (ints .n q) := rfl
 have k0' : ([p', q'].map (ints .n))[(0 : Int).toNat]? = some (ints .n p') := rfl
 have k1' : ([p', q'].map (ints .n))[(1 : Int).toNat]? = some (ints .n q') := rfl
 (refine fun_ev rfl ?_; show Ev m_q5s.code _ _ _)
 repeat' (first | refine yk g_q5q (q5q_eq _ _) ?_ | refine yk g_q3l (q3l_eq _ _) ?_ | refine yk g_q3k (q3k_eq _ _) ?_ | (apply zi (ints .n p);exact rfl;exact rfl;exact (by decide);exact (k0);exact rfl;exact rfl) | (apply zi (ints .n q);exact rfl;exact rfl;exact (by decide);exact (k1);exact rfl;exact rfl) | (apply zi (ints .n p');exact rfl;exact rfl;exact (by decide);exact (k0');exact rfl;exact rfl) | (apply zi (ints .n q');exact rfl;exact rfl;exact (by decide);exact (k1');exact rfl;exact rfl) | refine yk g_q5r (q5r_eq ah bh (by omega) (by omega)) ?_ | refine yk g_q5r (q5r_eq p p' (by omega) (by omega)) ?_ | refine yk g_q5r (q5r_eq q q' (by omega) (by omega)) ?_ | refine yt1 ?_ | refine yt0 ?_ | refine yt ?_ ?_ | refine yo ?_ | apply zn | refine yc ?_ | intro _)
 all_goals
  rename_i h1 h2
  simp only [beq_iff_eq, beq_eq_false_iff_ne, ne_eq] at h1 h2
  refine zfor iT ar (fun i (es : List T) => [(2, .box ⟨0, 0, 0⟩ ((⟨ac, az, an, ax, ah, ar, [p, q]⟩ : GSketch).cs .n)), (3, .box ⟨0, 0, 0⟩ ((⟨bc, bs, bn, bx, bh, br, [p', q']⟩ : GSketch).cs .n)), (4, .box ⟨0, 0, 0⟩ [iT 0, iT 0, iT 0, iT 0, .l .y 1 [], .l .y 1 [], .l .y 1 []]), (5, .box ⟨0, 0, 0⟩ [iT (addZ ac bc), iT (addZ az bs), iT (if bc = 0 then an else if ac = 0 then bn else min an bn), iT (max ax bx), ints .y (List.zipWith addZ ah bh), .l .y 1 es, .l .y 1 [ints .y (List.zipWith addZ p p'), ints .y (List.zipWith addZ q q')]]), (6, .x (iT i))]) (fun i es => es = ((List.zipWith max ar br).take i).map iT) [] rfl (by first | (rw [if_pos h2]; rfl) | (rw [if_neg h2, if_pos h1]; rfl) | (rw [if_neg h2, if_neg h1]; rfl)) ?_ ?_
  ·rintro i es x hx hlt _ _ hinv ih
   have hc : decide ((i : Int) < 8) = true := by simp; omega
   have hy := List.getElem?_eq_getElem (show i < br.length by omega)
   generalize br[i]'(by omega) = y at hy
   have happ : es.length + [iT (max x y)].length < lenMax := by
    show es.length + 1 < lenMax
    rw [hinv, List.length_map, List.length_take]; unfold lenMax; omega
   repeat' (first | refine yi (iT x) (map_at hx) ?_ | refine yi (iT y) (map_at hy) ?_ | refine yk g_q3k (q3k_eq x y) ?_ | (apply zv;(iterate 7 exact rfl);exact (happ);exact (rfl);exact rfl;exact rfl) | refine yt1 ?_ | refine yt0 ?_ | refine yt ?_ ?_ | refine yo ?_ | apply zn | refine yc ?_ | intro _)
   refine ih (es ++ [iT (max x y)]) ?_ _ _ ?_
   ·rw [hinv, map_succ (zip_at hx hy)]
   ·rw [w64s (by omega)]; rfl
  ·rintro es _ _ hinv
   have hc : decide ((ar.length : Int) < 8) = false := by rw [ha6]; rfl
   rw [List.take_of_length_le (by rw [List.length_zipWith]; omega)] at hinv
   subst hinv
   repeat' (first | refine yt1 ?_ | refine yt0 ?_ | refine yt ?_ ?_ | refine yo ?_ | apply zn | refine yc ?_ | intro _)
   refine fin rfl ?_
   try simp only [sub_all]
   try rfl
end Go.Wr
namespace Go.Wr
set_option maxRecDepth 20000
def zipTo {α : Type} (f : α -> α -> α) (a b : List α) (i : Nat) : List α := List.zipWith f (a.take i) (b.take i) ++ a.drop i
section
variable {α : Type} {f : α -> α -> α} {a b : List α} {i : Nat} {x y : α}
theorem zipTo_zero : zipTo f a b 0 = a := by simp [zipTo]
theorem zipTo_front (ha : i <= a.length) (hb : i <= b.length) : (List.zipWith f (a.take i) (b.take i)).length = i := by rw [List.length_zipWith, List.length_take, List.length_take]; omega
theorem zipTo_at (hx : a[i]? = some x) (hb : i < b.length) : (zipTo f a b i)[i]? = some x := by
 have ha := (List.getElem?_eq_some_iff.1 hx).1
 rw [zipTo, List.getElem?_append_right (by rw [zipTo_front (by omega) (by omega)]; omega), zipTo_front (by omega) (by omega), List.getElem?_drop]
 simpa using hx
theorem zipTo_set (hx : a[i]? = some x) (hy : b[i]? = some y) : (zipTo f a b i).set i (f x y) = zipTo f a b (i + 1) := by
 obtain ⟨ha, rfl⟩ := List.getElem?_eq_some_iff.1 hx
 obtain ⟨hb, rfl⟩ := List.getElem?_eq_some_iff.1 hy
 have h2 : List.zipWith f (a.take (i + 1)) (b.take (i + 1)) = List.zipWith f (a.take i) (b.take i) ++ [f a[i] b[i]] := by
  rw [List.take_add_one, List.take_add_one, hx, hy, List.zipWith_append (by rw [List.length_take, List.length_take]; omega)]
  rfl
 rw [zipTo, List.set_append_right _ _ (by rw [zipTo_front (by omega) (by omega)]; omega), zipTo_front (by omega) (by omega), Nat.sub_self, List.drop_eq_getElem_cons ha, List.set_cons_zero, zipTo, h2, List.append_assoc]
 rfl
theorem zipTo_end (h : a.length = b.length) : zipTo f a b b.length = List.zipWith f a b := by rw [zipTo, List.take_of_length_le (by omega), List.take_of_length_le (by omega), List.drop_eq_nil_of_le (by omega), List.append_nil]
theorem set_same {l : List α} (h : l[i]? = some x) : l.set i x = l := by
 obtain ⟨_, rfl⟩ := List.getElem?_eq_some_iff.1 h
 exact List.set_getElem_self ..
theorem set_at {l : List α} (h : i < l.length) : (l.set i x)[i]? = some x := by rw [List.getElem?_set_self h]
end
theorem sk_bulk {x : GSketch} (h : SkR x) : x.bulk <= 100 := by
 obtain ⟨_, _, _, _, ⟨h5, _⟩, ⟨h6, _⟩, h7, h8⟩ := h
 match hx : x.Rows, h7 with
 | [p, q], _ =>
 have hp := (h8 p (by rw [hx]; simp)).1
 have hq := (h8 q (by rw [hx]; simp)).1
 simp [GSketch.bulk, bulks, hx, h5, h6, hp, hq]
theorem max_if (a b : Int) : (if b > a then b else a) = max a b := by split <;> omega
theorem merge_minT {a b : GSketch} (ha : SkR a) (hb : SkR b) (h : ((a.Count == 0) || (decide (b.Count > 0) && decide (b.Min < a.Min))) = true) : (mergeS a b).Min = b.Min := by
 simp only [Bool.or_eq_true, beq_iff_eq, Bool.and_eq_true, decide_eq_true_eq] at h
 have h1 := ha.mn; have h2 := hb.mn; have h3 := ha.zero; have h4 := hb.zero; have := hb.cnt
 simp only [mergeS]
 split
 ·omega
 ·split <;> omega
theorem merge_minF {a b : GSketch} (ha : SkR a) (hb : SkR b) (h : ((a.Count == 0) || (decide (b.Count > 0) && decide (b.Min < a.Min))) = false) : (mergeS a b).Min = a.Min := by
 simp only [Bool.or_eq_false_iff, beq_eq_false_iff_ne, Bool.and_eq_false_iff, decide_eq_false_iff_not] at h
 have := hb.cnt
 simp only [mergeS]
 split
 ·rfl
 ·split
  ·exact absurd ‹_› h.1
  ·omega
set_option maxHeartbeats 2000000 in
theorem q5c_eq (a b : GSketch) (ha : SkR a) (hb : SkR b) : F_q5c [.st (a.cs .n), .st (b.cs .n)] = some ⟨[.st ((mergeS a b).cs .y), .one (.b true)], []⟩ := by
 have hla := sk_bulk ha
 have hlb := sk_bulk hb
 have hb5 := hb.hist.1
 have hb6 := hb.regs.1
 have hb7 := hb.rows.1
 have hoa := (sk_iff a).2 ha
 have hob := (sk_iff b).2 hb
 have hok : (!a.ok || !b.ok) = false := by rw [hoa, hob]; rfl
 have hc : 0 <= b.Count /\ b.Count <= 1000000000 := hb.cnt
 have hmx : (mergeS a b).Max = if b.Max > a.Max then b.Max else a.Max := (max_if _ _).symm
 (refine fun_ev rfl ?_; show Ev m_q5c.code _ _ _)
 repeat' (first | refine yy ?_ | refine ym ?_ | (apply ze;(iterate 5 exact rfl)) | (apply zf;(iterate 5 exact rfl)) | refine yp ?_ | refine yk g_q3 (q3_eq a (by omega)) ?_ | refine yk g_q3 (q3_eq b (by omega)) ?_ | refine yk g_q57 (q57_eq a (by omega)) ?_ | refine yk g_q5b (q5b_eq _ _) ?_ | refine yt1 ?_ | refine yt0 ?_ | refine yt ?_ ?_ | refine yo ?_ | apply zn | refine yc ?_ | exact rfl | intro _)
 all_goals
  rename_i hm
  refine zfor iT b.Hist (fun i (hs : List Int) => [(3, .box ⟨0, 0, 0⟩ (b.cs .n)), (4, .box ⟨0, 0, 0⟩ [iT 0, iT 0, iT 0, iT 0, .l .y 1 [], .l .y 1 [], .l .y 1 []]), (6, .box ⟨0, 0, 0⟩ [iT (addZ a.Count b.Count), iT (addZ a.Sum b.Sum), iT (mergeS a b).Min, iT (mergeS a b).Max, .l .y 1 (hs.map iT), .l .y 1 (a.Regs.map iT), .l .y 1 (a.Rows.map (ints .y))]), (63, .x (ints .n b.Hist)), (64, .x (iT (b.Hist.map iT).length)), (65, .x (iT i))]) (fun i hs => hs = zipTo addZ a.Hist b.Hist i) a.Hist zipTo_zero.symm (by first | (rw [hmx, merge_minT ha hb hm]; rfl) | (rw [hmx, merge_minF ha hb hm]; rfl)) ?_ ?_
  ·rintro i hs y hy hlt hc2 _ hinv ih
   have hx := List.getElem?_eq_getElem (show i < a.Hist.length by rw [ha.hist.1]; rw [hb.hist.1] at hlt; omega)
   generalize a.Hist[i]'_ = x at hx
   have hg : hs[i]? = some x := hinv ▸ zipTo_at hx hlt
   repeat' (first | refine yy ?_ | refine ym ?_ | (apply ze;(iterate 5 exact rfl)) | (apply zf;(iterate 5 exact rfl)) | refine yp ?_ | refine yi (iT y) (map_at hy) ?_ | refine yx (own_lt (List.getElem?_eq_some_iff.1 hg).1) ?_ | (apply zl (iT x);exact rfl;exact rfl;exact (by simp [T.nav, T.kid, hg]);(iterate 3 exact rfl)) | refine yk g_q5b (q5b_eq x y) ?_ | (apply zS (iT x) (.a [iT (addZ a.Count b.Count), iT (addZ a.Sum b.Sum), iT (mergeS a b).Min, iT (mergeS a b).Max, .l .y 1 ((hs.set i (addZ x y)).map iT), .l .y 1 (a.Regs.map iT), .l .y 1 (a.Rows.map (ints .y))]);(iterate 4 exact rfl);exact (by simp [T.nav, T.kid, hg]);exact (by simp [T.mine, Ob.own, hg]);exact rfl;exact (by simp [T.put, T.kid, T.setKid, hg, List.map_set, T.ofCells, T.cells, splice]);(iterate 3 exact rfl)) | refine yt1 ?_ | refine yt0 ?_ | refine yt ?_ ?_ | refine yo ?_ | apply zn | refine yc ?_ | exact rfl | intro _)
   refine ih (hs.set i (addZ x y)) ?_ _ _ ?_
   ·rw [hinv, zipTo_set hx hy]
   ·rw [w64s (by omega)]; rfl
  ·rintro hs hc2 _ hinv
   rw [zipTo_end (by rw [ha.hist.1, hb.hist.1])] at hinv
   subst hinv
   repeat' (first | refine yy ?_ | refine ym ?_ | (apply ze;(iterate 5 exact rfl)) | (apply zf;(iterate 5 exact rfl)) | refine yp ?_ | refine yt1 ?_ | refine yt0 ?_ | refine yt ?_ ?_ | refine yo ?_ | apply zn | refine yc ?_ | exact rfl | intro _)
   refine zfor iT b.Regs (fun i (rs : List Int) => [(3, .box ⟨0, 0, 0⟩ (b.cs .n)), (4, .box ⟨0, 0, 0⟩ [iT 0, iT 0, iT 0, iT 0, .l .y 1 [], .l .y 1 [], .l .y 1 []]), (6, .box ⟨0, 0, 0⟩ [iT (addZ a.Count b.Count), iT (addZ a.Sum b.Sum), iT (mergeS a b).Min, iT (mergeS a b).Max, .l .y 1 ((List.zipWith addZ a.Hist b.Hist).map iT), .l .y 1 (rs.map iT), .l .y 1 (a.Rows.map (ints .y))]), (83, .x (ints .n b.Regs)), (84, .x (iT (b.Regs.map iT).length)), (85, .x (iT i))]) (fun i rs => rs = zipTo max a.Regs b.Regs i) a.Regs zipTo_zero.symm rfl ?_ ?_
   ·rintro i rs y hy hlt hc3 _ hinv ih
    have hx := List.getElem?_eq_getElem (show i < a.Regs.length by rw [ha.regs.1]; rw [hb.regs.1] at hlt; omega)
    generalize a.Regs[i]'_ = x at hx
    have hg : rs[i]? = some x := hinv ▸ zipTo_at hx hlt
    repeat' (first | refine yy ?_ | refine ym ?_ | (apply ze;(iterate 5 exact rfl)) | (apply zf;(iterate 5 exact rfl)) | refine yp ?_ | refine yi (iT y) (map_at hy) ?_ | refine yx (own_lt (List.getElem?_eq_some_iff.1 hg).1) ?_ | (apply zl (iT x);exact rfl;exact rfl;exact (by simp [T.nav, T.kid, hg]);(iterate 3 exact rfl)) | (apply zS (iT x) (.a [iT (addZ a.Count b.Count), iT (addZ a.Sum b.Sum), iT (mergeS a b).Min, iT (mergeS a b).Max, .l .y 1 ((List.zipWith addZ a.Hist b.Hist).map iT), .l .y 1 ((rs.set i (if y > x then y else x)).map iT), .l .y 1 (a.Rows.map (ints .y))]);(iterate 4 exact rfl);exact (by simp [T.nav, T.kid, hg]);exact (by simp [T.mine, Ob.own, hg]);exact rfl;exact (by simp [T.put, T.kid, T.setKid, hg, List.map_set, T.ofCells, T.cells, splice]);(iterate 3 exact rfl)) | refine yt1 ?_ | refine yt0 ?_ | refine yt ?_ ?_ | refine yo ?_ | apply zn | refine yc ?_ | exact rfl | intro _)
    refine ih (rs.set i (if y > x then y else x)) ?_ _ _ ?_
    ·rw [hinv, max_if, zipTo_set hx hy]
    ·rw [w64s (by omega)]; rfl
   ·rintro rs hc3 _ hinv
    rw [zipTo_end (by rw [ha.regs.1, hb.regs.1])] at hinv
    subst hinv
    repeat' (first | refine yy ?_ | refine ym ?_ | (apply ze;(iterate 5 exact rfl)) | (apply zf;(iterate 5 exact rfl)) | refine yp ?_ | refine yt1 ?_ | refine yt0 ?_ | refine yt ?_ ?_ | refine yo ?_ | apply zn | refine yc ?_ | exact rfl | intro _)
    refine zfor (ints .n) b.Rows (fun k (ws : List (List Int)) => [(3, .box ⟨0, 0, 0⟩ (b.cs .n)), (4, .box ⟨0, 0, 0⟩ [iT 0, iT 0, iT 0, iT 0, .l .y 1 [], .l .y 1 [], .l .y 1 []]), (6, .box ⟨0, 0, 0⟩ [iT (addZ a.Count b.Count), iT (addZ a.Sum b.Sum), iT (mergeS a b).Min, iT (mergeS a b).Max, .l .y 1 ((List.zipWith addZ a.Hist b.Hist).map iT), .l .y 1 ((List.zipWith max a.Regs b.Regs).map iT), .l .y 1 (ws.map (ints .y))]), (103, .x (GInt.lss .n b.Rows)), (104, .x (iT (b.Rows.map (ints .n)).length)), (105, .x (iT k))]) (fun k ws => ws = zipTo (List.zipWith addZ) a.Rows b.Rows k) a.Rows zipTo_zero.symm rfl ?_ ?_
    ·rintro k ws q hy hlt hc4 _ hinv ih
     have hx := List.getElem?_eq_getElem (show k < a.Rows.length by rw [ha.rows.1]; rw [hb.rows.1] at hlt; omega)
     generalize a.Rows[k]'_ = p at hx
     have hp := (ha.rows.2 p (List.mem_of_getElem? hx)).1
     have hq := (hb.rows.2 q (List.mem_of_getElem? hy)).1
     have hg : ws[k]? = some p := hinv ▸ zipTo_at hx hlt
     have hwl := (List.getElem?_eq_some_iff.1 hg).1
     repeat' (first | refine yy ?_ | refine ym ?_ | (apply ze;(iterate 5 exact rfl)) | (apply zf;(iterate 5 exact rfl)) | refine yp ?_ | refine yi (ints .n q) (map_at hy) ?_ | refine yt1 ?_ | refine yt0 ?_ | refine yt ?_ ?_ | refine yo ?_ | apply zn | refine yc ?_ | exact rfl | intro _)
     refine zfor iT q (fun i (us : List Int) => [(3, .box ⟨0, 0, 0⟩ (b.cs .n)), (4, .box ⟨0, 0, 0⟩ [iT 0, iT 0, iT 0, iT 0, .l .y 1 [], .l .y 1 [], .l .y 1 []]), (6, .box ⟨0, 0, 0⟩ [iT (addZ a.Count b.Count), iT (addZ a.Sum b.Sum), iT (mergeS a b).Min, iT (mergeS a b).Max, .l .y 1 ((List.zipWith addZ a.Hist b.Hist).map iT), .l .y 1 ((List.zipWith max a.Regs b.Regs).map iT), .l .y 1 ((ws.set k us).map (ints .y))]), (11, .x (iT k)), (12, .x (ints .n q)), (103, .x (GInt.lss .n b.Rows)), (104, .x (iT (b.Rows.map (ints .n)).length)), (105, .x (iT k)), (110, .x (ints .n q)), (111, .x (iT (q.map iT).length)), (112, .x (iT i))]) (fun i us => us = zipTo addZ p q i) p zipTo_zero.symm (by rw [set_same hg]; rfl) ?_ ?_
     ·rintro i us y hyy hlt2 hc5 _ hinv2 ih2
      have hxx := List.getElem?_eq_getElem (show i < p.length by omega)
      generalize p[i]'_ = x at hxx
      have hg2 : us[i]? = some x := hinv2 ▸ zipTo_at hxx hlt2
      have hg3 : (ws.set k us)[k]? = some us := set_at hwl
      have hset : ws.set k (us.set i (addZ x y)) = (ws.set k us).set k (us.set i (addZ x y)) := by rw [List.set_set]
      generalize ws.set k us = vs at hg3 hset ⊢
      have n1 : (T.a [iT (addZ a.Count b.Count), iT (addZ a.Sum b.Sum), iT (mergeS a b).Min, iT (mergeS a b).Max, .l .y 1 ((List.zipWith addZ a.Hist b.Hist).map iT), .l .y 1 ((List.zipWith max a.Regs b.Regs).map iT), .l .y 1 (vs.map (ints .y))]).nav ([6] ++ [0 + ((k : Nat) : Int).toNat]) = some (ints .y us) := by simp [T.nav, T.kid, hg3]
      have n2 : (T.a [iT (addZ a.Count b.Count), iT (addZ a.Sum b.Sum), iT (mergeS a b).Min, iT (mergeS a b).Max, .l .y 1 ((List.zipWith addZ a.Hist b.Hist).map iT), .l .y 1 ((List.zipWith max a.Regs b.Regs).map iT), .l .y 1 (vs.map (ints .y))]).nav (([6] ++ [0 + ((k : Nat) : Int).toNat]) ++ [0 + ((i : Nat) : Int).toNat]) = some (iT x) := by simp [T.nav, T.kid, hg3, hg2]
      repeat' (first | refine yy ?_ | refine ym ?_ | (apply ze;(iterate 5 exact rfl)) | (apply zf;(iterate 5 exact rfl)) | refine yp ?_ | refine yi (iT y) (map_at hyy) ?_ | refine yx (own_lt (List.getElem?_eq_some_iff.1 hg3).1) ?_ | refine yx (own_lt (List.getElem?_eq_some_iff.1 hg2).1) ?_ | refine yl (ints .y us) (n1) ?_ | refine yl (iT x) (n2) ?_ | refine yk g_q5b (q5b_eq x y) ?_ | (apply zS (iT x) (.a [iT (addZ a.Count b.Count), iT (addZ a.Sum b.Sum), iT (mergeS a b).Min, iT (mergeS a b).Max, .l .y 1 ((List.zipWith addZ a.Hist b.Hist).map iT), .l .y 1 ((List.zipWith max a.Regs b.Regs).map iT), .l .y 1 ((vs.set k (us.set i (addZ x y))).map (ints .y))]);(iterate 4 exact rfl);exact (n2);exact (by simp [T.mine, Ob.own, hg3, hg2]);exact rfl;exact (by simp [T.put, T.kid, T.setKid, hg3, hg2, List.map_set, T.ofCells, T.cells, splice, ints]);(iterate 3 exact rfl)) | refine yt1 ?_ | refine yt0 ?_ | refine yt ?_ ?_ | refine yo ?_ | apply zn | refine yc ?_ | exact rfl | intro _)
      refine ih2 (us.set i (addZ x y)) ?_ _ _ ?_
      ·rw [hinv2, zipTo_set hxx hyy]
      ·rw [w64s (by omega), hset]; rfl
     ·rintro us hc5 _ hinv2
      rw [zipTo_end (by omega)] at hinv2
      subst hinv2
      repeat' (first | refine yy ?_ | refine ym ?_ | (apply ze;(iterate 5 exact rfl)) | (apply zf;(iterate 5 exact rfl)) | refine yp ?_ | refine yt1 ?_ | refine yt0 ?_ | refine yt ?_ ?_ | refine yo ?_ | apply zn | refine yc ?_ | exact rfl | intro _)
      refine ih (ws.set k (List.zipWith addZ p q)) ?_ _ _ ?_
      ·rw [hinv, zipTo_set (f := List.zipWith addZ) hx hy]
      ·rw [w64s (by omega)]; rfl
    ·rintro ws hc4 _ hinv
     rw [zipTo_end (by rw [ha.rows.1, hb.rows.1])] at hinv
     subst hinv
     repeat' (first | refine yy ?_ | refine ym ?_ | (apply ze;(iterate 5 exact rfl)) | (apply zf;(iterate 5 exact rfl)) | refine yp ?_ | refine yt1 ?_ | refine yt0 ?_ | refine yt ?_ ?_ | refine yo ?_ | apply zn | refine yc ?_ | exact rfl | intro _)
     refine fin rfl ?_
     try simp only [sub_all]
     try rfl
end Go.Wr
namespace Go.Wr
set_option maxRecDepth 20000
theorem ints_closed (l : List Int) : (ints .y l).closed = true := closeds_map (fun _ => rfl) l
theorem sk_closed (x : GSketch) : closeds (x.cs .y) = true := by
 have h := closeds_map ints_closed x.Rows
 have h1 := closeds_map (f := iT) (fun _ => rfl) x.Hist
 have h2 := closeds_map (f := iT) (fun _ => rfl) x.Regs
 simp only [GSketch.cs, closeds, T.closed, h, h1, h2, Bool.and_true]
theorem call_sk {hs : List Hand} (x : GSketch) (ha : apart hs = true) : callOk hs ⟨[.st (x.cs .y)], []⟩ = true := by
 simp [callOk, ha, RV.closed, sk_closed, RV.good]
theorem call_skb {hs : List Hand} (x : GSketch) (ha : apart hs = true) : callOk hs ⟨[.st (x.cs .y), .one (.b true)], []⟩ = true := by
 simp [callOk, ha, RV.closed, sk_closed, RV.good, T.closed, T.loose]
theorem sub_tail {α : Type} {f : α -> T} {e : α} {l : List α} : sub ((e :: l).map f) 1 (((e :: l).map f).length - 1) = l.map f := by
 unfold sub; rw [List.map_cons, List.drop_succ_cons, List.drop_zero, List.take_of_length_le (by simp)]
theorem setR_len : ∀ {s : List GSpan}, SetR s -> (s.length : Int) <= sumSpan s
 | [], _ => by simp [sumSpan]
 | x :: s, hs => by
  have h1 := setR_len hs.tail
  have h2 := hs.one
  unfold SpanR at h2
  unfold sumSpan at h1 ⊢
  rw [List.map_cons, List.sum_cons, List.length_cons]
  omega
theorem setR_le {s : List GSpan} (hs : SetR s) : s.length <= 10000 := by
 have h1 := setR_len hs
 have h2 := sumSpan_le (lo := 0) (m := 9999) hs (fun x hx => by have := hs.span hx; unfold SpanR at this; omega) (by omega)
 omega
theorem ok_bulk {e : GEntry} (h : e.ok = true) : e.bulk <= 10100 := by
 have h1 := setR_le (ok_setR h)
 have h2 := sk_bulk ((sk_iff _).1 (ok_sk h))
 unfold GEntry.bulk; omega
theorem q5e_eq (e : GEntry) (t : List GEntry) (hl : bulks GEntry.bulk (e :: t) <= 4000000) (hok : ∀ x ∈ e :: t, x.ok = true) : F_q5e [.x (GEntry.ls .n (e :: t))] = some ⟨[.st ((⟨e.Key, e.Window, idsOf (e :: t), totI (e :: t)⟩ : GEntry).cs .n)], []⟩ := by
 have hle := bulks_len GEntry.bulk (e :: t)
 rw [List.length_cons] at hle
 have heb := ok_bulk (hok e List.mem_cons_self)
 have hes := ok_sk (hok e List.mem_cons_self)
 have hb : ∀ x ∈ e :: t, ∀ y ∈ x.Ids, HiR y := fun x hx => setOk_hi (ok_ids (hok x hx))
 have hbnd : 1 <= ((e :: t).map (GEntry.el .n)).length /\ ((e :: t).map (GEntry.el .n)).length <= ((e :: t).map (GEntry.el .n)).length := ⟨by simp, Nat.le_refl _⟩
 (refine fun_ev rfl ?_; show Ev m_q5e.code _ _ _)
 repeat' (first | refine yj (GEntry.el .n e) (Int.le_refl _) (rfl) ?_ | refine yk g_q5d (q5d_eq e (by omega)) ?_ | (apply zu;exact rfl;exact rfl;exact bound_at (m := 1) rfl rfl;exact hbnd;exact rfl;exact sub_tail;exact rfl;exact rfl) | refine yt1 ?_ | refine yt0 ?_ | refine yt ?_ ?_ | refine yo ?_ | apply zn | refine yc ?_ | intro _)
 refine zfor (GEntry.el .n) t (fun i (s : GSketch) => [(0, .x (GEntry.ls .n (e :: t))), (2, .box ⟨0, 0, 0⟩ [iT 0, iT 0, .l .y 2 [], iT 0, iT 0, iT 0, iT 0, .l .y 1 [], .l .y 1 [], .l .y 1 []]), (3, .box ⟨0, 0, 0⟩ [iT e.Key, iT e.Window, GSpan.ls .y e.Ids, iT s.Count, iT s.Sum, iT s.Min, iT s.Max, ints .y s.Hist, ints .y s.Regs, GInt.lss .y s.Rows]), (11, .x (GEntry.ls .n t)), (12, .x (iT (t.map (GEntry.el .n)).length)), (13, .x (iT i))]) (fun i s => s = (t.take i).foldl (fun s e => mergeS s e.Sketch) e.Sketch) e.Sketch rfl rfl ?_ ?_
 ·rintro i s x hx hlt hc _ hinv ih
  have hs : s.ok = true := hinv ▸ fold_ok hes fun y hy => hok y (List.mem_cons_of_mem _ (List.mem_of_mem_take hy))
  have hxs := ok_sk (hok x (List.mem_cons_of_mem _ (List.mem_of_getElem? hx)))
  repeat' (first | refine yi (GEntry.el .n x) (map_at hx) ?_ | refine yw g_q5c (q5c_eq s x.Sketch ((sk_iff _).1 hs) ((sk_iff _).1 hxs)) (call_skb _ rfl) ?_ | refine yt1 ?_ | refine yt0 ?_ | refine yt ?_ ?_ | refine yo ?_ | apply zn | refine yc ?_ | intro _)
  refine ih (mergeS s x.Sketch) ?_ _ _ ?_
  ·rw [hinv, fold_succ hx]
  ·rw [w64s (by omega)]; rfl
 ·rintro s hc _ hinv
  rw [List.take_length] at hinv
  have hs : s = totI (e :: t) := hinv
  subst hs
  repeat' (first | refine yk g_qn (qn_eq (e :: t) hl hb) ?_ | refine yt1 ?_ | refine yt0 ?_ | refine yt ?_ ?_ | refine yo ?_ | apply zn | refine yc ?_ | intro _)
  refine fin rfl ?_
  simp only [sub_all, fzl, sub_len]
  try rfl
def resF (l : List GEntry) : List RV := match l with
 | [] => [.st (newS.cs .y), .one (.l .y 2 [])]
 | e :: t => [.st ((totI (e :: t)).cs .n), .one (GSpan.ls .n (idsOf (e :: t)))]
theorem q5f_eq0 : F_q5f [.x (GEntry.ls .n [])] = some ⟨resF [], []⟩ := by
 have h3 : (((([] : List GEntry).map (GEntry.el .n)).length : Int) == 0) = true := rfl
 (refine fun_ev rfl ?_; show Ev m_q5f.code _ _ _)
 repeat' (first | refine yk g_q59 (q59_eq) ?_ | refine yt1 ?_ | refine yt0 ?_ | refine yt ?_ ?_ | refine yo ?_ | apply zn | refine yc ?_ | intro _)
 exact fin rfl rfl
theorem q5f_eq1 (e : GEntry) (t : List GEntry) (hl : bulks GEntry.bulk (e :: t) <= 4000000) (hok : ∀ x ∈ e :: t, x.ok = true) : F_q5f [.x (GEntry.ls .n (e :: t))] = some ⟨resF (e :: t), []⟩ := by
 have h3 : ((((e :: t).map (GEntry.el .n)).length : Int) == 0) = false := by simp; omega
 (refine fun_ev rfl ?_; show Ev m_q5f.code _ _ _)
 repeat' (first | refine yk g_q5e (q5e_eq e t hl hok) ?_ | refine yt1 ?_ | refine yt0 ?_ | refine yt ?_ ?_ | refine yo ?_ | apply zn | refine yc ?_ | intro _)
 refine fin rfl ?_
 try rfl
end Go.Wr
namespace Go.Wr
set_option maxRecDepth 20000
theorem bulks_filter {α : Type} {f : α -> Nat} (p : α -> Bool) : ∀ l : List α, bulks f (l.filter p) <= bulks f l
 | [] => Nat.le_refl _
 | x :: l => by
  have h := bulks_filter (f := f) p l
  unfold bulks at h ⊢
  rw [List.filter_cons]
  split <;> simp only [List.map_cons, List.sum_cons, List.length_cons] <;> omega
theorem bulks_le {α : Type} {f : α -> Nat} {m : Nat} : ∀ {l : List α}, (∀ x ∈ l, f x <= m) -> bulks f l <= (m + 1) * l.length
 | [], _ => by simp [bulks]
 | x :: l, h => by
  have h1 := bulks_le (f := f) (m := m) (l := l) fun y hy => h y (List.mem_cons_of_mem _ hy)
  have h2 := h x List.mem_cons_self
  unfold bulks at h1 ⊢
  simp only [List.map_cons, List.sum_cons, List.length_cons]
  have : (m + 1) * (l.length + 1) = (m + 1) * l.length + (m + 1) := by rw [Nat.mul_add, Nat.mul_one]
  omega
theorem held_t {h : GHouse} {k w : Int} (hh : houseS h = true) : heldL h k w = (allE h).filter (atE k w) := if_pos hh
theorem held_f {h : GHouse} {k w : Int} (hh : houseS h = false) : heldL h k w = [] := if_neg (by rw [hh]; simp)
theorem q5i_eq (h : GHouse) (k w : Int) (hl : h.bulk <= 4000000) : F_q5i [.st (h.cs .n), .x (iT k), .x (iT w)] = some ⟨resF (heldL h k w), []⟩ := by
 have hab := all_bulk hl
 have hal := bulks_len GEntry.bulk (allE h)
 have happ : ((rowEnts h).map (GEntry.el .n)).length + ((addedE h).map (GEntry.el .n)).length < lenMax := by
  rw [List.length_map, List.length_map]; unfold lenMax
  have e : (allE h).length = (rowEnts h).length + (addedE h).length := by rw [allE, List.length_append]
  omega
 have hmap : (rowEnts h).map (GEntry.el .n) ++ (addedE h).map (GEntry.el .n) = (allE h).map (GEntry.el .n) := by rw [allE, List.map_append]
 have hho := q10_eq h hl
 rw [house_same] at hho
 cases hh : houseS h with
 | false =>
  rw [hh] at hho
  have h1 : (!false) = true := rfl
  rw [held_f hh]
  (refine fun_ev rfl ?_; show Ev m_q5i.code _ _ _)
  repeat' (first | refine yk g_q10 (hho) ?_ | refine yk g_q59 (q59_eq) ?_ | refine yt1 ?_ | refine yt0 ?_ | refine yt ?_ ?_ | refine yo ?_ | apply zn | refine yc ?_ | intro _)
  exact fin rfl rfl
 | true =>
  rw [hh] at hho
  have h1 : (!true) = false := rfl
  have hof := q5g_eq (allE h) k w (by omega)
  have hfb := Nat.le_trans (bulks_filter (f := GEntry.bulk) (atE k w) (allE h)) hab
  have hok : ∀ x ∈ (allE h).filter (atE k w), x.ok = true := fun x hx => house_ents hh x (List.mem_filter.1 hx).1
  have hof2 : F_q5g [.x (.l .n 10 (fzs ((rowEnts h).map (GEntry.el .n) ++ (addedE h).map (GEntry.el .n)))), .x (iT k), .x (iT w)] = some ⟨[.one (.l .y 10 (((allE h).filter (atE k w)).map (GEntry.el .n)))], []⟩ := by
   rw [hmap, fz_ents]; exact hof
  rw [held_t hh]
  generalize (allE h).filter (atE k w) = l at hof2 hfb hok ⊢
  rcases l with _ | ⟨e, t⟩
  ·(refine fun_ev rfl ?_; show Ev m_q5i.code _ _ _)
   repeat' (first | refine yk g_q10 (hho) ?_ | refine yk g_qx (qx_eq h hl) ?_ | refine yk g_qd (qd_eq h hl) ?_ | (apply zao;(iterate 4 exact rfl);exact (fz_ents _);exact (happ);(iterate 3 exact rfl)) | refine yk g_q5g (hof2) ?_ | refine yv g_q5f (q5f_eq0) ?_ | refine yt1 ?_ | refine yt0 ?_ | refine yt ?_ ?_ | refine yo ?_ | apply zn | refine yc ?_ | intro _)
   exact fin rfl rfl
  ·(refine fun_ev rfl ?_; show Ev m_q5i.code _ _ _)
   repeat' (first | refine yk g_q10 (hho) ?_ | refine yk g_qx (qx_eq h hl) ?_ | refine yk g_qd (qd_eq h hl) ?_ | (apply zao;(iterate 4 exact rfl);exact (fz_ents _);exact (happ);(iterate 3 exact rfl)) | refine yk g_q5g (hof2) ?_ | (apply zk g_q5f;exact rfl;simp only [fz_ents];exact rfl;exact (q5f_eq1 e t hfb hok);exact rfl;exact rfl;exact rfl) | refine yt1 ?_ | refine yt0 ?_ | refine yt ?_ ?_ | refine yo ?_ | apply zn | refine yc ?_ | intro _)
   refine fin rfl ?_
   try rfl
theorem joins_snoc {l : List GEntry} {e : GEntry} : joins (l ++ [e]) [] = joinG (joins l []) e.Ids := by simp [joins]
theorem tot_snoc {l : List GEntry} {e : GEntry} : totS (l ++ [e]) = mergeS (totS l) e.Sketch := by simp [totS]
theorem joins_in {l : List GEntry} (h : ∀ e ∈ l, e.ok = true) : SetR (joins l []) := (joins_ok setR_nil h).1
theorem setR_hi {s : List GSpan} (h : SetR s) : ∀ y ∈ s, HiR y := fun y hy => (h.span hy).hi
theorem q5v_eq (h : GHouse) (k w : Int) (hl : h.bulk <= 4000000) : F_q5v [.st (h.cs .n), .x (iT k), .x (iT w)] = some ⟨[.st ((totS (heldL h k w)).cs .y), .one (GSpan.ls .y (joins (heldL h k w) []))], []⟩ := by
 have hab := all_bulk hl
 have hal := bulks_len GEntry.bulk (allE h)
 have hho := q42_eq h hl
 cases hh : houseS h with
 | false =>
  rw [hh] at hho
  have h1 : (!false) = true := rfl
  rw [held_f hh]
  (refine fun_ev rfl ?_; show Ev m_q5v.code _ _ _)
  repeat' (first | refine yy ?_ | refine ym ?_ | (apply ze;(iterate 5 exact rfl)) | (apply zf;(iterate 5 exact rfl)) | refine yp ?_ | refine yk g_q42 (hho) ?_ | refine yk g_q5o (q5o_eq) ?_ | refine yt1 ?_ | refine yt0 ?_ | refine yt ?_ ?_ | refine yo ?_ | apply zn | refine yc ?_ | exact rfl | intro _)
  exact fin rfl rfl
 | true =>
  rw [hh] at hho
  have h1 : (!true) = false := rfl
  have hok := house_ents hh
  rw [held_t hh]
  (refine fun_ev rfl ?_; show Ev m_q5v.code _ _ _)
  repeat' (first | refine yy ?_ | refine ym ?_ | (apply ze;(iterate 5 exact rfl)) | (apply zf;(iterate 5 exact rfl)) | refine yp ?_ | refine yk g_q42 (hho) ?_ | refine yk g_q5o (q5o_eq) ?_ | refine yk g_q3j (q3j_eq h hl) ?_ | refine yt1 ?_ | refine yt0 ?_ | refine yt ?_ ?_ | refine yo ?_ | apply zn | refine yc ?_ | exact rfl | intro _)
  refine zfor (GEntry.el .n) (allE h) (fun i (p : GSketch × List GSpan) => [(1, .x (iT k)), (2, .x (iT w)), (6, .box ⟨0, 0, 0⟩ [iT 0, iT 0, iT 0, iT 0, .l .y 1 [], .l .y 1 [], .l .y 1 []]), (8, .box ⟨0, 0, 0⟩ [iT p.1.Count, iT p.1.Sum, iT p.1.Min, iT p.1.Max, ints .y p.1.Hist, ints .y p.1.Regs, GInt.lss .y p.1.Rows]), (9, .own ⟨0, 0, 0⟩ (GSpan.ls .y p.2)), (10, .own ⟨0, 0, 0⟩ (.l .y 10 ((allE h).map (GEntry.el .n)))), (11, .x (iT i))]) (fun i p => p = (totS (((allE h).take i).filter (atE k w)), joins (((allE h).take i).filter (atE k w)) [])) (newS, []) rfl rfl ?_ ?_
  ·rintro i ⟨s, ids⟩ e hx hlt hc _ hinv ih
   have hpo : ∀ x ∈ ((allE h).take i).filter (atE k w), x.ok = true := fun x hx => hok x (List.mem_of_mem_take (List.mem_filter.1 hx).1)
   have he := hok e (List.mem_of_getElem? hx)
   have hso : SkR s := (sk_iff _).1 ((Prod.mk.inj hinv).1 ▸ tot_ok hpo)
   have hir : SetR ids := (Prod.mk.inj hinv).2 ▸ joins_in hpo
   have her := ok_setR he
   have hil := setR_le hir
   have hel := setR_le her
   repeat' (first | refine yy ?_ | refine ym ?_ | (apply ze;(iterate 5 exact rfl)) | (apply zf;(iterate 5 exact rfl)) | refine yp ?_ | refine yx (own_lt hlt) ?_ | refine yl (GEntry.el .n e) (nav_at (map_at hx)) ?_ | refine yL (GEntry.cs .n e) (nav_at (map_at hx)) ?_ | refine yw g_q5s (q5s_eq s e.Sketch hso ((sk_iff _).1 (ok_sk he))) (call_sk _ rfl) ?_ | refine yw g_q3r (q3r_eq ids e.Ids (by omega) (setR_hi hir) (setR_hi her)) (callOk_l rfl (closeds_map (fun _ => rfl) _)) ?_ | refine yt1 ?_ | refine yt0 ?_ | refine yt ?_ ?_ | refine yo ?_ | apply zn | refine yc ?_ | exact rfl | intro _)
   ·rename_i h5
    have h6 : atE k w e = true := h5
    refine ih (mergeS s e.Sketch, joinG ids e.Ids) ?_ _ _ ?_
    ·rw [filter_succ hx, h6, if_pos rfl, tot_snoc, joins_snoc, <- (Prod.mk.inj hinv).1, <- (Prod.mk.inj hinv).2]
    ·rw [w64s (by omega)]; rfl
   ·rename_i h5
    have h6 : atE k w e = false := h5
    refine ih (s, ids) ?_ _ _ ?_
    ·rw [filter_succ hx, h6, hinv]; simp
    ·rw [w64s (by omega)]; rfl
  ·rintro ⟨s, ids⟩ hc _ hinv
   rw [List.take_length] at hinv
   obtain ⟨rfl, rfl⟩ := Prod.mk.inj hinv
   repeat' (first | refine yy ?_ | refine ym ?_ | (apply ze;(iterate 5 exact rfl)) | (apply zf;(iterate 5 exact rfl)) | refine yp ?_ | refine yt1 ?_ | refine yt0 ?_ | refine yt ?_ ?_ | refine yo ?_ | apply zn | refine yc ?_ | exact rfl | intro _)
   refine fin rfl ?_
   try simp only [sub_all]
   try rfl
end Go.Wr
namespace Go.Wr
set_option maxRecDepth 20000
theorem taken_ents {w : GWorld} (hw : worldB w = true) {i : Nat} : ∀ e ∈ takenAt w i, e.ok = true := fun e he => by
 obtain ⟨h3, hhs, hag⟩ := world_agents hw
 unfold takenAt at he
 split at he
 ·rename_i a s ha hs
  have hi := (List.getElem?_eq_some_iff.1 ha).1
  obtain ⟨x, hx, rfl⟩ := List.mem_map.1 he
  have := agent_items (hag i a ha).1 x (List.mem_filter.1 hx).1
  exact entOf_ok (by omega) this.1 this.2
 ·cases he
theorem taken_len {w : GWorld} (hw : worldB w = true) (i : Nat) : (takenAt w i).length <= 60 := by
 obtain ⟨h3, hhs, hag⟩ := world_agents hw
 unfold takenAt
 split
 ·rename_i a s ha hs
  rw [List.length_map]
  exact Nat.le_trans (List.length_filter_le _ _) (agent_size (hag i a ha).1).2.1
 ·simp
def takensW (w : GWorld) (i : Nat) : List GEntry := (List.range i).flatMap (takenAt w)
theorem takens_succ (w : GWorld) (i : Nat) : takensW w (i + 1) = takensW w i ++ takenAt w i := by
 unfold takensW; rw [List.range_succ, List.flatMap_append]; simp
theorem takens_len {w : GWorld} (hw : worldB w = true) : ∀ i, (takensW w i).length <= 60 * i
 | 0 => by simp [takensW]
 | i + 1 => by
  have h1 := takens_len hw i
  have h2 := taken_len hw i
  rw [takens_succ, List.length_append]; omega
theorem takens_ok {w : GWorld} (hw : worldB w = true) {i : Nat} : ∀ e ∈ takensW w i, e.ok = true := fun e he => by
 obtain ⟨j, _, h2⟩ := List.mem_flatMap.1 he
 exact taken_ents hw e h2
def partW (w : GWorld) (i : Nat) (a : GAgent) (s : GSeat) (j : Nat) : List GEntry := takensW w i ++ ((a.Sealed.take j).filter fun x => setHas s.Taken x.Seq).map (entOf i)
section
variable {w : GWorld} {i j : Nat} {a : GAgent} {s : GSeat} {x : GItem}
theorem partW_zero : partW w i a s 0 = takensW w i := by simp [partW]
theorem partW_succ (h : a.Sealed[j]? = some x) : partW w i a s (j + 1) = partW w i a s j ++ (if setHas s.Taken x.Seq then [entOf i x] else []) := by
 rw [partW, partW, filter_succ h, List.map_append, List.append_assoc]
 split <;> rfl
theorem partW_end (h1 : w.Agents[i]? = some a) (h2 : w.House.Seats[i]? = some s) : partW w i a s a.Sealed.length = takensW w (i + 1) := by
 rw [partW, List.take_length, takens_succ, takenAt_at h1 h2]
theorem partW_len (hw : worldB w = true) : (partW w i a s j).length <= 60 * i + j := by
 have := takens_len hw i
 rw [partW, List.length_append, List.length_map]
 have := filter_lt (p := fun x : GItem => setHas s.Taken x.Seq) (l := a.Sealed) (i := j)
 omega
theorem partW_ok (hw : worldB w = true) (hi : i <= 2) (ha : a.ok = true) : ∀ e ∈ partW w i a s j, e.ok = true := fun e he => by
 rcases List.mem_append.1 he with h | h
 ·exact takens_ok hw e h
 ·obtain ⟨x, hx, rfl⟩ := List.mem_map.1 h
  have := agent_items ha x (List.mem_of_mem_take (List.mem_filter.1 hx).1)
  exact entOf_ok hi this.1 this.2
end
theorem fold_t {w : GWorld} {k n : Int} (hw : worldB w = true) : foldL w k n = (takensW w 3).filter (atE k n) := if_pos hw
theorem fold_f {w : GWorld} {k n : Int} (hw : worldB w = false) : foldL w k n = [] := if_neg (by rw [hw]; simp)
theorem q5h_eq (w : GWorld) (k n : Int) (hl : w.bulk <= 4000000) : F_q5h [.st (w.cs .n), .x (iT k), .x (iT n)] = some ⟨resF (foldL w k n), []⟩ := by
 obtain ⟨hh, hal, hnl, hab⟩ := world_in hl
 have hwo := q11_eq w hl
 cases hw : worldB w with
 | false =>
  rw [hw] at hwo
  have h1 : false = false := rfl
  have hof := q5g_eq [] k n (by simp)
  rw [fold_f hw]
  (refine fun_ev rfl ?_; show Ev m_q5h.code _ _ _)
  repeat' (first | refine yk g_q11 (hwo) ?_ | refine yk g_q5g (hof) ?_ | refine yv g_q5f (q5f_eq0) ?_ | refine yt1 ?_ | refine yt0 ?_ | refine yt ?_ ?_ | refine yo ?_ | apply zn | refine yc ?_ | intro _)
  exact fin rfl rfl
 | true =>
  rw [hw] at hwo
  have h1 : true = true := rfl
  obtain ⟨h3, hhs, hag⟩ := world_agents hw
  obtain ⟨hs3, hr3, hr2, hso⟩ := house_seats hhs
  rw [fold_t hw]
  (refine fun_ev rfl ?_; show Ev m_q5h.code _ _ _)
  repeat' (first | refine yk g_q11 (hwo) ?_ | refine yt1 ?_ | refine yt0 ?_ | refine yt ?_ ?_ | refine yo ?_ | apply zn | refine yc ?_ | intro _)
  refine zfor (GAgent.el .n) w.Agents (fun i (es : List T) => [(1, .x (iT k)), (2, .x (iT n)), (3, .box ⟨0, 0, 0⟩ (w.cs .n)), (6, .box ⟨0, 0, 0⟩ [iT 0, iT 0, iT 0, iT 0, .l .y 1 [], .l .y 1 [], .l .y 1 []]), (8, .own ⟨0, 0, 0⟩ (.l .y 10 es)), (18, .x (GAgent.ls .n w.Agents)), (19, .x (iT (w.Agents.map (GAgent.el .n)).length)), (20, .x (iT i))]) (fun i es => es = (takensW w i).map (GEntry.el .y)) [] rfl rfl ?_ ?_
  ·rintro i es a hx hlt hc _ hinv ih
   have hxs := List.getElem?_eq_getElem (show i < w.House.Seats.length by omega)
   generalize w.House.Seats[i]'_ = s at hxs
   have htl := seat_l (seat_in hh hxs)
   have haok := (hag i a hx).1
   have hin := agent_in (hab i a hx)
   have h60 := (agent_size haok).2.1
   repeat' (first | refine yi (GAgent.el .n a) (map_at hx) ?_ | refine yt1 ?_ | refine yt0 ?_ | refine yt ?_ ?_ | refine yo ?_ | apply zn | refine yc ?_ | intro _)
   refine zfor (GItem.el .n) a.Sealed (fun j (es : List T) => [(1, .x (iT k)), (2, .x (iT n)), (3, .box ⟨0, 0, 0⟩ (w.cs .n)), (6, .box ⟨0, 0, 0⟩ [iT 0, iT 0, iT 0, iT 0, .l .y 1 [], .l .y 1 [], .l .y 1 []]), (8, .own ⟨0, 0, 0⟩ (.l .y 10 es)), (9, .x (iT i)), (10, .box ⟨0, 0, 0⟩ (a.cs .n)), (18, .x (GAgent.ls .n w.Agents)), (19, .x (iT (w.Agents.map (GAgent.el .n)).length)), (20, .x (iT i)), (26, .x (GItem.ls .n a.Sealed)), (27, .x (iT (a.Sealed.map (GItem.el .n)).length)), (28, .x (iT j))]) (fun j es => es = (partW w i a s j).map (GEntry.el .y)) es (by rw [hinv, partW_zero]) rfl ?_ ?_
   ·rintro j es x hy hlt2 hc2 _ hinv2 ih2
    have hxi := agent_items haok x (List.mem_of_getElem? hy)
    have hbx := hin.2.2 j x hy
    have hid : 0 <= idOf i x.Seq := by rw [idOf_in (by omega) hxi.2]; omega
    have happ : es.length + 1 < lenMax := by
     have := partW_len (i := i) (j := j) (a := a) (s := s) hw
     rw [hinv2, List.length_map]; unfold lenMax; omega
    repeat' (first | refine yi (GItem.el .n x) (map_at hy) ?_ | refine yi (GSeat.el .n s) (map_at hxs) ?_ | refine yk g_qc (qc_eq s.Taken x.Seq htl) ?_ | refine yk g_q58 (q58_eq i x hbx hxi.1 hid) ?_ | (apply zV;(iterate 8 exact rfl);exact (happ);exact (rfl);exact (happ);exact rfl;exact rfl) | refine yt1 ?_ | refine yt0 ?_ | refine yt ?_ ?_ | refine yo ?_ | apply zn | refine yc ?_ | intro _)
    ·rename_i h5
     refine ih2 (es ++ [GEntry.el .y (entOf i x)]) ?_ _ _ ?_
     ·rw [hinv2, partW_succ hy, h5]; simp
     ·rw [w64s (by omega)]; simp only [sub_full]; rfl
    ·rename_i h5
     refine ih2 es ?_ _ _ ?_
     ·rw [hinv2, partW_succ hy, h5]; simp
     ·rw [w64s (by omega)]; rfl
   ·rintro es hc2 _ hinv2
    rw [partW_end hx hxs] at hinv2
    repeat' (first | refine yt1 ?_ | refine yt0 ?_ | refine yt ?_ ?_ | refine yo ?_ | apply zn | refine yc ?_ | intro _)
    refine ih es hinv2 _ _ ?_
    rw [w64s (by omega)]; rfl
  ·rintro es hc _ hinv
   rw [h3] at hinv
   subst hinv
   have hol := takens_len hw 3
   have hof := q5g_eq (takensW w 3) k n (by omega)
   have hok : ∀ x ∈ (takensW w 3).filter (atE k n), x.ok = true := fun x hx => takens_ok hw x (List.mem_filter.1 hx).1
   have hfb : bulks GEntry.bulk ((takensW w 3).filter (atE k n)) <= 4000000 := by
    have h4 := bulks_le (f := GEntry.bulk) (m := 10100) fun x hx => ok_bulk (hok x hx)
    have h5 : ((takensW w 3).filter (atE k n)).length <= 180 := Nat.le_trans (List.length_filter_le _ _) (by omega)
    have h6 : (10100 + 1) * ((takensW w 3).filter (atE k n)).length <= 10101 * 180 := Nat.mul_le_mul_left _ h5
    omega
   generalize (takensW w 3).filter (atE k n) = l at hof hok hfb ⊢
   rcases l with _ | ⟨e, t⟩
   ·repeat' (first | (apply zk g_q5g;exact rfl;simp only [List.map,fzl,sub_len];exact rfl;exact hof;exact rfl;exact rfl;exact rfl) | refine yv g_q5f (q5f_eq0) ?_ | refine yt1 ?_ | refine yt0 ?_ | refine yt ?_ ?_ | refine yo ?_ | apply zn | refine yc ?_ | intro _)
    exact fin rfl rfl
   ·repeat' (first | (apply zk g_q5g;exact rfl;simp only [List.map,fzl,sub_len];exact rfl;exact hof;exact rfl;exact rfl;exact rfl) | (apply zk g_q5f;exact rfl;simp only [fz_ents];exact rfl;exact (q5f_eq1 e t hfb hok);exact rfl;exact rfl;exact rfl) | refine yt1 ?_ | refine yt0 ?_ | refine yt ?_ ?_ | refine yo ?_ | apply zn | refine yc ?_ | intro _)
    exact fin rfl rfl
theorem q5u_eq (w : GWorld) (k n : Int) (hl : w.bulk <= 4000000) : F_q5u [.st (w.cs .n), .x (iT k), .x (iT n)] = some ⟨[.st ((totS (foldL w k n)).cs .y), .one (GSpan.ls .y (joins (foldL w k n) []))], []⟩ := by
 obtain ⟨hh, hal, hnl, hab⟩ := world_in hl
 have hwo := q43_eq w hl
 cases hw : worldB w with
 | false =>
  rw [hw] at hwo
  have h1 : (!false) = true := rfl
  rw [fold_f hw]
  (refine fun_ev rfl ?_; show Ev m_q5u.code _ _ _)
  repeat' (first | refine yy ?_ | refine ym ?_ | (apply ze;(iterate 5 exact rfl)) | (apply zf;(iterate 5 exact rfl)) | refine yp ?_ | refine yk g_q43 (hwo) ?_ | refine yk g_q5o (q5o_eq) ?_ | refine yt1 ?_ | refine yt0 ?_ | refine yt ?_ ?_ | refine yo ?_ | apply zn | refine yc ?_ | exact rfl | intro _)
  exact fin rfl rfl
 | true =>
  rw [hw] at hwo
  have h1 : (!true) = false := rfl
  obtain ⟨h3, hhs, hag⟩ := world_agents hw
  obtain ⟨hs3, hr3, hr2, hso⟩ := house_seats hhs
  rw [fold_t hw]
  (refine fun_ev rfl ?_; show Ev m_q5u.code _ _ _)
  repeat' (first | refine yy ?_ | refine ym ?_ | (apply ze;(iterate 5 exact rfl)) | (apply zf;(iterate 5 exact rfl)) | refine yp ?_ | refine yk g_q43 (hwo) ?_ | refine yk g_q5o (q5o_eq) ?_ | refine yt1 ?_ | refine yt0 ?_ | refine yt ?_ ?_ | refine yo ?_ | apply zn | refine yc ?_ | exact rfl | intro _)
  refine zfor (GAgent.el .n) w.Agents (fun i (p : GSketch × List GSpan) => [(1, .x (iT k)), (2, .x (iT n)), (3, .box ⟨0, 0, 0⟩ (w.cs .n)), (6, .box ⟨0, 0, 0⟩ [iT 0, iT 0, iT 0, iT 0, .l .y 1 [], .l .y 1 [], .l .y 1 []]), (8, .box ⟨0, 0, 0⟩ [iT p.1.Count, iT p.1.Sum, iT p.1.Min, iT p.1.Max, ints .y p.1.Hist, ints .y p.1.Regs, GInt.lss .y p.1.Rows]), (9, .own ⟨0, 0, 0⟩ (GSpan.ls .y p.2)), (10, .x (iT i))]) (fun i p => p = (totS ((takensW w i).filter (atE k n)), joins ((takensW w i).filter (atE k n)) [])) (newS, []) rfl rfl ?_ ?_
  ·rintro i ⟨q, ids⟩ a hx hlt _ _ hinv ih
   have hc : decide ((i : Int) < 3) = true := by simp; omega
   have hxs := List.getElem?_eq_getElem (show i < w.House.Seats.length by omega)
   generalize w.House.Seats[i]'_ = s at hxs
   have htl := seat_l (seat_in hh hxs)
   have haok := (hag i a hx).1
   have h60 := (agent_size haok).2.1
   repeat' (first | refine yy ?_ | refine ym ?_ | (apply ze;(iterate 5 exact rfl)) | (apply zf;(iterate 5 exact rfl)) | refine yp ?_ | refine yt1 ?_ | refine yt0 ?_ | refine yt ?_ ?_ | refine yo ?_ | apply zn | refine yc ?_ | exact rfl | intro _)
   refine zfor (GItem.el .n) a.Sealed (fun j (p : GSketch × List GSpan) => [(1, .x (iT k)), (2, .x (iT n)), (3, .box ⟨0, 0, 0⟩ (w.cs .n)), (6, .box ⟨0, 0, 0⟩ [iT 0, iT 0, iT 0, iT 0, .l .y 1 [], .l .y 1 [], .l .y 1 []]), (8, .box ⟨0, 0, 0⟩ [iT p.1.Count, iT p.1.Sum, iT p.1.Min, iT p.1.Max, ints .y p.1.Hist, ints .y p.1.Regs, GInt.lss .y p.1.Rows]), (9, .own ⟨0, 0, 0⟩ (GSpan.ls .y p.2)), (10, .x (iT i)), (11, .x (iT j))]) (fun j p => p = (totS ((partW w i a s j).filter (atE k n)), joins ((partW w i a s j).filter (atE k n)) [])) (q, ids) (by rw [hinv, partW_zero]) rfl ?_ ?_
   ·rintro j ⟨q, ids⟩ x hy hlt2 hc2 _ hinv2 ih2
    obtain ⟨hq, hi⟩ := Prod.mk.inj hinv2
    have hpo : ∀ e ∈ (partW w i a s j).filter (atE k n), e.ok = true := fun e he => partW_ok hw (by omega) haok e (List.mem_filter.1 he).1
    have hqo : SkR q := (sk_iff _).1 (hq ▸ tot_ok hpo)
    have hir : SetR ids := hi ▸ joins_in hpo
    have hil := setR_le hir
    have hxi := agent_items haok x (List.mem_of_getElem? hy)
    have hxo : SkR x.Sketch := (sk_iff _).1 (by have := hxi.1; simp only [GItem.ok, Bool.and_eq_true] at this; exact this.2)
    have hid := idOf_in (show i <= 2 by omega) hxi.2
    have hspan : HiR ⟨idOf i x.Seq, idOf i x.Seq⟩ := by rw [hid]; unfold HiR; simp only; omega
    repeat' (first | refine yy ?_ | refine ym ?_ | (apply ze;(iterate 5 exact rfl)) | (apply zf;(iterate 5 exact rfl)) | refine yp ?_ | refine yi (GAgent.el .n a) (map_at hx) ?_ | refine yi (GItem.el .n x) (map_at hy) ?_ | refine yi (GSeat.el .n s) (map_at hxs) ?_ | refine yk g_q4y (q4y_eq s.Taken x.Seq htl) ?_ | refine yw g_q5s (q5s_eq q x.Sketch hqo hxo) (call_sk _ rfl) ?_ | refine yk g_q5n (q5n_eq _ _) ?_ | refine yk g_q5t (q5t_eq _) ?_ | refine yw g_q3q (q3q_eq ids ⟨idOf i x.Seq, idOf i x.Seq⟩ (by omega) (setR_hi hir) hspan) (callOk_l rfl (closeds_map (fun _ => rfl) _)) ?_ | refine yt1 ?_ | refine yt0 ?_ | refine yt ?_ ?_ | refine yo ?_ | apply zn | refine yc ?_ | exact rfl | intro _)
    ·rename_i h5
     rw [Bool.and_eq_true] at h5
     have h6 : atE k n (entOf i x) = true := h5.1
     refine ih2 (mergeS q x.Sketch, putG ids ⟨idOf i x.Seq, idOf i x.Seq⟩) ?_ _ _ ?_
     ·rw [partW_succ hy, h5.2, if_pos rfl, List.filter_append, List.filter_cons, h6, if_pos rfl, List.filter_nil, tot_snoc, joins_snoc, <- hq, <- hi]; rfl
     ·rw [w64s (by omega)]; rfl
    ·rename_i h5
     refine ih2 (q, ids) ?_ _ _ ?_
     ·have h7 : (partW w i a s (j + 1)).filter (atE k n) = (partW w i a s j).filter (atE k n) := by
       rw [partW_succ hy, List.filter_append]
       cases h8 : setHas s.Taken x.Seq with
       | false => simp
       | true =>
        rw [h8, Bool.and_true] at h5
        have h6 : atE k n (entOf i x) = false := h5
        simp [List.filter_cons, h6]
      rw [h7, hinv2]
     ·rw [w64s (by omega)]; rfl
   ·rintro ⟨q, ids⟩ hc2 _ hinv2
    rw [partW_end hx hxs] at hinv2
    repeat' (first | refine yy ?_ | refine ym ?_ | (apply ze;(iterate 5 exact rfl)) | (apply zf;(iterate 5 exact rfl)) | refine yp ?_ | refine yi (GAgent.el .n a) (map_at hx) ?_ | refine yt1 ?_ | refine yt0 ?_ | refine yt ?_ ?_ | refine yo ?_ | apply zn | refine yc ?_ | exact rfl | intro _)
    refine ih (q, ids) hinv2 _ _ ?_
    rw [w64s (by omega)]; rfl
  ·rintro ⟨q, ids⟩ _ _ hinv
   have hc : decide ((w.Agents.length : Int) < 3) = false := by rw [h3]; rfl
   rw [h3] at hinv
   obtain ⟨rfl, rfl⟩ := Prod.mk.inj hinv
   repeat' (first | refine yy ?_ | refine ym ?_ | (apply ze;(iterate 5 exact rfl)) | (apply zf;(iterate 5 exact rfl)) | refine yp ?_ | refine yt1 ?_ | refine yt0 ?_ | refine yt ?_ ?_ | refine yo ?_ | apply zn | refine yc ?_ | exact rfl | intro _)
   refine fin rfl ?_
   try simp only [sub_all]
   try rfl
end Go.Wr
namespace Go.Wr
set_option maxRecDepth 20000
theorem idsOf_nil : idsOf [] = [] := by
 have h : sortG [] = [] := List.eq_nil_of_length_eq_zero (sortG_len [])
 show unionG [] = []
 rw [unionG, h]; rfl
theorem tot_bulk {l : List GEntry} (h : ∀ e ∈ l, e.ok = true) : (totI l).bulk <= 4194304 := by
 rw [tot_same h]
 exact Nat.le_trans (sk_bulk ((sk_iff _).1 (tot_ok h))) (by omega)
theorem ids_len {l : List GEntry} (h : ∀ e ∈ l, e.ok = true) : (idsOf l).length <= 4194304 := Nat.le_trans (setR_le (idsOf_ok h).1) (by omega)
theorem foldAt_eq (w : GWorld) (k n : Nat) : foldAt w k n = (decide (totI (foldL w k n) = totI (heldL w.House k n)) && decide (idsOf (foldL w k n) = idsOf (heldL w.House k n))) := by
 rw [foldAt, tot_same fold_ents, tot_same held_ents]
theorem foldAt_eqS (w : GWorld) (k n : Nat) : foldAt w k n = (decide (totS (foldL w k n) = totS (heldL w.House k n)) && decide (joins (foldL w k n) [] = joins (heldL w.House k n) [])) := by
 rw [foldAt, ids_same fold_ents, ids_same held_ents]
set_option maxHeartbeats 2000000 in
theorem q5m_eq (w : GWorld) (hl : w.bulk <= 4000000) : F_q5m [.st (w.cs .n)] = some ⟨[.one (.b (foldJ w))], []⟩ := by
 obtain ⟨hh, hal, hnl, hab⟩ := world_in hl
 (refine fun_ev rfl ?_; show Ev m_q5m.code _ _ _)
 repeat' (first | refine yy ?_ | refine ym ?_ | (apply ze;(iterate 5 exact rfl)) | (apply zf;(iterate 5 exact rfl)) | refine yp ?_ | refine yk g_q11 (q11_eq w hl) ?_ | refine yt1 ?_ | refine yt0 ?_ | refine yt ?_ ?_ | refine yo ?_ | apply zn | refine yc ?_ | exact rfl | intro _)
 ·refine fin rfl (outB ?_)
  rename_i h
  rw [foldJ, not_t h]; rfl
 ·rename_i h
  have hw := not_f h
  rw [foldJ, hw, Bool.true_and]
  refine zfor (fun k : Nat => iT k) (List.range 5) (fun k (_ : Unit) => [(1, .box ⟨0, 0, 0⟩ (w.cs .n)), (3, .x (iT k))]) (fun k _ => ∀ j, j < k -> allIx 21 (foldAt w j) = true) () (by omega) rfl ?_ ?_
  ·rintro k _ y hy hlt _ _ hinv ih
   rw [List.length_range] at hlt
   have hc : decide ((k : Int) <= 4) = true := by simp; omega
   repeat' (first | refine yy ?_ | refine ym ?_ | (apply ze;(iterate 5 exact rfl)) | (apply zf;(iterate 5 exact rfl)) | refine yp ?_ | refine yt1 ?_ | refine yt0 ?_ | refine yt ?_ ?_ | refine yo ?_ | apply zn | refine yc ?_ | exact rfl | intro _)
   refine zfor (fun m : Nat => iT m) (List.range 21) (fun m (_ : Unit) => [(1, .box ⟨0, 0, 0⟩ (w.cs .n)), (3, .x (iT k)), (4, .x (iT m))]) (fun m _ => ∀ j, j < m -> foldAt w k j = true) () (by omega) rfl ?_ ?_
   ·rintro m _ z hz hlt2 _ _ hinv2 ih2
    rw [List.length_range] at hlt2
    have hc2 : decide ((m : Int) <= 20) = true := by simp; omega
    have hf := q5h_eq w k m hl
    have hd := q5i_eq w.House k m hh
    have hok1 := fold_ents (w := w) (k := k) (wn := m)
    have hok2 := held_ents (h := w.House) (k := k) (w := m)
    have hat := foldAt_eq w k m
    generalize foldL w k m = l1 at hf hok1 hat
    generalize heldL w.House k m = l2 at hd hok2 hat
    have no : (!decide (totI l1 = totI l2) || !decide (idsOf l1 = idsOf l2)) = true -> allIx 5 (fun k => allIx 21 (foldAt w k)) = false := fun h5 => by
     have h6 : foldAt w k m = false := by
      rw [hat]; revert h5
      cases decide (totI l1 = totI l2) <;> cases decide (idsOf l1 = idsOf l2) <;> simp
     exact allIx_not hlt (allIx_not hlt2 h6)
    have yes : (!decide (totI l1 = totI l2) || !decide (idsOf l1 = idsOf l2)) = false -> foldAt w k m = true := fun h5 => by
     rw [hat]; revert h5
     cases decide (totI l1 = totI l2) <;> cases decide (idsOf l1 = idsOf l2) <;> simp
    have b1 := tot_bulk hok1
    have b2 := ids_len hok1
    have e1 := idsOf_nil
    rcases l1 with _ | ⟨e1, t1⟩ <;> rcases l2 with _ | ⟨e2, t2⟩
    ·have b3 : ([] : List GSpan).length <= 4194304 := by simp
     repeat' (first | refine yy ?_ | refine ym ?_ | (apply ze;(iterate 5 exact rfl)) | (apply zf;(iterate 5 exact rfl)) | refine yp ?_ | refine yk g_q5h (hf) ?_ | refine yk g_q5i (hd) ?_ | refine yv g_q5l (q5l_eq newS newS b1) ?_ | refine yv g_qz (qz_eq [] [] b3) ?_ | refine yt1 ?_ | refine yt0 ?_ | refine yt ?_ ?_ | refine yo ?_ | apply zn | refine yc ?_ | exact rfl | intro _)
     ·rename_i h5
      refine fin rfl (outB (no ?_).symm)
      rw [idsOf_nil]; exact h5
     ·rename_i h5
      refine ih2 () (upto_succ hinv2 (yes ?_)) _ _ ?_
      ·rw [idsOf_nil]; exact h5
      ·rw [w64s (by omega)]; rfl
    ·have b3 : ([] : List GSpan).length <= 4194304 := by simp
     repeat' (first | refine yy ?_ | refine ym ?_ | (apply ze;(iterate 5 exact rfl)) | (apply zf;(iterate 5 exact rfl)) | refine yp ?_ | refine yk g_q5h (hf) ?_ | refine yk g_q5i (hd) ?_ | refine yv g_q5l (q5l_eq newS (totI (e2 :: t2)) b1) ?_ | refine yv g_qz (qz_eq [] (idsOf (e2 :: t2)) b3) ?_ | refine yt1 ?_ | refine yt0 ?_ | refine yt ?_ ?_ | refine yo ?_ | apply zn | refine yc ?_ | exact rfl | intro _)
     ·rename_i h5
      refine fin rfl (outB (no ?_).symm)
      rw [idsOf_nil]; exact h5
     ·rename_i h5
      refine ih2 () (upto_succ hinv2 (yes ?_)) _ _ ?_
      ·rw [idsOf_nil]; exact h5
      ·rw [w64s (by omega)]; rfl
    ·have b3 : ((idsOf (e1 :: t1)) : List GSpan).length <= 4194304 := b2
     repeat' (first | refine yy ?_ | refine ym ?_ | (apply ze;(iterate 5 exact rfl)) | (apply zf;(iterate 5 exact rfl)) | refine yp ?_ | refine yk g_q5h (hf) ?_ | refine yk g_q5i (hd) ?_ | refine yv g_q5l (q5l_eq (totI (e1 :: t1)) newS b1) ?_ | refine yv g_qz (qz_eq (idsOf (e1 :: t1)) [] b3) ?_ | refine yt1 ?_ | refine yt0 ?_ | refine yt ?_ ?_ | refine yo ?_ | apply zn | refine yc ?_ | exact rfl | intro _)
     ·rename_i h5
      refine fin rfl (outB (no ?_).symm)
      rw [idsOf_nil]; exact h5
     ·rename_i h5
      refine ih2 () (upto_succ hinv2 (yes ?_)) _ _ ?_
      ·rw [idsOf_nil]; exact h5
      ·rw [w64s (by omega)]; rfl
    ·have b3 : ((idsOf (e1 :: t1)) : List GSpan).length <= 4194304 := b2
     repeat' (first | refine yy ?_ | refine ym ?_ | (apply ze;(iterate 5 exact rfl)) | (apply zf;(iterate 5 exact rfl)) | refine yp ?_ | refine yk g_q5h (hf) ?_ | refine yk g_q5i (hd) ?_ | refine yv g_q5l (q5l_eq (totI (e1 :: t1)) (totI (e2 :: t2)) b1) ?_ | refine yv g_qz (qz_eq (idsOf (e1 :: t1)) (idsOf (e2 :: t2)) b3) ?_ | refine yt1 ?_ | refine yt0 ?_ | refine yt ?_ ?_ | refine yo ?_ | apply zn | refine yc ?_ | exact rfl | intro _)
     ·rename_i h5
      refine fin rfl (outB (no ?_).symm)
      exact h5
     ·rename_i h5
      refine ih2 () (upto_succ hinv2 (yes ?_)) _ _ ?_
      ·exact h5
      ·rw [w64s (by omega)]; rfl
   ·rintro _ _ _ hinv2
    have hc2 : decide ((((List.range 21).length : Nat) : Int) <= 20) = false := by simp
    rw [List.length_range] at hinv2
    repeat' (first | refine yy ?_ | refine ym ?_ | (apply ze;(iterate 5 exact rfl)) | (apply zf;(iterate 5 exact rfl)) | refine yp ?_ | refine yt1 ?_ | refine yt0 ?_ | refine yt ?_ ?_ | refine yo ?_ | apply zn | refine yc ?_ | exact rfl | intro _)
    refine ih () (upto_succ (p := fun k => allIx 21 (foldAt w k)) hinv (allIx_of hinv2)) _ _ ?_
    rw [w64s (by omega)]; rfl
  ·rintro _ _ _ hinv
   have hc : decide ((((List.range 5).length : Nat) : Int) <= 4) = false := by simp
   rw [List.length_range] at hinv
   rw [allIx_of (p := fun k => allIx 21 (foldAt w k)) hinv]
   repeat' (first | refine yy ?_ | refine ym ?_ | (apply ze;(iterate 5 exact rfl)) | (apply zf;(iterate 5 exact rfl)) | refine yp ?_ | refine yt1 ?_ | refine yt0 ?_ | refine yt ?_ ?_ | refine yo ?_ | apply zn | refine yc ?_ | exact rfl | intro _)
   exact fin rfl rfl
theorem q5y_eq (w : GWorld) (hl : w.bulk <= 4000000) : F_q5y [.st (w.cs .n)] = some ⟨[.one (.b (foldJ w))], []⟩ := by
 obtain ⟨hh, hal, hnl, hab⟩ := world_in hl
 (refine fun_ev rfl ?_; show Ev m_q5y.code _ _ _)
 repeat' (first | refine yy ?_ | refine ym ?_ | (apply ze;(iterate 5 exact rfl)) | (apply zf;(iterate 5 exact rfl)) | refine yp ?_ | refine yk g_q43 (q43_eq w hl) ?_ | refine yt1 ?_ | refine yt0 ?_ | refine yt ?_ ?_ | refine yo ?_ | apply zn | refine yc ?_ | exact rfl | intro _)
 ·refine fin rfl (outB ?_)
  rename_i h
  rw [foldJ, not_t h]; rfl
 ·rename_i h
  have hw := not_f h
  rw [foldJ, hw, Bool.true_and]
  refine zfor (fun k : Nat => iT k) (List.range 5) (fun k (_ : Unit) => [(1, .box ⟨0, 0, 0⟩ (w.cs .n)), (3, .x (iT k))]) (fun k _ => ∀ j, j < k -> allIx 21 (foldAt w j) = true) () (by omega) rfl ?_ ?_
  ·rintro k _ y hy hlt _ _ hinv ih
   rw [List.length_range] at hlt
   have hc : decide ((k : Int) <= 4) = true := by simp; omega
   repeat' (first | refine yy ?_ | refine ym ?_ | (apply ze;(iterate 5 exact rfl)) | (apply zf;(iterate 5 exact rfl)) | refine yp ?_ | refine yt1 ?_ | refine yt0 ?_ | refine yt ?_ ?_ | refine yo ?_ | apply zn | refine yc ?_ | exact rfl | intro _)
   refine zfor (fun m : Nat => iT m) (List.range 21) (fun m (_ : Unit) => [(1, .box ⟨0, 0, 0⟩ (w.cs .n)), (3, .x (iT k)), (4, .x (iT m))]) (fun m _ => ∀ j, j < m -> foldAt w k j = true) () (by omega) rfl ?_ ?_
   ·rintro m _ z hz hlt2 _ _ hinv2 ih2
    rw [List.length_range] at hlt2
    have hc2 : decide ((m : Int) <= 20) = true := by simp; omega
    have hok1 := fold_ents (w := w) (k := k) (wn := m)
    have b1 : (totS (foldL w k m)).bulk <= 4194304 := tot_same hok1 ▸ tot_bulk hok1
    have b2 : (joins (foldL w k m) []).length <= 4194304 := Nat.le_trans (setR_le (joins_in hok1)) (by omega)
    have hat := foldAt_eqS w k m
    repeat' (first | refine yy ?_ | refine ym ?_ | (apply ze;(iterate 5 exact rfl)) | (apply zf;(iterate 5 exact rfl)) | refine yp ?_ | refine yk g_q5u (q5u_eq w k m hl) ?_ | refine yk g_q5v (q5v_eq w.House k m hh) ?_ | refine yv g_q5x (q5x_eq (totS (foldL w k m)) (totS (heldL w.House k m)) b1) ?_ | refine yv g_q41 (q41_eq (joins (foldL w k m) []) (joins (heldL w.House k m) []) b2) ?_ | refine yt1 ?_ | refine yt0 ?_ | refine yt ?_ ?_ | refine yo ?_ | apply zn | refine yc ?_ | exact rfl | intro _)
    ·rename_i h5
     have h6 : foldAt w k m = false := by
      rw [hat]; revert h5
      cases decide (totS (foldL w k m) = totS (heldL w.House k m)) <;> cases decide (joins (foldL w k m) [] = joins (heldL w.House k m) []) <;> simp
     refine fin rfl (outB ?_)
     rw [allIx_not (p := fun k => allIx 21 (foldAt w k)) hlt (allIx_not hlt2 h6)]
    ·rename_i h5
     have h6 : foldAt w k m = true := by
      rw [hat]; revert h5
      cases decide (totS (foldL w k m) = totS (heldL w.House k m)) <;> cases decide (joins (foldL w k m) [] = joins (heldL w.House k m) []) <;> simp
     refine ih2 () (upto_succ hinv2 h6) _ _ ?_
     rw [w64s (by omega)]; rfl
   ·rintro _ _ _ hinv2
    have hc2 : decide ((((List.range 21).length : Nat) : Int) <= 20) = false := by simp
    rw [List.length_range] at hinv2
    repeat' (first | refine yy ?_ | refine ym ?_ | (apply ze;(iterate 5 exact rfl)) | (apply zf;(iterate 5 exact rfl)) | refine yp ?_ | refine yt1 ?_ | refine yt0 ?_ | refine yt ?_ ?_ | refine yo ?_ | apply zn | refine yc ?_ | exact rfl | intro _)
    refine ih () (upto_succ (p := fun k => allIx 21 (foldAt w k)) hinv (allIx_of hinv2)) _ _ ?_
    rw [w64s (by omega)]; rfl
  ·rintro _ _ _ hinv
   have hc : decide ((((List.range 5).length : Nat) : Int) <= 4) = false := by simp
   rw [List.length_range] at hinv
   rw [allIx_of (p := fun k => allIx 21 (foldAt w k)) hinv]
   repeat' (first | refine yy ?_ | refine ym ?_ | (apply ze;(iterate 5 exact rfl)) | (apply zf;(iterate 5 exact rfl)) | refine yp ?_ | refine yt1 ?_ | refine yt0 ?_ | refine yt ?_ ?_ | refine yo ?_ | apply zn | refine yc ?_ | exact rfl | intro _)
   exact fin rfl rfl
end Go.Wr
namespace Go.Wr
set_option maxRecDepth 20000
def allJ (w : GWorld) : Bool := foldJ w && creditW w && knownJ w && toldJ w
theorem q60_eq (w : GWorld) (hl : w.bulk <= 4000000) : F_q60 [.st (w.cs .n)] = some ⟨[.one (.b (allJ w))], []⟩ := by
 (refine fun_ev rfl ?_; show Ev m_q60.code _ _ _)
 repeat' (first | refine yy ?_ | refine ym ?_ | (apply ze;(iterate 5 exact rfl)) | (apply zf;(iterate 5 exact rfl)) | refine yp ?_ | refine yk g_q5m (q5m_eq w hl) ?_ | refine yk g_q4n (q4n_eq w hl) ?_ | refine yk g_q4x (q4x_eq w hl) ?_ | refine yk g_q52 (q52_eq w hl) ?_ | refine yo ?_ | apply zn | refine yc ?_ | exact rfl | intro _)
 exact fin rfl rfl
theorem q61_eq (w : GWorld) (hl : w.bulk <= 4000000) : F_q61 [.st (w.cs .n)] = some ⟨[.one (.b (allJ w))], []⟩ := by
 (refine fun_ev rfl ?_; show Ev m_q61.code _ _ _)
 repeat' (first | refine yy ?_ | refine ym ?_ | (apply ze;(iterate 5 exact rfl)) | (apply zf;(iterate 5 exact rfl)) | refine yp ?_ | refine yk g_q5y (q5y_eq w hl) ?_ | refine yk g_q4p (q4p_eq w hl) ?_ | refine yk g_q4z (q4z_eq w hl) ?_ | refine yk g_q55 (q55_eq w hl) ?_ | refine yo ?_ | apply zn | refine yc ?_ | exact rfl | intro _)
 exact fin rfl rfl
end Go.Wr
namespace Go.Wr
set_option maxRecDepth 20000
theorem q5z_eq (a : GWorld) (ha : a.fit) : F_q5z [.st (a.cs .n)] = some ⟨[.one (.b true)], []⟩ := by
 have r0 : Rng 1048576 := ⟨by omega, by omega⟩
 have s1 := q2g_eq a 1048576 r0 ha
 cases h1 : decide (left 1048576 a.bulk < 0) with
 | true =>
  (refine fun_ev rfl ?_; show Ev m_q5z.code _ _ _)
  repeat' (first | refine yv g_q2g (s1) ?_ | refine yt1 ?_ | refine yt0 ?_ | refine yt ?_ ?_ | refine yo ?_ | apply zn | refine yc ?_ | intro _)
  exact fin rfl rfl
 | false =>
  have o1 := left_ok r0 h1
  have la : a.bulk <= 1048576 := by omega
  have lb : a.bulk <= 4000000 := by omega
  (refine fun_ev rfl ?_; show Ev m_q5z.code _ _ _)
  repeat' (first | refine yv g_q2g (s1) ?_ | refine yv g_q36 (q36_eq a la) ?_ | refine yv g_q5y (q5y_eq a lb) ?_ | refine yv g_q5m (q5m_eq a lb) ?_ | refine yv g_q1r (q1r_eq a a la) ?_ | refine yt1 ?_ | refine yt0 ?_ | refine yt ?_ ?_ | refine yo ?_ | apply zn | refine yc ?_ | intro _)
  all_goals first | (rename_i h; simp at h; done) | (exact fin rfl rfl)
end Go.Wr
namespace Go.Wr
set_option maxRecDepth 20000
theorem q62_eq (a : GWorld) (ha : a.fit) : F_q62 [.st (a.cs .n)] = some ⟨[.one (.b true)], []⟩ := by
 have r0 : Rng 1048576 := ⟨by omega, by omega⟩
 have s1 := q2g_eq a 1048576 r0 ha
 cases h1 : decide (left 1048576 a.bulk < 0) with
 | true =>
  (refine fun_ev rfl ?_; show Ev m_q62.code _ _ _)
  repeat' (first | refine yv g_q2g (s1) ?_ | refine yt1 ?_ | refine yt0 ?_ | refine yt ?_ ?_ | refine yo ?_ | apply zn | refine yc ?_ | intro _)
  exact fin rfl rfl
 | false =>
  have o1 := left_ok r0 h1
  have la : a.bulk <= 1048576 := by omega
  have lb : a.bulk <= 4000000 := by omega
  (refine fun_ev rfl ?_; show Ev m_q62.code _ _ _)
  repeat' (first | refine yv g_q2g (s1) ?_ | refine yv g_q36 (q36_eq a la) ?_ | refine yv g_q61 (q61_eq a lb) ?_ | refine yv g_q60 (q60_eq a lb) ?_ | refine yv g_q1r (q1r_eq a a la) ?_ | refine yt1 ?_ | refine yt0 ?_ | refine yt ?_ ?_ | refine yo ?_ | apply zn | refine yc ?_ | intro _)
  all_goals first | (rename_i h; simp at h; done) | (exact fin rfl rfl)
end Go.Wr

