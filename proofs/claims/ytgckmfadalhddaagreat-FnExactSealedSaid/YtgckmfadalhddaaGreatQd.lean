/-
  What is proved: lemmas on the way to the laws of this seat. No condition.
-/
import Derived.Test.YtgckmfadalhddaaGreatQc
import Derived.Test.YtgckmfadalhddaaGreatPb
import Derived.Test.YtgckmfadalhddaaGreatHa
set_option linter.unusedVariables false
set_option linter.unusedSimpArgs false
namespace Go.Wr
set_option linter.unusedVariables false
set_option linter.unusedSimpArgs false
set_option linter.unnecessarySimpa false
set_option maxRecDepth 20000
theorem not_t {b : Bool} (h : (!b) = true) : b = false := by cases b with | false => rfl | true => cases h
theorem impl_ItemOk_eq (x : GItem) (hl : x.bulk <= 4000000) : F_impl_ItemOk [.st (x.cs .n)] = some ⟨[.one (.b x.ok)], []⟩ := by
 have hs : x.Sketch.bulk <= 4000000 := hl
 (refine fun_ev rfl ?_; show Ev m_impl_ItemOk.code _ _ _)
 repeat' (first | (apply zy;exact rfl;exact rfl;(with_reducible assumption)) | (apply zm;exact rfl;exact rfl;(with_reducible assumption);exact rfl;exact rfl) | (apply ze;(iterate 5 exact rfl)) | (apply zf;(iterate 5 exact rfl)) | (apply zp;exact rfl;(with_reducible assumption);(iterate 3 exact rfl)) | (apply zk g_impl_within;exact rfl;exact rfl;exact (impl_within_eq _ _ _);(iterate 3 exact rfl)) | (apply zk g_impl_SketchOk;exact rfl;exact rfl;exact (impl_SketchOk_eq x.Sketch hs);(iterate 3 exact rfl)) | (apply zo;exact rfl;exact rfl) | apply zn | (apply zc;exact rfl) | exact rfl | intro _)
 exact fin rfl rfl
theorem spec_ItemOk_eq (x : GItem) (hl : x.bulk <= 4000000) : F_spec_ItemOk [.st (x.cs .n)] = some ⟨[.one (.b x.ok)], []⟩ := by
 have hs : x.Sketch.bulk <= 4194304 := Nat.le_trans hl (by omega)
 (refine fun_ev rfl ?_; show Ev m_spec_ItemOk.code _ _ _)
 repeat' (first | (apply zy;exact rfl;exact rfl;(with_reducible assumption)) | (apply zm;exact rfl;exact rfl;(with_reducible assumption);exact rfl;exact rfl) | (apply ze;(iterate 5 exact rfl)) | (apply zf;(iterate 5 exact rfl)) | (apply zp;exact rfl;(with_reducible assumption);(iterate 3 exact rfl)) | (apply zk g_spec_l1In;exact rfl;exact rfl;exact (spec_l1In_eq _ _ _);(iterate 3 exact rfl)) | (apply zk g_spec_l6Place;exact rfl;exact rfl;exact (spec_l6Place_eq _ _);(iterate 3 exact rfl)) | (apply zk g_spec_SketchOk;exact rfl;exact rfl;exact (spec_SketchOk_eq x.Sketch hs);(iterate 3 exact rfl)) | (apply zo;exact rfl;exact rfl) | apply zn | (apply zc;exact rfl) | exact rfl | intro _)
 refine fin rfl (outB ?_)
 rw [GItem.ok]
 generalize inB x.Seq 1 60 = a
 generalize inB x.Class 0 1 = b
 generalize inB x.Key 0 4 = c
 generalize inB x.Window 0 20 = d
 generalize x.Sketch.ok = e
 revert a b c d e; decide
theorem agent_in {a : GAgent} (hl : a.bulk <= 4000000) : a.Sealed.length <= 4000000 /\ a.Taken.length <= 4194304 /\ ∀ (i : Nat) x, a.Sealed[i]? = some x -> x.bulk <= 4000000 := by
 have h1 := bulks_len GItem.bulk a.Sealed
 unfold GAgent.bulk at hl
 refine ⟨by omega, by omega, fun i x hx => ?_⟩
 have := bulks_mem (f := GItem.bulk) hx
 omega
theorem gt_not (n m : Nat) : decide ((n : Int) > (m : Nat)) = !decide (n <= m) := by
 rw [Bool.eq_iff_iff]; simp only [decide_eq_true_eq, Bool.not_eq_true', decide_eq_false_iff_not]; omega
theorem not_agentTop {a : GAgent} : ((((!inB a.Id 0 2 || !inB a.Epoch 0 1000) || !inB a.Granted 0 60) || decide (((a.Sealed.map (GItem.el .n)).length : Int) > 60)) || !inB a.Next 0 60) = !agentTop a := by
 rw [show (60 : Int) = ((60 : Nat) : Int) from rfl, List.length_map, gt_not, agentTop]
 cases inB a.Id 0 2 <;> cases inB a.Epoch 0 1000 <;> cases inB a.Granted 0 (60 : Nat) <;> cases decide (a.Sealed.length <= 60) <;> simp
theorem impl_AgentOk_eq (a : GAgent) (hl : a.bulk <= 4000000) : F_impl_AgentOk [.st (a.cs .n)] = some ⟨[.one (.b a.ok)], []⟩ := by
 obtain ⟨h1, h2, h3⟩ := agent_in hl
 (refine fun_ev rfl ?_; show Ev m_impl_AgentOk.code _ _ _)
 repeat' (first | (apply zy;exact rfl;exact rfl;(with_reducible assumption)) | (apply zm;exact rfl;exact rfl;(with_reducible assumption);exact rfl;exact rfl) | (apply ze;(iterate 5 exact rfl)) | (apply zf;(iterate 5 exact rfl)) | (apply zp;exact rfl;(with_reducible assumption);(iterate 3 exact rfl)) | (apply zk g_impl_within;exact rfl;exact rfl;exact (impl_within_eq _ _ _);(iterate 3 exact rfl)) | (apply zt1;exact rfl;(with_reducible assumption)) | (apply zt0;exact rfl;(with_reducible assumption)) | (apply zt;exact rfl) | (apply zo;exact rfl;exact rfl) | apply zn | (apply zc;exact rfl) | exact rfl | intro _)
 ·refine fin rfl (outB ?_)
  rename_i h
  rw [not_agentTop] at h
  have h4 : agentTop a = false := by simpa using h
  rw [GAgent.ok, h4]; rfl
 ·rename_i h
  rw [not_agentTop] at h
  have h4 : agentTop a = true := by simpa using h
  refine zfor (GItem.el .n) a.Sealed (fun i (_ : Unit) => [(1, .box ⟨0, 0, 0⟩ (a.cs .n)), (34, .x (GItem.ls .n a.Sealed)), (35, .x (iT (a.Sealed.map (GItem.el .n)).length)), (36, .x (iT i))]) (fun i _ => ∀ j, j < i -> sealAt a.Sealed j = true) () (by omega) rfl ?_ ?_
  ·rintro i _ x hx hlt hc _ hinv ih
   have hbx := h3 i x hx
   have hw : IntKind.i64.wrap ((i : Int) + 1) = (i : Int) + 1 := w64 (by omega)
   repeat' (first | (apply zy;exact rfl;exact rfl;(with_reducible assumption)) | (apply zm;exact rfl;exact rfl;(with_reducible assumption);exact rfl;exact rfl) | (apply ze;(iterate 5 exact rfl)) | (apply zf;(iterate 5 exact rfl)) | (apply zp;exact rfl;(with_reducible assumption);(iterate 3 exact rfl)) | (apply zi (GItem.el .n x);exact rfl;exact rfl;exact Int.natCast_nonneg _;exact (map_at hx);exact rfl;exact rfl) | (apply zk g_impl_ItemOk;exact rfl;exact rfl;exact (impl_ItemOk_eq x hbx);(iterate 3 exact rfl)) | (apply zt1;exact rfl;(with_reducible assumption)) | (apply zt0;exact rfl;(with_reducible assumption)) | (apply zt;exact rfl) | (apply zo;exact rfl;exact rfl) | apply zn | (apply zc;exact rfl) | exact rfl | intro _)
   ·refine fin rfl (outB ?_)
    rename_i h5
    rw [hw, bne] at h5
    have h6 : sealAt a.Sealed i = false := by rw [sealAt_at hx]; revert h5; cases x.ok <;> simp
    rw [GAgent.ok, allIx_not hlt h6, Bool.and_false]
   ·rename_i h5
    rw [hw, bne] at h5
    have h6 : sealAt a.Sealed i = true := by rw [sealAt_at hx]; revert h5; cases x.ok <;> simp
    refine ih () (upto_succ hinv h6) _ _ ?_
    rw [w64s (by omega)]; rfl
  ·rintro _ hc _ hinv
   repeat' (first | (apply zy;exact rfl;exact rfl;(with_reducible assumption)) | (apply zm;exact rfl;exact rfl;(with_reducible assumption);exact rfl;exact rfl) | (apply ze;(iterate 5 exact rfl)) | (apply zf;(iterate 5 exact rfl)) | (apply zp;exact rfl;(with_reducible assumption);(iterate 3 exact rfl)) | (apply zk g_impl_allIn;exact rfl;exact rfl;exact (impl_allIn_eq a.Taken _ _ h2);(iterate 3 exact rfl)) | (apply zt1;exact rfl;(with_reducible assumption)) | (apply zt0;exact rfl;(with_reducible assumption)) | (apply zt;exact rfl) | (apply zo;exact rfl;exact rfl) | apply zn | (apply zc;exact rfl) | exact rfl | intro _)
   refine fin rfl (outB ?_)
   rw [GAgent.ok, h4, allIx_of hinv, List.length_map]
   have h7 : inB a.Granted 0 60 = true := by simp only [agentTop, Bool.and_eq_true] at h4; exact h4.1.1.2
   have h8 : (a.Granted == 0) = !decide (a.Granted > 0) := by
    simp only [inB, Bool.and_eq_true, decide_eq_true_eq] at h7
    rw [Bool.eq_iff_iff]; simp only [beq_iff_eq, Bool.not_eq_true', decide_eq_false_iff_not]; omega
   rw [h8, Bool.true_and, Bool.and_true]
theorem spec_AgentOk_eq (a : GAgent) (hl : a.bulk <= 4000000) : F_spec_AgentOk [.st (a.cs .n)] = some ⟨[.one (.b a.ok)], []⟩ := by
 obtain ⟨h1, h2, h3⟩ := agent_in hl
 (refine fun_ev rfl ?_; show Ev m_spec_AgentOk.code _ _ _)
 repeat' (first | (apply zy;exact rfl;exact rfl;(with_reducible assumption)) | (apply zm;exact rfl;exact rfl;(with_reducible assumption);exact rfl;exact rfl) | (apply ze;(iterate 5 exact rfl)) | (apply zf;(iterate 5 exact rfl)) | (apply zp;exact rfl;(with_reducible assumption);(iterate 3 exact rfl)) | (apply zk g_spec_l1In;exact rfl;exact rfl;exact (spec_l1In_eq _ _ _);(iterate 3 exact rfl)) | (apply zk g_spec_l6Agent;exact rfl;exact rfl;exact (spec_l6Agent_eq _);(iterate 3 exact rfl)) | (apply zk g_spec_l8Below;exact rfl;exact rfl;exact (spec_l8Below_eq a.Taken _ h2);(iterate 3 exact rfl)) | (apply zt1;exact rfl;(with_reducible assumption)) | (apply zt0;exact rfl;(with_reducible assumption)) | (apply zt;exact rfl) | (apply zo;exact rfl;exact rfl) | apply zn | (apply zc;exact rfl) | exact rfl | intro _)
 ·refine fin rfl (outB ?_)
  rename_i h
  rw [not_agentTop, List.length_map] at h
  rw [GAgent.ok]
  revert h
  cases agentTop a <;> cases allIn a.Taken 1 a.Sealed.length <;> cases a.Live <;> cases decide (a.Granted > 0) <;> simp
 ·rename_i h
  rw [not_agentTop, List.length_map] at h
  have h4 : (agentTop a && allIn a.Taken 1 a.Sealed.length && (a.Live || !decide (a.Granted > 0))) = true := by
   revert h
   cases agentTop a <;> cases allIn a.Taken 1 a.Sealed.length <;> cases a.Live <;> cases decide (a.Granted > 0) <;> simp
  rw [GAgent.ok, h4, Bool.true_and]
  refine zfor (GItem.el .n) a.Sealed (fun i (_ : Unit) => [(1, .box ⟨0, 0, 0⟩ (a.cs .n)), (3, .x (iT i))]) (fun i _ => ∀ j, j < i -> sealAt a.Sealed j = true) () (by omega) rfl ?_ ?_
  ·rintro i _ x hx hlt hc _ hinv ih
   have hbx := h3 i x hx
   have hw : IntKind.i64.wrap ((i : Int) + 1) = (i : Int) + 1 := w64 (by omega)
   repeat' (first | (apply zy;exact rfl;exact rfl;(with_reducible assumption)) | (apply zm;exact rfl;exact rfl;(with_reducible assumption);exact rfl;exact rfl) | (apply ze;(iterate 5 exact rfl)) | (apply zf;(iterate 5 exact rfl)) | (apply zp;exact rfl;(with_reducible assumption);(iterate 3 exact rfl)) | (apply zi (GItem.el .n x);exact rfl;exact rfl;exact Int.natCast_nonneg _;exact (map_at hx);exact rfl;exact rfl) | (apply zk g_spec_ItemOk;exact rfl;exact rfl;exact (spec_ItemOk_eq x hbx);(iterate 3 exact rfl)) | (apply zt1;exact rfl;(with_reducible assumption)) | (apply zt0;exact rfl;(with_reducible assumption)) | (apply zt;exact rfl) | (apply zo;exact rfl;exact rfl) | apply zn | (apply zc;exact rfl) | exact rfl | intro _)
   ·refine fin rfl (outB ?_)
    rename_i h5
    rw [hw, bne] at h5
    have h6 : sealAt a.Sealed i = false := by rw [sealAt_at hx]; revert h5; cases x.ok <;> simp
    rw [allIx_not hlt h6]
   ·rename_i h5
    rw [hw, bne] at h5
    have h6 : sealAt a.Sealed i = true := by rw [sealAt_at hx]; revert h5; cases x.ok <;> simp
    refine ih () (upto_succ hinv h6) _ _ ?_
    rw [w64s (by omega)]; rfl
  ·rintro _ hc _ hinv
   rw [allIx_of hinv]
   repeat' (first | (apply zy;exact rfl;exact rfl;(with_reducible assumption)) | (apply zm;exact rfl;exact rfl;(with_reducible assumption);exact rfl;exact rfl) | (apply ze;(iterate 5 exact rfl)) | (apply zf;(iterate 5 exact rfl)) | (apply zp;exact rfl;(with_reducible assumption);(iterate 3 exact rfl)) | (apply zt1;exact rfl;(with_reducible assumption)) | (apply zt0;exact rfl;(with_reducible assumption)) | (apply zt;exact rfl) | (apply zo;exact rfl;exact rfl) | apply zn | (apply zc;exact rfl) | exact rfl | intro _)
   exact fin rfl rfl
theorem world_in {w : GWorld} (hl : w.bulk <= 4000000) : w.House.bulk <= 4000000 /\ w.Agents.length <= 4000000 /\ w.Net.length <= 4000000 /\ ∀ (i : Nat) a, w.Agents[i]? = some a -> a.bulk <= 4000000 := by
 have h1 := bulks_len GAgent.bulk w.Agents
 have h2 := bulks_len GPack.bulk w.Net
 unfold GWorld.bulk at hl
 refine ⟨by omega, by omega, by omega, fun i x hx => ?_⟩
 have := bulks_mem (f := GAgent.bulk) hx
 omega
theorem not_worldTop {w : GWorld} {b : Bool} : ((((w.Agents.map (GAgent.el .n)).length : Int) != 3 || !b) || decide (((w.Net.map (GPack.el .n)).length : Int) > 10)) = !(decide (w.Agents.length = 3) && b && decide (w.Net.length <= 10)) := by
 rw [show (3 : Int) = ((3 : Nat) : Int) from rfl, show (10 : Int) = ((10 : Nat) : Int) from rfl, len_ne, List.length_map, gt_not]
 cases decide (w.Agents.length = 3) <;> cases b <;> simp
theorem impl_WorldOk_eq (w : GWorld) (hl : w.bulk <= 4000000) : F_impl_WorldOk [.st (w.cs .n)] = some ⟨[.one (.b (worldB w))], []⟩ := by
 obtain ⟨hh, hal, hnl, hab⟩ := world_in hl
 (refine fun_ev rfl ?_; show Ev m_impl_WorldOk.code _ _ _)
 repeat' (first | (apply zy;exact rfl;exact rfl;(with_reducible assumption)) | (apply zm;exact rfl;exact rfl;(with_reducible assumption);exact rfl;exact rfl) | (apply ze;(iterate 5 exact rfl)) | (apply zf;(iterate 5 exact rfl)) | (apply zp;exact rfl;(with_reducible assumption);(iterate 3 exact rfl)) | (apply zk g_impl_HouseOk;exact rfl;exact rfl;exact (impl_HouseOk_eq w.House hh);(iterate 3 exact rfl)) | (apply zt1;exact rfl;(with_reducible assumption)) | (apply zt0;exact rfl;(with_reducible assumption)) | (apply zt;exact rfl) | (apply zo;exact rfl;exact rfl) | apply zn | (apply zc;exact rfl) | exact rfl | intro _)
 ·refine fin rfl (outB ?_)
  rename_i h
  rw [not_worldTop, house_same] at h
  rw [worldB, not_t h]; rfl
 ·rename_i h
  rw [not_worldTop, house_same] at h
  have h4 : (decide (w.Agents.length = 3) && houseS w.House && decide (w.Net.length <= 10)) = true := by simpa using h
  have h3 : w.Agents.length = 3 := by simp only [Bool.and_eq_true, decide_eq_true_eq] at h4; exact h4.1.1
  rw [worldB, h4, Bool.true_and]
  refine zfor (GAgent.el .n) w.Agents (fun i (_ : Unit) => [(1, .box ⟨0, 0, 0⟩ (w.cs .n)), (24, .x (GAgent.ls .n w.Agents)), (25, .x (iT (w.Agents.map (GAgent.el .n)).length)), (26, .x (iT i))]) (fun i _ => ∀ j, j < i -> agentAt w.Agents j = true) () (by omega) rfl ?_ ?_
  ·rintro i _ a hx hlt hc _ hinv ih
   have hba := hab i a hx
   repeat' (first | (apply zy;exact rfl;exact rfl;(with_reducible assumption)) | (apply zm;exact rfl;exact rfl;(with_reducible assumption);exact rfl;exact rfl) | (apply ze;(iterate 5 exact rfl)) | (apply zf;(iterate 5 exact rfl)) | (apply zp;exact rfl;(with_reducible assumption);(iterate 3 exact rfl)) | (apply zi (GAgent.el .n a);exact rfl;exact rfl;exact Int.natCast_nonneg _;exact (map_at hx);exact rfl;exact rfl) | (apply zk g_impl_AgentOk;exact rfl;exact rfl;exact (impl_AgentOk_eq a hba);(iterate 3 exact rfl)) | (apply zt1;exact rfl;(with_reducible assumption)) | (apply zt0;exact rfl;(with_reducible assumption)) | (apply zt;exact rfl) | (apply zo;exact rfl;exact rfl) | apply zn | (apply zc;exact rfl) | exact rfl | intro _)
   ·refine fin rfl (outB ?_)
    rename_i h5
    rw [bne] at h5
    have h6 : agentAt w.Agents i = false := by rw [agentAt_at hx]; revert h5; cases a.ok <;> simp
    rw [allIx_not (h3 ▸ hlt) h6, Bool.false_and]
   ·rename_i h5
    rw [bne] at h5
    have h6 : agentAt w.Agents i = true := by rw [agentAt_at hx]; revert h5; cases a.ok <;> simp
    refine ih () (upto_succ hinv h6) _ _ ?_
    rw [w64s (by omega)]; rfl
  ·rintro _ hc _ hinv
   rw [allIx_of (h3 ▸ hinv), Bool.true_and]
   repeat' (first | (apply zy;exact rfl;exact rfl;(with_reducible assumption)) | (apply zm;exact rfl;exact rfl;(with_reducible assumption);exact rfl;exact rfl) | (apply ze;(iterate 5 exact rfl)) | (apply zf;(iterate 5 exact rfl)) | (apply zp;exact rfl;(with_reducible assumption);(iterate 3 exact rfl)) | (apply zt1;exact rfl;(with_reducible assumption)) | (apply zt0;exact rfl;(with_reducible assumption)) | (apply zt;exact rfl) | (apply zo;exact rfl;exact rfl) | apply zn | (apply zc;exact rfl) | exact rfl | intro _)
   refine zfor (GPack.el .n) w.Net (fun i (_ : Unit) => [(1, .box ⟨0, 0, 0⟩ (w.cs .n)), (42, .x (GPack.ls .n w.Net)), (43, .x (iT (w.Net.map (GPack.el .n)).length)), (44, .x (iT i))]) (fun i _ => (w.Net.take i).all (fun p => inB p.To (-1) 2) = true) () (by simp) rfl ?_ ?_
   ·rintro i _ p hx hlt hc _ hinv ih
    repeat' (first | (apply zy;exact rfl;exact rfl;(with_reducible assumption)) | (apply zm;exact rfl;exact rfl;(with_reducible assumption);exact rfl;exact rfl) | (apply ze;(iterate 5 exact rfl)) | (apply zf;(iterate 5 exact rfl)) | (apply zp;exact rfl;(with_reducible assumption);(iterate 3 exact rfl)) | (apply zi (GPack.el .n p);exact rfl;exact rfl;exact Int.natCast_nonneg _;exact (map_at hx);exact rfl;exact rfl) | (apply zk g_impl_within;exact rfl;exact rfl;exact (impl_within_eq _ _ _);(iterate 3 exact rfl)) | (apply zt1;exact rfl;(with_reducible assumption)) | (apply zt0;exact rfl;(with_reducible assumption)) | (apply zt;exact rfl) | (apply zo;exact rfl;exact rfl) | apply zn | (apply zc;exact rfl) | exact rfl | intro _)
    ·refine fin rfl (outB ?_)
     rename_i h5
     rw [not_all (p := fun p : GPack => inB p.To (-1) 2) hx (by simpa using h5)]
    ·rename_i h5
     refine ih () (take_all (p := fun p : GPack => inB p.To (-1) 2) hinv hx (by simpa using h5)) _ _ ?_
     rw [w64s (by omega)]; rfl
   ·rintro _ hc _ hinv
    rw [take_end hinv]
    repeat' (first | (apply zy;exact rfl;exact rfl;(with_reducible assumption)) | (apply zm;exact rfl;exact rfl;(with_reducible assumption);exact rfl;exact rfl) | (apply ze;(iterate 5 exact rfl)) | (apply zf;(iterate 5 exact rfl)) | (apply zp;exact rfl;(with_reducible assumption);(iterate 3 exact rfl)) | (apply zt1;exact rfl;(with_reducible assumption)) | (apply zt0;exact rfl;(with_reducible assumption)) | (apply zt;exact rfl) | (apply zo;exact rfl;exact rfl) | apply zn | (apply zc;exact rfl) | exact rfl | intro _)
    exact fin rfl rfl
theorem spec_WorldOk_eq (w : GWorld) (hl : w.bulk <= 4000000) : F_spec_WorldOk [.st (w.cs .n)] = some ⟨[.one (.b (worldB w))], []⟩ := by
 obtain ⟨hh, hal, hnl, hab⟩ := world_in hl
 (refine fun_ev rfl ?_; show Ev m_spec_WorldOk.code _ _ _)
 repeat' (first | (apply zy;exact rfl;exact rfl;(with_reducible assumption)) | (apply zm;exact rfl;exact rfl;(with_reducible assumption);exact rfl;exact rfl) | (apply ze;(iterate 5 exact rfl)) | (apply zf;(iterate 5 exact rfl)) | (apply zp;exact rfl;(with_reducible assumption);(iterate 3 exact rfl)) | (apply zk g_spec_HouseOk;exact rfl;exact rfl;exact (spec_HouseOk_eq w.House hh);(iterate 3 exact rfl)) | (apply zt1;exact rfl;(with_reducible assumption)) | (apply zt0;exact rfl;(with_reducible assumption)) | (apply zt;exact rfl) | (apply zo;exact rfl;exact rfl) | apply zn | (apply zc;exact rfl) | exact rfl | intro _)
 ·refine fin rfl (outB ?_)
  rename_i h
  rw [not_worldTop] at h
  rw [worldB, not_t h]; rfl
 ·rename_i h
  rw [not_worldTop] at h
  have h4 : (decide (w.Agents.length = 3) && houseS w.House && decide (w.Net.length <= 10)) = true := by simpa using h
  have h3 : w.Agents.length = 3 := by simp only [Bool.and_eq_true, decide_eq_true_eq] at h4; exact h4.1.1
  rw [worldB, h4, Bool.true_and]
  refine zfor (GAgent.el .n) w.Agents (fun i (_ : Unit) => [(1, .box ⟨0, 0, 0⟩ (w.cs .n)), (3, .x (iT i))]) (fun i _ => ∀ j, j < i -> agentAt w.Agents j = true) () (by omega) rfl ?_ ?_
  ·rintro i _ a hx hlt _ _ hinv ih
   have hc : decide ((i : Int) < 3) = true := by simp; omega
   have hba := hab i a hx
   repeat' (first | (apply zy;exact rfl;exact rfl;(with_reducible assumption)) | (apply zm;exact rfl;exact rfl;(with_reducible assumption);exact rfl;exact rfl) | (apply ze;(iterate 5 exact rfl)) | (apply zf;(iterate 5 exact rfl)) | (apply zp;exact rfl;(with_reducible assumption);(iterate 3 exact rfl)) | (apply zi (GAgent.el .n a);exact rfl;exact rfl;exact Int.natCast_nonneg _;exact (map_at hx);exact rfl;exact rfl) | (apply zk g_spec_AgentOk;exact rfl;exact rfl;exact (spec_AgentOk_eq a hba);(iterate 3 exact rfl)) | (apply zt1;exact rfl;(with_reducible assumption)) | (apply zt0;exact rfl;(with_reducible assumption)) | (apply zt;exact rfl) | (apply zo;exact rfl;exact rfl) | apply zn | (apply zc;exact rfl) | exact rfl | intro _)
   ·refine fin rfl (outB ?_)
    rename_i h5
    rw [bne] at h5
    have h6 : agentAt w.Agents i = false := by rw [agentAt_at hx]; revert h5; cases a.ok <;> simp
    rw [allIx_not (h3 ▸ hlt) h6, Bool.false_and]
   ·rename_i h5
    rw [bne] at h5
    have h6 : agentAt w.Agents i = true := by rw [agentAt_at hx]; revert h5; cases a.ok <;> simp
    refine ih () (upto_succ hinv h6) _ _ ?_
    rw [w64s (by omega)]; rfl
  ·rintro _ _ _ hinv
   have hc : decide ((w.Agents.length : Int) < 3) = false := by rw [h3]; rfl
   rw [allIx_of (h3 ▸ hinv), Bool.true_and]
   repeat' (first | (apply zy;exact rfl;exact rfl;(with_reducible assumption)) | (apply zm;exact rfl;exact rfl;(with_reducible assumption);exact rfl;exact rfl) | (apply ze;(iterate 5 exact rfl)) | (apply zf;(iterate 5 exact rfl)) | (apply zp;exact rfl;(with_reducible assumption);(iterate 3 exact rfl)) | (apply zt1;exact rfl;(with_reducible assumption)) | (apply zt0;exact rfl;(with_reducible assumption)) | (apply zt;exact rfl) | (apply zo;exact rfl;exact rfl) | apply zn | (apply zc;exact rfl) | exact rfl | intro _)
   refine zfor (GPack.el .n) w.Net (fun i (_ : Unit) => [(1, .box ⟨0, 0, 0⟩ (w.cs .n)), (4, .x (iT i))]) (fun i _ => (w.Net.take i).all (fun p => inB p.To (-1) 2) = true) () (by simp) rfl ?_ ?_
   ·rintro i _ p hx hlt hc _ hinv ih
    repeat' (first | (apply zy;exact rfl;exact rfl;(with_reducible assumption)) | (apply zm;exact rfl;exact rfl;(with_reducible assumption);exact rfl;exact rfl) | (apply ze;(iterate 5 exact rfl)) | (apply zf;(iterate 5 exact rfl)) | (apply zp;exact rfl;(with_reducible assumption);(iterate 3 exact rfl)) | (apply zi (GPack.el .n p);exact rfl;exact rfl;exact Int.natCast_nonneg _;exact (map_at hx);exact rfl;exact rfl) | (apply zk g_spec_l1In;exact rfl;exact rfl;exact (spec_l1In_eq _ _ _);(iterate 3 exact rfl)) | (apply zt1;exact rfl;(with_reducible assumption)) | (apply zt0;exact rfl;(with_reducible assumption)) | (apply zt;exact rfl) | (apply zo;exact rfl;exact rfl) | apply zn | (apply zc;exact rfl) | exact rfl | intro _)
    ·refine fin rfl (outB ?_)
     rename_i h5
     rw [not_all (p := fun p : GPack => inB p.To (-1) 2) hx (by simpa using h5)]
    ·rename_i h5
     refine ih () (take_all (p := fun p : GPack => inB p.To (-1) 2) hinv hx (by simpa using h5)) _ _ ?_
     rw [w64s (by omega)]; rfl
   ·rintro _ hc _ hinv
    rw [take_end hinv]
    repeat' (first | (apply zy;exact rfl;exact rfl;(with_reducible assumption)) | (apply zm;exact rfl;exact rfl;(with_reducible assumption);exact rfl;exact rfl) | (apply ze;(iterate 5 exact rfl)) | (apply zf;(iterate 5 exact rfl)) | (apply zp;exact rfl;(with_reducible assumption);(iterate 3 exact rfl)) | (apply zt1;exact rfl;(with_reducible assumption)) | (apply zt0;exact rfl;(with_reducible assumption)) | (apply zt;exact rfl) | (apply zo;exact rfl;exact rfl) | apply zn | (apply zc;exact rfl) | exact rfl | intro _)
    exact fin rfl rfl
end Go.Wr
namespace Go.Wr
set_option linter.unusedVariables false
set_option linter.unusedSimpArgs false
set_option linter.unnecessarySimpa false
set_option maxRecDepth 20000
theorem wsum {α : Type} {f : α -> Int} {l : List α} {i : Nat} {x : α} (hl : l.length <= 4000000) (hf : ∀ y ∈ l, 0 <= f y /\ f y <= 41943040000) (hx : l[i]? = some x) : IntKind.i64.wrap (sumZ f (l.take i) + f x) = sumZ f (l.take (i + 1)) := by
 have h1 := sumZ_bnd (f := f) (m := 41943040000) (by omega) (l := l.take i) fun y hy => hf y (List.mem_of_mem_take hy)
 have h2 := hf x (List.mem_of_getElem? hx)
 rw [List.length_take] at h1
 rw [sumZ_succ hx, w64 (by omega)]
theorem agents_f2 {w : GWorld} (hl : w.bulk <= 4000000) : ∀ a ∈ w.Agents, 0 <= (a.Sealed.length : Int) /\ (a.Sealed.length : Int) <= 41943040000 := fun a ha => by
 obtain ⟨i, hi⟩ := List.mem_iff_getElem?.1 ha
 have := (agent_in ((world_in hl).2.2.2 i a hi)).1
 omega
theorem false_and_lt {b : Bool} (h : b = true) : (b && true) = true := by rw [h]; rfl
theorem impl_Sealed_eq (w : GWorld) (hl : w.bulk <= 4000000) : F_impl_Sealed [.st (w.cs .n)] = some ⟨[.one (iT (sealedW w))], []⟩ := by
 have hwo := impl_WorldOk_eq w hl
 have hfs := agents_f2 hl
 have hln : w.Agents.length <= 4000000 := (world_in hl).2.1
 cases hw : worldB w with
 | false =>
  rw [hw] at hwo
  have h1 : false = false := rfl
  (refine fun_ev rfl ?_; show Ev m_impl_Sealed.code _ _ _)
  repeat' (first | (apply zk g_impl_WorldOk;exact rfl;exact rfl;exact (hwo);(iterate 3 exact rfl)) | (apply zt1;exact rfl;(with_reducible assumption)) | (apply zt0;exact rfl;(with_reducible assumption)) | (apply zt;exact rfl) | (apply zo;exact rfl;exact rfl) | apply zn | (apply zc;exact rfl) | intro _)
  exact fin rfl (outI (by rw [sealedW, hw]; rfl))
 | true =>
  rw [hw] at hwo
  have h1 : true = true := rfl
  (refine fun_ev rfl ?_; show Ev m_impl_Sealed.code _ _ _)
  repeat' (first | (apply zk g_impl_WorldOk;exact rfl;exact rfl;exact (hwo);(iterate 3 exact rfl)) | (apply zt1;exact rfl;(with_reducible assumption)) | (apply zt0;exact rfl;(with_reducible assumption)) | (apply zt;exact rfl) | (apply zo;exact rfl;exact rfl) | apply zn | (apply zc;exact rfl) | intro _)
  refine zfor (GAgent.el .n) w.Agents (fun i (n : Int) => [(1, .box ⟨0, 0, 0⟩ (w.cs .n)), (3, .x (iT n)), (9, .x (GAgent.ls .n w.Agents)), (10, .x (iT (w.Agents.map (GAgent.el .n)).length)), (11, .x (iT i))]) (fun i n => n = sumZ (fun a : GAgent => (a.Sealed.length : Int)) (w.Agents.take i)) 0 rfl rfl ?_ ?_
  ·rintro i n a hx hlt hc _ hinv ih
   have hw2 := wsum hln hfs hx
   repeat' (first | (apply zi (GAgent.el .n a);exact rfl;exact rfl;exact Int.natCast_nonneg _;exact (map_at hx);exact rfl;exact rfl) | (apply zt1;exact rfl;(with_reducible assumption)) | (apply zt0;exact rfl;(with_reducible assumption)) | (apply zt;exact rfl) | (apply zo;exact rfl;exact rfl) | apply zn | (apply zc;exact rfl) | intro _)
   refine ih _ rfl _ _ ?_
   rw [hinv, (show ((a.Sealed.map (GItem.el .n)).length : Int) = a.Sealed.length by rw [List.length_map]), hw2, w64s (by omega)]; rfl
  ·rintro n hc _ hinv
   rw [List.take_length] at hinv
   repeat' (first | (apply zt1;exact rfl;(with_reducible assumption)) | (apply zt0;exact rfl;(with_reducible assumption)) | (apply zt;exact rfl) | (apply zo;exact rfl;exact rfl) | apply zn | (apply zc;exact rfl) | intro _)
   exact fin rfl (outI (by rw [hinv, sealedW, hw]; rfl))
theorem spec_Sealed_eq (w : GWorld) (hl : w.bulk <= 4000000) : F_spec_Sealed [.st (w.cs .n)] = some ⟨[.one (iT (sealedW w))], []⟩ := by
 have hwo := spec_WorldOk_eq w hl
 have hfs := agents_f2 hl
 have hln : w.Agents.length <= 4000000 := (world_in hl).2.1
 cases hw : worldB w with
 | false =>
  rw [hw] at hwo
  have h1 : false = false := rfl
  (refine fun_ev rfl ?_; show Ev m_spec_Sealed.code _ _ _)
  repeat' (first | (apply zy;exact rfl;exact rfl;(with_reducible assumption)) | (apply zm;exact rfl;exact rfl;(with_reducible assumption);exact rfl;exact rfl) | (apply ze;(iterate 5 exact rfl)) | (apply zf;(iterate 5 exact rfl)) | (apply zp;exact rfl;(with_reducible assumption);(iterate 3 exact rfl)) | (apply zk g_spec_WorldOk;exact rfl;exact rfl;exact (hwo);(iterate 3 exact rfl)) | (apply zt1;exact rfl;(with_reducible assumption)) | (apply zt0;exact rfl;(with_reducible assumption)) | (apply zt;exact rfl) | (apply zo;exact rfl;exact rfl) | apply zn | (apply zc;exact rfl) | exact rfl | intro _)
  refine zfor (GAgent.el .n) ([] : List GAgent) (fun i (_ : Unit) => [(1, .box ⟨0, 0, 0⟩ (w.cs .n)), (3, .x (iT 0)), (4, .x (iT i))]) (fun i _ => True) () trivial rfl ?_ ?_
  ·rintro i _ a hx _ _ _ _ _
   cases hx
  ·rintro _ _ _ _
   have h2 : (decide ((([] : List GAgent).length : Int) < (w.Agents.map (GAgent.el .n)).length) && false) = false := Bool.and_false _
   repeat' (first | (apply zy;exact rfl;exact rfl;(with_reducible assumption)) | (apply zm;exact rfl;exact rfl;(with_reducible assumption);exact rfl;exact rfl) | (apply ze;(iterate 5 exact rfl)) | (apply zf;(iterate 5 exact rfl)) | (apply zp;exact rfl;(with_reducible assumption);(iterate 3 exact rfl)) | (apply zk g_spec_WorldOk;exact rfl;exact rfl;exact (hwo);(iterate 3 exact rfl)) | (apply zt1;exact rfl;(with_reducible assumption)) | (apply zt0;exact rfl;(with_reducible assumption)) | (apply zt;exact rfl) | (apply zo;exact rfl;exact rfl) | apply zn | (apply zc;exact rfl) | exact rfl | intro _)
   exact fin rfl (outI (by rw [sealedW, hw]; rfl))
 | true =>
  rw [hw] at hwo
  have h1 : true = true := rfl
  (refine fun_ev rfl ?_; show Ev m_spec_Sealed.code _ _ _)
  repeat' (first | (apply zy;exact rfl;exact rfl;(with_reducible assumption)) | (apply zm;exact rfl;exact rfl;(with_reducible assumption);exact rfl;exact rfl) | (apply ze;(iterate 5 exact rfl)) | (apply zf;(iterate 5 exact rfl)) | (apply zp;exact rfl;(with_reducible assumption);(iterate 3 exact rfl)) | (apply zk g_spec_WorldOk;exact rfl;exact rfl;exact (hwo);(iterate 3 exact rfl)) | (apply zt1;exact rfl;(with_reducible assumption)) | (apply zt0;exact rfl;(with_reducible assumption)) | (apply zt;exact rfl) | (apply zo;exact rfl;exact rfl) | apply zn | (apply zc;exact rfl) | exact rfl | intro _)
  refine zfor (GAgent.el .n) w.Agents (fun i (n : Int) => [(1, .box ⟨0, 0, 0⟩ (w.cs .n)), (3, .x (iT n)), (4, .x (iT i))]) (fun i n => n = sumZ (fun a : GAgent => (a.Sealed.length : Int)) (w.Agents.take i)) 0 rfl rfl ?_ ?_
  ·rintro i n a hx hlt hc _ hinv ih
   have hc2 := false_and_lt hc
   have hw2 := wsum hln hfs hx
   repeat' (first | (apply zy;exact rfl;exact rfl;(with_reducible assumption)) | (apply zm;exact rfl;exact rfl;(with_reducible assumption);exact rfl;exact rfl) | (apply ze;(iterate 5 exact rfl)) | (apply zf;(iterate 5 exact rfl)) | (apply zp;exact rfl;(with_reducible assumption);(iterate 3 exact rfl)) | (apply zi (GAgent.el .n a);exact rfl;exact rfl;exact Int.natCast_nonneg _;exact (map_at hx);exact rfl;exact rfl) | (apply zk g_spec_WorldOk;exact rfl;exact rfl;exact (hwo);(iterate 3 exact rfl)) | (apply zt1;exact rfl;(with_reducible assumption)) | (apply zt0;exact rfl;(with_reducible assumption)) | (apply zt;exact rfl) | (apply zo;exact rfl;exact rfl) | apply zn | (apply zc;exact rfl) | exact rfl | intro _)
   refine ih _ rfl _ _ ?_
   rw [hinv, (show ((a.Sealed.map (GItem.el .n)).length : Int) = a.Sealed.length by rw [List.length_map]), hw2, w64s (by omega)]; rfl
  ·rintro n hc _ hinv
   rw [List.take_length] at hinv
   have hc2 : (decide ((w.Agents.length : Int) < (w.Agents.map (GAgent.el .n)).length) && true) = false := by rw [hc]; rfl
   repeat' (first | (apply zy;exact rfl;exact rfl;(with_reducible assumption)) | (apply zm;exact rfl;exact rfl;(with_reducible assumption);exact rfl;exact rfl) | (apply ze;(iterate 5 exact rfl)) | (apply zf;(iterate 5 exact rfl)) | (apply zp;exact rfl;(with_reducible assumption);(iterate 3 exact rfl)) | (apply zk g_spec_WorldOk;exact rfl;exact rfl;exact (hwo);(iterate 3 exact rfl)) | (apply zt1;exact rfl;(with_reducible assumption)) | (apply zt0;exact rfl;(with_reducible assumption)) | (apply zt;exact rfl) | (apply zo;exact rfl;exact rfl) | apply zn | (apply zc;exact rfl) | exact rfl | intro _)
   exact fin rfl (outI (by rw [hinv, sealedW, hw]; rfl))
end Go.Wr
namespace Go.Wr
set_option linter.unusedVariables false
set_option linter.unusedSimpArgs false
set_option linter.unnecessarySimpa false
set_option maxRecDepth 20000
theorem laws_FnExactSealed_eq (a : GWorld) (ha : a.fit) : F_laws_FnExactSealed [.st (a.cs .n)] = some ⟨[.one (.b true)], []⟩ := by
 have r0 : Rng 1048576 := ⟨by omega, by omega⟩
 have s1 := laws_szWorld_eq a 1048576 r0 ha
 cases h1 : decide (left 1048576 a.bulk < 0) with
 | true =>
  (refine fun_ev rfl ?_; show Ev m_laws_FnExactSealed.code _ _ _)
  repeat' (first | (apply zk g_laws_szWorld;exact rfl;simp only [List.map,fzl];exact rfl;exact (s1);exact rfl;exact rfl;exact rfl) | (apply zt1;exact rfl;(with_reducible assumption)) | (apply zt0;exact rfl;(with_reducible assumption)) | (apply zt;exact rfl) | (apply zo;exact rfl;exact rfl) | apply zn | (apply zc;exact rfl) | intro _)
  exact fin rfl rfl
 | false =>
  have o1 := left_ok r0 h1
  have la : a.bulk <= 1048576 := by omega
  have lb : a.bulk <= 4000000 := by omega
  (refine fun_ev rfl ?_; show Ev m_laws_FnExactSealed.code _ _ _)
  repeat' (first | (apply zk g_laws_szWorld;exact rfl;simp only [List.map,fzl];exact rfl;exact (s1);exact rfl;exact rfl;exact rfl) | (apply zk g_laws_toWorld;exact rfl;simp only [List.map,fzl];exact rfl;exact (laws_toWorld_eq a la);exact rfl;exact rfl;exact rfl) | (apply zk g_spec_Sealed;exact rfl;simp only [List.map,fzl];exact rfl;exact (spec_Sealed_eq a lb);exact rfl;exact rfl;exact rfl) | (apply zk g_impl_Sealed;exact rfl;simp only [List.map,fzl];exact rfl;exact (impl_Sealed_eq a lb);exact rfl;exact rfl;exact rfl) | (apply zk g_laws_eqWorld;exact rfl;simp only [List.map,fzl];exact rfl;exact (laws_eqWorld_eq a a la);exact rfl;exact rfl;exact rfl) | (apply zt1;exact rfl;(with_reducible assumption)) | (apply zt0;exact rfl;(with_reducible assumption)) | (apply zt;exact rfl) | (apply zo;exact rfl;exact rfl) | apply zn | (apply zc;exact rfl) | intro _)
  all_goals first | (rename_i h; simp at h; done) | (exact fin rfl rfl)
end Go.Wr

