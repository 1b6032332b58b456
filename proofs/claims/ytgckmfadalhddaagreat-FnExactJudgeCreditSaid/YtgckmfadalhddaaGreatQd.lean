/-
  What is proved: lemmas on the way to the laws of this seat. No condition.
-/
import Derived.Test.YtgckmfadalhddaaGreatQc
import Derived.Test.YtgckmfadalhddaaGreatPb
import Derived.Test.YtgckmfadalhddaaGreatHa
set_option linter.unusedVariables false
set_option linter.unusedSimpArgs false
namespace Go.Wr
set_option linter.unusedVariables false
set_option linter.unusedSimpArgs false
set_option linter.unnecessarySimpa false
set_option maxRecDepth 20000
theorem not_t {b : Bool} (h : (!b) = true) : b = false := by cases b with | false => rfl | true => cases h
theorem not_f {b : Bool} (h : (!b) = false) : b = true := by cases b with | false => cases h | true => rfl
theorem impl_ItemOk_eq (x : GItem) (hl : x.bulk <= 4000000) : F_impl_ItemOk [.st (x.cs .n)] = some ⟨[.one (.b x.ok)], []⟩ := by
 have hs : x.Sketch.bulk <= 4000000 := hl
 (refine fun_ev rfl ?_; show Ev m_impl_ItemOk.code _ _ _)
 repeat' (first | (apply zy;exact rfl;exact rfl;(with_reducible assumption)) | (apply zm;exact rfl;exact rfl;(with_reducible assumption);exact rfl;exact rfl) | (apply ze;(iterate 5 exact rfl)) | (apply zf;(iterate 5 exact rfl)) | (apply zp;exact rfl;(with_reducible assumption);(iterate 3 exact rfl)) | (apply zk g_impl_within;exact rfl;exact rfl;exact (impl_within_eq _ _ _);(iterate 3 exact rfl)) | (apply zk g_impl_SketchOk;exact rfl;exact rfl;exact (impl_SketchOk_eq x.Sketch hs);(iterate 3 exact rfl)) | (apply zo;exact rfl;exact rfl) | apply zn | (apply zc;exact rfl) | exact rfl | intro _)
 exact fin rfl rfl
theorem spec_ItemOk_eq (x : GItem) (hl : x.bulk <= 4000000) : F_spec_ItemOk [.st (x.cs .n)] = some ⟨[.one (.b x.ok)], []⟩ := by
 have hs : x.Sketch.bulk <= 4194304 := Nat.le_trans hl (by omega)
 (refine fun_ev rfl ?_; show Ev m_spec_ItemOk.code _ _ _)
 repeat' (first | (apply zy;exact rfl;exact rfl;(with_reducible assumption)) | (apply zm;exact rfl;exact rfl;(with_reducible assumption);exact rfl;exact rfl) | (apply ze;(iterate 5 exact rfl)) | (apply zf;(iterate 5 exact rfl)) | (apply zp;exact rfl;(with_reducible assumption);(iterate 3 exact rfl)) | (apply zk g_spec_l1In;exact rfl;exact rfl;exact (spec_l1In_eq _ _ _);(iterate 3 exact rfl)) | (apply zk g_spec_l6Place;exact rfl;exact rfl;exact (spec_l6Place_eq _ _);(iterate 3 exact rfl)) | (apply zk g_spec_SketchOk;exact rfl;exact rfl;exact (spec_SketchOk_eq x.Sketch hs);(iterate 3 exact rfl)) | (apply zo;exact rfl;exact rfl) | apply zn | (apply zc;exact rfl) | exact rfl | intro _)
 refine fin rfl (outB ?_)
 rw [GItem.ok]
 generalize inB x.Seq 1 60 = a
 generalize inB x.Class 0 1 = b
 generalize inB x.Key 0 4 = c
 generalize inB x.Window 0 20 = d
 generalize x.Sketch.ok = e
 revert a b c d e; decide
theorem agent_in {a : GAgent} (hl : a.bulk <= 4000000) : a.Sealed.length <= 4000000 /\ a.Taken.length <= 4194304 /\ ∀ (i : Nat) x, a.Sealed[i]? = some x -> x.bulk <= 4000000 := by
 have h1 := bulks_len GItem.bulk a.Sealed
 unfold GAgent.bulk at hl
 refine ⟨by omega, by omega, fun i x hx => ?_⟩
 have := bulks_mem (f := GItem.bulk) hx
 omega
theorem gt_not (n m : Nat) : decide ((n : Int) > (m : Nat)) = !decide (n <= m) := by
 rw [Bool.eq_iff_iff]; simp only [decide_eq_true_eq, Bool.not_eq_true', decide_eq_false_iff_not]; omega
theorem not_agentTop {a : GAgent} : ((((!inB a.Id 0 2 || !inB a.Epoch 0 1000) || !inB a.Granted 0 60) || decide (((a.Sealed.map (GItem.el .n)).length : Int) > 60)) || !inB a.Next 0 60) = !agentTop a := by
 rw [show (60 : Int) = ((60 : Nat) : Int) from rfl, List.length_map, gt_not, agentTop]
 cases inB a.Id 0 2 <;> cases inB a.Epoch 0 1000 <;> cases inB a.Granted 0 (60 : Nat) <;> cases decide (a.Sealed.length <= 60) <;> simp
theorem impl_AgentOk_eq (a : GAgent) (hl : a.bulk <= 4000000) : F_impl_AgentOk [.st (a.cs .n)] = some ⟨[.one (.b a.ok)], []⟩ := by
 obtain ⟨h1, h2, h3⟩ := agent_in hl
 (refine fun_ev rfl ?_; show Ev m_impl_AgentOk.code _ _ _)
 repeat' (first | (apply zy;exact rfl;exact rfl;(with_reducible assumption)) | (apply zm;exact rfl;exact rfl;(with_reducible assumption);exact rfl;exact rfl) | (apply ze;(iterate 5 exact rfl)) | (apply zf;(iterate 5 exact rfl)) | (apply zp;exact rfl;(with_reducible assumption);(iterate 3 exact rfl)) | (apply zk g_impl_within;exact rfl;exact rfl;exact (impl_within_eq _ _ _);(iterate 3 exact rfl)) | (apply zt1;exact rfl;(with_reducible assumption)) | (apply zt0;exact rfl;(with_reducible assumption)) | (apply zt;exact rfl) | (apply zo;exact rfl;exact rfl) | apply zn | (apply zc;exact rfl) | exact rfl | intro _)
 ·refine fin rfl (outB ?_)
  rename_i h
  rw [not_agentTop] at h
  have h4 : agentTop a = false := by simpa using h
  rw [GAgent.ok, h4]; rfl
 ·rename_i h
  rw [not_agentTop] at h
  have h4 : agentTop a = true := by simpa using h
  refine zfor (GItem.el .n) a.Sealed (fun i (_ : Unit) => [(1, .box ⟨0, 0, 0⟩ (a.cs .n)), (34, .x (GItem.ls .n a.Sealed)), (35, .x (iT (a.Sealed.map (GItem.el .n)).length)), (36, .x (iT i))]) (fun i _ => ∀ j, j < i -> sealAt a.Sealed j = true) () (by omega) rfl ?_ ?_
  ·rintro i _ x hx hlt hc _ hinv ih
   have hbx := h3 i x hx
   have hw : IntKind.i64.wrap ((i : Int) + 1) = (i : Int) + 1 := w64 (by omega)
   repeat' (first | (apply zy;exact rfl;exact rfl;(with_reducible assumption)) | (apply zm;exact rfl;exact rfl;(with_reducible assumption);exact rfl;exact rfl) | (apply ze;(iterate 5 exact rfl)) | (apply zf;(iterate 5 exact rfl)) | (apply zp;exact rfl;(with_reducible assumption);(iterate 3 exact rfl)) | (apply zi (GItem.el .n x);exact rfl;exact rfl;exact Int.natCast_nonneg _;exact (map_at hx);exact rfl;exact rfl) | (apply zk g_impl_ItemOk;exact rfl;exact rfl;exact (impl_ItemOk_eq x hbx);(iterate 3 exact rfl)) | (apply zt1;exact rfl;(with_reducible assumption)) | (apply zt0;exact rfl;(with_reducible assumption)) | (apply zt;exact rfl) | (apply zo;exact rfl;exact rfl) | apply zn | (apply zc;exact rfl) | exact rfl | intro _)
   ·refine fin rfl (outB ?_)
    rename_i h5
    rw [hw, bne] at h5
    have h6 : sealAt a.Sealed i = false := by rw [sealAt_at hx]; revert h5; cases x.ok <;> simp
    rw [GAgent.ok, allIx_not hlt h6, Bool.and_false]
   ·rename_i h5
    rw [hw, bne] at h5
    have h6 : sealAt a.Sealed i = true := by rw [sealAt_at hx]; revert h5; cases x.ok <;> simp
    refine ih () (upto_succ hinv h6) _ _ ?_
    rw [w64s (by omega)]; rfl
  ·rintro _ hc _ hinv
   repeat' (first | (apply zy;exact rfl;exact rfl;(with_reducible assumption)) | (apply zm;exact rfl;exact rfl;(with_reducible assumption);exact rfl;exact rfl) | (apply ze;(iterate 5 exact rfl)) | (apply zf;(iterate 5 exact rfl)) | (apply zp;exact rfl;(with_reducible assumption);(iterate 3 exact rfl)) | (apply zk g_impl_allIn;exact rfl;exact rfl;exact (impl_allIn_eq a.Taken _ _ h2);(iterate 3 exact rfl)) | (apply zt1;exact rfl;(with_reducible assumption)) | (apply zt0;exact rfl;(with_reducible assumption)) | (apply zt;exact rfl) | (apply zo;exact rfl;exact rfl) | apply zn | (apply zc;exact rfl) | exact rfl | intro _)
   refine fin rfl (outB ?_)
   rw [GAgent.ok, h4, allIx_of hinv, List.length_map]
   have h7 : inB a.Granted 0 60 = true := by simp only [agentTop, Bool.and_eq_true] at h4; exact h4.1.1.2
   have h8 : (a.Granted == 0) = !decide (a.Granted > 0) := by
    simp only [inB, Bool.and_eq_true, decide_eq_true_eq] at h7
    rw [Bool.eq_iff_iff]; simp only [beq_iff_eq, Bool.not_eq_true', decide_eq_false_iff_not]; omega
   rw [h8, Bool.true_and, Bool.and_true]
theorem spec_AgentOk_eq (a : GAgent) (hl : a.bulk <= 4000000) : F_spec_AgentOk [.st (a.cs .n)] = some ⟨[.one (.b a.ok)], []⟩ := by
 obtain ⟨h1, h2, h3⟩ := agent_in hl
 (refine fun_ev rfl ?_; show Ev m_spec_AgentOk.code _ _ _)
 repeat' (first | (apply zy;exact rfl;exact rfl;(with_reducible assumption)) | (apply zm;exact rfl;exact rfl;(with_reducible assumption);exact rfl;exact rfl) | (apply ze;(iterate 5 exact rfl)) | (apply zf;(iterate 5 exact rfl)) | (apply zp;exact rfl;(with_reducible assumption);(iterate 3 exact rfl)) | (apply zk g_spec_l1In;exact rfl;exact rfl;exact (spec_l1In_eq _ _ _);(iterate 3 exact rfl)) | (apply zk g_spec_l6Agent;exact rfl;exact rfl;exact (spec_l6Agent_eq _);(iterate 3 exact rfl)) | (apply zk g_spec_l8Below;exact rfl;exact rfl;exact (spec_l8Below_eq a.Taken _ h2);(iterate 3 exact rfl)) | (apply zt1;exact rfl;(with_reducible assumption)) | (apply zt0;exact rfl;(with_reducible assumption)) | (apply zt;exact rfl) | (apply zo;exact rfl;exact rfl) | apply zn | (apply zc;exact rfl) | exact rfl | intro _)
 ·refine fin rfl (outB ?_)
  rename_i h
  rw [not_agentTop, List.length_map] at h
  rw [GAgent.ok]
  revert h
  cases agentTop a <;> cases allIn a.Taken 1 a.Sealed.length <;> cases a.Live <;> cases decide (a.Granted > 0) <;> simp
 ·rename_i h
  rw [not_agentTop, List.length_map] at h
  have h4 : (agentTop a && allIn a.Taken 1 a.Sealed.length && (a.Live || !decide (a.Granted > 0))) = true := by
   revert h
   cases agentTop a <;> cases allIn a.Taken 1 a.Sealed.length <;> cases a.Live <;> cases decide (a.Granted > 0) <;> simp
  rw [GAgent.ok, h4, Bool.true_and]
  refine zfor (GItem.el .n) a.Sealed (fun i (_ : Unit) => [(1, .box ⟨0, 0, 0⟩ (a.cs .n)), (3, .x (iT i))]) (fun i _ => ∀ j, j < i -> sealAt a.Sealed j = true) () (by omega) rfl ?_ ?_
  ·rintro i _ x hx hlt hc _ hinv ih
   have hbx := h3 i x hx
   have hw : IntKind.i64.wrap ((i : Int) + 1) = (i : Int) + 1 := w64 (by omega)
   repeat' (first | (apply zy;exact rfl;exact rfl;(with_reducible assumption)) | (apply zm;exact rfl;exact rfl;(with_reducible assumption);exact rfl;exact rfl) | (apply ze;(iterate 5 exact rfl)) | (apply zf;(iterate 5 exact rfl)) | (apply zp;exact rfl;(with_reducible assumption);(iterate 3 exact rfl)) | (apply zi (GItem.el .n x);exact rfl;exact rfl;exact Int.natCast_nonneg _;exact (map_at hx);exact rfl;exact rfl) | (apply zk g_spec_ItemOk;exact rfl;exact rfl;exact (spec_ItemOk_eq x hbx);(iterate 3 exact rfl)) | (apply zt1;exact rfl;(with_reducible assumption)) | (apply zt0;exact rfl;(with_reducible assumption)) | (apply zt;exact rfl) | (apply zo;exact rfl;exact rfl) | apply zn | (apply zc;exact rfl) | exact rfl | intro _)
   ·refine fin rfl (outB ?_)
    rename_i h5
    rw [hw, bne] at h5
    have h6 : sealAt a.Sealed i = false := by rw [sealAt_at hx]; revert h5; cases x.ok <;> simp
    rw [allIx_not hlt h6]
   ·rename_i h5
    rw [hw, bne] at h5
    have h6 : sealAt a.Sealed i = true := by rw [sealAt_at hx]; revert h5; cases x.ok <;> simp
    refine ih () (upto_succ hinv h6) _ _ ?_
    rw [w64s (by omega)]; rfl
  ·rintro _ hc _ hinv
   rw [allIx_of hinv]
   repeat' (first | (apply zy;exact rfl;exact rfl;(with_reducible assumption)) | (apply zm;exact rfl;exact rfl;(with_reducible assumption);exact rfl;exact rfl) | (apply ze;(iterate 5 exact rfl)) | (apply zf;(iterate 5 exact rfl)) | (apply zp;exact rfl;(with_reducible assumption);(iterate 3 exact rfl)) | (apply zt1;exact rfl;(with_reducible assumption)) | (apply zt0;exact rfl;(with_reducible assumption)) | (apply zt;exact rfl) | (apply zo;exact rfl;exact rfl) | apply zn | (apply zc;exact rfl) | exact rfl | intro _)
   exact fin rfl rfl
theorem world_in {w : GWorld} (hl : w.bulk <= 4000000) : w.House.bulk <= 4000000 /\ w.Agents.length <= 4000000 /\ w.Net.length <= 4000000 /\ ∀ (i : Nat) a, w.Agents[i]? = some a -> a.bulk <= 4000000 := by
 have h1 := bulks_len GAgent.bulk w.Agents
 have h2 := bulks_len GPack.bulk w.Net
 unfold GWorld.bulk at hl
 refine ⟨by omega, by omega, by omega, fun i x hx => ?_⟩
 have := bulks_mem (f := GAgent.bulk) hx
 omega
theorem not_worldTop {w : GWorld} {b : Bool} : ((((w.Agents.map (GAgent.el .n)).length : Int) != 3 || !b) || decide (((w.Net.map (GPack.el .n)).length : Int) > 10)) = !(decide (w.Agents.length = 3) && b && decide (w.Net.length <= 10)) := by
 rw [show (3 : Int) = ((3 : Nat) : Int) from rfl, show (10 : Int) = ((10 : Nat) : Int) from rfl, len_ne, List.length_map, gt_not]
 cases decide (w.Agents.length = 3) <;> cases b <;> simp
theorem impl_WorldOk_eq (w : GWorld) (hl : w.bulk <= 4000000) : F_impl_WorldOk [.st (w.cs .n)] = some ⟨[.one (.b (worldB w))], []⟩ := by
 obtain ⟨hh, hal, hnl, hab⟩ := world_in hl
 (refine fun_ev rfl ?_; show Ev m_impl_WorldOk.code _ _ _)
 repeat' (first | (apply zy;exact rfl;exact rfl;(with_reducible assumption)) | (apply zm;exact rfl;exact rfl;(with_reducible assumption);exact rfl;exact rfl) | (apply ze;(iterate 5 exact rfl)) | (apply zf;(iterate 5 exact rfl)) | (apply zp;exact rfl;(with_reducible assumption);(iterate 3 exact rfl)) | (apply zk g_impl_HouseOk;exact rfl;exact rfl;exact (impl_HouseOk_eq w.House hh);(iterate 3 exact rfl)) | (apply zt1;exact rfl;(with_reducible assumption)) | (apply zt0;exact rfl;(with_reducible assumption)) | (apply zt;exact rfl) | (apply zo;exact rfl;exact rfl) | apply zn | (apply zc;exact rfl) | exact rfl | intro _)
 ·refine fin rfl (outB ?_)
  rename_i h
  rw [not_worldTop, house_same] at h
  rw [worldB, not_t h]; rfl
 ·rename_i h
  rw [not_worldTop, house_same] at h
  have h4 : (decide (w.Agents.length = 3) && houseS w.House && decide (w.Net.length <= 10)) = true := by simpa using h
  have h3 : w.Agents.length = 3 := by simp only [Bool.and_eq_true, decide_eq_true_eq] at h4; exact h4.1.1
  rw [worldB, h4, Bool.true_and]
  refine zfor (GAgent.el .n) w.Agents (fun i (_ : Unit) => [(1, .box ⟨0, 0, 0⟩ (w.cs .n)), (24, .x (GAgent.ls .n w.Agents)), (25, .x (iT (w.Agents.map (GAgent.el .n)).length)), (26, .x (iT i))]) (fun i _ => ∀ j, j < i -> agentAt w.Agents j = true) () (by omega) rfl ?_ ?_
  ·rintro i _ a hx hlt hc _ hinv ih
   have hba := hab i a hx
   repeat' (first | (apply zy;exact rfl;exact rfl;(with_reducible assumption)) | (apply zm;exact rfl;exact rfl;(with_reducible assumption);exact rfl;exact rfl) | (apply ze;(iterate 5 exact rfl)) | (apply zf;(iterate 5 exact rfl)) | (apply zp;exact rfl;(with_reducible assumption);(iterate 3 exact rfl)) | (apply zi (GAgent.el .n a);exact rfl;exact rfl;exact Int.natCast_nonneg _;exact (map_at hx);exact rfl;exact rfl) | (apply zk g_impl_AgentOk;exact rfl;exact rfl;exact (impl_AgentOk_eq a hba);(iterate 3 exact rfl)) | (apply zt1;exact rfl;(with_reducible assumption)) | (apply zt0;exact rfl;(with_reducible assumption)) | (apply zt;exact rfl) | (apply zo;exact rfl;exact rfl) | apply zn | (apply zc;exact rfl) | exact rfl | intro _)
   ·refine fin rfl (outB ?_)
    rename_i h5
    rw [bne] at h5
    have h6 : agentAt w.Agents i = false := by rw [agentAt_at hx]; revert h5; cases a.ok <;> simp
    rw [allIx_not (h3 ▸ hlt) h6, Bool.false_and]
   ·rename_i h5
    rw [bne] at h5
    have h6 : agentAt w.Agents i = true := by rw [agentAt_at hx]; revert h5; cases a.ok <;> simp
    refine ih () (upto_succ hinv h6) _ _ ?_
    rw [w64s (by omega)]; rfl
  ·rintro _ hc _ hinv
   rw [allIx_of (h3 ▸ hinv), Bool.true_and]
   repeat' (first | (apply zy;exact rfl;exact rfl;(with_reducible assumption)) | (apply zm;exact rfl;exact rfl;(with_reducible assumption);exact rfl;exact rfl) | (apply ze;(iterate 5 exact rfl)) | (apply zf;(iterate 5 exact rfl)) | (apply zp;exact rfl;(with_reducible assumption);(iterate 3 exact rfl)) | (apply zt1;exact rfl;(with_reducible assumption)) | (apply zt0;exact rfl;(with_reducible assumption)) | (apply zt;exact rfl) | (apply zo;exact rfl;exact rfl) | apply zn | (apply zc;exact rfl) | exact rfl | intro _)
   refine zfor (GPack.el .n) w.Net (fun i (_ : Unit) => [(1, .box ⟨0, 0, 0⟩ (w.cs .n)), (42, .x (GPack.ls .n w.Net)), (43, .x (iT (w.Net.map (GPack.el .n)).length)), (44, .x (iT i))]) (fun i _ => (w.Net.take i).all (fun p => inB p.To (-1) 2) = true) () (by simp) rfl ?_ ?_
   ·rintro i _ p hx hlt hc _ hinv ih
    repeat' (first | (apply zy;exact rfl;exact rfl;(with_reducible assumption)) | (apply zm;exact rfl;exact rfl;(with_reducible assumption);exact rfl;exact rfl) | (apply ze;(iterate 5 exact rfl)) | (apply zf;(iterate 5 exact rfl)) | (apply zp;exact rfl;(with_reducible assumption);(iterate 3 exact rfl)) | (apply zi (GPack.el .n p);exact rfl;exact rfl;exact Int.natCast_nonneg _;exact (map_at hx);exact rfl;exact rfl) | (apply zk g_impl_within;exact rfl;exact rfl;exact (impl_within_eq _ _ _);(iterate 3 exact rfl)) | (apply zt1;exact rfl;(with_reducible assumption)) | (apply zt0;exact rfl;(with_reducible assumption)) | (apply zt;exact rfl) | (apply zo;exact rfl;exact rfl) | apply zn | (apply zc;exact rfl) | exact rfl | intro _)
    ·refine fin rfl (outB ?_)
     rename_i h5
     rw [not_all (p := fun p : GPack => inB p.To (-1) 2) hx (by simpa using h5)]
    ·rename_i h5
     refine ih () (take_all (p := fun p : GPack => inB p.To (-1) 2) hinv hx (by simpa using h5)) _ _ ?_
     rw [w64s (by omega)]; rfl
   ·rintro _ hc _ hinv
    rw [take_end hinv]
    repeat' (first | (apply zy;exact rfl;exact rfl;(with_reducible assumption)) | (apply zm;exact rfl;exact rfl;(with_reducible assumption);exact rfl;exact rfl) | (apply ze;(iterate 5 exact rfl)) | (apply zf;(iterate 5 exact rfl)) | (apply zp;exact rfl;(with_reducible assumption);(iterate 3 exact rfl)) | (apply zt1;exact rfl;(with_reducible assumption)) | (apply zt0;exact rfl;(with_reducible assumption)) | (apply zt;exact rfl) | (apply zo;exact rfl;exact rfl) | apply zn | (apply zc;exact rfl) | exact rfl | intro _)
    exact fin rfl rfl
theorem spec_WorldOk_eq (w : GWorld) (hl : w.bulk <= 4000000) : F_spec_WorldOk [.st (w.cs .n)] = some ⟨[.one (.b (worldB w))], []⟩ := by
 obtain ⟨hh, hal, hnl, hab⟩ := world_in hl
 (refine fun_ev rfl ?_; show Ev m_spec_WorldOk.code _ _ _)
 repeat' (first | (apply zy;exact rfl;exact rfl;(with_reducible assumption)) | (apply zm;exact rfl;exact rfl;(with_reducible assumption);exact rfl;exact rfl) | (apply ze;(iterate 5 exact rfl)) | (apply zf;(iterate 5 exact rfl)) | (apply zp;exact rfl;(with_reducible assumption);(iterate 3 exact rfl)) | (apply zk g_spec_HouseOk;exact rfl;exact rfl;exact (spec_HouseOk_eq w.House hh);(iterate 3 exact rfl)) | (apply zt1;exact rfl;(with_reducible assumption)) | (apply zt0;exact rfl;(with_reducible assumption)) | (apply zt;exact rfl) | (apply zo;exact rfl;exact rfl) | apply zn | (apply zc;exact rfl) | exact rfl | intro _)
 ·refine fin rfl (outB ?_)
  rename_i h
  rw [not_worldTop] at h
  rw [worldB, not_t h]; rfl
 ·rename_i h
  rw [not_worldTop] at h
  have h4 : (decide (w.Agents.length = 3) && houseS w.House && decide (w.Net.length <= 10)) = true := by simpa using h
  have h3 : w.Agents.length = 3 := by simp only [Bool.and_eq_true, decide_eq_true_eq] at h4; exact h4.1.1
  rw [worldB, h4, Bool.true_and]
  refine zfor (GAgent.el .n) w.Agents (fun i (_ : Unit) => [(1, .box ⟨0, 0, 0⟩ (w.cs .n)), (3, .x (iT i))]) (fun i _ => ∀ j, j < i -> agentAt w.Agents j = true) () (by omega) rfl ?_ ?_
  ·rintro i _ a hx hlt _ _ hinv ih
   have hc : decide ((i : Int) < 3) = true := by simp; omega
   have hba := hab i a hx
   repeat' (first | (apply zy;exact rfl;exact rfl;(with_reducible assumption)) | (apply zm;exact rfl;exact rfl;(with_reducible assumption);exact rfl;exact rfl) | (apply ze;(iterate 5 exact rfl)) | (apply zf;(iterate 5 exact rfl)) | (apply zp;exact rfl;(with_reducible assumption);(iterate 3 exact rfl)) | (apply zi (GAgent.el .n a);exact rfl;exact rfl;exact Int.natCast_nonneg _;exact (map_at hx);exact rfl;exact rfl) | (apply zk g_spec_AgentOk;exact rfl;exact rfl;exact (spec_AgentOk_eq a hba);(iterate 3 exact rfl)) | (apply zt1;exact rfl;(with_reducible assumption)) | (apply zt0;exact rfl;(with_reducible assumption)) | (apply zt;exact rfl) | (apply zo;exact rfl;exact rfl) | apply zn | (apply zc;exact rfl) | exact rfl | intro _)
   ·refine fin rfl (outB ?_)
    rename_i h5
    rw [bne] at h5
    have h6 : agentAt w.Agents i = false := by rw [agentAt_at hx]; revert h5; cases a.ok <;> simp
    rw [allIx_not (h3 ▸ hlt) h6, Bool.false_and]
   ·rename_i h5
    rw [bne] at h5
    have h6 : agentAt w.Agents i = true := by rw [agentAt_at hx]; revert h5; cases a.ok <;> simp
    refine ih () (upto_succ hinv h6) _ _ ?_
    rw [w64s (by omega)]; rfl
  ·rintro _ _ _ hinv
   have hc : decide ((w.Agents.length : Int) < 3) = false := by rw [h3]; rfl
   rw [allIx_of (h3 ▸ hinv), Bool.true_and]
   repeat' (first | (apply zy;exact rfl;exact rfl;(with_reducible assumption)) | (apply zm;exact rfl;exact rfl;(with_reducible assumption);exact rfl;exact rfl) | (apply ze;(iterate 5 exact rfl)) | (apply zf;(iterate 5 exact rfl)) | (apply zp;exact rfl;(with_reducible assumption);(iterate 3 exact rfl)) | (apply zt1;exact rfl;(with_reducible assumption)) | (apply zt0;exact rfl;(with_reducible assumption)) | (apply zt;exact rfl) | (apply zo;exact rfl;exact rfl) | apply zn | (apply zc;exact rfl) | exact rfl | intro _)
   refine zfor (GPack.el .n) w.Net (fun i (_ : Unit) => [(1, .box ⟨0, 0, 0⟩ (w.cs .n)), (4, .x (iT i))]) (fun i _ => (w.Net.take i).all (fun p => inB p.To (-1) 2) = true) () (by simp) rfl ?_ ?_
   ·rintro i _ p hx hlt hc _ hinv ih
    repeat' (first | (apply zy;exact rfl;exact rfl;(with_reducible assumption)) | (apply zm;exact rfl;exact rfl;(with_reducible assumption);exact rfl;exact rfl) | (apply ze;(iterate 5 exact rfl)) | (apply zf;(iterate 5 exact rfl)) | (apply zp;exact rfl;(with_reducible assumption);(iterate 3 exact rfl)) | (apply zi (GPack.el .n p);exact rfl;exact rfl;exact Int.natCast_nonneg _;exact (map_at hx);exact rfl;exact rfl) | (apply zk g_spec_l1In;exact rfl;exact rfl;exact (spec_l1In_eq _ _ _);(iterate 3 exact rfl)) | (apply zt1;exact rfl;(with_reducible assumption)) | (apply zt0;exact rfl;(with_reducible assumption)) | (apply zt;exact rfl) | (apply zo;exact rfl;exact rfl) | apply zn | (apply zc;exact rfl) | exact rfl | intro _)
    ·refine fin rfl (outB ?_)
     rename_i h5
     rw [not_all (p := fun p : GPack => inB p.To (-1) 2) hx (by simpa using h5)]
    ·rename_i h5
     refine ih () (take_all (p := fun p : GPack => inB p.To (-1) 2) hinv hx (by simpa using h5)) _ _ ?_
     rw [w64s (by omega)]; rfl
   ·rintro _ hc _ hinv
    rw [take_end hinv]
    repeat' (first | (apply zy;exact rfl;exact rfl;(with_reducible assumption)) | (apply zm;exact rfl;exact rfl;(with_reducible assumption);exact rfl;exact rfl) | (apply ze;(iterate 5 exact rfl)) | (apply zf;(iterate 5 exact rfl)) | (apply zp;exact rfl;(with_reducible assumption);(iterate 3 exact rfl)) | (apply zt1;exact rfl;(with_reducible assumption)) | (apply zt0;exact rfl;(with_reducible assumption)) | (apply zt;exact rfl) | (apply zo;exact rfl;exact rfl) | apply zn | (apply zc;exact rfl) | exact rfl | intro _)
    exact fin rfl rfl
end Go.Wr
namespace Go.Wr
set_option linter.unusedVariables false
set_option linter.unusedSimpArgs false
set_option linter.unnecessarySimpa false
set_option maxRecDepth 20000
theorem setSize_nn (s : List GSpan) : 0 <= setSize s := by
 unfold setSize
 split
 ·rename_i h
  exact (sumSpan_bnd fun x hx => setOk_bnd h hx).1
 ·omega
theorem wsum {α : Type} {f : α -> Int} {l : List α} {i : Nat} {x : α} (hl : l.length <= 4000000) (hf : ∀ y ∈ l, 0 <= f y /\ f y <= 41943040000) (hx : l[i]? = some x) : IntKind.i64.wrap (sumZ f (l.take i) + f x) = sumZ f (l.take (i + 1)) := by
 have h1 := sumZ_bnd (f := f) (m := 41943040000) (by omega) (l := l.take i) fun y hy => hf y (List.mem_of_mem_take hy)
 have h2 := hf x (List.mem_of_getElem? hx)
 rw [List.length_take] at h1
 rw [sumZ_succ hx, w64 (by omega)]
theorem seat_l {s : GSeat} (hl : s.bulk <= 4000000) : s.Taken.length <= 4194304 := by unfold GSeat.bulk at hl; omega
theorem seats_f {w : GWorld} (hl : w.bulk <= 4000000) : ∀ s ∈ w.House.Seats, 0 <= setSize s.Taken /\ setSize s.Taken <= 41943040000 := fun s hs => by
 obtain ⟨i, hi⟩ := List.mem_iff_getElem?.1 hs
 exact setSize_bnd (seat_l (seat_in (world_in hl).1 hi))
theorem seats_l {w : GWorld} (hl : w.bulk <= 4000000) : w.House.Seats.length <= 4000000 := by
 have h1 := (world_in hl).1
 have h2 := bulks_len GSeat.bulk w.House.Seats
 unfold GHouse.bulk at h1; omega
theorem false_and_lt {b : Bool} (h : b = true) : (b && true) = true := by rw [h]; rfl
theorem impl_TakenAll_eq (w : GWorld) (hl : w.bulk <= 4000000) : F_impl_TakenAll [.st (w.cs .n)] = some ⟨[.one (iT (takenW w))], []⟩ := by
 have hwo := impl_WorldOk_eq w hl
 have hfs := seats_f hl
 have hln : w.House.Seats.length <= 4000000 := seats_l hl
 cases hw : worldB w with
 | false =>
  rw [hw] at hwo
  have h1 : false = false := rfl
  (refine fun_ev rfl ?_; show Ev m_impl_TakenAll.code _ _ _)
  repeat' (first | (apply zk g_impl_WorldOk;exact rfl;exact rfl;exact (hwo);(iterate 3 exact rfl)) | (apply zt1;exact rfl;(with_reducible assumption)) | (apply zt0;exact rfl;(with_reducible assumption)) | (apply zt;exact rfl) | (apply zo;exact rfl;exact rfl) | apply zn | (apply zc;exact rfl) | intro _)
  exact fin rfl (outI (by rw [takenW, hw]; rfl))
 | true =>
  rw [hw] at hwo
  have h1 : true = true := rfl
  (refine fun_ev rfl ?_; show Ev m_impl_TakenAll.code _ _ _)
  repeat' (first | (apply zk g_impl_WorldOk;exact rfl;exact rfl;exact (hwo);(iterate 3 exact rfl)) | (apply zt1;exact rfl;(with_reducible assumption)) | (apply zt0;exact rfl;(with_reducible assumption)) | (apply zt;exact rfl) | (apply zo;exact rfl;exact rfl) | apply zn | (apply zc;exact rfl) | intro _)
  refine zfor (GSeat.el .n) w.House.Seats (fun i (n : Int) => [(1, .box ⟨0, 0, 0⟩ (w.cs .n)), (3, .x (iT n)), (10, .x (GSeat.ls .n w.House.Seats)), (11, .x (iT (w.House.Seats.map (GSeat.el .n)).length)), (12, .x (iT i))]) (fun i n => n = sumZ (fun s : GSeat => setSize s.Taken) (w.House.Seats.take i)) 0 rfl rfl ?_ ?_
  ·rintro i n a hx hlt hc _ hinv ih
   have htl : a.Taken.length <= 4194304 := seat_l (seat_in (world_in hl).1 hx)
   have hw2 := wsum hln hfs hx
   repeat' (first | (apply zi (GSeat.el .n a);exact rfl;exact rfl;exact Int.natCast_nonneg _;exact (map_at hx);exact rfl;exact rfl) | (apply zk g_impl_SetSize;exact rfl;exact rfl;exact (impl_SetSize_eq a.Taken htl);(iterate 3 exact rfl)) | (apply zt1;exact rfl;(with_reducible assumption)) | (apply zt0;exact rfl;(with_reducible assumption)) | (apply zt;exact rfl) | (apply zo;exact rfl;exact rfl) | apply zn | (apply zc;exact rfl) | intro _)
   refine ih _ rfl _ _ ?_
   rw [hinv, hw2, w64s (by omega)]; rfl
  ·rintro n hc _ hinv
   rw [List.take_length] at hinv
   repeat' (first | (apply zt1;exact rfl;(with_reducible assumption)) | (apply zt0;exact rfl;(with_reducible assumption)) | (apply zt;exact rfl) | (apply zo;exact rfl;exact rfl) | apply zn | (apply zc;exact rfl) | intro _)
   exact fin rfl (outI (by rw [hinv, takenW, hw]; rfl))
theorem spec_TakenAll_eq (w : GWorld) (hl : w.bulk <= 4000000) : F_spec_TakenAll [.st (w.cs .n)] = some ⟨[.one (iT (takenW w))], []⟩ := by
 have hwo := spec_WorldOk_eq w hl
 have hfs := seats_f hl
 have hln : w.House.Seats.length <= 4000000 := seats_l hl
 cases hw : worldB w with
 | false =>
  rw [hw] at hwo
  have h1 : false = false := rfl
  (refine fun_ev rfl ?_; show Ev m_spec_TakenAll.code _ _ _)
  repeat' (first | (apply zy;exact rfl;exact rfl;(with_reducible assumption)) | (apply zm;exact rfl;exact rfl;(with_reducible assumption);exact rfl;exact rfl) | (apply ze;(iterate 5 exact rfl)) | (apply zf;(iterate 5 exact rfl)) | (apply zp;exact rfl;(with_reducible assumption);(iterate 3 exact rfl)) | (apply zk g_spec_WorldOk;exact rfl;exact rfl;exact (hwo);(iterate 3 exact rfl)) | (apply zt1;exact rfl;(with_reducible assumption)) | (apply zt0;exact rfl;(with_reducible assumption)) | (apply zt;exact rfl) | (apply zo;exact rfl;exact rfl) | apply zn | (apply zc;exact rfl) | exact rfl | intro _)
  refine zfor (GSeat.el .n) ([] : List GSeat) (fun i (_ : Unit) => [(1, .box ⟨0, 0, 0⟩ (w.cs .n)), (3, .x (iT 0)), (4, .x (iT i))]) (fun i _ => True) () trivial rfl ?_ ?_
  ·rintro i _ a hx _ _ _ _ _
   cases hx
  ·rintro _ _ _ _
   have h2 : (decide ((([] : List GSeat).length : Int) < (w.House.Seats.map (GSeat.el .n)).length) && false) = false := Bool.and_false _
   repeat' (first | (apply zy;exact rfl;exact rfl;(with_reducible assumption)) | (apply zm;exact rfl;exact rfl;(with_reducible assumption);exact rfl;exact rfl) | (apply ze;(iterate 5 exact rfl)) | (apply zf;(iterate 5 exact rfl)) | (apply zp;exact rfl;(with_reducible assumption);(iterate 3 exact rfl)) | (apply zk g_spec_WorldOk;exact rfl;exact rfl;exact (hwo);(iterate 3 exact rfl)) | (apply zt1;exact rfl;(with_reducible assumption)) | (apply zt0;exact rfl;(with_reducible assumption)) | (apply zt;exact rfl) | (apply zo;exact rfl;exact rfl) | apply zn | (apply zc;exact rfl) | exact rfl | intro _)
   exact fin rfl (outI (by rw [takenW, hw]; rfl))
 | true =>
  rw [hw] at hwo
  have h1 : true = true := rfl
  (refine fun_ev rfl ?_; show Ev m_spec_TakenAll.code _ _ _)
  repeat' (first | (apply zy;exact rfl;exact rfl;(with_reducible assumption)) | (apply zm;exact rfl;exact rfl;(with_reducible assumption);exact rfl;exact rfl) | (apply ze;(iterate 5 exact rfl)) | (apply zf;(iterate 5 exact rfl)) | (apply zp;exact rfl;(with_reducible assumption);(iterate 3 exact rfl)) | (apply zk g_spec_WorldOk;exact rfl;exact rfl;exact (hwo);(iterate 3 exact rfl)) | (apply zt1;exact rfl;(with_reducible assumption)) | (apply zt0;exact rfl;(with_reducible assumption)) | (apply zt;exact rfl) | (apply zo;exact rfl;exact rfl) | apply zn | (apply zc;exact rfl) | exact rfl | intro _)
  refine zfor (GSeat.el .n) w.House.Seats (fun i (n : Int) => [(1, .box ⟨0, 0, 0⟩ (w.cs .n)), (3, .x (iT n)), (4, .x (iT i))]) (fun i n => n = sumZ (fun s : GSeat => setSize s.Taken) (w.House.Seats.take i)) 0 rfl rfl ?_ ?_
  ·rintro i n a hx hlt hc _ hinv ih
   have hc2 := false_and_lt hc
   have htl : a.Taken.length <= 4194304 := seat_l (seat_in (world_in hl).1 hx)
   have hw2 := wsum hln hfs hx
   repeat' (first | (apply zy;exact rfl;exact rfl;(with_reducible assumption)) | (apply zm;exact rfl;exact rfl;(with_reducible assumption);exact rfl;exact rfl) | (apply ze;(iterate 5 exact rfl)) | (apply zf;(iterate 5 exact rfl)) | (apply zp;exact rfl;(with_reducible assumption);(iterate 3 exact rfl)) | (apply zi (GSeat.el .n a);exact rfl;exact rfl;exact Int.natCast_nonneg _;exact (map_at hx);exact rfl;exact rfl) | (apply zk g_spec_SetSize;exact rfl;exact rfl;exact (spec_SetSize_eq a.Taken htl);(iterate 3 exact rfl)) | (apply zk g_spec_WorldOk;exact rfl;exact rfl;exact (hwo);(iterate 3 exact rfl)) | (apply zt1;exact rfl;(with_reducible assumption)) | (apply zt0;exact rfl;(with_reducible assumption)) | (apply zt;exact rfl) | (apply zo;exact rfl;exact rfl) | apply zn | (apply zc;exact rfl) | exact rfl | intro _)
   refine ih _ rfl _ _ ?_
   rw [hinv, hw2, w64s (by omega)]; rfl
  ·rintro n hc _ hinv
   rw [List.take_length] at hinv
   have hc2 : (decide ((w.House.Seats.length : Int) < (w.House.Seats.map (GSeat.el .n)).length) && true) = false := by rw [hc]; rfl
   repeat' (first | (apply zy;exact rfl;exact rfl;(with_reducible assumption)) | (apply zm;exact rfl;exact rfl;(with_reducible assumption);exact rfl;exact rfl) | (apply ze;(iterate 5 exact rfl)) | (apply zf;(iterate 5 exact rfl)) | (apply zp;exact rfl;(with_reducible assumption);(iterate 3 exact rfl)) | (apply zk g_spec_WorldOk;exact rfl;exact rfl;exact (hwo);(iterate 3 exact rfl)) | (apply zt1;exact rfl;(with_reducible assumption)) | (apply zt0;exact rfl;(with_reducible assumption)) | (apply zt;exact rfl) | (apply zo;exact rfl;exact rfl) | apply zn | (apply zc;exact rfl) | exact rfl | intro _)
   exact fin rfl (outI (by rw [hinv, takenW, hw]; rfl))
end Go.Wr
namespace Go.Wr
set_option linter.unusedVariables false
set_option linter.unusedSimpArgs false
set_option linter.unnecessarySimpa false
set_option maxRecDepth 20000
theorem not_settled {w : GWorld} : (!worldB w || decide (((rowEnts w.House).length : Int) > 0)) = !(worldB w && decide ((rowEnts w.House).length = 0)) := by
 rw [show (0 : Int) = ((0 : Nat) : Int) from rfl, gt_not]
 have e : decide ((rowEnts w.House).length <= 0) = decide ((rowEnts w.House).length = 0) := by rw [decide_eq_decide]; omega
 rw [e]
 cases worldB w <;> simp
theorem impl_Settled_eq (w : GWorld) (hl : w.bulk <= 4000000) : F_impl_Settled [.st (w.cs .n)] = some ⟨[.one (.b (settledW w))], []⟩ := by
 obtain ⟨hh, hal, hnl, hab⟩ := world_in hl
 (refine fun_ev rfl ?_; show Ev m_impl_Settled.code _ _ _)
 repeat' (first | (apply zy;exact rfl;exact rfl;(with_reducible assumption)) | (apply zm;exact rfl;exact rfl;(with_reducible assumption);exact rfl;exact rfl) | (apply ze;(iterate 5 exact rfl)) | (apply zf;(iterate 5 exact rfl)) | (apply zp;exact rfl;(with_reducible assumption);(iterate 3 exact rfl)) | (apply zk g_impl_WorldOk;exact rfl;exact rfl;exact (impl_WorldOk_eq w hl);(iterate 3 exact rfl)) | (apply zk g_impl_Items;exact rfl;exact rfl;exact (impl_Items_eq w.House hh);(iterate 3 exact rfl)) | (apply zt1;exact rfl;(with_reducible assumption)) | (apply zt0;exact rfl;(with_reducible assumption)) | (apply zt;exact rfl) | (apply zo;exact rfl;exact rfl) | apply zn | (apply zc;exact rfl) | exact rfl | intro _)
 ·refine fin rfl (outB ?_)
  rename_i h
  rw [not_settled] at h
  rw [settledW, not_t h]; rfl
 ·rename_i h
  rw [not_settled] at h
  have h4 := not_f h
  have hw : worldB w = true := by simp only [Bool.and_eq_true] at h4; exact h4.1
  obtain ⟨h3, _, hag⟩ := world_agents hw
  rw [settledW, h4, Bool.true_and]
  refine zfor (GAgent.el .n) w.Agents (fun i (_ : Unit) => [(1, .box ⟨0, 0, 0⟩ (w.cs .n)), (15, .x (GAgent.ls .n w.Agents)), (16, .x (iT (w.Agents.map (GAgent.el .n)).length)), (17, .x (iT i))]) (fun i _ => (w.Agents.take i).all (fun a => setSize a.Taken == (a.Sealed.length : Int)) = true) () (by simp) rfl ?_ ?_
  ·rintro i _ a hx hlt hc _ hinv ih
   have htl := (agent_in (hab i a hx)).2.1
   have hsz := agent_size (hag i a hx).1
   repeat' (first | (apply zy;exact rfl;exact rfl;(with_reducible assumption)) | (apply zm;exact rfl;exact rfl;(with_reducible assumption);exact rfl;exact rfl) | (apply ze;(iterate 5 exact rfl)) | (apply zf;(iterate 5 exact rfl)) | (apply zp;exact rfl;(with_reducible assumption);(iterate 3 exact rfl)) | (apply zi (GAgent.el .n a);exact rfl;exact rfl;exact Int.natCast_nonneg _;exact (map_at hx);exact rfl;exact rfl) | (apply zk g_impl_SetSize;exact rfl;exact rfl;exact (impl_SetSize_eq a.Taken htl);(iterate 3 exact rfl)) | (apply zt1;exact rfl;(with_reducible assumption)) | (apply zt0;exact rfl;(with_reducible assumption)) | (apply zt;exact rfl) | (apply zo;exact rfl;exact rfl) | apply zn | (apply zc;exact rfl) | exact rfl | intro _)
   ·refine fin rfl (outB ?_)
    rename_i h5
    rw [List.length_map] at h5
    rw [not_all (p := fun a : GAgent => setSize a.Taken == (a.Sealed.length : Int)) hx]
    have := of_decide_eq_true h5
    rw [beq_eq_false_iff_ne]; omega
   ·rename_i h5
    rw [List.length_map] at h5
    refine ih () (take_all (p := fun a : GAgent => setSize a.Taken == (a.Sealed.length : Int)) hinv hx ?_) _ _ ?_
    ·have := of_decide_eq_false h5
     rw [beq_iff_eq]; omega
    ·rw [w64s (by omega)]; rfl
  ·rintro _ hc _ hinv
   rw [take_end hinv]
   repeat' (first | (apply zy;exact rfl;exact rfl;(with_reducible assumption)) | (apply zm;exact rfl;exact rfl;(with_reducible assumption);exact rfl;exact rfl) | (apply ze;(iterate 5 exact rfl)) | (apply zf;(iterate 5 exact rfl)) | (apply zp;exact rfl;(with_reducible assumption);(iterate 3 exact rfl)) | (apply zt1;exact rfl;(with_reducible assumption)) | (apply zt0;exact rfl;(with_reducible assumption)) | (apply zt;exact rfl) | (apply zo;exact rfl;exact rfl) | apply zn | (apply zc;exact rfl) | exact rfl | intro _)
   exact fin rfl rfl
theorem spec_Settled_eq (w : GWorld) (hl : w.bulk <= 4000000) : F_spec_Settled [.st (w.cs .n)] = some ⟨[.one (.b (settledW w))], []⟩ := by
 obtain ⟨hh, hal, hnl, hab⟩ := world_in hl
 (refine fun_ev rfl ?_; show Ev m_spec_Settled.code _ _ _)
 repeat' (first | (apply zy;exact rfl;exact rfl;(with_reducible assumption)) | (apply zm;exact rfl;exact rfl;(with_reducible assumption);exact rfl;exact rfl) | (apply ze;(iterate 5 exact rfl)) | (apply zf;(iterate 5 exact rfl)) | (apply zp;exact rfl;(with_reducible assumption);(iterate 3 exact rfl)) | (apply zk g_spec_WorldOk;exact rfl;exact rfl;exact (spec_WorldOk_eq w hl);(iterate 3 exact rfl)) | (apply zk g_spec_Items;exact rfl;exact rfl;exact (spec_Items_eq w.House hh);(iterate 3 exact rfl)) | (apply zt1;exact rfl;(with_reducible assumption)) | (apply zt0;exact rfl;(with_reducible assumption)) | (apply zt;exact rfl) | (apply zo;exact rfl;exact rfl) | apply zn | (apply zc;exact rfl) | exact rfl | intro _)
 ·refine fin rfl (outB ?_)
  rename_i h
  rw [not_settled] at h
  rw [settledW, not_t h]; rfl
 ·rename_i h
  rw [not_settled] at h
  have h4 := not_f h
  have hw : worldB w = true := by simp only [Bool.and_eq_true] at h4; exact h4.1
  obtain ⟨h3, _, hag⟩ := world_agents hw
  rw [settledW, h4, Bool.true_and]
  refine zfor (GAgent.el .n) w.Agents (fun i (_ : Unit) => [(1, .box ⟨0, 0, 0⟩ (w.cs .n)), (3, .x (iT i))]) (fun i _ => (w.Agents.take i).all (fun a => setSize a.Taken == (a.Sealed.length : Int)) = true) () (by simp) rfl ?_ ?_
  ·rintro i _ a hx hlt _ _ hinv ih
   have hc : decide ((i : Int) < 3) = true := by simp; omega
   have htl := (agent_in (hab i a hx)).2.1
   repeat' (first | (apply zy;exact rfl;exact rfl;(with_reducible assumption)) | (apply zm;exact rfl;exact rfl;(with_reducible assumption);exact rfl;exact rfl) | (apply ze;(iterate 5 exact rfl)) | (apply zf;(iterate 5 exact rfl)) | (apply zp;exact rfl;(with_reducible assumption);(iterate 3 exact rfl)) | (apply zi (GAgent.el .n a);exact rfl;exact rfl;exact Int.natCast_nonneg _;exact (map_at hx);exact rfl;exact rfl) | (apply zk g_spec_SetSize;exact rfl;exact rfl;exact (spec_SetSize_eq a.Taken htl);(iterate 3 exact rfl)) | (apply zt1;exact rfl;(with_reducible assumption)) | (apply zt0;exact rfl;(with_reducible assumption)) | (apply zt;exact rfl) | (apply zo;exact rfl;exact rfl) | apply zn | (apply zc;exact rfl) | exact rfl | intro _)
   ·refine fin rfl (outB ?_)
    rename_i h5
    rw [List.length_map, bne] at h5
    rw [not_all (p := fun a : GAgent => setSize a.Taken == (a.Sealed.length : Int)) hx (not_t h5)]
   ·rename_i h5
    rw [List.length_map, bne] at h5
    refine ih () (take_all (p := fun a : GAgent => setSize a.Taken == (a.Sealed.length : Int)) hinv hx (not_f h5)) _ _ ?_
    rw [w64s (by omega)]; rfl
  ·rintro _ _ _ hinv
   have hc : decide ((w.Agents.length : Int) < 3) = false := by rw [h3]; rfl
   rw [take_end hinv]
   repeat' (first | (apply zy;exact rfl;exact rfl;(with_reducible assumption)) | (apply zm;exact rfl;exact rfl;(with_reducible assumption);exact rfl;exact rfl) | (apply ze;(iterate 5 exact rfl)) | (apply zf;(iterate 5 exact rfl)) | (apply zp;exact rfl;(with_reducible assumption);(iterate 3 exact rfl)) | (apply zt1;exact rfl;(with_reducible assumption)) | (apply zt0;exact rfl;(with_reducible assumption)) | (apply zt;exact rfl) | (apply zo;exact rfl;exact rfl) | apply zn | (apply zc;exact rfl) | exact rfl | intro _)
   exact fin rfl rfl
def mostL (l : List GAgent) : Int := l.foldl (fun n a => max n (lackA a)) 0
theorem most_succ {l : List GAgent} {i : Nat} {a : GAgent} (h : l[i]? = some a) : mostL (l.take (i + 1)) = max (mostL (l.take i)) (lackA a) := by
 unfold mostL; rw [fold_succ (f := fun n a => max n (lackA a)) h]
theorem lack_bnd {a : GAgent} (h : a.ok = true) : 0 <= lackA a /\ lackA a <= 60 := by
 have h1 := agent_size h
 have h2 := setSize_nn a.Taken
 unfold lackA; omega
theorem most_bnd {l : List GAgent} (h : ∀ (i : Nat) a, l[i]? = some a -> a.ok = true) : ∀ i, 0 <= mostL (l.take i) /\ mostL (l.take i) <= 60
 | 0 => by simp [mostL]
 | i + 1 => by
  have h1 := most_bnd h i
  rcases Nat.lt_or_ge i l.length with hi | hi
  ·have hx := List.getElem?_eq_getElem hi
   rw [most_succ hx]
   have := lack_bnd (h i _ hx)
   omega
  ·rw [List.take_of_length_le (by omega)] at h1 ⊢; exact h1
theorem impl_Enough_eq (w : GWorld) (hl : w.bulk <= 4000000) : F_impl_Enough [.st (w.cs .n)] = some ⟨[.one (iT (enoughW w))], []⟩ := by
 obtain ⟨hh, hal, hnl, hab⟩ := world_in hl
 (refine fun_ev rfl ?_; show Ev m_impl_Enough.code _ _ _)
 repeat' (first | (apply zk g_impl_WorldOk;exact rfl;exact rfl;exact (impl_WorldOk_eq w hl);(iterate 3 exact rfl)) | (apply zt1;exact rfl;(with_reducible assumption)) | (apply zt0;exact rfl;(with_reducible assumption)) | (apply zt;exact rfl) | (apply zo;exact rfl;exact rfl) | apply zn | (apply zc;exact rfl) | intro _)
 ·refine fin rfl (outI ?_)
  rename_i h
  rw [enoughW, not_t h]; rfl
 ·rename_i h
  have hw := not_f h
  obtain ⟨h3, _, hag⟩ := world_agents hw
  have hm := most_bnd fun i a hx => (hag i a hx).1
  refine zfor (GAgent.el .n) w.Agents (fun i (n : Int) => [(1, .box ⟨0, 0, 0⟩ (w.cs .n)), (3, .x (iT n)), (10, .x (GAgent.ls .n w.Agents)), (11, .x (iT (w.Agents.map (GAgent.el .n)).length)), (12, .x (iT i))]) (fun i n => n = mostL (w.Agents.take i)) 0 rfl rfl ?_ ?_
  ·rintro i n a hx hlt hc _ hinv ih
   have htl := (agent_in (hab i a hx)).2.1
   have hlk := lack_bnd (hag i a hx).1
   have hw2 : IntKind.i64.wrap (((a.Sealed.map (GItem.el .n)).length : Int) - setSize a.Taken) = lackA a := by
    rw [List.length_map]; unfold lackA at hlk ⊢; rw [w64 (by omega)]
   have hmx : mostL (w.Agents.take (i + 1)) = if lackA a > n then lackA a else n := by
    rw [most_succ hx, <- hinv]; split <;> omega
   repeat' (first | (apply zi (GAgent.el .n a);exact rfl;exact rfl;exact Int.natCast_nonneg _;exact (map_at hx);exact rfl;exact rfl) | (apply zk g_impl_SetSize;exact rfl;exact rfl;exact (impl_SetSize_eq a.Taken htl);(iterate 3 exact rfl)) | (apply zt1;exact rfl;(with_reducible assumption)) | (apply zt0;exact rfl;(with_reducible assumption)) | (apply zt;exact rfl) | (apply zo;exact rfl;exact rfl) | apply zn | (apply zc;exact rfl) | intro _)
   refine ih _ rfl _ _ ?_
   rw [hw2, hmx, w64s (by omega)]; rfl
  ·rintro n hc _ hinv
   have hb := hm w.Agents.length
   rw [List.take_length] at hinv hb
   repeat' (first | (apply zt1;exact rfl;(with_reducible assumption)) | (apply zt0;exact rfl;(with_reducible assumption)) | (apply zt;exact rfl) | (apply zo;exact rfl;exact rfl) | apply zn | (apply zc;exact rfl) | intro _)
   refine fin rfl (outI ?_)
   rw [enoughW, hw, if_pos rfl, hinv, w64 (n := 2 * mostL w.Agents) (by omega), w64 (by omega)]; rfl
theorem spec_Enough_eq (w : GWorld) (hl : w.bulk <= 4000000) : F_spec_Enough [.st (w.cs .n)] = some ⟨[.one (iT (enoughW w))], []⟩ := by
 obtain ⟨hh, hal, hnl, hab⟩ := world_in hl
 (refine fun_ev rfl ?_; show Ev m_spec_Enough.code _ _ _)
 repeat' (first | (apply zk g_spec_WorldOk;exact rfl;exact rfl;exact (spec_WorldOk_eq w hl);(iterate 3 exact rfl)) | (apply zt1;exact rfl;(with_reducible assumption)) | (apply zt0;exact rfl;(with_reducible assumption)) | (apply zt;exact rfl) | (apply zo;exact rfl;exact rfl) | apply zn | (apply zc;exact rfl) | intro _)
 ·refine fin rfl (outI ?_)
  rename_i h
  rw [enoughW, not_t h]; rfl
 ·rename_i h
  have hw := not_f h
  obtain ⟨h3, _, hag⟩ := world_agents hw
  have hm := most_bnd fun i a hx => (hag i a hx).1
  refine zfor (GAgent.el .n) w.Agents (fun i (n : Int) => [(1, .box ⟨0, 0, 0⟩ (w.cs .n)), (3, .x (iT n)), (4, .x (iT i))]) (fun i n => n = mostL (w.Agents.take i)) 0 rfl rfl ?_ ?_
  ·rintro i n a hx hlt _ _ hinv ih
   have hc : decide ((i : Int) < 3) = true := by simp; omega
   have htl := (agent_in (hab i a hx)).2.1
   have hlk := lack_bnd (hag i a hx).1
   have hw2 : IntKind.i64.wrap (((a.Sealed.map (GItem.el .n)).length : Int) - setSize a.Taken) = lackA a := by
    rw [List.length_map]; unfold lackA at hlk ⊢; rw [w64 (by omega)]
   repeat' (first | (apply zi (GAgent.el .n a);exact rfl;exact rfl;exact Int.natCast_nonneg _;exact (map_at hx);exact rfl;exact rfl) | (apply zk g_spec_SetSize;exact rfl;exact rfl;exact (spec_SetSize_eq a.Taken htl);(iterate 3 exact rfl)) | (apply zk g_spec_l1Max;exact rfl;exact rfl;exact (spec_l1Max_eq _ _);(iterate 3 exact rfl)) | (apply zt1;exact rfl;(with_reducible assumption)) | (apply zt0;exact rfl;(with_reducible assumption)) | (apply zt;exact rfl) | (apply zo;exact rfl;exact rfl) | apply zn | (apply zc;exact rfl) | intro _)
   refine ih _ rfl _ _ ?_
   rw [hw2, most_succ hx, <- hinv, w64s (by omega)]; rfl
  ·rintro n _ _ hinv
   have hc : decide ((w.Agents.length : Int) < 3) = false := by rw [h3]; rfl
   have hb := hm w.Agents.length
   rw [List.take_length] at hinv hb
   repeat' (first | (apply zt1;exact rfl;(with_reducible assumption)) | (apply zt0;exact rfl;(with_reducible assumption)) | (apply zt;exact rfl) | (apply zo;exact rfl;exact rfl) | apply zn | (apply zc;exact rfl) | intro _)
   refine fin rfl (outI ?_)
   rw [enoughW, hw, if_pos rfl, hinv, w64 (n := 2 * mostL w.Agents) (by omega), w64 (by omega)]; rfl
theorem owed_w {s : GSeat} (h : (inB s.Granted 0 60 && inB s.Merged 0 60) = true) : IntKind.i64.wrap (s.Granted - s.Merged) = s.Granted - s.Merged := by
 simp only [inB, Bool.and_eq_true, decide_eq_true_eq] at h
 exact w64 (by omega)
theorem not_owed {s : GSeat} : (!inB s.Granted 0 60 || !inB s.Merged 0 60) = !(inB s.Granted 0 60 && inB s.Merged 0 60) := by cases inB s.Granted 0 60 <;> simp
theorem impl_Owed_eq (s : GSeat) : F_impl_Owed [.st (s.cs .n)] = some ⟨[.one (iT (owedS s))], []⟩ := by
 (refine fun_ev rfl ?_; show Ev m_impl_Owed.code _ _ _)
 repeat' (first | (apply zy;exact rfl;exact rfl;(with_reducible assumption)) | (apply zm;exact rfl;exact rfl;(with_reducible assumption);exact rfl;exact rfl) | (apply ze;(iterate 5 exact rfl)) | (apply zf;(iterate 5 exact rfl)) | (apply zp;exact rfl;(with_reducible assumption);(iterate 3 exact rfl)) | (apply zk g_impl_within;exact rfl;exact rfl;exact (impl_within_eq _ _ _);(iterate 3 exact rfl)) | (apply zt1;exact rfl;(with_reducible assumption)) | (apply zt0;exact rfl;(with_reducible assumption)) | (apply zt;exact rfl) | (apply zo;exact rfl;exact rfl) | apply zn | (apply zc;exact rfl) | exact rfl | intro _)
 ·refine fin rfl (outI ?_)
  rename_i h
  rw [not_owed] at h
  rw [owedS, if_neg (by rw [not_t h]; simp)]
 ·rename_i h
  rw [not_owed] at h
  have hx : (if s.Granted - s.Merged > 0 then s.Granted - s.Merged else 0) = owedS s := by rw [owedS, if_pos (not_f h)]; split <;> omega
  refine fin rfl (outI ?_)
  rw [owed_w (not_f h)]
  exact hx
theorem spec_Owed_eq (s : GSeat) : F_spec_Owed [.st (s.cs .n)] = some ⟨[.one (iT (owedS s))], []⟩ := by
 (refine fun_ev rfl ?_; show Ev m_spec_Owed.code _ _ _)
 repeat' (first | (apply zy;exact rfl;exact rfl;(with_reducible assumption)) | (apply zm;exact rfl;exact rfl;(with_reducible assumption);exact rfl;exact rfl) | (apply ze;(iterate 5 exact rfl)) | (apply zf;(iterate 5 exact rfl)) | (apply zp;exact rfl;(with_reducible assumption);(iterate 3 exact rfl)) | (apply zk g_spec_l1In;exact rfl;exact rfl;exact (spec_l1In_eq _ _ _);(iterate 3 exact rfl)) | (apply zk g_spec_l1Max;exact rfl;exact rfl;exact (spec_l1Max_eq _ _);(iterate 3 exact rfl)) | (apply zt1;exact rfl;(with_reducible assumption)) | (apply zt0;exact rfl;(with_reducible assumption)) | (apply zt;exact rfl) | (apply zo;exact rfl;exact rfl) | apply zn | (apply zc;exact rfl) | exact rfl | intro _)
 ·refine fin rfl (outI ?_)
  rename_i h
  rw [not_owed] at h
  rw [owedS, if_neg (by rw [not_t h]; simp)]
 ·rename_i h
  rw [not_owed] at h
  refine fin rfl (outI ?_)
  rw [owed_w (not_f h), owedS, if_pos (not_f h)]
theorem creditAt_at {w : GWorld} {i : Nat} {a : GAgent} {s : GSeat} {rs : List GRow} (h1 : w.Agents[i]? = some a) (h2 : w.House.Seats[i]? = some s) (h3 : w.House.Rows[i]? = some rs) :
  creditAt w i = (!decide (owedS s > w.House.Conf.Per) && !decide (rowsN rs > setSize s.Taken - s.Merged) && !decide (a.Epoch > s.Epoch) && !(a.Epoch == s.Epoch && (decide (a.Granted > w.House.Conf.Per + s.Merged) || !w.House.Closed && decide (a.Granted > s.Granted)))) := by simp [creditAt, h1, h2, h3]
theorem house_conf {h : GHouse} (hh : houseS h = true) : 1 <= h.Conf.Per /\ h.Conf.Per <= 8 := by
 simp only [houseS, GConf.ok, Bool.and_eq_true, inB, decide_eq_true_eq] at hh
 omega
theorem seat_b {s : GSeat} {per : Int} (h : s.ok per = true) (hl : s.bulk <= 4000000) : 0 <= s.Merged /\ s.Merged <= setSize s.Taken /\ setSize s.Taken <= 41943040000 := by
 simp only [GSeat.ok, Bool.and_eq_true, inB, decide_eq_true_eq] at h
 have := setSize_bnd (seat_l hl)
 omega
theorem rows_f {h : GHouse} (hl : h.bulk <= 4000000) {i : Nat} {rs : List GRow} (hx : h.Rows[i]? = some rs) : rs.length <= 4000000 /\ ∀ r ∈ rs, 0 <= (r.Lst.length : Int) /\ (r.Lst.length : Int) <= 41943040000 := by
 have h1 := bulks_mem (f := bulks GRow.bulk) hx
 have h2 := bulks_len GRow.bulk rs
 unfold GHouse.bulk at hl
 refine ⟨by omega, fun r hr => ?_⟩
 obtain ⟨k, hk⟩ := List.mem_iff_getElem?.1 hr
 have h3 := bulks_mem (f := GRow.bulk) hk
 have h4 : r.Lst.length <= r.bulk := bulks_len GEntry.bulk r.Lst
 omega
end Go.Wr
namespace Go.Wr
set_option linter.unusedVariables false
set_option linter.unusedSimpArgs false
set_option linter.unnecessarySimpa false
set_option maxRecDepth 20000
theorem impl_JudgeCredit_eq (w : GWorld) (hl : w.bulk <= 4000000) : F_impl_JudgeCredit [.st (w.cs .n)] = some ⟨[.one (.b (creditW w))], []⟩ := by
 obtain ⟨hh, hal, hnl, hab⟩ := world_in hl
 (refine fun_ev rfl ?_; show Ev m_impl_JudgeCredit.code _ _ _)
 repeat' (first | (apply zy;exact rfl;exact rfl;(with_reducible assumption)) | (apply zm;exact rfl;exact rfl;(with_reducible assumption);exact rfl;exact rfl) | (apply ze;(iterate 5 exact rfl)) | (apply zf;(iterate 5 exact rfl)) | (apply zp;exact rfl;(with_reducible assumption);(iterate 3 exact rfl)) | (apply zk g_impl_WorldOk;exact rfl;exact rfl;exact (impl_WorldOk_eq w hl);(iterate 3 exact rfl)) | (apply zt1;exact rfl;(with_reducible assumption)) | (apply zt0;exact rfl;(with_reducible assumption)) | (apply zt;exact rfl) | (apply zo;exact rfl;exact rfl) | apply zn | (apply zc;exact rfl) | exact rfl | intro _)
 ·refine fin rfl (outB ?_)
  rename_i h
  rw [creditW, not_t h]; rfl
 ·rename_i h
  have hw := not_f h
  obtain ⟨h3, hhs, hag⟩ := world_agents hw
  obtain ⟨hs3, hr3, hr2, hso⟩ := house_seats hhs
  have hcf := house_conf hhs
  rw [creditW, hw, Bool.true_and]
  refine zfor (GSeat.el .n) w.House.Seats (fun i (_ : Unit) => [(1, .box ⟨0, 0, 0⟩ (w.cs .n)), (3, .x (iT w.House.Conf.Per)), (19, .x (GSeat.ls .n w.House.Seats)), (20, .x (iT (w.House.Seats.map (GSeat.el .n)).length)), (21, .x (iT i))]) (fun i _ => ∀ j, j < i -> creditAt w j = true) () (by omega) rfl ?_ ?_
  ·rintro i _ s hx hlt hc _ hinv ih
   have hxa := List.getElem?_eq_getElem (show i < w.Agents.length by omega)
   generalize w.Agents[i]'(by omega) = a at hxa
   have hxr := List.getElem?_eq_getElem (show i < w.House.Rows.length by omega)
   generalize w.House.Rows[i]'(by omega) = rs at hxr
   have hbs := seat_in hh hx
   have htl := seat_l hbs
   have hsb := seat_b (hso s (List.mem_of_getElem? hx)) hbs
   obtain ⟨hrl, hrf⟩ := rows_f hh hxr
   have hw1 : IntKind.i64.wrap (setSize s.Taken - s.Merged) = setSize s.Taken - s.Merged := w64 (by omega)
   have hw2 : IntKind.i64.wrap (w.House.Conf.Per + s.Merged) = w.House.Conf.Per + s.Merged := w64 (by omega)
   have hcr := creditAt_at hxa hx hxr
   repeat' (first | (apply zy;exact rfl;exact rfl;(with_reducible assumption)) | (apply zm;exact rfl;exact rfl;(with_reducible assumption);exact rfl;exact rfl) | (apply ze;(iterate 5 exact rfl)) | (apply zf;(iterate 5 exact rfl)) | (apply zp;exact rfl;(with_reducible assumption);(iterate 3 exact rfl)) | (apply zi (GSeat.el .n s);exact rfl;exact rfl;exact Int.natCast_nonneg _;exact (map_at hx);exact rfl;exact rfl) | (apply zi (GAgent.el .n a);exact rfl;exact rfl;exact Int.natCast_nonneg _;exact (map_at hxa);exact rfl;exact rfl) | (apply zi (GRow.ls .n rs);exact rfl;exact rfl;exact Int.natCast_nonneg _;exact (map_at hxr);exact rfl;exact rfl) | (apply zt1;exact rfl;(with_reducible assumption)) | (apply zt0;exact rfl;(with_reducible assumption)) | (apply zt;exact rfl) | (apply zo;exact rfl;exact rfl) | apply zn | (apply zc;exact rfl) | exact rfl | intro _)
   refine zfor (GRow.el .n) rs (fun k (n : Int) => [(1, .box ⟨0, 0, 0⟩ (w.cs .n)), (3, .x (iT w.House.Conf.Per)), (5, .box ⟨0, 0, 0⟩ (s.cs .n)), (6, .box ⟨0, 0, 0⟩ (a.cs .n)), (7, .x (iT n)), (19, .x (GSeat.ls .n w.House.Seats)), (20, .x (iT (w.House.Seats.map (GSeat.el .n)).length)), (21, .x (iT i)), (36, .x (GRow.ls .n rs)), (37, .x (iT (rs.map (GRow.el .n)).length)), (38, .x (iT k))]) (fun k n => n = sumZ (fun r : GRow => (r.Lst.length : Int)) (rs.take k)) 0 rfl rfl ?_ ?_
   ·rintro k n r hy hlt2 hc2 _ hinv2 ih2
    have hw3 := wsum hrl hrf hy
    repeat' (first | (apply zy;exact rfl;exact rfl;(with_reducible assumption)) | (apply zm;exact rfl;exact rfl;(with_reducible assumption);exact rfl;exact rfl) | (apply ze;(iterate 5 exact rfl)) | (apply zf;(iterate 5 exact rfl)) | (apply zp;exact rfl;(with_reducible assumption);(iterate 3 exact rfl)) | (apply zi (GRow.el .n r);exact rfl;exact rfl;exact Int.natCast_nonneg _;exact (map_at hy);exact rfl;exact rfl) | (apply zt1;exact rfl;(with_reducible assumption)) | (apply zt0;exact rfl;(with_reducible assumption)) | (apply zt;exact rfl) | (apply zo;exact rfl;exact rfl) | apply zn | (apply zc;exact rfl) | exact rfl | intro _)
    refine ih2 _ rfl _ _ ?_
    rw [hinv2, (show ((r.Lst.map (GEntry.el .n)).length : Int) = r.Lst.length by rw [List.length_map]), hw3, w64s (by omega)]; rfl
   ·rintro n hc2 _ hinv2
    rw [List.take_length] at hinv2
    have hn : n = rowsN rs := hinv2
    repeat' (first | (apply zy;exact rfl;exact rfl;(with_reducible assumption)) | (apply zm;exact rfl;exact rfl;(with_reducible assumption);exact rfl;exact rfl) | (apply ze;(iterate 5 exact rfl)) | (apply zf;(iterate 5 exact rfl)) | (apply zp;exact rfl;(with_reducible assumption);(iterate 3 exact rfl)) | (apply zk g_impl_Owed;exact rfl;exact rfl;exact (impl_Owed_eq s);(iterate 3 exact rfl)) | (apply zk g_impl_SetSize;exact rfl;exact rfl;exact (impl_SetSize_eq s.Taken htl);(iterate 3 exact rfl)) | (apply zt1;exact rfl;(with_reducible assumption)) | (apply zt0;exact rfl;(with_reducible assumption)) | (apply zt;exact rfl) | (apply zo;exact rfl;exact rfl) | apply zn | (apply zc;exact rfl) | exact rfl | intro _)
    ·refine fin rfl (outB ?_)
     rename_i h5
     rw [hw1, hn] at h5
     have h6 : creditAt w i = false := by
      rw [hcr]; revert h5
      cases decide (owedS s > w.House.Conf.Per) <;> cases decide (rowsN rs > setSize s.Taken - s.Merged) <;> cases decide (a.Epoch > s.Epoch) <;> simp
     rw [allIx_not (hs3 ▸ hlt) h6]
    ·refine fin rfl (outB ?_)
     rename_i h5 h7
     rw [hw2] at h7
     have h6 : creditAt w i = false := by rw [hcr, h7]; simp
     rw [allIx_not (hs3 ▸ hlt) h6]
    ·rename_i h5 h7
     rw [hw1, hn] at h5
     rw [hw2] at h7
     have h6 : creditAt w i = true := by
      rw [hcr, h7]; revert h5
      cases decide (owedS s > w.House.Conf.Per) <;> cases decide (rowsN rs > setSize s.Taken - s.Merged) <;> cases decide (a.Epoch > s.Epoch) <;> simp
     refine ih () (upto_succ hinv h6) _ _ ?_
     rw [w64s (by omega)]; rfl
  ·rintro _ hc _ hinv
   rw [allIx_of (hs3 ▸ hinv)]
   repeat' (first | (apply zy;exact rfl;exact rfl;(with_reducible assumption)) | (apply zm;exact rfl;exact rfl;(with_reducible assumption);exact rfl;exact rfl) | (apply ze;(iterate 5 exact rfl)) | (apply zf;(iterate 5 exact rfl)) | (apply zp;exact rfl;(with_reducible assumption);(iterate 3 exact rfl)) | (apply zt1;exact rfl;(with_reducible assumption)) | (apply zt0;exact rfl;(with_reducible assumption)) | (apply zt;exact rfl) | (apply zo;exact rfl;exact rfl) | apply zn | (apply zc;exact rfl) | exact rfl | intro _)
   exact fin rfl rfl
theorem spec_JudgeCredit_eq (w : GWorld) (hl : w.bulk <= 4000000) : F_spec_JudgeCredit [.st (w.cs .n)] = some ⟨[.one (.b (creditW w))], []⟩ := by
 obtain ⟨hh, hal, hnl, hab⟩ := world_in hl
 (refine fun_ev rfl ?_; show Ev m_spec_JudgeCredit.code _ _ _)
 repeat' (first | (apply zy;exact rfl;exact rfl;(with_reducible assumption)) | (apply zm;exact rfl;exact rfl;(with_reducible assumption);exact rfl;exact rfl) | (apply ze;(iterate 5 exact rfl)) | (apply zf;(iterate 5 exact rfl)) | (apply zp;exact rfl;(with_reducible assumption);(iterate 3 exact rfl)) | (apply zk g_spec_WorldOk;exact rfl;exact rfl;exact (spec_WorldOk_eq w hl);(iterate 3 exact rfl)) | (apply zt1;exact rfl;(with_reducible assumption)) | (apply zt0;exact rfl;(with_reducible assumption)) | (apply zt;exact rfl) | (apply zo;exact rfl;exact rfl) | apply zn | (apply zc;exact rfl) | exact rfl | intro _)
 ·refine fin rfl (outB ?_)
  rename_i h
  rw [creditW, not_t h]; rfl
 ·rename_i h
  have hw := not_f h
  obtain ⟨h3, hhs, hag⟩ := world_agents hw
  obtain ⟨hs3, hr3, hr2, hso⟩ := house_seats hhs
  have hcf := house_conf hhs
  rw [creditW, hw, Bool.true_and]
  refine zfor (GSeat.el .n) w.House.Seats (fun i (_ : Unit) => [(1, .box ⟨0, 0, 0⟩ (w.cs .n)), (3, .x (iT i))]) (fun i _ => ∀ j, j < i -> creditAt w j = true) () (by omega) rfl ?_ ?_
  ·rintro i _ s hx hlt _ _ hinv ih
   have hc : decide ((i : Int) < 3) = true := by simp; omega
   have hxa := List.getElem?_eq_getElem (show i < w.Agents.length by omega)
   generalize w.Agents[i]'(by omega) = a at hxa
   have hxr := List.getElem?_eq_getElem (show i < w.House.Rows.length by omega)
   generalize w.House.Rows[i]'(by omega) = rs at hxr
   have hrs2 := hr2 rs (List.mem_of_getElem? hxr)
   have hbs := seat_in hh hx
   have htl := seat_l hbs
   have hsb := seat_b (hso s (List.mem_of_getElem? hx)) hbs
   obtain ⟨hrl, hrf⟩ := rows_f hh hxr
   have hw1 : IntKind.i64.wrap (setSize s.Taken - s.Merged) = setSize s.Taken - s.Merged := w64 (by omega)
   have hw2 : IntKind.i64.wrap (s.Merged + w.House.Conf.Per) = w.House.Conf.Per + s.Merged := by rw [w64 (by omega)]; omega
   have hcr := creditAt_at hxa hx hxr
   repeat' (first | (apply zy;exact rfl;exact rfl;(with_reducible assumption)) | (apply zm;exact rfl;exact rfl;(with_reducible assumption);exact rfl;exact rfl) | (apply ze;(iterate 5 exact rfl)) | (apply zf;(iterate 5 exact rfl)) | (apply zp;exact rfl;(with_reducible assumption);(iterate 3 exact rfl)) | (apply zi (GSeat.el .n s);exact rfl;exact rfl;exact Int.natCast_nonneg _;exact (map_at hx);exact rfl;exact rfl) | (apply zt1;exact rfl;(with_reducible assumption)) | (apply zt0;exact rfl;(with_reducible assumption)) | (apply zt;exact rfl) | (apply zo;exact rfl;exact rfl) | apply zn | (apply zc;exact rfl) | exact rfl | intro _)
   refine zfor (GRow.el .n) rs (fun k (n : Int) => [(1, .box ⟨0, 0, 0⟩ (w.cs .n)), (3, .x (iT i)), (4, .box ⟨0, 0, 0⟩ (s.cs .n)), (5, .x (iT n)), (6, .x (iT k))]) (fun k n => n = sumZ (fun r : GRow => (r.Lst.length : Int)) (rs.take k)) 0 rfl rfl ?_ ?_
   ·rintro k n r hy hlt2 _ _ hinv2 ih2
    have hc2 : decide ((k : Int) < 2) = true := by simp; omega
    have hw3 := wsum hrl hrf hy
    repeat' (first | (apply zy;exact rfl;exact rfl;(with_reducible assumption)) | (apply zm;exact rfl;exact rfl;(with_reducible assumption);exact rfl;exact rfl) | (apply ze;(iterate 5 exact rfl)) | (apply zf;(iterate 5 exact rfl)) | (apply zp;exact rfl;(with_reducible assumption);(iterate 3 exact rfl)) | (apply zi (GRow.ls .n rs);exact rfl;exact rfl;exact Int.natCast_nonneg _;exact (map_at hxr);exact rfl;exact rfl) | (apply zi (GRow.el .n r);exact rfl;exact rfl;exact Int.natCast_nonneg _;exact (map_at hy);exact rfl;exact rfl) | (apply zt1;exact rfl;(with_reducible assumption)) | (apply zt0;exact rfl;(with_reducible assumption)) | (apply zt;exact rfl) | (apply zo;exact rfl;exact rfl) | apply zn | (apply zc;exact rfl) | exact rfl | intro _)
    refine ih2 _ rfl _ _ ?_
    rw [hinv2, (show ((r.Lst.map (GEntry.el .n)).length : Int) = r.Lst.length by rw [List.length_map]), hw3, w64s (by omega)]; rfl
   ·rintro n _ _ hinv2
    have hc2 : decide ((rs.length : Int) < 2) = false := by simp; omega
    rw [List.take_length] at hinv2
    have hn : n = rowsN rs := hinv2
    repeat' (first | (apply zy;exact rfl;exact rfl;(with_reducible assumption)) | (apply zm;exact rfl;exact rfl;(with_reducible assumption);exact rfl;exact rfl) | (apply ze;(iterate 5 exact rfl)) | (apply zf;(iterate 5 exact rfl)) | (apply zp;exact rfl;(with_reducible assumption);(iterate 3 exact rfl)) | (apply zk g_spec_Owed;exact rfl;exact rfl;exact (spec_Owed_eq s);(iterate 3 exact rfl)) | (apply zk g_spec_SetSize;exact rfl;exact rfl;exact (spec_SetSize_eq s.Taken htl);(iterate 3 exact rfl)) | (apply zi (GAgent.el .n a);exact rfl;exact rfl;exact Int.natCast_nonneg _;exact (map_at hxa);exact rfl;exact rfl) | (apply zt1;exact rfl;(with_reducible assumption)) | (apply zt0;exact rfl;(with_reducible assumption)) | (apply zt;exact rfl) | (apply zo;exact rfl;exact rfl) | apply zn | (apply zc;exact rfl) | exact rfl | intro _)
    ·refine fin rfl (outB ?_)
     rename_i h5
     rw [hw1, hn] at h5
     have h6 : creditAt w i = false := by
      rw [hcr]; revert h5
      cases decide (owedS s > w.House.Conf.Per) <;> cases decide (rowsN rs > setSize s.Taken - s.Merged) <;> simp
     rw [allIx_not (hs3 ▸ hlt) h6]
    ·refine fin rfl (outB ?_)
     rename_i h5 h7
     rw [hw2] at h7
     have h6 : creditAt w i = false := by
      rw [hcr]; revert h7
      generalize (a.Epoch == s.Epoch && (decide (a.Granted > w.House.Conf.Per + s.Merged) || !w.House.Closed && decide (a.Granted > s.Granted))) = c
      cases decide (a.Epoch > s.Epoch) <;> cases c <;> simp
     rw [allIx_not (hs3 ▸ hlt) h6]
    ·rename_i h5 h7
     rw [hw1, hn] at h5
     rw [hw2] at h7
     have h6 : creditAt w i = true := by
      rw [hcr]; revert h5 h7
      generalize (a.Epoch == s.Epoch && (decide (a.Granted > w.House.Conf.Per + s.Merged) || !w.House.Closed && decide (a.Granted > s.Granted))) = c
      cases decide (owedS s > w.House.Conf.Per) <;> cases decide (rowsN rs > setSize s.Taken - s.Merged) <;> cases decide (a.Epoch > s.Epoch) <;> cases c <;> simp
     refine ih () (upto_succ hinv h6) _ _ ?_
     rw [w64s (by omega)]; rfl
  ·rintro _ _ _ hinv
   have hc : decide ((w.House.Seats.length : Int) < 3) = false := by rw [hs3]; rfl
   rw [allIx_of (hs3 ▸ hinv)]
   repeat' (first | (apply zy;exact rfl;exact rfl;(with_reducible assumption)) | (apply zm;exact rfl;exact rfl;(with_reducible assumption);exact rfl;exact rfl) | (apply ze;(iterate 5 exact rfl)) | (apply zf;(iterate 5 exact rfl)) | (apply zp;exact rfl;(with_reducible assumption);(iterate 3 exact rfl)) | (apply zt1;exact rfl;(with_reducible assumption)) | (apply zt0;exact rfl;(with_reducible assumption)) | (apply zt;exact rfl) | (apply zo;exact rfl;exact rfl) | apply zn | (apply zc;exact rfl) | exact rfl | intro _)
   exact fin rfl rfl
end Go.Wr
namespace Go.Wr
set_option linter.unusedVariables false
set_option linter.unusedSimpArgs false
set_option linter.unnecessarySimpa false
set_option maxRecDepth 20000
theorem laws_FnExactTakenAll_eq (a : GWorld) (ha : a.fit) : F_laws_FnExactTakenAll [.st (a.cs .n)] = some ⟨[.one (.b true)], []⟩ := by
 have r0 : Rng 1048576 := ⟨by omega, by omega⟩
 have s1 := laws_szWorld_eq a 1048576 r0 ha
 cases h1 : decide (left 1048576 a.bulk < 0) with
 | true =>
  (refine fun_ev rfl ?_; show Ev m_laws_FnExactTakenAll.code _ _ _)
  repeat' (first | (apply zk g_laws_szWorld;exact rfl;simp only [List.map,fzl];exact rfl;exact (s1);exact rfl;exact rfl;exact rfl) | (apply zt1;exact rfl;(with_reducible assumption)) | (apply zt0;exact rfl;(with_reducible assumption)) | (apply zt;exact rfl) | (apply zo;exact rfl;exact rfl) | apply zn | (apply zc;exact rfl) | intro _)
  exact fin rfl rfl
 | false =>
  have o1 := left_ok r0 h1
  have la : a.bulk <= 1048576 := by omega
  have lb : a.bulk <= 4000000 := by omega
  (refine fun_ev rfl ?_; show Ev m_laws_FnExactTakenAll.code _ _ _)
  repeat' (first | (apply zk g_laws_szWorld;exact rfl;simp only [List.map,fzl];exact rfl;exact (s1);exact rfl;exact rfl;exact rfl) | (apply zk g_laws_toWorld;exact rfl;simp only [List.map,fzl];exact rfl;exact (laws_toWorld_eq a la);exact rfl;exact rfl;exact rfl) | (apply zk g_spec_TakenAll;exact rfl;simp only [List.map,fzl];exact rfl;exact (spec_TakenAll_eq a lb);exact rfl;exact rfl;exact rfl) | (apply zk g_impl_TakenAll;exact rfl;simp only [List.map,fzl];exact rfl;exact (impl_TakenAll_eq a lb);exact rfl;exact rfl;exact rfl) | (apply zk g_laws_eqWorld;exact rfl;simp only [List.map,fzl];exact rfl;exact (laws_eqWorld_eq a a la);exact rfl;exact rfl;exact rfl) | (apply zt1;exact rfl;(with_reducible assumption)) | (apply zt0;exact rfl;(with_reducible assumption)) | (apply zt;exact rfl) | (apply zo;exact rfl;exact rfl) | apply zn | (apply zc;exact rfl) | intro _)
  all_goals first | (rename_i h; simp at h; done) | (exact fin rfl rfl)
end Go.Wr
namespace Go.Wr
set_option linter.unusedVariables false
set_option linter.unusedSimpArgs false
set_option linter.unnecessarySimpa false
set_option maxRecDepth 20000
theorem laws_FnExactSettled_eq (a : GWorld) (ha : a.fit) : F_laws_FnExactSettled [.st (a.cs .n)] = some ⟨[.one (.b true)], []⟩ := by
 have r0 : Rng 1048576 := ⟨by omega, by omega⟩
 have s1 := laws_szWorld_eq a 1048576 r0 ha
 cases h1 : decide (left 1048576 a.bulk < 0) with
 | true =>
  (refine fun_ev rfl ?_; show Ev m_laws_FnExactSettled.code _ _ _)
  repeat' (first | (apply zk g_laws_szWorld;exact rfl;simp only [List.map,fzl];exact rfl;exact (s1);exact rfl;exact rfl;exact rfl) | (apply zt1;exact rfl;(with_reducible assumption)) | (apply zt0;exact rfl;(with_reducible assumption)) | (apply zt;exact rfl) | (apply zo;exact rfl;exact rfl) | apply zn | (apply zc;exact rfl) | intro _)
  exact fin rfl rfl
 | false =>
  have o1 := left_ok r0 h1
  have la : a.bulk <= 1048576 := by omega
  have lb : a.bulk <= 4000000 := by omega
  (refine fun_ev rfl ?_; show Ev m_laws_FnExactSettled.code _ _ _)
  repeat' (first | (apply zk g_laws_szWorld;exact rfl;simp only [List.map,fzl];exact rfl;exact (s1);exact rfl;exact rfl;exact rfl) | (apply zk g_laws_toWorld;exact rfl;simp only [List.map,fzl];exact rfl;exact (laws_toWorld_eq a la);exact rfl;exact rfl;exact rfl) | (apply zk g_spec_Settled;exact rfl;simp only [List.map,fzl];exact rfl;exact (spec_Settled_eq a lb);exact rfl;exact rfl;exact rfl) | (apply zk g_impl_Settled;exact rfl;simp only [List.map,fzl];exact rfl;exact (impl_Settled_eq a lb);exact rfl;exact rfl;exact rfl) | (apply zk g_laws_eqWorld;exact rfl;simp only [List.map,fzl];exact rfl;exact (laws_eqWorld_eq a a la);exact rfl;exact rfl;exact rfl) | (apply zt1;exact rfl;(with_reducible assumption)) | (apply zt0;exact rfl;(with_reducible assumption)) | (apply zt;exact rfl) | (apply zo;exact rfl;exact rfl) | apply zn | (apply zc;exact rfl) | intro _)
  all_goals first | (rename_i h; simp at h; done) | (exact fin rfl rfl)
theorem laws_FnExactEnough_eq (a : GWorld) (ha : a.fit) : F_laws_FnExactEnough [.st (a.cs .n)] = some ⟨[.one (.b true)], []⟩ := by
 have r0 : Rng 1048576 := ⟨by omega, by omega⟩
 have s1 := laws_szWorld_eq a 1048576 r0 ha
 cases h1 : decide (left 1048576 a.bulk < 0) with
 | true =>
  (refine fun_ev rfl ?_; show Ev m_laws_FnExactEnough.code _ _ _)
  repeat' (first | (apply zk g_laws_szWorld;exact rfl;simp only [List.map,fzl];exact rfl;exact (s1);exact rfl;exact rfl;exact rfl) | (apply zt1;exact rfl;(with_reducible assumption)) | (apply zt0;exact rfl;(with_reducible assumption)) | (apply zt;exact rfl) | (apply zo;exact rfl;exact rfl) | apply zn | (apply zc;exact rfl) | intro _)
  exact fin rfl rfl
 | false =>
  have o1 := left_ok r0 h1
  have la : a.bulk <= 1048576 := by omega
  have lb : a.bulk <= 4000000 := by omega
  (refine fun_ev rfl ?_; show Ev m_laws_FnExactEnough.code _ _ _)
  repeat' (first | (apply zk g_laws_szWorld;exact rfl;simp only [List.map,fzl];exact rfl;exact (s1);exact rfl;exact rfl;exact rfl) | (apply zk g_laws_toWorld;exact rfl;simp only [List.map,fzl];exact rfl;exact (laws_toWorld_eq a la);exact rfl;exact rfl;exact rfl) | (apply zk g_spec_Enough;exact rfl;simp only [List.map,fzl];exact rfl;exact (spec_Enough_eq a lb);exact rfl;exact rfl;exact rfl) | (apply zk g_impl_Enough;exact rfl;simp only [List.map,fzl];exact rfl;exact (impl_Enough_eq a lb);exact rfl;exact rfl;exact rfl) | (apply zk g_laws_eqWorld;exact rfl;simp only [List.map,fzl];exact rfl;exact (laws_eqWorld_eq a a la);exact rfl;exact rfl;exact rfl) | (apply zt1;exact rfl;(with_reducible assumption)) | (apply zt0;exact rfl;(with_reducible assumption)) | (apply zt;exact rfl) | (apply zo;exact rfl;exact rfl) | apply zn | (apply zc;exact rfl) | intro _)
  all_goals first | (rename_i h; simp at h; done) | (exact fin rfl rfl)
end Go.Wr
namespace Go.Wr
set_option linter.unusedVariables false
set_option linter.unusedSimpArgs false
set_option linter.unnecessarySimpa false
set_option maxRecDepth 20000
theorem laws_FnExactJudgeCredit_eq (a : GWorld) (ha : a.fit) : F_laws_FnExactJudgeCredit [.st (a.cs .n)] = some ⟨[.one (.b true)], []⟩ := by
 have r0 : Rng 1048576 := ⟨by omega, by omega⟩
 have s1 := laws_szWorld_eq a 1048576 r0 ha
 cases h1 : decide (left 1048576 a.bulk < 0) with
 | true =>
  (refine fun_ev rfl ?_; show Ev m_laws_FnExactJudgeCredit.code _ _ _)
  repeat' (first | (apply zk g_laws_szWorld;exact rfl;simp only [List.map,fzl];exact rfl;exact (s1);exact rfl;exact rfl;exact rfl) | (apply zt1;exact rfl;(with_reducible assumption)) | (apply zt0;exact rfl;(with_reducible assumption)) | (apply zt;exact rfl) | (apply zo;exact rfl;exact rfl) | apply zn | (apply zc;exact rfl) | intro _)
  exact fin rfl rfl
 | false =>
  have o1 := left_ok r0 h1
  have la : a.bulk <= 1048576 := by omega
  have lb : a.bulk <= 4000000 := by omega
  (refine fun_ev rfl ?_; show Ev m_laws_FnExactJudgeCredit.code _ _ _)
  repeat' (first | (apply zk g_laws_szWorld;exact rfl;simp only [List.map,fzl];exact rfl;exact (s1);exact rfl;exact rfl;exact rfl) | (apply zk g_laws_toWorld;exact rfl;simp only [List.map,fzl];exact rfl;exact (laws_toWorld_eq a la);exact rfl;exact rfl;exact rfl) | (apply zk g_spec_JudgeCredit;exact rfl;simp only [List.map,fzl];exact rfl;exact (spec_JudgeCredit_eq a lb);exact rfl;exact rfl;exact rfl) | (apply zk g_impl_JudgeCredit;exact rfl;simp only [List.map,fzl];exact rfl;exact (impl_JudgeCredit_eq a lb);exact rfl;exact rfl;exact rfl) | (apply zk g_laws_eqWorld;exact rfl;simp only [List.map,fzl];exact rfl;exact (laws_eqWorld_eq a a la);exact rfl;exact rfl;exact rfl) | (apply zt1;exact rfl;(with_reducible assumption)) | (apply zt0;exact rfl;(with_reducible assumption)) | (apply zt;exact rfl) | (apply zo;exact rfl;exact rfl) | apply zn | (apply zc;exact rfl) | intro _)
  all_goals first | (rename_i h; simp at h; done) | (exact fin rfl rfl)
end Go.Wr

