/-
  What is proved: lemmas on the way to the laws of this seat. No condition.
-/
import Derived.Test.YtgckmfadalhddaaGreatQc
import Derived.Test.YtgckmfadalhddaaGreatPb
import Derived.Test.YtgckmfadalhddaaGreatHa
set_option linter.unusedVariables false
set_option linter.unusedSimpArgs false
namespace Go.Wr
set_option linter.unusedVariables false
set_option linter.unusedSimpArgs false
set_option linter.unnecessarySimpa false
set_option maxRecDepth 20000
theorem not_t {b : Bool} (h : (!b) = true) : b = false := by cases b with | false => rfl | true => cases h
theorem not_f {b : Bool} (h : (!b) = false) : b = true := by cases b with | false => cases h | true => rfl
theorem impl_ItemOk_eq (x : GItem) (hl : x.bulk <= 4000000) : F_impl_ItemOk [.st (x.cs .n)] = some ⟨[.one (.b x.ok)], []⟩ := by
 have hs : x.Sketch.bulk <= 4000000 := hl
 (refine fun_ev rfl ?_; show Ev m_impl_ItemOk.code _ _ _)
 repeat' (first | (apply zy;exact rfl;exact rfl;(with_reducible assumption)) | (apply zm;exact rfl;exact rfl;(with_reducible assumption);exact rfl;exact rfl) | (apply ze;(iterate 5 exact rfl)) | (apply zf;(iterate 5 exact rfl)) | (apply zp;exact rfl;(with_reducible assumption);(iterate 3 exact rfl)) | (apply zk g_impl_within;exact rfl;exact rfl;exact (impl_within_eq _ _ _);(iterate 3 exact rfl)) | (apply zk g_impl_SketchOk;exact rfl;exact rfl;exact (impl_SketchOk_eq x.Sketch hs);(iterate 3 exact rfl)) | (apply zo;exact rfl;exact rfl) | apply zn | (apply zc;exact rfl) | exact rfl | intro _)
 exact fin rfl rfl
theorem spec_ItemOk_eq (x : GItem) (hl : x.bulk <= 4000000) : F_spec_ItemOk [.st (x.cs .n)] = some ⟨[.one (.b x.ok)], []⟩ := by
 have hs : x.Sketch.bulk <= 4194304 := Nat.le_trans hl (by omega)
 (refine fun_ev rfl ?_; show Ev m_spec_ItemOk.code _ _ _)
 repeat' (first | (apply zy;exact rfl;exact rfl;(with_reducible assumption)) | (apply zm;exact rfl;exact rfl;(with_reducible assumption);exact rfl;exact rfl) | (apply ze;(iterate 5 exact rfl)) | (apply zf;(iterate 5 exact rfl)) | (apply zp;exact rfl;(with_reducible assumption);(iterate 3 exact rfl)) | (apply zk g_spec_l1In;exact rfl;exact rfl;exact (spec_l1In_eq _ _ _);(iterate 3 exact rfl)) | (apply zk g_spec_l6Place;exact rfl;exact rfl;exact (spec_l6Place_eq _ _);(iterate 3 exact rfl)) | (apply zk g_spec_SketchOk;exact rfl;exact rfl;exact (spec_SketchOk_eq x.Sketch hs);(iterate 3 exact rfl)) | (apply zo;exact rfl;exact rfl) | apply zn | (apply zc;exact rfl) | exact rfl | intro _)
 refine fin rfl (outB ?_)
 rw [GItem.ok]
 generalize inB x.Seq 1 60 = a
 generalize inB x.Class 0 1 = b
 generalize inB x.Key 0 4 = c
 generalize inB x.Window 0 20 = d
 generalize x.Sketch.ok = e
 revert a b c d e; decide
theorem agent_in {a : GAgent} (hl : a.bulk <= 4000000) : a.Sealed.length <= 4000000 /\ a.Taken.length <= 4194304 /\ ∀ (i : Nat) x, a.Sealed[i]? = some x -> x.bulk <= 4000000 := by
 have h1 := bulks_len GItem.bulk a.Sealed
 unfold GAgent.bulk at hl
 refine ⟨by omega, by omega, fun i x hx => ?_⟩
 have := bulks_mem (f := GItem.bulk) hx
 omega
theorem gt_not (n m : Nat) : decide ((n : Int) > (m : Nat)) = !decide (n <= m) := by
 rw [Bool.eq_iff_iff]; simp only [decide_eq_true_eq, Bool.not_eq_true', decide_eq_false_iff_not]; omega
theorem not_agentTop {a : GAgent} : ((((!inB a.Id 0 2 || !inB a.Epoch 0 1000) || !inB a.Granted 0 60) || decide (((a.Sealed.map (GItem.el .n)).length : Int) > 60)) || !inB a.Next 0 60) = !agentTop a := by
 rw [show (60 : Int) = ((60 : Nat) : Int) from rfl, List.length_map, gt_not, agentTop]
 cases inB a.Id 0 2 <;> cases inB a.Epoch 0 1000 <;> cases inB a.Granted 0 (60 : Nat) <;> cases decide (a.Sealed.length <= 60) <;> simp
theorem impl_AgentOk_eq (a : GAgent) (hl : a.bulk <= 4000000) : F_impl_AgentOk [.st (a.cs .n)] = some ⟨[.one (.b a.ok)], []⟩ := by
 obtain ⟨h1, h2, h3⟩ := agent_in hl
 (refine fun_ev rfl ?_; show Ev m_impl_AgentOk.code _ _ _)
 repeat' (first | (apply zy;exact rfl;exact rfl;(with_reducible assumption)) | (apply zm;exact rfl;exact rfl;(with_reducible assumption);exact rfl;exact rfl) | (apply ze;(iterate 5 exact rfl)) | (apply zf;(iterate 5 exact rfl)) | (apply zp;exact rfl;(with_reducible assumption);(iterate 3 exact rfl)) | (apply zk g_impl_within;exact rfl;exact rfl;exact (impl_within_eq _ _ _);(iterate 3 exact rfl)) | (apply zt1;exact rfl;(with_reducible assumption)) | (apply zt0;exact rfl;(with_reducible assumption)) | (apply zt;exact rfl) | (apply zo;exact rfl;exact rfl) | apply zn | (apply zc;exact rfl) | exact rfl | intro _)
 ·refine fin rfl (outB ?_)
  rename_i h
  rw [not_agentTop] at h
  have h4 : agentTop a = false := by simpa using h
  rw [GAgent.ok, h4]; rfl
 ·rename_i h
  rw [not_agentTop] at h
  have h4 : agentTop a = true := by simpa using h
  refine zfor (GItem.el .n) a.Sealed (fun i (_ : Unit) => [(1, .box ⟨0, 0, 0⟩ (a.cs .n)), (34, .x (GItem.ls .n a.Sealed)), (35, .x (iT (a.Sealed.map (GItem.el .n)).length)), (36, .x (iT i))]) (fun i _ => ∀ j, j < i -> sealAt a.Sealed j = true) () (by omega) rfl ?_ ?_
  ·rintro i _ x hx hlt hc _ hinv ih
   have hbx := h3 i x hx
   have hw : IntKind.i64.wrap ((i : Int) + 1) = (i : Int) + 1 := w64 (by omega)
   repeat' (first | (apply zy;exact rfl;exact rfl;(with_reducible assumption)) | (apply zm;exact rfl;exact rfl;(with_reducible assumption);exact rfl;exact rfl) | (apply ze;(iterate 5 exact rfl)) | (apply zf;(iterate 5 exact rfl)) | (apply zp;exact rfl;(with_reducible assumption);(iterate 3 exact rfl)) | (apply zi (GItem.el .n x);exact rfl;exact rfl;exact Int.natCast_nonneg _;exact (map_at hx);exact rfl;exact rfl) | (apply zk g_impl_ItemOk;exact rfl;exact rfl;exact (impl_ItemOk_eq x hbx);(iterate 3 exact rfl)) | (apply zt1;exact rfl;(with_reducible assumption)) | (apply zt0;exact rfl;(with_reducible assumption)) | (apply zt;exact rfl) | (apply zo;exact rfl;exact rfl) | apply zn | (apply zc;exact rfl) | exact rfl | intro _)
   ·refine fin rfl (outB ?_)
    rename_i h5
    rw [hw, bne] at h5
    have h6 : sealAt a.Sealed i = false := by rw [sealAt_at hx]; revert h5; cases x.ok <;> simp
    rw [GAgent.ok, allIx_not hlt h6, Bool.and_false]
   ·rename_i h5
    rw [hw, bne] at h5
    have h6 : sealAt a.Sealed i = true := by rw [sealAt_at hx]; revert h5; cases x.ok <;> simp
    refine ih () (upto_succ hinv h6) _ _ ?_
    rw [w64s (by omega)]; rfl
  ·rintro _ hc _ hinv
   repeat' (first | (apply zy;exact rfl;exact rfl;(with_reducible assumption)) | (apply zm;exact rfl;exact rfl;(with_reducible assumption);exact rfl;exact rfl) | (apply ze;(iterate 5 exact rfl)) | (apply zf;(iterate 5 exact rfl)) | (apply zp;exact rfl;(with_reducible assumption);(iterate 3 exact rfl)) | (apply zk g_impl_allIn;exact rfl;exact rfl;exact (impl_allIn_eq a.Taken _ _ h2);(iterate 3 exact rfl)) | (apply zt1;exact rfl;(with_reducible assumption)) | (apply zt0;exact rfl;(with_reducible assumption)) | (apply zt;exact rfl) | (apply zo;exact rfl;exact rfl) | apply zn | (apply zc;exact rfl) | exact rfl | intro _)
   refine fin rfl (outB ?_)
   rw [GAgent.ok, h4, allIx_of hinv, List.length_map]
   have h7 : inB a.Granted 0 60 = true := by simp only [agentTop, Bool.and_eq_true] at h4; exact h4.1.1.2
   have h8 : (a.Granted == 0) = !decide (a.Granted > 0) := by
    simp only [inB, Bool.and_eq_true, decide_eq_true_eq] at h7
    rw [Bool.eq_iff_iff]; simp only [beq_iff_eq, Bool.not_eq_true', decide_eq_false_iff_not]; omega
   rw [h8, Bool.true_and, Bool.and_true]
theorem spec_AgentOk_eq (a : GAgent) (hl : a.bulk <= 4000000) : F_spec_AgentOk [.st (a.cs .n)] = some ⟨[.one (.b a.ok)], []⟩ := by
 obtain ⟨h1, h2, h3⟩ := agent_in hl
 (refine fun_ev rfl ?_; show Ev m_spec_AgentOk.code _ _ _)
 repeat' (first | (apply zy;exact rfl;exact rfl;(with_reducible assumption)) | (apply zm;exact rfl;exact rfl;(with_reducible assumption);exact rfl;exact rfl) | (apply ze;(iterate 5 exact rfl)) | (apply zf;(iterate 5 exact rfl)) | (apply zp;exact rfl;(with_reducible assumption);(iterate 3 exact rfl)) | (apply zk g_spec_l1In;exact rfl;exact rfl;exact (spec_l1In_eq _ _ _);(iterate 3 exact rfl)) | (apply zk g_spec_l6Agent;exact rfl;exact rfl;exact (spec_l6Agent_eq _);(iterate 3 exact rfl)) | (apply zk g_spec_l8Below;exact rfl;exact rfl;exact (spec_l8Below_eq a.Taken _ h2);(iterate 3 exact rfl)) | (apply zt1;exact rfl;(with_reducible assumption)) | (apply zt0;exact rfl;(with_reducible assumption)) | (apply zt;exact rfl) | (apply zo;exact rfl;exact rfl) | apply zn | (apply zc;exact rfl) | exact rfl | intro _)
 ·refine fin rfl (outB ?_)
  rename_i h
  rw [not_agentTop, List.length_map] at h
  rw [GAgent.ok]
  revert h
  cases agentTop a <;> cases allIn a.Taken 1 a.Sealed.length <;> cases a.Live <;> cases decide (a.Granted > 0) <;> simp
 ·rename_i h
  rw [not_agentTop, List.length_map] at h
  have h4 : (agentTop a && allIn a.Taken 1 a.Sealed.length && (a.Live || !decide (a.Granted > 0))) = true := by
   revert h
   cases agentTop a <;> cases allIn a.Taken 1 a.Sealed.length <;> cases a.Live <;> cases decide (a.Granted > 0) <;> simp
  rw [GAgent.ok, h4, Bool.true_and]
  refine zfor (GItem.el .n) a.Sealed (fun i (_ : Unit) => [(1, .box ⟨0, 0, 0⟩ (a.cs .n)), (3, .x (iT i))]) (fun i _ => ∀ j, j < i -> sealAt a.Sealed j = true) () (by omega) rfl ?_ ?_
  ·rintro i _ x hx hlt hc _ hinv ih
   have hbx := h3 i x hx
   have hw : IntKind.i64.wrap ((i : Int) + 1) = (i : Int) + 1 := w64 (by omega)
   repeat' (first | (apply zy;exact rfl;exact rfl;(with_reducible assumption)) | (apply zm;exact rfl;exact rfl;(with_reducible assumption);exact rfl;exact rfl) | (apply ze;(iterate 5 exact rfl)) | (apply zf;(iterate 5 exact rfl)) | (apply zp;exact rfl;(with_reducible assumption);(iterate 3 exact rfl)) | (apply zi (GItem.el .n x);exact rfl;exact rfl;exact Int.natCast_nonneg _;exact (map_at hx);exact rfl;exact rfl) | (apply zk g_spec_ItemOk;exact rfl;exact rfl;exact (spec_ItemOk_eq x hbx);(iterate 3 exact rfl)) | (apply zt1;exact rfl;(with_reducible assumption)) | (apply zt0;exact rfl;(with_reducible assumption)) | (apply zt;exact rfl) | (apply zo;exact rfl;exact rfl) | apply zn | (apply zc;exact rfl) | exact rfl | intro _)
   ·refine fin rfl (outB ?_)
    rename_i h5
    rw [hw, bne] at h5
    have h6 : sealAt a.Sealed i = false := by rw [sealAt_at hx]; revert h5; cases x.ok <;> simp
    rw [allIx_not hlt h6]
   ·rename_i h5
    rw [hw, bne] at h5
    have h6 : sealAt a.Sealed i = true := by rw [sealAt_at hx]; revert h5; cases x.ok <;> simp
    refine ih () (upto_succ hinv h6) _ _ ?_
    rw [w64s (by omega)]; rfl
  ·rintro _ hc _ hinv
   rw [allIx_of hinv]
   repeat' (first | (apply zy;exact rfl;exact rfl;(with_reducible assumption)) | (apply zm;exact rfl;exact rfl;(with_reducible assumption);exact rfl;exact rfl) | (apply ze;(iterate 5 exact rfl)) | (apply zf;(iterate 5 exact rfl)) | (apply zp;exact rfl;(with_reducible assumption);(iterate 3 exact rfl)) | (apply zt1;exact rfl;(with_reducible assumption)) | (apply zt0;exact rfl;(with_reducible assumption)) | (apply zt;exact rfl) | (apply zo;exact rfl;exact rfl) | apply zn | (apply zc;exact rfl) | exact rfl | intro _)
   exact fin rfl rfl
theorem world_in {w : GWorld} (hl : w.bulk <= 4000000) : w.House.bulk <= 4000000 /\ w.Agents.length <= 4000000 /\ w.Net.length <= 4000000 /\ ∀ (i : Nat) a, w.Agents[i]? = some a -> a.bulk <= 4000000 := by
 have h1 := bulks_len GAgent.bulk w.Agents
 have h2 := bulks_len GPack.bulk w.Net
 unfold GWorld.bulk at hl
 refine ⟨by omega, by omega, by omega, fun i x hx => ?_⟩
 have := bulks_mem (f := GAgent.bulk) hx
 omega
theorem not_worldTop {w : GWorld} {b : Bool} : ((((w.Agents.map (GAgent.el .n)).length : Int) != 3 || !b) || decide (((w.Net.map (GPack.el .n)).length : Int) > 10)) = !(decide (w.Agents.length = 3) && b && decide (w.Net.length <= 10)) := by
 rw [show (3 : Int) = ((3 : Nat) : Int) from rfl, show (10 : Int) = ((10 : Nat) : Int) from rfl, len_ne, List.length_map, gt_not]
 cases decide (w.Agents.length = 3) <;> cases b <;> simp
theorem impl_WorldOk_eq (w : GWorld) (hl : w.bulk <= 4000000) : F_impl_WorldOk [.st (w.cs .n)] = some ⟨[.one (.b (worldB w))], []⟩ := by
 obtain ⟨hh, hal, hnl, hab⟩ := world_in hl
 (refine fun_ev rfl ?_; show Ev m_impl_WorldOk.code _ _ _)
 repeat' (first | (apply zy;exact rfl;exact rfl;(with_reducible assumption)) | (apply zm;exact rfl;exact rfl;(with_reducible assumption);exact rfl;exact rfl) | (apply ze;(iterate 5 exact rfl)) | (apply zf;(iterate 5 exact rfl)) | (apply zp;exact rfl;(with_reducible assumption);(iterate 3 exact rfl)) | (apply zk g_impl_HouseOk;exact rfl;exact rfl;exact (impl_HouseOk_eq w.House hh);(iterate 3 exact rfl)) | (apply zt1;exact rfl;(with_reducible assumption)) | (apply zt0;exact rfl;(with_reducible assumption)) | (apply zt;exact rfl) | (apply zo;exact rfl;exact rfl) | apply zn | (apply zc;exact rfl) | exact rfl | intro _)
 ·refine fin rfl (outB ?_)
  rename_i h
  rw [not_worldTop, house_same] at h
  rw [worldB, not_t h]; rfl
 ·rename_i h
  rw [not_worldTop, house_same] at h
  have h4 : (decide (w.Agents.length = 3) && houseS w.House && decide (w.Net.length <= 10)) = true := by simpa using h
  have h3 : w.Agents.length = 3 := by simp only [Bool.and_eq_true, decide_eq_true_eq] at h4; exact h4.1.1
  rw [worldB, h4, Bool.true_and]
  refine zfor (GAgent.el .n) w.Agents (fun i (_ : Unit) => [(1, .box ⟨0, 0, 0⟩ (w.cs .n)), (24, .x (GAgent.ls .n w.Agents)), (25, .x (iT (w.Agents.map (GAgent.el .n)).length)), (26, .x (iT i))]) (fun i _ => ∀ j, j < i -> agentAt w.Agents j = true) () (by omega) rfl ?_ ?_
  ·rintro i _ a hx hlt hc _ hinv ih
   have hba := hab i a hx
   repeat' (first | (apply zy;exact rfl;exact rfl;(with_reducible assumption)) | (apply zm;exact rfl;exact rfl;(with_reducible assumption);exact rfl;exact rfl) | (apply ze;(iterate 5 exact rfl)) | (apply zf;(iterate 5 exact rfl)) | (apply zp;exact rfl;(with_reducible assumption);(iterate 3 exact rfl)) | (apply zi (GAgent.el .n a);exact rfl;exact rfl;exact Int.natCast_nonneg _;exact (map_at hx);exact rfl;exact rfl) | (apply zk g_impl_AgentOk;exact rfl;exact rfl;exact (impl_AgentOk_eq a hba);(iterate 3 exact rfl)) | (apply zt1;exact rfl;(with_reducible assumption)) | (apply zt0;exact rfl;(with_reducible assumption)) | (apply zt;exact rfl) | (apply zo;exact rfl;exact rfl) | apply zn | (apply zc;exact rfl) | exact rfl | intro _)
   ·refine fin rfl (outB ?_)
    rename_i h5
    rw [bne] at h5
    have h6 : agentAt w.Agents i = false := by rw [agentAt_at hx]; revert h5; cases a.ok <;> simp
    rw [allIx_not (h3 ▸ hlt) h6, Bool.false_and]
   ·rename_i h5
    rw [bne] at h5
    have h6 : agentAt w.Agents i = true := by rw [agentAt_at hx]; revert h5; cases a.ok <;> simp
    refine ih () (upto_succ hinv h6) _ _ ?_
    rw [w64s (by omega)]; rfl
  ·rintro _ hc _ hinv
   rw [allIx_of (h3 ▸ hinv), Bool.true_and]
   repeat' (first | (apply zy;exact rfl;exact rfl;(with_reducible assumption)) | (apply zm;exact rfl;exact rfl;(with_reducible assumption);exact rfl;exact rfl) | (apply ze;(iterate 5 exact rfl)) | (apply zf;(iterate 5 exact rfl)) | (apply zp;exact rfl;(with_reducible assumption);(iterate 3 exact rfl)) | (apply zt1;exact rfl;(with_reducible assumption)) | (apply zt0;exact rfl;(with_reducible assumption)) | (apply zt;exact rfl) | (apply zo;exact rfl;exact rfl) | apply zn | (apply zc;exact rfl) | exact rfl | intro _)
   refine zfor (GPack.el .n) w.Net (fun i (_ : Unit) => [(1, .box ⟨0, 0, 0⟩ (w.cs .n)), (42, .x (GPack.ls .n w.Net)), (43, .x (iT (w.Net.map (GPack.el .n)).length)), (44, .x (iT i))]) (fun i _ => (w.Net.take i).all (fun p => inB p.To (-1) 2) = true) () (by simp) rfl ?_ ?_
   ·rintro i _ p hx hlt hc _ hinv ih
    repeat' (first | (apply zy;exact rfl;exact rfl;(with_reducible assumption)) | (apply zm;exact rfl;exact rfl;(with_reducible assumption);exact rfl;exact rfl) | (apply ze;(iterate 5 exact rfl)) | (apply zf;(iterate 5 exact rfl)) | (apply zp;exact rfl;(with_reducible assumption);(iterate 3 exact rfl)) | (apply zi (GPack.el .n p);exact rfl;exact rfl;exact Int.natCast_nonneg _;exact (map_at hx);exact rfl;exact rfl) | (apply zk g_impl_within;exact rfl;exact rfl;exact (impl_within_eq _ _ _);(iterate 3 exact rfl)) | (apply zt1;exact rfl;(with_reducible assumption)) | (apply zt0;exact rfl;(with_reducible assumption)) | (apply zt;exact rfl) | (apply zo;exact rfl;exact rfl) | apply zn | (apply zc;exact rfl) | exact rfl | intro _)
    ·refine fin rfl (outB ?_)
     rename_i h5
     rw [not_all (p := fun p : GPack => inB p.To (-1) 2) hx (by simpa using h5)]
    ·rename_i h5
     refine ih () (take_all (p := fun p : GPack => inB p.To (-1) 2) hinv hx (by simpa using h5)) _ _ ?_
     rw [w64s (by omega)]; rfl
   ·rintro _ hc _ hinv
    rw [take_end hinv]
    repeat' (first | (apply zy;exact rfl;exact rfl;(with_reducible assumption)) | (apply zm;exact rfl;exact rfl;(with_reducible assumption);exact rfl;exact rfl) | (apply ze;(iterate 5 exact rfl)) | (apply zf;(iterate 5 exact rfl)) | (apply zp;exact rfl;(with_reducible assumption);(iterate 3 exact rfl)) | (apply zt1;exact rfl;(with_reducible assumption)) | (apply zt0;exact rfl;(with_reducible assumption)) | (apply zt;exact rfl) | (apply zo;exact rfl;exact rfl) | apply zn | (apply zc;exact rfl) | exact rfl | intro _)
    exact fin rfl rfl
theorem spec_WorldOk_eq (w : GWorld) (hl : w.bulk <= 4000000) : F_spec_WorldOk [.st (w.cs .n)] = some ⟨[.one (.b (worldB w))], []⟩ := by
 obtain ⟨hh, hal, hnl, hab⟩ := world_in hl
 (refine fun_ev rfl ?_; show Ev m_spec_WorldOk.code _ _ _)
 repeat' (first | (apply zy;exact rfl;exact rfl;(with_reducible assumption)) | (apply zm;exact rfl;exact rfl;(with_reducible assumption);exact rfl;exact rfl) | (apply ze;(iterate 5 exact rfl)) | (apply zf;(iterate 5 exact rfl)) | (apply zp;exact rfl;(with_reducible assumption);(iterate 3 exact rfl)) | (apply zk g_spec_HouseOk;exact rfl;exact rfl;exact (spec_HouseOk_eq w.House hh);(iterate 3 exact rfl)) | (apply zt1;exact rfl;(with_reducible assumption)) | (apply zt0;exact rfl;(with_reducible assumption)) | (apply zt;exact rfl) | (apply zo;exact rfl;exact rfl) | apply zn | (apply zc;exact rfl) | exact rfl | intro _)
 ·refine fin rfl (outB ?_)
  rename_i h
  rw [not_worldTop] at h
  rw [worldB, not_t h]; rfl
 ·rename_i h
  rw [not_worldTop] at h
  have h4 : (decide (w.Agents.length = 3) && houseS w.House && decide (w.Net.length <= 10)) = true := by simpa using h
  have h3 : w.Agents.length = 3 := by simp only [Bool.and_eq_true, decide_eq_true_eq] at h4; exact h4.1.1
  rw [worldB, h4, Bool.true_and]
  refine zfor (GAgent.el .n) w.Agents (fun i (_ : Unit) => [(1, .box ⟨0, 0, 0⟩ (w.cs .n)), (3, .x (iT i))]) (fun i _ => ∀ j, j < i -> agentAt w.Agents j = true) () (by omega) rfl ?_ ?_
  ·rintro i _ a hx hlt _ _ hinv ih
   have hc : decide ((i : Int) < 3) = true := by simp; omega
   have hba := hab i a hx
   repeat' (first | (apply zy;exact rfl;exact rfl;(with_reducible assumption)) | (apply zm;exact rfl;exact rfl;(with_reducible assumption);exact rfl;exact rfl) | (apply ze;(iterate 5 exact rfl)) | (apply zf;(iterate 5 exact rfl)) | (apply zp;exact rfl;(with_reducible assumption);(iterate 3 exact rfl)) | (apply zi (GAgent.el .n a);exact rfl;exact rfl;exact Int.natCast_nonneg _;exact (map_at hx);exact rfl;exact rfl) | (apply zk g_spec_AgentOk;exact rfl;exact rfl;exact (spec_AgentOk_eq a hba);(iterate 3 exact rfl)) | (apply zt1;exact rfl;(with_reducible assumption)) | (apply zt0;exact rfl;(with_reducible assumption)) | (apply zt;exact rfl) | (apply zo;exact rfl;exact rfl) | apply zn | (apply zc;exact rfl) | exact rfl | intro _)
   ·refine fin rfl (outB ?_)
    rename_i h5
    rw [bne] at h5
    have h6 : agentAt w.Agents i = false := by rw [agentAt_at hx]; revert h5; cases a.ok <;> simp
    rw [allIx_not (h3 ▸ hlt) h6, Bool.false_and]
   ·rename_i h5
    rw [bne] at h5
    have h6 : agentAt w.Agents i = true := by rw [agentAt_at hx]; revert h5; cases a.ok <;> simp
    refine ih () (upto_succ hinv h6) _ _ ?_
    rw [w64s (by omega)]; rfl
  ·rintro _ _ _ hinv
   have hc : decide ((w.Agents.length : Int) < 3) = false := by rw [h3]; rfl
   rw [allIx_of (h3 ▸ hinv), Bool.true_and]
   repeat' (first | (apply zy;exact rfl;exact rfl;(with_reducible assumption)) | (apply zm;exact rfl;exact rfl;(with_reducible assumption);exact rfl;exact rfl) | (apply ze;(iterate 5 exact rfl)) | (apply zf;(iterate 5 exact rfl)) | (apply zp;exact rfl;(with_reducible assumption);(iterate 3 exact rfl)) | (apply zt1;exact rfl;(with_reducible assumption)) | (apply zt0;exact rfl;(with_reducible assumption)) | (apply zt;exact rfl) | (apply zo;exact rfl;exact rfl) | apply zn | (apply zc;exact rfl) | exact rfl | intro _)
   refine zfor (GPack.el .n) w.Net (fun i (_ : Unit) => [(1, .box ⟨0, 0, 0⟩ (w.cs .n)), (4, .x (iT i))]) (fun i _ => (w.Net.take i).all (fun p => inB p.To (-1) 2) = true) () (by simp) rfl ?_ ?_
   ·rintro i _ p hx hlt hc _ hinv ih
    repeat' (first | (apply zy;exact rfl;exact rfl;(with_reducible assumption)) | (apply zm;exact rfl;exact rfl;(with_reducible assumption);exact rfl;exact rfl) | (apply ze;(iterate 5 exact rfl)) | (apply zf;(iterate 5 exact rfl)) | (apply zp;exact rfl;(with_reducible assumption);(iterate 3 exact rfl)) | (apply zi (GPack.el .n p);exact rfl;exact rfl;exact Int.natCast_nonneg _;exact (map_at hx);exact rfl;exact rfl) | (apply zk g_spec_l1In;exact rfl;exact rfl;exact (spec_l1In_eq _ _ _);(iterate 3 exact rfl)) | (apply zt1;exact rfl;(with_reducible assumption)) | (apply zt0;exact rfl;(with_reducible assumption)) | (apply zt;exact rfl) | (apply zo;exact rfl;exact rfl) | apply zn | (apply zc;exact rfl) | exact rfl | intro _)
    ·refine fin rfl (outB ?_)
     rename_i h5
     rw [not_all (p := fun p : GPack => inB p.To (-1) 2) hx (by simpa using h5)]
    ·rename_i h5
     refine ih () (take_all (p := fun p : GPack => inB p.To (-1) 2) hinv hx (by simpa using h5)) _ _ ?_
     rw [w64s (by omega)]; rfl
   ·rintro _ hc _ hinv
    rw [take_end hinv]
    repeat' (first | (apply zy;exact rfl;exact rfl;(with_reducible assumption)) | (apply zm;exact rfl;exact rfl;(with_reducible assumption);exact rfl;exact rfl) | (apply ze;(iterate 5 exact rfl)) | (apply zf;(iterate 5 exact rfl)) | (apply zp;exact rfl;(with_reducible assumption);(iterate 3 exact rfl)) | (apply zt1;exact rfl;(with_reducible assumption)) | (apply zt0;exact rfl;(with_reducible assumption)) | (apply zt;exact rfl) | (apply zo;exact rfl;exact rfl) | apply zn | (apply zc;exact rfl) | exact rfl | intro _)
    exact fin rfl rfl
end Go.Wr
namespace Go.Wr
set_option linter.unusedVariables false
set_option linter.unusedSimpArgs false
set_option linter.unnecessarySimpa false
set_option maxRecDepth 20000
theorem seat_l {s : GSeat} (hl : s.bulk <= 4000000) : s.Taken.length <= 4194304 := by unfold GSeat.bulk at hl; omega
end Go.Wr
namespace Go.Wr
set_option linter.unusedVariables false
set_option linter.unusedSimpArgs false
set_option linter.unnecessarySimpa false
set_option maxRecDepth 20000
end Go.Wr
namespace Go.Wr
set_option linter.unusedVariables false
set_option linter.unusedSimpArgs false
set_option linter.unnecessarySimpa false
set_option maxRecDepth 20000
end Go.Wr
namespace Go.Wr
set_option linter.unusedVariables false
set_option linter.unusedSimpArgs false
set_option linter.unnecessarySimpa false
set_option maxRecDepth 20000
def mOf (x : GSpan) : List Int := (List.range (x.Hi - x.Lo + 1).toNat).map fun k => x.Lo + (k : Nat)
theorem membersL_eq (s : List GSpan) : membersL s = (s.map mOf).flatten := by rw [membersL, List.flatMap_def]; rfl
theorem mOf_len (x : GSpan) : (mOf x).length = (x.Hi - x.Lo + 1).toNat := by simp [mOf]
theorem mOf_at {x : GSpan} {k : Nat} {y : Int} (h : (mOf x)[k]? = some y) : y = x.Lo + (k : Nat) /\ x.Lo + (k : Nat) <= x.Hi := by
 have hk := (List.getElem?_eq_some_iff.1 h).1
 rw [mOf_len] at hk
 rw [mOf, List.getElem?_map, List.getElem?_range hk] at h
 simp at h
 omega
theorem members_len : ∀ {s : List GSpan}, SetR s -> ((membersL s).length : Int) = sumSpan s
 | [], _ => rfl
 | x :: s, hs => by
  have h1 := members_len hs.tail
  have h2 := hs.one
  unfold SpanR at h2
  rw [membersL_eq] at h1 ⊢
  rw [List.map_cons, List.flatten_cons, List.length_append, mOf_len]
  unfold sumSpan at h1 ⊢
  rw [List.map_cons, List.sum_cons]
  omega
theorem members_le {s : List GSpan} (hs : SetR s) : (membersL s).length <= 10000 := by
 have h1 := members_len hs
 have h2 := sumSpan_le (lo := 0) (m := 9999) hs (fun x hx => by have := hs.span hx; unfold SpanR at this; omega) (by omega)
 omega
theorem impl_members_eq (s : List GSpan) (hl : s.length <= 4194304) (hs : SetR s) : F_impl_members [.x (GSpan.ls .n s)] = some ⟨[.one (ints .y (membersL s))], []⟩ := by
 have hml := members_le hs
 (refine fun_ev rfl ?_; show Ev m_impl_members.code _ _ _)
 repeat' (first | (apply zt1;exact rfl;(with_reducible assumption)) | (apply zt0;exact rfl;(with_reducible assumption)) | (apply zt;exact rfl) | (apply zo;exact rfl;exact rfl) | apply zn | (apply zc;exact rfl) | intro _)
 refine zfor (GSpan.el .n) s (fun i (es : List T) => [(3, .own ⟨0, 0, 0⟩ (.l .y 1 es)), (7, .x (GSpan.ls .n s)), (8, .x (iT (s.map (GSpan.el .n)).length)), (9, .x (iT i))]) (fun i es => es = (((s.take i).map mOf).flatten).map iT) [] rfl rfl ?_ ?_
 ·rintro i es x hx hlt hc _ hinv ih
  have hsp := hs.span (List.mem_of_getElem? hx)
  unfold SpanR at hsp
  have hb := flat_bnd (f := mOf) hx
  rw [<- membersL_eq s] at hb
  repeat' (first | (apply zi (GSpan.el .n x);exact rfl;exact rfl;exact Int.natCast_nonneg _;exact (map_at hx);exact rfl;exact rfl) | (apply zt1;exact rfl;(with_reducible assumption)) | (apply zt0;exact rfl;(with_reducible assumption)) | (apply zt;exact rfl) | (apply zo;exact rfl;exact rfl) | apply zn | (apply zc;exact rfl) | intro _)
  refine zfor iT (mOf x) (fun k (es : List T) => [(3, .own ⟨0, 0, 0⟩ (.l .y 1 es)), (5, .box ⟨0, 0, 0⟩ (x.cs .n)), (6, .x (iT (x.Lo + (k : Nat)))), (7, .x (GSpan.ls .n s)), (8, .x (iT (s.map (GSpan.el .n)).length)), (9, .x (iT i))]) (fun k es => es = (((s.take i).map mOf).flatten ++ (mOf x).take k).map iT) es (by rw [hinv]; simp) (by rw [show x.Lo + ((0 : Nat) : Int) = x.Lo by omega]; rfl) ?_ ?_
  ·rintro k es y hy hlt2 _ _ hinv2 ih2
   obtain ⟨rfl, hle⟩ := mOf_at hy
   have hc2 : decide (x.Lo + ((k : Nat) : Int) <= x.Hi) = true := by simpa using hle
   have happ : es.length + [iT (x.Lo + ((k : Nat) : Int))].length < lenMax := by
    show es.length + 1 < lenMax
    rw [hinv2, List.length_map, List.length_append, List.length_take]
    unfold lenMax; omega
   repeat' (first | (apply zv;(iterate 7 exact rfl);exact (happ);exact (rfl);exact rfl;exact rfl) | (apply zt1;exact rfl;(with_reducible assumption)) | (apply zt0;exact rfl;(with_reducible assumption)) | (apply zt;exact rfl) | (apply zo;exact rfl;exact rfl) | apply zn | (apply zc;exact rfl) | intro _)
   refine ih2 (es ++ [iT (x.Lo + ((k : Nat) : Int))]) ?_ _ _ ?_
   ·rw [hinv2, List.take_add_one, hy]; simp
   ·rw [show IntKind.i64.wrap (x.Lo + ((k : Nat) : Int) + 1) = x.Lo + ((k + 1 : Nat) : Int) by rw [w64 (by omega)]; omega]; rfl
  ·rintro es _ _ hinv2
   have hc2 : decide (x.Lo + (((mOf x).length : Nat) : Int) <= x.Hi) = false := by rw [mOf_len]; simp; omega
   rw [List.take_length] at hinv2
   repeat' (first | (apply zt1;exact rfl;(with_reducible assumption)) | (apply zt0;exact rfl;(with_reducible assumption)) | (apply zt;exact rfl) | (apply zo;exact rfl;exact rfl) | apply zn | (apply zc;exact rfl) | intro _)
   refine ih es ?_ _ _ ?_
   ·rw [hinv2, flat_succ hx]
   ·rw [w64s (by omega)]; rfl
 ·rintro es hc _ hinv
  rw [List.take_length, <- membersL_eq] at hinv
  subst hinv
  repeat' (first | (apply zt1;exact rfl;(with_reducible assumption)) | (apply zt0;exact rfl;(with_reducible assumption)) | (apply zt;exact rfl) | (apply zo;exact rfl;exact rfl) | apply zn | (apply zc;exact rfl) | intro _)
  exact fin rfl (by simp only [sub_all])
theorem impl_greatest_eq (s : List GSpan) (hl : s.length <= 4194304) : F_impl_greatest [.x (GSpan.ls .n s)] = some ⟨[.one (iT (greatestS s))], []⟩ := by
 rcases Nat.eq_zero_or_pos s.length with h0 | h0
 ·obtain rfl := List.eq_nil_of_length_eq_zero h0
  have h3 : (((([] : List GSpan).map (GSpan.el .n)).length : Int) == 0) = true := rfl
  (refine fun_ev rfl ?_; show Ev m_impl_greatest.code _ _ _)
  repeat' (first | (apply zt1;exact rfl;(with_reducible assumption)) | (apply zt0;exact rfl;(with_reducible assumption)) | (apply zt;exact rfl) | (apply zo;exact rfl;exact rfl) | apply zn | (apply zc;exact rfl) | intro _)
  exact fin rfl rfl
 ·have h2 : (((s.map (GSpan.el .n)).length : Int) == 0) = false := by
   have : ((s.length : Int) == 0) = false := by rw [beq_eq_false_iff_ne]; omega
   rwa [List.length_map]
  have hb := List.getElem?_eq_getElem (show s.length - 1 < s.length by omega)
  generalize s[s.length - 1]'_ = b at hb
  have hk : IntKind.i64.wrap (((s.map (GSpan.el .n)).length : Int) - 1) = ((s.length - 1 : Nat) : Int) := by rw [List.length_map, w64 (by omega)]; omega
  have hk0 : 0 <= IntKind.i64.wrap (((s.map (GSpan.el .n)).length : Int) - 1) := by rw [hk]; omega
  have hkp : (s.map (GSpan.el .n))[(IntKind.i64.wrap (((s.map (GSpan.el .n)).length : Int) - 1)).toNat]? = some (GSpan.el .n b) := by rw [hk]; exact map_at hb
  (refine fun_ev rfl ?_; show Ev m_impl_greatest.code _ _ _)
  repeat' (first | (apply zi (GSpan.el .n b);exact rfl;exact rfl;exact (hk0);exact (hkp);exact rfl;exact rfl) | (apply zt1;exact rfl;(with_reducible assumption)) | (apply zt0;exact rfl;(with_reducible assumption)) | (apply zt;exact rfl) | (apply zo;exact rfl;exact rfl) | apply zn | (apply zc;exact rfl) | intro _)
  refine fin rfl (outI ?_)
  rw [greatestS, List.getLast?_eq_getElem?, hb]
theorem impl_within2_c1_eq (n : Int) (b : List GSpan) (hl : b.length <= 4194304) : F_impl_within2_c1 [.x (iT n), .x (.p (GSpan.ls .n b))] = some ⟨[.one (.b (!setHas b n))], []⟩ := by
 (refine fun_ev rfl ?_; show Ev m_impl_within2_c1.code _ _ _)
 repeat' (first | (apply zk g_impl_SetHas;exact rfl;exact rfl;exact (impl_SetHas_eq b n hl);(iterate 3 exact rfl)) | (apply zo;exact rfl;exact rfl) | apply zn | (apply zc;exact rfl) | intro _)
 exact fin rfl rfl
theorem slices_IndexFunc_Sint_eq (s : List Int) (b : List GSpan) (hl : s.length <= 4194304) (hb : b.length <= 4194304) (k : Int) (hk : k = match s.findIdx? (fun x => !setHas b x) with | some i => (i : Int) | none => -1) : F_slices_IndexFunc_Sint [.x (ints .n s), .x (.f g_impl_within2_c1 [.p (GSpan.ls .n b)])] = some ⟨[.one (iT k)], []⟩ := by
 (refine fun_ev rfl ?_; show Ev m_slices_IndexFunc_Sint.code _ _ _)
 repeat' (first | (apply zt1;exact rfl;(with_reducible assumption)) | (apply zt0;exact rfl;(with_reducible assumption)) | (apply zt;exact rfl) | (apply zo;exact rfl;exact rfl) | apply zn | (apply zc;exact rfl) | intro _)
 refine zfor iT s (fun i (_ : Unit) => [(0, .x (ints .n s)), (1, .x (.f g_impl_within2_c1 [.p (GSpan.ls .n b)])), (7, .x (iT (s.map iT).length)), (8, .x (iT i))]) (fun i _ => ∀ j x, j < i -> s[j]? = some x -> (!setHas b x) = false) () (by omega) rfl ?_ ?_
 ·rintro i _ x hx hlt hc _ hinv ih
  repeat' (first | (apply zi (iT x);exact rfl;exact rfl;exact Int.natCast_nonneg _;exact (map_at hx);exact rfl;exact rfl) | (apply zd;(iterate 4 exact rfl);exact (impl_within2_c1_eq x b hb);(iterate 3 exact rfl)) | (apply zt1;exact rfl;(with_reducible assumption)) | (apply zt0;exact rfl;(with_reducible assumption)) | (apply zt;exact rfl) | (apply zo;exact rfl;exact rfl) | apply zn | (apply zc;exact rfl) | intro _)
  ·refine fin rfl (outI ?_)
   rename_i h
   have h3 : s.findIdx? (fun x => !setHas b x) = some i := by
    rw [List.findIdx?_eq_some_iff_getElem]
    refine ⟨hlt, ?_, fun j hj => ?_⟩
    ·rw [(List.getElem?_eq_some_iff.1 hx).2]; exact h
    ·rw [hinv j _ hj (List.getElem?_eq_getElem (by omega))]; simp
   rw [hk, h3]
  ·rename_i h
   refine ih () ?_ _ _ ?_
   ·intro j y hj hy
    rcases Nat.lt_succ_iff_lt_or_eq.1 hj with h1 | rfl
    ·exact hinv j y h1 hy
    ·rw [hx] at hy; cases hy; exact h
   ·rw [w64s (by omega)]; rfl
 ·rintro _ hc _ hinv
  repeat' (first | (apply zt1;exact rfl;(with_reducible assumption)) | (apply zt0;exact rfl;(with_reducible assumption)) | (apply zt;exact rfl) | (apply zo;exact rfl;exact rfl) | apply zn | (apply zc;exact rfl) | intro _)
  refine fin rfl (outI ?_)
  have h3 : s.findIdx? (fun x => !setHas b x) = none := by
   rw [List.findIdx?_eq_none_iff]
   intro x hx
   obtain ⟨j, hj⟩ := List.mem_iff_getElem?.1 hx
   exact hinv j x (List.getElem?_eq_some_iff.1 hj).1 hj
  rw [hk, h3]
theorem slices_ContainsFunc_Sint_eq (s : List Int) (b : List GSpan) (hl : s.length <= 4194304) (hb : b.length <= 4194304) : F_slices_ContainsFunc_Sint [.x (ints .n s), .x (.f g_impl_within2_c1 [.p (GSpan.ls .n b)])] = some ⟨[.one (.b (s.any fun x => !setHas b x))], []⟩ := by
 (refine fun_ev rfl ?_; show Ev m_slices_ContainsFunc_Sint.code _ _ _)
 repeat' (first | (apply zk g_slices_IndexFunc_Sint;exact rfl;exact rfl;exact (slices_IndexFunc_Sint_eq s b hl hb _ rfl);(iterate 3 exact rfl)) | (apply zo;exact rfl;exact rfl) | apply zn | (apply zc;exact rfl) | intro _)
 refine fin rfl (outB ?_)
 cases h : s.findIdx? (fun x => !setHas b x) with
 | none =>
  rw [List.findIdx?_eq_none_iff] at h
  rw [eq_comm]
  show _ = false
  rw [List.any_eq_false]
  intro x hx; rw [h x hx]; simp
 | some i =>
  rw [List.findIdx?_eq_some_iff_getElem] at h
  obtain ⟨hi, h, _⟩ := h
  rw [eq_comm, List.any_eq_true.2 ⟨_, List.getElem_mem hi, h⟩]
  simp
theorem boxT_sp (b : List GSpan) : boxT [GSpan.ls .n b] = GSpan.ls .n b := by simp only [boxT, fzs, T.fz, fz_map, GSpan.fze]
theorem impl_within2_eq (a b : List GSpan) (hl : a.length <= 4194304) (ha : SetR a) (hb : b.length <= 4194304) : F_impl_within2 [.x (GSpan.ls .n a), .x (GSpan.ls .n b)] = some ⟨[.one (.b (!((membersL a).any fun n => !setHas b n)))], []⟩ := by
 have hml := members_le ha
 (refine fun_ev rfl ?_; show Ev m_impl_within2.code _ _ _)
 repeat' (first | (apply zk g_impl_members;exact rfl;exact rfl;exact (impl_members_eq a hl ha);(iterate 3 exact rfl)) | (apply zk g_slices_ContainsFunc_Sint;exact rfl;simp only [List.map,fzl,boxT_sp];exact rfl;exact (slices_ContainsFunc_Sint_eq (membersL a) b (by omega) hb);exact rfl;exact rfl;exact rfl) | (apply zo;exact rfl;exact rfl) | apply zn | (apply zc;exact rfl) | intro _)
 exact fin rfl rfl
theorem spec_SetHas_eq (s : List GSpan) (n : Int) (hl : s.length <= 4194304) : F_spec_SetHas [.x (GSpan.ls .n s), .x (iT n)] = some ⟨[.one (.b (setHas s n))], []⟩ := by
 (refine fun_ev rfl ?_; show Ev m_spec_SetHas.code _ _ _)
 repeat' (first | (apply zt1;exact rfl;(with_reducible assumption)) | (apply zt0;exact rfl;(with_reducible assumption)) | (apply zt;exact rfl) | (apply zo;exact rfl;exact rfl) | apply zn | (apply zc;exact rfl) | intro _)
 refine zfor (GSpan.el .n) s (fun i (_ : Unit) => [(0, .x (GSpan.ls .n s)), (1, .x (iT n)), (5, .x (iT i))]) (fun i _ => (s.take i).all (fun x => !inB n x.Lo x.Hi) = true) () (by simp) rfl ?_ ?_
 ·rintro i _ x hx hlt hc _ hinv ih
  repeat' (first | (apply zi (GSpan.el .n x);exact rfl;exact rfl;exact Int.natCast_nonneg _;exact (map_at hx);exact rfl;exact rfl) | (apply zk g_spec_l1In;exact rfl;exact rfl;exact (spec_l1In_eq _ _ _);(iterate 3 exact rfl)) | (apply zt1;exact rfl;(with_reducible assumption)) | (apply zt0;exact rfl;(with_reducible assumption)) | (apply zt;exact rfl) | (apply zo;exact rfl;exact rfl) | apply zn | (apply zc;exact rfl) | intro _)
  ·refine fin rfl (outB ?_)
   rename_i h
   rw [setHas, List.any_eq_true.2 ⟨x, List.mem_of_getElem? hx, h⟩]
  ·rename_i h
   refine ih () (take_all (p := fun x : GSpan => !inB n x.Lo x.Hi) hinv hx (by rw [h]; rfl)) _ _ ?_
   rw [w64s (by omega)]; rfl
 ·rintro _ hc _ hinv
  have h := take_end hinv
  repeat' (first | (apply zt1;exact rfl;(with_reducible assumption)) | (apply zt0;exact rfl;(with_reducible assumption)) | (apply zt;exact rfl) | (apply zo;exact rfl;exact rfl) | apply zn | (apply zc;exact rfl) | intro _)
  refine fin rfl (outB ?_)
  rw [setHas, eq_comm, List.any_eq_false]
  intro x hx
  have := List.all_eq_true.1 h x hx
  simpa using this
end Go.Wr
namespace Go.Wr
set_option linter.unusedVariables false
set_option linter.unusedSimpArgs false
set_option linter.unnecessarySimpa false
set_option maxRecDepth 20000
theorem impl_JudgeKnown_eq (w : GWorld) (hl : w.bulk <= 4000000) : F_impl_JudgeKnown [.st (w.cs .n)] = some ⟨[.one (.b (knownJ w))], []⟩ := by
 obtain ⟨hh, hal, hnl, hab⟩ := world_in hl
 (refine fun_ev rfl ?_; show Ev m_impl_JudgeKnown.code _ _ _)
 repeat' (first | (apply zy;exact rfl;exact rfl;(with_reducible assumption)) | (apply zm;exact rfl;exact rfl;(with_reducible assumption);exact rfl;exact rfl) | (apply ze;(iterate 5 exact rfl)) | (apply zf;(iterate 5 exact rfl)) | (apply zp;exact rfl;(with_reducible assumption);(iterate 3 exact rfl)) | (apply zk g_impl_WorldOk;exact rfl;exact rfl;exact (impl_WorldOk_eq w hl);(iterate 3 exact rfl)) | (apply zt1;exact rfl;(with_reducible assumption)) | (apply zt0;exact rfl;(with_reducible assumption)) | (apply zt;exact rfl) | (apply zo;exact rfl;exact rfl) | apply zn | (apply zc;exact rfl) | exact rfl | intro _)
 ·refine fin rfl (outB ?_)
  rename_i h
  rw [knownJ, not_t h]; rfl
 ·rename_i h
  have hw := not_f h
  obtain ⟨h3, hhs, hag⟩ := world_agents hw
  obtain ⟨hs3, hr3, hr2, hso⟩ := house_seats hhs
  rw [knownJ, hw, Bool.true_and]
  refine zfor (GSeat.el .n) w.House.Seats (fun i (_ : Unit) => [(1, .box ⟨0, 0, 0⟩ (w.cs .n)), (10, .x (GSeat.ls .n w.House.Seats)), (11, .x (iT (w.House.Seats.map (GSeat.el .n)).length)), (12, .x (iT i))]) (fun i _ => ∀ j, j < i -> knownAt w j = true) () (by omega) rfl ?_ ?_
  ·rintro i _ s hx hlt hc _ hinv ih
   have hxa := List.getElem?_eq_getElem (show i < w.Agents.length by omega)
   generalize w.Agents[i]'(by omega) = a at hxa
   have hsok := hso s (List.mem_of_getElem? hx)
   have haok := (hag i a hxa).1
   have hat : knownAt w i = knownI a s := by
    rw [known_same haok hsok, knownAt, hxa, hx]
   have htl := seat_l (seat_in hh hx)
   have hta := (agent_in (hab i a hxa)).2.1
   have hra : SetR a.Taken := (agent_size haok).2.2.1
   repeat' (first | (apply zy;exact rfl;exact rfl;(with_reducible assumption)) | (apply zm;exact rfl;exact rfl;(with_reducible assumption);exact rfl;exact rfl) | (apply ze;(iterate 5 exact rfl)) | (apply zf;(iterate 5 exact rfl)) | (apply zp;exact rfl;(with_reducible assumption);(iterate 3 exact rfl)) | (apply zi (GSeat.el .n s);exact rfl;exact rfl;exact Int.natCast_nonneg _;exact (map_at hx);exact rfl;exact rfl) | (apply zi (GAgent.el .n a);exact rfl;exact rfl;exact Int.natCast_nonneg _;exact (map_at hxa);exact rfl;exact rfl) | (apply zk g_impl_within2;exact rfl;exact rfl;exact (impl_within2_eq a.Taken s.Taken hta hra htl);(iterate 3 exact rfl)) | (apply zk g_impl_greatest;exact rfl;exact rfl;exact (impl_greatest_eq s.Taken htl);(iterate 3 exact rfl)) | (apply zt1;exact rfl;(with_reducible assumption)) | (apply zt0;exact rfl;(with_reducible assumption)) | (apply zt;exact rfl) | (apply zo;exact rfl;exact rfl) | apply zn | (apply zc;exact rfl) | exact rfl | intro _)
   ·refine fin rfl (outB ?_)
    rename_i h5
    rw [List.length_map] at h5
    have h6 : knownAt w i = false := by
     rw [hat, knownI]; revert h5
     cases (membersL a.Taken).any fun n => !setHas s.Taken n <;> cases decide (greatestS s.Taken > (a.Sealed.length : Int)) <;> simp
    rw [allIx_not (hs3 ▸ hlt) h6]
   ·rename_i h5
    rw [List.length_map] at h5
    have h6 : knownAt w i = true := by
     rw [hat, knownI]; revert h5
     cases (membersL a.Taken).any fun n => !setHas s.Taken n <;> cases decide (greatestS s.Taken > (a.Sealed.length : Int)) <;> simp
    refine ih () (upto_succ hinv h6) _ _ ?_
    rw [w64s (by omega)]; rfl
  ·rintro _ hc _ hinv
   rw [allIx_of (hs3 ▸ hinv)]
   repeat' (first | (apply zy;exact rfl;exact rfl;(with_reducible assumption)) | (apply zm;exact rfl;exact rfl;(with_reducible assumption);exact rfl;exact rfl) | (apply ze;(iterate 5 exact rfl)) | (apply zf;(iterate 5 exact rfl)) | (apply zp;exact rfl;(with_reducible assumption);(iterate 3 exact rfl)) | (apply zt1;exact rfl;(with_reducible assumption)) | (apply zt0;exact rfl;(with_reducible assumption)) | (apply zt;exact rfl) | (apply zo;exact rfl;exact rfl) | apply zn | (apply zc;exact rfl) | exact rfl | intro _)
   exact fin rfl rfl
theorem spec_JudgeKnown_eq (w : GWorld) (hl : w.bulk <= 4000000) : F_spec_JudgeKnown [.st (w.cs .n)] = some ⟨[.one (.b (knownJ w))], []⟩ := by
 obtain ⟨hh, hal, hnl, hab⟩ := world_in hl
 (refine fun_ev rfl ?_; show Ev m_spec_JudgeKnown.code _ _ _)
 repeat' (first | (apply zy;exact rfl;exact rfl;(with_reducible assumption)) | (apply zm;exact rfl;exact rfl;(with_reducible assumption);exact rfl;exact rfl) | (apply ze;(iterate 5 exact rfl)) | (apply zf;(iterate 5 exact rfl)) | (apply zp;exact rfl;(with_reducible assumption);(iterate 3 exact rfl)) | (apply zk g_spec_WorldOk;exact rfl;exact rfl;exact (spec_WorldOk_eq w hl);(iterate 3 exact rfl)) | (apply zt1;exact rfl;(with_reducible assumption)) | (apply zt0;exact rfl;(with_reducible assumption)) | (apply zt;exact rfl) | (apply zo;exact rfl;exact rfl) | apply zn | (apply zc;exact rfl) | exact rfl | intro _)
 ·refine fin rfl (outB ?_)
  rename_i h
  rw [knownJ, not_t h]; rfl
 ·rename_i h
  have hw := not_f h
  obtain ⟨h3, hhs, hag⟩ := world_agents hw
  obtain ⟨hs3, hr3, hr2, hso⟩ := house_seats hhs
  rw [knownJ, hw, Bool.true_and]
  refine zfor (GSeat.el .n) w.House.Seats (fun i (_ : Unit) => [(1, .box ⟨0, 0, 0⟩ (w.cs .n)), (3, .x (iT i))]) (fun i _ => ∀ j, j < i -> knownAt w j = true) () (by omega) rfl ?_ ?_
  ·rintro i _ s hx hlt _ _ hinv ih
   have hc : decide ((i : Int) < 3) = true := by simp; omega
   have hxa := List.getElem?_eq_getElem (show i < w.Agents.length by omega)
   generalize w.Agents[i]'(by omega) = a at hxa
   have hat : knownAt w i = allIx 60 (knownSeq a s) := by rw [knownAt, hxa, hx]
   have htl := seat_l (seat_in hh hx)
   have hta := (agent_in (hab i a hxa)).2.1
   repeat' (first | (apply zy;exact rfl;exact rfl;(with_reducible assumption)) | (apply zm;exact rfl;exact rfl;(with_reducible assumption);exact rfl;exact rfl) | (apply ze;(iterate 5 exact rfl)) | (apply zf;(iterate 5 exact rfl)) | (apply zp;exact rfl;(with_reducible assumption);(iterate 3 exact rfl)) | (apply zt1;exact rfl;(with_reducible assumption)) | (apply zt0;exact rfl;(with_reducible assumption)) | (apply zt;exact rfl) | (apply zo;exact rfl;exact rfl) | apply zn | (apply zc;exact rfl) | exact rfl | intro _)
   refine zfor (fun k : Nat => iT k) (List.range 60) (fun k (_ : Unit) => [(1, .box ⟨0, 0, 0⟩ (w.cs .n)), (3, .x (iT i)), (4, .x (iT ((k : Int) + 1)))]) (fun k _ => ∀ j, j < k -> knownSeq a s j = true) () (by omega) rfl ?_ ?_
   ·rintro k _ y hy hlt2 _ _ hinv2 ih2
    rw [List.length_range] at hlt2
    have hc2 : decide ((k : Int) + 1 <= 60) = true := by simp; omega
    repeat' (first | (apply zy;exact rfl;exact rfl;(with_reducible assumption)) | (apply zm;exact rfl;exact rfl;(with_reducible assumption);exact rfl;exact rfl) | (apply ze;(iterate 5 exact rfl)) | (apply zf;(iterate 5 exact rfl)) | (apply zp;exact rfl;(with_reducible assumption);(iterate 3 exact rfl)) | (apply zi (GSeat.el .n s);exact rfl;exact rfl;exact Int.natCast_nonneg _;exact (map_at hx);exact rfl;exact rfl) | (apply zi (GAgent.el .n a);exact rfl;exact rfl;exact Int.natCast_nonneg _;exact (map_at hxa);exact rfl;exact rfl) | (apply zk g_spec_SetHas;exact rfl;exact rfl;exact (spec_SetHas_eq s.Taken _ htl);(iterate 3 exact rfl)) | (apply zk g_spec_SetHas;exact rfl;exact rfl;exact (spec_SetHas_eq a.Taken _ hta);(iterate 3 exact rfl)) | (apply zt1;exact rfl;(with_reducible assumption)) | (apply zt0;exact rfl;(with_reducible assumption)) | (apply zt;exact rfl) | (apply zo;exact rfl;exact rfl) | apply zn | (apply zc;exact rfl) | exact rfl | intro _)
    ·refine fin rfl (outB ?_)
     rename_i h5
     rw [List.length_map] at h5
     have h6 : knownSeq a s k = false := by rw [knownSeq, h5]; rfl
     rw [allIx_not (hs3 ▸ hlt) (hat.trans (allIx_not hlt2 h6))]
    ·rename_i h5
     rw [List.length_map] at h5
     have h6 : knownSeq a s k = true := by rw [knownSeq, h5]; rfl
     refine ih2 () (upto_succ hinv2 h6) _ _ ?_
     rw [show IntKind.i64.wrap ((k : Int) + 1 + 1) = ((k + 1 : Nat) : Int) + 1 by rw [w64 (by omega)]; omega]; rfl
   ·rintro _ _ _ hinv2
    have hc2 : decide ((((List.range 60).length : Nat) : Int) + 1 <= 60) = false := by simp
    rw [List.length_range] at hinv2
    repeat' (first | (apply zy;exact rfl;exact rfl;(with_reducible assumption)) | (apply zm;exact rfl;exact rfl;(with_reducible assumption);exact rfl;exact rfl) | (apply ze;(iterate 5 exact rfl)) | (apply zf;(iterate 5 exact rfl)) | (apply zp;exact rfl;(with_reducible assumption);(iterate 3 exact rfl)) | (apply zt1;exact rfl;(with_reducible assumption)) | (apply zt0;exact rfl;(with_reducible assumption)) | (apply zt;exact rfl) | (apply zo;exact rfl;exact rfl) | apply zn | (apply zc;exact rfl) | exact rfl | intro _)
    refine ih () (upto_succ hinv (hat.trans (allIx_of hinv2))) _ _ ?_
    rw [w64s (by omega)]; rfl
  ·rintro _ _ _ hinv
   have hc : decide ((w.House.Seats.length : Int) < 3) = false := by rw [hs3]; rfl
   rw [allIx_of (hs3 ▸ hinv)]
   repeat' (first | (apply zy;exact rfl;exact rfl;(with_reducible assumption)) | (apply zm;exact rfl;exact rfl;(with_reducible assumption);exact rfl;exact rfl) | (apply ze;(iterate 5 exact rfl)) | (apply zf;(iterate 5 exact rfl)) | (apply zp;exact rfl;(with_reducible assumption);(iterate 3 exact rfl)) | (apply zt1;exact rfl;(with_reducible assumption)) | (apply zt0;exact rfl;(with_reducible assumption)) | (apply zt;exact rfl) | (apply zo;exact rfl;exact rfl) | apply zn | (apply zc;exact rfl) | exact rfl | intro _)
   exact fin rfl rfl
end Go.Wr
namespace Go.Wr
set_option linter.unusedVariables false
set_option linter.unusedSimpArgs false
set_option linter.unnecessarySimpa false
set_option maxRecDepth 20000
theorem not_due {c : GConf} {n : Int} : (!c.ok || !inB n 0 20) = !(c.ok && inB n 0 20) := by cases c.ok <;> simp
theorem due_w {c : GConf} {n : Int} (h : (c.ok && inB n 0 20) = true) : IntKind.i64.wrap (IntKind.i64.wrap (c.Long * IntKind.i64.wrap (n + 1)) + c.Grace) = c.Long * (n + 1) + c.Grace := by
 simp only [GConf.ok, Bool.and_eq_true, inB, decide_eq_true_eq] at h
 have h1 : 0 <= c.Long * (n + 1) := Int.mul_nonneg (by omega) (by omega)
 have h2 : c.Long * (n + 1) <= 20 * 21 := Int.mul_le_mul (by omega) (by omega) (by omega) (by omega)
 rw [w64 (n := n + 1) (by omega), w64 (n := c.Long * (n + 1)) (by omega), w64 (by omega)]
theorem impl_Due_eq (c : GConf) (n : Int) (hl : c.Weights.length <= 4194304) : F_impl_Due [.st (c.cs .n), .x (iT n)] = some ⟨[.one (iT (dueOf c n))], []⟩ := by
 (refine fun_ev rfl ?_; show Ev m_impl_Due.code _ _ _)
 repeat' (first | (apply zy;exact rfl;exact rfl;(with_reducible assumption)) | (apply zm;exact rfl;exact rfl;(with_reducible assumption);exact rfl;exact rfl) | (apply ze;(iterate 5 exact rfl)) | (apply zf;(iterate 5 exact rfl)) | (apply zp;exact rfl;(with_reducible assumption);(iterate 3 exact rfl)) | (apply zk g_impl_ConfOk;exact rfl;exact rfl;exact (impl_ConfOk_eq c hl);(iterate 3 exact rfl)) | (apply zk g_impl_within;exact rfl;exact rfl;exact (impl_within_eq _ _ _);(iterate 3 exact rfl)) | (apply zt1;exact rfl;(with_reducible assumption)) | (apply zt0;exact rfl;(with_reducible assumption)) | (apply zt;exact rfl) | (apply zo;exact rfl;exact rfl) | apply zn | (apply zc;exact rfl) | exact rfl | intro _)
 ·refine fin rfl (outI ?_)
  rename_i h
  rw [not_due] at h
  rw [dueOf, if_neg (by rw [not_t h]; simp)]
 ·rename_i h
  rw [not_due] at h
  refine fin rfl (outI ?_)
  rw [due_w (not_f h), dueOf, if_pos (not_f h)]
theorem spec_Due_eq (c : GConf) (n : Int) (hl : c.Weights.length <= 4194304) : F_spec_Due [.st (c.cs .n), .x (iT n)] = some ⟨[.one (iT (dueOf c n))], []⟩ := by
 (refine fun_ev rfl ?_; show Ev m_spec_Due.code _ _ _)
 repeat' (first | (apply zy;exact rfl;exact rfl;(with_reducible assumption)) | (apply zm;exact rfl;exact rfl;(with_reducible assumption);exact rfl;exact rfl) | (apply ze;(iterate 5 exact rfl)) | (apply zf;(iterate 5 exact rfl)) | (apply zp;exact rfl;(with_reducible assumption);(iterate 3 exact rfl)) | (apply zk g_spec_ConfOk;exact rfl;exact rfl;exact (spec_ConfOk_eq c hl);(iterate 3 exact rfl)) | (apply zk g_spec_l1In;exact rfl;exact rfl;exact (spec_l1In_eq _ _ _);(iterate 3 exact rfl)) | (apply zt1;exact rfl;(with_reducible assumption)) | (apply zt0;exact rfl;(with_reducible assumption)) | (apply zt;exact rfl) | (apply zo;exact rfl;exact rfl) | apply zn | (apply zc;exact rfl) | exact rfl | intro _)
 ·refine fin rfl (outI ?_)
  rename_i h
  rw [not_due] at h
  rw [dueOf, if_neg (by rw [not_t h]; simp)]
 ·rename_i h
  rw [not_due] at h
  refine fin rfl (outI ?_)
  rw [due_w (not_f h), dueOf, if_pos (not_f h)]
theorem sealed_cases {w : GWorld} (h3 : w.Agents.length = 3) (id key wn : Int) :
  (inB (id.tdiv 100) 0 2 = false /\ sealedIn w id key wn = false) \/
  (∃ a, inB (id.tdiv 100) 0 2 = true /\ 0 <= id.tdiv 100 /\ w.Agents[(id.tdiv 100).toNat]? = some a /\ inB (id.tmod 100) 1 a.Sealed.length = false /\ sealedIn w id key wn = false) \/
  (∃ a x, inB (id.tdiv 100) 0 2 = true /\ 0 <= id.tdiv 100 /\ w.Agents[(id.tdiv 100).toNat]? = some a /\ inB (id.tmod 100) 1 a.Sealed.length = true /\ 0 <= id.tmod 100 - 1 /\ a.Sealed[(id.tmod 100 - 1).toNat]? = some x /\ sealedIn w id key wn = (x.Key == key && x.Window == wn)) := by
 unfold sealedIn
 generalize id.tdiv 100 = q
 generalize id.tmod 100 = r
 cases h1 : inB q 0 2 with
 | false => exact .inl ⟨rfl, rfl⟩
 | true =>
  refine .inr ?_
  have h1' := h1
  simp only [inB, Bool.and_eq_true, decide_eq_true_eq] at h1
  have ha := List.getElem?_eq_getElem (show q.toNat < w.Agents.length by omega)
  generalize w.Agents[q.toNat]'(by omega) = a at ha
  cases h2 : inB r 1 a.Sealed.length with
  | false => exact .inl ⟨a, rfl, h1.1, ha, h2, by rw [ha]; simp [h2]⟩
  | true =>
   have h2' := h2
   simp only [inB, Bool.and_eq_true, decide_eq_true_eq] at h2
   have hx := List.getElem?_eq_getElem (show (r - 1).toNat < a.Sealed.length by omega)
   generalize a.Sealed[(r - 1).toNat]'(by omega) = x at hx
   exact .inr ⟨a, x, rfl, h1.1, ha, h2', by omega, hx, by simp only [Bool.true_and, ha, h2', hx]⟩
theorem id_div {n : Int} (h : 0 <= n /\ n <= 9999) : IntKind.i64.wrap (n.tdiv 100) = n.tdiv 100 := by
 rw [Int.tdiv_eq_ediv_of_nonneg h.1, w64 (by omega)]
theorem id_mod {n : Int} (h : 0 <= n /\ n <= 9999) : IntKind.i64.wrap (n.tmod 100 - 1) = n.tmod 100 - 1 := by
 rw [Int.tmod_eq_emod_of_nonneg h.1, w64 (by omega)]
theorem spec_l19Sealed_eq (w : GWorld) (n key wn : Int) (hl : w.bulk <= 4000000) (h3 : w.Agents.length = 3) (hn : 0 <= n /\ n <= 9999) : F_spec_l19Sealed [.st (w.cs .n), .x (iT n), .x (iT key), .x (iT wn)] = some ⟨[.one (.b (sealedIn w n key wn))], []⟩ := by
 obtain ⟨hh, hal, hnl, hab⟩ := world_in hl
 have hq := id_div hn
 have hr := id_mod hn
 rcases sealed_cases h3 n key wn with ⟨h1, h2⟩ | ⟨a, h1, h0, ha, h2, h4⟩ | ⟨a, x, h1, h0, ha, h2, h5, hx, h4⟩
 ·have g1 : (!inB (IntKind.i64.wrap (n.tdiv 100)) 0 2) = !false := by rw [hq, h1]
  have g2 : true = true := rfl
  (refine fun_ev rfl ?_; show Ev m_spec_l19Sealed.code _ _ _)
  repeat' (first | (apply zy;exact rfl;exact rfl;(with_reducible assumption)) | (apply zm;exact rfl;exact rfl;(with_reducible assumption);exact rfl;exact rfl) | (apply ze;(iterate 5 exact rfl)) | (apply zf;(iterate 5 exact rfl)) | (apply zp;exact rfl;(with_reducible assumption);(iterate 3 exact rfl)) | (apply zk g_spec_l6Agent;exact rfl;exact rfl;exact (spec_l6Agent_eq _);(iterate 3 exact rfl)) | (apply zt1;exact rfl;(with_reducible assumption)) | (apply zt0;exact rfl;(with_reducible assumption)) | (apply zt;exact rfl) | (apply zo;exact rfl;exact rfl) | apply zn | (apply zc;exact rfl) | exact rfl | intro _)
  exact fin rfl (outB h2.symm)
 ·have g1 : (!inB (IntKind.i64.wrap (n.tdiv 100)) 0 2) = false := by rw [hq, h1]; rfl
  have g2 : (!inB (n.tmod 100) 1 ((a.Sealed.map (GItem.el .n)).length : Int)) = true := by rw [List.length_map, h2]; rfl
  have k0 : 0 <= IntKind.i64.wrap (n.tdiv 100) := by rw [hq]; exact h0
  have kp : (w.Agents.map (GAgent.el .n))[(IntKind.i64.wrap (n.tdiv 100)).toNat]? = some (GAgent.el .n a) := by rw [hq]; exact map_at ha
  (refine fun_ev rfl ?_; show Ev m_spec_l19Sealed.code _ _ _)
  repeat' (first | (apply zy;exact rfl;exact rfl;(with_reducible assumption)) | (apply zm;exact rfl;exact rfl;(with_reducible assumption);exact rfl;exact rfl) | (apply ze;(iterate 5 exact rfl)) | (apply zf;(iterate 5 exact rfl)) | (apply zp;exact rfl;(with_reducible assumption);(iterate 3 exact rfl)) | (apply zk g_spec_l6Agent;exact rfl;exact rfl;exact (spec_l6Agent_eq _);(iterate 3 exact rfl)) | (apply zk g_spec_l1In;exact rfl;exact rfl;exact (spec_l1In_eq _ _ _);(iterate 3 exact rfl)) | (apply zi (GAgent.el .n a);exact rfl;exact rfl;exact (k0);exact (kp);exact rfl;exact rfl) | (apply zt1;exact rfl;(with_reducible assumption)) | (apply zt0;exact rfl;(with_reducible assumption)) | (apply zt;exact rfl) | (apply zo;exact rfl;exact rfl) | apply zn | (apply zc;exact rfl) | exact rfl | intro _)
  exact fin rfl (outB h4.symm)
 ·have g1 : (!inB (IntKind.i64.wrap (n.tdiv 100)) 0 2) = false := by rw [hq, h1]; rfl
  have g2 : (!inB (n.tmod 100) 1 ((a.Sealed.map (GItem.el .n)).length : Int)) = false := by rw [List.length_map, h2]; rfl
  have k0 : 0 <= IntKind.i64.wrap (n.tdiv 100) := by rw [hq]; exact h0
  have kp : (w.Agents.map (GAgent.el .n))[(IntKind.i64.wrap (n.tdiv 100)).toNat]? = some (GAgent.el .n a) := by rw [hq]; exact map_at ha
  have l0 : 0 <= IntKind.i64.wrap (n.tmod 100 - 1) := by rw [hr]; exact h5
  have lp : (a.Sealed.map (GItem.el .n))[(IntKind.i64.wrap (n.tmod 100 - 1)).toNat]? = some (GItem.el .n x) := by rw [hr]; exact map_at hx
  (refine fun_ev rfl ?_; show Ev m_spec_l19Sealed.code _ _ _)
  repeat' (first | (apply zy;exact rfl;exact rfl;(with_reducible assumption)) | (apply zm;exact rfl;exact rfl;(with_reducible assumption);exact rfl;exact rfl) | (apply ze;(iterate 5 exact rfl)) | (apply zf;(iterate 5 exact rfl)) | (apply zp;exact rfl;(with_reducible assumption);(iterate 3 exact rfl)) | (apply zk g_spec_l6Agent;exact rfl;exact rfl;exact (spec_l6Agent_eq _);(iterate 3 exact rfl)) | (apply zk g_spec_l1In;exact rfl;exact rfl;exact (spec_l1In_eq _ _ _);(iterate 3 exact rfl)) | (apply zi (GAgent.el .n a);exact rfl;exact rfl;exact (k0);exact (kp);exact rfl;exact rfl) | (apply zi (GItem.el .n x);exact rfl;exact rfl;exact (l0);exact (lp);exact rfl;exact rfl) | (apply zt1;exact rfl;(with_reducible assumption)) | (apply zt0;exact rfl;(with_reducible assumption)) | (apply zt;exact rfl) | (apply zo;exact rfl;exact rfl) | apply zn | (apply zc;exact rfl) | exact rfl | intro _)
  exact fin rfl (outB h4.symm)
theorem outs_ids {h : GHouse} (hh : houseS h = true) {o : GOut} (ho : o ∈ h.Outs) : SetR o.Entry.Ids :=
 ok_setR (house_ents hh _ (List.mem_append_right _ (List.mem_append_right _ (List.mem_map.2 ⟨o, ho, rfl⟩))))
theorem outs_len {h : GHouse} (hl : h.bulk <= 4000000) : h.Outs.length <= 4000000 /\ h.Conf.Weights.length <= 4194304 /\ ∀ (i : Nat) o, h.Outs[i]? = some o -> o.Entry.Ids.length <= 4000000 := by
 have h1 := bulks_len GOut.bulk h.Outs
 unfold GHouse.bulk at hl
 have hc : h.Conf.Weights.length <= h.Conf.bulk := Nat.le_refl _
 refine ⟨by omega, by omega, fun i o ho => ?_⟩
 have h2 := bulks_mem (f := GOut.bulk) ho
 have h3 : o.Entry.Ids.length <= o.bulk := by unfold GOut.bulk GEntry.bulk; omega
 omega
theorem members_bnd {s : List GSpan} (hs : SetR s) {k : Nat} {n : Int} (h : (membersL s)[k]? = some n) : 0 <= n /\ n <= 9999 := by
 obtain ⟨x, hx, h1, h2⟩ := mem_members.1 (List.mem_of_getElem? h)
 have := hs.span hx
 unfold SpanR at this
 omega
theorem told_not {w : GWorld} {i : Nat} {o : GOut} (hx : w.House.Outs[i]? = some o) (h : toldO w o = false) : w.House.Outs.all (toldO w) = false := not_all hx h
theorem impl_JudgeTold_eq (w : GWorld) (hl : w.bulk <= 4000000) : F_impl_JudgeTold [.st (w.cs .n)] = some ⟨[.one (.b (toldJ w))], []⟩ := by
 obtain ⟨hh, hal, hnl, hab⟩ := world_in hl
 obtain ⟨hol, hwl, hid⟩ := outs_len hh
 (refine fun_ev rfl ?_; show Ev m_impl_JudgeTold.code _ _ _)
 repeat' (first | (apply zy;exact rfl;exact rfl;(with_reducible assumption)) | (apply zm;exact rfl;exact rfl;(with_reducible assumption);exact rfl;exact rfl) | (apply ze;(iterate 5 exact rfl)) | (apply zf;(iterate 5 exact rfl)) | (apply zp;exact rfl;(with_reducible assumption);(iterate 3 exact rfl)) | (apply zk g_impl_WorldOk;exact rfl;exact rfl;exact (impl_WorldOk_eq w hl);(iterate 3 exact rfl)) | (apply zt1;exact rfl;(with_reducible assumption)) | (apply zt0;exact rfl;(with_reducible assumption)) | (apply zt;exact rfl) | (apply zo;exact rfl;exact rfl) | apply zn | (apply zc;exact rfl) | exact rfl | intro _)
 ·refine fin rfl (outB ?_)
  rename_i h
  rw [toldJ, not_t h]; rfl
 ·rename_i h
  have hw := not_f h
  obtain ⟨h3, hhs, hag⟩ := world_agents hw
  rw [toldJ, hw, Bool.true_and]
  refine zfor (GOut.el .n) w.House.Outs (fun i (_ : Unit) => [(1, .box ⟨0, 0, 0⟩ (w.cs .n)), (15, .x (GOut.ls .n w.House.Outs)), (16, .x (iT (w.House.Outs.map (GOut.el .n)).length)), (17, .x (iT i))]) (fun i _ => (w.House.Outs.take i).all (toldO w) = true) () (by simp) rfl ?_ ?_
  ·rintro i _ o hx hlt hc _ hinv ih
   have hor := outs_ids hhs (List.mem_of_getElem? hx)
   have hil : o.Entry.Ids.length <= 4194304 := by have := hid i o hx; omega
   have hml := members_le hor
   repeat' (first | (apply zy;exact rfl;exact rfl;(with_reducible assumption)) | (apply zm;exact rfl;exact rfl;(with_reducible assumption);exact rfl;exact rfl) | (apply ze;(iterate 5 exact rfl)) | (apply zf;(iterate 5 exact rfl)) | (apply zp;exact rfl;(with_reducible assumption);(iterate 3 exact rfl)) | (apply zi (GOut.el .n o);exact rfl;exact rfl;exact Int.natCast_nonneg _;exact (map_at hx);exact rfl;exact rfl) | (apply zk g_impl_members;exact rfl;exact rfl;exact (impl_members_eq o.Entry.Ids hil hor);(iterate 3 exact rfl)) | (apply zt1;exact rfl;(with_reducible assumption)) | (apply zt0;exact rfl;(with_reducible assumption)) | (apply zt;exact rfl) | (apply zo;exact rfl;exact rfl) | apply zn | (apply zc;exact rfl) | exact rfl | intro _)
   refine zfor iT (membersL o.Entry.Ids) (fun k (_ : Unit) => [(1, .box ⟨0, 0, 0⟩ (w.cs .n)), (4, .box ⟨0, 0, 0⟩ (o.cs .n)), (15, .x (GOut.ls .n w.House.Outs)), (16, .x (iT (w.House.Outs.map (GOut.el .n)).length)), (17, .x (iT i)), (24, .own ⟨0, 0, 0⟩ (ints .y (membersL o.Entry.Ids))), (25, .x (iT ((membersL o.Entry.Ids).map iT).length)), (26, .x (iT k))]) (fun k _ => ((membersL o.Entry.Ids).take k).all (fun n => sealedIn w n o.Entry.Key o.Entry.Window) = true) () (by simp) rfl ?_ ?_
   ·rintro k _ n hy hlt2 hc2 _ hinv2 ih2
    have hn := members_bnd hor hy
    have hq := id_div hn
    have hr := id_mod hn
    have hno : sealedIn w n o.Entry.Key o.Entry.Window = false -> w.House.Outs.all (toldO w) = false := fun h => told_not hx (by rw [toldO, not_all (p := fun n => sealedIn w n o.Entry.Key o.Entry.Window) hy h]; rfl)
    rcases sealed_cases h3 n o.Entry.Key o.Entry.Window with ⟨h1, h2⟩ | ⟨a, h1, h0, ha, h2, h4⟩ | ⟨a, x, h1, h0, ha, h2, h5, hxx, h4⟩
    ·have g1 : (!inB (IntKind.i64.wrap (n.tdiv 100)) 0 2) = !false := by rw [hq, h1]
     have g2 : true = true := rfl
     repeat' (first | (apply zy;exact rfl;exact rfl;(with_reducible assumption)) | (apply zm;exact rfl;exact rfl;(with_reducible assumption);exact rfl;exact rfl) | (apply ze;(iterate 5 exact rfl)) | (apply zf;(iterate 5 exact rfl)) | (apply zp;exact rfl;(with_reducible assumption);(iterate 3 exact rfl)) | (apply zw;exact rfl;exact rfl;exact Int.natCast_nonneg _;exact (own_lt hlt2);exact rfl;exact rfl) | (apply zl (iT n);exact rfl;exact rfl;exact (nav_at (map_at hy));(iterate 3 exact rfl)) | (apply zk g_impl_within;exact rfl;exact rfl;exact (impl_within_eq _ _ _);(iterate 3 exact rfl)) | (apply zt1;exact rfl;(with_reducible assumption)) | (apply zt0;exact rfl;(with_reducible assumption)) | (apply zt;exact rfl) | (apply zo;exact rfl;exact rfl) | apply zn | (apply zc;exact rfl) | exact rfl | intro _)
     exact fin rfl (outB (hno h2).symm)
    ·have g1 : (!inB (IntKind.i64.wrap (n.tdiv 100)) 0 2) = false := by rw [hq, h1]; rfl
     have g2 : (!inB (n.tmod 100) 1 ((a.Sealed.map (GItem.el .n)).length : Int)) = true := by rw [List.length_map, h2]; rfl
     have k0 : 0 <= IntKind.i64.wrap (n.tdiv 100) := by rw [hq]; exact h0
     have kp : (w.Agents.map (GAgent.el .n))[(IntKind.i64.wrap (n.tdiv 100)).toNat]? = some (GAgent.el .n a) := by rw [hq]; exact map_at ha
     repeat' (first | (apply zy;exact rfl;exact rfl;(with_reducible assumption)) | (apply zm;exact rfl;exact rfl;(with_reducible assumption);exact rfl;exact rfl) | (apply ze;(iterate 5 exact rfl)) | (apply zf;(iterate 5 exact rfl)) | (apply zp;exact rfl;(with_reducible assumption);(iterate 3 exact rfl)) | (apply zw;exact rfl;exact rfl;exact Int.natCast_nonneg _;exact (own_lt hlt2);exact rfl;exact rfl) | (apply zl (iT n);exact rfl;exact rfl;exact (nav_at (map_at hy));(iterate 3 exact rfl)) | (apply zk g_impl_within;exact rfl;exact rfl;exact (impl_within_eq _ _ _);(iterate 3 exact rfl)) | (apply zi (GAgent.el .n a);exact rfl;exact rfl;exact (k0);exact (kp);exact rfl;exact rfl) | (apply zt1;exact rfl;(with_reducible assumption)) | (apply zt0;exact rfl;(with_reducible assumption)) | (apply zt;exact rfl) | (apply zo;exact rfl;exact rfl) | apply zn | (apply zc;exact rfl) | exact rfl | intro _)
     exact fin rfl (outB (hno h4).symm)
    ·have g1 : (!inB (IntKind.i64.wrap (n.tdiv 100)) 0 2) = false := by rw [hq, h1]; rfl
     have g2 : (!inB (n.tmod 100) 1 ((a.Sealed.map (GItem.el .n)).length : Int)) = false := by rw [List.length_map, h2]; rfl
     have k0 : 0 <= IntKind.i64.wrap (n.tdiv 100) := by rw [hq]; exact h0
     have kp : (w.Agents.map (GAgent.el .n))[(IntKind.i64.wrap (n.tdiv 100)).toNat]? = some (GAgent.el .n a) := by rw [hq]; exact map_at ha
     have l0 : 0 <= IntKind.i64.wrap (n.tmod 100 - 1) := by rw [hr]; exact h5
     have lp : (a.Sealed.map (GItem.el .n))[(IntKind.i64.wrap (n.tmod 100 - 1)).toNat]? = some (GItem.el .n x) := by rw [hr]; exact map_at hxx
     repeat' (first | (apply zy;exact rfl;exact rfl;(with_reducible assumption)) | (apply zm;exact rfl;exact rfl;(with_reducible assumption);exact rfl;exact rfl) | (apply ze;(iterate 5 exact rfl)) | (apply zf;(iterate 5 exact rfl)) | (apply zp;exact rfl;(with_reducible assumption);(iterate 3 exact rfl)) | (apply zw;exact rfl;exact rfl;exact Int.natCast_nonneg _;exact (own_lt hlt2);exact rfl;exact rfl) | (apply zl (iT n);exact rfl;exact rfl;exact (nav_at (map_at hy));(iterate 3 exact rfl)) | (apply zk g_impl_within;exact rfl;exact rfl;exact (impl_within_eq _ _ _);(iterate 3 exact rfl)) | (apply zi (GAgent.el .n a);exact rfl;exact rfl;exact (k0);exact (kp);exact rfl;exact rfl) | (apply zi (GItem.el .n x);exact rfl;exact rfl;exact (l0);exact (lp);exact rfl;exact rfl) | (apply zt1;exact rfl;(with_reducible assumption)) | (apply zt0;exact rfl;(with_reducible assumption)) | (apply zt;exact rfl) | (apply zo;exact rfl;exact rfl) | apply zn | (apply zc;exact rfl) | exact rfl | intro _)
     ·refine fin rfl (outB (hno ?_).symm)
      rename_i h6
      rw [h4]; revert h6; rw [bne, bne]
      cases x.Key == o.Entry.Key <;> cases x.Window == o.Entry.Window <;> simp
     ·rename_i h6
      have h7 : sealedIn w n o.Entry.Key o.Entry.Window = true := by
       rw [h4]; revert h6; rw [bne, bne]
       cases x.Key == o.Entry.Key <;> cases x.Window == o.Entry.Window <;> simp
      refine ih2 () (take_all (p := fun n => sealedIn w n o.Entry.Key o.Entry.Window) hinv2 hy h7) _ _ ?_
      rw [w64s (by omega)]; rfl
   ·rintro _ hc2 _ hinv2
    have hall := take_end hinv2
    repeat' (first | (apply zy;exact rfl;exact rfl;(with_reducible assumption)) | (apply zm;exact rfl;exact rfl;(with_reducible assumption);exact rfl;exact rfl) | (apply ze;(iterate 5 exact rfl)) | (apply zf;(iterate 5 exact rfl)) | (apply zp;exact rfl;(with_reducible assumption);(iterate 3 exact rfl)) | (apply zk g_impl_Due;exact rfl;exact rfl;exact (impl_Due_eq w.House.Conf _ hwl);(iterate 3 exact rfl)) | (apply zt1;exact rfl;(with_reducible assumption)) | (apply zt0;exact rfl;(with_reducible assumption)) | (apply zt;exact rfl) | (apply zo;exact rfl;exact rfl) | apply zn | (apply zc;exact rfl) | exact rfl | intro _)
    ·refine fin rfl (outB (told_not hx ?_).symm)
     rename_i h5
     rw [toldO, h5]; simp
    ·rename_i h5
     refine ih () (take_all hinv hx ?_) _ _ ?_
     ·rw [toldO, hall, h5]; rfl
     ·rw [w64s (by omega)]; rfl
  ·rintro _ hc _ hinv
   rw [take_end hinv]
   repeat' (first | (apply zy;exact rfl;exact rfl;(with_reducible assumption)) | (apply zm;exact rfl;exact rfl;(with_reducible assumption);exact rfl;exact rfl) | (apply ze;(iterate 5 exact rfl)) | (apply zf;(iterate 5 exact rfl)) | (apply zp;exact rfl;(with_reducible assumption);(iterate 3 exact rfl)) | (apply zt1;exact rfl;(with_reducible assumption)) | (apply zt0;exact rfl;(with_reducible assumption)) | (apply zt;exact rfl) | (apply zo;exact rfl;exact rfl) | apply zn | (apply zc;exact rfl) | exact rfl | intro _)
   exact fin rfl rfl
theorem spec_JudgeTold_eq (w : GWorld) (hl : w.bulk <= 4000000) : F_spec_JudgeTold [.st (w.cs .n)] = some ⟨[.one (.b (toldJ w))], []⟩ := by
 obtain ⟨hh, hal, hnl, hab⟩ := world_in hl
 obtain ⟨hol, hwl, hid⟩ := outs_len hh
 (refine fun_ev rfl ?_; show Ev m_spec_JudgeTold.code _ _ _)
 repeat' (first | (apply zy;exact rfl;exact rfl;(with_reducible assumption)) | (apply zm;exact rfl;exact rfl;(with_reducible assumption);exact rfl;exact rfl) | (apply ze;(iterate 5 exact rfl)) | (apply zf;(iterate 5 exact rfl)) | (apply zp;exact rfl;(with_reducible assumption);(iterate 3 exact rfl)) | (apply zk g_spec_WorldOk;exact rfl;exact rfl;exact (spec_WorldOk_eq w hl);(iterate 3 exact rfl)) | (apply zt1;exact rfl;(with_reducible assumption)) | (apply zt0;exact rfl;(with_reducible assumption)) | (apply zt;exact rfl) | (apply zo;exact rfl;exact rfl) | apply zn | (apply zc;exact rfl) | exact rfl | intro _)
 ·refine fin rfl (outB ?_)
  rename_i h
  rw [toldJ, not_t h]; rfl
 ·rename_i h
  have hw := not_f h
  obtain ⟨h3, hhs, hag⟩ := world_agents hw
  rw [toldJ, hw, Bool.true_and]
  refine zfor (GOut.el .n) w.House.Outs (fun i (_ : Unit) => [(1, .box ⟨0, 0, 0⟩ (w.cs .n)), (3, .x (iT i))]) (fun i _ => (w.House.Outs.take i).all (toldO w) = true) () (by simp) rfl ?_ ?_
  ·rintro i _ o hx hlt hc _ hinv ih
   have hor := outs_ids hhs (List.mem_of_getElem? hx)
   have hil : o.Entry.Ids.length <= 4194304 := by have := hid i o hx; omega
   repeat' (first | (apply zy;exact rfl;exact rfl;(with_reducible assumption)) | (apply zm;exact rfl;exact rfl;(with_reducible assumption);exact rfl;exact rfl) | (apply ze;(iterate 5 exact rfl)) | (apply zf;(iterate 5 exact rfl)) | (apply zp;exact rfl;(with_reducible assumption);(iterate 3 exact rfl)) | (apply zi (GOut.el .n o);exact rfl;exact rfl;exact Int.natCast_nonneg _;exact (map_at hx);exact rfl;exact rfl) | (apply zt1;exact rfl;(with_reducible assumption)) | (apply zt0;exact rfl;(with_reducible assumption)) | (apply zt;exact rfl) | (apply zo;exact rfl;exact rfl) | apply zn | (apply zc;exact rfl) | exact rfl | intro _)
   refine zfor (GSpan.el .n) o.Entry.Ids (fun k (_ : Unit) => [(1, .box ⟨0, 0, 0⟩ (w.cs .n)), (3, .x (iT i)), (4, .box ⟨0, 0, 0⟩ (o.cs .n)), (5, .x (iT k))]) (fun k _ => ((membersL (o.Entry.Ids.take k)).all fun n => sealedIn w n o.Entry.Key o.Entry.Window) = true) () (by simp [membersL]) rfl ?_ ?_
   ·rintro k _ y hy hlt2 hc2 _ hinv2 ih2
    have hsp := hor.span (List.mem_of_getElem? hy)
    unfold SpanR at hsp
    repeat' (first | (apply zy;exact rfl;exact rfl;(with_reducible assumption)) | (apply zm;exact rfl;exact rfl;(with_reducible assumption);exact rfl;exact rfl) | (apply ze;(iterate 5 exact rfl)) | (apply zf;(iterate 5 exact rfl)) | (apply zp;exact rfl;(with_reducible assumption);(iterate 3 exact rfl)) | (apply zi (GSpan.el .n y);exact rfl;exact rfl;exact Int.natCast_nonneg _;exact (map_at hy);exact rfl;exact rfl) | (apply zt1;exact rfl;(with_reducible assumption)) | (apply zt0;exact rfl;(with_reducible assumption)) | (apply zt;exact rfl) | (apply zo;exact rfl;exact rfl) | apply zn | (apply zc;exact rfl) | exact rfl | intro _)
    refine zfor iT (mOf y) (fun m (_ : Unit) => [(1, .box ⟨0, 0, 0⟩ (w.cs .n)), (3, .x (iT i)), (4, .box ⟨0, 0, 0⟩ (o.cs .n)), (5, .x (iT k)), (6, .x (iT (y.Lo + (m : Nat))))]) (fun m _ => ((mOf y).take m).all (fun n => sealedIn w n o.Entry.Key o.Entry.Window) = true) () (by simp) (by rw [show y.Lo + ((0 : Nat) : Int) = y.Lo by omega]; rfl) ?_ ?_
    ·rintro m _ n hz hlt3 _ _ hinv3 ih3
     have hz0 := hz
     obtain ⟨rfl, hle⟩ := mOf_at hz
     have hc3 : decide (y.Lo + ((m : Nat) : Int) <= y.Hi) = true := by simpa using hle
     repeat' (first | (apply zy;exact rfl;exact rfl;(with_reducible assumption)) | (apply zm;exact rfl;exact rfl;(with_reducible assumption);exact rfl;exact rfl) | (apply ze;(iterate 5 exact rfl)) | (apply zf;(iterate 5 exact rfl)) | (apply zp;exact rfl;(with_reducible assumption);(iterate 3 exact rfl)) | (apply zi (GSpan.el .n y);exact rfl;exact rfl;exact Int.natCast_nonneg _;exact (map_at hy);exact rfl;exact rfl) | (apply zk g_spec_l19Sealed;exact rfl;exact rfl;exact (spec_l19Sealed_eq w _ _ _ hl h3 ⟨by omega, by omega⟩);(iterate 3 exact rfl)) | (apply zt1;exact rfl;(with_reducible assumption)) | (apply zt0;exact rfl;(with_reducible assumption)) | (apply zt;exact rfl) | (apply zo;exact rfl;exact rfl) | apply zn | (apply zc;exact rfl) | exact rfl | intro _)
     ·refine fin rfl (outB (told_not hx ?_).symm)
      rename_i h5
      have hmm : y.Lo + ((m : Nat) : Int) ∈ membersL o.Entry.Ids := mem_members.2 ⟨y, List.mem_of_getElem? hy, by omega, hle⟩
      obtain ⟨j, hj⟩ := List.mem_iff_getElem?.1 hmm
      rw [toldO, not_all (p := fun n => sealedIn w n o.Entry.Key o.Entry.Window) hj (not_t h5)]; rfl
     ·rename_i h5
      refine ih3 () (take_all (p := fun n => sealedIn w n o.Entry.Key o.Entry.Window) hinv3 hz0 (not_f h5)) _ _ ?_
      rw [show IntKind.i64.wrap (y.Lo + ((m : Nat) : Int) + 1) = y.Lo + ((m + 1 : Nat) : Int) by rw [w64 (by omega)]; omega]; rfl
    ·rintro _ _ _ hinv3
     have hc3 : decide (y.Lo + (((mOf y).length : Nat) : Int) <= y.Hi) = false := by rw [mOf_len]; simp; omega
     repeat' (first | (apply zy;exact rfl;exact rfl;(with_reducible assumption)) | (apply zm;exact rfl;exact rfl;(with_reducible assumption);exact rfl;exact rfl) | (apply ze;(iterate 5 exact rfl)) | (apply zf;(iterate 5 exact rfl)) | (apply zp;exact rfl;(with_reducible assumption);(iterate 3 exact rfl)) | (apply zi (GSpan.el .n y);exact rfl;exact rfl;exact Int.natCast_nonneg _;exact (map_at hy);exact rfl;exact rfl) | (apply zt1;exact rfl;(with_reducible assumption)) | (apply zt0;exact rfl;(with_reducible assumption)) | (apply zt;exact rfl) | (apply zo;exact rfl;exact rfl) | apply zn | (apply zc;exact rfl) | exact rfl | intro _)
     refine ih2 () ?_ _ _ ?_
     ·rw [membersL_eq, flat_succ hy, List.all_append, <- membersL_eq, hinv2, take_end hinv3]; rfl
     ·rw [w64s (by omega)]; rfl
   ·rintro _ hc2 _ hinv2
    rw [List.take_length] at hinv2
    repeat' (first | (apply zy;exact rfl;exact rfl;(with_reducible assumption)) | (apply zm;exact rfl;exact rfl;(with_reducible assumption);exact rfl;exact rfl) | (apply ze;(iterate 5 exact rfl)) | (apply zf;(iterate 5 exact rfl)) | (apply zp;exact rfl;(with_reducible assumption);(iterate 3 exact rfl)) | (apply zk g_spec_Due;exact rfl;exact rfl;exact (spec_Due_eq w.House.Conf _ hwl);(iterate 3 exact rfl)) | (apply zt1;exact rfl;(with_reducible assumption)) | (apply zt0;exact rfl;(with_reducible assumption)) | (apply zt;exact rfl) | (apply zo;exact rfl;exact rfl) | apply zn | (apply zc;exact rfl) | exact rfl | intro _)
    ·refine fin rfl (outB (told_not hx ?_).symm)
     rename_i h5
     rw [toldO, h5]; simp
    ·rename_i h5
     refine ih () (take_all hinv hx ?_) _ _ ?_
     ·rw [toldO, hinv2, h5]; rfl
     ·rw [w64s (by omega)]; rfl
  ·rintro _ hc _ hinv
   rw [take_end hinv]
   repeat' (first | (apply zy;exact rfl;exact rfl;(with_reducible assumption)) | (apply zm;exact rfl;exact rfl;(with_reducible assumption);exact rfl;exact rfl) | (apply ze;(iterate 5 exact rfl)) | (apply zf;(iterate 5 exact rfl)) | (apply zp;exact rfl;(with_reducible assumption);(iterate 3 exact rfl)) | (apply zt1;exact rfl;(with_reducible assumption)) | (apply zt0;exact rfl;(with_reducible assumption)) | (apply zt;exact rfl) | (apply zo;exact rfl;exact rfl) | apply zn | (apply zc;exact rfl) | exact rfl | intro _)
   exact fin rfl rfl
end Go.Wr
namespace Go.Wr
set_option linter.unusedVariables false
set_option linter.unusedSimpArgs false
set_option linter.unnecessarySimpa false
set_option maxRecDepth 20000
theorem laws_FnExactJudgeKnown_eq (a : GWorld) (ha : a.fit) : F_laws_FnExactJudgeKnown [.st (a.cs .n)] = some ⟨[.one (.b true)], []⟩ := by
 have r0 : Rng 1048576 := ⟨by omega, by omega⟩
 have s1 := laws_szWorld_eq a 1048576 r0 ha
 cases h1 : decide (left 1048576 a.bulk < 0) with
 | true =>
  (refine fun_ev rfl ?_; show Ev m_laws_FnExactJudgeKnown.code _ _ _)
  repeat' (first | (apply zk g_laws_szWorld;exact rfl;simp only [List.map,fzl];exact rfl;exact (s1);exact rfl;exact rfl;exact rfl) | (apply zt1;exact rfl;(with_reducible assumption)) | (apply zt0;exact rfl;(with_reducible assumption)) | (apply zt;exact rfl) | (apply zo;exact rfl;exact rfl) | apply zn | (apply zc;exact rfl) | intro _)
  exact fin rfl rfl
 | false =>
  have o1 := left_ok r0 h1
  have la : a.bulk <= 1048576 := by omega
  have lb : a.bulk <= 4000000 := by omega
  (refine fun_ev rfl ?_; show Ev m_laws_FnExactJudgeKnown.code _ _ _)
  repeat' (first | (apply zk g_laws_szWorld;exact rfl;simp only [List.map,fzl];exact rfl;exact (s1);exact rfl;exact rfl;exact rfl) | (apply zk g_laws_toWorld;exact rfl;simp only [List.map,fzl];exact rfl;exact (laws_toWorld_eq a la);exact rfl;exact rfl;exact rfl) | (apply zk g_spec_JudgeKnown;exact rfl;simp only [List.map,fzl];exact rfl;exact (spec_JudgeKnown_eq a lb);exact rfl;exact rfl;exact rfl) | (apply zk g_impl_JudgeKnown;exact rfl;simp only [List.map,fzl];exact rfl;exact (impl_JudgeKnown_eq a lb);exact rfl;exact rfl;exact rfl) | (apply zk g_laws_eqWorld;exact rfl;simp only [List.map,fzl];exact rfl;exact (laws_eqWorld_eq a a la);exact rfl;exact rfl;exact rfl) | (apply zt1;exact rfl;(with_reducible assumption)) | (apply zt0;exact rfl;(with_reducible assumption)) | (apply zt;exact rfl) | (apply zo;exact rfl;exact rfl) | apply zn | (apply zc;exact rfl) | intro _)
  all_goals first | (rename_i h; simp at h; done) | (exact fin rfl rfl)
end Go.Wr
namespace Go.Wr
set_option linter.unusedVariables false
set_option linter.unusedSimpArgs false
set_option linter.unnecessarySimpa false
set_option maxRecDepth 20000
theorem laws_FnExactJudgeTold_eq (a : GWorld) (ha : a.fit) : F_laws_FnExactJudgeTold [.st (a.cs .n)] = some ⟨[.one (.b true)], []⟩ := by
 have r0 : Rng 1048576 := ⟨by omega, by omega⟩
 have s1 := laws_szWorld_eq a 1048576 r0 ha
 cases h1 : decide (left 1048576 a.bulk < 0) with
 | true =>
  (refine fun_ev rfl ?_; show Ev m_laws_FnExactJudgeTold.code _ _ _)
  repeat' (first | (apply zk g_laws_szWorld;exact rfl;simp only [List.map,fzl];exact rfl;exact (s1);exact rfl;exact rfl;exact rfl) | (apply zt1;exact rfl;(with_reducible assumption)) | (apply zt0;exact rfl;(with_reducible assumption)) | (apply zt;exact rfl) | (apply zo;exact rfl;exact rfl) | apply zn | (apply zc;exact rfl) | intro _)
  exact fin rfl rfl
 | false =>
  have o1 := left_ok r0 h1
  have la : a.bulk <= 1048576 := by omega
  have lb : a.bulk <= 4000000 := by omega
  (refine fun_ev rfl ?_; show Ev m_laws_FnExactJudgeTold.code _ _ _)
  repeat' (first | (apply zk g_laws_szWorld;exact rfl;simp only [List.map,fzl];exact rfl;exact (s1);exact rfl;exact rfl;exact rfl) | (apply zk g_laws_toWorld;exact rfl;simp only [List.map,fzl];exact rfl;exact (laws_toWorld_eq a la);exact rfl;exact rfl;exact rfl) | (apply zk g_spec_JudgeTold;exact rfl;simp only [List.map,fzl];exact rfl;exact (spec_JudgeTold_eq a lb);exact rfl;exact rfl;exact rfl) | (apply zk g_impl_JudgeTold;exact rfl;simp only [List.map,fzl];exact rfl;exact (impl_JudgeTold_eq a lb);exact rfl;exact rfl;exact rfl) | (apply zk g_laws_eqWorld;exact rfl;simp only [List.map,fzl];exact rfl;exact (laws_eqWorld_eq a a la);exact rfl;exact rfl;exact rfl) | (apply zt1;exact rfl;(with_reducible assumption)) | (apply zt0;exact rfl;(with_reducible assumption)) | (apply zt;exact rfl) | (apply zo;exact rfl;exact rfl) | apply zn | (apply zc;exact rfl) | intro _)
  all_goals first | (rename_i h; simp at h; done) | (exact fin rfl rfl)
end Go.Wr

