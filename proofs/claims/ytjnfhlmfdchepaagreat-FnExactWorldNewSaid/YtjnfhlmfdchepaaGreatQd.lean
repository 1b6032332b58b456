/-
  What is proved: lemmas on the way to the laws of this seat. No condition.
-/
import Derived.Test.YtjnfhlmfdchepaaGreatQc
import Derived.Test.YtjnfhlmfdchepaaGreatPb
import Derived.Test.YtjnfhlmfdchepaaGreatTa
import Derived.Test.YtjnfhlmfdchepaaGreatHa
import Derived.Test.YtjnfhlmfdchepaaGreatHb
set_option linter.unusedVariables false
set_option linter.unusedSimpArgs false
namespace Go.Wr
set_option maxRecDepth 20000
theorem q4_eq (x : GItem) (hl : x.bulk <= 4000000) : F_q4 [.st (x.cs .n)] = some ⟨[.one (.b x.ok)], []⟩ := by
 have hs : x.Sketch.bulk <= 4000000 := hl
 (refine fun_ev rfl ?_; show Ev m_q4.code _ _ _)
 repeat' (first | refine yy ?_ | refine ym ?_ | (apply ze;(iterate 5 exact rfl)) | (apply zf;(iterate 5 exact rfl)) | refine yp ?_ | refine yk g_q2 (q2_eq _ _ _) ?_ | refine yk g_q3 (q3_eq x.Sketch hs) ?_ | refine yo ?_ | apply zn | refine yc ?_ | exact rfl | intro _)
 exact fin rfl rfl
theorem q2e_eq (x : GItem) (hl : x.bulk <= 4000000) : F_q2e [.st (x.cs .n)] = some ⟨[.one (.b x.ok)], []⟩ := by
 have hs : x.Sketch.bulk <= 4194304 := Nat.le_trans hl (by omega)
 (refine fun_ev rfl ?_; show Ev m_q2e.code _ _ _)
 repeat' (first | refine yy ?_ | refine ym ?_ | (apply ze;(iterate 5 exact rfl)) | (apply zf;(iterate 5 exact rfl)) | refine yp ?_ | refine yk g_q2a (q2a_eq _ _ _) ?_ | refine yk g_q2d (q2d_eq _ _) ?_ | refine yk g_q2c (q2c_eq x.Sketch hs) ?_ | refine yo ?_ | apply zn | refine yc ?_ | exact rfl | intro _)
 refine fin rfl (outB ?_)
 rw [GItem.ok]
 generalize inB x.Seq 1 60 = a
 generalize inB x.Class 0 1 = b
 generalize inB x.Key 0 4 = c
 generalize inB x.Window 0 20 = d
 generalize x.Sketch.ok = e
 revert a b c d e; decide
theorem agent_in {a : GAgent} (hl : a.bulk <= 4000000) : a.Sealed.length <= 4000000 /\ a.Taken.length <= 4194304 /\ ∀ (i : Nat) x, a.Sealed[i]? = some x -> x.bulk <= 4000000 := by
 have h1 := bulks_len GItem.bulk a.Sealed
 unfold GAgent.bulk at hl
 refine ⟨by omega, by omega, fun i x hx => ?_⟩
 have := bulks_mem (f := GItem.bulk) hx
 omega
theorem gt_not (n m : Nat) : decide ((n : Int) > (m : Nat)) = !decide (n <= m) := by
 rw [Bool.eq_iff_iff]; simp only [decide_eq_true_eq, Bool.not_eq_true', decide_eq_false_iff_not]; omega
theorem not_agentTop {a : GAgent} : ((((!inB a.Id 0 2 || !inB a.Epoch 0 1000) || !inB a.Granted 0 60) || decide (((a.Sealed.map (GItem.el .n)).length : Int) > 60)) || !inB a.Next 0 60) = !agentTop a := by
 rw [show (60 : Int) = ((60 : Nat) : Int) from rfl, List.length_map, gt_not, agentTop]
 cases inB a.Id 0 2 <;> cases inB a.Epoch 0 1000 <;> cases inB a.Granted 0 (60 : Nat) <;> cases decide (a.Sealed.length <= 60) <;> simp
theorem q7_eq (a : GAgent) (hl : a.bulk <= 4000000) : F_q7 [.st (a.cs .n)] = some ⟨[.one (.b a.ok)], []⟩ := by
 obtain ⟨h1, h2, h3⟩ := agent_in hl
 (refine fun_ev rfl ?_; show Ev m_q7.code _ _ _)
 repeat' (first | refine yy ?_ | refine ym ?_ | (apply ze;(iterate 5 exact rfl)) | (apply zf;(iterate 5 exact rfl)) | refine yp ?_ | refine yk g_q2 (q2_eq _ _ _) ?_ | refine yt1 ?_ | refine yt0 ?_ | refine yt ?_ ?_ | refine yo ?_ | apply zn | refine yc ?_ | exact rfl | intro _)
 ·refine fin rfl (outB ?_)
  rename_i h
  rw [not_agentTop] at h
  have h4 : agentTop a = false := by simpa using h
  rw [GAgent.ok, h4]; rfl
 ·rename_i h
  rw [not_agentTop] at h
  have h4 : agentTop a = true := by simpa using h
  refine zfor (GItem.el .n) a.Sealed (fun i (_ : Unit) => [(1, .box ⟨0, 0, 0⟩ (a.cs .n)), (34, .x (GItem.ls .n a.Sealed)), (35, .x (iT (a.Sealed.map (GItem.el .n)).length)), (36, .x (iT i))]) (fun i _ => ∀ j, j < i -> sealAt a.Sealed j = true) () (by omega) rfl ?_ ?_
  ·rintro i _ x hx hlt hc _ hinv ih
   have hbx := h3 i x hx
   have hw : IntKind.i64.wrap ((i : Int) + 1) = (i : Int) + 1 := w64 (by omega)
   repeat' (first | refine yy ?_ | refine ym ?_ | (apply ze;(iterate 5 exact rfl)) | (apply zf;(iterate 5 exact rfl)) | refine yp ?_ | refine yi (GItem.el .n x) (map_at hx) ?_ | refine yk g_q4 (q4_eq x hbx) ?_ | refine yt1 ?_ | refine yt0 ?_ | refine yt ?_ ?_ | refine yo ?_ | apply zn | refine yc ?_ | exact rfl | intro _)
   ·refine fin rfl (outB ?_)
    rename_i h5
    rw [hw, bne] at h5
    have h6 : sealAt a.Sealed i = false := by rw [sealAt_at hx]; revert h5; cases x.ok <;> simp
    rw [GAgent.ok, allIx_not hlt h6, Bool.and_false]
   ·rename_i h5
    rw [hw, bne] at h5
    have h6 : sealAt a.Sealed i = true := by rw [sealAt_at hx]; revert h5; cases x.ok <;> simp
    refine ih () (upto_succ hinv h6) _ _ ?_
    rw [w64s (by omega)]; rfl
  ·rintro _ hc _ hinv
   repeat' (first | refine yy ?_ | refine ym ?_ | (apply ze;(iterate 5 exact rfl)) | (apply zf;(iterate 5 exact rfl)) | refine yp ?_ | refine yk g_q6 (q6_eq a.Taken _ _ h2) ?_ | refine yt1 ?_ | refine yt0 ?_ | refine yt ?_ ?_ | refine yo ?_ | apply zn | refine yc ?_ | exact rfl | intro _)
   refine fin rfl (outB ?_)
   rw [GAgent.ok, h4, allIx_of hinv, List.length_map]
   have h7 : inB a.Granted 0 60 = true := by simp only [agentTop, Bool.and_eq_true] at h4; exact h4.1.1.2
   have h8 : (a.Granted == 0) = !decide (a.Granted > 0) := by
    simp only [inB, Bool.and_eq_true, decide_eq_true_eq] at h7
    rw [Bool.eq_iff_iff]; simp only [beq_iff_eq, Bool.not_eq_true', decide_eq_false_iff_not]; omega
   rw [h8, Bool.true_and, Bool.and_true]
theorem q2i_eq (a : GAgent) (hl : a.bulk <= 4000000) : F_q2i [.st (a.cs .n)] = some ⟨[.one (.b a.ok)], []⟩ := by
 obtain ⟨h1, h2, h3⟩ := agent_in hl
 (refine fun_ev rfl ?_; show Ev m_q2i.code _ _ _)
 repeat' (first | refine yy ?_ | refine ym ?_ | (apply ze;(iterate 5 exact rfl)) | (apply zf;(iterate 5 exact rfl)) | refine yp ?_ | refine yk g_q2a (q2a_eq _ _ _) ?_ | refine yk g_q2f (q2f_eq _) ?_ | refine yk g_q2h (q2h_eq a.Taken _ h2) ?_ | refine yt1 ?_ | refine yt0 ?_ | refine yt ?_ ?_ | refine yo ?_ | apply zn | refine yc ?_ | exact rfl | intro _)
 ·refine fin rfl (outB ?_)
  rename_i h
  rw [not_agentTop, List.length_map] at h
  rw [GAgent.ok]
  revert h
  cases agentTop a <;> cases allIn a.Taken 1 a.Sealed.length <;> cases a.Live <;> cases decide (a.Granted > 0) <;> simp
 ·rename_i h
  rw [not_agentTop, List.length_map] at h
  have h4 : (agentTop a && allIn a.Taken 1 a.Sealed.length && (a.Live || !decide (a.Granted > 0))) = true := by
   revert h
   cases agentTop a <;> cases allIn a.Taken 1 a.Sealed.length <;> cases a.Live <;> cases decide (a.Granted > 0) <;> simp
  rw [GAgent.ok, h4, Bool.true_and]
  refine zfor (GItem.el .n) a.Sealed (fun i (_ : Unit) => [(1, .box ⟨0, 0, 0⟩ (a.cs .n)), (3, .x (iT i))]) (fun i _ => ∀ j, j < i -> sealAt a.Sealed j = true) () (by omega) rfl ?_ ?_
  ·rintro i _ x hx hlt hc _ hinv ih
   have hbx := h3 i x hx
   have hw : IntKind.i64.wrap ((i : Int) + 1) = (i : Int) + 1 := w64 (by omega)
   repeat' (first | refine yy ?_ | refine ym ?_ | (apply ze;(iterate 5 exact rfl)) | (apply zf;(iterate 5 exact rfl)) | refine yp ?_ | refine yi (GItem.el .n x) (map_at hx) ?_ | refine yk g_q2e (q2e_eq x hbx) ?_ | refine yt1 ?_ | refine yt0 ?_ | refine yt ?_ ?_ | refine yo ?_ | apply zn | refine yc ?_ | exact rfl | intro _)
   ·refine fin rfl (outB ?_)
    rename_i h5
    rw [hw, bne] at h5
    have h6 : sealAt a.Sealed i = false := by rw [sealAt_at hx]; revert h5; cases x.ok <;> simp
    rw [allIx_not hlt h6]
   ·rename_i h5
    rw [hw, bne] at h5
    have h6 : sealAt a.Sealed i = true := by rw [sealAt_at hx]; revert h5; cases x.ok <;> simp
    refine ih () (upto_succ hinv h6) _ _ ?_
    rw [w64s (by omega)]; rfl
  ·rintro _ hc _ hinv
   rw [allIx_of hinv]
   repeat' (first | refine yy ?_ | refine ym ?_ | (apply ze;(iterate 5 exact rfl)) | (apply zf;(iterate 5 exact rfl)) | refine yp ?_ | refine yt1 ?_ | refine yt0 ?_ | refine yt ?_ ?_ | refine yo ?_ | apply zn | refine yc ?_ | exact rfl | intro _)
   exact fin rfl rfl
end Go.Wr
namespace Go.Wr
set_option maxRecDepth 20000
theorem minl (a b : Int) : (if b < a then b else a) = min a b := by rw [Int.min_def]; split <;> split <;> omega
theorem q8_eq (i : Int) : F_q8 [.x (iT i)] = some ⟨[.st ((agentNew i).1.cs .y), .one (.b (agentNew i).2)], []⟩ := by
 (refine fun_ev rfl ?_; show Ev m_q8.code _ _ _)
 repeat' (first | refine yk g_q7 (q7_eq { GAgent.zero with Id := i } (Nat.zero_le _)) ?_ | refine yt1 ?_ | refine yt0 ?_ | refine yt ?_ ?_ | refine yo ?_ | apply zn | refine yc ?_ | intro _)
 ·refine fin rfl ?_
  rename_i h
  rw [agentNew, if_neg (by simpa using h)]
  rfl
 ·refine fin rfl ?_
  rename_i h
  rw [agentNew, if_pos (by simpa using h)]
  rfl
theorem q2j_eq (i : Int) : F_q2j [.x (iT i)] = some ⟨[.st ((agentNew i).1.cs .y), .one (.b (agentNew i).2)], []⟩ := by
 (refine fun_ev rfl ?_; show Ev m_q2j.code _ _ _)
 repeat' (first | refine yk g_q2i (q2i_eq { GAgent.zero with Id := i } (Nat.zero_le _)) ?_ | refine yt1 ?_ | refine yt0 ?_ | refine yt ?_ ?_ | refine yo ?_ | apply zn | refine yc ?_ | intro _)
 ·refine fin rfl ?_
  rename_i h
  rw [agentNew, if_neg (by simpa using h)]
  rfl
 ·refine fin rfl ?_
  rename_i h
  rw [agentNew, if_pos (by simpa using h)]
  rfl
theorem qe_eq (s : GSeat) (hl : s.bulk <= 4000000) : F_qe [.st (s.cs .n)] = some ⟨[.st (s.cs .y)], []⟩ := by
 have hl2 : s.Taken.length <= 4194304 := by simp only [GSeat.bulk] at hl; omega
 (refine fun_ev rfl ?_; show Ev m_qe.code _ _ _)
 repeat' (first | refine yk g_qd (qd_eq s.Taken hl2) ?_ | refine yo ?_ | apply zn | refine yc ?_ | intro _)
 refine fin rfl ?_
 simp only [sub_all]
 rfl
theorem q2q_eq (s : GSeat) (hl : s.bulk <= 4000000) : F_q2q [.st (s.cs .n)] = some ⟨[.st (s.cs .y)], []⟩ := by
 have hl2 : s.Taken.length <= 4194304 := by simp only [GSeat.bulk] at hl; omega
 (refine fun_ev rfl ?_; show Ev m_q2q.code _ _ _)
 repeat' (first | refine yk g_q2p (q2p_eq s.Taken hl2) ?_ | refine yo ?_ | apply zn | refine yc ?_ | intro _)
 refine fin rfl ?_
 simp only [sub_all]
 rfl
theorem qf_eq (s : GSeat) (per : Int) (hl : s.bulk <= 4000000) : F_qf [.st (s.cs .n), .x (iT per)] = some ⟨[.st ((seatGrant s per).cs .y)], []⟩ := by
 (refine fun_ev rfl ?_; show Ev m_qf.code _ _ _)
 repeat' (first | refine yk g_qe (qe_eq s hl) ?_ | refine yk g_qc (qc_eq s per hl) ?_ | refine yt1 ?_ | refine yt0 ?_ | refine yt ?_ ?_ | refine yo ?_ | apply zn | refine yc ?_ | intro _)
 ·refine fin rfl ?_
  rename_i h
  simp only [sub_all]
  rw [seatGrant, if_pos h, <- minl]
  rfl
 ·refine fin rfl ?_
  rename_i h
  simp only [sub_all]
  rw [seatGrant, if_neg (by simpa using h)]
  rfl
theorem q2r_eq (s : GSeat) (per : Int) (hl : s.bulk <= 4000000) : F_q2r [.st (s.cs .n), .x (iT per)] = some ⟨[.st ((seatGrant s per).cs .y)], []⟩ := by
 (refine fun_ev rfl ?_; show Ev m_q2r.code _ _ _)
 repeat' (first | refine yk g_q2q (q2q_eq s hl) ?_ | refine yk g_q2n (q2n_eq s per hl) ?_ | refine yk g_q2o (q2o_eq _ _) ?_ | refine yt1 ?_ | refine yt0 ?_ | refine yt ?_ ?_ | refine yo ?_ | apply zn | refine yc ?_ | intro _)
 ·refine fin rfl ?_
  rename_i h
  simp only [sub_all]
  rw [seatGrant, if_pos h]
  rfl
 ·refine fin rfl ?_
  rename_i h
  simp only [sub_all]
  rw [seatGrant, if_neg (by simpa using h)]
  rfl
theorem qg_eq : F_qg [] = some ⟨[.st (turnNew.cs .y)], []⟩ := by
 (refine fun_ev rfl ?_; show Ev m_qg.code _ _ _)
 repeat' (first | (apply zs;(iterate 3 exact rfl);exact (by decide);exact (by decide);exact rfl;exact rfl) | refine yo ?_ | apply zn | refine yc ?_ | intro _)
 exact fin rfl rfl
theorem q2s_eq : F_q2s [] = some ⟨[.st (turnNew.cs .y)], []⟩ := by
 (refine fun_ev rfl ?_; show Ev m_q2s.code _ _ _)
 repeat' (first | (apply zs;(iterate 3 exact rfl);exact (by decide);exact (by decide);exact rfl;exact rfl) | refine yo ?_ | apply zn | refine yc ?_ | intro _)
 exact fin rfl rfl
theorem qh_eq (c : GConf) (hl : c.Weights.length <= 4194304) : F_qh [.st (c.cs .n)] = some ⟨[.st (c.cs .y)], []⟩ := by
 (refine fun_ev rfl ?_; show Ev m_qh.code _ _ _)
 repeat' (first | refine yk g_q0 (q0_eq c.Weights hl) ?_ | refine yo ?_ | apply zn | refine yc ?_ | intro _)
 refine fin rfl ?_
 simp only [sub_all]
 rfl
theorem q2t_eq (c : GConf) (hl : c.Weights.length <= 4194304) : F_q2t [.st (c.cs .n)] = some ⟨[.st (c.cs .y)], []⟩ := by
 (refine fun_ev rfl ?_; show Ev m_q2t.code _ _ _)
 repeat' (first | (apply za;(iterate 3 exact rfl);exact (app_len hl);exact (flats_map (fun _ => rfl) _);exact rfl;exact rfl) | refine yo ?_ | apply zn | refine yc ?_ | intro _)
 refine fin rfl ?_
 simp only [sub_all]
 rfl
end Go.Wr
namespace Go.Wr
set_option maxRecDepth 20000
theorem seat_zb : GSeat.zero.bulk <= 4000000 := Nat.zero_le _
theorem seat_closed (s : GSeat) : closeds (s.cs .y) = true := by
 simp only [GSeat.cs, closeds, T.closed, closeds_map (f := GSpan.el .y) (fun _ => rfl), Bool.and_self]
theorem call_seat {hs : List Hand} (s : GSeat) (ha : apart hs = true) : callOk hs ⟨[.st (s.cs .y)], []⟩ = true := by
 simp only [callOk, ha, List.all_cons, List.all_nil, RV.closed, seat_closed, RV.good, Bool.and_self, Bool.or_true]
theorem houseNew_2 (c : GConf) : (houseNew c).2 = c.ok := by
 unfold houseNew; cases c.ok <;> rfl
theorem qi_eq (c : GConf) (hl : c.Weights.length <= 4194304) : F_qi [.st (c.cs .n)] = some ⟨[.st ((houseNew c).1.cs .y), .one (.b (houseNew c).2)], []⟩ := by
 (refine fun_ev rfl ?_; show Ev m_qi.code _ _ _)
 repeat' (first | refine yk g_qa (qa_eq c hl) ?_ | refine yk g_qh (qh_eq c hl) ?_ | refine zloop ?_ | refine yt1 ?_ (ht := rfl) | refine yt0 ?_ (ht := rfl) | refine yw g_qf (qf_eq GSeat.zero c.Per seat_zb) (call_seat _ rfl) ?_ | refine yk g_qg (qg_eq) ?_ | (apply zs;(iterate 3 exact rfl);exact (by decide);exact (by decide);exact rfl;exact rfl) | (apply zV;(iterate 8 exact rfl);exact (Nat.le_of_ble_eq_true rfl);exact (rfl);exact (Nat.le_of_ble_eq_true rfl);exact rfl;exact rfl) | refine yt1 ?_ | refine yt0 ?_ | refine yt ?_ ?_ | refine yo ?_ | apply zn | refine yc ?_ | intro _)
 ·refine fin rfl ?_
  rename_i h
  rw [houseNew, if_neg (by simpa using h)]
  rfl
 ·refine fin rfl ?_
  rename_i h
  simp only [sub_all]
  rw [houseNew, if_pos (by simpa using h)]
  rfl
theorem qj_eq (c : GConf) (hl : c.Weights.length <= 4194304) : F_qj [.st (c.cs .n)] = some ⟨[.st ((worldNew c).1.cs .y), .one (.b (worldNew c).2)], []⟩ := by
 (refine fun_ev rfl ?_; show Ev m_qj.code _ _ _)
 repeat' (first | refine yk g_qi (qi_eq c hl) ?_ | refine zloop ?_ | refine yt1 ?_ (ht := rfl) | refine yt0 ?_ (ht := rfl) | refine yk g_q8 (q8_eq _) ?_ | (apply zV;(iterate 8 exact rfl);exact (Nat.le_of_ble_eq_true rfl);exact (rfl);exact (Nat.le_of_ble_eq_true rfl);exact rfl;exact rfl) | refine yt1 ?_ | refine yt0 ?_ | refine yt ?_ ?_ | refine yo ?_ | apply zn | refine yc ?_ | intro _)
 ·refine fin rfl ?_
  rename_i h
  rw [worldNew, if_neg (by rw [houseNew_2] at h; simpa using h)]
  rfl
 ·refine fin rfl ?_
  rename_i h
  simp only [sub_all]
  rw [worldNew, if_pos (by rw [houseNew_2] at h; simpa using h)]
  rfl
theorem q2u_eq (c : GConf) (hl : c.Weights.length <= 4194304) : F_q2u [.st (c.cs .n)] = some ⟨[.st ((houseNew c).1.cs .y), .one (.b (houseNew c).2)], []⟩ := by
 (refine fun_ev rfl ?_; show Ev m_q2u.code _ _ _)
 repeat' (first | refine yk g_q2l (q2l_eq c hl) ?_ | refine yk g_q2t (q2t_eq c hl) ?_ | refine zloop ?_ | refine yt1 ?_ (ht := rfl) | refine yt0 ?_ (ht := rfl) | refine yw g_q2r (q2r_eq GSeat.zero c.Per seat_zb) (call_seat _ rfl) ?_ | refine yk g_q2s (q2s_eq) ?_ | (apply zs;(iterate 3 exact rfl);exact (by decide);exact (by decide);exact rfl;exact rfl) | (apply zV;(iterate 8 exact rfl);exact (Nat.le_of_ble_eq_true rfl);exact (rfl);exact (Nat.le_of_ble_eq_true rfl);exact rfl;exact rfl) | refine yt1 ?_ | refine yt0 ?_ | refine yt ?_ ?_ | refine yo ?_ | apply zn | refine yc ?_ | intro _)
 ·refine fin rfl ?_
  rename_i h
  rw [houseNew, if_neg (by simpa using h)]
  rfl
 ·refine fin rfl ?_
  rename_i h
  simp only [sub_all]
  rw [houseNew, if_pos (by simpa using h)]
  rfl
theorem q2v_eq (c : GConf) (hl : c.Weights.length <= 4194304) : F_q2v [.st (c.cs .n)] = some ⟨[.st ((worldNew c).1.cs .y), .one (.b (worldNew c).2)], []⟩ := by
 (refine fun_ev rfl ?_; show Ev m_q2v.code _ _ _)
 repeat' (first | refine yk g_q2u (q2u_eq c hl) ?_ | refine zloop ?_ | refine yt1 ?_ (ht := rfl) | refine yt0 ?_ (ht := rfl) | refine yk g_q2j (q2j_eq _) ?_ | (apply zV;(iterate 8 exact rfl);exact (Nat.le_of_ble_eq_true rfl);exact (rfl);exact (Nat.le_of_ble_eq_true rfl);exact rfl;exact rfl) | refine yt1 ?_ | refine yt0 ?_ | refine yt ?_ ?_ | refine yo ?_ | apply zn | refine yc ?_ | intro _)
 ·refine fin rfl ?_
  rename_i h
  rw [worldNew, if_neg (by rw [houseNew_2] at h; simpa using h)]
  rfl
 ·refine fin rfl ?_
  rename_i h
  simp only [sub_all]
  rw [worldNew, if_pos (by rw [houseNew_2] at h; simpa using h)]
  rfl
end Go.Wr
namespace Go.Wr
set_option maxRecDepth 20000
theorem laws_eqWorld_self (a : GWorld) (hl : a.bulk <= 1048576) : F_q19 [.st (a.cs .n), .st (a.cs .n)] = some ⟨[.one (.b true)], []⟩ := by rw [q19_eq a a hl]; simp
theorem laws_eqConf_self (a : GConf) (hl : a.bulk <= 1048576) : F_ql [.st (a.cs .n), .st (a.cs .n)] = some ⟨[.one (.b true)], []⟩ := by rw [ql_eq a a hl]; simp
set_option maxHeartbeats 4000000 in
theorem q2w_eq (a : GConf) (ha : a.fit) : F_q2w [.st (a.cs .n)] = some ⟨[.one (.b true)], []⟩ := by
 have r0 : Rng 1048576 := ⟨by omega, by omega⟩
 have s1 := q27_eq a 1048576 r0 ha
 cases h1 : decide (left 1048576 a.bulk < 0) with
 | true =>
  (refine fun_ev rfl ?_; show Ev m_q2w.code _ _ _)
  repeat' (first | refine yy ?_ | refine ym ?_ | (apply ze;(iterate 5 exact rfl)) | (apply zf;(iterate 5 exact rfl)) | refine yp ?_ | refine yv g_q27 (s1) ?_ | refine yt1 ?_ | refine yt0 ?_ | refine yt ?_ ?_ | refine yo ?_ | apply zn | refine yc ?_ | exact rfl | intro _)
  exact fin rfl rfl
 | false =>
  have o1 := left_ok r0 h1
  have la : a.bulk <= 1048576 := by omega
  have lw : a.Weights.length <= 4194304 := by unfold GConf.bulk at la; omega
  have k1 : (1 : Int) + (GConf.wS a : Int) <= top62 := by unfold GConf.wS top62; rw [wL_one]; omega
  have m1 := q1r_eq a 1 (by decide) k1
  have c1 := nnd (GConf.okS a 1 0 (by decide) k1).1
  have m2 := q25_eq (worldNew a).1 1 (by decide) (worldNew_w a)
  have m3 := q1p_eq (worldNew a).1 1 (by decide) (worldNew_w a)
  have c2 := nnd (GWorld.okS (worldNew a).1 1 0 (by decide) (worldNew_w a)).1
  have e1 := laws_eqWorld_self (worldNew a).1 (worldNew_bulk a)
  have e2 := laws_eqConf_self a la
  (refine fun_ev rfl ?_; show Ev m_q2w.code _ _ _)
  repeat' (first | refine yy ?_ | refine ym ?_ | (apply ze;(iterate 5 exact rfl)) | (apply zf;(iterate 5 exact rfl)) | refine yp ?_ | refine yv g_q27 (s1) ?_ | refine yv g_q29 (q29_eq a la) ?_ | refine yw g_q2v (q2v_eq a lw) (call_sb (GWorld.cl _) rfl) ?_ | refine yw g_qj (qj_eq a lw) (call_sb (GWorld.cl _) rfl) ?_ | refine yv g_q19 (e1) ?_ | refine yv g_ql (e2) ?_ | refine yN g_q1r m1 ?_ | refine yN g_q25 m2 ?_ | refine yv g_q1p (m3) ?_ | refine yy ?_ (ht := rfl) | refine ym ?_ (ht := rfl) | refine yp ?_ (ht := rfl) | refine yt0 ?_ (ht := rfl) | refine yt0 ?_ (ht := neB _) | refine yt0 ?_ (ht := neI _) | refine yt1 ?_ | refine yt0 ?_ | refine yt ?_ ?_ | refine yo ?_ | apply zn | refine yc ?_ | exact rfl | intro _)
  all_goals exact fin rfl rfl
end Go.Wr

