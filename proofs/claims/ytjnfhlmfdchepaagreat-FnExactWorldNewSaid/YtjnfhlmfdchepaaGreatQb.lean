/-
  What is proved: lemmas on the way to the laws of this seat. No condition.
-/
import Derived.Test.YtjnfhlmfdchepaaGreatQa
import Derived.Test.YtjnfhlmfdchepaaGreatRe
set_option linter.unusedVariables false
set_option linter.unusedSimpArgs false
namespace Go.Wr
set_option maxRecDepth 20000
theorem seat_wrap {s : GSeat} {per : Int} (h1 : inB per 1 8 = true) (h2 : inB s.Merged 0 (setSize s.Taken) = true) (hl : s.bulk <= 4000000) : IntKind.i64.wrap (s.Merged + per) = s.Merged + per := by
 simp only [inB, Bool.and_eq_true, decide_eq_true_eq] at h1 h2
 have h3 : setSize s.Taken <= 10000 * 4000000 := by
  unfold setSize
  split
  ·rename_i h
   have := sumSpan_bnd fun x hx => setOk_bnd h hx
   simp only [GSeat.bulk] at hl
   omega
  ·omega
 rw [w64 (by omega)]
theorem qc_eq (s : GSeat) (per : Int) (hl : s.bulk <= 4000000) : F_qc [.st (s.cs .n), .x (iT per)] = some ⟨[.one (.b (s.ok per))], []⟩ := by
 have hl2 : s.Taken.length <= 4194304 := by simp only [GSeat.bulk] at hl; omega
 (refine fun_ev rfl ?_; show Ev m_qc.code _ _ _)
 repeat' (first | refine yy ?_ | refine ym ?_ | (apply ze;(iterate 5 exact rfl)) | (apply zf;(iterate 5 exact rfl)) | refine yp ?_ | refine yk g_q2 (q2_eq _ _ _) ?_ | refine yk g_q6 (q6_eq s.Taken _ _ hl2) ?_ | refine yk g_qb (qb_eq s.Taken hl2) ?_ | refine yo ?_ | apply zn | refine yc ?_ | exact rfl | intro _)
 refine fin rfl (outB ?_)
 rw [GSeat.ok]
 cases h1 : inB per 1 8
 ·simp
 ·cases h2 : inB s.Merged 0 (setSize s.Taken)
  ·simp
  ·rw [seat_wrap h1 h2 hl]
theorem q2n_eq (s : GSeat) (per : Int) (hl : s.bulk <= 4000000) : F_q2n [.st (s.cs .n), .x (iT per)] = some ⟨[.one (.b (s.ok per))], []⟩ := by
 have hl2 : s.Taken.length <= 4194304 := by simp only [GSeat.bulk] at hl; omega
 (refine fun_ev rfl ?_; show Ev m_q2n.code _ _ _)
 repeat' (first | refine yy ?_ | refine ym ?_ | (apply ze;(iterate 5 exact rfl)) | (apply zf;(iterate 5 exact rfl)) | refine yp ?_ | refine yk g_q2a (q2a_eq _ _ _) ?_ | refine yk g_q2h (q2h_eq s.Taken _ hl2) ?_ | refine yk g_q2m (q2m_eq s.Taken hl2) ?_ | refine yo ?_ | apply zn | refine yc ?_ | exact rfl | intro _)
 refine fin rfl (outB ?_)
 rw [GSeat.ok]
 cases h1 : inB per 1 8
 ·simp
 ·cases h2 : inB s.Merged 0 (setSize s.Taken)
  ·simp
  ·rw [seat_wrap h1 h2 hl]
end Go.Wr
namespace Go.Wr
set_option maxRecDepth 20000
end Go.Wr
namespace Go.Wr
set_option maxRecDepth 20000
end Go.Wr
namespace Go.Wr
set_option maxRecDepth 20000
structure PutR (i : Nat) (p : PutS) : Prop where
 len : p.out.length <= 2 * i
 hi : HiR p.x
end Go.Wr
namespace Go.Wr
set_option maxRecDepth 20000
def SpanR (x : GSpan) : Prop := 0 <= x.Lo /\ x.Lo <= x.Hi /\ x.Hi <= 9999
theorem SpanR.hi {x : GSpan} (h : SpanR x) : HiR x := by unfold SpanR HiR at *; omega
end Go.Wr

