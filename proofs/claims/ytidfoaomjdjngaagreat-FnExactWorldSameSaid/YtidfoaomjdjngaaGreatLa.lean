/-
  What is proved: the law FnExactWorldSame returns true for every input and leaves its arguments as they were. No condition.
-/
import Derived.Test.YtidfoaomjdjngaaGreatHa
import Derived.Test.YtidfoaomjdjngaaGreatSa
set_option linter.unusedVariables false
set_option linter.unusedSimpArgs false
namespace Go.Wr
set_option linter.unusedVariables false
set_option linter.unusedSimpArgs false
set_option linter.unnecessarySimpa false
set_option maxRecDepth 20000

/-- The law. -/
theorem laws_FnExactWorldSame_eq (a b : GWorld) (ha : a.fit) (hb : b.fit) : F_laws_FnExactWorldSame [.st (a.cs .n), .st (b.cs .n)] = some ⟨[.one (.b true)], []⟩ := by
  have r0 : Rng 1048576 := ⟨by omega, by omega⟩
  have s1 := laws_szWorld_eq a 1048576 r0 ha
  cases h1 : decide (left 1048576 a.bulk < 0) with
  | true =>
    (refine fun_ev rfl ?_; show Ev m_laws_FnExactWorldSame.code _ _ _)
    repeat' (first | (apply evp_opC (g := g_laws_szWorld); exact rfl; simp only [List.map, fzl]; exact rfl; exact (s1); exact rfl; exact rfl) | (show Ev (.cond _ _ _) _ _ _; first | refine ev_condY rfl (by with_reducible assumption) ?_ | refine ev_condN rfl (by with_reducible assumption) ?_ | refine ev_cond rfl (fun _ => ?_) (fun _ => ?_)) | (apply evp_op; exact rfl) | apply evp_nil | apply ev_seq | (apply ev_reg; exact rfl) | apply ev_blk | apply ev_sk | apply ev_rt | apply ev_exit | (apply ev_regD; exact rfl) | (apply evp_opD; exact rfl) | apply evp_nilD)
    exact fin rfl rfl
  | false =>
    have o1 := left_ok r0 h1
    have s2 := laws_szWorld_eq b _ (left_rng (b := a.bulk) r0) hb
    cases h2 : decide (left (left 1048576 a.bulk) b.bulk < 0) with
    | true =>
      (refine fun_ev rfl ?_; show Ev m_laws_FnExactWorldSame.code _ _ _)
      repeat' (first | (apply evp_opC (g := g_laws_szWorld); exact rfl; simp only [List.map, fzl]; exact rfl; exact (s1); exact rfl; exact rfl) | (apply evp_opC (g := g_laws_szWorld); exact rfl; simp only [List.map, fzl]; exact rfl; exact (s2); exact rfl; exact rfl) | (show Ev (.cond _ _ _) _ _ _; first | refine ev_condY rfl (by with_reducible assumption) ?_ | refine ev_condN rfl (by with_reducible assumption) ?_ | refine ev_cond rfl (fun _ => ?_) (fun _ => ?_)) | (apply evp_op; exact rfl) | apply evp_nil | apply ev_seq | (apply ev_reg; exact rfl) | apply ev_blk | apply ev_sk | apply ev_rt | apply ev_exit | (apply ev_regD; exact rfl) | (apply evp_opD; exact rfl) | apply evp_nilD)
      exact fin rfl rfl
    | false =>
      have o2 := left_ok (left_rng r0) h2
      have la : a.bulk ≤ 1048576 := by omega
      have lb : b.bulk ≤ 1048576 := by omega
      (refine fun_ev rfl ?_; show Ev m_laws_FnExactWorldSame.code _ _ _)
      repeat' (first | (apply evp_opC (g := g_laws_szWorld); exact rfl; simp only [List.map, fzl]; exact rfl; exact (s1); exact rfl; exact rfl) | (apply evp_opC (g := g_laws_szWorld); exact rfl; simp only [List.map, fzl]; exact rfl; exact (s2); exact rfl; exact rfl) | (apply evp_opC (g := g_laws_toWorld); exact rfl; simp only [List.map, fzl]; exact rfl; exact (laws_toWorld_eq a la); exact rfl; exact rfl) | (apply evp_opC (g := g_laws_toWorld); exact rfl; simp only [List.map, fzl]; exact rfl; exact (laws_toWorld_eq b lb); exact rfl; exact rfl) | (apply evp_opCD (g := g_laws_toWorld); exact rfl; simp only [List.map, fzl]; exact rfl; exact (laws_toWorld_eq a la); exact rfl; exact rfl) | (apply evp_opCD (g := g_laws_toWorld); exact rfl; simp only [List.map, fzl]; exact rfl; exact (laws_toWorld_eq b lb); exact rfl; exact rfl) | (apply evp_opC (g := g_spec_WorldSame); exact rfl; simp only [List.map, fzl]; exact rfl; exact (spec_WorldSame_eq a b la); exact rfl; exact rfl) | (apply evp_opCD (g := g_spec_WorldSame); exact rfl; simp only [List.map, fzl]; exact rfl; exact (spec_WorldSame_eq a b la); exact rfl; exact rfl) | (apply evp_opC (g := g_impl_WorldSame); exact rfl; simp only [List.map, fzl]; exact rfl; exact (impl_WorldSame_eq a b la); exact rfl; exact rfl) | (apply evp_opC (g := g_laws_eqWorld); exact rfl; simp only [List.map, fzl]; exact rfl; exact (laws_eqWorld_eq a a la); exact rfl; exact rfl) | (apply evp_opC (g := g_laws_eqWorld); exact rfl; simp only [List.map, fzl]; exact rfl; exact (laws_eqWorld_eq b b lb); exact rfl; exact rfl) | (apply evp_opCD (g := g_laws_eqWorld); exact rfl; simp only [List.map, fzl]; exact rfl; exact (laws_eqWorld_eq a a la); exact rfl; exact rfl) | (apply evp_opCD (g := g_laws_eqWorld); exact rfl; simp only [List.map, fzl]; exact rfl; exact (laws_eqWorld_eq b b lb); exact rfl; exact rfl) | (show Ev (.cond _ _ _) _ _ _; first | refine ev_condY rfl (by with_reducible assumption) ?_ | refine ev_condN rfl (by with_reducible assumption) ?_ | refine ev_cond rfl (fun _ => ?_) (fun _ => ?_)) | (apply evp_op; exact rfl) | apply evp_nil | apply ev_seq | (apply ev_reg; exact rfl) | apply ev_blk | apply ev_sk | apply ev_rt | apply ev_exit | (apply ev_regD; exact rfl) | (apply evp_opD; exact rfl) | apply evp_nilD)
      all_goals first | (rename_i h; simp at h; done) | (exact fin rfl rfl)
end Go.Wr

