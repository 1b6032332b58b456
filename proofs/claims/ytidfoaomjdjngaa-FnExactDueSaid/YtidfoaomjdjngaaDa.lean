/-
  What is proved: the law FnExactDue returns true for every input and leaves its arguments as they were. No condition.
-/
import Derived.Test.YtidfoaomjdjngaaCa
import Derived.Test.YtidfoaomjdjngaaFa
import Derived.Test.YtidfoaomjdjngaaRc
import Derived.Test.YtidfoaomjdjngaaRows
import Derived.ProofKit
set_option linter.unusedVariables false
set_option linter.unusedSimpArgs false
namespace Go.Wr
open Go.Proofs
theorem all_nil {q : Nat × Fun → Prop} : ∀ p ∈ ([] : List (Nat × Fun)), q p := fun _ h => by cases h
theorem all_cons {g : Nat} {F : Fun} {q : Nat → Fun → Prop} {l : List (Nat × Fun)} (h : q g F) (hl : ∀ p ∈ l, q p.1 p.2) : ∀ p ∈ (g, F) :: l, q p.1 p.2 := fun p hp => by
  rcases List.mem_cons.1 hp with rfl | hp
  · exact h
  · exact hl p hp
theorem ok_laws_szIntS : FunOk Try.prog tab g_laws_szIntS F_laws_szIntS := by
  unfold F_laws_szIntS; rw [lock_eq]
  exact fun_ok fol Try.func9 is_laws_szIntS all_nil
theorem ok_laws_szConf : FunOk Try.prog tab g_laws_szConf F_laws_szConf := by
  unfold F_laws_szConf; rw [lock_eq]
  exact fun_ok fol Try.func4 is_laws_szConf (all_cons ok_laws_szIntS all_nil)
theorem ok_spec_l1In : FunOk Try.prog tab g_spec_l1In F_spec_l1In := by
  unfold F_spec_l1In; rw [lock_eq]
  exact fun_ok fol Try.func11 is_spec_l1In all_nil
theorem ok_spec_l11Nums : FunOk Try.prog tab g_spec_l11Nums F_spec_l11Nums := by
  unfold F_spec_l11Nums; rw [lock_eq]
  exact fun_ok fol Try.func16 is_spec_l11Nums (all_cons ok_spec_l1In all_nil)
theorem ok_spec_ConfOk : FunOk Try.prog tab g_spec_ConfOk F_spec_ConfOk := by
  unfold F_spec_ConfOk; rw [lock_eq]
  exact fun_ok fol Try.func10 is_spec_ConfOk (all_cons ok_spec_l1In (all_cons ok_spec_l1In (all_cons ok_spec_l1In (all_cons ok_spec_l11Nums (all_cons ok_spec_l1In (all_cons ok_spec_l1In (all_cons ok_spec_l1In (all_cons ok_spec_l1In all_nil))))))))
theorem ok_spec_Due : FunOk Try.prog tab g_spec_Due F_spec_Due := by
  unfold F_spec_Due; rw [lock_eq]
  exact fun_ok fol Try.func5 is_spec_Due (all_cons ok_spec_ConfOk (all_cons ok_spec_l1In all_nil))
theorem ok_laws_toIntS : FunOk Try.prog tab g_laws_toIntS F_laws_toIntS := by
  unfold F_laws_toIntS; rw [lock_eq]
  exact fun_ok fol Try.func12 is_laws_toIntS all_nil
theorem ok_laws_toConf : FunOk Try.prog tab g_laws_toConf F_laws_toConf := by
  unfold F_laws_toConf; rw [lock_eq]
  exact fun_ok fol Try.func6 is_laws_toConf (all_cons ok_laws_toIntS all_nil)
theorem ok_impl_within : FunOk Try.prog tab g_impl_within F_impl_within := by
  unfold F_impl_within; rw [lock_eq]
  exact fun_ok fol Try.func14 is_impl_within all_nil
theorem ok_impl_allWithin : FunOk Try.prog tab g_impl_allWithin F_impl_allWithin := by
  unfold F_impl_allWithin; rw [lock_eq]
  exact fun_ok fol Try.func17 is_impl_allWithin (all_cons ok_impl_within all_nil)
theorem ok_impl_ConfOk : FunOk Try.prog tab g_impl_ConfOk F_impl_ConfOk := by
  unfold F_impl_ConfOk; rw [lock_eq]
  exact fun_ok fol Try.func13 is_impl_ConfOk (all_cons ok_impl_within (all_cons ok_impl_within (all_cons ok_impl_within (all_cons ok_impl_allWithin (all_cons ok_impl_within (all_cons ok_impl_within (all_cons ok_impl_within (all_cons ok_impl_within all_nil))))))))
theorem ok_impl_Due : FunOk Try.prog tab g_impl_Due F_impl_Due := by
  unfold F_impl_Due; rw [lock_eq]
  exact fun_ok fol Try.func7 is_impl_Due (all_cons ok_impl_ConfOk (all_cons ok_impl_within all_nil))
theorem ok_laws_eqIntS : FunOk Try.prog tab g_laws_eqIntS F_laws_eqIntS := by
  unfold F_laws_eqIntS; rw [lock_eq]
  exact fun_ok fol Try.func15 is_laws_eqIntS all_nil
theorem ok_laws_eqConf : FunOk Try.prog tab g_laws_eqConf F_laws_eqConf := by
  unfold F_laws_eqConf; rw [lock_eq]
  exact fun_ok fol Try.func8 is_laws_eqConf (all_cons ok_laws_eqIntS all_nil)
theorem ok_laws_FnExactDue : FunOk Try.prog tab g_laws_FnExactDue F_laws_FnExactDue := by
  unfold F_laws_FnExactDue; rw [lock_eq]
  exact fun_ok fol Try.func3 is_laws_FnExactDue (all_cons ok_laws_szConf (all_cons ok_laws_toConf (all_cons ok_spec_Due (all_cons ok_laws_toConf (all_cons ok_impl_Due (all_cons ok_laws_toConf (all_cons ok_laws_eqConf all_nil)))))))

abbrev confTy : Ty := .st [.i .i64, .i .i64, .i .i64, .l (.i .i64), .i .i64, .i .i64, .i .i64, .i .i64]

theorem list_of {α β : Type} {f : α → β} : ∀ {es : List β}, (∀ x ∈ es, ∃ a, x = f a) → ∃ l : List α, es = l.map f
  | [], _ => ⟨[], rfl⟩
  | x :: es, h => by
    obtain ⟨a, rfl⟩ := h x List.mem_cons_self
    obtain ⟨l, rfl⟩ := list_of fun y hy => h y (List.mem_cons_of_mem _ hy)
    exact ⟨a :: l, rfl⟩

theorem ints_of {ts : List T} (h : HasTy (.l (.i .i64)) ts) : ∃ l : List Int, ts = [ints .n l] ∧ l.length ≤ maxLen := by
  simp only [HasTy] at h
  obtain ⟨es, rfl, hl, he⟩ := h
  obtain ⟨l, rfl⟩ := list_of (f := iT) fun x hx => by
    obtain ⟨cs, ⟨n, rfl, _⟩, rfl⟩ := he x hx
    exact ⟨n, rfl⟩
  exact ⟨l, rfl, by simpa using hl⟩

theorem conf_of {ts : List T} (h : HasTy confTy ts) : ∃ c : Conf, ts = c.cs .n ∧ c.weights.length ≤ maxLen := by
  simp only [HasTy, HasTys] at h
  obtain ⟨_, _, rfl, ⟨a1, rfl, _⟩, _, _, rfl, ⟨a2, rfl, _⟩, _, _, rfl, ⟨a3, rfl, _⟩, _, _, rfl, h4, _, _, rfl, ⟨a5, rfl, _⟩, _, _, rfl, ⟨a6, rfl, _⟩, _, _, rfl, ⟨a7, rfl, _⟩, _, _, rfl, ⟨a8, rfl, _⟩, rfl⟩ := h
  obtain ⟨l, rfl, hl⟩ := ints_of (by simp only [HasTy]; exact h4)
  exact ⟨⟨a1, a2, a3, l, a5, a6, a7, a8⟩, rfl, hl⟩

theorem law_due : ∀ xs, ArgTys [confTy, .i .i64] xs → F_laws_FnExactDue xs = some ⟨[.one (.b true)], []⟩ := by
  intro xs h
  obtain ⟨_, _, rfl, ⟨ts, h1, rfl⟩, _, _, rfl, ⟨ts2, h2, rfl⟩, rfl⟩ := h
  obtain ⟨c, rfl, hl⟩ := conf_of h1
  obtain ⟨n, rfl, _⟩ := h2
  exact laws_FnExactDue_eq c n hl
end Go.Wr
namespace Go.Proofs.Ytidfoaomjdjngaa
open Go.ChangeShapes Go.WideShapes Go.ChangeAt Go.RowKit Go.Wr

theorem Try.own : ownKnob Try.prog.godebug = none := by kernel_rfl
theorem Try.laidOut : laidOutB Try.prog = true := by kernel_rfl

set_option maxRecDepth 100000 in
theorem due_lifted (os : Os) (started : os.Started) (H : Type) (enc : TypeId × Value → H) :
    ReturnsInHanded {} Try.checked os 3 .any (Rows.fnExactDueSpec.pre6 enc Try.prog Try.f3 Rows.fnExactDueRow.domain false) (Rows.fnExactDueSpec.post enc Try.prog Try.f3 false true false false) := by
  refine returnsInHanded_of_change (C := Try.checked) Try.own started (by kernel_rfl) Try.func3
    (ChangeSpec.witness6 (enc := enc) (C := Try.checked) false ⟨#[], #[.agg #[.int .i64 0, .int .i64 0, .int .i64 0, .slice none 0 0, .int .i64 0, .int .i64 0, .int .i64 0, .int .i64 0], .int .i64 0], []⟩ 8 (by kernel_rfl) (by kernel_rfl) (by kernel_rfl) (by kernel_rfl)) ?_
  intro W base args ds gs before hval0 hW hcnd _
  have hval : ∀ (j : Nat) t v, Try.f3.params[j]? = some t → args[j]? = some v → Value.okWide Try.prog W .any base t v := hval0
  exact law_contract (es := [confTy, .i .i64]) Try.laidOut ok_laws_FnExactDue rfl (by kernel_rfl) (by kernel_rfl) law_due rfl (fun ds h => by
    match ds, h with
    | [a, b], _ => rfl) hval hW

/-- The statement. -/
theorem due_holds : Rows.FnExactDueSaid :=
  OpenClaim.holds_of_wide 3 Try.f3 rfl rfl rfl rfl rfl rfl rfl ⟨rfl, rfl, rfl, rfl, rfl⟩ rfl rfl rfl rfl rfl (by kernel_rfl) Try.func3 (by kernel_rfl)
    (of_decide_eq_true (by kernel_rfl)) (by unfold Func.isWrapper; first | (rw [if_pos (by decide +kernel)]; kernel_rfl) | (rw [if_neg (by decide +kernel)]; exact ⟨rfl, rfl⟩))
    (fun os started H enc _ => due_lifted os started H enc)
end Go.Proofs.Ytidfoaomjdjngaa

