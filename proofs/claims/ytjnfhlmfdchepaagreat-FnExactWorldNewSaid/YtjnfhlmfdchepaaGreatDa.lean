/-
  What is proved: the law FnExactWorldNew returns true for every input and leaves its arguments as they were. No condition.
-/
import Derived.Test.YtjnfhlmfdchepaaGreatCa
import Derived.Test.YtjnfhlmfdchepaaGreatQd
import Derived.Test.YtjnfhlmfdchepaaGreatRc
import Derived.Test.YtjnfhlmfdchepaaGreatRows
import Derived.Test.YtjnfhlmfdchepaaGreatEa
import Derived.Test.YtjnfhlmfdchepaaGreatEb
import Derived.Test.YtjnfhlmfdchepaaGreatEc
import Derived.Test.YtjnfhlmfdchepaaGreatEd
import Derived.Test.YtjnfhlmfdchepaaGreatEe
import Derived.Test.YtjnfhlmfdchepaaGreatEf
import Derived.ProofKit
set_option linter.unusedVariables false
set_option linter.unusedSimpArgs false
namespace Go.Wr
open Go.Proofs
theorem all_nil {q : Nat × Fun -> Prop} : ∀ p ∈ ([] : List (Nat × Fun)), q p := fun _ h => by cases h
theorem all_cons {g : Nat} {F : Fun} {q : Nat -> Fun -> Prop} {l : List (Nat × Fun)} (h : q g F) (hl : ∀ p ∈ l, q p.1 p.2) : ∀ p ∈ (g, F) :: l, q p.1 p.2 := fun p hp => by
 rcases List.mem_cons.1 hp with rfl | hp
 ·exact h
 ·exact hl p hp
theorem ok_q0 : FunOk Tryz.prog tab g_q0 F_q0 := by
 unfold F_q0; rw [lock_eq]
 exact fun_ok fol Tryz.func74 is_q0 all_nil
theorem ok_q1 : FunOk Tryz.prog tab g_q1 F_q1 := by
 unfold F_q1; rw [lock_eq]
 exact fun_ok fol Tryz.func106 is_q1 (all_cons ok_q0 all_nil)
theorem ok_q2 : FunOk Tryz.prog tab g_q2 F_q2 := by
 unfold F_q2; rw [lock_eq]
 exact fun_ok fol Tryz.func72 is_q2 all_nil
theorem ok_q3 : FunOk Tryz.prog tab g_q3 F_q3 := by
 unfold F_q3; rw [lock_eq]
 exact fun_ok fol Tryz.func99 is_q3 (all_cons ok_q1 (all_cons ok_q2 all_nil))
theorem ok_q4 : FunOk Tryz.prog tab g_q4 F_q4 := by
 unfold F_q4; rw [lock_eq]
 exact fun_ok fol Tryz.func77 is_q4 (all_cons ok_q2 (all_cons ok_q2 (all_cons ok_q2 (all_cons ok_q2 (all_cons ok_q3 all_nil)))))
theorem ok_q5 : FunOk Tryz.prog tab g_q5 F_q5 := by
 unfold F_q5; rw [lock_eq]
 exact fun_ok fol Tryz.func100 is_q5 (all_cons ok_q2 (all_cons ok_q2 all_nil))
theorem ok_q6 : FunOk Tryz.prog tab g_q6 F_q6 := by
 unfold F_q6; rw [lock_eq]
 exact fun_ok fol Tryz.func78 is_q6 (all_cons ok_q5 all_nil)
theorem ok_q7 : FunOk Tryz.prog tab g_q7 F_q7 := by
 unfold F_q7; rw [lock_eq]
 exact fun_ok fol Tryz.func39 is_q7 (all_cons ok_q2 (all_cons ok_q2 (all_cons ok_q2 (all_cons ok_q2 (all_cons ok_q4 (all_cons ok_q6 all_nil))))))
theorem ok_q8 : FunOk Tryz.prog tab g_q8 F_q8 := by
 unfold F_q8; rw [lock_eq]
 exact fun_ok fol Tryz.func18 is_q8 (all_cons ok_q7 all_nil)
theorem ok_q9 : FunOk Tryz.prog tab g_q9 F_q9 := by
 unfold F_q9; rw [lock_eq]
 exact fun_ok fol Tryz.func73 is_q9 (all_cons ok_q2 all_nil)
theorem ok_qa : FunOk Tryz.prog tab g_qa F_qa := by
 unfold F_qa; rw [lock_eq]
 exact fun_ok fol Tryz.func35 is_qa (all_cons ok_q2 (all_cons ok_q2 (all_cons ok_q2 (all_cons ok_q9 (all_cons ok_q2 (all_cons ok_q2 (all_cons ok_q2 (all_cons ok_q2 all_nil))))))))
theorem ok_qb : FunOk Tryz.prog tab g_qb F_qb := by
 unfold F_qb; rw [lock_eq]
 exact fun_ok fol Tryz.func98 is_qb (all_cons ok_q5 all_nil)
theorem ok_qc : FunOk Tryz.prog tab g_qc F_qc := by
 unfold F_qc; rw [lock_eq]
 exact fun_ok fol Tryz.func76 is_qc (all_cons ok_q2 (all_cons ok_q2 (all_cons ok_q2 (all_cons ok_q6 (all_cons ok_qb (all_cons ok_q2 (all_cons ok_q2 all_nil)))))))
theorem ok_qd : FunOk Tryz.prog tab g_qd F_qd := by
 unfold F_qd; rw [lock_eq]
 exact fun_ok fol Tryz.func97 is_qd all_nil
theorem ok_qe : FunOk Tryz.prog tab g_qe F_qe := by
 unfold F_qe; rw [lock_eq]
 exact fun_ok fol Tryz.func75 is_qe (all_cons ok_qd all_nil)
theorem ok_qf : FunOk Tryz.prog tab g_qf F_qf := by
 unfold F_qf; rw [lock_eq]
 exact fun_ok fol Tryz.func37 is_qf (all_cons ok_qe (all_cons ok_qc all_nil))
theorem ok_qg : FunOk Tryz.prog tab g_qg F_qg := by
 unfold F_qg; rw [lock_eq]
 exact fun_ok fol Tryz.func38 is_qg all_nil
theorem ok_qh : FunOk Tryz.prog tab g_qh F_qh := by
 unfold F_qh; rw [lock_eq]
 exact fun_ok fol Tryz.func36 is_qh (all_cons ok_q0 all_nil)
theorem ok_qi : FunOk Tryz.prog tab g_qi F_qi := by
 unfold F_qi; rw [lock_eq]
 exact fun_ok fol Tryz.func17 is_qi (all_cons ok_qa (all_cons ok_qh (all_cons ok_qf (all_cons ok_qg all_nil))))
theorem ok_qj : FunOk Tryz.prog tab g_qj F_qj := by
 unfold F_qj; rw [lock_eq]
 exact fun_ok fol Tryz.func7 is_qj (all_cons ok_qi (all_cons ok_q8 all_nil))
theorem ok_qk : FunOk Tryz.prog tab g_qk F_qk := by
 unfold F_qk; rw [lock_eq]
 exact fun_ok fol Tryz.func22 is_qk all_nil
theorem ok_ql : FunOk Tryz.prog tab g_ql F_ql := by
 unfold F_ql; rw [lock_eq]
 exact fun_ok fol Tryz.func9 is_ql (all_cons ok_qk all_nil)
theorem ok_qm : FunOk Tryz.prog tab g_qm F_qm := by
 unfold F_qm; rw [lock_eq]
 exact fun_ok fol Tryz.func107 is_qm (all_cons ok_qk all_nil)
theorem ok_qn : FunOk Tryz.prog tab g_qn F_qn := by
 unfold F_qn; rw [lock_eq]
 exact fun_ok fol Tryz.func104 is_qn (all_cons ok_qk (all_cons ok_qk (all_cons ok_qm all_nil)))
theorem ok_qo : FunOk Tryz.prog tab g_qo F_qo := by
 unfold F_qo; rw [lock_eq]
 exact fun_ok fol Tryz.func101 is_qo (all_cons ok_qn all_nil)
theorem ok_qp : FunOk Tryz.prog tab g_qp F_qp := by
 unfold F_qp; rw [lock_eq]
 exact fun_ok fol Tryz.func79 is_qp (all_cons ok_qo all_nil)
theorem ok_qq : FunOk Tryz.prog tab g_qq F_qq := by
 unfold F_qq; rw [lock_eq]
 exact fun_ok fol Tryz.func102 is_qq all_nil
theorem ok_qr : FunOk Tryz.prog tab g_qr F_qr := by
 unfold F_qr; rw [lock_eq]
 exact fun_ok fol Tryz.func80 is_qr (all_cons ok_qq all_nil)
theorem ok_qs : FunOk Tryz.prog tab g_qs F_qs := by
 unfold F_qs; rw [lock_eq]
 exact fun_ok fol Tryz.func40 is_qs (all_cons ok_qp (all_cons ok_qr all_nil))
theorem ok_qt : FunOk Tryz.prog tab g_qt F_qt := by
 unfold F_qt; rw [lock_eq]
 exact fun_ok fol Tryz.func19 is_qt (all_cons ok_qs all_nil)
theorem ok_qu : FunOk Tryz.prog tab g_qu F_qu := by
 unfold F_qu; rw [lock_eq]
 exact fun_ok fol Tryz.func84 is_qu (all_cons ok_qr (all_cons ok_qn all_nil))
theorem ok_qv : FunOk Tryz.prog tab g_qv F_qv := by
 unfold F_qv; rw [lock_eq]
 exact fun_ok fol Tryz.func44 is_qv (all_cons ok_qu all_nil)
theorem ok_qw : FunOk Tryz.prog tab g_qw F_qw := by
 unfold F_qw; rw [lock_eq]
 exact fun_ok fol Tryz.func85 is_qw (all_cons ok_qu all_nil)
theorem ok_qx : FunOk Tryz.prog tab g_qx F_qx := by
 unfold F_qx; rw [lock_eq]
 exact fun_ok fol Tryz.func45 is_qx (all_cons ok_qw all_nil)
theorem ok_qy : FunOk Tryz.prog tab g_qy F_qy := by
 unfold F_qy; rw [lock_eq]
 exact fun_ok fol Tryz.func103 is_qy (all_cons ok_qv all_nil)
theorem ok_qz : FunOk Tryz.prog tab g_qz F_qz := by
 unfold F_qz; rw [lock_eq]
 exact fun_ok fol Tryz.func82 is_qz (all_cons ok_qy all_nil)
theorem ok_q10 : FunOk Tryz.prog tab g_q10 F_q10 := by
 unfold F_q10; rw [lock_eq]
 exact fun_ok fol Tryz.func42 is_q10 (all_cons ok_qz all_nil)
theorem ok_q11 : FunOk Tryz.prog tab g_q11 F_q11 := by
 unfold F_q11; rw [lock_eq]
 exact fun_ok fol Tryz.func81 is_q11 (all_cons ok_qr all_nil)
theorem ok_q12 : FunOk Tryz.prog tab g_q12 F_q12 := by
 unfold F_q12; rw [lock_eq]
 exact fun_ok fol Tryz.func41 is_q12 (all_cons ok_q11 all_nil)
theorem ok_q13 : FunOk Tryz.prog tab g_q13 F_q13 := by
 unfold F_q13; rw [lock_eq]
 exact fun_ok fol Tryz.func83 is_q13 (all_cons ok_qk all_nil)
theorem ok_q14 : FunOk Tryz.prog tab g_q14 F_q14 := by
 unfold F_q14; rw [lock_eq]
 exact fun_ok fol Tryz.func43 is_q14 (all_cons ok_q13 all_nil)
theorem ok_q15 : FunOk Tryz.prog tab g_q15 F_q15 := by
 unfold F_q15; rw [lock_eq]
 exact fun_ok fol Tryz.func20 is_q15 (all_cons ok_ql (all_cons ok_q12 (all_cons ok_q10 (all_cons ok_q14 (all_cons ok_qv (all_cons ok_qx all_nil))))))
theorem ok_q16 : FunOk Tryz.prog tab g_q16 F_q16 := by
 unfold F_q16; rw [lock_eq]
 exact fun_ok fol Tryz.func86 is_q16 all_nil
theorem ok_q17 : FunOk Tryz.prog tab g_q17 F_q17 := by
 unfold F_q17; rw [lock_eq]
 exact fun_ok fol Tryz.func46 is_q17 (all_cons ok_q16 all_nil)
theorem ok_q18 : FunOk Tryz.prog tab g_q18 F_q18 := by
 unfold F_q18; rw [lock_eq]
 exact fun_ok fol Tryz.func21 is_q18 (all_cons ok_q17 all_nil)
theorem ok_q19 : FunOk Tryz.prog tab g_q19 F_q19 := by
 unfold F_q19; rw [lock_eq]
 exact fun_ok fol Tryz.func8 is_q19 (all_cons ok_qt (all_cons ok_q15 (all_cons ok_q18 all_nil)))
theorem ok_q1a : FunOk Tryz.prog tab g_q1a F_q1a := by
 unfold F_q1a; rw [lock_eq]
 exact fun_ok fol Tryz.func89 is_q1a all_nil
theorem ok_q1b : FunOk Tryz.prog tab g_q1b F_q1b := by
 unfold F_q1b; rw [lock_eq]
 exact fun_ok fol Tryz.func90 is_q1b (all_cons ok_q1a all_nil)
theorem ok_q1c : FunOk Tryz.prog tab g_q1c F_q1c := by
 unfold F_q1c; rw [lock_eq]
 exact fun_ok fol Tryz.func55 is_q1c (all_cons ok_q1a (all_cons ok_q1a (all_cons ok_q1b all_nil)))
theorem ok_q1d : FunOk Tryz.prog tab g_q1d F_q1d := by
 unfold F_q1d; rw [lock_eq]
 exact fun_ok fol Tryz.func56 is_q1d all_nil
theorem ok_q1e : FunOk Tryz.prog tab g_q1e F_q1e := by
 unfold F_q1e; rw [lock_eq]
 exact fun_ok fol Tryz.func27 is_q1e (all_cons ok_q1c (all_cons ok_q1d all_nil))
theorem ok_q1f : FunOk Tryz.prog tab g_q1f F_q1f := by
 unfold F_q1f; rw [lock_eq]
 exact fun_ok fol Tryz.func57 is_q1f (all_cons ok_q1a all_nil)
theorem ok_q1g : FunOk Tryz.prog tab g_q1g F_q1g := by
 unfold F_q1g; rw [lock_eq]
 exact fun_ok fol Tryz.func61 is_q1g (all_cons ok_q1d (all_cons ok_q1a (all_cons ok_q1a (all_cons ok_q1b all_nil))))
theorem ok_q1h : FunOk Tryz.prog tab g_q1h F_q1h := by
 unfold F_q1h; rw [lock_eq]
 exact fun_ok fol Tryz.func62 is_q1h (all_cons ok_q1d (all_cons ok_q1a (all_cons ok_q1a (all_cons ok_q1b all_nil))))
theorem ok_q1i : FunOk Tryz.prog tab g_q1i F_q1i := by
 unfold F_q1i; rw [lock_eq]
 exact fun_ok fol Tryz.func91 is_q1i (all_cons ok_q1g all_nil)
theorem ok_q1j : FunOk Tryz.prog tab g_q1j F_q1j := by
 unfold F_q1j; rw [lock_eq]
 exact fun_ok fol Tryz.func59 is_q1j (all_cons ok_q1i all_nil)
theorem ok_q1k : FunOk Tryz.prog tab g_q1k F_q1k := by
 unfold F_q1k; rw [lock_eq]
 exact fun_ok fol Tryz.func58 is_q1k (all_cons ok_q1d all_nil)
theorem ok_q1l : FunOk Tryz.prog tab g_q1l F_q1l := by
 unfold F_q1l; rw [lock_eq]
 exact fun_ok fol Tryz.func60 is_q1l (all_cons ok_q1a all_nil)
theorem ok_q1m : FunOk Tryz.prog tab g_q1m F_q1m := by
 unfold F_q1m; rw [lock_eq]
 exact fun_ok fol Tryz.func28 is_q1m (all_cons ok_q1f (all_cons ok_q1k (all_cons ok_q1j (all_cons ok_q1l (all_cons ok_q1g (all_cons ok_q1h all_nil))))))
theorem ok_q1n : FunOk Tryz.prog tab g_q1n F_q1n := by
 unfold F_q1n; rw [lock_eq]
 exact fun_ok fol Tryz.func63 is_q1n all_nil
theorem ok_q1o : FunOk Tryz.prog tab g_q1o F_q1o := by
 unfold F_q1o; rw [lock_eq]
 exact fun_ok fol Tryz.func29 is_q1o (all_cons ok_q1n all_nil)
theorem ok_q1p : FunOk Tryz.prog tab g_q1p F_q1p := by
 unfold F_q1p; rw [lock_eq]
 exact fun_ok fol Tryz.func12 is_q1p (all_cons ok_q1e (all_cons ok_q1m (all_cons ok_q1o all_nil)))
theorem ok_q1q : FunOk Tryz.prog tab g_q1q F_q1q := by
 unfold F_q1q; rw [lock_eq]
 exact funM_ok fol Tryz.func23 is_q1q all_nil
theorem ok_q1r : FunOk Tryz.prog tab g_q1r F_q1r := by
 unfold F_q1r; rw [lock_eq]
 exact funM_ok fol Tryz.func10 is_q1r (all_cons ok_q1q all_nil)
theorem ok_q1s : FunOk Tryz.prog tab g_q1s F_q1s := by
 unfold F_q1s; rw [lock_eq]
 exact funM_ok fol Tryz.func87 is_q1s (all_cons ok_q1q all_nil)
theorem ok_q1t : FunOk Tryz.prog tab g_q1t F_q1t := by
 unfold F_q1t; rw [lock_eq]
 exact funM_ok fol Tryz.func47 is_q1t (all_cons ok_q1q (all_cons ok_q1q (all_cons ok_q1s all_nil)))
theorem ok_q1u : FunOk Tryz.prog tab g_q1u F_q1u := by
 unfold F_q1u; rw [lock_eq]
 exact funM_ok fol Tryz.func48 is_q1u all_nil
theorem ok_q1v : FunOk Tryz.prog tab g_q1v F_q1v := by
 unfold F_q1v; rw [lock_eq]
 exact funM_ok fol Tryz.func24 is_q1v (all_cons ok_q1t (all_cons ok_q1u all_nil))
theorem ok_q1w : FunOk Tryz.prog tab g_q1w F_q1w := by
 unfold F_q1w; rw [lock_eq]
 exact funM_ok fol Tryz.func52 is_q1w (all_cons ok_q1u (all_cons ok_q1q (all_cons ok_q1q (all_cons ok_q1s all_nil))))
theorem ok_q1x : FunOk Tryz.prog tab g_q1x F_q1x := by
 unfold F_q1x; rw [lock_eq]
 exact funM_ok fol Tryz.func53 is_q1x (all_cons ok_q1u (all_cons ok_q1q (all_cons ok_q1q (all_cons ok_q1s all_nil))))
theorem ok_q1y : FunOk Tryz.prog tab g_q1y F_q1y := by
 unfold F_q1y; rw [lock_eq]
 exact funM_ok fol Tryz.func88 is_q1y (all_cons ok_q1w all_nil)
theorem ok_q1z : FunOk Tryz.prog tab g_q1z F_q1z := by
 unfold F_q1z; rw [lock_eq]
 exact funM_ok fol Tryz.func50 is_q1z (all_cons ok_q1y all_nil)
theorem ok_q20 : FunOk Tryz.prog tab g_q20 F_q20 := by
 unfold F_q20; rw [lock_eq]
 exact funM_ok fol Tryz.func49 is_q20 (all_cons ok_q1u all_nil)
theorem ok_q21 : FunOk Tryz.prog tab g_q21 F_q21 := by
 unfold F_q21; rw [lock_eq]
 exact funM_ok fol Tryz.func51 is_q21 (all_cons ok_q1q all_nil)
theorem ok_q22 : FunOk Tryz.prog tab g_q22 F_q22 := by
 unfold F_q22; rw [lock_eq]
 exact funM_ok fol Tryz.func25 is_q22 (all_cons ok_q1r (all_cons ok_q20 (all_cons ok_q1z (all_cons ok_q21 (all_cons ok_q1w (all_cons ok_q1x all_nil))))))
theorem ok_q23 : FunOk Tryz.prog tab g_q23 F_q23 := by
 unfold F_q23; rw [lock_eq]
 exact funM_ok fol Tryz.func54 is_q23 all_nil
theorem ok_q24 : FunOk Tryz.prog tab g_q24 F_q24 := by
 unfold F_q24; rw [lock_eq]
 exact funM_ok fol Tryz.func26 is_q24 (all_cons ok_q23 all_nil)
theorem ok_q25 : FunOk Tryz.prog tab g_q25 F_q25 := by
 unfold F_q25; rw [lock_eq]
 exact funM_ok fol Tryz.func11 is_q25 (all_cons ok_q1v (all_cons ok_q22 (all_cons ok_q24 all_nil)))
theorem ok_q26 : FunOk Tryz.prog tab g_q26 F_q26 := by
 unfold F_q26; rw [lock_eq]
 exact fun_ok fol Tryz.func13 is_q26 all_nil
theorem ok_q27 : FunOk Tryz.prog tab g_q27 F_q27 := by
 unfold F_q27; rw [lock_eq]
 exact fun_ok fol Tryz.func4 is_q27 (all_cons ok_q26 all_nil)
theorem ok_q28 : FunOk Tryz.prog tab g_q28 F_q28 := by
 unfold F_q28; rw [lock_eq]
 exact fun_ok fol Tryz.func16 is_q28 all_nil
theorem ok_q29 : FunOk Tryz.prog tab g_q29 F_q29 := by
 unfold F_q29; rw [lock_eq]
 exact fun_ok fol Tryz.func6 is_q29 (all_cons ok_q28 all_nil)
theorem ok_q2a : FunOk Tryz.prog tab g_q2a F_q2a := by
 unfold F_q2a; rw [lock_eq]
 exact fun_ok fol Tryz.func64 is_q2a all_nil
theorem ok_q2b : FunOk Tryz.prog tab g_q2b F_q2b := by
 unfold F_q2b; rw [lock_eq]
 exact fun_ok fol Tryz.func105 is_q2b (all_cons ok_q2a all_nil)
theorem ok_q2c : FunOk Tryz.prog tab g_q2c F_q2c := by
 unfold F_q2c; rw [lock_eq]
 exact fun_ok fol Tryz.func96 is_q2c (all_cons ok_q2a (all_cons ok_q2a (all_cons ok_q2a (all_cons ok_q2a (all_cons ok_q2b (all_cons ok_q2b (all_cons ok_q2b (all_cons ok_q2b all_nil))))))))
theorem ok_q2d : FunOk Tryz.prog tab g_q2d F_q2d := by
 unfold F_q2d; rw [lock_eq]
 exact fun_ok fol Tryz.func95 is_q2d (all_cons ok_q2a (all_cons ok_q2a all_nil))
theorem ok_q2e : FunOk Tryz.prog tab g_q2e F_q2e := by
 unfold F_q2e; rw [lock_eq]
 exact fun_ok fol Tryz.func71 is_q2e (all_cons ok_q2a (all_cons ok_q2a (all_cons ok_q2d (all_cons ok_q2c all_nil))))
theorem ok_q2f : FunOk Tryz.prog tab g_q2f F_q2f := by
 unfold F_q2f; rw [lock_eq]
 exact fun_ok fol Tryz.func69 is_q2f (all_cons ok_q2a all_nil)
theorem ok_q2g : FunOk Tryz.prog tab g_q2g F_q2g := by
 unfold F_q2g; rw [lock_eq]
 exact fun_ok fol Tryz.func94 is_q2g (all_cons ok_q2a (all_cons ok_q2a all_nil))
theorem ok_q2h : FunOk Tryz.prog tab g_q2h F_q2h := by
 unfold F_q2h; rw [lock_eq]
 exact fun_ok fol Tryz.func70 is_q2h (all_cons ok_q2g all_nil)
theorem ok_q2i : FunOk Tryz.prog tab g_q2i F_q2i := by
 unfold F_q2i; rw [lock_eq]
 exact fun_ok fol Tryz.func34 is_q2i (all_cons ok_q2f (all_cons ok_q2a (all_cons ok_q2a (all_cons ok_q2a (all_cons ok_q2h (all_cons ok_q2e all_nil))))))
theorem ok_q2j : FunOk Tryz.prog tab g_q2j F_q2j := by
 unfold F_q2j; rw [lock_eq]
 exact fun_ok fol Tryz.func15 is_q2j (all_cons ok_q2i all_nil)
theorem ok_q2k : FunOk Tryz.prog tab g_q2k F_q2k := by
 unfold F_q2k; rw [lock_eq]
 exact fun_ok fol Tryz.func65 is_q2k (all_cons ok_q2a all_nil)
theorem ok_q2l : FunOk Tryz.prog tab g_q2l F_q2l := by
 unfold F_q2l; rw [lock_eq]
 exact fun_ok fol Tryz.func30 is_q2l (all_cons ok_q2a (all_cons ok_q2a (all_cons ok_q2a (all_cons ok_q2k (all_cons ok_q2a (all_cons ok_q2a (all_cons ok_q2a (all_cons ok_q2a all_nil))))))))
theorem ok_q2m : FunOk Tryz.prog tab g_q2m F_q2m := by
 unfold F_q2m; rw [lock_eq]
 exact fun_ok fol Tryz.func93 is_q2m (all_cons ok_q2g all_nil)
theorem ok_q2n : FunOk Tryz.prog tab g_q2n F_q2n := by
 unfold F_q2n; rw [lock_eq]
 exact fun_ok fol Tryz.func67 is_q2n (all_cons ok_q2a (all_cons ok_q2a (all_cons ok_q2a (all_cons ok_q2h (all_cons ok_q2m (all_cons ok_q2a (all_cons ok_q2a all_nil)))))))
theorem ok_q2o : FunOk Tryz.prog tab g_q2o F_q2o := by
 unfold F_q2o; rw [lock_eq]
 exact fun_ok fol Tryz.func68 is_q2o all_nil
theorem ok_q2p : FunOk Tryz.prog tab g_q2p F_q2p := by
 unfold F_q2p; rw [lock_eq]
 exact fun_ok fol Tryz.func92 is_q2p all_nil
theorem ok_q2q : FunOk Tryz.prog tab g_q2q F_q2q := by
 unfold F_q2q; rw [lock_eq]
 exact fun_ok fol Tryz.func66 is_q2q (all_cons ok_q2p all_nil)
theorem ok_q2r : FunOk Tryz.prog tab g_q2r F_q2r := by
 unfold F_q2r; rw [lock_eq]
 exact fun_ok fol Tryz.func32 is_q2r (all_cons ok_q2q (all_cons ok_q2n (all_cons ok_q2o all_nil)))
theorem ok_q2s : FunOk Tryz.prog tab g_q2s F_q2s := by
 unfold F_q2s; rw [lock_eq]
 exact fun_ok fol Tryz.func33 is_q2s all_nil
theorem ok_q2t : FunOk Tryz.prog tab g_q2t F_q2t := by
 unfold F_q2t; rw [lock_eq]
 exact fun_ok fol Tryz.func31 is_q2t all_nil
theorem ok_q2u : FunOk Tryz.prog tab g_q2u F_q2u := by
 unfold F_q2u; rw [lock_eq]
 exact fun_ok fol Tryz.func14 is_q2u (all_cons ok_q2l (all_cons ok_q2t (all_cons ok_q2r (all_cons ok_q2s all_nil))))
theorem ok_q2v : FunOk Tryz.prog tab g_q2v F_q2v := by
 unfold F_q2v; rw [lock_eq]
 exact fun_ok fol Tryz.func5 is_q2v (all_cons ok_q2u (all_cons ok_q2j all_nil))
theorem ok_q2w : FunOk Tryz.prog tab g_q2w F_q2w := by
 unfold F_q2w; rw [lock_eq]
 exact fun_ok fol Tryz.func3 is_q2w (all_cons ok_q27 (all_cons ok_q29 (all_cons ok_q2v (all_cons ok_q29 (all_cons ok_qj (all_cons ok_q19 (all_cons ok_q29 (all_cons ok_ql (all_cons ok_q1r (all_cons ok_q19 (all_cons ok_q25 (all_cons ok_q1p (all_cons ok_q29 (all_cons ok_qj (all_cons ok_q19 (all_cons ok_q1p all_nil))))))))))))))))
theorem law_FnExactWorldNew : ∀ xs, ArgTys [GConf.ty] xs -> F_q2w xs = some ⟨[.one (.b true)], []⟩ := by
 intro xs h
 obtain ⟨_, _, rfl, ⟨t0, h0, rfl⟩, h⟩ := h
 obtain rfl := h
 obtain ⟨x0, rfl, f0⟩ := GConf.of h0
 exact q2w_eq x0 f0
end Go.Wr
namespace Go.Proofs.YtjnfhlmfdchepaaGreat
open Go.ChangeShapes Go.WideShapes Go.ChangeAt Go.RowKit Go.Wr
theorem own : ownKnob Tryz.prog.godebug = none := by kernel_rfl
theorem laidOut : laidOutB Tryz.prog = true := fact42
set_option maxRecDepth 100000 in
theorem lifted (os : Os) (started : os.Started) (H : Type) (enc : TypeId × Value -> H) :
  ReturnsInHanded {} Tryz.checked os 3 .any (Rows.fnExactWorldNewSpec.pre6 enc Tryz.prog Tryz.f3 Rows.fnExactWorldNewRow.domain false) (Rows.fnExactWorldNewSpec.post enc Tryz.prog Tryz.f3 false true false false) := by
 refine returnsInHanded_of_change (C := Tryz.checked) own started (by kernel_rfl) Tryz.func3
  (ChangeSpec.witness6 (enc := enc) (C := Tryz.checked) false ⟨#[], #[.agg #[.int .i64 0, .int .i64 0, .int .i64 0, .slice none 0 0, .int .i64 0, .int .i64 0, .int .i64 0, .int .i64 0]], []⟩ 8 (by kernel_rfl) (by kernel_rfl) (by kernel_rfl) (by kernel_rfl)) ?_
 intro W base args ds gs before hval0 hW hcnd _
 have hval : ∀ (j : Nat) t v, Tryz.f3.params[j]? = some t -> args[j]? = some v -> Value.okWide Tryz.prog W .any base t v := hval0
 exact law_contract (es := [GConf.ty]) laidOut ok_q2w rfl (by kernel_rfl) (by kernel_rfl) law_FnExactWorldNew rfl (fun ds h => by
  match ds, h with
  | [a0], _ => rfl) hval hW
theorem fnExactWorldNew_holds : Rows.FnExactWorldNewSaid :=
 OpenClaim.holds_of_wide 3 Tryz.f3 rfl rfl rfl rfl rfl rfl rfl ⟨rfl, rfl, rfl, rfl, rfl⟩ rfl rfl rfl rfl rfl (by as_aux_lemma => kernel_rfl) Tryz.func3 closed
  (of_decide_eq_true (by as_aux_lemma => kernel_rfl)) (by unfold Func.isWrapper; first | (rw [if_pos (by as_aux_lemma => decide +kernel)]; kernel_rfl) | (rw [if_neg (by as_aux_lemma => decide +kernel)]; exact ⟨rfl, rfl⟩))
  (fun os started H enc _ => lifted os started H enc)
end Go.Proofs.YtjnfhlmfdchepaaGreat

