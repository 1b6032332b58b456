/-
  What is proved: the law FnExactSumOf returns true for every input and leaves its arguments as they were. No condition.
-/
import Derived.Test.YtbghjecopkbhlaaGreatCa
import Derived.Test.YtbghjecopkbhlaaGreatQd
import Derived.Test.YtbghjecopkbhlaaGreatRc
import Derived.Test.YtbghjecopkbhlaaGreatRows
import Derived.Test.YtbghjecopkbhlaaGreatEa
import Derived.Test.YtbghjecopkbhlaaGreatEb
import Derived.Test.YtbghjecopkbhlaaGreatEc
import Derived.Test.YtbghjecopkbhlaaGreatEd
import Derived.Test.YtbghjecopkbhlaaGreatEe
import Derived.Test.YtbghjecopkbhlaaGreatEf
import Derived.ProofKit
set_option linter.unusedVariables false
set_option linter.unusedSimpArgs false
namespace Go.Wr
open Go.Proofs
theorem all_nil {q : Nat × Fun -> Prop} : ∀ p ∈ ([] : List (Nat × Fun)), q p := fun _ h => by cases h
theorem all_cons {g : Nat} {F : Fun} {q : Nat -> Fun -> Prop} {l : List (Nat × Fun)} (h : q g F) (hl : ∀ p ∈ l, q p.1 p.2) : ∀ p ∈ (g, F) :: l, q p.1 p.2 := fun p hp => by
 rcases Y55.1 hp with rfl | hp
 ·exact h
 ·exact hl p hp
theorem ok_q0 : FunOk Tryz.prog tab g_q0 F_q0 := by
 unfold F_q0; rw [Zac]
 exact Z6k fol Tryz.func184 is_q0 all_nil
theorem ok_q1 : FunOk Tryz.prog tab g_q1 F_q1 := by
 unfold F_q1; rw [Zac]
 exact Z6k fol Tryz.func164 is_q1 (all_cons ok_q0 (all_cons ok_q0 all_nil))
theorem ok_q2 : FunOk Tryz.prog tab g_q2 F_q2 := by
 unfold F_q2; rw [Zac]
 exact Z6k fol Tryz.func196 is_q2 (all_cons ok_q0 all_nil)
theorem ok_q3 : FunOk Tryz.prog tab g_q3 F_q3 := by
 unfold F_q3; rw [Zac]
 exact Z6k fol Tryz.func249 is_q3 (all_cons ok_q2 all_nil)
theorem ok_q4 : FunOk Tryz.prog tab g_q4 F_q4 := by
 unfold F_q4; rw [Zac]
 exact Z6k fol Tryz.func195 is_q4 (all_cons ok_q3 all_nil)
theorem ok_q5 : FunOk Tryz.prog tab g_q5 F_q5 := by
 unfold F_q5; rw [Zac]
 exact Z6k fol Tryz.func120 is_q5 (all_cons ok_q4 all_nil)
theorem ok_q6 : FunOk Tryz.prog tab g_q6 F_q6 := by
 unfold F_q6; rw [Zac]
 exact Z6k fol Tryz.func90 is_q6 all_nil
theorem ok_q7 : FunOk Tryz.prog tab g_q7 F_q7 := by
 unfold F_q7; rw [Zac]
 exact Z6k fol Tryz.func153 is_q7 (all_cons ok_q0 (all_cons ok_q0 all_nil))
theorem ok_q8 : FunOk Tryz.prog tab g_q8 F_q8 := by
 unfold F_q8; rw [Zac]
 exact Z6k fol Tryz.func240 is_q8 all_nil
theorem ok_q9 : FunOk Tryz.prog tab g_q9 F_q9 := by
 unfold F_q9; rw [Zac]
 exact Z6k fol Tryz.func279 is_q9 (all_cons ok_q8 all_nil)
theorem ok_qa : FunOk Tryz.prog tab g_qa F_qa := by
 unfold F_qa; rw [Zac]
 exact Z6k fol Tryz.func250 is_qa (all_cons ok_q9 (all_cons ok_q0 all_nil))
theorem ok_qb : FunOk Tryz.prog tab g_qb F_qb := by
 unfold F_qb; rw [Zac]
 exact Z6k fol Tryz.func231 is_qb (all_cons ok_q0 (all_cons ok_q0 (all_cons ok_q7 (all_cons ok_qa all_nil))))
theorem ok_qc : FunOk Tryz.prog tab g_qc F_qc := by
 unfold F_qc; rw [Zac]
 exact Z6k fol Tryz.func232 is_qc (all_cons ok_q7 (all_cons ok_q7 all_nil))
theorem ok_qd : FunOk Tryz.prog tab g_qd F_qd := by
 unfold F_qd; rw [Zac]
 exact Z6k fol Tryz.func162 is_qd (all_cons ok_qb (all_cons ok_qc all_nil))
theorem ok_qe : FunOk Tryz.prog tab g_qe F_qe := by
 unfold F_qe; rw [Zac]
 exact Z6k fol Tryz.func233 is_qe all_nil
theorem ok_qf : FunOk Tryz.prog tab g_qf F_qf := by
 unfold F_qf; rw [Zac]
 exact Z6k fol Tryz.func275 is_qf all_nil
theorem ok_qg : FunOk Tryz.prog tab g_qg F_qg := by
 unfold F_qg; rw [Zac]
 exact Z6k fol Tryz.func236 is_qg (all_cons ok_qf (all_cons ok_qf all_nil))
theorem ok_qh : FunOk Tryz.prog tab g_qh F_qh := by
 unfold F_qh; rw [Zac]
 exact Z6k fol Tryz.func235 is_qh (all_cons ok_qg all_nil)
theorem ok_qj : FunOk Tryz.prog tab g_qj F_qj := by
 unfold F_qj; rw [Zac]
 exact Z6k fol Tryz.func166 is_qj (all_cons ok_qe (all_cons ok_qi all_nil))
theorem ok_qk : FunOk Tryz.prog tab g_qk F_qk := by
 unfold F_qk; rw [Zac]
 exact Z6k fol Tryz.func163 is_qk (all_cons ok_qj all_nil)
theorem ok_ql : FunOk Tryz.prog tab g_ql F_ql := by
 unfold F_ql; rw [Zac]
 exact Z6k fol Tryz.func242 is_ql (all_cons ok_q0 all_nil)
theorem ok_qm : FunOk Tryz.prog tab g_qm F_qm := by
 unfold F_qm; rw [Zac]
 exact Z6k fol Tryz.func183 is_qm (all_cons ok_q0 (all_cons ok_q0 (all_cons ok_q0 (all_cons ok_ql (all_cons ok_q0 (all_cons ok_q0 (all_cons ok_q0 (all_cons ok_q0 all_nil))))))))
theorem ok_qn : FunOk Tryz.prog tab g_qn F_qn := by
 unfold F_qn; rw [Zac]
 exact Z6k fol Tryz.func226 is_qn (all_cons ok_qd all_nil)
theorem ok_qo : FunOk Tryz.prog tab g_qo F_qo := by
 unfold F_qo; rw [Zac]
 exact Z6k fol Tryz.func228 is_qo (all_cons ok_qn (all_cons ok_qk all_nil))
theorem ok_qp : FunOk Tryz.prog tab g_qp F_qp := by
 unfold F_qp; rw [Zac]
 exact Z6k fol Tryz.func65 is_qp (all_cons ok_q7 all_nil)
theorem ok_qq : FunOk Tryz.prog tab g_qq F_qq := by
 unfold F_qq; rw [Zac]
 exact Z6k fol Tryz.func227 is_qq (all_cons ok_q7 all_nil)
theorem ok_qr : FunOk Tryz.prog tab g_qr F_qr := by
 unfold F_qr; rw [Zac]
 exact Z6k fol Tryz.func186 is_qr (all_cons ok_q0 (all_cons ok_q0 (all_cons ok_q0 (all_cons ok_qq (all_cons ok_qp (all_cons ok_q0 (all_cons ok_q0 all_nil)))))))
theorem ok_qs : FunOk Tryz.prog tab g_qs F_qs := by
 unfold F_qs; rw [Zac]
 exact Z6k fol Tryz.func229 is_qs (all_cons ok_q0 (all_cons ok_ql all_nil))
theorem ok_qt : FunOk Tryz.prog tab g_qt F_qt := by
 unfold F_qt; rw [Zac]
 exact Z6k fol Tryz.func230 is_qt all_nil
theorem ok_qu : FunOk Tryz.prog tab g_qu F_qu := by
 unfold F_qu; rw [Zac]
 exact Z6k fol Tryz.func161 is_qu (all_cons ok_qm (all_cons ok_q0 (all_cons ok_q0 (all_cons ok_qr (all_cons ok_qn (all_cons ok_qo (all_cons ok_q1 (all_cons ok_q1 (all_cons ok_qq (all_cons ok_qs (all_cons ok_qt all_nil)))))))))))
theorem ok_qv : FunOk Tryz.prog tab g_qv F_qv := by
 unfold F_qv; rw [Zac]
 exact Z6k fol Tryz.func89 is_qv all_nil
theorem ok_qw : FunOk Tryz.prog tab g_qw F_qw := by
 unfold F_qw; rw [Zac]
 exact Z6k fol Tryz.func167 is_qw all_nil
theorem ok_qx : FunOk Tryz.prog tab g_qx F_qx := by
 unfold F_qx; rw [Zac]
 exact Z6k fol Tryz.func165 is_qx all_nil
theorem ok_qy : FunOk Tryz.prog tab g_qy F_qy := by
 unfold F_qy; rw [Zac]
 exact Z6k fol Tryz.func85 is_qy (all_cons ok_qu (all_cons ok_qv (all_cons ok_q6 (all_cons ok_qd (all_cons ok_q6 (all_cons ok_qk (all_cons ok_q1 (all_cons ok_q5 (all_cons ok_q1 (all_cons ok_q1 (all_cons ok_qj (all_cons ok_qv (all_cons ok_q6 (all_cons ok_qk (all_cons ok_qx (all_cons ok_qw all_nil))))))))))))))))
theorem ok_qz : FunOk Tryz.prog tab g_qz F_qz := by
 unfold F_qz; rw [Zac]
 exact Z6k fol Tryz.func86 is_qz all_nil
theorem ok_q10 : FunOk Tryz.prog tab g_q10 F_q10 := by
 unfold F_q10; rw [Zac]
 exact Z6k fol Tryz.func303 is_q10 all_nil
theorem ok_q11 : FunOk Tryz.prog tab g_q11 F_q11 := by
 unfold F_q11; rw [Zac]
 exact Z6k fol Tryz.func276 is_q11 (all_cons ok_q10 (all_cons ok_q10 all_nil))
theorem ok_q12 : FunOk Tryz.prog tab g_q12 F_q12 := by
 unfold F_q12; rw [Zac]
 exact Z6k fol Tryz.func198 is_q12 (all_cons ok_q8 (all_cons ok_q8 (all_cons ok_q8 all_nil)))
theorem ok_q13 : FunOk Tryz.prog tab g_q13 F_q13 := by
 unfold F_q13; rw [Zac]
 exact Z6k fol Tryz.func238 is_q13 (all_cons ok_qa (all_cons ok_qa (all_cons ok_q12 (all_cons ok_q11 (all_cons ok_q11 (all_cons ok_q11 (all_cons ok_q11 all_nil)))))))
theorem ok_q14 : FunOk Tryz.prog tab g_q14 F_q14 := by
 unfold F_q14; rw [Zac]
 exact Z6k fol Tryz.func237 is_q14 (all_cons ok_qe (all_cons ok_q12 all_nil))
theorem ok_q15 : FunOk Tryz.prog tab g_q15 F_q15 := by
 unfold F_q15; rw [Zac]
 exact Z6k fol Tryz.func168 is_q15 (all_cons ok_q14 (all_cons ok_q13 (all_cons ok_qk all_nil)))
theorem ok_q16 : FunOk Tryz.prog tab g_q16 F_q16 := by
 unfold F_q16; rw [Zac]
 exact Z6k fol Tryz.func87 is_q16 (all_cons ok_qz (all_cons ok_q15 all_nil))
theorem ok_q17 : FunOk Tryz.prog tab g_q17 F_q17 := by
 unfold F_q17; rw [Zac]
 exact Z6k fol Tryz.func88 is_q17 all_nil
theorem ok_q18 : FunOk Tryz.prog tab g_q18 F_q18 := by
 unfold F_q18; rw [Zac]
 exact Z6k fol Tryz.func23 is_q18 (all_cons ok_qy (all_cons ok_qz (all_cons ok_qv (all_cons ok_q6 (all_cons ok_q17 (all_cons ok_q16 all_nil))))))
theorem ok_q19 : FunOk Tryz.prog tab g_q19 F_q19 := by
 unfold F_q19; rw [Zac]
 exact Z6k fol Tryz.func16 is_q19 (all_cons ok_q18 (all_cons ok_qp all_nil))
theorem ok_q1a : FunOk Tryz.prog tab g_q1a F_q1a := by
 unfold F_q1a; rw [Zac]
 exact Z6k fol Tryz.func66 is_q1a all_nil
theorem ok_q1b : FunOk Tryz.prog tab g_q1b F_q1b := by
 unfold F_q1b; rw [Zac]
 exact Z6k fol Tryz.func68 is_q1b (all_cons ok_q1a all_nil)
theorem ok_q1c : FunOk Tryz.prog tab g_q1c F_q1c := by
 unfold F_q1c; rw [Zac]
 exact Z6k fol Tryz.func67 is_q1c (all_cons ok_q1a all_nil)
theorem ok_q1d : FunOk Tryz.prog tab g_q1d F_q1d := by
 unfold F_q1d; rw [Zac]
 exact Z6k fol Tryz.func17 is_q1d (all_cons ok_q1a (all_cons ok_q1a (all_cons ok_q1c all_nil)))
theorem ok_q1e : FunOk Tryz.prog tab g_q1e F_q1e := by
 unfold F_q1e; rw [Zac]
 exact Z6k fol Tryz.func91 is_q1e all_nil
theorem ok_q1f : FunOk Tryz.prog tab g_q1f F_q1f := by
 unfold F_q1f; rw [Zac]
 exact Z6k fol Tryz.func24 is_q1f (all_cons ok_q1e all_nil)
theorem ok_q1g : FunOk Tryz.prog tab g_q1g F_q1g := by
 unfold F_q1g; rw [Zac]
 exact Z6k fol Tryz.func157 is_q1g (all_cons ok_q1f (all_cons ok_q1d all_nil))
theorem ok_q1h : FunOk Tryz.prog tab g_q1h F_q1h := by
 unfold F_q1h; rw [Zac]
 exact Z6k fol Tryz.func72 is_q1h (all_cons ok_q1g all_nil)
theorem ok_q1i : FunOk Tryz.prog tab g_q1i F_q1i := by
 unfold F_q1i; rw [Zac]
 exact Z6k fol Tryz.func158 is_q1i (all_cons ok_q1g all_nil)
theorem ok_q1j : FunOk Tryz.prog tab g_q1j F_q1j := by
 unfold F_q1j; rw [Zac]
 exact Z6k fol Tryz.func73 is_q1j (all_cons ok_q1i all_nil)
theorem ok_q1k : FunOk Tryz.prog tab g_q1k F_q1k := by
 unfold F_q1k; rw [Zac]
 exact Z6k fol Tryz.func225 is_q1k (all_cons ok_q1h all_nil)
theorem ok_q1l : FunOk Tryz.prog tab g_q1l F_q1l := by
 unfold F_q1l; rw [Zac]
 exact Z6k fol Tryz.func155 is_q1l (all_cons ok_q1k all_nil)
theorem ok_q1m : FunOk Tryz.prog tab g_q1m F_q1m := by
 unfold F_q1m; rw [Zac]
 exact Z6k fol Tryz.func70 is_q1m (all_cons ok_q1l all_nil)
theorem ok_q1n : FunOk Tryz.prog tab g_q1n F_q1n := by
 unfold F_q1n; rw [Zac]
 exact Z6k fol Tryz.func154 is_q1n (all_cons ok_q1f all_nil)
theorem ok_q1o : FunOk Tryz.prog tab g_q1o F_q1o := by
 unfold F_q1o; rw [Zac]
 exact Z6k fol Tryz.func69 is_q1o (all_cons ok_q1n all_nil)
theorem ok_q1p : FunOk Tryz.prog tab g_q1p F_q1p := by
 unfold F_q1p; rw [Zac]
 exact Z6k fol Tryz.func156 is_q1p (all_cons ok_q1a all_nil)
theorem ok_q1q : FunOk Tryz.prog tab g_q1q F_q1q := by
 unfold F_q1q; rw [Zac]
 exact Z6k fol Tryz.func71 is_q1q (all_cons ok_q1p all_nil)
theorem ok_q1r : FunOk Tryz.prog tab g_q1r F_q1r := by
 unfold F_q1r; rw [Zac]
 exact Z6k fol Tryz.func18 is_q1r (all_cons ok_q1b (all_cons ok_q1o (all_cons ok_q1m (all_cons ok_q1q (all_cons ok_q1h (all_cons ok_q1j all_nil))))))
theorem ok_q1s : FunOk Tryz.prog tab g_q1s F_q1s := by
 unfold F_q1s; rw [Zac]
 exact Z6k fol Tryz.func82 is_q1s all_nil
theorem ok_q1t : FunOk Tryz.prog tab g_q1t F_q1t := by
 unfold F_q1t; rw [Zac]
 exact Z6k fol Tryz.func83 is_q1t (all_cons ok_q1s all_nil)
theorem ok_q1u : FunOk Tryz.prog tab g_q1u F_q1u := by
 unfold F_q1u; rw [Zac]
 exact Z6k fol Tryz.func21 is_q1u (all_cons ok_q1s (all_cons ok_q1s (all_cons ok_q1t all_nil)))
theorem ok_q1v : FunOk Tryz.prog tab g_q1v F_q1v := by
 unfold F_q1v; rw [Zac]
 exact Z6i fol Tryz.func80 is_q1v all_nil
theorem ok_q1w : FunOk Tryz.prog tab g_q1w F_q1w := by
 unfold F_q1w; rw [Zac]
 exact Z6i fol Tryz.func74 is_q1w (all_cons ok_q1v all_nil)
theorem ok_q1x : FunOk Tryz.prog tab g_q1x F_q1x := by
 unfold F_q1x; rw [Zac]
 exact Z6i fol Tryz.func81 is_q1x (all_cons ok_q1v all_nil)
theorem ok_q1y : FunOk Tryz.prog tab g_q1y F_q1y := by
 unfold F_q1y; rw [Zac]
 exact Z6i fol Tryz.func25 is_q1y all_nil
theorem ok_q1z : FunOk Tryz.prog tab g_q1z F_q1z := by
 unfold F_q1z; rw [Zac]
 exact Z6i fol Tryz.func78 is_q1z (all_cons ok_q1y (all_cons ok_q1v (all_cons ok_q1v (all_cons ok_q1x all_nil))))
theorem ok_q20 : FunOk Tryz.prog tab g_q20 F_q20 := by
 unfold F_q20; rw [Zac]
 exact Z6i fol Tryz.func79 is_q20 (all_cons ok_q1y (all_cons ok_q1v (all_cons ok_q1v (all_cons ok_q1x all_nil))))
theorem ok_q21 : FunOk Tryz.prog tab g_q21 F_q21 := by
 unfold F_q21; rw [Zac]
 exact Z6i fol Tryz.func159 is_q21 (all_cons ok_q1z all_nil)
theorem ok_q22 : FunOk Tryz.prog tab g_q22 F_q22 := by
 unfold F_q22; rw [Zac]
 exact Z6i fol Tryz.func76 is_q22 (all_cons ok_q21 all_nil)
theorem ok_q23 : FunOk Tryz.prog tab g_q23 F_q23 := by
 unfold F_q23; rw [Zac]
 exact Z6i fol Tryz.func75 is_q23 (all_cons ok_q1y all_nil)
theorem ok_q24 : FunOk Tryz.prog tab g_q24 F_q24 := by
 unfold F_q24; rw [Zac]
 exact Z6i fol Tryz.func77 is_q24 (all_cons ok_q1v all_nil)
theorem ok_q25 : FunOk Tryz.prog tab g_q25 F_q25 := by
 unfold F_q25; rw [Zac]
 exact Z6i fol Tryz.func19 is_q25 (all_cons ok_q1w (all_cons ok_q23 (all_cons ok_q22 (all_cons ok_q24 (all_cons ok_q1z (all_cons ok_q20 all_nil))))))
theorem ok_q26 : FunOk Tryz.prog tab g_q26 F_q26 := by
 unfold F_q26; rw [Zac]
 exact Z6i fol Tryz.func20 is_q26 (all_cons ok_q1v (all_cons ok_q1v (all_cons ok_q1x all_nil)))
theorem ok_q27 : FunOk Tryz.prog tab g_q27 F_q27 := by
 unfold F_q27; rw [Zac]
 exact Z6k fol Tryz.func129 is_q27 all_nil
theorem ok_q28 : FunOk Tryz.prog tab g_q28 F_q28 := by
 unfold F_q28; rw [Zac]
 exact Z6k fol Tryz.func48 is_q28 (all_cons ok_q27 all_nil)
theorem ok_q29 : FunOk Tryz.prog tab g_q29 F_q29 := by
 unfold F_q29; rw [Zac]
 exact Z6k fol Tryz.func268 is_q29 (all_cons ok_q27 all_nil)
theorem ok_q2a : FunOk Tryz.prog tab g_q2a F_q2a := by
 unfold F_q2a; rw [Zac]
 exact Z6k fol Tryz.func215 is_q2a (all_cons ok_q27 (all_cons ok_q27 (all_cons ok_q29 all_nil)))
theorem ok_q2b : FunOk Tryz.prog tab g_q2b F_q2b := by
 unfold F_q2b; rw [Zac]
 exact Z6k fol Tryz.func213 is_q2b all_nil
theorem ok_q2c : FunOk Tryz.prog tab g_q2c F_q2c := by
 unfold F_q2c; rw [Zac]
 exact Z6k fol Tryz.func133 is_q2c (all_cons ok_q2b (all_cons ok_q2a all_nil))
theorem ok_q2d : FunOk Tryz.prog tab g_q2d F_q2d := by
 unfold F_q2d; rw [Zac]
 exact Z6k fol Tryz.func52 is_q2d (all_cons ok_q2c all_nil)
theorem ok_q2e : FunOk Tryz.prog tab g_q2e F_q2e := by
 unfold F_q2e; rw [Zac]
 exact Z6k fol Tryz.func134 is_q2e (all_cons ok_q2c all_nil)
theorem ok_q2f : FunOk Tryz.prog tab g_q2f F_q2f := by
 unfold F_q2f; rw [Zac]
 exact Z6k fol Tryz.func53 is_q2f (all_cons ok_q2e all_nil)
theorem ok_q2g : FunOk Tryz.prog tab g_q2g F_q2g := by
 unfold F_q2g; rw [Zac]
 exact Z6k fol Tryz.func214 is_q2g (all_cons ok_q2d all_nil)
theorem ok_q2h : FunOk Tryz.prog tab g_q2h F_q2h := by
 unfold F_q2h; rw [Zac]
 exact Z6k fol Tryz.func131 is_q2h (all_cons ok_q2g all_nil)
theorem ok_q2i : FunOk Tryz.prog tab g_q2i F_q2i := by
 unfold F_q2i; rw [Zac]
 exact Z6k fol Tryz.func50 is_q2i (all_cons ok_q2h all_nil)
theorem ok_q2j : FunOk Tryz.prog tab g_q2j F_q2j := by
 unfold F_q2j; rw [Zac]
 exact Z6k fol Tryz.func130 is_q2j (all_cons ok_q2b all_nil)
theorem ok_q2k : FunOk Tryz.prog tab g_q2k F_q2k := by
 unfold F_q2k; rw [Zac]
 exact Z6k fol Tryz.func49 is_q2k (all_cons ok_q2j all_nil)
theorem ok_q2l : FunOk Tryz.prog tab g_q2l F_q2l := by
 unfold F_q2l; rw [Zac]
 exact Z6k fol Tryz.func132 is_q2l (all_cons ok_q27 all_nil)
theorem ok_q2m : FunOk Tryz.prog tab g_q2m F_q2m := by
 unfold F_q2m; rw [Zac]
 exact Z6k fol Tryz.func51 is_q2m (all_cons ok_q2l all_nil)
theorem ok_q2n : FunOk Tryz.prog tab g_q2n F_q2n := by
 unfold F_q2n; rw [Zac]
 exact Z6k fol Tryz.func13 is_q2n (all_cons ok_q28 (all_cons ok_q2k (all_cons ok_q2i (all_cons ok_q2m (all_cons ok_q2d (all_cons ok_q2f all_nil))))))
theorem ok_q2o : FunOk Tryz.prog tab g_q2o F_q2o := by
 unfold F_q2o; rw [Zac]
 exact Z6k fol Tryz.func147 is_q2o all_nil
theorem ok_q2p : FunOk Tryz.prog tab g_q2p F_q2p := by
 unfold F_q2p; rw [Zac]
 exact Z6k fol Tryz.func59 is_q2p (all_cons ok_q2o all_nil)
theorem ok_q2q : FunOk Tryz.prog tab g_q2q F_q2q := by
 unfold F_q2q; rw [Zac]
 exact Z6k fol Tryz.func272 is_q2q (all_cons ok_q2o all_nil)
theorem ok_q2r : FunOk Tryz.prog tab g_q2r F_q2r := by
 unfold F_q2r; rw [Zac]
 exact Z6k fol Tryz.func224 is_q2r (all_cons ok_q2o (all_cons ok_q2o (all_cons ok_q2q all_nil)))
theorem ok_q2s : FunOk Tryz.prog tab g_q2s F_q2s := by
 unfold F_q2s; rw [Zac]
 exact Z6k fol Tryz.func271 is_q2s all_nil
theorem ok_q2t : FunOk Tryz.prog tab g_q2t F_q2t := by
 unfold F_q2t; rw [Zac]
 exact Z6k fol Tryz.func222 is_q2t (all_cons ok_q2s all_nil)
theorem ok_q2u : FunOk Tryz.prog tab g_q2u F_q2u := by
 unfold F_q2u; rw [Zac]
 exact Z6k fol Tryz.func151 is_q2u (all_cons ok_q2t (all_cons ok_q2r all_nil))
theorem ok_q2v : FunOk Tryz.prog tab g_q2v F_q2v := by
 unfold F_q2v; rw [Zac]
 exact Z6k fol Tryz.func63 is_q2v (all_cons ok_q2u all_nil)
theorem ok_q2w : FunOk Tryz.prog tab g_q2w F_q2w := by
 unfold F_q2w; rw [Zac]
 exact Z6k fol Tryz.func152 is_q2w (all_cons ok_q2u all_nil)
theorem ok_q2x : FunOk Tryz.prog tab g_q2x F_q2x := by
 unfold F_q2x; rw [Zac]
 exact Z6k fol Tryz.func64 is_q2x (all_cons ok_q2w all_nil)
theorem ok_q2y : FunOk Tryz.prog tab g_q2y F_q2y := by
 unfold F_q2y; rw [Zac]
 exact Z6k fol Tryz.func223 is_q2y (all_cons ok_q2v all_nil)
theorem ok_q2z : FunOk Tryz.prog tab g_q2z F_q2z := by
 unfold F_q2z; rw [Zac]
 exact Z6k fol Tryz.func149 is_q2z (all_cons ok_q2y all_nil)
theorem ok_q30 : FunOk Tryz.prog tab g_q30 F_q30 := by
 unfold F_q30; rw [Zac]
 exact Z6k fol Tryz.func61 is_q30 (all_cons ok_q2z all_nil)
theorem ok_q31 : FunOk Tryz.prog tab g_q31 F_q31 := by
 unfold F_q31; rw [Zac]
 exact Z6k fol Tryz.func148 is_q31 (all_cons ok_q2t all_nil)
theorem ok_q32 : FunOk Tryz.prog tab g_q32 F_q32 := by
 unfold F_q32; rw [Zac]
 exact Z6k fol Tryz.func60 is_q32 (all_cons ok_q31 all_nil)
theorem ok_q33 : FunOk Tryz.prog tab g_q33 F_q33 := by
 unfold F_q33; rw [Zac]
 exact Z6k fol Tryz.func150 is_q33 (all_cons ok_q2o all_nil)
theorem ok_q34 : FunOk Tryz.prog tab g_q34 F_q34 := by
 unfold F_q34; rw [Zac]
 exact Z6k fol Tryz.func62 is_q34 (all_cons ok_q33 all_nil)
theorem ok_q35 : FunOk Tryz.prog tab g_q35 F_q35 := by
 unfold F_q35; rw [Zac]
 exact Z6k fol Tryz.func15 is_q35 (all_cons ok_q2p (all_cons ok_q32 (all_cons ok_q30 (all_cons ok_q34 (all_cons ok_q2v (all_cons ok_q2x all_nil))))))
theorem ok_q36 : FunOk Tryz.prog tab g_q36 F_q36 := by
 unfold F_q36; rw [Zac]
 exact Z6k fol Tryz.func190 is_q36 all_nil
theorem ok_q37 : FunOk Tryz.prog tab g_q37 F_q37 := by
 unfold F_q37; rw [Zac]
 exact Z6k fol Tryz.func216 is_q37 (all_cons ok_q36 all_nil)
theorem ok_q38 : FunOk Tryz.prog tab g_q38 F_q38 := by
 unfold F_q38; rw [Zac]
 exact Z6k fol Tryz.func135 is_q38 (all_cons ok_q36 (all_cons ok_q36 (all_cons ok_q36 (all_cons ok_q37 (all_cons ok_q36 (all_cons ok_q36 (all_cons ok_q36 (all_cons ok_q36 all_nil))))))))
theorem ok_q39 : FunOk Tryz.prog tab g_q39 F_q39 := by
 unfold F_q39; rw [Zac]
 exact Z6k fol Tryz.func146 is_q39 (all_cons ok_q36 (all_cons ok_q36 all_nil))
theorem ok_q3a : FunOk Tryz.prog tab g_q3a F_q3a := by
 unfold F_q3a; rw [Zac]
 exact Z6k fol Tryz.func138 is_q3a (all_cons ok_q39 (all_cons ok_q39 all_nil))
theorem ok_q3b : FunOk Tryz.prog tab g_q3b F_q3b := by
 unfold F_q3b; rw [Zac]
 exact Z6k fol Tryz.func56 is_q3b all_nil
theorem ok_q3c : FunOk Tryz.prog tab g_q3c F_q3c := by
 unfold F_q3c; rw [Zac]
 exact Z6k fol Tryz.func144 is_q3c all_nil
theorem ok_q3d : FunOk Tryz.prog tab g_q3d F_q3d := by
 unfold F_q3d; rw [Zac]
 exact Z6k fol Tryz.func143 is_q3d all_nil
theorem ok_q3e : FunOk Tryz.prog tab g_q3e F_q3e := by
 unfold F_q3e; rw [Zac]
 exact Z6k fol Tryz.func141 is_q3e (all_cons ok_q3c (all_cons ok_q3d (all_cons ok_q3c all_nil)))
theorem ok_q3f : FunOk Tryz.prog tab g_q3f F_q3f := by
 unfold F_q3f; rw [Zac]
 exact Z6k fol Tryz.func292 is_q3f (all_cons ok_q36 all_nil)
theorem ok_q3g : FunOk Tryz.prog tab g_q3g F_q3g := by
 unfold F_q3g; rw [Zac]
 exact Z6k fol Tryz.func270 is_q3g (all_cons ok_q36 (all_cons ok_q36 (all_cons ok_q36 (all_cons ok_q36 (all_cons ok_q3f (all_cons ok_q3f (all_cons ok_q3f (all_cons ok_q3f all_nil))))))))
theorem ok_q3h : FunOk Tryz.prog tab g_q3h F_q3h := by
 unfold F_q3h; rw [Zac]
 exact Z6k fol Tryz.func269 is_q3h (all_cons ok_q36 (all_cons ok_q36 all_nil))
theorem ok_q3i : FunOk Tryz.prog tab g_q3i F_q3i := by
 unfold F_q3i; rw [Zac]
 exact Z6k fol Tryz.func220 is_q3i (all_cons ok_q3h (all_cons ok_q39 (all_cons ok_q3g all_nil)))
theorem ok_q3j : FunOk Tryz.prog tab g_q3j F_q3j := by
 unfold F_q3j; rw [Zac]
 exact Z6k fol Tryz.func218 is_q3j (all_cons ok_q3i (all_cons ok_q3a all_nil))
theorem ok_q3k : FunOk Tryz.prog tab g_q3k F_q3k := by
 unfold F_q3k; rw [Zac]
 exact Z6k fol Tryz.func160 is_q3k all_nil
theorem ok_q3l : FunOk Tryz.prog tab g_q3l F_q3l := by
 unfold F_q3l; rw [Zac]
 exact Z6k fol Tryz.func114 is_q3l (all_cons ok_q3d (all_cons ok_q3c all_nil))
theorem ok_q3m : FunOk Tryz.prog tab g_q3m F_q3m := by
 unfold F_q3m; rw [Zac]
 exact Z6k fol Tryz.func84 is_q3m (all_cons ok_q3k (all_cons ok_q3l all_nil))
theorem ok_q3n : FunOk Tryz.prog tab g_q3n F_q3n := by
 unfold F_q3n; rw [Zac]
 exact Z6k fol Tryz.func217 is_q3n (all_cons ok_q3j (all_cons ok_q3m all_nil))
theorem ok_q3o : FunOk Tryz.prog tab g_q3o F_q3o := by
 unfold F_q3o; rw [Zac]
 exact Z6k fol Tryz.func58 is_q3o (all_cons ok_q39 all_nil)
theorem ok_q3p : FunOk Tryz.prog tab g_q3p F_q3p := by
 unfold F_q3p; rw [Zac]
 exact Z6k fol Tryz.func243 is_q3p (all_cons ok_q39 all_nil)
theorem ok_q3q : FunOk Tryz.prog tab g_q3q F_q3q := by
 unfold F_q3q; rw [Zac]
 exact Z6k fol Tryz.func185 is_q3q (all_cons ok_q36 (all_cons ok_q36 (all_cons ok_q36 (all_cons ok_q3p (all_cons ok_q3o (all_cons ok_q36 (all_cons ok_q36 all_nil)))))))
theorem ok_q3r : FunOk Tryz.prog tab g_q3r F_q3r := by
 unfold F_q3r; rw [Zac]
 exact Z6k fol Tryz.func191 is_q3r (all_cons ok_q36 all_nil)
theorem ok_q3s : FunOk Tryz.prog tab g_q3s F_q3s := by
 unfold F_q3s; rw [Zac]
 exact Z6k fol Tryz.func219 is_q3s (all_cons ok_q3r (all_cons ok_q37 all_nil))
theorem ok_q3t : FunOk Tryz.prog tab g_q3t F_q3t := by
 unfold F_q3t; rw [Zac]
 exact Z6k fol Tryz.func136 is_q3t (all_cons ok_q36 (all_cons ok_q36 (all_cons ok_q3q (all_cons ok_q3n (all_cons ok_q3j (all_cons ok_q3e (all_cons ok_q3o (all_cons ok_q3s all_nil))))))))
theorem ok_q3u : FunOk Tryz.prog tab g_q3u F_q3u := by
 unfold F_q3u; rw [Zac]
 exact Z6k fol Tryz.func241 is_q3u all_nil
theorem ok_q3v : FunOk Tryz.prog tab g_q3v F_q3v := by
 unfold F_q3v; rw [Zac]
 exact Z6k fol Tryz.func182 is_q3v (all_cons ok_q3u all_nil)
theorem ok_q3w : FunOk Tryz.prog tab g_q3w F_q3w := by
 unfold F_q3w; rw [Zac]
 exact Z6k fol Tryz.func137 is_q3w (all_cons ok_q3i (all_cons ok_q3i (all_cons ok_q3v all_nil)))
theorem ok_q3x : FunOk Tryz.prog tab g_q3x F_q3x := by
 unfold F_q3x; rw [Zac]
 exact Z6k fol Tryz.func140 is_q3x (all_cons ok_q3l all_nil)
theorem ok_q3y : FunOk Tryz.prog tab g_q3y F_q3y := by
 unfold F_q3y; rw [Zac]
 exact Z6k fol Tryz.func139 is_q3y all_nil
theorem ok_q3z : FunOk Tryz.prog tab g_q3z F_q3z := by
 unfold F_q3z; rw [Zac]
 exact Z6k fol Tryz.func55 is_q3z (all_cons ok_q38 (all_cons ok_q3t (all_cons ok_q3w (all_cons ok_q3b (all_cons ok_q3a (all_cons ok_q3m (all_cons ok_q3x (all_cons ok_q3y (all_cons ok_q3e (all_cons ok_q3e all_nil))))))))))
theorem ok_q40 : FunOk Tryz.prog tab g_q40 F_q40 := by
 unfold F_q40; rw [Zac]
 exact Z6k fol Tryz.func54 is_q40 all_nil
theorem ok_q41 : FunOk Tryz.prog tab g_q41 F_q41 := by
 unfold F_q41; rw [Zac]
 exact Z6k fol Tryz.func221 is_q41 (all_cons ok_q3d (all_cons ok_q3c all_nil))
theorem ok_q42 : FunOk Tryz.prog tab g_q42 F_q42 := by
 unfold F_q42; rw [Zac]
 exact Z6k fol Tryz.func142 is_q42 (all_cons ok_q41 (all_cons ok_q41 (all_cons ok_q3d all_nil)))
theorem ok_q43 : FunOk Tryz.prog tab g_q43 F_q43 := by
 unfold F_q43; rw [Zac]
 exact Z6k fol Tryz.func145 is_q43 (all_cons ok_q42 all_nil)
theorem ok_q44 : FunOk Tryz.prog tab g_q44 F_q44 := by
 unfold F_q44; rw [Zac]
 exact Z6k fol Tryz.func57 is_q44 (all_cons ok_q42 (all_cons ok_q42 (all_cons ok_q3d (all_cons ok_q3c (all_cons ok_q43 (all_cons ok_q43 (all_cons ok_q43 (all_cons ok_q3c all_nil))))))))
theorem ok_q45 : FunOk Tryz.prog tab g_q45 F_q45 := by
 unfold F_q45; rw [Zac]
 exact Z6k fol Tryz.func14 is_q45 (all_cons ok_q40 (all_cons ok_q3z (all_cons ok_q3b (all_cons ok_q44 (all_cons ok_q3o all_nil)))))
theorem ok_q46 : FunOk Tryz.prog tab g_q46 F_q46 := by
 unfold F_q46; rw [Zac]
 exact Z6k fol Tryz.func3 is_q46 (all_cons ok_q2n (all_cons ok_q35 (all_cons ok_q45 (all_cons ok_q35 (all_cons ok_q19 (all_cons ok_q1d (all_cons ok_q35 (all_cons ok_q1r (all_cons ok_q25 (all_cons ok_q1d (all_cons ok_q26 (all_cons ok_q1u (all_cons ok_q35 (all_cons ok_q19 (all_cons ok_q1d (all_cons ok_q1u all_nil))))))))))))))))
theorem law_FnExactSumOf : ∀ xs, ArgTys [GHouse.ty, .i .i64, .i .i64] xs -> F_q46 xs = some ⟨[.one (.b true)], []⟩ := by
 intro xs h
 obtain ⟨_, _, rfl, ⟨t0, h0, rfl⟩, h⟩ := h
 obtain ⟨_, _, rfl, ⟨t1, h1, rfl⟩, h⟩ := h
 obtain ⟨_, _, rfl, ⟨t2, h2, rfl⟩, h⟩ := h
 obtain rfl := h
 obtain ⟨x0, rfl, f0⟩ := GHouse.of h0
 obtain ⟨x1, rfl⟩ := Z7u h1
 obtain ⟨x2, rfl⟩ := Z7u h2
 exact q46_eq x0 x1 x2 f0
end Go.Wr
namespace Go.Proofs.YtbghjecopkbhlaaGreat
open Go.ChangeShapes Go.WideShapes Go.ChangeAt Go.RowKit Go.Wr
theorem own : ownKnob Tryz.prog.godebug = none := by kernel_rfl
theorem laidOut : laidOutB Tryz.prog = true := fact42
set_option maxRecDepth 100000 in
theorem lifted (os : Os) (started : os.Started) (H : Type) (enc : TypeId × Value -> H) :
  ReturnsInHanded {} Tryz.checked os 3 .any (Rows.fnExactSumOfSpec.pre6 enc Tryz.prog Tryz.f3 Rows.fnExactSumOfRow.domain false) (Rows.fnExactSumOfSpec.post enc Tryz.prog Tryz.f3 false true false false) := by
 refine returnsInHanded_of_change (C := Tryz.checked) own started (by kernel_rfl) Tryz.func3
  (ChangeSpec.witness6 (enc := enc) (C := Tryz.checked) false ⟨#[], #[.agg #[.int .i64 0, .int .i64 0, .int .i64 0, .slice none 0 0, .int .i64 0, .int .i64 0, .int .i64 0, .int .i64 0, .int .i64 0, .bool false, .slice none 0 0, .slice none 0 0, .slice none 0 0, .int .i64 0, .slice none 0 0, .slice none 0 0], .int .i64 0, .int .i64 0], []⟩ 8 (by kernel_rfl) (by kernel_rfl) (by kernel_rfl) (by kernel_rfl)) ?_
 intro W base args ds gs before hval0 hW hcnd _
 have hval : ∀ (j : Nat) t v, Tryz.f3.params[j]? = some t -> args[j]? = some v -> Value.okWide Tryz.prog W .any base t v := hval0
 exact Z9j (es := [GHouse.ty, .i .i64, .i .i64]) laidOut ok_q46 rfl (by kernel_rfl) (by kernel_rfl) law_FnExactSumOf rfl (fun ds h => by
  match ds, h with
  | [a0, a1, a2], _ => rfl) hval hW
theorem fnExactSumOf_holds : Rows.FnExactSumOfSaid :=
 OpenClaim.holds_of_wide 3 Tryz.f3 rfl rfl rfl rfl rfl rfl rfl ⟨rfl, rfl, rfl, rfl, rfl⟩ rfl rfl rfl rfl rfl (by as_aux_lemma => kernel_rfl) Tryz.func3 closed
  (of_decide_eq_true (by as_aux_lemma => kernel_rfl)) (by unfold Func.isWrapper; first | (rw [if_pos (by as_aux_lemma => decide +kernel)]; kernel_rfl) | (rw [if_neg (by as_aux_lemma => decide +kernel)]; exact ⟨rfl, rfl⟩))
  (fun os started H enc _ => lifted os started H enc)
end Go.Proofs.YtbghjecopkbhlaaGreat

