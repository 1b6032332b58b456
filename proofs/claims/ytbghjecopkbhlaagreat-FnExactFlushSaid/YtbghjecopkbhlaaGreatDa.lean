/-
  What is proved: the law FnExactFlush returns true for every input and leaves its arguments as they were. No condition.
-/
import Derived.Test.YtbghjecopkbhlaaGreatCa
import Derived.Test.YtbghjecopkbhlaaGreatQd
import Derived.Test.YtbghjecopkbhlaaGreatRc
import Derived.Test.YtbghjecopkbhlaaGreatRows
import Derived.Test.YtbghjecopkbhlaaGreatEa
import Derived.Test.YtbghjecopkbhlaaGreatEb
import Derived.Test.YtbghjecopkbhlaaGreatEc
import Derived.Test.YtbghjecopkbhlaaGreatEd
import Derived.Test.YtbghjecopkbhlaaGreatEe
import Derived.Test.YtbghjecopkbhlaaGreatEf
import Derived.ProofKit
set_option linter.unusedVariables false
set_option linter.unusedSimpArgs false
namespace Go.Wr
open Go.Proofs
theorem an {q : Nat × Fun -> Prop} : ∀ p ∈ ([] : List (Nat × Fun)), q p := fun _ h => by cases h
theorem ac {g : Nat} {F : Fun} {q : Nat -> Fun -> Prop} {l : List (Nat × Fun)} (h : q g F) (hl : ∀ p ∈ l, q p.1 p.2) : ∀ p ∈ (g, F) :: l, q p.1 p.2 := fun p hp => by
 rcases Y55.1 hp with rfl | hp
 ·exact h
 ·exact hl p hp
abbrev OK (g : Nat) (F : Fun) : Prop := dB Tryz.prog tab g F
theorem okF {g : Nat} {m : aA} {fn : Func} (hf : Tryz.prog.funcs[tab g]? = some fn) (h : aq Tryz.prog tab m fn = true) (hF : ∀ p ∈ m.code.calls, OK p.1 p.2) : OK g (lock (aD m)) := by
 rw [Zac]; exact Z6k fol hf h hF
theorem okM {g : Nat} {m : aA} {fn : Func} (hf : Tryz.prog.funcs[tab g]? = some fn) (h : aq Tryz.prog tab m fn = true) (hF : ∀ p ∈ m.code.calls, OK p.1 p.2) : OK g (lock (dA m)) := by
 rw [Zac]; exact Z6i fol hf h hF
theorem cH : OK cm cU := okF Tryz.func184 Jz an
theorem lM : OK jh kQ := okF Tryz.func164 JA (ac cH (ac cH an))
theorem Kv : OK nM AU := okF Tryz.func196 JB (ac cH an)
theorem Kw : OK AD AX := okF Tryz.func249 JC (ac Kv an)
theorem Kx : OK AE AZ := okF Tryz.func195 JD (ac Kw an)
theorem Cb : OK pA s9 := okF Tryz.func120 JE (ac Kx an)
theorem yU : OK j9 nP := okF Tryz.func90 JF an
theorem nt : OK ig l0 := okF Tryz.func153 JG (ac cH (ac cH an))
theorem o9 : OK ka nQ := okF Tryz.func240 JH an
theorem Ky : OK AF A9 := okF Tryz.func279 JI (ac o9 an)
theorem pa : OK kb nR := okF Tryz.func250 JJ (ac Ky (ac cH an))
theorem Kz : OK AG Bb := okF Tryz.func231 JK (ac cH (ac cH (ac nt (ac pa an))))
theorem KA : OK AH Bd := okF Tryz.func232 JL (ac nt (ac nt an))
theorem Cc : OK pB pH := okF Tryz.func162 JM (ac Kz (ac KA an))
theorem Cd : OK pC td := okF Tryz.func233 JN an
theorem Ce : OK AI Bg := okF Tryz.func275 JO an
theorem KB : OK CQ CT := okF Tryz.func236 JP (ac Ce (ac Ce an))
theorem L7 : OK pD LB := okF Tryz.func235 JQ (ac KB an)
theorem Cf : OK pE te := okF Tryz.func166 JR (ac Cd (ac Kd an))
theorem pb : OK kc kR := okF Tryz.func163 JS (ac Cf an)
theorem Cg : OK pF tf := okF Tryz.func242 JT (ac cH an)
theorem KC : OK AK Bl := okF Tryz.func183 JU (ac cH (ac cH (ac cH (ac Cg (ac cH (ac cH (ac cH (ac cH an))))))))
theorem Ch : OK nN tg := okF Tryz.func226 JV (ac Cc an)
theorem KD : OK AL Bn := okF Tryz.func228 JW (ac Ch (ac pb an))
theorem KE : OK nO tn := okF Tryz.func65 JX (ac nt an)
theorem yV : OK lY pK := okF Tryz.func227 JY (ac nt an)
theorem KF : OK AM Bq := okF Tryz.func186 JZ (ac cH (ac cH (ac cH (ac yV (ac KE (ac cH (ac cH an)))))))
theorem KG : OK AN Bs := okF Tryz.func229 J4 (ac cH (ac Cg an))
theorem KH : OK AO Bu := okF Tryz.func230 J5 an
theorem KI : OK rf Bw := okF Tryz.func161 J6 (ac KC (ac cH (ac cH (ac KF (ac Ch (ac KD (ac lM (ac lM (ac yV (ac KG (ac KH an)))))))))))
theorem Ci : OK kP pL := okF Tryz.func89 J7 an
theorem KJ : OK AP Bz := okF Tryz.func167 J8 an
theorem KK : OK AQ BC := okF Tryz.func165 J9 an
theorem KL : OK lZ tu := okF Tryz.func85 Ka (ac KI (ac Ci (ac yU (ac Cc (ac yU (ac pb (ac lM (ac Cb (ac lM (ac lM (ac Cf (ac Ci (ac yU (ac pb (ac KK (ac KJ an))))))))))))))))
theorem qd : OK ke mN := okF Tryz.func198 CX (ac o9 (ac o9 (ac o9 an)))
theorem Hr : OK ri tE := okF Tryz.func237 CZ (ac Cd (ac qd an))
theorem kZ : OK gW kx := okF Tryz.func66 C7 an
theorem Hw : OK rl tL := okF Tryz.func68 C8 (ac kZ an)
theorem Hx : OK rm tN := okF Tryz.func67 C9 (ac kZ an)
theorem lc : OK eA fq := okF Tryz.func17 Da (ac kZ (ac kZ (ac Hx an)))
theorem Hy : OK rn tQ := okF Tryz.func91 Db an
theorem jP : OK eV gu := okF Tryz.func24 Dc (ac Hy an)
theorem zQ : OK my ou := okF Tryz.func157 Dd (ac jP (ac lc an))
theorem zR : OK mz ox := okF Tryz.func72 De (ac zQ an)
theorem Hz : OK rq tV := okF Tryz.func158 Df (ac zQ an)
theorem HA : OK ru tX := okF Tryz.func73 Dg (ac Hz an)
theorem HB : OK ry tZ := okF Tryz.func225 Dh (ac zR an)
theorem HC : OK rz ub := okF Tryz.func155 Di (ac HB an)
theorem HD : OK rA ud := okF Tryz.func70 Dj (ac HC an)
theorem HE : OK rB uf := okF Tryz.func154 Dk (ac jP an)
theorem HF : OK rC uh := okF Tryz.func69 Dl (ac HE an)
theorem HG : OK rD uj := okF Tryz.func156 Dm (ac kZ an)
theorem HH : OK rE ul := okF Tryz.func71 Dn (ac HG an)
theorem HI : OK kf lG := okF Tryz.func18 Dp (ac Hw (ac HF (ac HD (ac HH (ac zR (ac HA an))))))
theorem qe : OK kg mS := okF Tryz.func82 Dq an
theorem HJ : OK rF ur := okF Tryz.func83 Dr (ac qe an)
theorem fG : OK dv fT := okM Tryz.func80 Dt an
theorem HK : OK rG uy := okM Tryz.func74 Du (ac fG an)
theorem nw : OK iO lH := okM Tryz.func81 Dv (ac fG an)
theorem lf : OK fR jz := okM Tryz.func25 Dw an
theorem zU : OK mA oy := okM Tryz.func78 Dx (ac lf (ac fG (ac fG (ac nw an))))
theorem HL : OK rH uD := okM Tryz.func79 Dy (ac lf (ac fG (ac fG (ac nw an))))
theorem HM : OK rI uF := okM Tryz.func159 Dz (ac zU an)
theorem HN : OK rJ uH := okM Tryz.func76 DA (ac HM an)
theorem HO : OK rK uJ := okM Tryz.func75 DB (ac lf an)
theorem HP : OK rL uL := okM Tryz.func77 DC (ac fG an)
theorem HQ : OK kh mT := okM Tryz.func19 DD (ac HK (ac HO (ac HN (ac HP (ac zU (ac HL an))))))
theorem lg : OK gX ky := okF Tryz.func129 DF an
theorem HS : OK rM uQ := okF Tryz.func48 DG (ac lg an)
theorem HT : OK rN uS := okF Tryz.func268 DH (ac lg an)
theorem zW : OK mB oz := okF Tryz.func215 DI (ac lg (ac lg (ac HT an)))
theorem qf : OK kj mV := okF Tryz.func213 DJ an
theorem zX : OK mC oA := okF Tryz.func133 DK (ac qf (ac zW an))
theorem zY : OK mD oB := okF Tryz.func52 DL (ac zX an)
theorem HU : OK rO uY := okF Tryz.func134 DM (ac zX an)
theorem HV : OK rP u0 := okF Tryz.func53 DN (ac HU an)
theorem HW : OK rQ u5 := okF Tryz.func214 DO (ac zY an)
theorem HX : OK rR u7 := okF Tryz.func131 DP (ac HW an)
theorem HY : OK rS va := okF Tryz.func50 DQ (ac HX an)
theorem HZ : OK rT vc := okF Tryz.func130 DR (ac qf an)
theorem H0 : OK rU ve := okF Tryz.func49 DS (ac HZ an)
theorem H2 : OK rV vg := okF Tryz.func132 DT (ac lg an)
theorem H3 : OK rW vi := okF Tryz.func51 DU (ac H2 an)
theorem H4 : OK iP mW := okF Tryz.func13 DV (ac HS (ac H0 (ac HY (ac H3 (ac zY (ac HV an))))))
theorem lh : OK gY kz := okF Tryz.func147 DW an
theorem H5 : OK rX vm := okF Tryz.func59 DX (ac lh an)
theorem H6 : OK rY vo := okF Tryz.func272 DY (ac lh an)
theorem zZ : OK mE oC := okF Tryz.func224 DZ (ac lh (ac lh (ac H6 an)))
theorem H7 : OK rZ vr := okF Tryz.func271 D0 an
theorem qg : OK km mX := okF Tryz.func222 D1 (ac H7 an)
theorem z6 : OK mF oD := okF Tryz.func151 D2 (ac qg (ac zZ an))
theorem z7 : OK mG oE := okF Tryz.func63 D3 (ac z6 an)
theorem H8 : OK r3 vz := okF Tryz.func152 D4 (ac z6 an)
theorem H9 : OK r4 vB := okF Tryz.func64 D5 (ac H8 an)
theorem Ia : OK r5 vD := okF Tryz.func223 D6 (ac z7 an)
theorem Ib : OK r7 vF := okF Tryz.func149 D7 (ac Ia an)
theorem Ic : OK r8 vH := okF Tryz.func61 D8 (ac Ib an)
theorem Ie : OK r9 vJ := okF Tryz.func148 D9 (ac qg an)
theorem Ig : OK sa vL := okF Tryz.func60 Ea (ac Ie an)
theorem Ih : OK sb vN := okF Tryz.func150 Eb (ac lh an)
theorem Ii : OK sd vP := okF Tryz.func62 Ec (ac Ih an)
theorem Ij : OK fS hG := okF Tryz.func15 Ed (ac H5 (ac Ig (ac Ic (ac Ii (ac z7 (ac H9 an))))))
theorem cg : OK bK cB := okF Tryz.func190 Ee an
theorem z8 : OK mH oF := okF Tryz.func216 Ef (ac cg an)
theorem Ik : OK se vU := okF Tryz.func135 Eg (ac cg (ac cg (ac cg (ac z8 (ac cg (ac cg (ac cg (ac cg an))))))))
theorem li : OK gZ kA := okF Tryz.func146 Eh (ac cg (ac cg an))
theorem Aa : OK mI oG := okF Tryz.func138 Ei (ac li (ac li an))
theorem Il : OK kn mY := okF Tryz.func56 Ej an
theorem jQ : OK gr jA := okF Tryz.func144 Ek an
theorem lj : OK hD kB := okF Tryz.func143 El an
theorem qh : OK ko mZ := okF Tryz.func141 Em (ac jQ (ac lj (ac jQ an)))
theorem ny : OK iQ lI := okF Tryz.func292 En (ac cg an)
theorem Ab : OK mJ oJ := okF Tryz.func270 Eo (ac cg (ac cg (ac cg (ac cg (ac ny (ac ny (ac ny (ac ny an))))))))
theorem Ac : OK mK oK := okF Tryz.func269 Ep (ac cg (ac cg an))
theorem qi : OK jx na := okF Tryz.func220 Er (ac Ac (ac li (ac Ab an)))
theorem Ad : OK lC oL := okF Tryz.func218 Es (ac qi (ac Aa an))
theorem Im : OK sf we := okF Tryz.func160 Et an
theorem qj : OK kp lJ := okF Tryz.func114 Eu (ac lj (ac jQ an))
theorem Ae : OK kq nb := okF Tryz.func84 Ew (ac Im (ac qj an))
theorem Io : OK sg wi := okF Tryz.func217 Ey (ac Ad (ac Ae an))
theorem Af : OK kr nc := okF Tryz.func58 Ez (ac li an)
theorem Ag : OK mL oN := okF Tryz.func243 EA (ac li an)
theorem Ip : OK sh wo := okF Tryz.func185 EB (ac cg (ac cg (ac cg (ac Ag (ac Af (ac cg (ac cg an)))))))
theorem qk : OK kt nd := okF Tryz.func191 EC (ac cg an)
theorem Iq : OK si wv := okF Tryz.func219 ED (ac qk (ac z8 an))
theorem Ir : OK sj wy := okF Tryz.func136 EE (ac cg (ac cg (ac Ip (ac Io (ac Ad (ac qh (ac Af (ac Iq an))))))))
theorem Is : OK sm wA := okF Tryz.func241 EF an
theorem It : OK sn wC := okF Tryz.func182 EG (ac Is an)
theorem Iu : OK so wE := okF Tryz.func137 EH (ac qi (ac qi (ac It an)))
theorem Iv : OK sq wG := okF Tryz.func140 EI (ac qj an)
theorem Iw : OK sr wI := okF Tryz.func139 EJ an
theorem Ix : OK iR nf := okF Tryz.func55 EK (ac Ik (ac Ir (ac Iu (ac Il (ac Aa (ac Ae (ac Iv (ac Iw (ac qh (ac qh an))))))))))
theorem Ai : OK kw lK := okF Tryz.func26 EQ an
theorem Qc : OK NJ N8 := okF Tryz.func174 Pj (ac o9 an)
theorem O3 : OK M6 Nk := okF Tryz.func175 Pk (ac Hr an)
theorem Qd : OK NK Oc := okF Tryz.func176 Pl (ac Hr an)
theorem Qe : OK NL Oe := okF Tryz.func178 Pm (ac O3 an)
theorem Qf : OK NM Og := okF Tryz.func177 Pn (ac Cd an)
theorem Qg : OK NN Oi := okF Tryz.func179 Po (ac o9 an)
theorem Qh : OK bw Na := okF Tryz.func94 Pp (ac Qc (ac O3 (ac Qd (ac Qf (ac Qe (ac Qg an))))))
theorem Qj : OK NO On := okF Tryz.func96 Ps (ac qe an)
theorem O5 : OK M8 Np := okF Tryz.func100 Pt (ac Ai (ac qe (ac qe (ac HJ an))))
theorem Qk : OK NP Ot := okF Tryz.func101 Pu (ac Ai (ac qe (ac qe (ac HJ an))))
theorem Ql : OK NQ Ov := okF Tryz.func180 Pv (ac O5 an)
theorem Qm : OK NR Oy := okF Tryz.func98 Pw (ac Ql an)
theorem Qn : OK NS OA := okF Tryz.func97 Px (ac Ai an)
theorem Qo : OK NT OC := okF Tryz.func99 Py (ac qe an)
theorem O6 : OK MS MX := okF Tryz.func29 Pz (ac Qj (ac Qn (ac Qm (ac Qo (ac O5 (ac Qk an))))))
theorem Qp : OK NU OF := okF Tryz.func239 PA an
theorem NI : OK MZ Nc := okF Tryz.func173 PB (ac Im (ac Qp an))
theorem Qq : OK NV OI := okF Tryz.func171 PC (ac NI an)
theorem Qr : OK NW OL := okF Tryz.func172 PD an
theorem Qs : OK NX ON := okF Tryz.func169 PE an
theorem Qt : OK NY OP := okF Tryz.func170 PF (ac Im an)
theorem Qu : OK br M4 := okF Tryz.func92 PG (ac Qs (ac Qt (ac Qq (ac Qr (ac NI (ac NI an))))))
theorem QY : OK Ng Pb := okF Tryz.func104 QE an
theorem QW : OK N4 OW := okF Tryz.func106 QF (ac KC (ac cH an))
theorem QZ : OK Nh Pc := okF Tryz.func105 QG (ac QW an)
theorem Q0 : OK Qz QA := okF Tryz.func108 QH (ac QW an)
theorem Q1 : OK Ni Nt := okF Tryz.func103 QI (ac QY (ac QZ (ac Q0 (ac KJ an))))
theorem Q2 : OK O8 Pe := okF Tryz.func181 QK (ac Ik (ac cg an))
theorem Q3 : OK Nj Nw := okF Tryz.func102 QL (ac Qu (ac Q2 (ac It an)))
theorem Q7 : OK N6 O0 := okF Tryz.func33 QO (ac Qh (ac KL (ac Q1 an)))
theorem Q8 : OK Pa Ph := okF Tryz.func32 QP (ac Ix (ac Qu (ac Q3 an)))
theorem Q9 : OK QU QC := okF Tryz.func7 QQ (ac H4 (ac Ij (ac Q8 (ac Ij (ac Q7 (ac HI (ac Ij (ac HI (ac HQ (ac HI (ac HQ (ac O6 (ac Ij (ac Q7 (ac HI (ac O6 an))))))))))))))))
theorem Q6 : ∀ xs, mg [ao.ty] xs -> QC xs = some ⟨[.one (.b true)], []⟩ := by
 intro xs h
 obtain ⟨_, _, rfl, ⟨t0, h0, rfl⟩, h⟩ := h
 obtain rfl := h
 obtain ⟨x0, rfl, f0⟩ := ao.of h0
 exact QS x0 f0
end Go.Wr
namespace Go.Proofs.YtbghjecopkbhlaaGreat
open Go.ChangeShapes Go.WideShapes Go.ChangeAt Go.RowKit Go.Wr
theorem own : ownKnob Tryz.prog.godebug = none := by kernel_rfl
theorem laidOut : laidOutB Tryz.prog = true := fact42
set_option maxRecDepth 100000 in
theorem lifted (os : Os) (started : os.Started) (H : Type) (enc : TypeId × Value -> H) :
  ReturnsInHanded {} Tryz.checked os 7 .any (Rows.fnExactFlushSpec.pre6 enc Tryz.prog Tryz.f7 Rows.fnExactFlushRow.domain false) (Rows.fnExactFlushSpec.post enc Tryz.prog Tryz.f7 false true false false) := by
 refine returnsInHanded_of_change (C := Tryz.checked) own started (by kernel_rfl) Tryz.func7
  (ChangeSpec.witness6 (enc := enc) (C := Tryz.checked) false ⟨#[], #[.agg #[.int .i64 0, .int .i64 0, .int .i64 0, .slice none 0 0, .int .i64 0, .int .i64 0, .int .i64 0, .int .i64 0, .int .i64 0, .bool false, .slice none 0 0, .slice none 0 0, .slice none 0 0, .int .i64 0, .slice none 0 0, .slice none 0 0]], []⟩ 8 (by kernel_rfl) (by kernel_rfl) (by kernel_rfl) (by kernel_rfl)) ?_
 intro W base args ds gs before KN hW MI _
 have bz : ∀ (j : Nat) t v, Tryz.f7.params[j]? = some t -> args[j]? = some v -> Value.okWide Tryz.prog W .any base t v := KN
 exact Z9j (es := [ao.ty]) laidOut Q9 rfl (by kernel_rfl) (by kernel_rfl) Q6 rfl (fun ds h => by
  match ds, h with
  | [a0], _ => rfl) bz hW
theorem fnExactFlush_holds : Rows.FnExactFlushSaid :=
 OpenClaim.holds_of_wide 7 Tryz.f7 rfl rfl rfl rfl rfl rfl rfl ⟨rfl, rfl, rfl, rfl, rfl⟩ rfl rfl rfl rfl rfl (by as_aux_lemma => kernel_rfl) Tryz.func7 closed
  (of_decide_eq_true (by as_aux_lemma => kernel_rfl)) (by unfold Func.isWrapper; first | (rw [if_pos (by as_aux_lemma => decide +kernel)]; kernel_rfl) | (rw [if_neg (by as_aux_lemma => decide +kernel)]; exact ⟨rfl, rfl⟩))
  (fun os started H enc _ => lifted os started H enc)
end Go.Proofs.YtbghjecopkbhlaaGreat

