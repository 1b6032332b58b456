/-
  What is proved: the law FnExactTickStep returns true for every input and leaves its arguments as they were. No condition.
-/
import Derived.Test.YtbghjecopkbhlaaGreatCa
import Derived.Test.YtbghjecopkbhlaaGreatQg
import Derived.Test.YtbghjecopkbhlaaGreatRc
import Derived.Test.YtbghjecopkbhlaaGreatRows
import Derived.Test.YtbghjecopkbhlaaGreatEa
import Derived.Test.YtbghjecopkbhlaaGreatEb
import Derived.Test.YtbghjecopkbhlaaGreatEc
import Derived.Test.YtbghjecopkbhlaaGreatEd
import Derived.Test.YtbghjecopkbhlaaGreatEe
import Derived.Test.YtbghjecopkbhlaaGreatEf
import Derived.ProofKit
set_option linter.unusedVariables false
set_option linter.unusedSimpArgs false
namespace Go.Wr
open Go.Proofs
theorem an {q:Nat×aB->Prop}:∀p∈([]:List (Nat×aB)),q p:=fun _ h=>by cases h
theorem ac {g:Nat}{F:aB}{q:Nat->aB->Prop}{l:List (Nat×aB)} (h:q g F) (hl:∀p∈l,q p.1 p.2):∀p∈(g,F)::l,q p.1 p.2:=fun p hp=>by
 rcases iG.1 hp with rfl|hp
 ·exact h
 ·exact hl p hp
abbrev OK (g:Nat) (F:aB):Prop:=ik Tryz.prog ae g F
theorem okF {g:Nat}{m:aI}{fn:Func} (hf:Tryz.prog.funcs[ae g]?=some fn) (h:CP Tryz.prog ae m fn=true) (hF:∀p∈m.code.calls,OK p.1 p.2):OK g (lock (aQ m)):=by
 rw[rX];exact Z8z nb hf h hF
theorem sQ {g:Nat}{m:aI}{fn:Func} (hf:Tryz.prog.funcs[ae g]?=some fn) (h:CP Tryz.prog ae m fn=true) (hF:∀p∈m.code.calls,OK p.1 p.2):OK g (lock (nu m)):=by
 rw[rX];exact Z8x nb hf h hF
theorem ig:OK eL gj:=okF Tryz.func184 (by kernel_rfl) an
theorem G0:OK vd yB:=okF Tryz.func164 (by kernel_rfl) (ac ig (ac ig an))
theorem apO:OK CQ Mo:=okF Tryz.func196 (by kernel_rfl) (ac ig an)
theorem aqf:OK QX MP:=okF Tryz.func249 (by kernel_rfl) (ac apO an)
theorem aqv:OK Re M7:=okF Tryz.func195 (by kernel_rfl) (ac aqf an)
theorem aqL:OK Rs Nq:=okF Tryz.func120 (by kernel_rfl) (ac aqv an)
theorem TV:OK CU D0:=okF Tryz.func90 (by kernel_rfl) an
theorem Bd:OK mT uy:=okF Tryz.func153 (by kernel_rfl) (ac ig (ac ig an))
theorem Dr:OK qn wz:=okF Tryz.func240 (by kernel_rfl) an
theorem ae4:OK F0 H0:=okF Tryz.func279 (by kernel_rfl) (ac Dr an)
theorem TY:OK Ac D4:=okF Tryz.func250 (by kernel_rfl) (ac ae4 (ac ig an))
theorem Ds:OK nw wA:=okF Tryz.func231 (by kernel_rfl) (ac ig (ac ig (ac Bd (ac TY an))))
theorem ae5:OK F1 H2:=okF Tryz.func232 (by kernel_rfl) (ac Bd (ac Bd an))
theorem ae6:OK F2 D5:=okF Tryz.func162 (by kernel_rfl) (ac Ds (ac ae5 an))
theorem Lz:OK vj BG:=okF Tryz.func233 (by kernel_rfl) an
theorem ae7:OK RM NZ:=okF Tryz.func275 (by kernel_rfl) an
theorem arw:OK aax UH:=okF Tryz.func236 (by kernel_rfl) (ac ae7 (ac ae7 an))
theorem auY:OK F3 agh:=okF Tryz.func235 (by kernel_rfl) (ac arw an)
theorem TZ:OK Ad D7:=okF Tryz.func166 (by kernel_rfl) (ac Lz (ac arx an))
theorem T0:OK Ae yI:=okF Tryz.func163 (by kernel_rfl) (ac TZ an)
theorem LA:OK vk wB:=okF Tryz.func242 (by kernel_rfl) (ac ig an)
theorem ae8:OK Kq H3:=okF Tryz.func183 (by kernel_rfl) (ac ig (ac ig (ac ig (ac LA (ac ig (ac ig (ac ig (ac ig an))))))))
theorem T1:OK CW D8:=okF Tryz.func226 (by kernel_rfl) (ac ae6 an)
theorem ary:OK RO N4:=okF Tryz.func228 (by kernel_rfl) (ac T1 (ac T0 an))
theorem ae9:OK F4 H4:=okF Tryz.func65 (by kernel_rfl) (ac Bd an)
theorem afa:OK F5 H5:=okF Tryz.func227 (by kernel_rfl) (ac Bd an)
theorem LB:OK vl BH:=okF Tryz.func186 (by kernel_rfl) (ac ig (ac ig (ac ig (ac afa (ac ae9 (ac ig (ac ig an)))))))
theorem afb:OK F6 H6:=okF Tryz.func229 (by kernel_rfl) (ac ig (ac LA an))
theorem afc:OK F7 H7:=okF Tryz.func230 (by kernel_rfl) an
theorem arz:OK Kr N5:=okF Tryz.func161 (by kernel_rfl) (ac ae8 (ac ig (ac ig (ac LB (ac T1 (ac ary (ac G0 (ac G0 (ac afa (ac afb (ac afc an)))))))))))
theorem T2:OK Af D9:=okF Tryz.func89 (by kernel_rfl) an
theorem afd:OK F8 H8:=okF Tryz.func167 (by kernel_rfl) an
theorem arA:OK RP N6:=okF Tryz.func165 (by kernel_rfl) an
theorem G5:OK lN yJ:=okF Tryz.func85 (by kernel_rfl) (ac arz (ac T2 (ac TV (ac ae6 (ac TV (ac T0 (ac G0 (ac aqL (ac G0 (ac G0 (ac TZ (ac T2 (ac TV (ac T0 (ac arA (ac afd an))))))))))))))))
theorem aez:OK Fm Ht:=okF Tryz.func198 (by kernel_rfl) (ac Dr (ac Dr (ac Dr an)))
theorem TK:OK xu DO:=okF Tryz.func237 (by kernel_rfl) (ac Lz (ac aez an))
theorem G1:OK sj yC:=okF Tryz.func66 (by kernel_rfl) an
theorem apA:OK Qk Ma:=okF Tryz.func68 (by kernel_rfl) (ac G1 an)
theorem apB:OK Ql Mb:=okF Tryz.func67 (by kernel_rfl) (ac G1 an)
theorem apC:OK Qm Mc:=okF Tryz.func17 (by kernel_rfl) (ac G1 (ac G1 (ac apB an)))
theorem apD:OK Qn Md:=okF Tryz.func91 (by kernel_rfl) an
theorem aeA:OK Fo Hu:=okF Tryz.func24 (by kernel_rfl) (ac apD an)
theorem aeB:OK Fp Hv:=okF Tryz.func157 (by kernel_rfl) (ac aeA (ac apC an))
theorem aeC:OK Fq Hw:=okF Tryz.func72 (by kernel_rfl) (ac aeB an)
theorem apE:OK Qo Me:=okF Tryz.func158 (by kernel_rfl) (ac aeB an)
theorem apF:OK Qp Mf:=okF Tryz.func73 (by kernel_rfl) (ac apE an)
theorem apG:OK Qq Mg:=okF Tryz.func225 (by kernel_rfl) (ac aeC an)
theorem apH:OK Qr Mh:=okF Tryz.func155 (by kernel_rfl) (ac apG an)
theorem apI:OK Qs Mi:=okF Tryz.func70 (by kernel_rfl) (ac apH an)
theorem apJ:OK Qt Mj:=okF Tryz.func154 (by kernel_rfl) (ac aeA an)
theorem apK:OK Qu Mk:=okF Tryz.func69 (by kernel_rfl) (ac apJ an)
theorem apL:OK Qv Ml:=okF Tryz.func156 (by kernel_rfl) (ac G1 an)
theorem apM:OK Qw Mm:=okF Tryz.func71 (by kernel_rfl) (ac apL an)
theorem Lp:OK zT yD:=okF Tryz.func18 (by kernel_rfl) (ac apA (ac apK (ac apI (ac apM (ac aeC (ac apF an))))))
theorem Ba:OK oC uv:=okF Tryz.func82 (by kernel_rfl) an
theorem aeD:OK Ft Hx:=okF Tryz.func83 (by kernel_rfl) (ac Ba an)
theorem Bb:OK oD uw:=sQ Tryz.func80 (by kernel_rfl) an
theorem apN:OK Qx Mn:=sQ Tryz.func74 (by kernel_rfl) (ac Bb an)
theorem aeE:OK Fu Hy:=sQ Tryz.func81 (by kernel_rfl) (ac Bb an)
theorem TL:OK zU DP:=sQ Tryz.func25 (by kernel_rfl) an
theorem aeF:OK Fv Hz:=sQ Tryz.func78 (by kernel_rfl) (ac TL (ac Bb (ac Bb (ac aeE an))))
theorem apP:OK Qy Mp:=sQ Tryz.func79 (by kernel_rfl) (ac TL (ac Bb (ac Bb (ac aeE an))))
theorem apQ:OK Qz Mq:=sQ Tryz.func159 (by kernel_rfl) (ac aeF an)
theorem apR:OK QA Mr:=sQ Tryz.func76 (by kernel_rfl) (ac apQ an)
theorem apS:OK QB Ms:=sQ Tryz.func75 (by kernel_rfl) (ac TL an)
theorem apT:OK QC Mt:=sQ Tryz.func77 (by kernel_rfl) (ac Bb an)
theorem aeG:OK Fw HA:=sQ Tryz.func19 (by kernel_rfl) (ac apN (ac apS (ac apR (ac apT (ac aeF (ac apP an))))))
theorem G2:OK tM Bv:=okF Tryz.func129 (by kernel_rfl) an
theorem apU:OK QD Mu:=okF Tryz.func48 (by kernel_rfl) (ac G2 an)
theorem apV:OK QE Mv:=okF Tryz.func268 (by kernel_rfl) (ac G2 an)
theorem apW:OK QF Mw:=okF Tryz.func215 (by kernel_rfl) (ac G2 (ac G2 (ac apV an)))
theorem aeH:OK Fy HB:=okF Tryz.func213 (by kernel_rfl) an
theorem aeI:OK FA HC:=okF Tryz.func133 (by kernel_rfl) (ac aeH (ac apW an))
theorem aeJ:OK FB HD:=okF Tryz.func52 (by kernel_rfl) (ac aeI an)
theorem apX:OK QG Mx:=okF Tryz.func134 (by kernel_rfl) (ac aeI an)
theorem apY:OK QH My:=okF Tryz.func53 (by kernel_rfl) (ac apX an)
theorem apZ:OK QI Mz:=okF Tryz.func214 (by kernel_rfl) (ac aeJ an)
theorem ap0:OK QJ MA:=okF Tryz.func131 (by kernel_rfl) (ac apZ an)
theorem ap1:OK QK MB:=okF Tryz.func50 (by kernel_rfl) (ac ap0 an)
theorem ap2:OK QL MC:=okF Tryz.func130 (by kernel_rfl) (ac aeH an)
theorem ap3:OK QM MD:=okF Tryz.func49 (by kernel_rfl) (ac ap2 an)
theorem ap4:OK QN ME:=okF Tryz.func132 (by kernel_rfl) (ac G2 an)
theorem ap5:OK QO MF:=okF Tryz.func51 (by kernel_rfl) (ac ap4 an)
theorem ap6:OK Kd MG:=okF Tryz.func13 (by kernel_rfl) (ac apU (ac ap3 (ac ap1 (ac ap5 (ac aeJ (ac apY an))))))
theorem G3:OK sm yF:=okF Tryz.func147 (by kernel_rfl) an
theorem ap7:OK QP MH:=okF Tryz.func59 (by kernel_rfl) (ac G3 an)
theorem ap8:OK QQ MI:=okF Tryz.func272 (by kernel_rfl) (ac G3 an)
theorem ap9:OK QR MJ:=okF Tryz.func224 (by kernel_rfl) (ac G3 (ac G3 (ac ap8 an)))
theorem aqa:OK QS MK:=okF Tryz.func271 (by kernel_rfl) an
theorem aeK:OK FD HE:=okF Tryz.func222 (by kernel_rfl) (ac aqa an)
theorem aeL:OK FE HF:=okF Tryz.func151 (by kernel_rfl) (ac aeK (ac ap9 an))
theorem aeM:OK FF HG:=okF Tryz.func63 (by kernel_rfl) (ac aeL an)
theorem aqb:OK QT ML:=okF Tryz.func152 (by kernel_rfl) (ac aeL an)
theorem aqc:OK QU MM:=okF Tryz.func64 (by kernel_rfl) (ac aqb an)
theorem aqd:OK QV MN:=okF Tryz.func223 (by kernel_rfl) (ac aeM an)
theorem aqe:OK QW MO:=okF Tryz.func149 (by kernel_rfl) (ac aqd an)
theorem aqg:OK QY MQ:=okF Tryz.func61 (by kernel_rfl) (ac aqe an)
theorem aqh:OK QZ MR:=okF Tryz.func148 (by kernel_rfl) (ac aeK an)
theorem aqi:OK Q0 MS:=okF Tryz.func60 (by kernel_rfl) (ac aqh an)
theorem aqj:OK Q1 MT:=okF Tryz.func150 (by kernel_rfl) (ac G3 an)
theorem aqk:OK Q2 MU:=okF Tryz.func62 (by kernel_rfl) (ac aqj an)
theorem Lq:OK CR Bw:=okF Tryz.func15 (by kernel_rfl) (ac ap7 (ac aqi (ac aqg (ac aqk (ac aeM (ac aqc an))))))
theorem ij:OK eS gF:=okF Tryz.func190 (by kernel_rfl) an
theorem Bc:OK lM ux:=okF Tryz.func216 (by kernel_rfl) (ac ij an)
theorem aeN:OK Ke HH:=okF Tryz.func135 (by kernel_rfl) (ac ij (ac ij (ac ij (ac Bc (ac ij (ac ij (ac ij (ac ij an))))))))
theorem G4:OK sq yG:=okF Tryz.func146 (by kernel_rfl) (ac ij (ac ij an))
theorem aeO:OK FG HI:=okF Tryz.func138 (by kernel_rfl) (ac G4 (ac G4 an))
theorem aql:OK Q3 MV:=okF Tryz.func56 (by kernel_rfl) an
theorem Dp:OK ri wx:=okF Tryz.func144 (by kernel_rfl) an
theorem xV:OK ko sW:=okF Tryz.func143 (by kernel_rfl) an
theorem TM:OK zW DQ:=okF Tryz.func141 (by kernel_rfl) (ac Dp (ac xV (ac Dp an)))
theorem Lr:OK ve Bx:=okF Tryz.func292 (by kernel_rfl) (ac ij an)
theorem aqm:OK Q4 MW:=okF Tryz.func270 (by kernel_rfl) (ac ij (ac ij (ac ij (ac ij (ac Lr (ac Lr (ac Lr (ac Lr an))))))))
theorem aqn:OK Q5 MX:=okF Tryz.func269 (by kernel_rfl) (ac ij (ac ij an))
theorem Ls:OK sr By:=okF Tryz.func220 (by kernel_rfl) (ac aqn (ac G4 (ac aqm an)))
theorem TN:OK CS DR:=okF Tryz.func218 (by kernel_rfl) (ac Ls (ac aeO an))
theorem TO:OK zX DS:=okF Tryz.func160 (by kernel_rfl) an
theorem aeP:OK FH DT:=okF Tryz.func114 (by kernel_rfl) (ac xV (ac Dp an))
theorem TP:OK zY DU:=okF Tryz.func84 (by kernel_rfl) (ac TO (ac aeP an))
theorem aqo:OK Q6 MY:=okF Tryz.func217 (by kernel_rfl) (ac TN (ac TP an))
theorem TQ:OK zZ DV:=okF Tryz.func58 (by kernel_rfl) (ac G4 an)
theorem aqp:OK Q7 MZ:=okF Tryz.func243 (by kernel_rfl) (ac G4 an)
theorem Lt:OK vf Bz:=okF Tryz.func185 (by kernel_rfl) (ac ij (ac ij (ac ij (ac aqp (ac TQ (ac ij (ac ij an)))))))
theorem aqq:OK Q8 M1:=okF Tryz.func191 (by kernel_rfl) (ac ij an)
theorem aeQ:OK FI HJ:=okF Tryz.func219 (by kernel_rfl) (ac aqq (ac Bc an))
theorem aqr:OK Q9 M3:=okF Tryz.func136 (by kernel_rfl) (ac ij (ac ij (ac Lt (ac aqo (ac TN (ac TM (ac TQ (ac aeQ an))))))))
theorem aeR:OK FJ HK:=okF Tryz.func241 (by kernel_rfl) an
theorem aeS:OK FK HL:=okF Tryz.func182 (by kernel_rfl) (ac aeR an)
theorem aqs:OK Ra M4:=okF Tryz.func137 (by kernel_rfl) (ac Ls (ac Ls (ac aeS an)))
theorem aqt:OK Rb M5:=okF Tryz.func140 (by kernel_rfl) (ac aeP an)
theorem aqu:OK Rc M6:=okF Tryz.func139 (by kernel_rfl) an
theorem aeT:OK su HM:=okF Tryz.func55 (by kernel_rfl) (ac aeN (ac aqr (ac aqs (ac aql (ac aeO (ac TP (ac aqt (ac aqu (ac TM (ac TM an))))))))))
theorem TT:OK Ab DY:=okF Tryz.func26 (by kernel_rfl) an
theorem aqx:OK Rg M9:=okF Tryz.func174 (by kernel_rfl) (ac Dr an)
theorem TU:OK vg DZ:=okF Tryz.func175 (by kernel_rfl) (ac TK an)
theorem aqy:OK Rh Na:=okF Tryz.func176 (by kernel_rfl) (ac TK an)
theorem aeV:OK Ri HO:=okF Tryz.func178 (by kernel_rfl) (ac TU an)
theorem Lu:OK xw BA:=okF Tryz.func177 (by kernel_rfl) (ac Lz an)
theorem aeW:OK FL HP:=okF Tryz.func179 (by kernel_rfl) (ac Dr an)
theorem Lv:OK oE BC:=okF Tryz.func94 (by kernel_rfl) (ac aqx (ac TU (ac aqy (ac Lu (ac aeV (ac aeW an))))))
theorem aqz:OK FM Nb:=okF Tryz.func95 (by kernel_rfl) an
theorem aqB:OK Rj Nd:=okF Tryz.func96 (by kernel_rfl) (ac Ba an)
theorem aeX:OK FN HQ:=okF Tryz.func100 (by kernel_rfl) (ac TT (ac Ba (ac Ba (ac aeD an))))
theorem aqC:OK Rk Nf:=okF Tryz.func101 (by kernel_rfl) (ac TT (ac Ba (ac Ba (ac aeD an))))
theorem aqD:OK Rl Ng:=okF Tryz.func180 (by kernel_rfl) (ac aeX an)
theorem aqE:OK Rm Nh:=okF Tryz.func98 (by kernel_rfl) (ac aqD an)
theorem aqF:OK Rn Ni:=okF Tryz.func97 (by kernel_rfl) (ac TT an)
theorem aqG:OK Ro Nj:=okF Tryz.func99 (by kernel_rfl) (ac Ba an)
theorem aeY:OK Kg HR:=okF Tryz.func29 (by kernel_rfl) (ac aqB (ac aqF (ac aqE (ac aqG (ac aeX (ac aqC an))))))
theorem aqH:OK Rp Nk:=okF Tryz.func239 (by kernel_rfl) an
theorem Lw:OK vh BD:=okF Tryz.func173 (by kernel_rfl) (ac TO (ac aqH an))
theorem aeZ:OK Rq HS:=okF Tryz.func171 (by kernel_rfl) (ac Lw an)
theorem ae0:OK FP HT:=okF Tryz.func172 (by kernel_rfl) an
theorem aqI:OK Rr Nl:=okF Tryz.func169 (by kernel_rfl) an
theorem Lx:OK xx BE:=okF Tryz.func170 (by kernel_rfl) (ac TO an)
theorem Dq:OK mh wy:=okF Tryz.func92 (by kernel_rfl) (ac aqI (ac Lx (ac aeZ (ac ae0 (ac Lw (ac Lw an))))))
theorem aqJ:OK FQ Nn:=okF Tryz.func93 (by kernel_rfl) an
theorem aqM:OK FR Nr:=okF Tryz.func104 (by kernel_rfl) an
theorem ae1:OK Rt Ns:=okF Tryz.func106 (by kernel_rfl) (ac ae8 (ac ig an))
theorem aqN:OK aaq UC:=okF Tryz.func105 (by kernel_rfl) (ac ae1 an)
theorem aqO:OK aar UD:=okF Tryz.func108 (by kernel_rfl) (ac ae1 an)
theorem aqP:OK Ru Nt:=okF Tryz.func103 (by kernel_rfl) (ac aqM (ac aqN (ac aqO (ac afd an))))
theorem aqR:OK aas UE:=okF Tryz.func181 (by kernel_rfl) (ac aeN (ac ij an))
theorem aqS:OK Rw Nv:=okF Tryz.func102 (by kernel_rfl) (ac Dq (ac aqR (ac aeS an)))
theorem akl:OK hP e8:=okF Tryz.func109 (by kernel_rfl) (ac Lu (ac LB (ac aqz an)))
theorem z7:OK ez dT:=okF Tryz.func35 (by kernel_rfl) (ac G5 (ac Lv (ac Lv (ac aqP (ac aqz (ac akl an))))))
theorem akm:OK hT e9:=okF Tryz.func107 (by kernel_rfl) (ac Lx (ac Lt an))
theorem ako:OK hX gb:=okF Tryz.func34 (by kernel_rfl) (ac Dq (ac aeT (ac aqS (ac aqJ (ac akm an)))))
theorem akn:OK ai2 eT:=okF Tryz.func8 (by kernel_rfl) (ac ap6 (ac Lq (ac ako (ac Lq (ac z7 (ac Lp (ac Lq (ac Lp (ac aeG (ac Lp (ac aeG (ac aeY (ac Lq (ac z7 (ac Lp (ac aeY an))))))))))))))))
theorem aki:∀xs,DN [aA.ty] xs->eT xs=some ⟨[.one (.b true)],[]⟩:=by
 intro xs h;obtain⟨_,_,rfl,⟨t0,h0,rfl⟩,h⟩:=h;obtain rfl:=h;obtain⟨x0,rfl,f0⟩:=aA.of h0;exact aky x0 f0
end Go.Wr
namespace Go.Proofs.YtbghjecopkbhlaaGreat
open Go.ChangeShapes Go.WideShapes Go.ChangeAt Go.RowKit Go.Wr
theorem own:ownKnob Tryz.prog.godebug=none:=by kernel_rfl
theorem laidOut:laidOutB Tryz.prog=true:=fact42
set_option maxRecDepth 100000 in
theorem lifted (os:Os) (started:os.Started) (H:Type) (enc:TypeId×Value->H):
  ReturnsInHanded {} Tryz.checked os 8 .any (Rows.fnExactTickStepSpec.pre6 enc Tryz.prog Tryz.f8 Rows.fnExactTickStepRow.domain false) (Rows.fnExactTickStepSpec.post enc Tryz.prog Tryz.f8 false true false false):=by
 refine returnsInHanded_of_change (C:=Tryz.checked) own started (by kernel_rfl) Tryz.func8
  (ChangeSpec.witness6 (enc:=enc) (C:=Tryz.checked) false ⟨#[],#[.agg #[.int .i64 0,.int .i64 0,.int .i64 0,.slice none 0 0,.int .i64 0,.int .i64 0,.int .i64 0,.int .i64 0,.int .i64 0,.bool false,.slice none 0 0,.slice none 0 0,.slice none 0 0,.int .i64 0,.slice none 0 0,.slice none 0 0]],[]⟩ 8 (by kernel_rfl) (by kernel_rfl) (by kernel_rfl) (by kernel_rfl)) ?_
 intro W base args ds gs before aoH hW auv _;have cC:∀(j:Nat) t v,Tryz.f8.params[j]?=some t->args[j]?=some v->Value.okWide Tryz.prog W .any base t v:=aoH;exact Zdg (es:=[aA.ty]) laidOut akn rfl (by kernel_rfl) (by kernel_rfl) aki rfl (fun ds h=>by
  match ds,h with
  |[a0],_=>rfl) cC hW
theorem fnExactTickStep_holds:Rows.FnExactTickStepSaid:=
 OpenClaim.holds_of_wide 8 Tryz.f8 rfl rfl rfl rfl rfl rfl rfl ⟨rfl,rfl,rfl,rfl,rfl⟩ rfl rfl rfl rfl rfl (by as_aux_lemma=>kernel_rfl) Tryz.func8 closed
  (of_decide_eq_true (by as_aux_lemma=>kernel_rfl)) (by unfold Func.isWrapper;first|(rw[if_pos (by as_aux_lemma=>decide+kernel)];kernel_rfl)|(rw[if_neg (by as_aux_lemma=>decide+kernel)];exact⟨rfl,rfl⟩))
  (fun os started H enc _=>lifted os started H enc)
end Go.Proofs.YtbghjecopkbhlaaGreat

