/-
  What is proved: lemmas for the laws. No condition.
-/
import Derived.Test.YtbghjecopkbhlaaGreatHa
import Derived.Test.YtbghjecopkbhlaaGreatHb
import Derived.Test.YtbghjecopkbhlaaGreatQf
import Derived.Test.YtbghjecopkbhlaaGreatTa
import Derived.Test.YtbghjecopkbhlaaGreatPb
set_option linter.unusedVariables false
set_option linter.unusedSimpArgs false
namespace Go.Wr
set_option maxRecDepth 20000
theorem WM (a:aA) (hl:a.al<=1048576):yD [.st (a.cs .n),.st (a.cs .n)]=some ⟨[.one (.b true)],[]⟩:=by rw[arU a a hl];simp
set_option maxHeartbeats 4000000 in
theorem ats (a:aA) (ha:a.fit):NY [.st (a.cs .n)]=some ⟨[.one (.b true)],[]⟩:=by
 have r0:eP 1048576:=⟨by omega,by omega⟩
 have s1:=ase a 1048576 r0 ha;cases h1:decide (left 1048576 a.al<0) with
 |true=>
  (refine aP rfl ?_;show Ev TF.code _ _ _)
  repeat' (first|refine yy ?_|refine ym ?_|(apply zf;iterate 5 exact rfl)|refine yp ?_|refine yv Kd (s1) ?_|refine ak ?_|refine ai ?_|refine yt ?_ ?_|refine yo ?_|apply zn|refine yc ?_|exact rfl|intro _)
  exact fin rfl rfl
 |false=>
  have o1:=IX r0 h1;have la:a.al<=1048576:=by omega
  have lb:a.al<=4000000:=by omega
  have k1:(1:Int)+(aA.wS a:Int)<=fv:=Wn lb;have m1:=afq a 1 (by decide) k1;have c1:=ku (aA.jL a 1 0 (by decide) k1).1;have q1:=atr a lb;have q2:=atq a lb;have b0:(CK a).al<=1048576:=Z4g (by decide) la;generalize CK a=r0 at q1 q2 b0;have w0:(1:Int)+(aA.wS r0:Int)<=fv:=Wn (eQ b0 (by decide));have m20:=afq r0 1 (by decide) w0;have m30:=asU r0 1 (by decide) w0;have J5:=ku (aA.jL r0 1 0 (by decide) w0).1;have e10:=WM r0 b0;have e2:=WM a la
  (refine aP rfl ?_;show Ev TF.code _ _ _)
  repeat' (first|refine yy ?_|refine ym ?_|(apply zf;iterate 5 exact rfl)|refine yp ?_|refine yv Kd (s1) ?_|refine yv CR (asv a la) ?_|refine yw RL (q1) (wW (aA.cl _) rfl) ?_|refine yw RK (q2) (wW (aA.cl _) rfl) ?_|refine yv zT (e10) ?_|refine yN Fw m20 ?_|refine yv Kg (m30) ?_|refine yv zT (e2) ?_|refine yN Fw m1 ?_|refine yy ?_ (ht:=rfl)|refine ym ?_ (ht:=rfl)|refine yp ?_ (ht:=rfl)|refine ai ?_ (ht:=rfl)|refine ai ?_ (ht:=uj _)|refine ai ?_ (ht:=uk _)|refine ak ?_|refine ai ?_|refine yt ?_ ?_|refine yo ?_|apply zn|refine yc ?_|exact rfl|intro _)
  all_goals exact fin rfl rfl
end Go.Wr

