/-
  What is proved: lemmas for the laws. No condition.
-/
import Derived.Test.YtbghjecopkbhlaaGreatHa
import Derived.Test.YtbghjecopkbhlaaGreatHb
import Derived.Test.YtbghjecopkbhlaaGreatQo
import Derived.Test.YtbghjecopkbhlaaGreatTa
import Derived.Test.YtbghjecopkbhlaaGreatPb
set_option linter.unusedVariables false
set_option linter.unusedSimpArgs false
namespace Go.Wr
set_option maxRecDepth 20000
theorem Ztl {α:Type} (l:List α):sub l 0 l.length=l:=by unfold sub;rw[ax,eD]
theorem Ztp (h:aA):∃es,bh h=(ah h).fX es/\bO es=(ah h).bp.map (aD.el .n):=by
 unfold bh ah;split
 ·refine⟨_,rfl,?_⟩;show bO (dc (ab h))=(cf (ab h)).map (aD.el .n);unfold dc cf;split
  ·rw[lD,aD.ef]
  ·rw[lD,yW];refine List.map_congr_left fun s _=>?_;show(c6 _ _ s).fz=aD.el .n (bw _ _ s);unfold c6 bw;split<;>simp only[aD.el,T.fz,aD.fz]
 ·exact⟨h.bp.map (aD.el .y),rfl,by rw[lD,aD.ef]⟩
theorem WM (a:aA) (hl:a.al<=1048576):yD [.st (a.cs .n),.st (a.cs .n)]=some ⟨[.one (.b true)],[]⟩:=by rw[arU a a hl];simp
set_option maxHeartbeats 4000000 in
theorem aky (a:aA) (ha:a.fit):eT [.st (a.cs .n)]=some ⟨[.one (.b true)],[]⟩:=by
 have r0:eP 1048576:=⟨by omega,by omega⟩
 have s1:=ase a 1048576 r0 ha;cases h1:decide (left 1048576 a.al<0) with
 |true=>
  (refine aP rfl ?_;show Ev j1.code _ _ _)
  repeat' (first|refine yy ?_|refine ym ?_|(apply zf;iterate 5 exact rfl)|refine yp ?_|refine yv Kd (s1) ?_|refine ak ?_|refine ai ?_|refine yt ?_ ?_|refine yo ?_|apply zn|refine yc ?_|exact rfl|intro _)
  exact fin rfl rfl
 |false=>
  have o1:=IX r0 h1;have la:a.al<=1048576:=by omega
  have lb:a.al<=4000000:=by omega
  have k1:(1:Int)+(aA.wS a:Int)<=fv:=Wn lb;have m1:=afq a 1 (by decide) k1;have c1:=ku (aA.jL a 1 0 (by decide) k1).1;have q1:=akx a lb;have q2:=akv a lb;obtain⟨es,fX,cg⟩:=Ztp a;rw[fX]at q1;have b0:(ah a).al<=1048576:=by rw[Zto];exact la
  generalize ah a=r0 at q1 q2 b0 cg;clear fX;have w0:(1:Int)+(aA.wS r0:Int)<=fv:=Wn (eQ b0 (by decide));have m20:=afq r0 1 (by decide) w0;have m30:=asU r0 1 (by decide) w0;have J5:=ku (aA.jL r0 1 0 (by decide) w0).1;have e10:=WM r0 b0;have e2:=WM a la
  (refine aP rfl ?_;show Ev j1.code _ _ _)
  repeat' (first|refine yy ?_|refine ym ?_|(apply zf;iterate 5 exact rfl)|refine yp ?_|refine yv Kd (s1) ?_|refine yv CR (asv a la) ?_|refine yk hX q1 ?_|refine yw ez (q2) (wW (aA.cl _) rfl) ?_|(apply zk zT;exact rfl;(simp only[List.map,iw,Ztl,cg];exact rfl);exact e10;exact rfl;exact rfl;exact rfl)|refine yN Fw m20 ?_|refine yv Kg (m30) ?_|refine yv zT (e2) ?_|refine yN Fw m1 ?_|refine yy ?_ (ht:=rfl)|refine ym ?_ (ht:=rfl)|refine yp ?_ (ht:=rfl)|refine ai ?_ (ht:=rfl)|refine ai ?_ (ht:=uj _)|refine ai ?_ (ht:=uk _)|refine ak ?_|refine ai ?_|refine yt ?_ ?_|refine yo ?_|apply zn|refine yc ?_|exact rfl|intro _)
  all_goals exact fin rfl rfl
end Go.Wr

