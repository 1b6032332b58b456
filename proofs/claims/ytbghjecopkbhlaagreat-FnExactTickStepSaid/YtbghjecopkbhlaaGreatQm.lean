/-
  What is proved: lemmas for the laws. No condition.
-/
import Derived.Test.YtbghjecopkbhlaaGreatQd
import Derived.Test.YtbghjecopkbhlaaGreatTa
import Derived.Test.YtbghjecopkbhlaaGreatPc
set_option linter.unusedVariables false
set_option linter.unusedSimpArgs false
namespace Go.Wr
set_option maxRecDepth 20000
def ao (s:aD) (p:Int):aD:=if s.ok p&&decide (s.o6<1000) then{s with o6:=IntKind.i64.wrap (s.o6+1),jO:=F9 s.bK} else s
theorem aku (s:aD) (dI:Int) (hl:s.al<=4000000):e8 [.st (s.cs .n),.x (iT dI)]=some ⟨[.st ((ao s dI).cs .y)],[]⟩:=by
 have dy:s.bK.length<=4194304:=by simp only[aD.al]at hl;omega
 (refine aP rfl ?_;show Ev y9.code _ _ _)
 repeat' (first|refine yy ?_|refine ym ?_|(apply ze;iterate 5 exact rfl)|refine yp ?_|refine yk xw (Uh s hl) ?_|refine yk vl (LU s dI hl) ?_|refine yv FM (Ui s.bK dy) ?_|refine ak ?_|refine ai ?_|refine yt ?_ ?_|refine yo ?_|apply zn|refine yc ?_|exact rfl|intro _)
 all_goals
  rename_i h;refine fin rfl ?_;simp only[bN]
  first
  |(rw[show ao s dI={s with o6:=IntKind.i64.wrap (s.o6+1),jO:=F9 s.bK} from if_pos h];rfl)
  |(rw[show ao s dI=s from if_neg (by rw[h];simp)];rfl)
theorem Ztc {e:Int} (h:e<=1000):decide (e<1000)= !(e==1000):=by
 by_cases h2:e=1000
 ·subst h2;rfl
 ·rw[show(e==1000)=false from beq_eq_false_iff_ne.2 h2];simp;omega
theorem akw (s:aD) (dI:Int) (hl:s.al<=4000000):e9 [.st (s.cs .n),.x (iT dI)]=some ⟨[.st ((ao s dI).cs .y)],[]⟩:=by
 have dy:s.bK.length<=4194304:=by simp only[aD.al]at hl;omega
 have h1:=Uj s hl;have h2:=LK s dI hl;cases hk:s.ok dI with
 |false=>
  rw[hk]at h2;rw[show ao s dI=s from if_neg (by rw[hk];simp)]
  (refine aP rfl ?_;show Ev cp.code _ _ _)
  repeat' (first|refine yy ?_|refine ym ?_|(apply zf;iterate 5 exact rfl)|refine yp ?_|refine yk xx (h1) ?_|refine yk vf (h2) ?_|refine ym ?_ (ht:=rfl)|refine yy ?_ (ht:=rfl)|refine yp ?_ (ht:=rfl)|refine ak ?_ (ht:=rfl)|refine ai ?_ (ht:=rfl)|refine ak ?_|refine ai ?_|refine yt ?_ ?_|refine yo ?_|apply zn|refine yc ?_|exact rfl|intro _)
  exact fin rfl (by(try simp only[bN]);rfl)
 |true=>
  rw[hk]at h2;have he:=Ztc (uS.1 hk).aam.2;cases xG:s.o6==1000 with
  |true=>
   rw[show ao s dI=s from if_neg (by rw[hk,he,xG];simp)]
   (refine aP rfl ?_;show Ev cp.code _ _ _)
   repeat' (first|refine yy ?_|refine ym ?_|(apply zf;iterate 5 exact rfl)|refine yp ?_|refine yk xx (h1) ?_|refine yk vf (h2) ?_|refine ym ?_ (ht:=rfl)|refine yy ?_ (ht:=rfl)|refine yp ?_ (ht:=rfl)|refine ak ?_ (ht:=xG)|refine ak ?_|refine ai ?_|refine yt ?_ ?_|refine yo ?_|apply zn|refine yc ?_|exact rfl|intro _)
   exact fin rfl (by(try simp only[bN]);rfl)
  |false=>
   rw[show ao s dI={s with o6:=IntKind.i64.wrap (s.o6+1),jO:=F9 s.bK} from if_pos (by rw[hk,he,xG];rfl)];rcases Nat.eq_zero_or_pos s.bK.length with h0|h0
   ·have h3:=List.eq_nil_of_length_eq_zero h0;obtain⟨ep,gr,tk,me,la⟩:=s;simp only at h3;subst h3
    (refine aP rfl ?_;show Ev cp.code _ _ _)
    repeat' (first|refine yy ?_|refine ym ?_|(apply zf;iterate 5 exact rfl)|refine yp ?_|refine yk xx (h1) ?_|refine yk vf (h2) ?_|refine ym ?_ (ht:=rfl)|refine yy ?_ (ht:=rfl)|refine yp ?_ (ht:=rfl)|refine ai ?_ (ht:=rfl)|refine ai ?_ (ht:=xG)|refine ak ?_|refine ai ?_|refine yt ?_ ?_|refine yo ?_|apply zn|refine yc ?_|exact rfl|intro _)
    exact fin rfl (by(try simp only[bN]);rfl)
   ·have hp:decide (((s.bK.map (af.el .n)).length:Int)>0)=true:=by rw[cL];simp;omega
    have hb:=bF (show s.bK.length-1<s.bK.length by omega);generalize s.bK[s.bK.length-1]'_=b at hb;have hg:F9 s.bK=b.Hi:=by rw[F9,List.getLast?_eq_getElem?,hb]
    have hw:IntKind.i64.wrap (((s.bK.map (af.el .n)).length:Int)-1)=((s.bK.length-1:Nat):Int):=by rw[cL,dQ (by omega)];omega
    have kM:0<=IntKind.i64.wrap (((s.bK.map (af.el .n)).length:Int)-1):=by rw[hw];omega
    have mX:(s.bK.map (af.el .n))[(IntKind.i64.wrap (((s.bK.map (af.el .n)).length:Int)-1)).toNat]?=some (af.el .n b):=by rw[hw];exact bH hb
    rw[hg]
    (refine aP rfl ?_;show Ev cp.code _ _ _)
    repeat' (first|refine yy ?_|refine ym ?_|(apply zf;iterate 5 exact rfl)|refine yp ?_|refine yk xx (h1) ?_|refine yk vf (h2) ?_|refine yj (af.el .n b) (kM) (mX) ?_|refine ym ?_ (ht:=rfl)|refine yy ?_ (ht:=rfl)|refine yp ?_ (ht:=rfl)|refine ak ?_ (ht:=hp)|refine ai ?_ (ht:=rfl)|refine ai ?_ (ht:=xG)|refine ak ?_|refine ai ?_|refine yt ?_ ?_|refine yo ?_|apply zn|refine yc ?_|exact rfl|intro _)
    exact fin rfl (by(try simp only[bN]);rfl)
theorem Zt7 {hs:List Hand}{b:Bool}{cs:List T} (hc:cP cs=true) (ha:apart hs=true):jV hs ⟨[.one (.b b)],[cs]⟩=true:=by
 simp only[jV,ha,nV,s6,RV.closed,T.closed,hc,RV.lO,T.loose,gX,Bool.or_true]
theorem Zt9 (h:aA) (outs:List aC):cP [iT h.aT.fm,iT h.aT.kx,iT h.aT.iV,ints .y h.aT.dX,iT h.aT.mK,iT h.aT.mL,iT h.aT.mJ,iT h.aT.Still,iT h.kR,.b h.gT,aD.ls .y h.bp,au.lss .y h.Rows,aK.ls .y h.cI,iT h.fT,.u,aC.ls .y outs]=true:=by
 simp only[cP,T.closed,iT,ints,aD.ls,au.lss,aK.ls,aC.ls,cm nm,cm aD.cle,cm au.nt,cm aK.cle,cm aC.cle,gX]
theorem aks (h:aA) (e:aa) (outs:List aC) (hl:h.al<=4000000):UD [.st (e.cs .n),.bx [iT h.aT.fm,iT h.aT.kx,iT h.aT.iV,ints .y h.aT.dX,iT h.aT.mK,iT h.aT.mL,iT h.aT.mJ,iT h.aT.Still,iT h.kR,.b h.gT,aD.ls .y h.bp,au.lss .y h.Rows,aK.ls .y h.cI,iT h.fT,.u,aC.ls .y outs]]=
  some ⟨[.one (.b (ag h.aT h.kR e))],[[iT h.aT.fm,iT h.aT.kx,iT h.aT.iV,ints .y h.aT.dX,iT h.aT.mK,iT h.aT.mL,iT h.aT.mJ,iT h.aT.Still,iT h.kR,.b h.gT,aD.ls .y h.bp,au.lss .y h.Rows,aK.ls .y h.cI,iT h.fT,.u,aC.ls .y outs]]⟩:=by
 have h1:=akr h.aT e.eo (Is hl)
 (refine aP rfl ?_;show Ev apl.code _ _ _)
 repeat' (first|refine yv Rt (h1) ?_|refine yo ?_|apply zn|refine yc ?_|intro _)
 exact fin rfl (by(try simp only[bN]);rfl)
set_option maxHeartbeats 2000000 in
theorem Ztb (h:aA) (hl:h.al<=4000000):Nt [.bx (h.cs .y),.fb aar]=some ⟨[],[(kJ (ag h.aT h.kR) h).cs .y]⟩:=by
 have n4:=dA aa.al h.aJ;have Am:=(IP hl).2.2.2.1
 (refine aP rfl ?_;show Ev adQ.code _ _ _)
 repeat' (first|refine ak ?_|refine ai ?_|refine yt ?_ ?_|refine yo ?_|apply zn|refine yc ?_|intro _)
 refine cF (aa.el .y) h.aJ (fun i (p:List T×List aa×List aC)=>[(0,.box ⟨0,0,0⟩ [iT h.aT.fm,iT h.aT.kx,iT h.aT.iV,ints .y h.aT.dX,iT h.aT.mK,iT h.aT.mL,iT h.aT.mJ,iT h.aT.Still,iT h.kR,.b h.gT,aD.ls .y h.bp,au.lss .y h.Rows,aK.ls .y h.cI,iT h.fT,.u,aC.ls .y p.2.2]),(1,.fb aar 0 ⟨0,0,0⟩),(4,.own ⟨0,0,0⟩ (.l .y 10 (p.2.1.map (aa.el .y)))),(10,.own ⟨0,0,0⟩ (.l .y 10 p.1)),(11,.x (iT (h.aJ.map (aa.el .y)).length)),(12,.x (iT i))]) (pU (ag h.aT h.kR) h) _ (pU.init _ h) ?_ ?_ ?_
 ·first|rfl|(simp only[bN];rfl)
 ·rintro i ⟨es,left,outs⟩ x hx aF hc _ hinv ih;have my:=hinv.small hl;obtain⟨xD,eV⟩:=UX my;have ho:outs.length<=4194304:=by omega
  obtain⟨E,rfl,hi⟩:=hinv.z6 hx;have hd:=aks h x outs hl;have dV:=Zt9 h outs
  repeat' (first|refine yx (rY hi) ?_|refine yL (aa.cs .y x) (jT hi rfl) ?_|(apply zS;exact Wi rfl rfl (by repeat (first|exact pV.nil _|apply pV.x|(apply pV.w;exact rfl;exact jT (by assumption) rfl;exact rfl;exact qf (by assumption) rfl;exact rfl)));exact rfl;exact rfl;exact rfl;exact rfl;exact rfl;exact rfl;exact rfl;exact rfl;exact rfl;exact rfl)|refine ydB hd (Zt7 dV rfl) ?_|refine yv F8 (afT outs x.Key x.eo ho) ?_|(apply zVF;exact rfl;exact Z7t rfl rfl rfl rfl rfl;exact rfl;exact rfl;exact rfl;exact xD;exact rfl;exact xD;exact rfl;exact rfl)|(apply zV;(iterate 8 exact rfl);exact(eV);exact(rfl);exact(eV);exact rfl;exact rfl)|refine ak ?_|refine ai ?_|refine yt ?_ ?_|refine yo ?_|apply zn|refine yc ?_|intro _)
  ·rename_i hb;refine ih (E.set i (SL x),left,outs++[⟨nR outs x.Key x.eo,x⟩]) ?_ _ _ ?_
   ·exact hinv.next hx (by rw[mS,hb];rfl)
   ·rw[bU (by omega)];simp only[bN,aC.ls,kh];rfl
  ·rename_i hb;refine ih (E.set i (SL x),left++[x],outs) ?_ _ _ ?_
   ·exact hinv.next hx (by rw[mS,hb];rfl)
   ·rw[bU (by omega)];simp only[bN,aC.ls,kh];rfl
 ·rintro⟨es,left,outs⟩ hc _ hinv;have h2:=hinv.dG;rw[eD]at h2;simp only at h2;have e:kJ (ag h.aT h.kR) h={h with aJ:=left,bz:=outs}:=by rw[kJ,<-h2]
  rw[e]
  repeat' (first|refine ak ?_|refine ai ?_|refine yt ?_ ?_|refine yo ?_|apply zn|refine yc ?_|intro _)
  refine fin rfl ?_
  try simp only[bN]
  try rfl
end Go.Wr

