/-
  What is proved: lemmas for the laws. No condition.
-/
import Derived.Test.YtbghjecopkbhlaaGreatRa
set_option linter.unusedVariables false
set_option linter.unusedSimpArgs false
namespace Go.Wr
section
variable {X:Cx}{U:Nat->Prop}{J J':Nat}{σ aj aX:St}{a a2:Act}{w w' w2:World}{ow ap aU:Nat->Ow}{e:Nat}{o:Oper}
def nT (X:Cx) (U:Nat->Prop) (σ:St) (a:Act) (w:World) (ow:Nat->Ow) (J e:Nat) (v:Value):AV->Prop
 |.own k t=>k=⟨e,e,e⟩/\(∃o sz es,t=.l o sz es/\o.own=true)/\ay X.ae X.mv w ow (some (.ar J,[])) t [v]
 |.st cs=>∃vs:Array Value,v=.agg vs/\vs.toList.length=cs.length/\∀(j:Nat) c u,cs[j]?=some c->vs.toList[j]?=some u->match c with
   |.x t=>ay X.ae X.mv w ow (some (.ar (J+j),[])) t [u]
   |.w r k p z lo n=>kz σ a w r k p z lo n u/\U k.e/\U k.h/\U k.d
 |av=>jE X U σ a w ow e v av
def AV.yh:AV->Nat
 |.own _ _=>1
 |.st cs=>cs.length
 |_=>0
def AV.xP (J:Nat) (i:Nat):AV->Option (List Nat)
 |.own _ _=>if i=J then some [] else none
 |.st cs=>if J<=i/\i<J+cs.length then some [i-J] else none
 |_=>none
def hY (ow:Nat->Ow) (d:Nat) (g:Nat->Option (List Nat)):Nat->Ow:=fun b=>
 match ow b with
 |.own (.sl s) q=>if s=d then .no else .own (.sl s) q
 |.own (.ar i) q=>match g i with
  |some pre=>.own (.sl d) (pre++q)
  |none=>.own (.ar i) q
 |o=>o
theorem zj {d:Nat}{g:Nat->Option (List Nat)}:Zs w ow w (hY ow d g):=fun b hb=>⟨by simp[hY,hb],rfl⟩
theorem ED {d i b:Nat}{g:Nat->Option (List Nat)}{pre q:List Nat} (hg:g i=some pre) (hb:ow b=.own (.ar i) q):hY ow d g b=.own (.sl d) (pre++q):=by
 simp[hY,hb,hg]
theorem WG {d i b:Nat}{g:Nat->Option (List Nat)}{q:List Nat} (hb:hY ow d g b=.own (.ar i) q):ow b=.own (.ar i) q:=by
 unfold hY at hb;cases h:ow b with
 |no=>simp[h]at hb
 |z=>simp[h]at hb
 |own r q'=>
  rw[h]at hb;cases r with
  |sl s=>simp only at hb;split at hb<;>cases hb
  |ar j=>simp only at hb;split at hb<;>first|exact hb|cases hb
  |rs j=>cases hb
theorem EE (h:Rel X U J σ a w ow) (d:Nat) (g:Nat->Option (List Nat)):pb X U J w ow w (hY ow d g) (some d) where
 z:=zj
 other:=fun b s q hs hb=>⟨by simp only[ne_eq,aR]at hs;simp only[hY,hb,if_neg (Ne.symm hs)],rfl⟩
 low:=fun b hb=>h.low b fun e=>hb (by simp[hY,e])
 dw:=fun b i q hb=>h.dw b i q (WG hb)
 grown:=Nat.le_refl _
 no:=fun b _ hb=>⟨by simp[hY,hb],rfl⟩
 os:=rfl
 output:=rfl
theorem WK {av:AV}{v:Value} (hl:nT X U σ a w ow J e v av) {d:Nat} (hr:∀r,dn U σ a w aj a2 w r):cK X aj a2 w (hY ow d (fun i=>av.xP J i)) d av v:=by
 have hz:Zs w ow w (hY ow d (fun i=>av.xP J i)):=zj;cases av
 case own k t=>
  obtain⟨_,h1,h2⟩:=hl;exact⟨h1,cB hz t (c:=some (.ar J,[])) (fun b q hb=>⟨by rw[ED (pre:=[]) (by simp[AV.xP]) hb];rfl,rfl⟩) h2⟩
 case st cs=>
  obtain⟨vs,rfl,hlen,hc⟩:=hl;refine⟨vs,rfl,td cs 0 vs.toList hlen fun j c u h1 h2=>?_⟩;have hj:=(bt.1 h1).1;have:=hc j c u h1 h2;cases c with
  |x t=>exact cB hz t (c:=some (.ar (J+j),[])) (c':=some (.sl d,[0+j])) (fun b q hb=>⟨by
    rw[ED (pre:=[j]) (by simp[AV.xP,hj]) hb];simp,rfl⟩) this
  |w r k p z lo n=>exact(hr r).yu this.2.1 this.2.2.1 this.2.2.2 this.1
 all_goals (simp only[nT]at hl;exact WU hl hz hr)
theorem Zi {av:AV}{v:Value} (hl:nT X U σ a w ow J e v av):av.stamps (fun x=>U x\/bJ e x):=by
 cases av
 case own k t=>
  obtain⟨rfl,_⟩:=hl;exact⟨.inr (bJ.self _),.inr (bJ.self _),.inr (bJ.self _)⟩
 case st cs=>
  obtain⟨vs,rfl,hlen,hc⟩:=hl;intro c hm;obtain⟨j,hj⟩:=gZ.1 hm;have iA:=(bt.1 hj).1;have:=hc j c vs.toList[j] hj (by simp);cases c with
  |x t=>simp[Cell.stamps]
  |w r k p z lo n=>exact⟨.inl this.2.1,.inl this.2.2.1,.inl this.2.2.2⟩
 all_goals (simp only[nT]at hl;exact WV hl)
theorem Zg {av:AV}{v:Value} (hl:nT X U σ a w ow J e v av) (c:RC) (hc:av.rc=some c):c.k.e=e:=by
 cases av
 case own k t=>
  obtain⟨rfl,_⟩:=hl;simp only[AV.rc,aR]at hc;subst hc;rfl
 case st cs=>simp[AV.rc]at hc
 all_goals (simp only[nT]at hl;exact WT hl c hc)
theorem E0 (h:Rel X U J' σ a w ow) {v:Value}{av:AV} (hv:(execOp a.eval o).run X.P w=.ok (.value v) w) (hd:eW X o) (he:∀x,bJ e x->¬U x)
  (hl:nT X U σ a w ow J e v av) (aq:(dE o.dst av).run σ=some ((),aj)):Sound X U a w e o aj:=by
 rw[EV]at aq;simp only[aR,di,true_and]at aq;subst aq;cases dB:o.dst with
 |none=>
  have:=tG (av:=av) (v:=v) (J':=J') h hv (ap:=ow) (pb.rfl h o.dst (Nat.le_refl _)) hd (Zi hl) (Zg hl) he (fun d lR=>by rw[dB]at lR;cases lR);rw[dB]at this;exact this
 |some d=>
  have ht:=EE h d (fun i=>av.xP J i);have:=tG (av:=av) (v:=v) (J':=J') h hv (ap:=hY ow d (fun i=>av.xP J i)) (by rw[dB];exact ht) hd (Zi hl) (Zg hl) he
   (fun d' lR aj a' hr=>by rw[dB]at lR;cases lR;exact WK hl hr)
  rw[dB]at this;exact this
theorem JO (h:Rel X U J σ a w ow) {s:Nat}{av:AV} (aq:(wk e s).run σ=some (av,aj)):
  ∃ap,Gh X U J (J+av.yh) σ a w ow aj ap/\nT X U aj a w ap J e (bL a s) av/\(∀r,r≠s->aj r=σ r)/\(∀r,aj r≠.u->σ r≠.u):=by
 unfold wk at aq;obtain⟨v,aZ,h1,h2⟩:=aW aq;obtain⟨rfl,rfl⟩:=jv h1;have hs:=h.slot s;have bD:=h.fh s;have loose:∀r9,jE X U aZ a w ow e (bL a s) r9->(∀k t,r9≠.own k t)->(∀cs,r9≠.st cs)->r9.yh=0/\nT X U aZ a w ow J e (bL a s) r9:=fun r9 hl h3 h4=>by
  cases r9
  case own k t=>exact absurd rfl (h3 k t)
  case st cs=>exact absurd rfl (h4 cs)
  all_goals exact⟨rfl,hl⟩
 cases aV:aZ s<;>rw[aV]at hs bD h2<;>simp only[Pg.run,reduceCtorEq]at h2
 case own k t=>
  simp only[cK]at hs;simp only[Pg.wr,Pg.run,Pure.pure,aR,di]at h2;obtain⟨rfl,rfl⟩:=h2;have hz:Zs w ow w (jb ow s J):=fun b hb=>⟨by simp[jb,hb],rfl⟩
  have hg:=qT (J':=J+1) (v':=.u) (ap:=jb ow s J) h (r:=s) (by simp[cK]) (by simp[AV.stamps]) hz (fun b r' q hr hb=>by
    unfold jb;rw[hb];cases r' with
    |sl y=>simp only;rw[if_neg (fun e=>hr (by rw[e]))]
    |ar y=>rfl
    |rs y=>rfl) (fun b hb=>by simp[jb,hb]) (fun b i q hb=>by
    unfold jb at hb;cases dq:ow b with
    |no=>simp[dq]at hb
    |z=>simp[dq]at hb
    |own r' q'=>
     rw[dq]at hb;cases r' with
     |sl y=>
      simp only at hb;split at hb
      ·simp at hb;omega
      ·cases hb
     |ar y=>have:=h.dw b y q' dq;simp at hb;omega
     |rs y=>cases hb) (dn.fresh fun c' cN=>by simp[bi,AV.rc]at cN) (by rw[aV];simp) (fun n=>by rw[aV];simp)
  refine⟨jb ow s J,⟨hg.1,hz,fun b i q _ hb=>by simp[jb,hb],hg.2⟩,⟨rfl,hs.1,?_⟩,fun r hr=>by simp[bi,hr],fun r hr=>?_⟩
  ·exact cB hz t (c:=some (.sl s,[])) (fun b q hb=>⟨by simp only[eC]at hb;simp[jb,hb],rfl⟩) hs.2
  ·by_cases e1:r=s
   ·subst e1;simp[bi]at hr
   ·simpa[bi,e1]using hr
 case st cs=>
  simp only[cK]at hs;obtain⟨vs,cC,eu⟩:=hs;obtain⟨hlen,gu⟩:=uK eu;split at h2
  ·have h3:=run_bind (Pg.wr s .u) (fun _=>(pure (.st cs):Pg AV)) aZ;simp only[Bind.bind]at h3;rw[h3]at h2;simp only[Pg.wr,Pg.run,Pure.pure,jl,aR,di]at h2;obtain⟨rfl,rfl⟩:=h2;have hz:Zs w ow w (jc ow s J cs.length):=fun b hb=>⟨by simp[jc,hb],rfl⟩
   have hg:=qT (J':=J+cs.length) (v':=.u) (ap:=jc ow s J cs.length) h (r:=s) (by simp[cK]) (by simp[AV.stamps]) hz (fun b r' q hr hb=>by
     unfold jc;rw[hb];cases r' with
     |sl y=>simp only;rw[if_neg (fun e=>hr (by rw[e]))]
     |ar y=>rfl
     |rs y=>rfl) (fun b hb=>by simp[jc,hb]) (fun b i q hb=>by
     unfold jc at hb;cases dq:ow b with
     |no=>simp[dq]at hb
     |z=>simp[dq]at hb
     |own r' q'=>
      rw[dq]at hb;cases r' with
      |sl y=>
       simp only at hb;split at hb
       ·split at hb
        ·split at hb
         ·simp at hb;omega
         ·cases hb
        ·cases hb
       ·cases hb
      |ar y=>have:=h.dw b y q' dq;simp at hb;omega
      |rs y=>cases hb) (dn.fresh fun c' cN=>by simp[bi,AV.rc]at cN) (by rw[aV];simp) (fun n=>by rw[aV];simp)
   refine⟨jc ow s J cs.length,⟨hg.1,hz,fun b i q _ hb=>by simp[jc,hb],hg.2⟩,⟨vs,cC,hlen,fun j c u hj hu=>?_⟩,fun r hr=>by simp[bi,hr],fun r hr=>?_⟩
   ·have h5:=gu j c u hj hu;rw[db]at h5;have iA:=(bt.1 hj).1;cases c with
    |x t=>
     simp only[lx]at h5;exact cB hz t (c:=some (.sl s,[j])) (fun b q hb=>⟨by simp only[gf,eC]at hb;simp[jc,hb,iA],rfl⟩) h5
    |w r k p z lo n=>
     simp only[lx]at h5;have bD:=bD _ (cS hj);simp only[Cell.stamps]at bD;exact⟨(hg.2 r).yu bD.1 bD.2.1 bD.2.2 h5,bD⟩
   ·by_cases e1:r=s
    ·subst e1;simp[bi]at hr
    ·simpa[bi,e1]using hr
  ·rename_i dK;obtain⟨rfl,rfl⟩:=bS h2;refine⟨ow,Gh.refl h (by omega),⟨vs,cC,hlen,fun j c u hj hu=>?_⟩,fun r hr=>rfl,fun r hr=>hr⟩;have h5:=gu j c u hj hu;rw[db]at h5;have hm:=cS hj;cases c with
   |x t=>
    simp only[lx]at h5;refine tw ?_ h5;cases ht:t.loose with
    |true=>rfl
    |false=>exact absurd (qN.2 ⟨_,hm,by simp[Cell.lY,ht]⟩) dK
   |w r k p z lo n=>
    simp only[lx]at h5;exact⟨h5,bD _ hm⟩
 case u=>
  obtain⟨rfl,rfl⟩:=bS h2;exact⟨ow,Gh.refl h (by simp[AV.yh]),trivial,fun r hr=>rfl,fun r hr=>hr⟩
 case x t=>
  obtain⟨rfl,rfl⟩:=bS h2;exact⟨ow,Gh.refl h (by simp[AV.yh]),hs,fun r hr=>rfl,fun r hr=>hr⟩
 case w r k p z lo n=>
  obtain⟨rfl,rfl⟩:=bS h2;exact⟨ow,Gh.refl h (by simp[AV.yh]),⟨hs,bD⟩,fun r hr=>rfl,fun r hr=>hr⟩
 case ptr r k p off=>
  obtain⟨rfl,rfl⟩:=bS h2;exact⟨ow,Gh.refl h (by simp[AV.yh]),⟨hs,bD⟩,fun r hr=>rfl,fun r hr=>hr⟩
 case fb g r k=>
  obtain⟨rfl,rfl⟩:=bS h2;exact⟨ow,Gh.refl h (by simp[AV.yh]),⟨hs,bD⟩,fun r hr=>rfl,fun r hr=>hr⟩
 case q t off=>
  obtain⟨rfl,rfl⟩:=bS h2;exact⟨ow,Gh.refl h (by simp[AV.yh]),hs,fun r hr=>rfl,fun r hr=>hr⟩
end
section
variable {X:Cx}{U:Nat->Prop}{J J':Nat}{σ aj aX:St}{a a2:Act}{w w' w2:World}{ow ap aU:Nat->Ow}{e:Nat}{o:Oper}
theorem Rel.mono (h:Rel X U J σ a w ow) {U':Nat->Prop} (hU:∀x,U x->U' x) (hJ:J<=J'):Rel X U' J' σ a w ow:=
 {h with fh:=fun s=>AV.yq hU (h.fh s),dw:=fun b i q hb=>iF (h.dw b i q hb) hJ}
theorem Z9w (h:Rel X U J σ a w ow) {U':Nat->Prop} (hU:∀x,U x->U' x) {d J0:Nat}{av:AV} (hl:nT X U σ a w ow J0 e (bL a d) av) (hd:σ d=.u)
  (bD:av.stamps U') (jf:∀c,av.rc=some c->¬U c.k.e) (S8:1000<=d/\∃n,σ (d%1000)=.dj n/\d/1000<=n):
  Rel X U' J (bi σ d av) a w (hY ow d (fun i=>av.xP J0 i)):=by
 have ht:=EE h d (fun i=>av.xP J0 i);have dD:∀r,dn U σ a w (bi σ d av) a w r:=fun r=>by
  by_cases h1:r=d
  ·subst h1;exact dn.fresh fun c hc=>by
    simp only[bi,if_true]at hc;exact jf c hc
  ·exact ph (h.slot r) (by simp[bi,h1]) rfl ht.z (fun b q hb=>rfl)
 refine⟨h.size,h.small,h.defers,fun s=>?_,fun s=>?_,ht.low,ht.dw,h.grown,fun b hb hr=>Co ht.z ht.no (iF hb h.grown) (h.same b hb hr) hr,h.os,h.output,h.cO,fun s hs hu=>?_⟩
 ·by_cases h1:s=d
  ·subst h1;simp only[bi,if_true];exact WK hl dD
  ·have:=qg (aj:=bi σ d av) (a':=a) (h.slot s) (h.fh s) ht.z dD (fun b q hb=>ht.other b s q (by simpa using Ne.symm h1) hb);simpa[bi,h1]using this
 ·by_cases h1:s=d
  ·subst h1;simpa[bi]using bD
  ·simpa[bi,h1]using AV.yq hU (h.fh s)
 ·have key:∀m,σ m≠.u->m≠d:=fun m hm e=>hm (e▸hd);by_cases h1:s=d
  ·subst h1;obtain⟨n,h2,h3⟩:=S8.2;refine⟨n,?_,h3⟩;simp only[bi,if_neg (key _ (by rw[h2];simp))];exact h2
  ·simp only[bi,if_neg h1]at hu;obtain⟨n,h2,h3⟩:=h.pR s hs hu;refine⟨n,?_,h3⟩;simp only[bi,if_neg (key _ (by rw[h2];simp))];exact h2
theorem Z46 {c:T}{v:Value} (hc:c.isConst v=true) (hf:∀g env,c≠.f g env):nT X U σ a w ow J e v (sd e c):=by
 unfold sd;split
 ·obtain⟨rfl,rfl,_⟩:=IT hc;exact⟨rfl,⟨_,_,_,rfl,rfl⟩,ki (.l .y _ []) _ _ (by simp[T.isConst]) (fun e=>by cases e) (fun _=>by simp)⟩
 ·rename_i cs;cases v<;>simp only[T.isConst,cX]at hc;rename_i vs;refine⟨vs,rfl,by rw[wU _ _ hc];simp,fun j c' u h1 h2=>?_⟩;rw[iX]at h1;obtain⟨t,ht,rfl⟩:=jm.1 h1;obtain⟨h3,h4⟩:=Ee cs vs.toList j hc ht h2;exact ki t u _ h3 (fun e=>by cases e) h4
 ·rename_i h1 h2;refine ki c v none hc (fun _ sz es e=>?_) (fun cs e=>h2 cs e);exact h1 sz es e
theorem Zgz {c:T}{y:Operand} (hx:(aL.k c).is X.ae y=true):nT X U σ a w ow J e (a.eval y) (sd e c):=by
 cases y with
 |tmp m=>cases c<;>simp[aL.is]at hx
 |global g=>cases c<;>simp[aL.is]at hx
 |func f=>
  cases c<;>simp[aL.is]at hx;rename_i g env;cases env<;>simp[aL.is]at hx;subst hx;simp only[sd,nT,jE,ay,Act.eval];exact⟨#[],rfl,by simp[bZ]⟩
 |const v=>
  have jh:c.isConst v=true:=by cases c<;>simp only[aL.is]at hx<;>exact hx
  simp only[Act.eval];exact Z46 jh (fun g env e=>by subst e;simp[T.isConst]at jh)
theorem ZI (h:Rel X U J σ a w ow) {s n:Nat} (hs:σ s=.dj n) (dL:s<1000):∃vs:Array Value,a.tmps.getD s undef=.tuple vs/\vs.size=n/\∀j,bL a (vt s j)=vs.getD j undef:=by
 have:=h.slot s;rw[hs]at this;obtain⟨vs,h1,h2⟩:=this;unfold bL at h1;rw[if_pos dL]at h1;refine⟨vs,h1,h2,fun j=>?_⟩;unfold bL vt;rw[if_neg (by omega)];have h3:(s+1000*(j+1))%1000=s:=by omega
 have h4:(s+1000*(j+1))/1000-1=j:=by omega
 rw[h3,h4,h1]
theorem W7 {s d n:Nat} (ua:s≠d) (dL:s<1000) (kL:d<1000) {vs:Array Value}:∀(m:Nat) {σ aj:St}{ow:Nat->Ow}{J:Nat},Rel X U J σ a w ow->(∀x,bJ e x->x≠e->¬U x)->
  σ s=.dj n->σ d=.dj n->(∀j,bL a (vt s j)=vs.getD j undef)->(∀j,bL a (vt d j)=vs.getD j undef)->(∀j,σ (vt d j)=.u)->m<=n->(Lk e s d m).run σ=some ((),aj)->
  ∃J' ap,Rel X (fun x=>U x\/(e<x/\x<=e+m/\x<e+8)) J' aj a w ap/\aj s=.dj n/\aj d=.dj n/\(∀j,m<=j->aj (vt d j)=.u)
 |0,σ,aj,ow,J,h,he,h1,h2,h3,h4,h5,hm,aq=>by
  obtain⟨_,rfl⟩:=bS aq;exact⟨J,ow,h.mono (fun x hx=>.inl hx) (Nat.le_refl _),h1,h2,fun j _=>h5 j⟩
 |m+1,σ,aj,ow,J,h,he,h1,h2,h3,h4,h5,hm,aq=>by
  obtain⟨_,aZ,dO,dS⟩:=aW aq;obtain⟨J1,bB,g1,g2,g3,g4⟩:=W7 ua dL kL (vs:=vs) m h he h1 h2 h3 h4 h5 (by omega) dO;split at dS
  ·rename_i hm7;obtain⟨v,aX,hr3,KV⟩:=aW dS;have:=rZ KV;subst this;obtain⟨aU,k1,k2,k3,k4⟩:=JO g1 hr3;have bC:∀j,vt s m≠vt d j:=fun j=>by unfold vt;omega
   have AK:s≠vt s m:=by unfold vt;omega
   have oJ:d≠vt s m:=by unfold vt;omega
   have anN:s≠vt d m:=by unfold vt;omega
   have anH:d≠vt d m:=by unfold vt;omega
   have cC:bL a (vt s m)=bL a (vt d m):=by rw[h3,h4]
   rw[cC]at k2;have am0:bJ e (e+m+1):=⟨by omega,by omega⟩
   have hnU:¬(U (e+m+1)\/(e<e+m+1/\e+m+1<=e+m/\e+m+1<e+8)):=fun hx=>by
    rcases hx with hx|hx
    ·exact he _ am0 (by omega) hx
    ·omega
   have aor:v.stamps (fun x=>U x\/(e<x/\x<=e+(m+1)/\x<e+8)):=by
    have rk:∀x,(U x\/(e<x/\x<=e+m/\x<e+8))->(U x\/(e<x/\x<=e+(m+1)/\x<e+8)):=fun x hx=>hx.imp id (fun y=>⟨y.1,by omega,y.2.2⟩);cases v
    case own k t=>
     obtain⟨rfl,_⟩:=k2;have:(e<e+m+1/\e+m+1<=e+(m+1)/\e+m+1<e+8):=by omega
     exact⟨.inr this,.inr this,.inr this⟩
    case st cs=>
     obtain⟨bE,_,hlen,hc⟩:=k2;intro c oI;obtain⟨j,hj⟩:=gZ.1 oI;have iA:=(bt.1 hj).1;have:=hc j c bE.toList[j] hj (by simp);cases c with
     |x t=>simp[Cell.stamps]
     |w r k p z lo n=>exact⟨rk _ this.2.1,rk _ this.2.2.1,rk _ this.2.2.2⟩
    case w=>exact⟨rk _ k2.2.1,rk _ k2.2.2.1,rk _ k2.2.2.2⟩
    case ptr=>exact⟨rk _ k2.2.1,rk _ k2.2.2.1,rk _ k2.2.2.2⟩
    case fb=>exact⟨rk _ k2.2.1,rk _ k2.2.2.1,rk _ k2.2.2.2⟩
    case box=>exact k2.elim
    all_goals trivial
   have hu:aX (vt d m)=.u:=by rw[k3 _ (Ne.symm (bC m))];exact g4 m (Nat.le_refl _)
   have oG:=Z9w (e:=e+m+1) k1.rel (U':=fun x=>U x\/(e<x/\x<=e+(m+1)/\x<e+8)) (fun x hx=>hx.imp id (fun y=>⟨y.1,by omega,y.2.2⟩)) k2 hu aor
    (fun c hc=>by
     have:=Zg k2 c hc;rw[this];exact hnU) ⟨by unfold vt;omega,n,by
      have:vt d m%1000=d:=by unfold vt;omega
      rw[this,k3 _ oJ,g3],by unfold vt;omega⟩
   refine⟨_,_,oG,?_,?_,fun j hj=>?_⟩
   ·simp only[bi,if_neg anN];rw[k3 _ AK,g2]
   ·simp only[bi,if_neg anH];rw[k3 _ oJ,g3]
   ·have h6:vt d j≠vt d m:=by unfold vt;omega
    simp only[bi,if_neg h6];rw[k3 _ (Ne.symm (bC j))];exact g4 j (by omega)
  ·simp[Pg.run]at dS
theorem Xo {s:Nat}{y:Operand} (hx:(aL.t s).is X.ae y=true):y=.tmp s/\s<1000:=by
 cases y<;>simp[aL.is]at hx;exact⟨by rw[hx.1],hx.2⟩
theorem W6 (h:Rel X U J σ a w ow) (hd:eW X o) (he:∀x,bJ e x->¬U x) {x:aL}{y:Operand} (hx:x.is X.ae y=true) (hv:(execOp a.eval o).run X.P w=.ok (.value (a.eval y)) w) {d:Nat} (dB:o.dst=some d)
  (aq:(Lj e d x).run σ=some ((),aj)):Sound X U a w e o aj:=by
 cases x with
 |k c=>
  have hl:nT X U σ a w ow J e (a.eval y) (sd e c):=Zgz hx;refine E0 (h.mono (fun x hx=>hx) (Nat.le_refl J)) hv hd he hl ?_;rw[dB];exact aq
 |t s=>
  obtain⟨rfl,dL⟩:=Xo hx;simp only[Lj]at aq;obtain⟨v0,aZ,h1,h2⟩:=aW aq;obtain⟨rfl,rfl⟩:=jv h1;by_cases vV:∃n,aZ s=.dj n
  ·obtain⟨n,hn⟩:=vV;simp only[hn]at h2;split at h2
   ·simp[Pg.run]at h2
   ·rename_i ua;have h3:=run_bind (gd d (.dj n)) (fun _=>Lk e s d n) aZ;simp only[Bind.bind]at h3;rw[h3,uR]at h2;simp only[jl]at h2;obtain⟨qt,Dc⟩:=hd d dB;have kL:d<1000:=iF qt h.small;have As:d<a.tmps.size:=by rw[h.size];exact qt
    obtain⟨vs,p1,p2,p3⟩:=ZI h hn dL;have sA:a.eval (.tmp s)=.tuple vs:=p1;have hw:=zF h (U':=fun x=>U x\/x=e) (fun x hx=>.inl hx) (pb.rfl h (some d) (Nat.le_refl J)) (av:=.dj n) (v:=a.eval (.tmp s)) (fun d' je=>by cases je;exact⟨qt,Dc⟩) (by simp[AV.stamps]) (by simp[AV.rc])
     (fun d' je aj a' hr=>⟨vs,sA,p2⟩)
    simp only[yf]at hw;have de:=fun k=>tF h kL (.dj n) k;obtain⟨J2,aU,q1,q2,q3,q4⟩:=W7 (n:=n) (vs:=vs) ua dL kL n hw.1 (fun x hx bC hU=>by
      rcases hU with hU|hU
      ·exact he x hx hU
      ·exact bC hU) (by rw[de,if_neg ua,if_neg (by omega),hn]) (by rw[de,if_pos rfl])
     (fun j=>by rw[JQ (by unfold vt;omega) (fun _=>by unfold vt;omega)];exact p3 j) (fun j=>by rw[sA];exact ZP As kL)
     (fun j=>by rw[de,if_neg (by unfold vt;omega),if_pos (by unfold vt;omega)]) (Nat.le_refl n) h2
    intro K Q hK;left;unfold Oper.wp;rw[hv,Oper.upon_value,dB];refine hK _ _ _ _ (q1.mono (fun x hx=>?_) (Nat.le_refl _));rcases hx with(hx|hx)|hx
    ·exact .inl hx
    ·exact .inr (hx▸bJ.self e)
    ·exact .inr ⟨by omega,hx.2.2⟩
  ·have h3:(do let v <-wk e s;gd d v).run aZ=some ((),aj):=by
    cases aV:aZ s<;>rw[aV]at h2<;>first|exact h2|exact absurd ⟨_,aV⟩ vV
   obtain⟨v,aX,h4,h5⟩:=aW h3;obtain⟨ap,g1,g2,g3,g4⟩:=JO h h4;rw[<-tf dL]at g2;have:Sound X U a w e o aj:=E0 g1.rel hv hd he g2 (by rw[dB];exact h5);exact this
theorem Z6a (h:Rel X U J σ a w ow) (hd:eW X o) (he:∀x,bJ e x->¬U x) {x:aL}{x':Operand} (hx:x.is X.ae x'=true) (bl:o.op=.assign x')
  (aq:(exec e o.dst (.uW x)).run σ=some ((),aj)):Sound X U a w e o aj:=by
 have cC:(execOp a.eval o).run X.P w=.ok (.value (a.eval x')) w:=by simp only[execOp,bl];rfl
 simp only[exec]at aq;cases dB:o.dst with
 |none=>simp[dB,Pg.run]at aq
 |some d=>
  simp only[dB]at aq;exact W6 h hd he hx cC dB aq
theorem VS (h:Rel X U J σ a w ow) (hd:eW X o) (he:∀x,bJ e x->¬U x) {x:aL}{x':Operand} (hx:x.is X.ae x'=true) (bl:o.op=.move x')
  (aq:(exec e o.dst (.mv x)).run σ=some ((),aj)):Sound X U a w e o aj:=by
 by_cases vN:∀n,x=.t n->∀m,σ n≠.dj m
 ·exact Z6z h hd he hx bl vN aq
 ·simp only[Classical.not_forall]at vN;obtain⟨s,rfl,m,hm⟩:=vN;have hm:σ s=.dj m:=by simpa using hm
  have cC:(execOp a.eval o).run X.P w=.ok (.value (a.eval x')) w:=by simp only[execOp,bl];rfl
  obtain⟨av,aZ,h1,h2⟩:=aW aq;have xB:av=.dj m/\aZ=σ:=by
   simp only[look]at h1;obtain⟨v0,aX,h3,h4⟩:=aW h1;obtain⟨rfl,rfl⟩:=jv h3;rw[hm]at h4;exact bS h4
  obtain⟨rfl,rfl⟩:=xB;simp only at h2;cases dB:o.dst with
  |none=>simp[dB,Pg.run]at h2
  |some d=>
   simp only[dB]at h2;exact W6 h hd he hx cC dB h2
theorem Z6n (h:Rel X U J σ a w ow) (hd:eW X o) (he:∀x,bJ e x->¬U x) {x:aL}{x':Operand}{j:Nat} (hx:x.is X.ae x'=true) (bl:o.op=.extract x' j)
  (aq:(exec e o.dst (.ext x j)).run σ=some ((),aj)):Sound X U a w e o aj:=by
 cases x with
 |k c=>simp[exec,Pg.run]at aq
 |t s=>
  obtain⟨rfl,dL⟩:=Xo hx;simp only[exec]at aq;obtain⟨v0,aZ,h1,h2⟩:=aW aq;obtain⟨rfl,rfl⟩:=jv h1;cases aV:aZ s<;>rw[aV]at h2<;>try simp only[Pg.run,reduceCtorEq]at h2
  rename_i n;split at h2
  ·rename_i hj;have h3:=run_bind (wk e (vt s j)) (fun v=>dE o.dst v) aZ;simp only[Bind.bind]at h3;rw[h3]at h2;obtain⟨⟨v,aX⟩,h4,h5⟩:=gG.1 h2;obtain⟨ap,g1,g2,g3,g4⟩:=JO h h4;obtain⟨vs,p1,p2,p3⟩:=ZI h aV dL;have sA:a.eval (.tmp s)=.tuple vs:=p1;refine E0 g1.rel (v:=bL a (vt s j)) ?_ hd he g2 h5;simp only[execOp,bl,sA];refine jG ?_;have iA:j<vs.size:=by omega
   rw[p3 j];simp[Instr.extract,iA,Pure.pure,Sem.run]
  ·simp[Pg.run]at h2
end
def Tn (P:Program) (str:Bool) (t:Option TypeId):Bool:=
 match t with
 |some t=>(match P.underlying t with|some (.slice _)=> !str|some .string=>str|_=>false)
 |none=>false
section
variable {X:Cx}{U:Nat->Prop}{J J':Nat}{σ aj aX:St}{a a2:Act}{w w' w2:World}{ow ap aU:Nat->Ow}{e:Nat}{o:Oper}
theorem Jz {c:Call}{b:Builtin} (bl:o.op=.call c) (hc:c.callee=.builtin b):
  execOp a.eval o=Go.builtin b c.argTypes o.type (c.args.map fun|.const _=>true|_=>false) (c.args.map a.eval):=by
 simp only[execOp,bl,resolve,hc];rfl
theorem Z6v (h:Rel X U J σ a w ow) (hd:eW X o) (he:∀x,bJ e x->¬U x) {str:Bool}{x:aL}{x':Operand}{c:Call} (hx:x.is X.ae x'=true) (bl:o.op=.call c) (hc:c.callee=.builtin .len) (ha:c.args=#[x'])
  (hg:Tn X.P str c.argTypes[0]?=true) (aq:(exec e o.dst (.len str x)).run σ=some ((),aj)):Sound X U a w e o aj:=by
 obtain⟨av,aZ,h1,h2⟩:=aW aq;obtain⟨rfl,cj,mq,nH⟩:=uO h hx h1;cases hl:zI str av with
 |none=>simp[hl,Pg.run]at h2
 |some n=>
  simp only[hl]at h2;refine jH h (v:=.int .i64 n) (av:=.x (.i .i64 n)) ?_ hd he (by simp[jE,ay]) h2;rw[Jz bl hc,ha];show(do pure (.value (<-Builtin.len_ c.argTypes o.type (#[x'].map a.eval))):Sem Next).run X.P w=_;refine jG ?_;unfold Tn at hg;cases S5:c.argTypes[0]? with
  |none=>simp[S5]at hg
  |some t=>
   simp only[S5]at hg;have amz:(#[x'].map a.eval)[0]?=some (a.eval x'):=by simp
   unfold Builtin.len_;rw[S5,amz];simp only;cases str with
   |false=>
    obtain⟨el,hu⟩:∃el,X.P.underlying t=some (.slice el):=by
     revert hg
     cases X.P.underlying t with
     |none=>simp
     |some d=>cases d<;>simp
    rw[bu (jF hu)];have hv:∃A C,a.eval x'=.slice A n.toNat C/\0<=n:=by
     cases av<;>simp only[zI,reduceCtorEq]at hl
     case x t=>
      cases t<;>simp only[zI,reduceCtorEq,aR]at hl;subst hl;simp only[fw]at cj;obtain⟨A,C,hv,_⟩:=mO cj;exact⟨A,C,by simpa using hv,by omega⟩
     case own k t=>
      cases t<;>simp only[zI,reduceCtorEq,aR]at hl;subst hl;obtain⟨c0,rfl⟩:=mq _ _ rfl;obtain⟨sz,h3,h4⟩:=cj;cases h3;exact⟨none,0,by simpa using h4,by simp⟩
     case w r k p z lo m=>
      simp only[aR]at hl;subst hl;obtain⟨⟨⟨A,C,hv,_⟩,_⟩,_⟩:=cj;exact⟨A,C,by simpa using hv,by omega⟩
    obtain⟨A,C,hv,h0⟩:=hv;rw[hv];simp only[goInt,Pure.pure,Sem.run];rw[Int.toNat_of_nonneg h0]
   |true=>
    have hu:X.P.underlying t=some .string:=by
     revert hg
     cases X.P.underlying t with
     |none=>simp
     |some d=>cases d<;>simp
    rw[bu (jF hu)];cases av<;>simp only[zI,reduceCtorEq]at hl;rename_i t;cases t<;>simp only[zI,reduceCtorEq,aR]at hl;subst hl;simp only[fw,ay,fq,and_true]at cj;rw[cj];rfl
theorem O5 (h:Rel X U J σ a w ow) {x:aL}{x':Operand} (hx:x.is X.ae x'=true) {n:Int} (aq:(num e x).run σ=some (n,aj)):aj=σ/\a.eval x'=.int .i64 n:=by
 unfold num at aq;obtain⟨av,aZ,h1,h2⟩:=aW aq;obtain⟨rfl,cj⟩:=kn h hx h1;cases av<;>try simp only[Pg.run,reduceCtorEq]at h2
 rename_i t;cases t<;>try simp only[Pg.run,reduceCtorEq]at h2
 rename_i k m;cases k<;>try simp only[Pg.run,reduceCtorEq]at h2
 obtain⟨rfl,rfl⟩:=bS h2;exact⟨rfl,by simpa[fw,ay]using cj⟩
def oU (ae:Nat->FuncId):List aL->List Operand->Bool
 |[],[]=>true
 |x::xs,y::ys=>x.is ae y&&oU ae xs ys
 |_,_=>false
theorem O6 (h:Rel X U J σ a w ow):∀(xs:List aL) (ys:List Operand) {ns:List Int}{aj:St},oU X.ae xs ys=true->(GY e xs).run σ=some (ns,aj)->aj=σ/\ys.map a.eval=ns.map (.int .i64)
 |[],[],ns,aj,hx,aq=>by
  obtain⟨rfl,rfl⟩:=bS aq;exact⟨rfl,rfl⟩
 |[],_::_,ns,aj,hx,aq=>by simp[oU]at hx
 |_::_,[],ns,aj,hx,aq=>by simp[oU]at hx
 |x::xs,y::ys,ns,aj,hx,aq=>by
  simp only[oU,Y8]at hx;simp only[GY]at aq;obtain⟨n,aZ,h1,h2⟩:=aW aq;obtain⟨e1,hn⟩:=O5 h hx.1 h1;obtain⟨ns',aX,h3,h4⟩:=aW h2;rw[e1]at h3;obtain⟨e2,AK⟩:=O6 h xs ys hx.2 h3;obtain⟨rfl,rfl⟩:=bS h4;exact⟨e2,by simp[hn,AK]⟩
theorem Yt {P:Program}:∀(ns:List Int) (n:Int),((ns.map (Value.int .i64)).foldlM Builtin.min2 (Value.int .i64 n)).run P w=.ok (.int .i64 (ns.foldl (fun a b=>if b<a then b else a) n)) w
 |[],n=>rfl
 |m::ns,n=>by
  simp only[fc,List.foldlM_cons,qP];rw[bu (x:=.int .i64 (if m<n then m else n)) (w':=w) (by simp[Builtin.min2,Pure.pure,Sem.run])];exact Yt ns _
theorem Ys {P:Program}:∀(ns:List Int) (n:Int),((ns.map (Value.int .i64)).foldlM Builtin.max2 (Value.int .i64 n)).run P w=.ok (.int .i64 (ns.foldl (fun a b=>if b>a then b else a) n)) w
 |[],n=>rfl
 |m::ns,n=>by
  simp only[fc,List.foldlM_cons,qP];rw[bu (x:=.int .i64 (if m>n then m else n)) (w':=w) (by simp[Builtin.max2,Pure.pure,Sem.run])];exact Ys ns _
theorem Z6x (h:Rel X U J σ a w ow) (hd:eW X o) (he:∀x,bJ e x->¬U x) {xs:List aL}{c:Call} (hx:oU X.ae xs c.args.toList=true) (bl:o.op=.call c) (hc:c.callee=.builtin .min)
  (aq:(exec e o.dst (.mn xs)).run σ=some ((),aj)):Sound X U a w e o aj:=by
 obtain⟨ns,aZ,h1,h2⟩:=aW aq;obtain⟨rfl,AK⟩:=O6 h xs _ hx h1;cases ns with
 |nil=>simp[Pg.run]at h2
 |cons n ns=>
  simp only at h2;refine jH h (v:=.int .i64 (ns.foldl (fun a b=>if b<a then b else a) n)) (av:=.x (.i .i64 _)) ?_ hd he (by simp[jE,ay]) h2;rw[Jz bl hc];show(do pure (.value (<-Builtin.min_ c.argTypes o.type (c.args.map a.eval))):Sem Next).run X.P w=_;refine jG ?_;unfold Builtin.min_;rw[Y6,AK];exact Yt ns n
theorem Z70 (h:Rel X U J σ a w ow) (hd:eW X o) (he:∀x,bJ e x->¬U x) {xs:List aL}{c:Call} (hx:oU X.ae xs c.args.toList=true) (bl:o.op=.call c) (hc:c.callee=.builtin .max)
  (aq:(exec e o.dst (.mx xs)).run σ=some ((),aj)):Sound X U a w e o aj:=by
 obtain⟨ns,aZ,h1,h2⟩:=aW aq;obtain⟨rfl,AK⟩:=O6 h xs _ hx h1;cases ns with
 |nil=>simp[Pg.run]at h2
 |cons n ns=>
  simp only at h2;refine jH h (v:=.int .i64 (ns.foldl (fun a b=>if b>a then b else a) n)) (av:=.x (.i .i64 _)) ?_ hd he (by simp[jE,ay]) h2;rw[Jz bl hc];show(do pure (.value (<-Builtin.max_ c.argTypes o.type (c.args.map a.eval))):Sem Next).run X.P w=_;refine jG ?_;unfold Builtin.max_;rw[Y6,AK];exact Ys ns n
def Be (ae:Nat->FuncId):Option aL->Option Operand->Bool
 |none,none=>true
 |some x,some y=>x.is ae y
 |_,_=>false
theorem Ii (h:Rel X U J σ a w ow) {x:Option aL}{x':Option Operand} (hx:Be X.ae x x'=true) {df n:Nat} (aq:(qj e df x).run σ=some (n,aj)):
  aj=σ/\((x'=none/\n=df)\/∃y k,x'=some y/\a.eval y=.int k n):=by
 cases x with
 |none=>
  cases x'<;>simp[Be]at hx;obtain⟨rfl,rfl⟩:=bS aq;exact⟨rfl,.inl ⟨rfl,rfl⟩⟩
 |some x=>
  cases x'<;>simp only[Be,cX]at hx;rename_i y;simp only[qj]at aq;obtain⟨av,aZ,h1,h2⟩:=aW aq;obtain⟨rfl,cj⟩:=kn h hx h1;cases av<;>try simp only[Pg.run,reduceCtorEq]at h2
  rename_i t;cases t<;>try simp only[Pg.run,reduceCtorEq]at h2
  rename_i k m;split at h2
  ·rename_i h0;obtain⟨rfl,rfl⟩:=bS h2;refine⟨rfl,.inr ⟨y,k,rfl,?_⟩⟩;rw[Int.toNat_of_nonneg h0];simpa[fw,ay]using cj
  ·simp[Pg.run]at h2
theorem Yu {P:Program}{t:TypeId}{sz:Nat}{A:Option Addr}{N C l h:Nat}{lo hi:Option Value} (hg:xn P t sz=true)
  (iC:(lo=none/\l=0)\/∃k,lo=some (.int k l)) (AA:(hi=none/\h=N)\/∃k,hi=some (.int k h)) (xI:l<=h) (hhN:h<=N) (hNC:N<=C):
  (Instr.sliceAt t (.slice A N C) lo hi none).run P w=.ok (.slice (if C=l then A else A.map (·.add (l*sz))) (h-l) (C-l)) w:=by
 unfold xn at hg;split at hg
 ·rename_i el hu;unfold Instr.sliceAt;rw[bu (jF hu)];simp only;unfold Instr.slice;rw[bu (jF hu)];simp only;have eN:∀(v:Value) (y m:Nat) (k:IntKind) (cd:BoundsCode),v=.int k m->m<=y->(Instr.sliceBound v y cd).run P w=.ok m w:=fun v y m k cd hv hm=>by
   subst hv;unfold Instr.sliceBound;rw[bu (x:=(k,(m:Int))) (w':=w) rfl];simp only;rw[if_pos (by omega)];simp[Pure.pure,Sem.run]
  have hb:(Instr.sliceBounds true N C lo hi none).run P w=.ok (l,h,C) w:=by
   unfold Instr.sliceBounds;rw[bu (x:=C) (w':=w) rfl];simp only;rcases AA with⟨rfl,rfl⟩|⟨k2,rfl⟩
   ·rw[bu (x:=h) (w':=w) rfl];rcases iC with⟨rfl,rfl⟩|⟨k,rfl⟩
    ·rfl
    ·simp only;rw[bu (eN _ h l k _ rfl xI)];rfl
   ·simp only;rw[bu (eN _ C h k2 _ rfl (by omega))];rcases iC with⟨rfl,rfl⟩|⟨k,rfl⟩
    ·rfl
    ·simp only;rw[bu (eN _ h l k _ rfl xI)];rfl
  rw[bu hb];simp only;rw[bu (qX hg)];rfl
 ·cases hg
theorem YV {hv:Value}{sz lo n l h C:Nat}{A:Option Addr} (hs:Ed hv sz lo n (.slice A n C)) (hl:l<=h) (hh:h<=n) (dW:0<sz) (hA:0<n->∃b o,A=some ⟨b,o,none⟩) (hnN:∀A N C,hv=.slice A N C->n<=N):
  Ed hv sz (lo+l) (h-l) (.slice (if C=l then A else A.map (·.add (l*sz))) (h-l) (C-l)):=by
 obtain⟨A0,N0,C0,A1,c1,rfl,he,vL,hQ,jZ,KI⟩:=hs;simp only[Value.slice.injEq,true_and]at he;obtain⟨rfl,rfl⟩:=he;refine⟨A0,N0,C0,_,C-l,rfl,rfl,by omega,by omega,?_,fun h0 hN=>?_⟩
 ·by_cases hC:C=l
  ·rw[if_pos hC];rcases jZ with⟨rfl,_⟩|⟨ad,x,rfl,rfl,hx⟩
   ·exact .inl ⟨rfl,.inr (by omega)⟩
   ·refine .inr ⟨ad,x,rfl,rfl,.inr ⟨by omega,?_⟩⟩;rcases hx with rfl|⟨_,hx⟩
    ·have:lo*sz<=C0*sz:=kC _ (by omega);omega
    ·exact hx
  ·rw[if_neg hC];by_cases hn:n=0
   ·have tW:l=0:=by omega
    subst tW;have:(A.map fun x=>x.add (0*sz))=A:=by
     cases A<;>simp[Addr.add]
    rw[this];rcases jZ with⟨rfl,hx⟩|⟨ad,x,rfl,rfl,hx⟩
    ·exact .inl ⟨rfl,by simpa using hx⟩
    ·exact .inr ⟨ad,x,rfl,rfl,by simpa using hx⟩
   ·obtain⟨b,of,rfl⟩:=hA (by omega);simp only[s5,Z7];rcases jZ with⟨rfl,hx⟩|⟨ad,x,rfl,e2,hx⟩
    ·refine .inr ⟨⟨b,of,none⟩,of+l*sz,rfl,rfl,.inl ?_⟩;rcases hx with rfl|hx
     ·simp
     ·omega
    ·simp only[aR,Addr.mk.injEq,and_true]at e2;obtain⟨rfl,rfl⟩:=e2;refine .inr ⟨ad,of+l*sz,rfl,rfl,.inl ?_⟩;rcases hx with rfl|⟨hx,_⟩
     ·rw[Nat.add_mul,fK]
     ·omega
 ·have tW:l=0:=by omega
  have anx:lo=0:=by omega
  subst tW;have hnh:n=N0:=by
   have:=hnN _ _ _ rfl;omega
  have AB:h-0=n:=by omega
  have:=KI anx hnh;rw[<-this];have Ga:(if C=0 then A else A.map fun x=>x.add (0*sz))=A:=by
   split
   ·rfl
   ·cases A<;>simp[Addr.add]
  rw[Ga,AB];simp
theorem Zly (h:Rel X U J σ a w ow) {r:Nat}{c:RC} (hc:(σ r).rc=some c) {p:List Nat}{o:Ob}{sz:Nat}{es:List T} (hn:c.t.aM p=some (.l o sz es)) {A:Option Addr}{N C:Nat}
  (hh:fE w c (bL a r) p=some (.slice A N C)):N=es.length:=by
 obtain⟨hv,h1,h2⟩:=xd (w:=w) hc (h.slot r) hn;rw[hh]at h1;cases h1;obtain⟨A',C',he,_⟩:=mO h2;simp only[fq,Value.slice.injEq,and_true]at he;exact he.2.1
theorem Zsb (sH:Rel X U J σ a w ow) {r:Nat}{k:K}{p:List Nat}{z lo n l h:Nat}{A:Option Addr}{C:Nat} (hv:kz σ a w r k p z lo n (.slice A n C)) (hl:l<=h) (hh:h<=n) (hz:0<z) (KQ:n<=C):
  kz σ a w r k p z (lo+l) (h-l) (.slice (if C=l then A else A.map (·.add (l*z))) (h-l) (C-l)):=by
 obtain⟨⟨A0,C0,he,_,hA⟩,vW⟩:=hv;simp only[Value.slice.injEq,true_and]at he;obtain⟨rfl,rfl⟩:=he;refine⟨⟨_,_,rfl,by omega,fun h0=>?_⟩,fun c hc hk=>?_⟩
 ·obtain⟨b,of,rfl⟩:=hA (by omega);rw[if_neg (by omega)];exact⟨b,of+l*z,by simp[Z7]⟩
 ·obtain⟨h1,h2⟩:=vW c hc hk;refine⟨h1,fun o sz es hn A2 N2 C2 lS=>?_⟩;obtain⟨rfl,h3,h4⟩:=h2 o sz es hn A2 N2 C2 lS;have hN:=Zly sH hc hn lS;exact⟨rfl,by omega,YV h4 hl hh hz hA (fun A3 N3 C3 e=>by cases e;omega)⟩
theorem YL {P:Program}{t:TypeId}{lo hi:Option Operand}{x':Operand} (bl:o.op=.slice t x' lo hi none) {v:Value}
  (hv:(Instr.sliceAt t (a.eval x') (lo.map a.eval) (hi.map a.eval) none).run P w=.ok v w):(execOp a.eval o).run P w=.ok (.value v) w:=by
 simp only[execOp,bl];exact jG hv
theorem Ij {x':Option Operand}{df n:Nat} (h:(x'=none/\n=df)\/∃y k,x'=some y/\a.eval y=.int k n):(x'.map a.eval=none/\n=df)\/∃k,x'.map a.eval=some (.int k n):=by
 rcases h with⟨rfl,rfl⟩|⟨y,k,rfl,hy⟩
 ·exact .inl ⟨rfl,rfl⟩
 ·exact .inr ⟨k,by simp[hy]⟩
theorem Xu {t:T}{v:Value} (hr:ay X.ae X.mv w ow (some (.ar J,[])) t [v]) (ht:(∃sz es,t=.l .n sz es)\/∃sz es,t=.l .y sz es):nT X U σ a w ow J e v (LF e t):=by
 rcases ht with⟨sz,es,rfl⟩|⟨sz,es,rfl⟩
 ·exact tw (by rfl) hr
 ·exact⟨rfl,⟨_,_,_,rfl,rfl⟩,hr⟩
theorem Z73 (h:Rel X U J σ a w ow) (hd:eW X o) (he:∀x,bJ e x->¬U x) {sz:Nat}{tk:Bool}{x:aL}{lo hi:Option aL}{x':Operand}{xR mW:Option Operand}{t:TypeId} (hx:x.is X.ae x'=true)
  (iC:Be X.ae lo xR=true) (AA:Be X.ae hi mW=true) (hg:xn X.P t sz=true) (bl:o.op=.slice t x' xR mW none) (aq:(exec e o.dst (.qJ sz tk x lo hi)).run σ=some ((),aj)):Sound X U a w e o aj:=by
 obtain⟨av,aZ,h1,h2⟩:=aW aq;unfold slice at h1;obtain⟨xv,aX,h3,h4⟩:=aW h1;obtain⟨e1,fQ,mq,nH⟩:=uO h hx h3;rw[e1]at h4;clear h1 h3 e1 aX mq nH;cases xv<;>try simp only[Pg.run,reduceCtorEq]at h4
 case x tx=>
  cases tx<;>try simp only[Pg.run,reduceCtorEq]at h4
  rename_i ob qK es;cases ob<;>try simp only[Pg.run,reduceCtorEq]at h4
  obtain⟨hh,iU,h5,h6⟩:=aW h4;obtain⟨e1,R5⟩:=Ii h AA h5;rw[e1]at h6;obtain⟨ll,Ho,h7,h8⟩:=aW h6;obtain⟨e2,rn⟩:=Ii h iC h7;rw[e2]at h8;split at h8
  ·rename_i hc;obtain⟨rfl,dW,xI,AB⟩:=hc;obtain⟨rfl,rfl⟩:=bS h8;simp only[fw]at fQ;obtain⟨A,C,hv,hQ,_⟩:=mO fQ;have eX:a.eval x'=.slice A es.length C:=by simpa using hv
   have hA:0<es.length->∃b of,A=some ⟨b,of,none⟩:=fun h0=>by
    obtain⟨ad,cap,iL,_,dg,_⟩:=oo fQ (by intro e;subst e;simp at h0);rw[hv]at iL;simp only[fq,Value.slice.injEq,and_true]at iL;obtain⟨b,of,spot⟩:=ad;simp only at dg;subst dg;exact⟨b,of,iL.1⟩
   have dY:=Yu (w:=w) (P:=X.P) (A:=A) (N:=es.length) (C:=C) (l:=ll) (h:=hh) hg (Ij rn) (Ij R5) xI AB hQ;refine jH h (YL bl (eX.symm▸dY)) hd he (av:=.x (.l .n qK (sub es ll (hh-ll)))) ?_ h2;have aop:Ed (.slice A es.length C) qK 0 es.length (.slice A es.length C):=⟨A,_,C,A,C,rfl,rfl,hQ,by omega,.inl ⟨rfl,.inl rfl⟩,fun _ _=>rfl⟩
   have u9:=YV aop xI AB dW hA (fun A N C e=>by cases e;omega);rw[db]at u9;rw[hv]at fQ;exact Cj (c:=none) (c':=none) (fun b hb=>⟨hb,rfl⟩) (fun _=>by simp) fQ u9 (by omega) (fun x=>by simp[Ob.own]at x) (fun b hb=>⟨hb,rfl⟩) (fun i _=>by simp[Ob.loc,Ob.own,Loc.push,Tr])
  ·simp[Pg.run]at h8
 case w r k p z xS n=>
  obtain⟨hh,iU,h5,h6⟩:=aW h4;obtain⟨e1,R5⟩:=Ii h AA h5;rw[e1]at h6;obtain⟨ll,Ho,h7,h8⟩:=aW h6;obtain⟨e2,rn⟩:=Ii h iC h7;rw[e2]at h8;split at h8
  ·rename_i hc;obtain⟨rfl,dW,xI,AB⟩:=hc;simp only[fw]at fQ;obtain⟨vW,bD⟩:=fQ;obtain⟨A,C,eX,KQ,hA⟩:=vW.1;have dY:=Yu (w:=w) (P:=X.P) (A:=A) (N:=n) (C:=C) (l:=ll) (h:=hh) hg (Ij rn) (Ij R5) xI AB KQ;have cC:=YL bl (eX.symm▸dY);rw[eX]at vW;have bP:=Zsb h vW xI AB dW KQ;split at h8
   ·have h9:=run_bind (jX true r k p (xS+ll) (hh-ll)) (fun t=>(pure (LF e t):Pg AV)) σ;simp only[Bind.bind]at h9;rw[h9]at h8;obtain⟨⟨t1,σ5⟩,eU,lP⟩:=gG.1 h8;obtain⟨rfl,rfl⟩:=bS lP;obtain⟨ap,nE,hr⟩:=B5 h bP eU;refine E0 nE.rel cC hd he (Xu hr ?_) h2;obtain⟨c,o2,nQ,es,_,_,_,kK⟩:=Et eU;rcases kK with⟨_,rfl,_⟩|⟨_,rfl,_⟩|⟨_,rfl,_⟩
    ·exact .inl ⟨_,_,rfl⟩
    ·exact .inr ⟨_,_,rfl⟩
    ·exact .inl ⟨_,_,rfl⟩
   ·obtain⟨rfl,rfl⟩:=bS h8;exact jH h cC hd he (av:=.w r k p z (xS+ll) (hh-ll)) ⟨bP,bD⟩ h2
  ·simp[Pg.run]at h8
end
theorem PC {t:T} (h:t.scalar=true) (k:Nat):t.bA k=none:=by
 cases t<;>simp[T.scalar]at h<;>rfl
theorem Sh.fG {w' w:World} (hs:Hs w' w) {node:T}{off:Nat}{new:List T} (hle:off+new.length<=node.cells.length) (bC:new≠[]) (ho:(sub node.cells off new.length).all T.scalar=true)
  (hn:new.all T.scalar=true):Sh w' (node.jo (fG node.cells off new)) w node:=by
 have hlen:=uT node.cells off new hle;have gu:=pn node.cells off new hle;have eh:∀(j:Nat) (t:T),new[j]?=some t->t.scalar=true:=fun j t hj=>eJ.1 hn t (cS hj);by_cases lh:∃cs,node=.a cs
 ·obtain⟨cs,rfl⟩:=lh;simp only[T.cells]at hle ho hlen gu;simp only[T.jo,T.cells];constructor
  ·intro b o p bo hl;cases p with
   |nil=>exact hl
   |cons k p=>
    simp only[cE]at hl⊢;rw[gu k]at hl;by_cases hk:off<=k/\k<off+new.length
    ·rw[if_pos hk]at hl;split at hl
     ·rename_i t ht;have jg:=eh _ _ ht;cases p with
      |nil=>
       have anp:k<cs.length:=by omega
       rw[bF anp];simp only;have:∀x:T,cE w x b (o+k) []=some (b,o+k):=fun x=>by cases x<;>rfl
       rw[this];have:∀x:T,cE w' x b (o+k) []=some (b,o+k):=fun x=>by cases x<;>rfl
       rw[this]at hl;exact hl
      |cons k2 p=>cases t<;>simp[T.scalar]at jg<;>simp[cE]at hl
     ·cases hl
    ·rw[if_neg hk]at hl;split at hl
     ·rename_i t ht;exact wZ hs _ _ _ _ _ hl
     ·cases hl
  ·intro A p bo hl;simp[eY]at hl
  ·intro p o' sz bW hp;cases p with
   |nil=>simp[T.aM]at hp
   |cons k p=>
    simp only[T.aM,T.bA]at hp⊢;rw[gu k]at hp;by_cases hk:off<=k/\k<off+new.length
    ·rw[if_pos hk]at hp;obtain⟨t,ht,hp⟩:=gG.1 hp;have jg:=eh _ _ ht;cases p with
     |nil=>simp only[T.aM,aR]at hp;subst hp;simp[T.scalar]at jg
     |cons k2 p=>simp[T.aM,PC jg]at hp
    ·rw[if_neg hk]at hp;exact⟨o',bW,hp,rfl⟩
  ·intro p cA hp;cases p with
   |nil=>exact⟨cs,rfl⟩
   |cons k p=>
    simp only[T.aM,T.bA]at hp⊢;rw[gu k]at hp;by_cases hk:off<=k/\k<off+new.length
    ·rw[if_pos hk]at hp;obtain⟨t,ht,hp⟩:=gG.1 hp;have jg:=eh _ _ ht;cases p with
     |nil=>simp only[T.aM,aR]at hp;subst hp;simp[T.scalar]at jg
     |cons k2 p=>simp[T.aM,PC jg]at hp
    ·rw[if_neg hk]at hp;exact⟨cA,hp⟩
 ·have eu:node.cells=[node]:=by cases node<;>first|rfl|exact absurd ⟨_,rfl⟩ lh
  rw[eu]at hle hlen gu⊢;have qw:new.length=1/\off=0:=by
   have:0<new.length:=BS.2 bC;simp at hle;omega
  obtain⟨tY,rfl⟩:=qw;obtain⟨x,rfl⟩:=s7.1 tY;have hx:node.jo (Wr.fG [node] 0 [x])=x:=by cases node<;>first|rfl|exact absurd ⟨_,rfl⟩ lh
  rw[hx];have jg:=eh 0 x rfl;exact Sh.scalar _ (fun k=>PC jg k) (fun o sz es e=>by subst e;simp[T.scalar]at jg) (fun cs e=>by subst e;simp[T.scalar]at jg)
theorem yY {e:Nat}{c:RC}{k:K}{p:List Nat}{U:Nat->Prop} (he:∀x,bJ e x->¬U x) (hk:(bump e c p).ok k 2=true) (h1:U k.h) (h2:U k.d):False:=by
 unfold bump at hk;split at hk<;>simp only[K.ok,Y8,beq_iff_eq]at hk
 ·exact he e (bJ.self e) (hk.1.2▸h1)
 ·exact he e (bJ.self e) (hk.2▸h2)
theorem Vk {e:Nat}{c:RC}{k:K}{U:Nat->Prop} (he:∀x,bJ e x->¬U x) (hb:c.dh=true) (hk:(bump e c []).ok k 1=true) (h1:U k.h):False:=by
 unfold bump at hk;rw[hb]at hk;simp only[K.ok,Y8,beq_iff_eq]at hk;exact he e (bJ.self e) (hk.2▸h1)
theorem Im (e:Nat) (c:RC) (p:List Nat) (k:K):(bump e c p).ok k 0=c.k.ok k 0:=by
 unfold bump;split<;>rfl
theorem Oi (e:Nat) (c:RC) (p:List Nat) (k:K) (hp:p≠[]):(bump e c p).ok k 1=c.k.ok k 1:=by
 unfold bump;split
 ·exact absurd rfl hp
 ·rfl
section
variable {X:Cx}{U:Nat->Prop}{J J':Nat}{σ aj aX:St}{a a' a2:Act}{w w' w2:World}{ow ap aU:Nat->Ow}{e:Nat}{o:Oper}
theorem Zjy {r:Nat}{c:RC}{p:List Nat}{x:T} (hc:(σ r).rc=some c) (cN:(aj r).rc=some {c with k:=bump e c p,t:=c.t.put p x}) (he:∀x,bJ e x->¬U x) (hv:bL a' r=bL a r)
  (bf:c.rH p=true) (hx:p=[]->∃cs,x=.a cs) (dR:∀b,c.dh=true->p≠[]->bL a r=.pointer (some ⟨b,0,none⟩)->w'.heap[b]?=w.heap[b]?)
  (nA:c.dh=true->∃b,bL a r=.pointer (some ⟨b,0,none⟩)):dn U σ a w aj a' w' r:=by
 rcases ju hc with⟨hb,cs,eG,aV⟩|⟨hb,aV⟩
 ·-- a box
  obtain⟨b,ud⟩:=nA hb;have Tq:∀(k:K) p2,U k.e->U k.h->U k.d->(bump e c p).ok k (j8 true p2)=true->p2=[]\/(p≠[]/\∃i j,p2=[i,j]):=fun k p2 _ h1 h2 hk=>by
   rcases p2 with _|⟨i,_|⟨j,_|⟨l,p2⟩⟩⟩
   ·exact .inl rfl
   ·exact(yY he hk h1 h2).elim
   ·refine .inr ⟨fun e=>?_,i,j,rfl⟩;subst e;exact Vk he hb hk h1
   ·exact(yY he hk h1 h2).elim
  have GU:∀(k:K) p2,U k.e->U k.h->U k.d->(bump e c p).ok k (ic true p2)=true->p≠[]/\∃i,p2=[i]:=fun k p2 _ h1 h2 hk=>by
   rcases p2 with _|⟨i,_|⟨j,p2⟩⟩
   ·exact(yY he hk h1 h2).elim
   ·refine⟨fun e=>?_,i,rfl⟩;subst e;exact Vk he hb hk h1
   ·exact(yY he hk h1 h2).elim
  have path:p≠[]->∃(i j:Nat) (p':List Nat) (ob:Ob) (sz:Nat) (es:List T),p=i::j::p'/\cs[i]?=some (.l ob sz es):=fun hp=>by
   unfold RC.rH at bf;rw[hb,eG]at bf;rcases p with _|⟨i,_|⟨j,p'⟩⟩
   ·exact absurd rfl hp
   ·cases bf
   ·simp only[T.bA]at bf;cases hi:cs[i]? with
    |none=>simp[hi]at bf
    |some t=>
     cases t<;>simp[hi]at bf;exact⟨i,j,p',_,_,_,rfl,hi⟩
  have kids:p≠[]->∃cA,c.t.put p x=.a cA/\∀(i2:Nat) (t':T),cA[i2]?=some t'->(cs[i2]?=some t')\/∃(ob:Ob) (sz:Nat) (es bW:List T),cs[i2]?=some (.l ob sz es)/\t'=.l ob sz bW/\bW.length=es.length:=fun hp=>by
   obtain⟨i,j,p',ob,sz,es,rfl,hi⟩:=path hp;rw[eG];have lT:=(bt.1 hi).1;simp only[T.put,T.bA,hi,T.dP];refine⟨_,rfl,fun i2 t' bG=>?_⟩;by_cases h2:i2=i
   ·subst h2;rw[il lT]at bG;refine .inr ⟨ob,sz,es,?_⟩;cases hj:es[j]? with
    |none=>simp only[hj,aR]at bG;exact⟨es,hi,bG.symm,rfl⟩
    |some tj=>simp only[hj,aR]at bG;exact⟨_,hi,bG.symm,by simp⟩
   ·rw[jQ (Ne.symm h2)]at bG;exact .inl bG
  have P5:p≠[]->∀o,w'.cell? ⟨b,o,none⟩=w.cell? ⟨b,o,none⟩:=fun hp o=>by
   simp only[World.cell?,dR b hb hp ud]
  constructor
  ·intro k p2 bo c2 h0 h1 h2 h3 h4 h5;rw[cN]at h3;cases h3;simp only[hb]at h4;rcases Tq k p2 h0 h1 h2 h4 with rfl|⟨hp,i2,j2,rfl⟩
   ·refine⟨c,hc,?_,?_⟩
    ·rw[hb];have:(bump e c p).ok k 0=true:=h4;rw[Im]at this;exact this
    ·rw[hv,ud]at h5;rw[ud];unfold place at h5⊢;simp only[hb,eG]at h5⊢;have:∀(w:World) (x:T),cE w x b 0 []=some (b,0):=fun w x=>by cases x<;>rfl
     rw[this]at h5⊢;exact h5
   ·refine⟨c,hc,?_,?_⟩
    ·rw[hb];have:(bump e c p).ok k 1=true:=h4;rw[Oi _ _ _ _ hp]at this;exact this
    ·obtain⟨cA,e1,hk⟩:=kids hp;rw[hv,ud]at h5;rw[ud];unfold place at h5⊢;simp only[hb,eG,e1]at h5⊢;rw[eG]at e1;simp only[e1,cE]at h5⊢;split at h5
     ·rename_i t' bG;rcases hk i2 t' bG with h6|⟨ob,sz,es,bW,h6,rfl,h7⟩
      ·rw[h6];cases t'<;>simp only[cE,reduceCtorEq]at h5⊢
       ·exact h5
       ·rw[P5 hp]at h5;exact h5
      ·rw[h6];simp only[cE]at h5⊢;rw[P5 hp]at h5;split at h5
       ·rename_i ad N C t2 iL xG;have hj:=(bt.1 xG).1;rw[iL,bF (by omega)];exact h5
       ·cases h5
     ·cases h5
  ·intro k p2 o' sz bW A N C c2 h0 h1 h2 h3 h4 h5 h6;rw[cN]at h3;cases h3;simp only[hb]at h4;obtain⟨hp,i2,rfl⟩:=GU k p2 h0 h1 h2 h4;obtain⟨cA,e1,hk⟩:=kids hp;simp only[e1,T.aM,T.bA]at h5;obtain⟨t',bG,h5⟩:=gG.1 h5;simp only[aR]at h5;subst h5;have e2:(T.a cs).put p x=.a cA:=by rw[<-eG];exact e1
   have hh:∀ob es,cs[i2]?=some (.l ob sz es)->fE w c (bL a r) [i2]=some (.slice A N C):=fun ob es hi=>by
    rw[hv,ud]at h6;rw[ud];unfold fE place at h6⊢;simp only[hb,BM,wI,cX,if_false,e1,e2,eG,cE,bG,hi]at h6⊢;rw[P5 hp]at h6;exact h6
   have Dg:c.k.ok k (ic c.dh [i2])=true:=by
    rw[hb];have:(bump e c p).ok k 1=true:=h4;rw[Oi _ _ _ _ hp]at this;exact this
   rcases hk i2 _ bG with h7|⟨ob,nQ,es,bQ,h7,h8,h9⟩
   ·exact⟨c,o',bW,hc,Dg,by rw[eG];simp only[T.aM,T.bA,h7,jl],rfl,hh _ _ h7⟩
   ·cases h8;exact⟨c,o',es,hc,Dg,by rw[eG];simp only[T.aM,T.bA,h7,jl],h9.symm,hh _ _ h7⟩
  ·intro k p2 cA c2 h0 h1 h2 h3 h4 h5;rw[cN]at h3;cases h3;simp only[hb]at h4;obtain⟨hp,i2,rfl⟩:=GU k p2 h0 h1 h2 h4;obtain⟨xm,e1,hk⟩:=kids hp;simp only[e1,T.aM,T.bA]at h5;obtain⟨t',bG,h5⟩:=gG.1 h5;simp only[aR]at h5;subst h5;rcases hk i2 _ bG with h7|⟨ob,nQ,es,bQ,h7,h8,h9⟩
   ·refine⟨c,cA,hc,?_,by rw[eG];simp only[T.aM,T.bA,h7,jl]⟩;rw[hb];have:(bump e c p).ok k 1=true:=h4;rw[Oi _ _ _ _ hp]at this;exact this
   ·cases h8
 ·-- a slice
  have hp:∃i p',p=i::p':=by
   unfold RC.rH at bf;rw[hb]at bf;rcases p with _|⟨i,p'⟩
   ·cases bf
   ·exact⟨i,p',rfl⟩
  obtain⟨i,p',rfl⟩:=hp;have Tq:∀(k:K) p2,U k.e->U k.h->U k.d->(bump e c (i::p')).ok k (j8 false p2)=true->∃j,p2=[j]:=fun k p2 _ h1 h2 hk=>by
   rcases p2 with _|⟨j,_|⟨l,p2⟩⟩
   ·exact(yY he hk h1 h2).elim
   ·exact⟨j,rfl⟩
   ·exact(yY he hk h1 h2).elim
  have GU:∀(k:K) p2,U k.e->U k.h->U k.d->(bump e c (i::p')).ok k (ic false p2)=true->p2=[]:=fun k p2 _ h1 h2 hk=>by
   rcases p2 with _|⟨j,p2⟩
   ·rfl
   ·exact(yY he hk h1 h2).elim
  have kids:∀ob sz bW,c.t.put (i::p') x=.l ob sz bW->∃es,c.t=.l ob sz es/\es.length=bW.length:=fun ob sz bW h=>by
   cases eG:c.t<;>rw[eG]at h<;>simp only[T.put,T.bA]at h<;>try cases h
   ·split at h<;>simp[T.dP]at h
   ·split at h
    ·simp only[T.dP,T.l.injEq]at h;obtain⟨rfl,rfl,rfl⟩:=h;exact⟨_,rfl,by simp⟩
    ·cases h;exact⟨_,rfl,rfl⟩
  constructor
  ·intro k p2 bo c2 h0 h1 h2 h3 h4 h5;rw[cN]at h3;cases h3;simp only[hb]at h4;obtain⟨j,rfl⟩:=Tq k p2 h0 h1 h2 h4;refine⟨c,hc,?_,?_⟩
   ·rw[hb];have:(bump e c (i::p')).ok k 0=true:=h4;rw[Im]at this;exact this
   ·rw[hv]at h5;cases iQ:bL a r<;>rw[iQ]at h5<;>simp only[place,hb,reduceCtorEq]at h5⊢;rename_i A N C;generalize mo:c.t.put (i::p') x=tp at h5;cases tp<;>simp only[eY,reduceCtorEq]at h5;cases A<;>simp only[eY,reduceCtorEq]at h5;rename_i ob sz bW ad;obtain⟨es,h6,h7⟩:=kids _ _ _ mo;rw[h6];simp only[eY];split at h5
    ·rename_i t' bG;have hj:=(bt.1 bG).1;rw[bF (by omega)];simp only;have:∀(w:World) (x:T) b o,cE w x b o []=some (b,o):=fun w x b o=>by cases x<;>rfl
     rw[this]at h5⊢;exact h5
    ·cases h5
  ·intro k p2 o' sz bW A N C c2 h0 h1 h2 h3 h4 h5 h6;rw[cN]at h3;cases h3;simp only[hb]at h4;have:=GU k p2 h0 h1 h2 h4;subst this;simp only[T.aM,aR]at h5;obtain⟨es,h7,h8⟩:=kids _ _ _ h5;refine⟨c,o',es,hc,?_,by rw[h7];rfl,h8,?_⟩
   ·rw[hb];have:(bump e c (i::p')).ok k 0=true:=h4;rw[Im]at this;exact this
   ·rw[hv]at h6;simp only[fE,hb,uA,List.isEmpty_nil,gX,if_true]at h6⊢;exact h6
  ·intro k p2 cA c2 h0 h1 h2 h3 h4 h5;rw[cN]at h3;cases h3;simp only[hb]at h4;have:=GU k p2 h0 h1 h2 h4;subst this;simp only[T.aM,aR]at h5;cases eG:c.t<;>rw[eG]at h5<;>simp only[T.put,T.bA,reduceCtorEq]at h5
   ·refine⟨c,_,hc,?_,by rw[eG];rfl⟩;rw[hb];have:(bump e c (i::p')).ok k 0=true:=h4;rw[Im]at this;exact this
   ·split at h5<;>simp[T.dP]at h5
end
section
variable {X:Cx}{U:Nat->Prop}{J J':Nat}{σ aj aX:St}{a a' a2:Act}{w w' w2:World}{ow ap aU:Nat->Ow}{e:Nat}{o:Oper}
def nP (ow:Nat->Ow) (r:Nat) (g:Nat->Option (List Nat)):Nat->Ow:=fun b=>
 match ow b with
 |.own (.ar i) q=>match g i with
  |some pre=>.own (.sl r) (pre++q)
  |none=>.own (.ar i) q
 |o=>o
theorem YU {r:Nat}{g:Nat->Option (List Nat)}{b:Nat} (hb:ow b=.z):nP ow r g b=.z:=by simp[nP,hb]
theorem YS {r:Nat}{g:Nat->Option (List Nat)}{b:Nat} (hb:ow b=.no):nP ow r g b=.no:=by simp[nP,hb]
theorem YT {r s:Nat}{g:Nat->Option (List Nat)}{b:Nat}{q:List Nat} (hb:ow b=.own (.sl s) q):nP ow r g b=.own (.sl s) q:=by simp[nP,hb]
theorem Zqg {r i:Nat}{g:Nat->Option (List Nat)}{b:Nat}{pre q:List Nat} (hg:g i=some pre) (hb:ow b=.own (.ar i) q):nP ow r g b=.own (.sl r) (pre++q):=by simp[nP,hb,hg]
theorem Zqf {r i:Nat}{g:Nat->Option (List Nat)}{b:Nat}{q:List Nat} (hb:nP ow r g b=.own (.ar i) q):ow b=.own (.ar i) q:=by
 unfold nP at hb;cases h:ow b with
 |no=>simp[h]at hb
 |z=>simp[h]at hb
 |own r q'=>
  rw[h]at hb;cases r with
  |sl s=>cases hb
  |ar j=>simp only at hb;split at hb<;>first|exact hb|cases hb
  |rs j=>cases hb
theorem Zqh {r:Nat}{g:Nat->Option (List Nat)}{b:Nat} (hb:nP ow r g b≠.no):ow b≠.no:=fun e=>hb (YS e)
theorem Zpk {t:T}{c:Loc}{v:Value} (hs:t.yn=true) (h:ay X.ae X.mv w ow c t [v]):oT v=true:=by
 cases t<;>simp only[T.yn,cX]at hs<;>simp only[ay]at h
 case l o sz es=>obtain⟨_,A,cap,e,_⟩:=h;simp at e;subst e;rfl
 case f=>obtain⟨_,e,_⟩:=h;simp at e;subst e;rfl
 case p=>obtain⟨_,_,_,_,e,_⟩:=h;simp at e;subst e;rfl
 all_goals (simp at h;subst h;rfl)
theorem Znw {t:T}{c:Loc}{v:Value} (hs:t.scalar=true) (h:ay X.ae X.mv w ow c t [v]) (A:Option Addr) (N C:Nat):v≠.slice A N C:=by
 cases t<;>simp only[T.scalar,cX]at hs<;>simp only[ay]at h
 case f=>obtain⟨_,e,_⟩:=h;simp at e;subst e;simp
 all_goals (simp at h;subst h;simp)
theorem Zm1 (h:Rel X U J σ a w ow) {r:Nat}{c:RC} (hc:(σ r).rc=some c) {p:List Nat} (bf:c.rH p=true) (hm:c.t.eO p=true) {node:T} (hn:c.t.aM p=some node) {B O:Nat}
  (hp:place w c (bL a r) p=some (B,O)):Open w ow (.sl r) B:=by
 have hs:=h.slot r;rcases ju hc with⟨hb,cs,eG,aV⟩|⟨hb,aV⟩
 ·rw[aV]at hs;simp only[cK]at hs;obtain⟨b,aG,ty,fr,hv,cW,hh,hf,hr⟩:=hs;rw[hv]at hp;unfold place at hp;simp only[hb,eG]at hp;rw[eG]at hm;exact I5 (ae:=X.ae) (mv:=X.mv) p (.a cs) (q:=[]) (vs:=aG.toList) (by simp only[ay];exact hr) (uI hh) ⟨aG,ty,fr,[],hh,hf,cW⟩ hm hp
 ·rw[aV]at hs;simp only[cK]at hs;obtain⟨⟨ob,sz,es,eG,gN⟩,hr⟩:=hs;rw[eG]at hr hm hn;unfold RC.rH at bf;rw[hb]at bf;cases p with
  |nil=>simp at bf
  |cons i p=>
   simp only[T.aM,T.bA]at hn;obtain⟨t',bG,hn⟩:=gG.1 hn;simp only[T.eO,bG,Y8]at hm;have bC:es≠[]:=by intro e;subst e;simp at bG
   obtain⟨ad,cap,hv,hQ,dg,cW,aG,ty,fr,bE,hh,eA,bP,cg⟩:=oo hr bC;have hl:Ob.loc ob (some (aJ.sl r,([]:List Nat)))=some (.sl r,[]):=by simp[Ob.loc,hm.1]
   rw[hl]at cW cg;obtain⟨v1,dp,dO,gW⟩:=om cg bG;have eX:bL a r=.slice (some ad) es.length cap:=by simpa using hv
   rw[eX]at hp;unfold place at hp;simp only[hb,eG,eY,bG]at hp;rw[gU]at dO;exact I5 (ae:=X.ae) (mv:=X.mv) p t' dO (b:=ad.block) (o:=ad.off+i*sz) (fun j u hj=>by rw[iZ hh,fK];exact bP _ _ (gW j u hj))
    ⟨aG,ty,fr,[],hh,(eA hm.1).1.un,cW⟩ hm.2 hp
theorem Zin {c c':RC}{p:List Nat}{off:Nat}{new:List T} (h:putCells e c p off new=some c'):
  ∃node,c.t.aM p=some node/\c.rH p=true/\c.t.eO p=true/\off+new.length<=node.cells.length/\new≠[]/\new.all T.yn=true/\
   c'={c with k:=if(sub node.cells off new.length).all T.scalar&&new.all T.scalar then c.k else bump e c p,t:=c.t.put p (node.jo (fG node.cells off new))}:=by
 unfold putCells at h;split at h
 ·cases h
 ·rename_i node hn;split at h
  ·rename_i hc;simp only[Y8,decide_eq_true_eq,lC,List.isEmpty_eq_false_iff]at hc;obtain⟨⟨⟨⟨⟨h1,h2⟩,h3⟩,h4⟩,h5⟩,_⟩:=hc;cases h;exact⟨node,hn,h1,h2,h3,h4,h5,rfl⟩
  ·cases h
theorem Zji {cs:List T}{p:List Nat}{x:T} (hx:p=[]->∃cA,x=.a cA):∃cA,(T.a cs).put p x=.a cA:=by
 cases p with
 |nil=>obtain⟨cA,e⟩:=hx rfl;exact⟨cA,e⟩
 |cons k p=>
  simp only[T.put,T.bA,T.dP];split
  ·exact⟨_,rfl⟩
  ·exact⟨_,rfl⟩
theorem Zjj {ob:Ob}{sz:Nat}{es:List T}{k:Nat}{p:List Nat}{x:T}:∃bW,(T.l ob sz es).put (k::p) x=.l ob sz bW:=by
 simp only[T.put,T.bA,T.dP];split
 ·exact⟨_,rfl⟩
 ·exact⟨_,rfl⟩
theorem Zql (h:Rel X U J σ a w ow) {r:Nat}{c:RC} (hc:(σ r).rc=some c) {p:List Nat}{node:T} (hn:c.t.aM p=some node) (bf:c.rH p=true) (hm:c.t.eO p=true) {off:Nat}{j9:List T}{pF:List Value}
  (hle:off+j9.length<=node.cells.length) (bC:j9≠[]) (hlen:pF.length=j9.length) {B O:Nat} (hp:place w c (bL a r) p=some (B,O)) (hu:wG w w' B (O+off) pF)
  (hz:∀b,ow b=.z->ap b=.z/\b≠B) (gN:∀b q',ow b=.own (.sl r) q'->ap b=.own (.sl r) q')
  (eh:∀(j:Nat) x v,j9[j]?=some x->pF[j]?=some v->ay X.ae X.mv w' ap (xl node (.sl r) p (off+j)) x [v]) (k':K):
  ∃av,({c with k:=k',t:=c.t.put p (node.jo (fG node.cells off j9))}:RC).av=av/\av.rc=some {c with k:=k',t:=c.t.put p (node.jo (fG node.cells off j9))}/\
   cK X aX a2 w' ap r av (bL a r)/\(∀b,c.dh=true->p≠[]->bL a r=.pointer (some ⟨b,0,none⟩)->w'.heap[b]?=w.heap[b]?)/\
   (c.dh=true->∃b,bL a r=.pointer (some ⟨b,0,none⟩)):=by
 have hs:=h.slot r;rcases ju hc with⟨hb,cs,eG,aV⟩|⟨hb,aV⟩
 ·rw[aV]at hs;simp only[cK]at hs;obtain⟨b,aG,ty,fr,hv,cW,hh,hf,hr⟩:=hs;rw[hv]at hp⊢;unfold place at hp;simp only[hb,eG]at hp;have oI:=hm;rw[eG]at oI hn;have hx:p=[]->∃cA,node.jo (fG node.cells off j9)=.a cA:=fun e=>by
   subst e;simp only[T.aM,aR]at hn;subst hn;exact⟨_,rfl⟩
  obtain⟨cA,Sb⟩:=Zji (cs:=cs) (p:=p) hx;obtain⟨bE,h1,h2,h3,_,h5⟩:=XP (ae:=X.ae) (mv:=X.mv) hz gN hu hlen bC hle p (.a cs) (q:=[]) (vs:=aG.toList) (by simp only[ay];exact hr) (uI hh) cW (.inr ⟨⟨_,rfl⟩,Nat.le_refl _⟩) oI hn hp
   (fun j x v hx hv=>by simpa using eh j x v hx hv)
  rw[Sb]at h1;simp only[ay]at h1;refine⟨.box k' cA,?_,?_,?_,fun b2 _ fk gQ=>?_,fun _=>⟨b,rfl⟩⟩
  ·obtain⟨ib,kk,t⟩:=c;simp only at hb eG⊢;subst hb eG;rw[Sb];rfl
  ·obtain⟨ib,kk,t⟩:=c;simp only at hb eG⊢;subst hb eG;rw[Sb];rfl
  ·simp only[cK];have dq:ap b=.own (.sl r) []:=gN b [] cW;obtain⟨fy,lf,dW⟩:∃fy,w'.heap[b]?=some (.cells fy ty fr)/\fy.size=aG.size:=by
    by_cases hB:b=B
    ·subst hB;obtain⟨a1,a2,Uv,Qc,h6,h7,h8,h9⟩:=hu.aO;rw[hh]at h6;cases h6;exact⟨a2,h7,h8⟩
    ·exact⟨aG,(hu.other b hB).trans hh,rfl⟩
   refine⟨b,fy,ty,fr,rfl,dq,lf,by unfold wm at*;rw[dW];exact hf,?_⟩;have:fy.toList=bE:=by
    apply uB;intro j;have dy:fy.toList.length=bE.length:=by rw[Y4,h3,Y4,dW]
    by_cases hj:j<bE.length
    ·have:=h2 j bE[j] (bF hj);rw[db,iZ lf]at this;rw[bF hj];simpa using this
    ·rw[pe (by omega),pe (by omega)]
   rw[this];exact h1
  ·simp only[Value.pointer.injEq,aR,Addr.mk.injEq,and_true]at gQ;subst gQ;refine hu.other b fun hB=>?_;unfold RC.rH at bf;rw[hb,eG]at bf;rcases p with _|⟨i,_|⟨j,p'⟩⟩
   ·exact absurd rfl fk
   ·cases bf
   ·simp only[T.bA]at bf;cases hi:cs[i]? with
    |none=>simp[hi]at bf
    |some t=>
     cases t<;>simp[hi]at bf;rename_i ob sz es;simp only[T.eO,hi,Y8]at oI;have GG:=kT hr hi;obtain⟨v,xL,u6⟩:=GG;rw[db,gU]at u6;have ha:At w b (0+i) [v]:=fun j u hj=>by
      cases j with
      |zero=>simp at hj;subst hj;exact uI hh i v xL
      |succ j=>simp at hj
     simp only[cE,hi]at hp;cases hj:es[j]? with
     |none=>simp[hj]at oI
     |some tj=>
      have AJ:es≠[]:=by intro e;subst e;simp at hj
      obtain⟨ad,cap,hv3,_,_,R7,zH,ty2,fr2,ek,lS,_,rD,nC⟩:=oo u6 AJ;have hl:Ob.loc ob (some (aJ.sl r,[]++[i]))=some (.sl r,[]++[i]):=by simp[Ob.loc,oI.1]
      rw[hl]at R7 nC;have aoD:v=.slice (some ad) es.length cap:=by simpa using hv3
      have dR:=(ha.cons).1;rw[dR,aoD]at hp;simp only[hj]at hp;obtain⟨v4,_,KV,hv4⟩:=om nC hj;rw[gU]at KV;rcases EH p' tj KV (b:=ad.block) (o:=ad.off+j*sz) (fun l u hl=>by rw[iZ lS,fK];exact rD _ _ (hv4 l u hl)) hp with h6|h6|⟨r6,q6,q7,h6,h7⟩
      ·rw[hB,h6]at cW;rw[cW]at R7;simp[Loc.ow]at R7
      ·rw[<-hB,cW]at h6;cases h6
      ·cases h6;rw[<-hB,cW]at h7;simp at h7
 ·rw[aV]at hs;simp only[cK]at hs;obtain⟨⟨ob,sz,es,eG,abi⟩,hr⟩:=hs;unfold RC.rH at bf;rw[hb]at bf;cases p with
  |nil=>simp at bf
  |cons i p=>
   have Di:=hp;rw[eG]at hr hm hn;obtain⟨A,cap,hv,_⟩:=mO hr;have eX:bL a r=.slice A es.length cap:=by simpa using hv
   rw[eX]at hp hr⊢;unfold place at hp;simp only[hb,eG]at hp;obtain⟨bW,Sj⟩:=Zjj (ob:=ob) (sz:=sz) (es:=es) (k:=i) (p:=p) (x:=node.jo (fG node.cells off j9));have h1:=Zjh (ae:=X.ae) (mv:=X.mv) hz gN hu hlen bC hle hr hm hn hp eh;rw[Sj]at h1;refine⟨.own k' (.l ob sz bW),?_,?_,⟨⟨_,_,_,rfl,abi⟩,h1⟩,(fun b tT _ _=>by rw[hb]at tT;cases tT),(fun tT=>by rw[hb]at tT;cases tT)⟩
   ·obtain⟨ib,kk,t⟩:=c;simp only at hb eG⊢;subst hb eG;rw[Sj];cases ob with
    |n=>simp[Ob.own]at abi
    |y=>rfl
    |m _=>rfl
   ·obtain⟨ib,kk,t⟩:=c;simp only at hb eG⊢;subst hb eG;rw[Sj];rfl
end
section
variable {X:Cx}{U:Nat->Prop}{J J':Nat}{σ aj aX:St}{a a' a2:Act}{w w' w2:World}{ow ap aU:Nat->Ow}{e:Nat}{o:Oper}
theorem At.get {b o:Nat}{vs:List Value} (h:At w b o vs) {n:Nat} (hn:n<vs.length) {aG:Array Value}{ty:TypeId}{fr:Nat×Nat} (hh:w.heap[b]?=some (.cells aG ty fr)):o+n<aG.size:=by
 have:=h n vs[n] (bF hn);rw[iZ hh]at this;exact(Array.getElem?_eq_some_iff.1 this).1
theorem Z74 (h:Rel X U J σ a w ow) (qt:o.dst=none) (he:∀x,bJ e x->¬U x) {n:Nat}{tk:Bool}{x v:aL}{x' v':Operand}{t:TypeId} (hx:x.is X.ae x'=true) (hv:v.is X.ae v'=true) (hg:nj X.P t n=true)
  (bl:o.op=.store t x' v') (aq:(exec e o.dst (.kQ n tk x v)).run σ=some ((),aj)):Sound X U a w e o aj:=by
 simp only[exec,store]at aq;obtain⟨new,aZ,h1,h2⟩:=aW aq;obtain⟨J1,bB,ix,hJ,nE,cT⟩:=uM h hv h1;split at h2
 ·rename_i hlen;obtain⟨av,aX,h3,h4⟩:=aW h2;obtain⟨e1,hl,kK⟩:=Z8 nE.rel hx h3;rw[e1]at h4;clear h3 e1 aX;rcases kK with⟨r,k,p,off,rfl⟩|⟨t0,off,rfl⟩
  ·simp only at h4;obtain⟨c,iU,h5,h6⟩:=aW h4;obtain⟨e2,hc,hk,u5⟩:=ER h5;rw[e2]at h6;clear h4 h5 e2 iU;cases SR:putCells e c p off new with
   |none=>simp[SR,Pg.run]at h6
   |some c'=>
    simp only[SR]at h6;have Tl:=rZ h6;obtain⟨node,hn,bf,hm,hle,bC,K1,cN⟩:=Zin SR;obtain⟨B,O,vs,fA,de,S0⟩:=Jx (w:=w) hc (nE.rel.slot r) hn u5;have cC:=hl.1.2 c hc hk _ fA;simp only at cC;obtain⟨aG,ty,fr,qB,hh,hf,hB⟩:=Zm1 nE.rel hc bf hm hn fA;have auR:vs.length=node.cells.length:=by
     by_cases lh:∃cs,node=.a cs
     ·obtain⟨cs,rfl⟩:=lh;simp only[ay]at S0;exact ol S0
     ·rw[xc S0 (fun cs e=>lh ⟨cs,e⟩)];cases node<;>first|rfl|exact absurd ⟨_,rfl⟩ lh
    have oL:0<new.length:=BS.2 bC;have dW:O+off+new.length<=aG.size:=by
     have:=de.get (n:=off+new.length-1) (by omega) hh;omega
    have S9:(a.eval v').cells.toList.length=new.length:=cT.len;have gL:(a.eval v').cells.toList.all oT=true:=by
     rw[eJ];intro u hu;obtain⟨j,hj⟩:=gZ.1 hu;have iA:=(bt.1 hj).1;have nG:j<new.length:=by omega
     exact Zpk (eJ.1 K1 _ (pZ nG)) (cT.ay j new[j] u (bF nG) hj)
    obtain⟨fy,w',dY,lf,K3,gu,rA,AD,SO,px⟩:=PB (P:=X.P) (b:=B) (o:=O+off) (ty:=ty) (fr:=fr) (a.eval v').cells.toList 0 w aG hh hf (by rw[S9];omega) gL;have hu:wG w w' B (O+off) (a.eval v').cells.toList:=⟨rA,aG,fy,ty,fr,hh,lf,K3,fun j=>by have:=gu j;simpa using this⟩
    have hex:∀j,j<new.length->∃g:Nat,g=j:=fun j _=>⟨j,rfl⟩
    let pre:Nat->List Nat:=fun j=>match node with|.a _=>p++[off+j]|_=>p
    let g:Nat->Option (List Nat):=fun i=>(List.range new.length).find? (fun j=>ix j==i) |>.map pre
    have hg':∀j,j<new.length->g (ix j)=some (pre j):=fun j hj=>by
     have:(List.range new.length).find? (fun j'=>ix j'==ix j)=some j:=by
      cases hf:(List.range new.length).find? (fun j'=>ix j'==ix j) with
      |none=>
       have:=BR.1 hf j (by simpa using hj);simp at this
      |some j'=>
       have h7:=wM hf;have h8:=wR hf;simp only[mN,beq_iff_eq]at h7 h8;rw[cT.inj j' j h8 hj h7]
     simp only[g,this,s5]
    have j5:∀b,bB b=.z->nP bB r g b=.z/\b≠B:=fun b hb=>⟨YU hb,fun e=>by subst e;rw[hb]at hB;cases hB⟩
    have gN:∀b q',bB b=.own (.sl r) q'->nP bB r g b=.own (.sl r) q':=fun b q' hb=>YT hb;have vX:Zs w bB w' (nP bB r g):=fun b hb=>⟨(j5 b hb).1,rA b (j5 b hb).2⟩
    have eh:∀(j:Nat) x v,new[j]?=some x->(a.eval v').cells.toList[j]?=some v->ay X.ae X.mv w' (nP bB r g) (xl node (.sl r) p (off+j)) x [v]:=fun j x v yU K6=>by
     have hj:=(bt.1 yU).1;have dV:xl node (.sl r) p (off+j)=some (.sl r,pre j):=by
      simp only[pre];cases node<;>rfl
     rw[dV];refine cB vX x (c:=some (.ar (ix j),[])) (fun b q hb=>?_) (cT.ay j x v yU K6);simp only[eC]at hb;refine⟨Zqg (hg' j hj) hb,rA b fun e=>?_⟩;subst e;rw[hb]at hB;cases hB
    obtain⟨r9,iK,jf,rC,amN,nA⟩:=Zql (aX:=aj) (a2:=a) nE.rel hc hn bf hm hle bC S9 fA hu j5 gN eh c'.k;have amF:c'={c with k:=c'.k,t:=c.t.put p (node.jo (fG node.cells off new))}:=by rw[cN]
    have amA:c'.av=r9:=by rw[amF];exact iK
    rw[amA]at Tl;have Lb:aj r=r9:=by rw[Tl];simp[bi]
    have GP:∀s,s≠r->aj s=aZ s:=fun s hs=>by rw[Tl];simp[bi,hs]
    have jx:∀b s q,s≠r->bB b=.own (.sl s) q->w'.heap[b]?=w.heap[b]?:=fun b s q hs hb=>rA b fun e=>by
     subst e;rw[hb]at hB;cases hB;exact hs rfl
    have hkr:dn U aZ a w aj a w' r:=by
     by_cases jg:((sub node.cells off new.length).all T.scalar&&new.all T.scalar)=true
     ·rw[Y8]at jg;have lU:c'.k=c.k:=by rw[cN];simp[jg.1,jg.2]
      have Sx:Hs w' w:=fun b o2 A N C dV=>by
       by_cases hb:b=B
       ·subst hb;rw[iZ lf]at dV;have:=gu o2;rw[dV]at this;by_cases kq:O+off+0<=o2/\o2<O+off+0+(a.eval v').cells.toList.length
        ·rw[if_pos kq]at this;exfalso;have hj:=(bt.1 this.symm).1;have nG:o2-(O+off+0)<new.length:=by omega
         exact Znw (eJ.1 jg.2 _ (pZ nG)) (cT.ay _ _ _ (bF nG) this.symm) A N C rfl
        ·rw[if_neg kq]at this;rw[iZ hh];exact this.symm
       ·simp only[World.cell?,rA b hb]at dV⊢;exact dV
      refine Jt (c:=c) (c':={c with k:=c'.k,t:=c.t.put p (node.jo (fG node.cells off new))}) hc (by rw[Lb];exact jf) rfl lU (Sh.put Sx (Sh.fG Sx hle bC jg.1 jg.2) p c.t hn) Sx rfl
     ·have lU:c'.k=bump e c p:=by rw[cN];simp only[if_neg jg]
      rw[lU]at jf;refine Zjy hc (by rw[Lb];exact jf) he rfl bf (fun e=>?_) amN nA;subst e;simp only[T.aM,aR]at hn;rcases ju hc with⟨hb,cs,eG,_⟩|⟨hb,_⟩
      ·rw[<-hn,eG];exact⟨_,rfl⟩
      ·unfold RC.rH at bf;rw[hb]at bf;cases bf
    have dD:∀s,dn U aZ a w aj a w' s:=fun s=>by
     by_cases hs:s=r
     ·subst hs;exact hkr
     ·exact ph (nE.rel.slot s) (GP s hs) rfl vX (fun b q hb=>jx b s q hs hb)
    have K2:=nE.rel.fh r;have Al:U c.k.e/\U c.k.h/\U c.k.d:=by
     rcases ju hc with⟨_,cs,_,aV⟩|⟨_,aV⟩<;>rw[aV]at K2<;>exact K2
    have aaG:(U c'.k.e\/bJ e c'.k.e)/\(U c'.k.h\/bJ e c'.k.h)/\(U c'.k.d\/bJ e c'.k.d):=by
     rw[cN];simp only;split
     ·exact⟨.inl Al.1,.inl Al.2.1,.inl Al.2.2⟩
     ·unfold bump;split
      ·exact⟨.inl Al.1,.inr (bJ.self e),.inl Al.2.2⟩
      ·exact⟨.inl Al.1,.inl Al.2.1,.inr (bJ.self e)⟩
    have sH:Rel X (fun x=>U x\/bJ e x) J1 aj a w' (nP bB r g):=by
     have R:=nE.rel;refine⟨R.size,R.small,R.defers,fun s=>?_,fun s=>?_,fun b hb=>by rw[AD];exact R.low b (Zqh hb),fun b i q hb=>R.dw b i q (Zqf hb),by rw[AD];exact R.grown,fun b hb hr=>?_,SO.trans R.os,px.trans R.output,R.cO,fun s hs pA=>?_⟩
     ·by_cases hs:s=r
      ·subst hs;rw[Lb];exact rC
      ·rw[GP s hs];exact qg (R.slot s) (R.fh s) vX dD (fun b q hb=>⟨YT hb,jx b s q hs hb⟩)
     ·by_cases hs:s=r
      ·subst hs;rw[Lb];cases r9<;>simp only[AV.rc,reduceCtorEq,aR]at jf
       ·have:=congrArg RC.k jf;simp only at this;simp only[AV.stamps];rw[this];exact aaG
       ·have:=congrArg RC.k jf;simp only at this;simp only[AV.stamps];rw[this];exact aaG
      ·rw[GP s hs];exact AV.yq (fun x hx=>.inl hx) (R.fh s)
     ·obtain⟨h7,h8⟩:=R.same b hb hr;have hbB:b≠B:=fun e=>by
       subst e;rw[h8]at hB;exact hr _ _ hB
      refine⟨(rA b hbB).trans h7,?_⟩;rw[<-h8];cases h9:bB b with
      |no=>exact YS h9
      |z=>exact YU h9
      |own r' q=>rw[h9]at h8;exact absurd h8.symm (hr r' q)
     ·have oN:aZ s≠.u:=by
       by_cases h7:s=r
       ·subst h7;exact(pg hc).1
       ·rw[<-GP s h7];exact pA
      obtain⟨m,h7,h8⟩:=R.pR s hs oN;refine⟨m,?_,h8⟩;rw[GP _ (fun e=>(pg hc).2 m (e▸h7))];exact h7
    intro K Q hK;left;unfold Oper.wp;have pv:(execOp a.eval o).run X.P w=.ok .skip w':=by
     simp only[execOp,bl];show((Instr.storeAt t (a.eval x') (a.eval v'))>>=fun _=>pure Next.skip).run X.P w=_;have:(Instr.storeAt t (a.eval x') (a.eval v')).run X.P w=.ok () w':=by
      rw[cC];show((Instr.sureAddr _)>>=fun a0=>storeVar t a0 (a.eval v')).run X.P w=_;rw[bu (x:=⟨B,O+off,none⟩) (w':=w) rfl];unfold storeVar;rw[bu (qX hg)];have gK:(a.eval v').cells.size=n:=by
       have:=S9;rw[Y4]at this;omega
      rw[if_neg (by rw[gK];simp)];exact dY
     rw[bu this];rfl
    rw[pv,Oper.upon_skip,qt];exact hK _ _ _ _ sH
  ·simp[Pg.run]at h4
 ·simp[Pg.run]at h2
end
section
variable {X:Cx}{U:Nat->Prop}{J J':Nat}{σ aj aX:St}{a a' a2:Act}{w w' w2:World}{ow ap aU:Nat->Ow}{e:Nat}{o:Oper}
def pr (n:Nat) (ix:Nat->Nat) (pre:Nat->List Nat):Nat->Option (List Nat):=fun i=>((List.range n).find? (fun j=>ix j==i)).map pre
theorem Em {n:Nat}{ix:Nat->Nat}{pre:Nat->List Nat} (Gs:∀i j,i<n->j<n->ix i=ix j->i=j) {j:Nat} (hj:j<n):pr n ix pre (ix j)=some (pre j):=by
 have:(List.range n).find? (fun j'=>ix j'==ix j)=some j:=by
  cases hf:(List.range n).find? (fun j'=>ix j'==ix j) with
  |none=>
   have:=BR.1 hf j (by simpa using hj);simp at this
  |some j'=>
   have h7:=wM hf;have h8:=wR hf;simp only[mN,beq_iff_eq]at h7 h8;rw[Gs j' j h8 hj h7]
 simp only[pr,this,s5]
theorem Ze {J1 J0:Nat}{aZ:St}{bB:Nat->Ow}{ts:List T}{vs:List Value}{ix:Nat->Nat} (hg:Gh X U J J1 σ a w ow aZ bB) (ha:mH X w ow J0 J ts vs ix):mH X w bB J0 J ts vs ix:=
 ⟨ha.len,fun j t v ht hv=>cB hg.z t (c:=some (.ar (ix j),[])) (fun b q hb=>⟨hg.dw b _ _ (ha.pq j (bt.1 ht).1).2 hb,rfl⟩) (ha.ay j t v ht hv),
  ha.pq,ha.inj⟩
theorem Zh {J0 J1 J2:Nat}{cs new:List T}{vs nv:List Value}{ix y7:Nat->Nat} (h1:mH X w ow J0 J1 cs vs ix) (h2:mH X w ow J1 J2 new nv y7) (hJ:J1<=J2) (hJ0:J0<=J1) {off:Nat} (hle:off+new.length<=cs.length):
  mH X w ow J0 J2 (fG cs off new) (fG vs off nv) (fun j=>if off<=j/\j<off+new.length then y7 (j-off) else ix j):=by
 have dp:=h1.len;have dy:=h2.len;have fg:=uT cs off new hle;refine⟨?_,fun j t v ht hv=>?_,fun j hj=>?_,fun i j hi hj he=>?_⟩
 ·rw[uT _ _ _ (by omega),fg,dp]
 ·rw[pn _ _ _ hle]at ht;rw[pn _ _ _ (by omega),dy]at hv;split at ht
  ·rename_i hj;rw[if_pos hj]at hv;rw[if_pos hj];exact h2.ay _ _ _ ht hv
  ·rename_i hj;rw[if_neg hj]at hv;rw[if_neg hj];exact h1.ay _ _ _ ht hv
 ·split
  ·rename_i fP;have:=h2.pq (j-off) (by omega);exact⟨by omega,this.2⟩
  ·have:=h1.pq j (by omega);exact⟨this.1,by omega⟩
 ·split at he<;>split at he
  ·have:=h2.inj _ _ (by omega) (by omega) he;omega
  ·have h5:=(h2.pq (i-off) (by omega)).1;have h6:=(h1.pq j (by omega)).2;omega
  ·have h5:=(h2.pq (j-off) (by omega)).1;have h6:=(h1.pq i (by omega)).2;omega
  ·exact h1.inj _ _ (by omega) (by omega) he
def Bg (ae:Nat->FuncId) (place:Nat->Option (Nat×Nat)):List (Nat×Nat×aL)->List (Nat×Operand)->Bool
 |[],[]=>true
 |(off,n,x)::ps,(i,y)::qs=>x.is ae y&&place i==some (off,n)&&Bg ae place ps qs
 |_,_=>false
theorem Wa:∀(nv:List Value) (k off:Nat) (cells:Array Value),off+k+nv.length<=cells.size->
  (((nv.zipIdx k).foldl (fun cs (c,j)=>cs.setIfInBounds (off+j) c) cells).toList=fG cells.toList (off+k) nv)
 |[],k,off,cells,h=>by simp[fG]
 |v::nv,k,off,cells,h=>by
  simp only[dH]at h;simp only[List.zipIdx_cons,qP];rw[Wa nv (k+1) off _ (by simp;omega)];apply uB;intro j;rw[pn _ _ _ (by simp;omega),pn _ _ _ (by simp;omega)];simp only[dH,Array.toList_setIfInBounds];by_cases hj:j=off+k
  ·subst hj;rw[if_neg (by omega),if_pos (by omega),il (by simp;omega)];simp
  ·by_cases h2:off+(k+1)<=j/\j<off+(k+1)+nv.length
   ·rw[if_pos h2,if_pos (by omega)];have:j-(off+k)=(j-(off+(k+1)))+1:=by omega
    rw[this];simp
   ·rw[if_neg h2,if_neg (by omega),jQ (by omega)]
theorem OA {tk:Bool}{place:Nat->Option (Nat×Nat)}:∀(ps:List (Nat×Nat×aL)) (qs:List (Nat×Operand)) {J0 J:Nat}{σ aj:St}{ow:Nat->Ow}{cs out:List T}{cells:Array Value}{ix:Nat->Nat},
  Rel X U J σ a w ow->Bg X.ae place ps qs=true->J0<=J->mH X w ow J0 J cs cells.toList ix->(fill tk e ps cs).run σ=some (out,aj)->
  ∃J' ap pC CG,J<=J'/\Gh X U J J' σ a w ow aj ap/\mH X w ap J0 J' out CG.toList pC/\Instr.fill place cells (qs.map fun(i,x)=>(i,a.eval x))=some CG/\out.length=cs.length
 |[],[],J0,J,σ,aj,ow,cs,out,cells,ix,h,hp,hJ,ha,aq=>by
  obtain⟨rfl,rfl⟩:=bS aq;exact⟨J,ow,ix,cells,Nat.le_refl _,Gh.refl h (Nat.le_refl _),ha,rfl,rfl⟩
 |[],_::_,J0,J,σ,aj,ow,cs,out,cells,ix,h,hp,hJ,ha,aq=>by simp[Bg]at hp
 |_::_,[],J0,J,σ,aj,ow,cs,out,cells,ix,h,hp,hJ,ha,aq=>by simp[Bg]at hp
 |(off,n,x)::ps,(i,y)::qs,J0,J,σ,aj,ow,cs,out,cells,ix,h,hp,hJ,ha,aq=>by
  simp only[Bg,Y8,beq_iff_eq]at hp;obtain⟨⟨hx,fA⟩,hp⟩:=hp;simp only[fill]at aq;obtain⟨new,aZ,h1,h2⟩:=aW aq;obtain⟨J1,bB,ix1,C4,eH,xD⟩:=uM h hx h1;split at h2
  ·rename_i hc;obtain⟨KO,hle⟩:=hc;have hlen:=ha.len;rw[Y4]at hlen;have dp:=xD.len;rw[Y4]at dp;have eV:=Zh (Ze eH ha) xD C4 hJ (off:=off) (by omega);have aa0:=Wa (a.eval y).cells.toList 0 off cells (by rw[Y4];omega);rw[pc]at aa0;rw[<-aa0]at eV;obtain⟨J3,xX,ix3,alI,h5,h6,h7,h8,h9⟩:=OA ps qs eH.rel hp (by omega) eV h2;refine⟨J3,xX,ix3,alI,by omega,eH.trans h6 C4,h7,?_,by rw[h9,uT _ _ _ (by omega)]⟩;rw[<-h8];simp only[fc,Instr.fill,fA];rw[if_neg (by simp only[pW,decide_eq_true_eq,not_or];omega)]
   congr 1
   rw[<-Array.foldl_toList,Array.toList_zipIdx]
  ·simp[Pg.run]at h2
theorem It {cs:List T}{vs:List Value} (hc:T.hD cs vs=true):mH X w ow J (J+cs.length) cs vs (fun j=>J+j):=
 ⟨wU cs vs hc,fun j t v ht hv=>by
  obtain⟨h3,h4⟩:=Ee cs vs j hc ht hv;exact ki t v _ h3 (fun e=>by cases e) h4,fun j hj=>⟨by omega,by omega⟩,fun i j _ _ h=>by omega⟩
theorem Zpv (h:Rel X U J' σ a w ow) {vs:Array Value}{ts:List T}{ix:Nat->Nat}{J0:Nat} (hv:(execOp a.eval o).run X.P w=.ok (.value (.agg vs)) w) (hd:eW X o) (he:∀x,bJ e x->¬U x)
  (cT:mH X w ow J0 J' ts vs.toList ix) (aq:(dE o.dst (.st (ts.map .x))).run σ=some ((),aj)):Sound X U a w e o aj:=by
 rw[EV]at aq;simp only[aR,di,true_and]at aq;subst aq;have bD:(AV.st (ts.map Cell.x)).stamps (fun x=>U x\/bJ e x):=fun c hc=>by
  obtain⟨t,_,rfl⟩:=jt.1 hc
  trivial
 cases dB:o.dst with
 |none=>
  have:=tG (av:=.st (ts.map .x)) (v:=.agg vs) (J':=J') h hv (ap:=ow) (pb.rfl h o.dst (Nat.le_refl _)) hd bD (by simp[AV.rc]) he (fun d lR=>by rw[dB]at lR;cases lR);rw[dB]at this;exact this
 |some d=>
  have ht:=EE h d (pr ts.length ix (fun j=>[j]));have hz:Zs w ow w (hY ow d (pr ts.length ix (fun j=>[j]))):=zj;have:=tG (av:=.st (ts.map .x)) (v:=.agg vs) (J':=J') h hv (ap:=hY ow d (pr ts.length ix (fun j=>[j]))) (by rw[dB];exact ht) hd bD (by simp[AV.rc]) he
   (fun d' lR aj a' hr=>by
    rw[dB]at lR;cases lR;refine⟨vs,rfl,td _ 0 vs.toList (by rw[cT.len];simp) fun j c u h1 h2=>?_⟩;rw[iX]at h1;obtain⟨t,ht,rfl⟩:=jm.1 h1;have hj:=(bt.1 ht).1;refine cB hz t (c:=some (.ar (ix j),[])) (c':=some (.sl d,[0+j])) (fun b q hb=>⟨?_,rfl⟩) (cT.ay j t u ht h2);rw[ED (Em cT.inj hj) hb];simp)
  rw[dB]at this;exact this
def wq (P:Program) (t:TypeId) (cs:List T):Bool:=
 match P.info? t with
 |some i=>(match i.zero with|some z=>T.hD cs z.cells.toList|none=>false)
 |none=>false
theorem JD {P:Program}{t:TypeId}{cs:List T} (h:wq P t cs=true):∃z:Value,(zeroValue t).run P w=.ok z w/\T.hD cs z.cells.toList=true:=by
 unfold wq at h;split at h
 ·rename_i i hi;split at h
  ·rename_i z hz;exact⟨z,by simp[zeroValue,typeInfo,program,Bind.bind,Sem.bind,Sem.run,hi,hz,Pure.pure],h⟩
  ·cases h
 ·cases h
def arD (P:Program) (fs:Array Field):Option (List (Nat×Nat)):=fs.toList.mapM fun f=>(P.info? f.type).map fun i=>(f.offset,i.size)
def P1 (P:Program) (ae:Nat->FuncId) (t:TypeId) (zero:List T) (parts:List (Nat×Nat×aL)) (ps:List (Nat×Operand)):Bool:=
 match P.underlying t with
 |some (.struct fs)=>(match arD P fs with
  |some pl=>wq P t zero&&Bg ae (fun i=>pl[i]?) parts ps
  |none=>false)
 |_=>false
theorem Yr {P:Program}:∀(fs:List Field) {pl:List (Nat×Nat)},(fs.mapM fun f=>(P.info? f.type).map fun i=>(f.offset,i.size))=some pl->
  (fs.mapM (m:=Sem) fun f=>do pure (f.offset,<-sizeOf f.type)).run P w=.ok pl w
 |[],pl,h=>by
  simp at h;subst h;rfl
 |f::fs,pl,h=>by
  simp only[List.mapM_cons]at h⊢;cases hi:P.info? f.type with
  |none=>simp[hi]at h
  |some i=>
   simp only[hi,s5,Option.bind_eq_bind,jl]at h;cases hr:fs.mapM (fun f=>(P.info? f.type).map fun i=>(f.offset,i.size)) with
   |none=>simp[hr]at h
   |some pl'=>
    simp only[hr,jl,Option.pure_def,aR]at h;subst h;have hs:nj P f.type i.size=true:=by simp[nj,hi]
    have h1:(do pure (f.offset,<-sizeOf f.type):Sem (Nat×Nat)).run P w=.ok (f.offset,i.size) w:=by
     rw[bu (qX hs)];rfl
    rw[bu h1,bu (Yr fs hr)];rfl
theorem Z6d (h:Rel X U J σ a w ow) (hd:eW X o) (he:∀x,bJ e x->¬U x) {zero:List T}{tk:Bool}{parts:List (Nat×Nat×aL)}{t:TypeId}{ps:Array (Nat×Operand)} (hg:P1 X.P X.ae t zero parts ps.toList=true)
  (bl:o.op=.build t ps) (aq:(exec e o.dst (.jU zero tk parts)).run σ=some ((),aj)):Sound X U a w e o aj:=by
 obtain⟨cs,aZ,h1,h2⟩:=aW aq;unfold P1 at hg;split at hg
 ·rename_i fs hu;split at hg
  ·rename_i pl fA;simp only[Y8]at hg;obtain⟨z,hz,lW⟩:=JD (w:=w) hg.1;have ha:=It (X:=X) (w:=w) (ow:=ow) (J:=J) lW;obtain⟨J',ap,pC,CG,h3,h4,h5,h6,h7⟩:=OA parts ps.toList (h.mono (fun x hx=>hx) (Nat.le_add_right J zero.length)) hg.2 (by omega) ha h1;refine Zpv h4.rel ?_ hd he h5 h2;simp only[execOp,bl];refine jG ?_;unfold Instr.build;rw[bu hz,bu (jF hu)];simp only;have hpm:(fs.mapM (m:=Sem) fun f=>do pure (f.offset,<-sizeOf f.type)).run X.P w=.ok pl.toArray w:=by
    have:=Yr (w:=w) fs.toList fA;rw[Array.mapM_eq_mapM_toList];show(List.toArray <$> (fs.toList.mapM (m:=Sem) fun f=>do pure (f.offset,<-sizeOf f.type))).run X.P w=_;show(Sem.bind _ _).run X.P w=_;exact bu this
   rw[bu hpm];have hfp:(fun x:Nat=>pl.toArray[x]?)=(fun i:Nat=>pl[i]?):=by funext i;simp
   simp only[hfp,Y6];rw[h6];rfl
  ·cases hg
 ·cases hg
end
section
variable {X:Cx}{U:Nat->Prop}{J J':Nat}{σ aj aX:St}{a a' a2:Act}{w w' w2:World}{ow ap aU:Nat->Ow}{e:Nat}{o:Oper}
def World.more (w:World) (x:Obj):World:={w with heap:=w.heap.push x}
theorem zr {x:Obj}{b:Nat} (hb:b<w.heap.size):(World.more w x).heap[b]?=w.heap[b]?:=by
 simp only[World.more,Array.getElem?_push,if_neg (mM hb)]
theorem O3 {x:Obj}:(World.more w x).heap[w.heap.size]?=some x:=by
 show(w.heap.push x)[w.heap.size]?=some x;simp
def oS (ow:Nat->Ow) (d b0:Nat) (g:Nat->Option (List Nat)):Nat->Ow:=fun b=>if b=b0 then .own (.sl d) [] else hY ow d g b
theorem WH {d b:Nat}{g:Nat->Option (List Nat)} (hb:ow b=.no):hY ow d g b=.no:=by simp[hY,hb]
theorem I9 (h:Rel X U J σ a w ow) (d:Nat) (g:Nat->Option (List Nat)) (x:Obj):pb X U J w ow (World.more w x) (oS ow d w.heap.size g) (some d) where
 z:=fun b hb=>by
  have aF:=h.low b (by rw[hb];simp);exact⟨by simp only[oS,if_neg (mM aF)];simp[hY,hb],zr aF⟩
 other:=fun b s q hs hb=>by
  have aF:=h.low b (by rw[hb];simp);simp only[ne_eq,aR]at hs;exact⟨by simp only[oS,if_neg (mM aF),hY,hb,if_neg (Ne.symm hs)],zr aF⟩
 low:=fun b hb=>by
  simp only[World.more,Array.size_push];by_cases h1:b=w.heap.size
  ·omega
  ·simp only[oS,if_neg h1]at hb;have:=h.low b fun e=>hb (WH e);omega
 dw:=fun b i q hb=>by
  by_cases h1:b=w.heap.size
  ·simp[oS,h1]at hb
  ·simp only[oS,if_neg h1]at hb;exact h.dw b i q (WG hb)
 grown:=by simp[World.more]
 no:=fun b aF hb=>⟨by simp only[oS,if_neg (mM aF)];exact WH hb,zr aF⟩
 os:=rfl
 output:=rfl
theorem Z4x (h:Rel X U J σ a w ow) (x:Obj):pb X U J w ow (World.more w x) ow none where
 z:=fun b hb=>⟨hb,zr (h.low b (by rw[hb];simp))⟩
 other:=fun b s q _ hb=>⟨hb,zr (h.low b (by rw[hb];simp))⟩
 low:=fun b hb=>by
  have:=h.low b hb;simp only[World.more,Array.size_push];omega
 dw:=h.dw
 grown:=by simp[World.more]
 no:=fun b aF hb=>⟨hb,zr aF⟩
 os:=rfl
 output:=rfl
theorem JI (h:Rel X U J' σ a w ow) {v:Value}{av:AV}{x:Obj}{g:Nat->Option (List Nat)} (hv:(execOp a.eval o).run X.P w=.ok (.value v) (World.more w x)) (hd:eW X o) (he:∀x,bJ e x->¬U x)
  (bD:av.stamps (fun x=>U x\/bJ e x)) (jf:∀c,av.rc=some c->c.k.e=e)
  (iK:∀d aj a',cK X aj a' (World.more w x) (oS ow d w.heap.size g) d av v) (aq:(dE o.dst av).run σ=some ((),aj)):Sound X U a w e o aj:=by
 rw[EV]at aq;simp only[aR,di,true_and]at aq;subst aq;cases dB:o.dst with
 |none=>
  have:=tG (av:=av) (v:=v) (J':=J') h hv (ap:=ow) (by rw[dB];exact Z4x h x) hd bD jf he (fun d lR=>by rw[dB]at lR;cases lR);rw[dB]at this;exact this
 |some d=>
  have:=tG (av:=av) (v:=v) (J':=J') h hv (ap:=oS ow d w.heap.size g) (by rw[dB];exact I9 h d g x) hd bD jf he (fun d' lR aj a' hr=>by rw[dB]at lR;cases lR;exact iK d aj a');rw[dB]at this;exact this
theorem Zf (h:Rel X U J' σ a w ow) {J0:Nat}{ts:List T}{vs:List Value}{ix:Nat->Nat} (cT:mH X w ow J0 J' ts vs ix) (x:Obj) (d:Nat) (pre:Nat->List Nat) {j:Nat}{t:T}{v:Value} (ht:ts[j]?=some t) (hv:vs[j]?=some v):
  ay X.ae X.mv (World.more w x) (oS ow d w.heap.size (pr ts.length ix pre)) (some (.sl d,pre j)) t [v]:=by
 have hj:=(bt.1 ht).1;refine cB (I9 h d _ x).z t (c:=some (.ar (ix j),[])) (fun b q hb=>?_) (cT.ay j t v ht hv);have aF:=h.low b (by rw[hb];simp);refine⟨?_,zr aF⟩;simp only[oS,if_neg (mM aF)];rw[ED (Em cT.inj hj) hb];simp
theorem Og (h:Rel X U J' σ a w ow) {J0:Nat}{ts:List T}{cells:Array Value}{ix:Nat->Nat}{ty:TypeId} (cT:mH X w ow J0 J' ts cells.toList ix) (d:Nat):
  cK X aX a2 (World.more w (.cells cells ty (0,0))) (oS ow d w.heap.size (pr ts.length ix (fun j=>[j]))) d (.box ⟨e,e,e⟩ ts) (.pointer (some ⟨w.heap.size,0,none⟩)):=by
 refine⟨w.heap.size,cells,ty,(0,0),rfl,by simp[oS],O3,.inl (Nat.le_refl _),pj (by rw[cT.len]) fun j t v ht hv=>?_⟩;have:=Zf h cT (.cells cells ty (0,0)) d (fun j=>[j]) ht hv;simpa[gU]using this
theorem PA {P:Program}{t:TypeId}{v:Value}:(newVar t v).run P w=.ok ⟨w.heap.size,0,none⟩ (World.more w (.cells v.cells t (0,0))):=rfl
theorem Z67 (h:Rel X U J σ a w ow) (hd:eW X o) (he:∀x,bJ e x->¬U x) {cs:List T}{t:TypeId} (hg:wq X.P t cs=true) (bl:o.op=.alloc t)
  (aq:(exec e o.dst (.alloc cs)).run σ=some ((),aj)):Sound X U a w e o aj:=by
 simp only[exec]at aq;obtain⟨z,hz,lW⟩:=JD (w:=w) hg;have ha:=It (X:=X) (w:=w) (ow:=ow) (J:=J) lW;have h':=h.mono (fun x hx=>hx) (Nat.le_add_right J cs.length);refine JI h' (av:=.box ⟨e,e,e⟩ cs) (v:=.pointer (some ⟨w.heap.size,0,none⟩)) (x:=.cells z.cells t (0,0)) (g:=pr cs.length (fun j=>J+j) (fun j=>[j])) ?_ hd he ⟨.inr (bJ.self e),.inr (bJ.self e),.inr (bJ.self e)⟩
  (fun c hc=>by simp only[AV.rc,aR]at hc;subst hc;rfl) (fun d aj a'=>Og h' ha d) aq
 simp only[execOp,bl];refine jG ?_;unfold Instr.alloc;rw[bu hz];simp only;rw[bu PA];rfl
theorem Z6e (h:Rel X U J σ a w ow) (hd:eW X o) (he:∀x,bJ e x->¬U x) {tk:Bool}{x:aL}{x':Operand}{t:TypeId} (hx:x.is X.ae x'=true) (bl:o.op=.box t x')
  (aq:(exec e o.dst (.box tk x)).run σ=some ((),aj)):Sound X U a w e o aj:=by
 obtain⟨cs,aZ,h1,h2⟩:=aW aq;obtain⟨J',ap,ix,hJ,nE,cT⟩:=uM h hx h1;refine JI nE.rel (av:=.box ⟨e,e,e⟩ cs) (v:=.pointer (some ⟨w.heap.size,0,none⟩)) (x:=.cells (a.eval x').cells t (0,0)) (g:=pr cs.length ix (fun j=>[j])) ?_ hd he ⟨.inr (bJ.self e),.inr (bJ.self e),.inr (bJ.self e)⟩
  (fun c hc=>by simp only[AV.rc,aR]at hc;subst hc;rfl) (fun d aj a'=>Og nE.rel cT d) h2
 simp only[execOp,bl];refine jG ?_;unfold Instr.box;rw[bu PA];rfl
theorem Pm (agg:Bool) (sz:Nat):∀(n:Nat) (cs:List T),(rJ agg sz n cs).length=n
 |0,_=>rfl
 |n+1,cs=>by simp[rJ,Pm agg sz n]
theorem X9 {ae:Nat->FuncId}{mv:Nat->Value}{c:Loc}{agg:Bool}{sz:Nat} (dW:0<sz) (h1:agg=false->sz=1):∀(n k:Nat) (ts:List T) (vs:List Value),ts.length=n*sz->vs.length=n*sz->
  (∀(j:Nat) t v,ts[j]?=some t->vs[j]?=some v->ay ae mv w ow (if agg then(c.push (k+j/sz)).push (j%sz) else c.push (k+j)) t [v])->cw ae mv w ow c sz k (rJ agg sz n ts) vs
 |0,k,ts,vs,hl,dy,_=>by
  simp only[rJ,cw];exact iY.1 (by simpa using dy)
 |n+1,k,ts,vs,hl,dy,h=>by
  rw[iW]at hl dy;simp only[rJ,cw];refine⟨vs.take sz,vs.drop sz,(uG _ _).symm,by simp;omega,?_,?_⟩
  ·unfold sf;cases agg with
   |true=>
    simp only[if_true,ay];refine pj (by simp;omega) fun j t v ht hv=>?_;rw[List.getElem?_take]at ht hv;split at ht
    ·rename_i hj;rw[if_pos hj]at hv;have:=h j t v ht hv;simp only[if_true]at this;rw[Nat.div_eq_of_lt hj,Nat.mod_eq_of_lt hj,pc]at this;rw[db];exact this
    ·cases ht
   |false=>
    have:=h1 rfl;subst this;cases ts with
    |nil=>simp at hl
    |cons t ts=>
     cases vs with
     |nil=>simp at dy
     |cons v vs=>
      have:=h 0 t v rfl rfl;simpa using this
  ·refine X9 dW h1 n (k+1) (ts.drop sz) (vs.drop sz) (by simp;omega) (by simp;omega) fun j t v ht hv=>?_;rw[rT]at ht hv;have:=h (sz+j) t v ht hv;cases agg with
   |true=>
    simp only[if_true]at this⊢;have e1:(sz+j)/sz=j/sz+1:=by rw[Nat.add_div_left _ dW]
    have e2:(sz+j)%sz=j%sz:=by rw[Nat.add_mod_left]
    rw[e1,e2]at this;rw[show k+1+j/sz=k+(j/sz+1) by omega];exact this
   |false=>
    have h2:=h1 rfl;subst h2;simp only[cX,if_false]at this⊢;rw[show k+1+j=k+(1+j) by omega];exact this
def Dv (agg:Bool) (sz j:Nat):List Nat:=if agg then[j/sz,j%sz] else[j]
theorem YK (h:Rel X U J' σ a w ow) {J0 n cap sz:Nat}{agg:Bool}{ts:List T}{cells:Array Value}{ix:Nat->Nat}{ty:TypeId}{vs:List Value} (cT:mH X w ow J0 J' ts vs ix) (dW:0<sz) (h1:agg=false->sz=1)
  (hn:ts.length=n*sz) (hQ:n<=cap) (fX:cap*sz<=cells.size) (bP:∀(j:Nat) v,vs[j]?=some v->cells[j]?=some v) (d:Nat):
  cK X aX a2 (World.more w (.cells cells ty (0,0))) (oS ow d w.heap.size (pr ts.length ix (Dv agg sz))) d (.own ⟨e,e,e⟩ (.l .y sz (rJ agg sz n ts))) (.slice (some ⟨w.heap.size,0,none⟩) n cap):=by
 refine⟨⟨_,_,_,rfl,rfl⟩,?_⟩;simp only[ay];refine⟨fun _=>by simp,some ⟨w.heap.size,0,none⟩,cap,by rw[Pm],by rw[Pm];exact hQ,(fun k hk=>by cases hk),fun _=>⟨rfl,by simp[oS,Ob.loc,Ob.own,Loc.ow],cells,ty,(0,0),vs,O3,fun _=>⟨.inl (Nat.le_refl _),by simpa using fX⟩,?_,?_⟩⟩
 ·intro j v hj;rw[db];exact bP j v hj
 ·refine X9 dW h1 n 0 ts vs hn (by rw[cT.len,hn]) fun j t v ht hv=>?_;have:=Zf h cT (.cells cells ty (0,0)) d (Dv agg sz) ht hv;have hl:Ob.loc .y (some (aJ.sl d,([]:List Nat)))=some (.sl d,[]):=rfl;rw[hl];cases agg with
  |true=>simpa[Dv,gU]using this
  |false=>simpa[Dv,gU]using this
theorem UZ:∀(ts mG:List T) (vs bE:List Value),T.hD ts vs=true->T.hD mG bE=true->T.hD (ts++mG) (vs++bE)=true
 |[],mG,[],bE,_,h=>h
 |[],_,_::_,_,h,_=>by simp[T.hD]at h
 |_::_,_,[],_,h,_=>by simp[T.hD]at h
 |t::ts,mG,v::vs,bE,h,h'=>by
  simp only[T.hD,Y8,gf]at h⊢;exact⟨h.1,UZ ts mG vs bE h.2 h'⟩
theorem Od (ts:List T) (vs:List Value) (h:T.hD ts vs=true):∀n,T.hD (List.replicate n ts).flatten (List.replicate n vs).flatten=true
 |0=>rfl
 |n+1=>by
  simp only[List.replicate_succ,pd];exact UZ _ _ _ _ h (Od ts vs h n)
theorem V4 {α:Type} (z:List α) (hz:0<z.length):∀(n i:Nat),(List.replicate n z).flatten[i]?=if i<n*z.length then z[i%z.length]? else none
 |0,i=>by simp
 |n+1,i=>by
  simp only[List.replicate_succ,pd];by_cases hi:i<z.length
  ·rw[nl hi,if_pos (by rw[iW];omega),Nat.mod_eq_of_lt hi]
  ·rw[kD (by omega),V4 z hz n];have:(i-z.length)%z.length=i%z.length:=by
    conv=>rhs;rw[show i=(i-z.length)+z.length by omega]
    rw[Nat.add_mod_right]
   rw[this];by_cases h2:i-z.length<n*z.length
   ·rw[if_pos h2,if_pos (by rw[iW];omega)]
   ·rw[if_neg h2,if_neg (by rw[iW];omega)]
theorem XT {z:Array Value} (hz:0<z.size) (n:Nat):((Array.range (n*z.size)).map fun i=>z[i%z.size]!).toList=(List.replicate n z.toList).flatten:=by
 apply uB;intro i;rw[V4 z.toList (by simpa using hz)];simp only[Y6,iX,Y4,Array.getElem?_toList];by_cases hi:i<n*z.size
 ·rw[if_pos hi];have:i%z.size<z.size:=Nat.mod_lt _ hz;simp[Array.getElem?_range,hi,this]
 ·rw[if_neg hi];simp[hi]
theorem XU (agg:Bool) (z:List T):∀n,rJ agg z.length n (List.replicate n z).flatten=List.replicate n (sf agg z)
 |0=>rfl
 |n+1=>by
  simp only[List.replicate_succ,pd,rJ];rw[List.take_left',List.drop_left',XU agg z n]
  ·rfl
  ·rfl
end
def DI (P:Program) (t:TypeId) (sz:Nat) (agg:Bool) (zero:List T):Bool:=
 match P.underlying t with
 |some (.slice el)=>nj P el sz&&wq P el zero&&decide (0<sz)&&(agg||sz==1)&&zero.length==sz&&(match P.info? el with|some i=>decide (i.bytes<=1024)|none=>false)
 |_=>false
structure agp (P:Program) (t:TypeId) (sz:Nat) (agg:Bool) (zero:List T):Prop where
 out:∃el i,P.underlying t=some (.slice el)/\nj P el sz=true/\wq P el zero=true/\0<sz/\(agg=false->sz=1)/\zero.length=sz/\P.info? el=some i/\i.bytes<=1024
theorem PK {P:Program}{t:TypeId}{sz:Nat}{agg:Bool}{zero:List T} (h:DI P t sz agg zero=true):agp P t sz agg zero:=by
 unfold DI at h;split at h
 ·rename_i el hu;simp only[Y8,decide_eq_true_eq,pW,beq_iff_eq]at h;obtain⟨⟨⟨⟨⟨h1,h2⟩,h3⟩,h4⟩,h5⟩,h6⟩:=h;split at h6
  ·rename_i i hi;simp only[decide_eq_true_eq]at h6;exact⟨el,i,hu,h1,h2,h3,fun ha=>by rcases h4 with h4|h4<;>simp_all,h5,hi,h6⟩
  ·cases h6
 ·cases h
section
variable {X:Cx}{U:Nat->Prop}{J J':Nat}{σ aj aX:St}{a a' a2:Act}{w w' w2:World}{ow ap aU:Nat->Ow}{e:Nat}{o:Oper}
def P4 (P:Program) (ae:Nat->FuncId) (t:TypeId) (sz:Nat) (agg:Bool) (zero:List T) (len:Nat) (parts:List (Nat×Nat×aL)) (ps:List (Nat×Operand)):Bool:=
 DI P t sz agg zero&&decide (len*sz<=16777216)&&Bg ae (fun i=>some (i*sz,sz)) parts ps
theorem Cn {P:Program}{t:TypeId}{c:Array Value}:(newRow t c).run P w=.ok ⟨w.heap.size,0,none⟩ (World.more w (.cells c t (0,0))):=rfl
theorem Z6g (h:Rel X U J σ a w ow) (hd:eW X o) (he:∀x,bJ e x->¬U x) {zero:List T}{tk agg:Bool}{sz len:Nat}{parts:List (Nat×Nat×aL)}{t:TypeId}{ps:Array (Nat×Operand)}
  (hg:P4 X.P X.ae t sz agg zero len parts ps.toList=true) (bl:o.op=.buildSlice t len ps) (aq:(exec e o.dst (.dN sz agg zero len tk parts)).run σ=some ((),aj)):Sound X U a w e o aj:=by
 obtain⟨cs,aZ,h1,h2⟩:=aW aq;simp only[P4,Y8,decide_eq_true_eq]at hg;obtain⟨⟨hs,AF⟩,an5⟩:=hg;obtain⟨el,i,hu,dW,hz,oL,KC,GO,hi,hb⟩:=(PK hs).out;obtain⟨z,sK,lW⟩:=JD (w:=w) hz;have j5:z.cells.size=sz:=by
  have:=wU _ _ lW;rw[Y4]at this;omega
 have eu:=XT (z:=z.cells) (by omega) len;rw[j5]at eu;have ha:=It (X:=X) (w:=w) (ow:=ow) (J:=J) (Od zero z.cells.toList lW len);rw[<-eu]at ha;have gq:(List.replicate len zero).flatten.length=len*sz:=by simp[GO]
 obtain⟨J',ap,pC,CG,h3,h4,h5,h6,h7⟩:=OA parts ps.toList (h.mono (fun x hx=>hx) (Nat.le_add_right J _)) an5 (by omega) ha h1;rw[gq]at h7;have KM:CG.size=len*sz:=by
  have:=h5.len;rw[Y4]at this;omega
 refine JI h4.rel (av:=.own ⟨e,e,e⟩ (.l .y sz (rJ agg sz len cs))) (v:=.slice (some ⟨w.heap.size,0,none⟩) len len) (x:=.cells CG el (0,0)) (g:=pr cs.length pC (Dv agg sz)) ?_ hd he
  ⟨.inr (bJ.self e),.inr (bJ.self e),.inr (bJ.self e)⟩ (fun c hc=>by simp only[AV.rc,aR]at hc;subst hc;rfl)
  (fun d aj a'=>YK h4.rel h5 oL KC h7 (Nat.le_refl _) (by omega) (fun j v hj=>by simpa using hj) d) h2
 simp only[execOp,bl];refine jG ?_;unfold Instr.buildSlice;rw[bu (jF hu)];simp only;rw[bu (qX dW)];have an8:¬(len*sz>2^24):=by
  have:(2:Nat)^24=16777216:=by decide
  omega
 simp only[if_neg an8];by_cases SI:len*sz=0
 ·simp only[SI,if_true];rw[bu (x:=#[]) (w':=w) rfl];rw[SI]at h6;have e0:∀f:Nat->Value,(Array.range 0).map f=#[]:=fun _=>by simp
  rw[e0]at h6;simp only[Y6,e0];rw[h6];simp only;rw[bu Cn];rfl
 simp only[if_neg SI];rw[bu sK,bu (x:=z.cells) (w':=w) rfl];simp only[j5,Y6];rw[h6];simp only;rw[bu Cn];rfl
theorem Zsx {n:Int} (h0:0<=n) (h1:n<4294967296):IntKind.i64.wrap n=n:=by
 unfold IntKind.wrap;have:(2:Int)^IntKind.i64.bits=18446744073709551616:=by decide
 rw[this];have h2:n%18446744073709551616=n:=Int.emod_eq_of_lt h0 (by omega);have h3:(2:Int)^(IntKind.i64.bits-1)=9223372036854775808:=by decide
 simp only[h2,h3,IntKind.signed,pX,decide_eq_true_eq];rw[if_neg (by omega)]
theorem Px {P:Program} (n:Nat):(askRoom n).run P w=.ok () w:=by
 unfold askRoom;split<;>rfl
theorem Z6w (h:Rel X U J σ a w ow) (hd:eW X o) (he:∀x,bJ e x->¬U x) {zero:List T}{agg:Bool}{sz:Nat}{l c:aL}{l' c':Operand}{t:TypeId} (hl:l.is X.ae l'=true) (hc:c.is X.ae c'=true)
  (hg:DI X.P t sz agg zero=true) (bl:o.op=.makeSlice t l' c') (aq:(exec e o.dst (.v7 sz agg zero l c)).run σ=some ((),aj)):Sound X U a w e o aj:=by
 obtain⟨n,aZ,h1,h2⟩:=aW aq;obtain⟨rfl,hn⟩:=O5 h hl h1;obtain⟨m,aX,h3,h4⟩:=aW h2;obtain⟨rfl,hm⟩:=O5 h hc h3;split at h4
 ·rename_i lc;obtain⟨h0,rfl,AF⟩:=lc;have anv:n<4294967296:=by simpa[cQ]using AF
  obtain⟨el,i,hu,dW,hz,oL,KC,GO,hi,hb⟩:=(PK hg).out;obtain⟨z,sK,lW⟩:=JD (w:=w) hz;have j5:z.cells.size=sz:=by
   have:=wU _ _ lW;rw[Y4]at this;omega
  have eu:=XT (z:=z.cells) (by omega) n.toNat;rw[j5]at eu;have ha:=It (X:=X) (w:=w) (ow:=ow) (J:=J) (Od zero z.cells.toList lW n.toNat);rw[<-eu]at ha;have gq:(List.replicate n.toNat zero).flatten.length=n.toNat*sz:=by simp[GO]
  have qy:=XU agg zero n.toNat;rw[GO]at qy;rw[<-qy]at h4;have h':=h.mono (J':=J+(List.replicate n.toNat zero).flatten.length) (fun x hx=>hx) (by omega);refine JI h' (av:=.own ⟨e,e,e⟩ (.l .y sz (rJ agg sz n.toNat (List.replicate n.toNat zero).flatten))) (v:=.slice (some ⟨w.heap.size,0,none⟩) n.toNat n.toNat)
   (x:=.cells ((Array.range (n.toNat*sz)).map fun i=>z.cells[i%sz]!) el (0,0)) (g:=pr _ (fun j=>J+j) (Dv agg sz)) ?_ hd he
   ⟨.inr (bJ.self e),.inr (bJ.self e),.inr (bJ.self e)⟩ (fun c hc=>by simp only[AV.rc,aR]at hc;subst hc;rfl)
   (fun d aj a'=>YK h' ha oL KC gq (Nat.le_refl _) (by simp) (fun j v hj=>by rw[<-Array.getElem?_toList];exact hj) d) h4
  simp only[execOp,bl,hn,hm];refine jG ?_;unfold Instr.makeSlice;rw[bu (jF hu)];simp only;rw[bu (x:=n) (w':=w) rfl,bu (x:=n) (w':=w) rfl];have vU:(typeInfo el).run X.P w=.ok i w:=by simp[typeInfo,program,Bind.bind,Sem.bind,Sem.run,hi,Pure.pure]
  rw[bu vU];simp only[Zsx h0 anv];have dt:(i.bytes:Int)*n<=1024*4294967296:=Int.mul_le_mul (by omega) (by omega) h0 (by omega);have an4:(2:Int)^48=281474976710656:=by decide
  have lc:¬(((decide (n<0)||decide ((i.bytes:Int)*n>2^48))||decide (n<0)||decide (n>n))=true):=by
   rw[an4];simp only[pW,decide_eq_true_eq];omega
  rw[if_neg lc,bu (Px _),bu (qX dW)];split
  ·rename_i h0;rw[bu (x:=#[]) (w':=w) rfl,bu Cn];rw[h0];have key:∀f:Nat->Value,Array.map f (Array.range 0)=#[]:=fun f=>by simp
   simp only[key];rfl
  ·rw[bu sK,bu (x:=z.cells) (w':=w) rfl,j5,bu Cn];rfl
 ·simp[Pg.run]at h4
end
section
variable {ae:Nat->FuncId}{mv cR:Nat->Value}{w w':World}{ow ap:Nat->Ow}
theorem V5:∀{es:List T}{j:Nat}{t:T},mR es=true->es[j]?=some t->t.flat=true
 |[],j,t,_,h=>by simp at h
 |x::es,j,t,hf,h=>by
  simp only[mR,Y8]at hf;cases j with
  |zero=>simp at h;subst h;exact hf.1
  |succ j=>exact V5 hf.2 (by simpa using h)
mutual
theorem V3:∀(t:T) {c:Loc} (c':Loc) {vs:List Value},t.flat=true->ay ae mv w ow c t vs->ay ae cR w' ap c' t vs
 |.i _ _,_,_,_,_,h=>by simpa only[ay]using h
 |.b _,_,_,_,_,h=>by simpa only[ay]using h
 |.s _,_,_,_,_,h=>by simpa only[ay]using h
 |.u,_,_,_,hf,_=>by simp[T.flat]at hf
 |.a cs,c,c',vs,hf,h=>by
  simp only[ay]at h⊢;exact V6 cs c' (by simpa only[T.flat]using hf) h
 |.f _ _,_,_,_,hf,_=>by simp[T.flat]at hf
 |.p _,_,_,_,hf,_=>by simp[T.flat]at hf
 |.l _ _ _,_,_,_,hf,_=>by simp[T.flat]at hf
theorem V6:∀(cs:List T) {c:Loc} (c':Loc) {k:Nat}{vs:List Value},mR cs=true->bZ ae mv w ow c k cs vs->bZ ae cR w' ap c' k cs vs
 |[],_,_,_,_,_,h=>by simpa only[bZ]using h
 |t::ts,c,c',k,vs,hf,h=>by
  simp only[mR,Y8]at hf;simp only[bZ]at h⊢;obtain⟨v,rest,rfl,h1,h2⟩:=h;exact⟨v,rest,rfl,V3 t _ hf.1 h1,V6 ts c' hf.2 h2⟩
end
theorem X2 {c:Loc}{sz:Nat}:∀{es bQ:List T}{k:Nat}{vs ek:List Value},cw ae mv w ow c sz k es vs->cw ae mv w ow c sz (k+es.length) bQ ek->cw ae mv w ow c sz k (es++bQ) (vs++ek)
 |[],bQ,k,vs,ek,h,h2=>by
  simp only[cw]at h;subst h;simpa using h2
 |e::es,bQ,k,vs,ek,h,h2=>by
  simp only[cw,gf]at h⊢;obtain⟨v1,rest,rfl,hl,h1,h3⟩:=h;refine⟨v1,rest++ek,by simp,hl,h1,X2 h3 ?_⟩;rw[show k+1+es.length=k+(e::es).length by simp;omega];exact h2
theorem tC {c c':Loc}{sz:Nat}:∀{es:List T}{k k':Nat}{vs:List Value},cw ae mv w ow c sz k es vs->
  (∀(j:Nat) t v1,es[j]?=some t->ay ae mv w ow (c.push (k+j)) t v1->ay ae cR w' ap (c'.push (k'+j)) t v1)->cw ae cR w' ap c' sz k' es vs
 |[],k,k',vs,h,_=>by simpa only[cw]using h
 |e::es,k,k',vs,h,hm=>by
  simp only[cw]at h⊢;obtain⟨v1,rest,rfl,hl,h1,h2⟩:=h;refine⟨v1,rest,rfl,hl,hm 0 e v1 rfl h1,tC h2 fun j t v ht hr=>?_⟩;have:=hm (j+1) t v (by simpa using ht) (by rw[show k+(j+1)=k+1+j by omega];exact hr);rw[show k'+1+j=k'+(j+1) by omega];exact this
end
section
variable {X:Cx}{U:Nat->Prop}{J J':Nat}{σ aj aX:St}{a a' a2:Act}{w w' w2:World}{ow ap aU:Nat->Ow}{e:Nat}{o:Oper}
theorem PN (h:Rel X U J σ a w ow) {x:aL}{x':Operand} (hx:x.is X.ae x'=true) {t:T} (aq:(nk e x).run σ=some (t,aj)):
  ∃ap,Gh X U J (J+1) σ a w ow aj ap/\ay X.ae X.mv w ap (some (.ar J,[])) t [a.eval x']:=by
 unfold nk at aq;obtain⟨v,aZ,h1,h2⟩:=aW aq;obtain⟨e1,cj⟩:=kn h hx h1;rw[e1]at h2;cases v<;>try simp only[Pg.run,reduceCtorEq]at h2
 case own k t0=>
  split at h2
  ·simp[Pg.run]at h2
  ·rename_i an6;have h3:=run_bind (kill x) (fun _=>(pure t0:Pg T)) σ;simp only[Bind.bind]at h3;rw[h3]at h2;obtain⟨⟨y,aX⟩,h4,h5⟩:=gG.1 h2;obtain⟨rfl,rfl⟩:=bS h5;cases x with
   |k c=>
    have:=Cb h4;simp only at this;subst this;obtain⟨sz,rfl,hv⟩:=cj;rw[hv];exact⟨ow,Gh.refl h (by omega),ki (.l .y sz []) _ _ (by simp[T.isConst]) (fun e=>by cases e) (fun _=>by simp)⟩
   |t s=>
    have:=Cb h4;simp only at this;subst this;obtain⟨dL,cC,aV⟩:=cj;have S4:(wk e s).run σ=some (.own ⟨e,e,e⟩ t,bi σ s .u):=by
     unfold wk;rw[run_bind];simp only[Pg.rd,Pg.run,jl,aV];rfl
    obtain⟨ap,g1,g2,_,_⟩:=JO h S4;rw[cC];exact⟨ap,g1,g2.2.2⟩
 case w r k p z lo n=>
  obtain⟨c,aX,h3,h4⟩:=aW h2;obtain⟨rfl,hc,hk⟩:=Cl h3;cases hn:c.t.aM p with
  |none=>simp[hn,Pg.run]at h4
  |some node=>
   simp only[hn]at h4;cases node<;>try simp only[Pg.run,reduceCtorEq]at h4
   rename_i ob sz es;cases ob<;>try simp only[Pg.run,reduceCtorEq]at h4
   split at h4
   ·exact B5 h cj.1 h4
   ·simp[Pg.run]at h4
def ox (ow:Nat->Ow) (d J J2 n:Nat):Nat->Ow:=fun b=>
 match ow b with
 |.own (.sl s) q=>if s=d then .no else .own (.sl s) q
 |.own (.ar i) q=>if i=J then .own (.sl d) q else if i=J2 then(match q with|j::q=>.own (.sl d) ((n+j)::q)|[]=>.no) else .own (.ar i) q
 |o=>o
theorem Zy {d J J2 n i b:Nat}{q:List Nat} (hb:ox ow d J J2 n b=.own (.ar i) q):ow b=.own (.ar i) q:=by
 unfold ox at hb;cases h:ow b with
 |no=>simp[h]at hb
 |z=>simp[h]at hb
 |own r q'=>
  rw[h]at hb;cases r with
  |sl s=>simp only at hb;split at hb<;>cases hb
  |ar j=>
   simp only at hb;split at hb
   ·cases hb
   ·split at hb
    ·split at hb<;>cases hb
    ·exact hb
  |rs j=>cases hb
theorem Oc {d J1 J2 n:Nat} (h:Rel X U J' σ a w ow) (hz:∀b,ow b=.z->w'.heap[b]?=w.heap[b]?) (hs:∀b s q,ow b=.own (.sl s) q->w'.heap[b]?=w.heap[b]?) (hn:∀b,b<w.heap.size->ow b=.no->w'.heap[b]?=w.heap[b]?)
  (hg:w.heap.size<=w'.heap.size) (ho:w'.os=w.os) (px:w'.output=w.output) (b0:Option Nat) (jd:∀b,b0=some b->w.heap.size<=b/\b<w'.heap.size):
  pb X U J' w ow w' (fun b=>if b0=some b then .own (.sl d) [] else ox ow d J1 J2 n b) (some d):=by
 have bC:∀b,b<w.heap.size->b0≠some b:=fun b hb e=>by have:=(jd b e).1;omega
 refine⟨fun b hb=>?_,fun b s q ua hb=>?_,fun b hb=>?_,fun b i q hb=>?_,hg,fun b aF hb=>?_,ho,px⟩
 ·have aF:=h.low b (by rw[hb];simp);exact⟨by simp only[if_neg (bC b aF)];simp[ox,hb],hz b hb⟩
 ·have aF:=h.low b (by rw[hb];simp);simp only[ne_eq,aR]at ua;exact⟨by simp only[if_neg (bC b aF),ox,hb,if_neg (Ne.symm ua)],hs b s q hb⟩
 ·by_cases h1:b0=some b
  ·exact(jd b h1).2
  ·rw[if_neg h1]at hb;have:=h.low b fun e=>hb (by simp[ox,e]);omega
 ·by_cases h1:b0=some b
  ·rw[if_pos h1]at hb;cases hb
  ·rw[if_neg h1]at hb;exact h.dw b i q (Zy hb)
 ·exact⟨by simp only[if_neg (bC b aF)];simp[ox,hb],hn b aF hb⟩
structure UU (X:Cx) (w:World) (ow:Nat->Ow) (J2 sz:Nat) (v:Value) (es:List T) (vs:List Value):Prop where
 val:∃A C,v=.slice A es.length C/\((∃b o,A=some ⟨b,o,none⟩/\At w b o vs)\/(es=[]/\vs=[]))
 ay:cw X.ae X.mv w ow (some (.ar J2,[])) sz 0 es vs
theorem JM {ae:Nat->FuncId}{mv:Nat->Value}{z8:Nat->Ow}{c:Loc}{o2:Ob}{sz:Nat}{es:List T}{v:Value} (h:ay ae mv w z8 c (.l o2 sz es) [v]):
  ∃A C vs,v=.slice A es.length C/\((∃b o,A=some ⟨b,o,none⟩/\At w b o vs)\/(es=[]/\vs=[]))/\cw ae mv w z8 (o2.loc c) sz 0 es vs:=by
 by_cases bC:es=[]
 ·subst bC;obtain⟨A,C,hv,_⟩:=mO h;exact⟨A,C,[],by simpa using hv,.inr ⟨rfl,rfl⟩,by simp[cw]⟩
 ·obtain⟨ad,cap,hv,_,dg,_,aG,ty,fr,bE,hh,_,bP,cg⟩:=oo h bC;obtain⟨b,of,spot⟩:=ad;simp only at dg hh bP;subst dg;exact⟨_,cap,bE,by simpa using hv,.inl ⟨b,of,rfl,U7 hh of bE bP⟩,cg⟩
end
section
variable {X:Cx}{U:Nat->Prop}{J J':Nat}{σ aj aX:St}{a a' a2:Act}{w w' w2:World}{ow ap aU:Nat->Ow}{e:Nat}{o:Oper}
def CD (P:Program) (c:Call) (sz:Nat) (agg:Bool) (zero:List T):Bool:=
 match c.argTypes[0]?,c.argTypes[1]? with
 |some t,some t2=>DI P t sz agg zero&&(match P.underlying t2 with|some (.slice _)=>true|_=>false)
 |_,_=>false
theorem EU {P:Program}{sz n:Nat}{A:Option Addr}{C:Nat}{vs:List Value} (h:(∃b o,A=some ⟨b,o,none⟩/\At w b o vs)\/(n=0/\vs=[])) (hl:vs.length=n*sz):
  (Builtin.firstCells sz n (.slice A n C)).run P w=.ok vs.toArray w:=by
 rcases h with⟨b,of,rfl,ha⟩|⟨rfl,rfl⟩
 ·have:=JC (P:=P) (w:=w) (n*sz) 0 #[] vs (by simpa using ha) hl;simp only[Builtin.firstCells,loadCells];rw[this];simp
 ·cases A with
  |none=>rfl
  |some ad=>
   simp only[Builtin.firstCells,loadCells,Nat.zero_mul];rfl
theorem Znl {P:Program}{t:TypeId}{cs:List T} (h:wq P t cs=true):∃z:Value,(∀w,(zeroValue t).run P w=.ok z w)/\T.hD cs z.cells.toList=true:=by
 unfold wq at h;split at h
 ·rename_i i hi;split at h
  ·rename_i z hz;exact⟨z,fun w=>by simp[zeroValue,typeInfo,program,Bind.bind,Sem.bind,Sem.run,hi,hz,Pure.pure],h⟩
  ·cases h
 ·cases h
theorem Wj (v8:Nat):∀(r c:Nat),Builtin.growBy v8 r c<=max c (v8+(v8+768)/4)
 |0,c=>by simp[Builtin.growBy];omega
 |r+1,c=>by
  unfold Builtin.growBy;split
  ·omega
  ·have:=Wj v8 r (c+(c+768)/4);omega
theorem Xc (v8 Dt:Nat) (h:Dt<v8):Builtin.nextslicecap v8 Dt<=2*v8+1024:=by
 unfold Builtin.nextslicecap;split
 ·omega
 ·split
  ·omega
  ·have:=Wj v8 4 Dt;omega
theorem PX (z:Array Value) (n:Nat):(Builtin.zeroCells z n).size=n*z.size:=by simp[Builtin.zeroCells]
theorem UY {d sz:Nat}{es bQ:List T}{vs ek:List Value}{b0 of cap:Nat}{aG:Array Value}{ty:TypeId}{fr:Nat×Nat}{LD:Nat->Ow}
  (cg:cw X.ae X.mv w' LD (some (.sl d,[])) sz 0 es vs) (nC:cw X.ae X.mv w' LD (some (.sl d,[])) sz es.length bQ ek) (hb:LD b0=.own (.sl d) []) (hh:w'.heap[b0]?=some (.cells aG ty fr)) (hf:sV sz aG fr)
  (hQ:es.length+bQ.length<=cap) (dW:of+cap*sz<=aG.size) (hv:∀(j:Nat) v,(vs++ek)[j]?=some v->aG[of+j]?=some v):
  cK X aj a' w' LD d (.own ⟨e,e,e⟩ (.l .y sz (es++bQ))) (.slice (some ⟨b0,of,none⟩) (es.length+bQ.length) cap):=by
 refine⟨⟨_,_,_,rfl,rfl⟩,?_⟩;simp only[ay];exact⟨fun _=>by simp,some ⟨b0,of,none⟩,cap,by simp,by simpa using hQ,(fun k hk=>by cases hk),fun _=>⟨rfl,by simpa[Ob.loc,Ob.own,Loc.ow]using hb,aG,ty,fr,vs++ek,hh,fun _=>⟨hf,dW⟩,hv,X2 cg (by rw[db];exact nC)⟩⟩
theorem Zz (h:Rel X U J' σ a w ow) (he:∀x,bJ e x->¬U x) {sz:Nat}{agg:Bool}{zero:List T}{c:Call}{x' y':Operand}{d:Nat} (dB:o.dst=some d) (hd:eW X o) (hg:CD X.P c sz agg zero=true) (bl:o.op=.call c)
  (C9:c.callee=.builtin .append) (kY:c.args=#[x',y']) {J1 J2:Nat} (hJ:J1<J2) {es bQ:List T}{ek:List Value} (hx:ay X.ae X.mv w ow (some (.ar J1,[])) (.l .y sz es) [a.eval x']) (hy:UU X w ow J2 sz (a.eval y') bQ ek)
  (AF:es.length+bQ.length<4294967296) (aq:(gd d (.own ⟨e,e,e⟩ (.l .y sz (es++bQ)))).run σ=some ((),aj)):Sound X U a w e o aj:=by
 rw[uR]at aq;simp only[aR,di,true_and]at aq;subst aq;have hSt:kP σ d (.own ⟨e,e,e⟩ (.l .y sz (es++bQ)))=yf σ o.dst (.own ⟨e,e,e⟩ (.l .y sz (es++bQ))):=by rw[dB];rfl
 rw[hSt];have S3:(AV.own ⟨e,e,e⟩ (.l .y sz (es++bQ))).stamps (fun x=>U x\/bJ e x):=⟨.inr (bJ.self e),.inr (bJ.self e),.inr (bJ.self e)⟩
 have jf:∀c,(AV.own ⟨e,e,e⟩ (.l .y sz (es++bQ))).rc=some c->c.k.e=e:=fun c hc=>by simp only[AV.rc,aR]at hc;subst hc;rfl
 obtain⟨A2,C2,gQ,Ga⟩:=hy.val;unfold CD at hg;cases qz:c.argTypes[0]? with
 |none=>simp[qz]at hg
 |some t=>
  cases iP:c.argTypes[1]? with
  |none=>simp[qz,iP]at hg
  |some t2=>
   simp only[qz,iP,Y8]at hg;obtain⟨el,i,hu,dW,hz,oL,KC,GO,hi,hb⟩:=(PK hg.1).out;obtain⟨J7,pA⟩:∃J7,X.P.underlying t2=some (.slice J7):=by
    have:=hg.2;split at this
    ·rename_i J7 pA;exact⟨J7,pA⟩
    ·cases this
   obtain⟨z,sK,lW⟩:=Znl hz;have jh:=hx;simp only[ay]at jh;obtain⟨_,A,cap,hvx,hQ,_,ei⟩:=jh;have abG:a.eval x'=.slice A es.length cap:=by simpa using hvx
   have Tb:ek.length=bQ.length*sz:=qW hy.ay;have pv:∀(v:Value) (gS:World),(Builtin.append_ c.argTypes o.type #[.slice A es.length cap,.slice A2 bQ.length C2]).run X.P w=.ok v gS->(execOp a.eval o).run X.P w=.ok (.value v) gS:=fun v gS hh=>by
    rw[Jz bl C9,kY];show(do pure (.value (<-Builtin.append_ c.argTypes o.type (#[x',y'].map a.eval))):Sem Next).run X.P w=_;refine jG ?_;have:#[x',y'].map a.eval=#[.slice A es.length cap,.slice A2 bQ.length C2]:=by simp[abG,gQ]
    rw[this];exact hh
   have vU:∀w:World,(typeInfo el).run X.P w=.ok i w:=fun w=>by simp[typeInfo,program,Bind.bind,Sem.bind,Sem.run,hi,Pure.pure]
   have Sm:∀w1:World,w1.heap=w.heap->(Builtin.firstCells sz bQ.length (.slice A2 bQ.length C2)).run X.P w1=.ok ek.toArray w1:=fun w1 lm=>by
    refine EU ?_ Tb;rcases Ga with⟨b,of,h1,h2⟩|⟨h1,h2⟩
    ·exact .inl ⟨b,of,h1,fun j v hj=>by have:=h2 j v hj;simp only[World.cell?,lm]at this⊢;exact this⟩
    ·exact .inr ⟨by simp[h1],h2⟩
   have C5:(#[Value.slice A es.length cap,.slice A2 bQ.length C2]:Array Value)[0]?=some (.slice A es.length cap):=by simp
   have C6:(#[Value.slice A es.length cap,.slice A2 bQ.length C2]:Array Value)[1]?=some (.slice A2 bQ.length C2):=by simp
   have iC:Ob.loc .y (some (aJ.ar J1,([]:List Nat)))=some (.ar J1,[]):=rfl;have tA:Ob.loc .y (some (aJ.sl d,([]:List Nat)))=some (.sl d,[]):=rfl;by_cases KH:es.length+bQ.length<=cap
   ·-- in place
    cases hA:A with
    |none=>
     subst hA;simp only at ei;subst ei;have iL:es=[]:=iY.1 (by omega);have xG:bQ=[]:=iY.1 (by omega);subst iL xG;have rD:ek=[]:=iY.1 (by simpa using Tb);subst rD;refine tG h (pv (.slice none 0 0) w ?_) (by rw[dB];exact Oc (J1:=J1) (J2:=J2) (n:=0) h (fun _ _=>rfl) (fun _ _ _ _=>rfl) (fun _ _ _=>rfl) (Nat.le_refl _) rfl rfl none (fun b hb=>by cases hb)) hd S3 jf he
      (fun d' je aj a' hr=>⟨⟨_,_,_,rfl,rfl⟩,ki (.l .y sz []) _ _ (by simp[T.isConst]) (fun e=>by cases e) (fun _=>by simp)⟩)
     unfold Builtin.append_;rw[qz,iP,C5,C6];simp only;rw[bu (jF hu)];simp only;rw[bu (qX dW)];rw[bu (jF pA),bu (x:=false) (w':=w) rfl];simp only[cX,if_false];rw[bu (x:=([]:List T).length) (w':=w) rfl];simp only[uA,if_true];rw[if_pos (by simp),bu (Sm w rfl)];rfl
    |some ad=>
     subst hA;obtain⟨dg,cW,aG,ty,fr,vs,hh,eA,bP,cg⟩:=ei (.inl rfl);rw[iC]at cW cg;simp only[Loc.ow]at cW;obtain⟨hf,mw⟩:=eA rfl;obtain⟨b,of,spot⟩:=ad;simp only at dg cW hh bP mw;subst dg;have dC:=qW cg;have gL:ek.all oT=true:=Jv hy.ay;have hmul:(es.length+bQ.length)*sz<=cap*sz:=kC _ KH;rw[Nat.add_mul]at hmul;obtain⟨fy,w',dY,lf,K3,gu,rA,AD,SO,px⟩:=PB (P:=X.P) (b:=b) (o:=of+es.length*sz) (ty:=ty) (fr:=fr) ek 0 w aG hh (sV.un hf) (by omega) gL;have Ao:∀b',ow b'≠.own (.ar J1) []->b'≠b:=fun b' cU e=>cU (e▸cW);have ht:=Oc (d:=d) (J1:=J1) (J2:=J2) (n:=es.length) (w':=w') h (fun b' cU=>rA b' (Ao b' (by rw[cU];simp))) (fun b' s q cU=>rA b' (Ao b' (by rw[cU];simp))) (fun b' _ cU=>rA b' (Ao b' (by rw[cU];simp)))
      (by rw[AD];exact Nat.le_refl _) SO px none (fun b hb=>by cases hb)
     simp only[reduceCtorEq,if_false]at ht;refine tG h (pv (.slice (some ⟨b,of,none⟩) (es.length+bQ.length) cap) w' ?_) (by rw[dB];exact ht) hd S3 jf he (fun d' je aj a' hr=>?_)
     ·unfold Builtin.append_;rw[qz,iP,C5,C6];simp only;rw[bu (jF hu)];simp only;rw[bu (qX dW)];rw[bu (jF pA),bu (x:=false) (w':=w) rfl];simp only[cX,if_false];rw[bu (x:=bQ.length) (w':=w) rfl];simp only[uA,if_true,if_pos KH];rw[bu (Sm w rfl)];simp only[Z7];rw[bu (by simpa using dY)];rfl
     ·rw[dB]at je;cases je;have an1:ox ow d J1 J2 es.length b=.own (.sl d) []:=by simp[ox,cW]
      refine UY (vs:=vs) (ek:=ek) (tC cg fun j t v1 hj dO=>?_) (tC hy.ay fun j t v1 hj dO=>?_) an1 lf (by unfold sV;rw[K3];exact hf) KH (by rw[K3];exact mw) (fun j v hj=>?_)
      ·refine cB ht.z t (c:=some (.ar J1,[]++[0+j])) (c':=some (.sl d,[]++[0+j])) (fun b' q cU=>?_) dO;refine⟨?_,rA b' (Ao b' (by rw[cU];simp))⟩;simp only[ox,cU,if_true]
      ·refine cB ht.z t (c:=some (.ar J2,[]++[0+j])) (c':=some (.sl d,[]++[es.length+j])) (fun b' q cU=>?_) dO;refine⟨?_,rA b' (Ao b' (by rw[cU];simp))⟩;simp only[ox,cU,if_neg (Nat.ne_of_gt hJ),if_true];simp
      ·rw[gu];by_cases fP:j<vs.length
       ·rw[nl fP]at hj;rw[if_neg (by omega)];exact bP j v hj
       ·rw[kD (by omega)]at hj;have hj3:=(bt.1 hj).1;rw[if_pos (by omega)];rw[<-hj];congr 1;omega
   ·-- in a new block
    obtain⟨vs,hold,dC,cg⟩:∃vs:List Value,((∃b o,A=some ⟨b,o,none⟩/\At w b o vs)\/(es.length=0/\vs=[]))/\vs.length=es.length*sz/\cw X.ae X.mv w ow (some (.ar J1,[])) sz 0 es vs:=by
     obtain⟨A',C',vs,h1,h2,h3⟩:=JM hx;rw[iC]at h3;rw[abG]at h1;simp only[Value.slice.injEq,true_and]at h1;obtain⟨rfl,rfl⟩:=h1;exact⟨vs,h2.imp id (fun y=>⟨by rw[y.1];rfl,y.2⟩),qW h3,h3⟩
    have j5:z.cells.size=sz:=by
     have:=wU _ _ lW;rw[Y4]at this;omega
    generalize lm:({w with drawn:=w.drawn+1}:World)=w1;have xM:w1.heap=w.heap:=by rw[<-lm]
    obtain⟨mB,vL,R9⟩:∃mB,es.length+bQ.length<=mB/\(choose (.appendCap (es.length+bQ.length) cap el)).run X.P w=.ok mB w1:=by
     refine⟨(Question.appendCap (es.length+bQ.length) cap el).cut (w.tape w.drawn (.appendCap (es.length+bQ.length) cap el)),?_,?_⟩
     ·simp only[Question.cut];omega
     ·rw[<-lm];simp[choose,Sem.run,Question.forced]
    generalize eu:(vs.toArray++ek.toArray++Builtin.zeroCells z.cells (mB-(es.length+bQ.length)):Array Value)=cells;have Sc:cells.size=mB*sz:=by
     rw[<-eu];simp only[Array.size_append,List.size_toArray,PX,j5,dC,Tb];rw[<-Nat.add_mul,<-Nat.add_mul];have:es.length+bQ.length+(mB-(es.length+bQ.length))=mB:=by omega
     rw[this]
    have iO:(World.more w1 (.cells cells el (0,0))).heap=w.heap.push (.cells cells el (0,0)):=by
     show w1.heap.push _=_;rw[xM]
    have GB:∀b,b<w.heap.size->(World.more w1 (.cells cells el (0,0))).heap[b]?=w.heap[b]?:=fun b hb=>by
     rw[iO,Array.getElem?_push,if_neg (mM hb)]
    have dl:∀b,ow b≠.no->b<w.heap.size:=h.low;have ht:=Oc (d:=d) (J1:=J1) (J2:=J2) (n:=es.length) (w':=World.more w1 (.cells cells el (0,0))) h (fun b' cU=>GB b' (dl b' (by rw[cU];simp))) (fun b' s q cU=>GB b' (dl b' (by rw[cU];simp)))
     (fun b' aF cU=>GB b' aF) (by rw[iO];simp) (by show w1.os=_;rw[<-lm]) (by show w1.output=_;rw[<-lm]) (some w.heap.size) (fun b hb=>by cases hb;rw[iO];simp)
    have amY:(Builtin.append_ c.argTypes o.type #[.slice A es.length cap,.slice A2 bQ.length C2]).run X.P w=.ok (.slice (some ⟨w.heap.size,0,none⟩) (es.length+bQ.length) mB) (World.more w1 (.cells cells el (0,0))):=by
     unfold Builtin.append_;rw[qz,iP,C5,C6];simp only;rw[bu (jF hu)];simp only;rw[bu (qX dW)];rw[bu (jF pA),bu (x:=false) (w':=w) rfl];simp only[cX,if_false];rw[bu (x:=bQ.length) (w':=w) rfl];simp only[uA,if_true,if_neg KH];rw[bu (vU w)];have SE:IntKind.i64.max=9223372036854775807:=by decide
     rw[if_neg (by rw[SE];omega)];rw[bu (vU w)];have hnx:=Xc (es.length+bQ.length) cap (by omega);have vx:Builtin.nextslicecap (es.length+bQ.length) cap*i.bytes<=(2*4294967296+1024)*1024:=Nat.mul_le_mul (by omega) hb;have hp:(2:Nat)^48=281474976710656:=by decide
     rw[if_neg (by rw[hp];omega)];rw[bu R9,bu (vU w1),bu (Px _)];have Ay:(Builtin.firstCells sz es.length (.slice A es.length cap)).run X.P w1=.ok vs.toArray w1:=by
      refine EU ?_ dC;rcases hold with⟨b,of,h1,h2⟩|⟨h1,h2⟩
      ·exact .inl ⟨b,of,h1,fun j v hj=>by have:=h2 j v hj;simp only[World.cell?,xM]at this⊢;exact this⟩
      ·exact .inr ⟨h1,h2⟩
     rw[bu Ay,bu (Sm w1 xM)];rw[bu (sK w1),eu,bu Cn];rw[xM];rfl
    refine tG h (pv _ _ amY) (by rw[dB];exact ht) hd S3 jf he (fun d' je aj a' hr=>?_);rw[dB]at je;cases je;have gN:∀b q,ow b=q->q≠.no->(some w.heap.size≠some b):=fun b q hb hq e=>by
     cases e;have:=dl w.heap.size (by rw[hb];exact hq);omega
    refine UY (vs:=vs) (ek:=ek) (aG:=cells) (ty:=el) (fr:=(0,0)) (tC cg fun j t v1 hj dO=>?_) (tC hy.ay fun j t v1 hj dO=>?_) (by simp) (by rw[iO];simp) (.inl (Nat.le_refl _)) vL (by rw[Sc];omega) (fun j v hj=>?_)
    ·refine cB ht.z t (c:=some (.ar J1,[]++[0+j])) (c':=some (.sl d,[]++[0+j])) (fun b' q cU=>?_) dO;refine⟨?_,GB b' (dl b' (by rw[cU];simp))⟩;show(if some w.heap.size=some b' then Ow.own (aJ.sl d) [] else ox ow d J1 J2 es.length b')=_;rw[if_neg (gN b' _ cU (by simp))];simp only[ox,cU,if_true]
    ·refine cB ht.z t (c:=some (.ar J2,[]++[0+j])) (c':=some (.sl d,[]++[es.length+j])) (fun b' q cU=>?_) dO;refine⟨?_,GB b' (dl b' (by rw[cU];simp))⟩;show(if some w.heap.size=some b' then Ow.own (aJ.sl d) [] else ox ow d J1 J2 es.length b')=_;rw[if_neg (gN b' _ cU (by simp))];simp only[ox,cU,if_neg (Nat.ne_of_gt hJ),if_true];simp
    ·rw[db,<-eu];rw[Array.append_assoc,<-Array.getElem?_toList,Array.toList_append,Array.toList_append,<-gY];rw[nl (by simpa using(bt.1 hj).1)];exact hj
end
section
variable {X:Cx}{U:Nat->Prop}{J J':Nat}{σ aj aX:St}{a a' a2:Act}{w w' w2:World}{ow ap aU:Nat->Ow}{e:Nat}{o:Oper}
theorem Z68 (h:Rel X U J σ a w ow) (hd:eW X o) (he:∀x,bJ e x->¬U x) {sz:Nat}{agg:Bool}{zero:List T}{tk:Bool}{x y:aL}{x' y':Operand}{c:Call} (hx:x.is X.ae x'=true) (hy:y.is X.ae y'=true)
  (hg:CD X.P c sz agg zero=true) (bl:o.op=.call c) (C9:c.callee=.builtin .append) (kY:c.args=#[x',y']) (aq:(exec e o.dst (.dk sz agg zero tk x y)).run σ=some ((),aj)):Sound X U a w e o aj:=by
 simp only[exec]at aq;cases dB:o.dst with
 |none=>simp[dB,Pg.run]at aq
 |some d=>
  simp only[dB,append]at aq;obtain⟨t1,aZ,h1,h2⟩:=aW aq;obtain⟨bB,eH,dO⟩:=PN h hx h1;cases t1<;>try simp only[Pg.run,reduceCtorEq]at h2
  rename_i ob uq es;cases ob<;>try simp only[Pg.run,reduceCtorEq]at h2
  obtain⟨v,aX,h3,h4⟩:=aW h2;obtain⟨e1,cj⟩:=kn eH.rel hy h3;rw[e1]at h4;clear h2 h3 e1 aX;obtain⟨t2,iU,h5,h6⟩:=aW h4;obtain⟨e2,Gx⟩:=Cd eH.rel cj h5;rw[e2]at h6;clear h4 e2;cases t2<;>try simp only[Pg.run,reduceCtorEq]at h6
  rename_i o2 nQ bQ;split at h6
  ·rename_i hc;obtain⟨rfl,rfl,AF⟩:=hc;split at h6
   ·-- flat
    rename_i am1;have hl:=Gx (qi bB) X.mv (Zp _);have cJ:ay X.ae X.mv w (qi bB) none (.l o2 nQ bQ) [a.eval y']:=by
     cases v<;>simp only at hl<;>first|exact hl|skip
     obtain⟨ts,Ho,h7,h8⟩:=aW h5;obtain⟨e3,_⟩:=bS h8;cases e3
    obtain⟨A,C,vs,hv,hA,cg⟩:=JM cJ;refine Zz (J':=J+2) (J1:=J) (J2:=J+1) (eH.rel.mono (fun x hx=>hx) (by omega)) he dB hd hg bl C9 kY (by omega) dO ⟨⟨A,C,hv,hA⟩,?_⟩ (by simpa[cQ]using AF) h6;exact tC cg fun j t v1 ht hr=>V3 t _ (V5 am1 ht) hr
   ·obtain⟨cs,Ho,h7,h8⟩:=aW h6;obtain⟨J2,aU,ix,hJ,fp,cT⟩:=uM eH.rel hy h7;cases cs with
    |nil=>simp[Pg.run]at h8
    |cons c1 cs=>
     cases c1<;>try simp only[Pg.run,reduceCtorEq]at h8
     rename_i o3 Bq iu;cases cs with
     |cons _ _=>simp[Pg.run]at h8
     |nil=>
      simp only at h8;split at h8
      ·rename_i hc;obtain⟨rfl,anw⟩:=hc;have eu:(a.eval y').cells.toList.length=1:=cT.len;have SB:=cT.pq 0 (by simp);have cC:(a.eval y').cells.toList=[a.eval y']\/∃vs:Array Value,a.eval y'=.agg vs:=by
        cases a.eval y'<;>simp[Value.cells]
       have gL:ay X.ae X.mv w aU (some (.ar (ix 0),[])) (.l o3 Bq iu) [a.eval y']:=by
        rcases cC with cC|⟨vs,cC⟩
        ·exact cT.ay 0 _ _ rfl (by rw[cC];rfl)
        ·have hl:=Gx (qi bB) X.mv (Zp _);exfalso;cases v<;>simp only at hl
         case st cA=>
          obtain⟨ts,Ho,h7,h8⟩:=aW h5;obtain⟨e3,_⟩:=bS h8;cases e3
         all_goals
          rw[cC]at hl;have:=xb _ hl;simp[oT]at this
       obtain⟨A,C,vs,hv,hA,cg⟩:=JM gL;have SZ:ay X.ae X.mv w aU (some (.ar J,[])) (.l .y Bq es) [a.eval x']:=
        cB fp.z _ (c:=some (.ar J,[])) (fun b q hb=>⟨fp.dw b J _ (by omega) hb,rfl⟩) dO
       refine Zz (J':=J2) (J1:=J) (J2:=ix 0) fp.rel he dB hd hg bl C9 kY (by omega) SZ ⟨⟨A,C,hv,hA⟩,?_⟩ (by simpa[cQ]using anw) h8;refine tC cg fun j t v1 ht hr=>?_;unfold Ob.loc at hr;split at hr
       ·exact hr
       ·exact cB (fun b hb=>⟨hb,rfl⟩) t (c:=none) trivial hr
      ·simp[Pg.run]at h8
  ·simp[Pg.run]at h6
end
def eZ:Nat->Value:=fun _=>undef
def oZ (ae:Nat->FuncId) (w:World) (ow:Nat->Ow) (i:Nat):Arg->Value->Prop
 |.x t,v=>ay ae eZ w ow none t [v]
 |.bx cs,v=>∃b aG ty fr,v=.pointer (some ⟨b,0,none⟩)/\ow b=.own (.ar i) []/\w.heap[b]?=some (.cells aG ty fr)/\wm aG fr/\bZ ae eZ w ow (some (.ar i,[])) 0 cs aG.toList
 |.own t,v=>ay ae eZ w ow (some (.ar i,[])) t [v]
 |.st cs,v=>∃vs:Array Value,v=.agg vs/\bZ ae eZ w ow none 0 cs vs.toList
 |.fb g,v=>True
 |.os cs,v=>∃vs:Array Value,v=.agg vs/\bZ ae eZ w ow (some (.ar i,[])) 0 cs vs.toList
 |.mu t,v=>(∃sz es,t=.l .y sz es)/\ay ae eZ w ow (some (.ar i,[])) t [v]
 |.ms cs,v=>∃vs:Array Value,v=.agg vs/\bZ ae eZ w ow (some (.ar i,[])) 0 cs vs.toList
def mI (ae:Nat->FuncId) (mv:Nat->Value) (w:World) (ow:Nat->Ow) (r:aJ) (cs:List T) (v:Value):Prop:=
 ∃b aG ty fr,v=.pointer (some ⟨b,0,none⟩)/\ow b=.own r []/\w.heap[b]?=some (.cells aG ty fr)/\wm aG fr/\bZ ae mv w ow (some (r,[])) 0 cs aG.toList
theorem mI.tr {ae:Nat->FuncId}{mv:Nat->Value}{w w':World}{ow ap:Nat->Ow}{r r':aJ}{cs:List T}{v:Value} (hz:Zs w ow w' ap) (ht:Tr w ow w' ap (some (r,[])) (some (r',[]))) (h:mI ae mv w ow r cs v):mI ae mv w' ap r' cs v:=by
 obtain⟨b,aG,ty,fr,e1,e2,e3,e4,e5⟩:=h;obtain⟨h1,h2⟩:=ht b [] e2;exact⟨b,aG,ty,fr,e1,h1,h2▸e3,e4,lG hz cs ht e5⟩
def jP (ae:Nat->FuncId) (w:World) (ow:Nat->Ow) (j:Nat):RV->Value->Prop
 |.one t,v=>ay ae eZ w ow (some (.rs j,[])) t [v]
 |.st cs,v=>∃vs:Array Value,v=.agg vs/\bZ ae eZ w ow (some (.rs j,[])) 0 cs vs.toList
 |.bx cs,v=>mI ae eZ w ow (.rs j) cs v
def nU (ae:Nat->FuncId) (w:World) (ow:Nat->Ow) (rs:List RV) (v:Value):Prop:=
 match rs with
 |[r]=>jP ae w ow 0 r v
 |rs=>∃vs:Array Value,v=.tuple vs/\vs.size=rs.length/\∀j r u,rs[j]?=some r->vs[j]?=some u->jP ae w ow j r u
def jN (ae:Nat->FuncId) (w:World) (ow:Nat->Ow):Nat->List Arg->List Value->List (List T)->Prop
 |i,.bx _::as,v::vs,cs::bs=>oZ ae w ow i (.bx cs) v/\jN ae w ow (i+1) as vs bs
 |i,.mu _::as,v::vs,cs::bs=>(∃t,cs=[t]/\oZ ae w ow i (.mu t) v)/\jN ae w ow (i+1) as vs bs
 |i,.ms _::as,v::vs,cs::bs=>oZ ae w ow i (.ms cs) v/\jN ae w ow (i+1) as vs bs
 |i,.x _::as,_::vs,bs=>jN ae w ow (i+1) as vs bs
 |i,.own _::as,_::vs,bs=>jN ae w ow (i+1) as vs bs
 |i,.os _::as,_::vs,bs=>jN ae w ow (i+1) as vs bs
 |i,.st _::as,_::vs,bs=>jN ae w ow (i+1) as vs bs
 |i,.fb _::as,_::vs,bs=>jN ae w ow (i+1) as vs bs
 |_,[],[],[]=>True
 |_,_,_,_=>False
structure kw (ae:Nat->FuncId) (as:List Arg) (vs:List Value) (out:Out) (w:World) (ow:Nat->Ow) (w':World) (ap:Nat->Ow) (v:Value):Prop where
 z:Zs w ow w' ap
 no:∀b,b<w.heap.size->ow b=.no->ap b=.no/\w'.heap[b]?=w.heap[b]?
 low:∀b,ap b≠.no->b<w'.heap.size
 grown:w.heap.size<=w'.heap.size
 os:w'.os=w.os
 output:w'.output=w.output
 dG:nU ae w' ap out.dG v
 back:jN ae w' ap 0 as vs out.back
 rs:∀b j q,ap b=.own (.rs j) q->j<out.dG.length
def ik (P:Program) (ae:Nat->FuncId) (g:Nat) (F:aB):Prop:=
 ∀(as:List Arg) (vs:List Value) (w:World) (ow:Nat->Ow) (out:Out),F as=some out->vs.length=as.length->
  (∀(i:Nat) x v,as[i]?=some x->vs[i]?=some v->oZ ae w ow i x v)->(∀b,ow b≠.no->b<w.heap.size)->
  (∀b r q,ow b=.own r q->∃i,r=.ar i/\i<as.length)->
  (∀(i:Nat) g,as[i]?=some (.fb g)->∃u,vs[0]?=some u/\vs[i]?=some (.func (.func (ae g)) #[] #[u]))->
  Calls P (ae g) vs.toArray w fun e w'=>match e with
   |.returned v=>∃ap,kw ae as vs out w ow w' ap v
   |.panicked _=>False
   |.outgrown=>False
section
variable {ae:Nat->FuncId}{mv:Nat->Value}{w w':World}{ow ap:Nat->Ow}
mutual
theorem Jw:∀(t:T) {r r':aJ}{p p':List Nat}{vs:List Value},t.closed=true->Tr w ow w' ap (some (r,p)) (some (r',p'))->ay ae mv w ow (some (r,p)) t vs->ay ae mv w' ap (some (r',p')) t vs
 |.i _ _,_,_,_,_,_,_,_,h=>by simpa only[ay]using h
 |.b _,_,_,_,_,_,_,_,h=>by simpa only[ay]using h
 |.s _,_,_,_,_,_,_,_,h=>by simpa only[ay]using h
 |.u,_,_,_,_,_,_,_,h=>by simpa only[ay]using h
 |.a cs,r,r',p,p',vs,hc,ht,h=>by
  simp only[ay]at h⊢;exact w9 cs (by simpa only[T.closed]using hc) ht h
 |.f g [],r,r',p,p',vs,hc,ht,h=>by
  simp only[ay,bZ]at h⊢;exact h
 |.f _ (_::_),_,_,_,_,_,hc,_,_=>by simp[T.closed]at hc
 |.p _,_,_,_,_,_,hc,_,_=>by simp[T.closed]at hc
 |.l (.m _) _ _,_,_,_,_,_,hc,_,_=>by simp[T.closed]at hc
 |.l .n sz (_::_),_,_,_,_,_,hc,_,_=>by simp[T.closed]at hc
 |.l .n sz [],r,r',p,p',vs,hc,ht,h=>by
  simp only[ay]at h⊢;obtain⟨_,A,cap,rfl,h1,h2,h3⟩:=h;refine⟨fun x=>by simp[Ob.own]at x,A,cap,rfl,h1,(fun k hk=>by cases hk),?_⟩;cases A with
  |none=>exact h3
  |some ad=>intro jZ;rcases jZ with x|x<;>simp[Ob.own]at x
 |.l .y sz es,r,r',p,p',vs,hc,ht,h=>by
  simp only[ay]at h⊢;obtain⟨_,A,cap,rfl,h1,h2,h3⟩:=h;refine⟨fun _=>by simp,A,cap,rfl,h1,(fun k hk=>by cases hk),?_⟩;cases A with
  |none=>exact h3
  |some ad=>
   intro _;obtain⟨hs,hb,aG,ty,fr,bE,hh,eA,bP,cg⟩:=h3 (.inl rfl);have hl:∀c:aJ×List Nat,Ob.loc .y (some c)=some c:=fun _=>rfl;rw[hl]at hb cg⊢;obtain⟨h4,h5⟩:=ht ad.block [] (by simpa[Loc.ow]using hb);exact⟨hs,by simpa[Loc.ow]using h4,aG,ty,fr,bE,h5▸hh,eA,bP,X4 es (by simpa only[T.closed]using hc) ht cg⟩
theorem w9:∀(cs:List T) {r r':aJ}{p p':List Nat}{k:Nat}{vs:List Value},cP cs=true->Tr w ow w' ap (some (r,p)) (some (r',p'))->bZ ae mv w ow (some (r,p)) k cs vs->bZ ae mv w' ap (some (r',p')) k cs vs
 |[],_,_,_,_,_,_,_,_,h=>by simpa only[bZ]using h
 |t::ts,r,r',p,p',k,vs,hc,ht,h=>by
  simp only[cP,Y8]at hc;simp only[bZ]at h⊢;obtain⟨v,rest,rfl,h1,h2⟩:=h;exact⟨v,rest,rfl,Jw t hc.1 (ht.push k) h1,w9 ts hc.2 ht h2⟩
theorem X4:∀(es:List T) {r r':aJ}{p p':List Nat}{sz k:Nat}{vs:List Value},cP es=true->Tr w ow w' ap (some (r,p)) (some (r',p'))->cw ae mv w ow (some (r,p)) sz k es vs->cw ae mv w' ap (some (r',p')) sz k es vs
 |[],_,_,_,_,_,_,_,_,_,h=>by simpa only[cw]using h
 |t::ts,r,r',p,p',sz,k,vs,hc,ht,h=>by
  simp only[cP,Y8]at hc;simp only[cw]at h⊢;obtain⟨v,rest,rfl,hl,h1,h2⟩:=h;exact⟨v,rest,rfl,hl,Jw t hc.1 (ht.push k) h1,X4 ts hc.2 ht h2⟩
end
theorem mI.cl {r r':aJ}{cs:List T}{v:Value} (hc:Zs w ow w' ap\/cP cs=true) (ht:Tr w ow w' ap (some (r,[])) (some (r',[]))) (h:mI ae mv w ow r cs v):mI ae mv w' ap r' cs v:=by
 rcases hc with hz|hc
 ·exact h.tr hz ht
 ·obtain⟨b,aG,ty,fr,e1,e2,e3,e4,e5⟩:=h;obtain⟨h1,h2⟩:=ht b [] e2;exact⟨b,aG,ty,fr,e1,h1,h2▸e3,e4,w9 cs hc ht e5⟩
theorem Yc (t:T) {r r':aJ}{p p':List Nat}{vs:List Value} (h:Zs w ow w' ap\/t.closed=true) (ht:Tr w ow w' ap (some (r,p)) (some (r',p'))) (hr:ay ae mv w ow (some (r,p)) t vs):
  ay ae mv w' ap (some (r',p')) t vs:=by
 rcases h with h|h
 ·exact cB h t ht hr
 ·exact Jw t h ht hr
theorem X1 (cs:List T) {r r':aJ}{p p':List Nat}{k:Nat}{vs:List Value} (h:Zs w ow w' ap\/cP cs=true) (ht:Tr w ow w' ap (some (r,p)) (some (r',p'))) (hr:bZ ae mv w ow (some (r,p)) k cs vs):
  bZ ae mv w' ap (some (r',p')) k cs vs:=by
 rcases h with h|h
 ·exact lG h cs ht hr
 ·exact w9 cs h ht hr
end
section
variable {X:Cx}{U:Nat->Prop}{J J':Nat}{σ aj aX:St}{a a' a2:Act}{w w' w2:World}{ow ap aU:Nat->Ow}{e:Nat}{o:Oper}
def qL (X:Cx) (U:Nat->Prop) (σ:St) (a:Act) (w:World) (ow:Nat->Ow) (jn:Nat) (h:Hand) (v:Value):Prop:=
 match h.arg with
 |.x t=>h.box=none/\∀aU,rQ ow h.iI aU->ay X.ae X.mv w aU none t [v]
 |.st cs=>h.box=none/\∀aU,rQ ow h.iI aU->∃vs:Array Value,v=.agg vs/\bZ X.ae X.mv w aU none 0 cs vs.toList
 |.bx cs=>∃r k,h.box=some r/\r<1000/\σ r=.box k cs/\bL a r=v
 |.own t=>h.box=none/\ay X.ae X.mv w ow (some (.ar jn,[])) t [v]
 |.os cs=>h.box=none/\∃vs:Array Value,v=.agg vs/\bZ X.ae X.mv w ow (some (.ar jn,[])) 0 cs vs.toList
 |.mu t=>∃r k,h.box=some r/\r<1000/\σ r=.own k t/\bL a r=v/\∃sz es,t=.l .y sz es
 |.fb g=>h.box=none/\∃r k cs,h.cap=some r/\σ r=.box k cs/\v=.func (.func (X.ae g)) #[] #[bL a r]
 |_=>False
def ra (hs:List Hand) (s:Nat):Option Nat:=hs.findIdx? fun h=>h.box==some s
def gI (ow:Nat->Ow) (hs:List Hand) (jn:Nat->Nat):Nat->Ow:=fun b=>
 match ow b with
 |.z=>.z
 |.no=>.no
 |.own (.rs _) _=>.no
 |.own (.sl s) q=>match ra hs s with
  |some i=>.own (.ar i) q
  |none=>if hs.any (fun h=>h.iI.contains s) then .z else .no
 |.own (.ar j) q=>match(List.range hs.length).find? (fun i=>jn i==j) with
  |some i=>.own (.ar i) q
  |none=>.no
def conv (hs:List Hand) (base:Nat):Ow->Ow
 |.z=>.z
 |.no=>.no
 |.own (.rs j) q=>.own (.ar (base+j)) q
 |.own (.ar i) q=>match(hs[i]?).bind Hand.box with
  |some r=>.own (.sl r) q
  |none=>.no
 |.own (.sl _) _=>.no
def kV (ow:Nat->Ow) (hs:List Hand) (base:Nat) (ap:Nat->Ow):Nat->Ow:=fun b=>
 match ow b with
 |.own (.sl s) q=>match ra hs s with
  |some _=>conv hs base (ap b)
  |none=>.own (.sl s) q
 |_=>conv hs base (ap b)
theorem Of {hs:List Hand}{s i:Nat} (h:ra hs s=some i):∃x,hs[i]?=some x/\x.box=some s:=by
 unfold ra at h;obtain⟨aF,h1,_⟩:=List.findIdx?_eq_some_iff_getElem.1 h;exact⟨hs[i],bF aF,by simpa using h1⟩
theorem Zv {hs:List Hand} (h:apart hs=true) {x y:Hand}{r:Nat} (hx:x∈hs) (hy:y∈hs) (hb:x.box=some r):r∉y.iI:=by
 unfold apart at h;simp only[Y8]at h;have h2:=eJ.1 h.2.1 r (List.mem_filterMap.2 ⟨x,hx,hb⟩);simp only[lC]at h2;intro hr;have:=List.any_eq_false.1 h2 y hy;simp at this;exact this hr
theorem Vq {hs:List Hand}{jn:Nat->Nat} (ha:apart hs=true) {x:Hand} (hx:x∈hs):rQ ow x.iI (gI ow hs jn):=by
 refine⟨fun b hb=>by simp[gI,hb],fun r hr b q hb=>?_⟩;have h1:ra hs r=none:=by
  cases hi:ra hs r with
  |none=>rfl
  |some i=>
   obtain⟨y,hy,AU⟩:=Of hi;exact absurd hr (Zv ha (cS hy) hx AU)
 have h2:hs.any (fun h=>h.iI.contains r)=true:=qN.2 ⟨x,hx,by simpa using hr⟩;simp only[gI,hb,h1,h2,if_true]
theorem Vp {hs:List Hand}{jn:Nat->Nat}{as:List Arg}{vs:List Value}{out:Out}{v:Value} (h:Rel X U J σ a w ow) (hA:kw X.ae as vs out w (gI ow hs jn) w' ap v) {s b:Nat}{q:List Nat}
  (dL:ra hs s=none) (hb:ow b=.own (.sl s) q):w'.heap[b]?=w.heap[b]?/\(ap b=.z\/ap b=.no):=by
 have aF:=h.low b (by rw[hb];simp);by_cases hl:hs.any (fun h=>h.iI.contains s)=true
 ·have:gI ow hs jn b=.z:=by simp only[gI,hb,dL,hl,if_true]
  obtain⟨h1,h2⟩:=hA.z b this;exact⟨h2,.inl h1⟩
 ·have:gI ow hs jn b=.no:=by simp only[gI,hb,dL,hl];simp
  obtain⟨h1,h2⟩:=hA.no b aF this;exact⟨h2,.inr h1⟩
theorem Ef {hs:List Hand}{base b:Nat} (h:∀s q,ow b=.own (.sl s) q->ra hs s≠none):kV ow hs base ap b=conv hs base (ap b):=by
 unfold kV;split
 ·rename_i s q hb;split
  ·rfl
  ·rename_i hi;exact absurd hi (h s q hb)
 ·rfl
theorem Vb {hs:List Hand}{jn:Nat->Nat}{as:List Arg}{vs:List Value}{out:Out}{v:Value} (h:Rel X U J σ a w ow) (hA:kw X.ae as vs out w (gI ow hs jn) w' ap v) {b:Nat}{r:aJ}{q:List Nat}
  (hb:ap b=.own r q):kV ow hs J ap b=conv hs J (.own r q):=by
 rw[Ef,hb];intro s q' dL hn;rcases(Vp h hA hn dL).2 with h1|h1<;>rw[hb]at h1<;>cases h1
theorem Vd {hs:List Hand}{jn:Nat->Nat}{as:List Arg}{vs:List Value}{out:Out}{v:Value} (h:Rel X U J σ a w ow) (hA:kw X.ae as vs out w (gI ow hs jn) w' ap v) (dK:(hs.all fun h=>h.iI.isEmpty)=true):
  Zs w' ap w' (kV ow hs J ap):=fun b hb=>by
 refine⟨?_,rfl⟩;rw[Ef,hb]
 ·rfl
 ·intro s q dL hn;have aF:=h.low b (by rw[dL];simp);have hl:hs.any (fun h=>h.iI.contains s)=false:=by
   rw[List.any_eq_false];intro x hx;have:=eJ.1 dK x hx;simp only[List.isEmpty_iff]at this;simp[this]
  have:gI ow hs jn b=.no:=by simp only[gI,dL,hn,hl];simp
  have:=(hA.no b aF this).1;rw[hb]at this;cases this
theorem R1 {hs:List Hand}{jn:Nat->Nat}{as:List Arg}{vs:List Value}{out:Out}{v:Value} (h:Rel X U J σ a w ow) (hA:kw X.ae as vs out w (gI ow hs jn) w' ap v):Zs w ow w' (kV ow hs J ap):=fun b hb=>by
 have:gI ow hs jn b=.z:=by simp[gI,hb]
 obtain⟨h1,h2⟩:=hA.z b this;refine⟨?_,h2⟩;rw[Ef (fun s q dL=>by rw[hb]at dL;cases dL),h1];rfl
theorem Vc {hs:List Hand}{jn:Nat->Nat}{as:List Arg}{vs:List Value}{out:Out}{v:Value} (h:Rel X U J σ a w ow) (hA:kw X.ae as vs out w (gI ow hs jn) w' ap v) (b:Nat) (aF:b<w.heap.size) (hb:ow b=.no):
  kV ow hs J ap b=.no/\w'.heap[b]?=w.heap[b]?:=by
 have:gI ow hs jn b=.no:=by simp[gI,hb]
 obtain⟨h1,h2⟩:=hA.no b aF this;refine⟨?_,h2⟩;rw[Ef (fun s q dL=>by rw[hb]at dL;cases dL),h1];rfl
end
section
variable {X:Cx}{U:Nat->Prop}{J J':Nat}{σ aj aX:St}{a a' a2:Act}{w w' w2:World}{ow ap aU:Nat->Ow}{e:Nat}{o:Oper}
def Ib (σ:St) (x:Hand) (s:Nat):Prop:=((∃cs,x.arg=.bx cs)/\∃k cs,σ s=.box k cs)\/((∃t,x.arg=.mu t)/\∃k t,σ s=.own k t)
def Hp (ae:Nat->FuncId) (w:World) (ow:Nat->Ow) (σ aj:St) (e i s:Nat) (cs:List T) (v:Value):Prop:=
 (∃k cs0,σ s=.box k cs0/\aj s=.box ⟨k.e,e,e⟩ cs/\oZ ae w ow i (.bx cs) v)\/
 (∃k t0 sz es,σ s=.own k t0/\cs=[.l .y sz es]/\aj s=.own ⟨e,e,e⟩ (.l .y sz es)/\ay ae eZ w ow (some (.ar i,[])) (.l .y sz es) [v])
theorem PP {ae:Nat->FuncId}{w:World}{ow:Nat->Ow}:∀(hs:List Hand) (bs:List (List T)) (vs:List Value) {i:Nat}{σ aj:St},((hs.filterMap Hand.box).Nodup)->(∀x∈hs,x.box=none->(∀cs,x.arg≠.bx cs)/\(∀t,x.arg≠.mu t)/\∀t,x.arg≠.ms t)->
  (∀x∈hs,∀s,x.box=some s->Ib σ x s)->jN ae w ow i (hs.map Hand.arg) vs bs->
  (rM e hs bs).run σ=some ((),aj)->
  (∀s,(∀x∈hs,x.box≠some s)->aj s=σ s)/\
  (∀(j:Nat) x s v,hs[j]?=some x->x.box=some s->vs[j]?=some v->∃cs,cs∈bs/\Hp ae w ow σ aj e (i+j) s cs v)
 |[],bs,vs,i,σ,aj,oJ,rq,hle,hb,aq=>by
  cases bs with
  |nil=>
   obtain⟨_,rfl⟩:=bS aq;exact⟨fun _ _=>rfl,fun j x s v hj=>by simp at hj⟩
  |cons _ _=>simp[rM,Pg.run]at aq
 |h::hs,bs,[],i,σ,aj,oJ,rq,hle,hb,aq=>by
  simp only[fc]at hb;cases hh:h.arg<;>rw[hh]at hb<;>simp only[jN]at hb<;>cases bs<;>simp[jN]at hb
 |h::hs,bs,v0::vs,i,σ,aj,oJ,rq,hle,hb,aq=>by
  simp only[fc]at hb;have hhx:=rq h fe;have aaR:∀x∈hs,x.box=none->(∀cs,x.arg≠.bx cs)/\(∀t,x.arg≠.mu t)/\∀t,x.arg≠.ms t:=fun x hx=>rq x (fJ _ hx);cases nA:h.box with
  |none=>
   obtain⟨anG,anK,anJ⟩:=hhx nA;have cU:jN ae w ow (i+1) (hs.map Hand.arg) vs bs:=by
    cases hh:h.arg<;>rw[hh]at hb
    case bx cs=>exact absurd hh (anG cs)
    case mu t=>exact absurd hh (anK t)
    case ms t=>exact absurd hh (anJ t)
    all_goals first|exact hb|(cases bs<;>exact hb.elim)
   simp only[rM,nA]at aq;have KS:(hs.filterMap Hand.box).Nodup:=by simpa[List.filterMap_cons,nA]using oJ
   obtain⟨h1,h2⟩:=PP hs bs vs KS aaR (fun x hx=>hle x (fJ _ hx)) cU aq;refine⟨fun s fY=>h1 s fun x hx=>fY x (fJ _ hx),fun j x s v hj hx hv=>?_⟩;cases j with
   |zero=>simp at hj;subst hj;rw[nA]at hx;cases hx
   |succ j=>
    obtain⟨cs,h3,h4⟩:=h2 j x s v (by simpa using hj) hx (by simpa using hv);exact⟨cs,h3,by rw[show i+(j+1)=i+1+j by omega];exact h4⟩
  |some r=>
   have abc:r∉hs.filterMap Hand.box/\(hs.filterMap Hand.box).Nodup:=by
    simpa[List.filterMap_cons,nA]using oJ
   have hr:∀x∈hs,x.box≠some r:=fun x hx fQ=>abc.1 (List.mem_filterMap.2 ⟨x,hx,fQ⟩);have anu:∀av,∀x∈hs,∀s,x.box=some s->Ib (bi σ r av) x s:=fun av x hx s fY=>by
    have bC:s≠r:=fun e=>hr x hx (e▸fY);have:=hle x (fJ _ hx) s fY;simpa[Ib,bi,bC]using this
   have rest:∀{av:AV}{cs:List T}{bs:List (List T)},jN ae w ow (i+1) (hs.map Hand.arg) vs bs->(rM e hs bs).run (bi σ r av)=some ((),aj)->(∀aX,aX r=av->Hp ae w ow σ aX e i r cs v0)->
     (∀s,(∀x∈h::hs,x.box≠some s)->aj s=σ s)/\(∀(j:Nat) x s v,(h::hs)[j]?=some x->x.box=some s->(v0::vs)[j]?=some v->∃cA,cA∈cs::bs/\Hp ae w ow σ aj e (i+j) s cA v):=fun{av cs bs} cU vR KE=>by
    obtain⟨h5,h6⟩:=PP hs bs vs abc.2 aaR (anu av) cU vR;refine⟨fun s fY=>?_,fun j x s v hj hx hv=>?_⟩
    ·rw[h5 s fun x hx=>fY x (fJ _ hx)];have:s≠r:=fun e=>fY h fe (e▸nA);simp[bi,this]
    ·cases j with
     |zero=>
      simp at hj hv;subst hj hv;rw[nA]at hx;cases hx;exact⟨cs,by simp,KE aj (by rw[h5 r hr];simp[bi])⟩
     |succ j=>
      obtain⟨cs3,h7,h8⟩:=h6 j x s v (by simpa using hj) hx (by simpa using hv);have bC:s≠r:=fun e=>hr x (cS (by simpa using hj)) (e▸hx);exact⟨cs3,by simp[h7],by
       rw[show i+(j+1)=i+1+j by omega];simpa[Hp,bi,bC]using h8⟩
   rcases hle h fe r nA with⟨⟨csa,hca⟩,k,cs0,aV⟩|⟨⟨ta,GI⟩,k,t0,aV⟩
   ·rw[hca]at hb;cases bs with
    |nil=>exact hb.elim
    |cons cs bs=>
     simp only[jN]at hb;obtain⟨jd,cU⟩:=hb;simp only[rM,nA]at aq;obtain⟨av,aZ,h1,h2⟩:=aW aq;obtain⟨rfl,rfl⟩:=jv h1;rw[aV]at h2;obtain⟨_,iU,h3,h4⟩:=aW h2;have:=rZ h3;subst this;exact rest cU h4 fun aX h2=>.inl ⟨k,cs0,aV,h2,jd⟩
   ·rw[GI]at hb;cases bs with
    |nil=>exact hb.elim
    |cons cs bs=>
     simp only[jN]at hb;obtain⟨⟨t,rfl,⟨sz,es,rfl⟩,jd⟩,cU⟩:=hb;simp only[rM,nA]at aq;obtain⟨av,aZ,h1,h2⟩:=aW aq;obtain⟨rfl,rfl⟩:=jv h1;rw[aV]at h2;obtain⟨_,iU,h3,h4⟩:=aW h2;have:=rZ h3;subst this;exact rest cU h4 fun aX h2=>.inr ⟨k,t0,sz,es,aV,rfl,h2,jd⟩
theorem Zd (h:Rel X U J σ a w ow) (ct:X.mv=eZ) (he:∀x,bJ e x->¬U x) {hs:List Hand}{jn:Nat->Nat}{vs:List Value}{out:Out}{v:Value} (kX:apart hs=true) (dC:vs.length=hs.length)
  (hh:∀(i:Nat) x u,hs[i]?=some x->vs[i]?=some u->qL X U σ a w ow (jn i) x u) (hA:kw X.ae (hs.map Hand.arg) vs out w (gI ow hs jn) w' ap v)
  (dV:(hs.all fun h=>h.iI.isEmpty)=true\/(out.dG.all RV.closed=true/\out.back.all cP=true)) (aq:(rM e hs out.back).run σ=some ((),aj)):
  Rel X (fun x=>U x\/x=e) (J+out.dG.length) aj a w' (kV ow hs J ap)/\(∀r,dn U σ a w aj a w' r)/\(∀s,aj s=.u->σ s=.u)/\(∀s n,σ s=.dj n->aj s=.dj n):=by
 have aaK:∀x∈hs,(x.box=none->(∀cs,x.arg≠.bx cs)/\(∀t,x.arg≠.mu t)/\∀t,x.arg≠.ms t)/\∀s,x.box=some s->Ib σ x s:=fun x hx=>by
  obtain⟨i,hi⟩:=gZ.1 hx;have lT:=(bt.1 hi).1;have:=hh i x vs[i] hi (bF (by omega));unfold qL at this;cases ha:x.arg<;>rw[ha]at this<;>simp only at this
  case bx cs=>
   obtain⟨r,k,h1,_,h2,_⟩:=this;refine⟨fun h0=>(by rw[h1]at h0;cases h0),fun s fY=>?_⟩;rw[h1]at fY;cases fY;exact .inl ⟨⟨cs,ha⟩,k,cs,h2⟩
  case mu t=>
   obtain⟨r,k,h1,_,h2,_⟩:=this;refine⟨fun h0=>(by rw[h1]at h0;cases h0),fun s fY=>?_⟩;rw[h1]at fY;cases fY;exact .inr ⟨⟨t,ha⟩,k,t,h2⟩
  all_goals exact⟨fun _=>⟨fun _=>(by simp[ha]),fun _=>(by simp[ha]),fun _=>(by simp[ha])⟩,fun s fY=>(by rw[this.1]at fY;cases fY)⟩
 have oJ:(hs.filterMap Hand.box).Nodup:=by
  unfold apart at kX;simp only[Y8,decide_eq_true_eq]at kX;exact kX.1
 obtain⟨t1,t2⟩:=PP (ae:=X.ae) (w:=w') (ow:=ap) hs out.back vs (i:=0) oJ (fun x hx=>(aaK x hx).1) (fun x hx=>(aaK x hx).2) hA.back aq;have j5:=R1 h hA;have SB:∀s,(∀x∈hs,x.box≠some s)->ra hs s=none:=fun s fY=>by
  cases hi:ra hs s with
  |none=>rfl
  |some i=>
   obtain⟨y,hy,AU⟩:=Of hi;exact absurd AU (fY y (cS hy))
 have jY:∀s,(∀x∈hs,x.box≠some s)->∀b q,ow b=.own (.sl s) q->kV ow hs J ap b=.own (.sl s) q/\w'.heap[b]?=w.heap[b]?:=fun s fY b q hb=>by
  refine⟨?_,(Vp h hA (SB s fY) hb).1⟩;simp only[kV,hb,SB s fY]
 have Sa:∀(j:Nat) x s,hs[j]?=some x->x.box=some s->∀b q,ap b=.own (.ar j) q->kV ow hs J ap b=.own (.sl s) q:=fun j x s hj uf b q hb=>by
  rw[Vb h hA hb];simp only[conv,hj,jl,uf]
 have Ap:∀s,(∃x∈hs,x.box=some s)->s<1000/\((∃k cs0 cs,σ s=.box k cs0/\aj s=.box ⟨k.e,e,e⟩ cs/\UA X w' (kV ow hs J ap) s cs (bL a s))\/
   (∃k t0 sz es,σ s=.own k t0/\aj s=.own ⟨e,e,e⟩ (.l .y sz es)/\ay X.ae X.mv w' (kV ow hs J ap) (some (.sl s,[])) (.l .y sz es) [bL a s])):=fun s ⟨x,hx,uf⟩=>by
  obtain⟨j,hj⟩:=gZ.1 hx;have iA:=(bt.1 hj).1;have K6:vs[j]?=some vs[j]:=bF (by omega);obtain⟨cs,h1,KE⟩:=t2 j x s vs[j] hj uf K6;have h5:=hh j x vs[j] hj K6;have aaS:Zs w' ap w' (kV ow hs J ap)\/cP cs=true:=by
   rcases dV with dV|dV
   ·exact .inl (Vd h hA dV)
   ·exact .inr (eJ.1 dV.2 cs h1)
  have iQ:s<1000/\bL a s=vs[j]:=by
   unfold qL at h5;cases ha:x.arg<;>rw[ha]at h5<;>simp only at h5
   case bx csx=>
    obtain⟨r,k2,h6,h7,h8,h9⟩:=h5;rw[uf]at h6;cases h6;exact⟨h7,h9⟩
   case mu csx=>
    obtain⟨r,k2,h6,h7,h8,h9,_⟩:=h5;rw[uf]at h6;cases h6;exact⟨h7,h9⟩
   all_goals rw[h5.1]at uf;cases uf
  refine⟨iQ.1,?_⟩;rw[iQ.2];rw[db]at KE;rcases KE with⟨k,cs0,h2,h3,h4⟩|⟨k,t0,sz,es,h2,rfl,h3,h4⟩
  ·refine .inl ⟨k,cs0,cs,h2,h3,?_⟩;simp only[oZ]at h4;obtain⟨b,aG,ty,fr,e1,e2,e3,e4,e5⟩:=h4;refine⟨b,aG,ty,fr,e1,Sa j x s hj uf b [] e2,e3,e4,?_⟩;rw[ct];exact X1 cs (p:=[]) (p':=[]) aaS (fun b q hb=>⟨Sa j x s hj uf b _ hb,rfl⟩) e5
  ·refine .inr ⟨k,t0,sz,es,h2,h3,?_⟩;rw[ct];exact Yc _ (p:=[]) (p':=[]) (aaS.imp (fun h=>h) fun h=>by simpa[cP]using h) (fun b q hb=>⟨Sa j x s hj uf b _ hb,rfl⟩) h4
 have dD:∀r,dn U σ a w aj a w' r:=fun r=>by
  by_cases hr:∃x∈hs,x.box=some r
  ·obtain⟨h3,⟨k,cs0,cs,h1,h2,b,aG,ty,fr,h4,_⟩|⟨k,t0,sz,es,h1,h2,_⟩⟩:=Ap r hr
   rotate_left
   ·exact dn.fresh fun c hc=>by
     rw[h2]at hc;simp only[AV.rc,aR]at hc;subst hc;exact he e (bJ.self e)
   have sN:∀(k2:K),U k2.h->∀n,1<=n->K.ok ⟨k.e,e,e⟩ k2 n=true->False:=fun k2 hU n hn hk=>by
    obtain⟨n,rfl⟩:∃m,n=m+1:=⟨n-1,by omega⟩
    cases n with
    |zero=>
     simp only[K.ok,Y8,beq_iff_eq]at hk;exact he e (bJ.self e) (hk.2▸hU)
    |succ n=>
     simp only[K.ok,Y8,beq_iff_eq]at hk;exact he e (bJ.self e) (hk.1.2▸hU)
   constructor
   ·intro k2 p bo c' u1 u2 u3 hc hk hp;rw[h2]at hc;simp only[AV.rc,aR]at hc;subst hc;cases p with
    |nil=>
     refine⟨⟨true,k,.a cs0⟩,by rw[h1];rfl,hk,?_⟩;rw[h4]at hp⊢;simpa[place,cE]using hp
    |cons i p=>
     exfalso;refine sN k2 u2 _ ?_ hk;rcases p with _|⟨j,_|⟨l,p⟩⟩<;>simp[j8]
   ·intro k2 p o' sz bW A N C c' u1 u2 u3 hc hk;rw[h2]at hc;simp only[AV.rc,aR]at hc;subst hc;exfalso;refine sN k2 u2 _ ?_ hk;rcases p with _|⟨j,_|⟨l,p⟩⟩<;>simp[ic]
   ·intro k2 p cA c' u1 u2 u3 hc hk;rw[h2]at hc;simp only[AV.rc,aR]at hc;subst hc;exfalso;refine sN k2 u2 _ ?_ hk;rcases p with _|⟨j,_|⟨l,p⟩⟩<;>simp[ic]
  ·have py:∀x∈hs,x.box≠some r:=fun x hx fQ=>hr ⟨x,hx,fQ⟩;exact ph (h.slot r) (t1 r py) rfl j5 (fun b q hb=>(jY r py b q hb).2)
 have fg:∀s,(∃x∈hs,x.box=some s)\/(∀x∈hs,x.box≠some s):=fun s=>by
  by_cases hr:∃x∈hs,x.box=some s
  ·exact .inl hr
  ·exact .inr fun x hx fQ=>hr ⟨x,hx,fQ⟩
 refine⟨⟨h.size,h.small,h.defers,fun s=>?_,fun s=>?_,fun b hb=>?_,fun b i q hb=>?_,eQ h.grown hA.grown,fun b hb hr=>?_,hA.os.trans h.os,hA.output.trans h.output,h.cO,fun s dL hu=>?_⟩,dD,fun s hu=>?_,fun s n hn=>?_⟩
 ·rcases fg s with hr|hr
  ·obtain⟨h3,⟨k,cs0,cs,h1,h2,h4⟩|⟨k,t0,sz,es,h1,h2,h4⟩⟩:=Ap s hr
   ·rw[h2];exact h4
   ·rw[h2];exact⟨⟨_,_,_,rfl,rfl⟩,h4⟩
  ·rw[t1 s hr];exact qg (h.slot s) (h.fh s) j5 dD (fun b q hb=>jY s hr b q hb)
 ·rcases fg s with hr|hr
  ·obtain⟨h3,⟨k,cs0,cs,h1,h2,h4⟩|⟨k,t0,sz,es,h1,h2,h4⟩⟩:=Ap s hr
   ·have:=h.fh s;rw[h1]at this;rw[h2];exact⟨.inl this.1,.inr rfl,.inr rfl⟩
   ·rw[h2];exact⟨.inr rfl,.inr rfl,.inr rfl⟩
  ·rw[t1 s hr];exact AV.yq (fun x hx=>.inl hx) (h.fh s)
 ·by_cases dt:ap b=.no
  ·-- then the block was there
   have:ow b≠.no:=fun e=>by
    by_cases aF:b<w.heap.size
    ·exact hb (Vc h hA b aF e).1
    ·rw[Ef (fun s q dL=>by rw[e]at dL;cases dL),dt]at hb;exact hb rfl
   exact iF (h.low b this) hA.grown
  ·exact hA.low b dt
 ·have:∃o1,kV ow hs J ap b=conv hs J o1/\o1=ap b\/∃s q,kV ow hs J ap b=.own (.sl s) q:=by
   unfold kV;split
   ·split
    ·exact⟨_,.inl ⟨rfl,rfl⟩⟩
    ·exact⟨.no,.inr ⟨_,_,rfl⟩⟩
   ·exact⟨_,.inl ⟨rfl,rfl⟩⟩
  obtain⟨o1,⟨h1,h2⟩|⟨s,q',h1⟩⟩:=this
  ·rw[h1]at hb;cases ho:o1 with
   |z=>rw[ho]at hb;cases hb
   |no=>rw[ho]at hb;cases hb
   |own r q2=>
    rw[ho]at hb;cases r with
    |sl s=>cases hb
    |ar i2=>
     simp only[conv]at hb;split at hb<;>cases hb
    |rs j=>
     simp only[conv,Ow.own.injEq,aJ.ar.injEq]at hb;have:=hA.rs b j q2 (by rw[<-h2,ho]);omega
  ·rw[h1]at hb;cases hb
 ·exact Co j5 (fun b aF dt=>Vc h hA b aF dt) (iF hb h.grown) (h.same b hb hr) hr
 ·rcases fg s with hr|hr
  ·have:=(Ap s hr).1;omega
  ·rw[t1 s hr]at hu;obtain⟨n,h1,h2⟩:=h.pR s dL hu;refine⟨n,?_,h2⟩;rcases fg (s%1000) with dS|dS
   ·obtain⟨h5,⟨k,cs0,cs,h3,h4,h6⟩|⟨k,t0,sz,es,h3,h4,h6⟩⟩:=Ap _ dS<;>rw[h1]at h3<;>cases h3
   ·rw[t1 _ dS];exact h1
 ·rcases fg s with hr|hr
  ·obtain⟨h3,⟨k,cs0,cs,h1,h2,h4⟩|⟨k,t0,sz,es,h1,h2,h4⟩⟩:=Ap s hr<;>rw[h2]at hu<;>cases hu
  ·rw[<-t1 s hr];exact hu
 ·rcases fg s with hr|hr
  ·obtain⟨h3,⟨k,cs0,cs,h1,h2,h4⟩|⟨k,t0,sz,es,h1,h2,h4⟩⟩:=Ap s hr<;>rw[h1]at hn<;>cases hn
  ·rw[t1 s hr];exact hn
end
def iR (ae:Nat->FuncId):List (fN×aL)->List Operand->Bool
 |[],[]=>true
 |(_,x)::xs,y::ys=>x.is ae y&&iR ae xs ys
 |_,_=>false
section
variable {X:Cx}{U:Nat->Prop}{J J':Nat}{σ aj aX:St}{a a' a2:Act}{w w' w2:World}{ow ap aU:Nat->Ow}{e:Nat}{o:Oper}
def uz (X:Cx) (w:World) (ow:Nat->Ow) (jn:Nat) (t:T) (v:Value):Prop:=match t with
 |.a cs=>∃vs:Array Value,v=.agg vs/\bZ X.ae X.mv w ow (some (.ar jn,[])) 0 cs vs.toList
 |t=>ay X.ae X.mv w ow (some (.ar jn,[])) t [v]
theorem uz.tr {t:T}{v:Value}{jn:Nat} (hz:Zs w ow w ap) (ha:∀b q,ow b=.own (.ar jn) q->ap b=.own (.ar jn) q) (h:uz X w ow jn t v):uz X w ap jn t v:=by
 unfold uz at*;split at h
 ·obtain⟨vs,e1,e2⟩:=h;exact⟨vs,e1,lG hz _ (c:=some (.ar jn,[])) (fun b q hb=>⟨ha b _ hb,rfl⟩) e2⟩
 ·exact cB hz _ (c:=some (.ar jn,[])) (fun b q hb=>⟨ha b _ hb,rfl⟩) h
theorem Zr2 (h:Rel X U J σ a w ow) {x:aL}{x':Operand} (hx:x.is X.ae x'=true) {t:T} (aq:(DK e x).run σ=some (t,aj)):
  ∃ap,Gh X U J (J+1) σ a w ow aj ap/\uz X w ap J t (a.eval x'):=by
 unfold DK at aq;obtain⟨v,aZ,h1,h2⟩:=aW aq;obtain⟨e1,cj⟩:=kn h hx h1;rw[e1]at h2;clear h1 aq e1 aZ;have qJ:∀t,(do match <-nk e x with|.l o sz es=>pure (.l o sz es)|_=>.fail:Pg T).run σ=some (t,aj)->∃ap,Gh X U J (J+1) σ a w ow aj ap/\uz X w ap J t (a.eval x'):=fun t h2=>by
  obtain⟨t1,aX,h3,h4⟩:=aW h2;obtain⟨ap,hg,hr⟩:=PN h hx h3;cases t1 with
  |l o sz es=>
   obtain⟨rfl,rfl⟩:=bS h4;exact⟨ap,hg,hr⟩
  |_=>cases h4
 cases v with
 |st cs=>
  simp only at h2;obtain⟨ts,aX,h3,h4⟩:=aW h2;obtain⟨rfl,rfl⟩:=bS h4;have cC:∃vs:Array Value,a.eval x'=.agg vs:=by
   cases x with
   |k c=>
    simp only[fw]at cj;obtain⟨DL,vs,_,hv,_⟩:=cj;exact⟨vs,hv⟩
   |t s=>
    simp only[fw]at cj;obtain⟨_,hv,aV⟩:=cj;have hs:=h.slot s;rw[aV,<-hv]at hs;simp only[cK]at hs;obtain⟨vs,gQ,_⟩:=hs;exact⟨vs,gQ⟩
  obtain⟨vs,cC⟩:=cC;obtain⟨J',bB,ix,hJ,hg,cT⟩:=uM h hx h3;rw[cC]at cT
  let g:Nat->Option (Nat×List Nat):=fun i=>if i<J then none else match(List.range ts.length).find? (fun j=>ix j==i) with
   |some j=>some (J,[j])
   |none=>some (J,[ts.length+i])
  have am5:∀j,j<ts.length->g (ix j)=some (J,[j]):=fun j hj=>by
   have hb:=cT.pq j hj;simp only[g];rw[if_neg (by omega)];cases hf:(List.range ts.length).find? (fun j'=>ix j'==ix j) with
   |none=>
    have:=BR.1 hf j (by simpa using hj);simp at this
   |some j'=>
    have h7:=wM hf;have h8:=wR hf;simp only[beq_iff_eq]at h7;have:=cT.inj j' j (by simpa using h8) hj h7;rw[this]
  have hr:=XX hg.rel (g:=g) (J':=J'+1) (by omega) (fun i n pre e=>by
   simp only[g]at e;split at e
   ·cases e
   ·split at e<;>cases e<;>omega)
  have amu:∀b i q,l6 bB g b=.own (.ar i) q->i<J+1:=fun b i q hb=>by
   unfold l6 at hb;split at hb
   ·rename_i m q2 hm;split at hb
    ·rename_i n pre ry;cases hb;simp only[g]at ry;split at ry
     ·cases ry
     ·split at ry<;>cases ry<;>omega
    ·rename_i ry;cases hb;simp only[g]at ry;split at ry
     ·omega
     ·split at ry<;>cases ry
   ·rename_i dK;exact absurd hb (dK _ _)
  have dS:Rel X U (J+1) aj a w (l6 bB g):={hr with dw:=amu}
  refine⟨l6 bB g,⟨dS,fun b hb=>⟨(EP (w:=w) (g:=g) b (hg.z b hb).1).1,rfl⟩,fun b i q hi hb=>?_,hg.refs⟩,vs,cC,?_⟩
  ·have h5:=hg.dw b i q hi hb;have h6:g i=none:=by simp only[g];rw[if_pos hi]
   simp only[l6,h5,h6]
  ·refine pj (by have:=cT.len;simpa[Value.cells]using this) fun j t u ht hu=>?_;have hj:=(bt.1 ht).1;have h5:=cT.ay j t u ht (by simpa[Value.cells]using hu);rw[db];exact cB (EP (g:=g)) t (c:=some (.ar (ix j),[])) (c':=some (.ar J,[j])) (fun b q hb=>⟨XW (am5 j hj) hb,rfl⟩) h5
 |_=>exact qJ t h2
theorem OM:∀(args:List (fN×aL)) (ys:List Operand) {J:Nat}{σ aj:St}{ow:Nat->Ow}{ts:List (Option T)},Rel X U J σ a w ow->iR X.ae args ys=true->(ny e args).run σ=some (ts,aj)->
  ∃ap,Gh X U J (J+args.length) σ a w ow aj ap/\ts.length=args.length/\ys.length=args.length/\∀(i:Nat) t y,ts[i]?=some (some t)->ys[i]?=some y->uz X w ap (J+i) t (a.eval y)
 |[],[],J,σ,aj,ow,ts,h,hp,aq=>by
  obtain⟨rfl,rfl⟩:=bS aq;exact⟨ow,Gh.refl h (by simp),rfl,rfl,fun i t y ht=>by simp at ht⟩
 |[],_::_,J,σ,aj,ow,ts,h,hp,aq=>by simp[iR]at hp
 |_::_,[],J,σ,aj,ow,ts,h,hp,aq=>by simp[iR]at hp
 |(m,x)::args,y::ys,J,σ,aj,ow,ts,h,hp,aq=>by
  simp only[iR,Y8]at hp;simp only[ny]at aq;by_cases hm:m=.C
  ·subst hm;simp only at aq;obtain⟨t,aZ,h1,h2⟩:=aW aq;obtain⟨bB,eH,dO⟩:=Zr2 h hp.1 h1;obtain⟨mG,aX,h3,h4⟩:=aW h2;obtain⟨rfl,rfl⟩:=bS h4;obtain⟨aU,fp,hl,dy,dS⟩:=OM args ys eH.rel hp.2 h3;have SC:J+1+args.length=J+(args.length+1):=by omega
   refine⟨aU,by simp only[dH];rw[<-SC];exact eH.trans fp (by omega),by simp[hl],by simp[dy],fun i t' y' ht hy=>?_⟩;cases i with
   |zero=>
    simp at ht hy;subst ht hy;exact dO.tr fp.z (fun b q hb=>fp.dw b J _ (by omega) hb)
   |succ i=>
    have:=dS i t' y' (by simpa using ht) (by simpa using hy);rw[show J+(i+1)=J+1+i by omega];exact this
  ·have vR:(do let ts <-ny e args;pure (none::ts):Pg (List (Option T))).run σ=some (ts,aj):=by
    cases m<;>first|exact absurd rfl hm|exact aq
   obtain⟨mG,aX,h3,h4⟩:=aW vR;obtain⟨rfl,rfl⟩:=bS h4;obtain⟨aU,fp,hl,dy,dS⟩:=OM args ys (h.mono (J':=J+1) (fun x hx=>hx) (by omega)) hp.2 h3;have SC:J+1+args.length=J+(args.length+1):=by omega
   have Sq:Gh X U J (J+1) σ a w ow σ ow:=Gh.refl h (by omega);refine⟨aU,by simp only[dH];rw[<-SC];exact Sq.trans fp (by omega),by simp[hl],by simp[dy],fun i t' y' ht hy=>?_⟩;cases i with
   |zero=>simp at ht
   |succ i=>
    have:=dS i t' y' (by simpa using ht) (by simpa using hy);rw[show J+(i+1)=J+1+i by omega];exact this
theorem Zae (h:Rel X U J' σ a w ow) {m:fN}{x:aL}{y:Operand} (hx:x.is X.ae y=true) {t:Option T}{jn:Nat} (ht:∀t0,t=some t0->uz X w ow jn t0 (a.eval y)) {hd:Hand}
  (aq:(hand e m x t).run σ=some (hd,aj)):aj=σ/\qL X U σ a w ow jn hd (a.eval y):=by
 unfold hand at aq;cases m with
 |M=>
  simp only at aq;obtain⟨v,aZ,h1,h2⟩:=aW aq;obtain⟨e1,cj⟩:=kn h hx h1;rw[e1]at h2;cases v<;>try simp only[Pg.run,reduceCtorEq]at h2
  rename_i r k p z lo n;cases p with
  |cons i p=>simp[Pg.run]at h2
  |nil=>
   cases lo with
   |succ l=>simp[Pg.run]at h2
   |zero=>
    simp only at h2;obtain⟨c,aX,h3,h4⟩:=aW h2;obtain⟨e2,hc,hk⟩:=Cl h3;rw[e2]at h4;rcases ju hc with⟨hb,cs,eG,aV⟩|⟨hb,aV⟩
    ·obtain⟨ib,kk,tt⟩:=c;simp only at hb;subst hb;simp[Pg.run]at h4
    ·obtain⟨ib,kk,tt⟩:=c;simp only at hb aV;subst hb;cases tt<;>try simp only[Pg.run,reduceCtorEq]at h4
     rename_i o sz es;cases o<;>try simp only[Pg.run,reduceCtorEq]at h4
     split at h4
     ·rename_i lc;obtain⟨hn,hr⟩:=lc;obtain⟨rfl,rfl⟩:=bS h4;refine⟨rfl,r,kk,rfl,hr,aV,?_,_,_,rfl⟩;obtain⟨cC,hh,cJ⟩:=xd (w:=w) (v:=bL a r) hc (h.slot r) (p:=[]) (o:=.y) (sz:=sz) (es:=es) rfl;obtain⟨A,C,aoF,_⟩:=mO cJ;have aoG:cC=.slice A es.length C:=by simpa using aoF
      subst aoG;have iQ:bL a r=.slice A es.length C:=by simpa[fE]using hh
      obtain⟨_,_,mz⟩:=(cj.1.2 _ hc hk).2 .y sz es rfl _ _ _ hh;obtain⟨A1,N1,C1,A2,c2,e3,e4,_,_,_,oG⟩:=mz;cases e3;rw[iQ,oG rfl hn]
     ·simp[Pg.run]at h4
 |F=>
  simp only at aq;obtain⟨v,aZ,h1,h2⟩:=aW aq;obtain⟨e1,cj⟩:=kn h hx h1;rw[e1]at h2;cases v<;>try simp only[Pg.run,reduceCtorEq]at h2
  rename_i g r k;obtain⟨c,aX,h3,h4⟩:=aW h2;obtain⟨e2,hc,hk,_⟩:=ER h3;rw[e2]at h4;obtain⟨⟨u,hu,hp⟩,_⟩:=cj;rcases ju hc with⟨hb,cs,eG,aV⟩|⟨hb,aV⟩
  ·obtain⟨ib,kk,tt⟩:=c;simp only at hb eG aV;subst hb eG;obtain⟨rfl,rfl⟩:=bS h4;have oN:=h.slot r;rw[aV]at oN;obtain⟨b,aG,ty,fr,f1,f2,f3,f4,f5⟩:=oN;have hv:=hp.2 _ hc hk (b,0) (by rw[f1];rfl);exact⟨rfl,rfl,r,kk,cs,rfl,aV,by rw[hu,hv,f1]⟩
  ·obtain⟨ib,kk,tt⟩:=c;simp only at hb;subst hb;simp[Pg.run]at h4
 |C=>
  cases t with
  |none=>simp[Pg.run]at aq
  |some t0=>
   have h1:=ht t0 rfl;cases t0 with
   |a cs=>
    obtain⟨rfl,rfl⟩:=bS aq;exact⟨rfl,rfl,h1⟩
   |_=>
    obtain⟨rfl,rfl⟩:=bS aq;exact⟨rfl,rfl,h1⟩
 |S=>
  simp only at aq;obtain⟨v,aZ,h1,h2⟩:=aW aq;obtain⟨e1,cj⟩:=kn h hx h1;rw[e1]at h2;obtain⟨t1,aX,h3,h4⟩:=aW h2;obtain⟨e2,Gx⟩:=Cd h cj h3;rw[e2]at h4;by_cases bD:∃cs,v=.st cs
  ·obtain⟨cs,rfl⟩:=bD;cases t1<;>try simp only[Pg.run,reduceCtorEq]at h4
   obtain⟨rfl,rfl⟩:=bS h4;refine⟨rfl,rfl,fun aU hl=>?_⟩;obtain⟨vs,hv,hr⟩:=Gx aU X.mv hl;exact⟨vs,hv,by simpa only[ay]using hr⟩
  ·have h5:hd={arg:=.x t1,iI:=sa x v}/\aj=σ:=by
    cases v<;>first|exact bS h4|exact absurd ⟨_,rfl⟩ bD
   obtain⟨rfl,rfl⟩:=h5;refine⟨rfl,rfl,fun aU hl=>?_⟩;have:=Gx aU X.mv hl;cases v<;>first|exact this|exact absurd ⟨_,rfl⟩ bD
 |P=>
  simp only at aq;obtain⟨v,aZ,h1,h2⟩:=aW aq;obtain⟨e1,cj,mq,nH⟩:=uO h hx h1;rw[e1]at h2;clear mq nH;cases v<;>try simp only[Pg.run,reduceCtorEq]at h2
  rename_i r k p off;cases p with
  |cons i p=>simp[Pg.run]at h2
  |nil=>
   cases off with
   |succ n=>simp[Pg.run]at h2
   |zero=>
    simp only at h2;obtain⟨c,aX,h3,h4⟩:=aW h2;obtain⟨e2,hc,hk,u5⟩:=ER h3;rw[e2]at h4;rcases ju hc with⟨hb,cs,eG,aV⟩|⟨hb,aV⟩
    ·obtain⟨ib,kk,tt⟩:=c;simp only at hb eG aV;subst hb eG;simp only at h4;split at h4
     ·rename_i hr;obtain⟨rfl,rfl⟩:=bS h4;refine⟨rfl,r,kk,rfl,hr,aV,?_⟩;have hs:=h.slot r;rw[aV]at hs;obtain⟨b,aG,ty,fr,hv,_⟩:=hs;have:=cj.1.2 _ hc hk (b,0) (by rw[hv];simp[place,cE]);rw[this,hv]
     ·simp[Pg.run]at h4
    ·obtain⟨ib,kk,tt⟩:=c;simp only at hb;subst hb;simp[Pg.run]at h4
theorem ON (h:Rel X U J' σ a w ow):∀(args:List (fN×aL)) (ys:List Operand) {ts:List (Option T)}{J:Nat}{hs:List Hand}{aj:St},iR X.ae args ys=true->
  (∀(i:Nat) t y,ts[i]?=some (some t)->ys[i]?=some y->uz X w ow (J+i) t (a.eval y))->(ml e args ts).run σ=some (hs,aj)->
  aj=σ/\hs.length=args.length/\∀(i:Nat) x y,hs[i]?=some x->ys[i]?=some y->qL X U σ a w ow (J+i) x (a.eval y)
 |[],[],ts,J,hs,aj,hp,ht,aq=>by
  obtain⟨rfl,rfl⟩:=bS aq;exact⟨rfl,rfl,fun i x y hx=>by simp at hx⟩
 |[],_::_,ts,J,hs,aj,hp,ht,aq=>by simp[iR]at hp
 |_::_,[],ts,J,hs,aj,hp,ht,aq=>by simp[iR]at hp
 |(m,x)::args,y::ys,ts,J,hs,aj,hp,ht,aq=>by
  simp only[iR,Y8]at hp;simp only[ml]at aq;obtain⟨hd,aZ,h1,h2⟩:=aW aq;obtain⟨e1,kL⟩:=Zae h hp.1 (jn:=J) (fun t0 e0=>by
   have:=ht 0 t0 y (by cases ts<;>simp_all) rfl;simpa using this) h1
  rw[e1]at h2;obtain⟨fY,aX,h3,h4⟩:=aW h2;obtain⟨rfl,rfl⟩:=bS h4;obtain⟨e2,hl,hr⟩:=ON h args ys (ts:=ts.tail) (J:=J+1) hp.2 (fun i t y' bG hy=>by
   have:=ht (i+1) t y' (by cases ts<;>simp_all) (by simpa using hy);rw[show J+1+i=J+(i+1) by omega];exact this) h3
  refine⟨e2,by simp[hl],fun i x' y' hx hy=>?_⟩;cases i with
  |zero=>simp at hx hy;subst hx hy;exact kL
  |succ i=>
   have:=hr i x' y' (by simpa using hx) (by simpa using hy);rw[show J+(i+1)=J+1+i by omega];exact this
end
section
variable {X:Cx}{U:Nat->Prop}{J J':Nat}{σ aj aX:St}{a a' a2:Act}{w w' w2:World}{ow ap aU:Nat->Ow}{e:Nat}{o:Oper}
theorem V0 {n J i:Nat} (hi:i<n):(List.range n).find? (fun i'=>J+i'==J+i)=some i:=by
 cases hf:(List.range n).find? (fun i'=>J+i'==J+i) with
 |none=>
  have:=BR.1 hf i (by simpa using hi);simp at this
 |some j=>
  have h7:=wM hf;simp only[beq_iff_eq]at h7
  congr 1;omega
theorem Vf {hs:List Hand} (oJ:(hs.filterMap Hand.box).Nodup):∀{i:Nat}{x:Hand}{r:Nat},hs[i]?=some x->x.box=some r->ra hs r=some i:=by
 unfold ra
 induction hs with
 |nil=>intro i x r hx;simp at hx
 |cons h hs ih=>
  intro i x r hx hr;rw[List.findIdx?_cons];cases i with
  |zero=>
   simp at hx;subst hx;simp[hr]
  |succ i=>
   have jh:hs[i]?=some x:=by simpa using hx
   have KS:(hs.filterMap Hand.box).Nodup/\∀s,h.box=some s->s∉hs.filterMap Hand.box:=by
    cases hb:h.box with
    |none=>exact⟨by simpa[List.filterMap_cons,hb]using oJ,fun s e=>by cases e⟩
    |some s=>
     have:s∉hs.filterMap Hand.box/\(hs.filterMap Hand.box).Nodup:=by simpa[List.filterMap_cons,hb]using oJ
     exact⟨this.2,fun s' e=>by cases e;exact this.1⟩
   have bC:(h.box==some r)=false:=by
    cases hb:h.box with
    |none=>rfl
    |some s=>
     simp only[beq_eq_false_iff_ne,ne_eq,aR];intro e;subst e;exact KS.2 s hb (List.mem_filterMap.2 ⟨x,cS jh,hr⟩)
   rw[bC];simp only[cX,if_false];rw[ih KS.1 jh hr];rfl
theorem Zw {hs:List Hand} (h:apart hs=true) {x:Hand}{r:Nat} (hx:x∈hs) (hc:x.cap=some r):∃y,hs[0]?=some y/\y.box=some r:=by
 unfold apart at h;simp only[Y8]at h;have h2:=eJ.1 h.2.2 x hx;rw[hc]at h2;simp only[Option.isNone_some,Bool.false_or,beq_iff_eq]at h2;cases hs with
 |nil=>cases hx
 |cons y hs=>exact⟨y,rfl,by simpa using h2.symm⟩
theorem Zb {hs:List Hand}{vs:List Value}{jn:Nat->Nat} (kX:apart hs=true) (hl:vs.length=hs.length) (hH:∀(i:Nat) x u,hs[i]?=some x->vs[i]?=some u->qL X U σ a w ow (jn i) x u):
  ∀(i:Nat) g,(hs.map Hand.arg)[i]?=some (.fb g)->∃u,vs[0]?=some u/\vs[i]?=some (.func (.func (X.ae g)) #[] #[u]):=fun i g hi=>by
 rw[iX]at hi;obtain⟨x,hx,lV⟩:=jm.1 hi;have lT:=(bt.1 hx).1;have xL:=bF (show i<vs.length by omega);have h1:=hH i x _ hx xL;unfold qL at h1;rw[lV]at h1;obtain⟨_,r,k,cs,hc,aV,hv⟩:=h1;obtain⟨y,hy,AU⟩:=Zw kX (cS hx) hc;have uc:=bF (show 0<vs.length by have:=(bt.1 hy).1;omega);have h2:=hH 0 y _ hy uc;refine⟨_,uc,?_⟩;rw[xL,hv];unfold qL at h2;cases hya:y.arg<;>rw[hya]at h2<;>simp only at h2
 case bx xm=>
  obtain⟨r2,k2,g1,g2,g3,g4⟩:=h2;rw[AU]at g1;cases g1;rw[g4]
 case mu t=>
  obtain⟨r2,k2,g1,g2,g3,g4,_⟩:=h2;rw[AU]at g1;cases g1;rw[g4]
 all_goals (rw[AU]at h2;cases h2.1)
theorem Zx {hs:List Hand} (h:apart hs=true):(hs.filterMap Hand.box).Nodup:=by
 unfold apart at h;simp only[Y8,decide_eq_true_eq]at h;exact h.1
theorem Za (h:Rel X U J' σ a w ow) (ct:X.mv=eZ) {hs:List Hand} (kX:apart hs=true) {i:Nat}{x:Hand}{v:Value} (hx:hs[i]?=some x) (hh:qL X U σ a w ow (J+i) x v):
  oZ X.ae w (gI ow hs (fun i=>J+i)) i x.arg v:=by
 have lT:=(bt.1 hx).1;have hz:Zs w ow w (gI ow hs (fun i=>J+i)):=fun b hb=>⟨by simp[gI,hb],rfl⟩
 unfold qL at hh;rw[ct]at hh;cases ha:x.arg<;>rw[ha]at hh<;>simp only at hh
 case fb g=>trivial
 case x t=>exact hh.2 _ (Vq kX (cS hx))
 case st cs=>exact hh.2 _ (Vq kX (cS hx))
 case own t=>exact cB hz t (c:=some (.ar (J+i),[])) (fun b q hb=>⟨by simp only[gI,hb,V0 lT],rfl⟩) hh.2
 case os cs=>
  obtain⟨_,vs,e1,e2⟩:=hh;exact⟨vs,e1,lG hz cs (c:=some (.ar (J+i),[])) (fun b q hb=>⟨by simp only[gI,hb,V0 lT],rfl⟩) e2⟩
 case mu t=>
  obtain⟨r,k,h1,h2,h3,h4,h5⟩:=hh;have hs:=h.slot r;rw[h3]at hs;refine⟨h5,?_⟩;have gP:=hs.2;rw[h4,ct]at gP;exact cB hz t (c:=some (.sl r,[])) (c':=some (.ar i,[])) (fun b q hb=>⟨by simp only[gI,hb,Vf (Zx kX) hx h1],rfl⟩) gP
 case bx cs=>
  obtain⟨r,k,h1,h2,h3,h4⟩:=hh;have hs:=h.slot r;rw[h3]at hs;obtain⟨b,aG,ty,fr,e1,e2,e3,e4,e5⟩:=hs;rw[h4]at e1;have hc:∀b q,ow b=.own (.sl r) q->gI ow hs (fun i=>J+i) b=.own (.ar i) q:=fun b q hb=>by
   simp only[gI,hb,Vf (Zx kX) hx h1]
  refine⟨b,aG,ty,fr,e1,hc b [] e2,e3,e4,?_⟩;rw[ct]at e5;exact lG hz cs (c:=some (.sl r,[])) (c':=some (.ar i,[])) (fun b q hb=>⟨hc b _ hb,rfl⟩) e5
theorem Yv {r:RV}{v:Value}{J0 j d E:Nat} (hg:r.lO=true) (hr:match r with
   |.one t=>ay X.ae X.mv w ow (some (.ar (J0+j),[])) t [v]
   |.st cs=>∃vs:Array Value,v=.agg vs/\bZ X.ae X.mv w ow (some (.ar (J0+j),[])) 0 cs vs.toList
   |.bx cs=>mI X.ae X.mv w ow (.ar (J0+j)) cs v):
  cK X aj a' w (hY ow d (fun i=>if i=J0+j then some [] else none)) d (r.av E) v:=by
 have hz:Zs w ow w (hY ow d (fun i=>if i=J0+j then some [] else none)):=zj;have ht:Tr w ow w (hY ow d (fun i=>if i=J0+j then some [] else none)) (some (.ar (J0+j),[])) (some (.sl d,[])):=fun b q hb=>⟨by rw[ED (pre:=[]) (by simp) hb];rfl,rfl⟩
 cases r with
 |bx cs=>exact mI.tr hz ht hr
 |st cs=>
  obtain⟨vs,rfl,hr⟩:=hr;refine⟨vs,rfl,td _ 0 vs.toList (by rw[ol hr];simp) fun k c u h1 h2=>?_⟩;rw[iX]at h1;obtain⟨t,iP,rfl⟩:=jm.1 h1;obtain⟨u',h3,h4⟩:=kT hr iP;rw[h2]at h3;cases h3;rw[db]at h4⊢;exact cB hz t (ht.push k) h4
 |one t=>
  have loose:t.loose=true->cK X aj a' w (hY ow d (fun i=>if i=J0+j then some [] else none)) d (.x t) v:=fun hl=>by
   simp only[cK];exact tw hl (cB hz t ht hr)
  cases t
  case l ob sz es=>
   cases ob with
   |y=>exact⟨⟨_,_,_,rfl,rfl⟩,cB hz _ ht hr⟩
   |n=>exact loose rfl
   |m k=>simp[RV.lO,T.loose]at hg
  all_goals exact loose (by simpa[RV.lO]using hg)
theorem Yw (E:Nat) (r:RV):(∀U':Nat->Prop,U' E->(r.av E).stamps U')/\∀c,(r.av E).rc=some c->c.k.e=E:=by
 cases r with
 |bx cs=>exact⟨fun U' h=>⟨h,h,h⟩,fun c hc=>by simp only[RV.av,AV.rc,aR]at hc;subst hc;rfl⟩
 |st cs=>
  refine⟨fun U' _ c hc=>?_,fun c hc=>by simp[RV.av,AV.rc]at hc⟩;obtain⟨t,_,rfl⟩:=jt.1 hc
  trivial
 |one t=>
  unfold RV.av;split
  ·exact⟨fun U' h=>⟨h,h,h⟩,fun c hc=>by simp only[AV.rc,aR]at hc;subst hc;rfl⟩
  ·exact⟨fun U' _=>trivial,fun c hc=>by simp[AV.rc]at hc⟩
  ·rename_i h;cases h
  ·rename_i h;cases h
theorem Z9t (h:Rel X U J σ a w ow) {U':Nat->Prop} (hU:∀x,U x->U' x) {d:Nat}{g:Nat->Option (List Nat)}{av:AV} (iK:∀aj,cK X aj a w (hY ow d g) d av (bL a d)) (hd:σ d=.u)
  (bD:av.stamps U') (jf:∀c,av.rc=some c->¬U c.k.e) (S8:1000<=d/\∃n,σ (d%1000)=.dj n/\d/1000<=n):Rel X U' J (bi σ d av) a w (hY ow d g):=by
 have ht:=EE h d g;have dD:∀r,dn U σ a w (bi σ d av) a w r:=fun r=>by
  by_cases h1:r=d
  ·subst h1;exact dn.fresh fun c hc=>by
    simp only[bi,if_true]at hc;exact jf c hc
  ·exact ph (h.slot r) (by simp[bi,h1]) rfl ht.z (fun b q hb=>rfl)
 refine⟨h.size,h.small,h.defers,fun s=>?_,fun s=>?_,ht.low,ht.dw,h.grown,fun b hb hr=>Co ht.z ht.no (iF hb h.grown) (h.same b hb hr) hr,h.os,h.output,h.cO,fun s hs hu=>?_⟩
 ·by_cases h1:s=d
  ·subst h1;simp only[bi,if_true];exact iK _
  ·have:=qg (aj:=bi σ d av) (a':=a) (h.slot s) (h.fh s) ht.z dD (fun b q hb=>ht.other b s q (by simpa using Ne.symm h1) hb);simpa[bi,h1]using this
 ·by_cases h1:s=d
  ·subst h1;simpa[bi]using bD
  ·simpa[bi,h1]using AV.yq hU (h.fh s)
 ·have key:∀m,σ m≠.u->m≠d:=fun m hm e=>hm (e▸hd);by_cases h1:s=d
  ·subst h1;obtain⟨n,h2,h3⟩:=S8.2;refine⟨n,?_,h3⟩;simp only[bi,if_neg (key _ (by rw[h2];simp))];exact h2
  ·simp only[bi,if_neg h1]at hu;obtain⟨n,h2,h3⟩:=h.pR s hs hu;refine⟨n,?_,h3⟩;simp only[bi,if_neg (key _ (by rw[h2];simp))];exact h2
end
section
variable {X:Cx}{U:Nat->Prop}{J J':Nat}{σ aj aX:St}{a a' a2:Act}{w w' w2:World}{ow ap aU:Nat->Ow}{e:Nat}{o:Oper}
def pa (X:Cx) (w:World) (ow:Nat->Ow) (n:Nat) (r:RV) (v:Value):Prop:=
 match r with
 |.one t=>ay X.ae X.mv w ow (some (.ar n,[])) t [v]
 |.st cs=>∃vs:Array Value,v=.agg vs/\bZ X.ae X.mv w ow (some (.ar n,[])) 0 cs vs.toList
 |.bx cs=>mI X.ae X.mv w ow (.ar n) cs v
theorem Znm {d n m:Nat}{r:RV}{v:Value} (bC:n≠m) (h:pa X w ow n r v):pa X w (hY ow d (fun i=>if i=m then some [] else none)) n r v:=by
 have ht:Tr w ow w (hY ow d (fun i=>if i=m then some [] else none)) (some (.ar n,[])) (some (.ar n,[])):=fun b q hb=>⟨by simp[hY,hb,bC],rfl⟩
 cases r with
 |bx cs=>exact mI.tr zj ht h
 |one t=>exact cB zj t ht h
 |st cs=>
  obtain⟨vs,h1,h2⟩:=h;exact⟨vs,h1,lG zj cs ht h2⟩
theorem XM {d n J0:Nat} (kL:d<1000):∀(rs:List RV) (j:Nat) {U:Nat->Prop}{σ aj:St}{ow:Nat->Ow},Rel X U J σ a w ow->(∀x,e+j<x->x<e+8->¬U x)->σ d=.dj n->j+rs.length<=n->rs.all RV.lO=true->
  (∀k,j<=k->σ (vt d k)=.u)->(∀(k:Nat) r,rs[k]?=some r->pa X w ow (J0+(j+k)) r (bL a (vt d (j+k))))->(Bh e d j rs).run σ=some ((),aj)->
  ∃ap,Rel X (fun x=>U x\/(e+j<x/\x<e+8)) J aj a w ap
 |[],j,U,σ,aj,ow,h,he,ht,hn,hg,hu,hr,aq=>by
  obtain⟨_,rfl⟩:=bS aq;exact⟨ow,h.mono (fun x hx=>.inl hx) (Nat.le_refl _)⟩
 |r::rs,j,U,σ,aj,ow,h,he,ht,hn,hg,hu,hr,aq=>by
  simp only[Bh]at aq;split at aq
  ·rename_i hj7;obtain⟨_,aZ,h1,h2⟩:=aW aq;have:=rZ h1;subst this;simp only[nV,Y8]at hg;simp only[dH]at hn;obtain⟨dL,gP⟩:=Yw (e+j+1) r;have tZ:=hr 0 r rfl;rw[pc]at tZ;have oG:=Z9t h (U':=fun x=>U x\/x=e+j+1) (fun x hx=>.inl hx) (d:=vt d j) (g:=fun i=>if i=J0+j then some [] else none) (av:=r.av (e+j+1))
    (fun aj=>Yv hg.1 (by cases r<;>exact tZ)) (hu j (Nat.le_refl _)) (dL _ (.inr rfl)) (fun c hc=>by rw[gP c hc];exact he _ (by omega) (by omega)) ⟨by unfold vt;omega,n,by
     have:vt d j%1000=d:=by unfold vt;omega
     rw[this];exact ht,by unfold vt;omega⟩
   have oJ:d≠vt d j:=by unfold vt;omega
   obtain⟨aU,h5⟩:=XM kL rs (j+1) oG (fun x h1 h2 hx=>by
     rcases hx with hx|hx
     ·exact he x (by omega) h2 hx
     ·omega) (by simp only[bi,if_neg oJ];exact ht) (by omega) hg.2 (fun k hk=>by
     have:vt d k≠vt d j:=by unfold vt;omega
     simp only[bi,if_neg this];exact hu k (by omega)) (fun k r' hk=>by
     have:=hr (k+1) r' (by simpa using hk);rw[show j+1+k=j+(k+1) by omega];exact Znm (by omega) this) h2
   refine⟨aU,h5.mono (fun x hx=>?_) (Nat.le_refl _)⟩;rcases hx with(hx|hx)|hx
   ·exact .inl hx
   ·exact .inr (by omega)
   ·exact .inr (by omega)
  ·simp[Pg.run]at aq
theorem Zsd {d:Nat} (k:Nat) (h:d<1000):1000<=vt d k/\vt d k%1000=d:=by
 unfold vt;omega
def BK (X:Cx) (w:World) (ow:Nat->Ow) (J0:Nat) (rs:List RV) (v:Value):Prop:=
 match rs with
 |[r]=>pa X w ow (J0+0) r v
 |rs=>∃vs:Array Value,v=.tuple vs/\vs.size=rs.length/\∀(j:Nat) r u,rs[j]?=some r->vs[j]?=some u->pa X w ow (J0+j) r u
theorem BK.dj {J0:Nat}{rs:List RV}{v:Value} (h1:¬∃r,rs=[r]) (h:BK X w ow J0 rs v):
  ∃vs:Array Value,v=.tuple vs/\vs.size=rs.length/\∀(j:Nat) r u,rs[j]?=some r->vs[j]?=some u->pa X w ow (J0+j) r u:=by
 match rs,h,h1 with
 |[],h,_=>exact h
 |[r],_,h1=>exact absurd ⟨r,rfl⟩ h1
 |_::_::_,h,_=>exact h
theorem Zlq {d:Nat}{rs:List RV} (h1:¬∃r,rs=[r]):results e (some d) rs=(gd d (.dj rs.length)).bind fun _=>Bh e d 0 rs:=by
 match rs,h1 with
 |[],_=>rfl
 |[r],h1=>exact absurd ⟨r,rfl⟩ h1
 |_::_::_,_=>rfl
theorem Yf (h:Rel X U J σ a w ow) (hd:eW X o) (he:∀x,bJ e x->x≠e->¬U x) {J0:Nat}{rs:List RV}{v:Value} (hg:rs.all RV.lO=true)
  (hr:BK X w ow J0 rs v)
  (aq:(results e o.dst rs).run σ=some ((),aj)):∃ap,Rel X (fun x=>U x\/bJ e x) J aj (a.put o.dst v) w ap:=by
 cases dB:o.dst with
 |none=>
  rw[dB]at aq;simp only[results]at aq;obtain⟨_,rfl⟩:=bS aq;exact⟨ow,h.mono (fun x hx=>.inl hx) (Nat.le_refl _)⟩
 |some d=>
  obtain⟨qt,Dc⟩:=hd d dB;have kL:d<1000:=iF qt h.small;have As:d<a.tmps.size:=by rw[h.size];exact qt
  rw[dB]at aq;by_cases h1:∃r,rs=[r]
  ·obtain⟨r,rfl⟩:=h1;simp only[results]at aq;rw[uR]at aq;simp only[aR,di,true_and]at aq;subst aq;obtain⟨dL,gP⟩:=Yw (e+1) r;have eH:r.lO=true:=by simpa using hg
   simp only[BK]at hr;have:=zF h (U':=fun x=>U x\/bJ e x) (fun x hx=>.inl hx) (dst:=some d) (EE h d (fun i=>if i=J0+0 then some [] else none)) (av:=r.av (e+1)) (v:=v) (fun d' je=>by cases je;exact⟨qt,Dc⟩)
    (dL _ (.inr ⟨by omega,by omega⟩)) (fun c hc=>by rw[gP c hc];exact he _ ⟨by omega,by omega⟩ (by omega)) (fun d' je aj a' _=>by
     cases je;exact Yv eH (by cases r<;>exact hr))
   exact⟨_,this.1⟩
  ·have py:=hr.dj h1;have vR:((gd d (.dj rs.length)).bind fun _=>Bh e d 0 rs).run σ=some ((),aj):=by
    rw[<-Zlq h1];exact aq
   obtain⟨vs,hv,bP,dY⟩:=py;have h3:=run_bind (gd d (.dj rs.length)) (fun _=>Bh e d 0 rs) σ;simp only[Bind.bind]at h3;rw[h3,uR]at vR;simp only[jl]at vR;have hw:=zF h (U':=fun x=>U x) (fun x hx=>hx) (pb.rfl h (some d) (Nat.le_refl J)) (av:=.dj rs.length) (v:=v) (fun d' je=>by cases je;exact⟨qt,Dc⟩) (by simp[AV.stamps]) (by simp[AV.rc])
    (fun d' je aj a' hr=>⟨vs,hv,bP⟩)
   simp only[yf]at hw;have de:=fun k=>tF h kL (.dj rs.length) k;have aoJ:∀k,vt d k≠d:=fun k=>by unfold vt;omega
   have hvt:∀k,1000<=vt d k/\vt d k%1000=d:=fun k=>Zsd k kL;obtain⟨aU,h5⟩:=XM (e:=e) (J0:=J0) (n:=rs.length) kL rs 0 hw.1 (fun x h1 h2=>he x ⟨by omega,h2⟩ (by omega)) (by rw[de,if_pos rfl]) (by omega) hg
    (fun k _=>by rw[de,if_neg (aoJ k),if_pos (hvt k)]) (fun k r hk=>by
     have tV:=(bt.1 hk).1;rw[hv,ZP As kL];have:=dY k r vs[k] hk (by simp[bP,tV]);rw[db];simpa[bP,tV]using this) vR
   refine⟨aU,h5.mono (fun x hx=>?_) (Nat.le_refl _)⟩;rcases hx with hx|hx
   ·exact .inl hx
   ·exact .inr ⟨by omega,hx.2⟩
end
def xk (P:Program) (f:FuncId):Bool:=
 match P.funcs[f]? with
 |some fn=>fn.body.isSome&&fn.name != "runtime.NumGoroutine"
 |none=>false
section
variable {X:Cx}{U:Nat->Prop}{J J':Nat}{σ aj aX:St}{a a' a2:Act}{w w' w2:World}{ow ap aU:Nat->Ow}{e:Nat}{o:Oper}
theorem JA {P:Program}{f:FuncId}{args:Array Value} (h:xk P f=true):(callFunc f args).run P w=.ok (.enter f args) w:=by
 unfold xk at h;split at h
 ·rename_i fn hf;simp only[Y8,bne_iff_ne,ne_eq]at h;unfold callFunc;rw[bu (x:=P) (w':=w) rfl];simp only[hf]
  have h1:(fn.name== "runtime.NumGoroutine")=false:=by simpa using h.2
  have h2:fn.body.isNone=false:=by cases hb:fn.body<;>simp_all
  rw[h1,h2];rfl
 ·cases h
theorem Zc {hs:List Hand}{jn:Nat->Nat}{b:Nat} (hb:gI ow hs jn b≠.no):ow b≠.no:=fun e=>hb (by simp[gI,e])
theorem Z2 {hs:List Hand}{jn:Nat->Nat}{b:Nat}{r:aJ}{q:List Nat} (hb:gI ow hs jn b=.own r q):∃i,r=.ar i/\i<hs.length:=by
 unfold gI at hb;cases ho:ow b with
 |no=>simp[ho]at hb
 |z=>simp[ho]at hb
 |own r0 q0=>
  rw[ho]at hb;cases r0 with
  |rs j=>cases hb
  |sl s=>
   simp only at hb;split at hb
   ·rename_i i hi;obtain⟨x,hx,_⟩:=Of hi;cases hb;exact⟨i,rfl,(bt.1 hx).1⟩
   ·split at hb<;>cases hb
  |ar j=>
   simp only at hb;split at hb
   ·rename_i i hi;have:=wR hi;cases hb;exact⟨i,rfl,by simpa using this⟩
   ·cases hb
theorem Oz (h:Rel X U J σ a w ow) (ct:X.mv=eZ) (hd:eW X o) (he:∀x,bJ e x->¬U x) {g:Nat}{F:aB}{args:List (fN×aL)}{ys:List Operand}{env:List T}{eR:List Value} (hF:ik X.P X.ae g F)
  (hp:iR X.ae args ys=true) (Db:∀(i:Nat) t v,env[i]?=some t->eR[i]?=some v->∀aU,(∀b,ow b=.z->aU b=.z)->ay X.ae eZ w aU none t [v]) (dV:eR.length=env.length)
  (pv:(execOp a.eval o).run X.P w=.ok (.enter (X.ae g) (ys.map a.eval++eR).toArray) w) (aq:(se e o.dst F args env).run σ=some ((),aj)):Sound X U a w e o aj:=by
 unfold se at aq;obtain⟨ts,aZ,h1,h2⟩:=aW aq;obtain⟨bB,eH,K5,Th,oO⟩:=OM args ys h hp h1;obtain⟨vS,aX,h3,h4⟩:=aW h2;obtain⟨e2,Sv,Sw⟩:=ON eH.rel args ys (ts:=ts) (J:=J) hp oO h3;rw[e2]at h4;clear h2 h3 e2 aX;generalize AD:(vS++env.map fun t=>({arg:=.x t}:Hand))=hs at h4;have nG:J+args.length<=J+(args.length+env.length):=by omega
 have R:=eH.rel.mono (J':=J+(args.length+env.length)) (fun x hx=>hx) nG;have hlen:hs.length=args.length+env.length:=by rw[<-AD];simp[Sv]
 have dC:(ys.map a.eval++eR).length=hs.length:=by rw[hlen];simp[Th,dV]
 have hH:∀(i:Nat) x u,hs[i]?=some x->(ys.map a.eval++eR)[i]?=some u->qL X U aZ a w bB (J+i) x u:=fun i x u hx hu=>by
  rw[<-AD]at hx;by_cases hi:i<vS.length
  ·rw[nl hi]at hx;rw[nl (by simp;omega),iX]at hu;obtain⟨y,hy,rfl⟩:=jm.1 hu;exact Sw i x y hx hy
  ·rw[kD (by omega),iX]at hx;rw[kD (by simp;omega)]at hu;obtain⟨t,ht,rfl⟩:=jm.1 hx;refine⟨rfl,fun aU hl=>?_⟩;rw[ct];refine Db (i-vS.length) t u ht ?_ aU (fun b hb=>hl.1 b (eH.z b hb).1);rw[<-hu];congr 1;simp;omega
 dsimp only at h4
 split at h4
 ·rename_i kX;cases RY:F (hs.map Hand.arg) with
  |none=>simp[RY,Pg.run]at h4
  |some out=>
   simp only[RY]at h4;split at h4
   ·rename_i lc;simp only[Y8,pW]at lc;obtain⟨aaT,Az⟩:=lc;obtain⟨_,iU,h5,h6⟩:=aW h4;intro K Q hK;left;unfold Oper.wp;rw[pv,Oper.upon_enter];have Da:=hF (hs.map Hand.arg) (ys.map a.eval++eR) w (gI bB hs (fun i=>J+i)) out RY (by rw[dC];simp)
     (fun i x v hx hv=>by
      rw[iX]at hx;obtain⟨y,hy,rfl⟩:=jm.1 hx;exact Za R ct kX hy (hH i y v hy hv))
     (fun b hb=>R.low b (Zc hb)) (fun b r q hb=>by
      obtain⟨i,h7,h8⟩:=Z2 hb;exact⟨i,h7,by simpa using h8⟩) (Zb (jn:=fun i=>J+i) kX dC hH)
    refine Calls.mono Da fun en gS qu=>?_;cases en with
    |panicked c=>exact qu.elim
    |outgrown=>exact qu.elim
    |returned v=>
     obtain⟨ap,hA⟩:=qu;obtain⟨sH,hrefs,ub,pA⟩:=Zd R ct he kX dC hH hA aaT h5;have sI:BK X gS (kV bB hs (J+(args.length+env.length)) ap) (J+(args.length+env.length)) out.dG v:=by
      have hz:∀r:RV,r∈out.dG->Zs gS ap gS (kV bB hs (J+(args.length+env.length)) ap)\/r.closed=true:=fun r hr=>by
       rcases aaT with hc|hc
       ·exact .inl (Vd R hA hc)
       ·exact .inr (eJ.1 hc.1 r hr)
      have one:∀(j:Nat) (r:RV) (u:Value),r∈out.dG->jP X.ae gS ap j r u->pa X gS (kV bB hs (J+(args.length+env.length)) ap) (J+(args.length+env.length)+j) r u:=fun j r u hr oM=>by
       have ht:Tr gS ap gS (kV bB hs (J+(args.length+env.length)) ap) (some (.rs j,[])) (some (.ar (J+(args.length+env.length)+j),[])):=fun b q hb=>⟨by
        rw[Vb R hA hb];rfl,rfl⟩
       have sK:=hz r hr;cases r with
       |bx cs=>
        unfold pa;rw[ct];exact mI.cl sK ht oM
       |one t=>
        unfold pa;rw[ct];exact Yc t sK ht oM
       |st cs=>
        obtain⟨vs,hv,dS⟩:=oM;unfold pa;rw[ct];exact⟨vs,hv,X1 cs sK ht dS⟩
      have hr:=hA.dG;generalize out.dG=rs at one hr⊢
      match rs,one,hr with
      |[r],one,hr=>exact one 0 r v fe hr
      |[],one,hr=>exact hr.elim fun vs hr=>⟨vs,hr.1,hr.2.1,fun j r u hj hu=>one j r u (cS hj) (hr.2.2 j r u hj hu)⟩
      |r1::r2::rs,one,hr=>exact hr.elim fun vs hr=>⟨vs,hr.1,hr.2.1,fun j r u hj hu=>one j r u (cS hj) (hr.2.2 j r u hj hu)⟩
     obtain⟨xX,oG⟩:=Yf sH hd (fun x hx bC hU=>by
      rcases hU with hU|hU
      ·exact he x hx hU
      ·exact bC hU) Az sI h6
     refine hK _ _ _ _ (oG.mono (fun x hx=>?_) (Nat.le_refl _));rcases hx with(hx|hx)|hx
     ·exact .inl hx
     ·exact .inr (hx▸bJ.self e)
     ·exact .inr hx
   ·simp[Pg.run]at h4
 ·simp[Pg.run]at h4
end
end Go.Wr

