/-
  What is proved: lemmas for the laws. No condition.
-/
import Derived.Test.YtbghjecopkbhlaaGreatPa
set_option linter.unusedVariables false
set_option linter.unusedSimpArgs false
namespace Go.Wr
set_option maxRecDepth 20000
theorem Jg {l:List aa}{k:Nat}{x p:aa} (hx:l[k+1]?=some x) (hp:l[k]?=some p):nf l (k+1)=eK p x:=by simp[nf,hx,hp]
theorem Xr {l:List aa}{x:aa} (hx:l[0]?=some x):nf l 0=true:=by simp[nf,hx]
theorem Jf {l:List aa}{k:Nat}{x:aa} (hx:l[k]?=some x):sP l k=x.ok:=by simp[sP,hx]
theorem Xl {l:List aC}{k:Nat}{x:aC} (hx:l[k]?=some x):rG l k=x.bg.ok:=by simp[rG,hx]
theorem IM {l:List aC}{k:Nat}{x:aC} (hx:l[k]?=some x):pt l k=(x.BI==(nR (l.take k) x.bg.Key x.bg.eo:Int)):=by simp[pt,hx]
theorem Xd {x p:aa}:(decide (x.Key<p.Key)||(x.Key==p.Key&&decide (x.eo<=p.eo)))= !eK p x:=by
 unfold eK;rw[ma];simp only[pW,Y8,lC,Bool.or_eq_false_iff,Bool.and_eq_false_iff,decide_eq_true_eq,decide_eq_false_iff_not,beq_iff_eq,beq_eq_false_iff_ne];omega
theorem asF (h:aA) (hl:h.al<=4000000):M4 [.st (h.cs .n)]=some ⟨[.one (.b (pK h))],[]⟩:=by
 simp only[aA.al]at hl;have mr:=dA aa.al h.aJ;have SP:=dA aC.al h.bz
 (refine aP rfl ?_;show Ev adi.code _ _ _)
 repeat' (first|refine yy ?_|refine ym ?_|(apply ze;iterate 5 exact rfl)|(apply zf;iterate 5 exact rfl)|refine yp ?_|refine ak ?_|refine ai ?_|refine yt ?_ ?_|refine yo ?_|apply zn|refine yc ?_|exact rfl|intro _)
 refine cF (aa.el .n) h.aJ (fun i (_:Unit)=>[(1,.box ⟨0,0,0⟩ (h.cs .n)),(3,.x (iT i))]) (fun i _=>∀j,j<i->(sP h.aJ j&&nf h.aJ j)=true) () (by omega) rfl ?_ ?_
 ·rintro i _ e hx aF hc _ hinv ih;have rm:e.al<=4000000:=eQ (gk (f:=aa.al) hx) (by omega);cases i with
  |zero=>
   have h0:decide (((0:Nat):Int)>0)= !true:=rfl;have h1:decide (((0:Nat):Int)>0)=false:=rfl;have h2:false=false:=rfl
   repeat' (first|refine yy ?_|refine ym ?_|(apply ze;iterate 5 exact rfl)|(apply zf;iterate 5 exact rfl)|refine yp ?_|refine yi (aa.el .n e) (bH hx) ?_|refine yk sr (He e rm) ?_|refine ak ?_|refine ai ?_|refine yt ?_ ?_|refine yo ?_|apply zn|refine yc ?_|exact rfl|intro _)
   ·refine fin rfl (du ?_);rename_i h;have h3:e.ok=false:=by simpa using h
    rw[pK,Zn aF (by rw[Jf hx,h3];rfl),wI]
   ·rename_i h;have h3:e.ok=true:=by simpa using h
    refine ih () (mP hinv (by rw[Jf hx,h3,Xr hx];rfl)) _ _ ?_;rw[bU (by omega)];rfl
  |succ k=>
   have hp:=bF (show k<h.aJ.length by omega);generalize h.aJ[k]'(by omega)=p at hp;have hk:=JS (k:=k) (by omega);have kM:0<=IntKind.i64.wrap (((k+1:Nat):Int)-1):=by rw[hk];omega
   have mX:(h.aJ.map (aa.el .n))[(IntKind.i64.wrap (((k+1:Nat):Int)-1)).toNat]?=some (aa.el .n p):=by rw[hk];exact bH hp
   have h0:decide (((k+1:Nat):Int)>0)=true:=by simp
   repeat' (first|refine yy ?_|refine ym ?_|(apply ze;iterate 5 exact rfl)|(apply zf;iterate 5 exact rfl)|refine yp ?_|refine yi (aa.el .n e) (bH hx) ?_|refine yj (aa.el .n p) (kM) (mX) ?_|refine yk sr (He e rm) ?_|refine ak ?_|refine ai ?_|refine yt ?_ ?_|refine yo ?_|apply zn|refine yc ?_|exact rfl|intro _)
   ·refine fin rfl (du ?_);rename_i h;have h3:e.ok=false:=by simpa using h
    rw[pK,Zn aF (by rw[Jf hx,h3];rfl),wI]
   ·refine fin rfl (du ?_);rename_i _ h;rw[Xd]at h;have h3:eK p e=false:=by simpa using h
    rw[pK,Zn aF (by rw[Jg hx hp,h3,Y9]),wI]
   ·rename_i h4 h;rw[Xd]at h;have h5:e.ok=true:=by simpa using h4
    have h3:eK p e=true:=by simpa using h
    refine ih () (mP hinv (by rw[Jf hx,Jg hx hp,h3,h5];rfl)) _ _ ?_;rw[bU (i:=k+1) (by omega)];rfl
 ·rintro _ hc _ hinv;have h1:=Zo hinv
  repeat' (first|refine yy ?_|refine ym ?_|(apply ze;iterate 5 exact rfl)|(apply zf;iterate 5 exact rfl)|refine yp ?_|refine ak ?_|refine ai ?_|refine yt ?_ ?_|refine yo ?_|apply zn|refine yc ?_|exact rfl|intro _)
  refine cF (aC.el .n) h.bz (fun i (_:Unit)=>[(1,.box ⟨0,0,0⟩ (h.cs .n)),(5,.x (iT i))]) (fun i _=>∀j,j<i->(rG h.bz j&&pt h.bz j)=true) () (by omega) rfl ?_ ?_
  ·rintro i _ o hx aF hc _ hinv ih;have rm:o.bg.al<=4000000:=eQ (gk (f:=aC.al) hx) (by omega);have fg:0<=i/\i<=(h.bz.map (aC.el .n)).length:=by rw[cL];omega
   repeat' (first|refine yy ?_|refine ym ?_|(apply ze;iterate 5 exact rfl)|(apply zf;iterate 5 exact rfl)|refine yp ?_|refine yi (aC.el .n o) (bH hx) ?_|refine yk sr (He o.bg rm) ?_|(apply zu;exact rfl;exact Eg rfl rfl;exact rfl;exact(fg);exact rfl;exact JJ;exact rfl;exact rfl)|(apply zk FK;exact rfl;exact rfl;exact(afB (h.bz.take i) _ _ (by rw[fU];omega));iterate 3 exact rfl)|refine ak ?_|refine ai ?_|refine yt ?_ ?_|refine yo ?_|apply zn|refine yc ?_|exact rfl|intro _)
   ·refine fin rfl (du ?_);rename_i h4;have h3:(rG h.bz i&&pt h.bz i)=false:=by
     rw[Xl hx,IM hx]
     revert h4
     cases o.bg.ok<;>simp
    rw[pK,Zn aF h3,Y9]
   ·rename_i h4;refine ih () (mP hinv ?_) _ _ ?_
    ·rw[Xl hx,IM hx]
     revert h4
     cases o.bg.ok<;>simp
    ·rw[bU (by omega)];rfl
  ·rintro _ hc _ hinv
   repeat' (first|refine yy ?_|refine ym ?_|(apply ze;iterate 5 exact rfl)|(apply zf;iterate 5 exact rfl)|refine yp ?_|refine ak ?_|refine ai ?_|refine yt ?_ ?_|refine yo ?_|apply zn|refine yc ?_|exact rfl|intro _)
   refine fin rfl (du ?_);rw[pK,h1,Zo hinv];rfl
theorem tv {α:Type}{f:α->T}{l:List α} (n:Nat):(((l.map f).length:Int)!=(n:Nat))= !decide (l.length=n):=by
 rw[cL,ma];simp only[bne_iff_ne,ne_eq,lC,decide_eq_false_iff_not];omega
theorem Xe {h:aA}:(((((((h.bp.map (aD.el .n)).length:Int)!=3||((h.Rows.map (au.ls .n)).length:Int)!=3)||((h.cI.map (aK.el .n)).length:Int)!=2)|| !bq h.fT 0 1000)|| !bq h.kR 0 100000)=true)<->l9 h=false:=by
 rw[show(3:Int)=((3:Nat):Int) from rfl,show(2:Int)=((2:Nat):Int) from rfl,tv,tv,tv,l9];cases decide (h.bp.length=3)<;>cases decide (h.Rows.length=3)<;>cases decide (h.cI.length=2)<;>cases bq h.fT 0 1000<;>simp
theorem ZH {h:aA} (ht:l9 h=true):h.bp.length=3/\h.Rows.length=3/\h.cI.length=2:=by
 simp only[l9,Y8,decide_eq_true_eq]at ht;exact⟨ht.1.1.1.1,ht.1.1.1.2,ht.1.1.2⟩
theorem Cp {kb:Nat->au->Bool}{h:aA}{a:Nat}{s:aD}{rs:List au} (h1:h.bp[a]?=some s) (h2:h.Rows[a]?=some rs):pL kb h a=(s.ok h.aT.fm&&decide (rs.length=2)&&rs.all (kb a)):=by simp[pL,h1,h2]
theorem Ji {kb:Nat->au->Bool}{h:aA}{a:Nat} (ha:a<3) (h1:pL kb h a=false):gv kb h=false:=by
 rw[gv,Zn ha h1];simp
theorem ES {h:aA}{i k:Nat}{rs:List au}{r:au} (hl:h.al<=4000000) (hx:h.Rows[i]?=some rs) (hy:rs[k]?=some r):r.al<=4000000:=by
 have h1:=gk (f:=aS au.al) hx;have h2:=gk (f:=au.al) hy;unfold aA.al at hl;omega
theorem zB {h:aA}{i:Nat}{s:aD} (hl:h.al<=4000000) (hx:h.bp[i]?=some s):s.al<=4000000:=by
 have h1:=gk (f:=aD.al) hx;unfold aA.al at hl;omega
theorem JP {h:aA}{i:Nat}{s:aK} (hl:h.al<=4000000) (hx:h.cI[i]?=some s):s.al<=4000000:=by
 have h1:=gk (f:=aK.al) hx;unfold aA.al at hl;omega
theorem Yk {r:au} (hl:r.al<=4000000):(qI r).length<=4194304:=by
 unfold qI;split
 ·have h1:=EC r.bV [];have h2:=IQ r.bV;unfold au.al at hl;simp only[p7]at h1;omega
 ·simp
theorem asE (h:aA) (hl:h.al<=4000000):M3 [.st (h.cs .n)]=some ⟨[.one (.b (gv lu h))],[]⟩:=by
 (refine aP rfl ?_;show Ev adf.code _ _ _)
 repeat' (first|refine yy ?_|refine ym ?_|(apply zf;iterate 5 exact rfl)|refine yp ?_|refine yk eS (pI _ _ _) ?_|refine ak ?_|refine ai ?_|refine yt ?_ ?_|refine yo ?_|apply zn|refine yc ?_|exact rfl|intro _)
 ·refine fin rfl (du ?_);rename_i ht;rw[gv,Xe.1 ht];rfl
 ·rename_i ht;have AR:l9 h=true:=by
   cases e:l9 h with
   |true=>rfl
   |false=>exact absurd (Xe.2 e) (by rw[ht];simp)
  obtain⟨l3,l3r,l2t⟩:=ZH AR;refine cF (aD.el .n) h.bp (fun i (_:Unit)=>[(1,.box ⟨0,0,0⟩ (h.cs .n)),(3,.x (iT i))]) (fun i _=>∀j,j<i->pL lu h j=true) () (by omega) rfl ?_ ?_
  ·rintro i _ s hx aF _ _ hinv ih;have tU:i<3:=by omega
   have hc:decide ((i:Int)<3)=true:=by simp;omega
   have fQ:=bF (show i<h.Rows.length by omega);generalize h.Rows[i]'(by omega)=rs at fQ;have C8:=zB hl hx
   repeat' (first|refine yy ?_|refine ym ?_|(apply zf;iterate 5 exact rfl)|refine yp ?_|refine yi (aD.el .n s) (bH hx) ?_|refine yi (au.ls .n rs) (bH fQ) ?_|refine yk vf (LK s _ C8) ?_|refine ak ?_|refine ai ?_|refine yt ?_ ?_|refine yo ?_|apply zn|refine yc ?_|exact rfl|intro _)
   ·refine fin rfl (du ?_);rename_i h4;rw[Ji tU];rw[Cp hx fQ];rw[show(2:Int)=((2:Nat):Int) from rfl,tv]at h4
    revert h4
    cases s.ok h.aT.fm<;>cases decide (rs.length=2)<;>simp
   ·rename_i h4;rw[show(2:Int)=((2:Nat):Int) from rfl,tv]at h4;have h5:(s.ok h.aT.fm&&decide (rs.length=2))=true:=by
     revert h4
     cases s.ok h.aT.fm<;>cases decide (rs.length=2)<;>simp
    have h6:rs.length=2:=by simp only[Y8,decide_eq_true_eq]at h5;exact h5.2
    refine cF (au.el .n) rs (fun k (_:Unit)=>[(1,.box ⟨0,0,0⟩ (h.cs .n)),(3,.x (iT i)),(4,.x (iT k))]) (fun k _=>(rs.take k).all (lu i)=true) () (by simp) rfl ?_ ?_
    ·rintro k _ r hy kN _ _ cG fZ;have vI:decide ((k:Int)<2)=true:=by simp;omega
     have qq:=ES hl fQ hy;have KP:=Yk qq;have kp:0<=(i:Int)/\(i:Int)<=2:=by omega
     have oN:∀x∈qI r,fo x:=fun x hx=>(Pv r▸Pw r:dv (qI r)).span hx
     repeat' (first|refine yy ?_|refine ym ?_|(apply zf;iterate 5 exact rfl)|refine yp ?_|refine yi (au.ls .n rs) (bH fQ) ?_|refine yi (au.el .n r) (bH hy) ?_|refine yk Q6 (asB r qq) ?_|refine yk CS (Ua r qq) ?_|refine yv zW (T9 (qI r) _ KP kp oN) ?_|refine yv zZ (Ud (qI r) KP) ?_|refine ak ?_|refine ai ?_|refine yt ?_ ?_|refine yo ?_|apply zn|refine yc ?_|exact rfl|intro _)
     ·refine fin rfl (du ?_);rename_i h7;have h8:lu i r=false:=by
       rw[lu];revert h7;rw[bne];cases r.ok<;>simp
      rw[Ji tU];rw[Cp hx fQ,np (p:=lu i) hy h8,Y9]
     ·rename_i h7;have h8:lu i r=true:=by
       rw[lu];revert h7;rw[bne];cases r.ok<;>simp
      refine fZ () (nq (p:=lu i) cG hy h8) _ _ ?_;rw[bU (by omega)];rfl
    ·rintro _ _ _ cG;have vI:decide ((rs.length:Int)<2)=false:=by simp;omega
     repeat' (first|refine yy ?_|refine ym ?_|(apply zf;iterate 5 exact rfl)|refine yp ?_|refine ak ?_|refine ai ?_|refine yt ?_ ?_|refine yo ?_|apply zn|refine yc ?_|exact rfl|intro _)
     refine ih () (mP hinv ?_) _ _ ?_
     ·rw[Cp hx fQ,h5,nr cG];rfl
     ·rw[bU (by omega)];rfl
  ·rintro _ _ _ hinv;have hc:decide ((h.bp.length:Int)<3)=false:=by simp;omega
   have h7:eI 3 (pL lu h)=true:=Zo (l3▸hinv)
   repeat' (first|refine yy ?_|refine ym ?_|(apply zf;iterate 5 exact rfl)|refine yp ?_|refine ak ?_|refine ai ?_|refine yt ?_ ?_|refine yo ?_|apply zn|refine yc ?_|exact rfl|intro _)
   refine cF (aK.el .n) h.cI (fun i (_:Unit)=>[(1,.box ⟨0,0,0⟩ (h.cs .n)),(6,.x (iT i))]) (fun i _=>(h.cI.take i).all aK.ok=true) () (by simp) rfl ?_ ?_
   ·rintro i _ t hx aF _ _ hinv ih;have hc:decide ((i:Int)<2)=true:=by simp;omega
    have tT:=JP hl hx
    repeat' (first|refine yy ?_|refine ym ?_|(apply zf;iterate 5 exact rfl)|refine yp ?_|refine yi (aK.el .n t) (bH hx) ?_|refine yk FI (afz t tT) ?_|refine ak ?_|refine ai ?_|refine yt ?_ ?_|refine yo ?_|apply zn|refine yc ?_|exact rfl|intro _)
    ·refine fin rfl (du ?_);rename_i h4;have h5:t.ok=false:=by simpa using h4
     rw[gv,np (p:=aK.ok) hx h5,Y9]
    ·rename_i h4;have h5:t.ok=true:=by simpa using h4
     refine ih () (nq (p:=aK.ok) hinv hx h5) _ _ ?_;rw[bU (by omega)];rfl
   ·rintro _ _ _ hinv;have hc:decide ((h.cI.length:Int)<2)=false:=by simp;omega
    repeat' (first|refine yy ?_|refine ym ?_|(apply zf;iterate 5 exact rfl)|refine yp ?_|refine ak ?_|refine ai ?_|refine yt ?_ ?_|refine yo ?_|apply zn|refine yc ?_|exact rfl|intro _)
    refine fin rfl (du ?_);rw[gv,AR,h7,nr hinv];rfl
theorem Xf {h:aA}:((((((!h.aT.ok|| !bq h.kR 0 100000)||((h.bp.map (aD.el .n)).length:Int)!=3)||((h.Rows.map (au.ls .n)).length:Int)!=3)||((h.cI.map (aK.el .n)).length:Int)!=2)|| !bq h.fT 0 1000)=true)<->(h.aT.ok&&l9 h)=false:=by
 rw[show(3:Int)=((3:Nat):Int) from rfl,show(2:Int)=((2:Nat):Int) from rfl,tv,tv,tv,l9];cases h.aT.ok<;>cases decide (h.bp.length=3)<;>cases decide (h.Rows.length=3)<;>cases decide (h.cI.length=2)<;>cases bq h.fT 0 1000<;>simp
theorem Is {h:aA} (hl:h.al<=4000000):h.aT.dX.length<=4194304:=by
 unfold aA.al bR.al at hl;omega
theorem dv.len {s:List af} (h:dv s) (hl:s.length<=4194304):s.length<=4194304:=hl
theorem XL:∀(l o:List af),(l.foldl lZ o).length<=o.length+l.length
 |[],o=>by simp
 |x::l,o=>by
  have h1:=XL l (lZ o x);have h2:=XK o x;simp only[qP,dH];omega
theorem PS (s:List af):(pQ s).length<=s.length:=by
 have:=XL (mF s) [];rw[YM]at this;simpa[pQ]using this
theorem V1 {l:List aa}:(l.flatMap aa.aH).length<=aS aa.al l:=by
 rw[List.flatMap_def];exact IH (g:=aa.al) (fun e=>by unfold aa.al;omega) l
theorem Zma {r:au} (hl:r.al<=4000000):(qH r).length<=4194304:=by
 rw[Pv];exact Yk hl
theorem atw (h:aA) (hl:h.al<=4000000):N5 [.st (h.cs .n)]=some ⟨[.one (.b (h.aT.ok&&gv ke h&&eI h.aJ.length (nf h.aJ)))],[]⟩:=by
 have dV:=Is hl;have mr:=dA aa.al h.aJ
 (refine aP rfl ?_;show Ev aet.code _ _ _)
 repeat' (first|refine yy ?_|refine ym ?_|(apply ze;iterate 5 exact rfl)|(apply zf;iterate 5 exact rfl)|refine yp ?_|refine yk eL (oV _ _ _) ?_|refine yk Kq (atu h.aT dV) ?_|refine ak ?_|refine ai ?_|refine yt ?_ ?_|refine yo ?_|apply zn|refine yc ?_|exact rfl|intro _)
 ·refine fin rfl (du ?_);rename_i ht;rw[gv,<-Bool.and_assoc,<-Bool.and_assoc,Xf.1 ht];rfl
 ·rename_i ht;have AR:(h.aT.ok&&l9 h)=true:=by
   cases e:(h.aT.ok&&l9 h) with
   |true=>rfl
   |false=>exact absurd (Xf.2 e) (by rw[ht];simp)
  have hco:h.aT.ok=true:=by simp only[Y8]at AR;exact AR.1
  have vb:l9 h=true:=by simp only[Y8]at AR;exact AR.2
  obtain⟨l3,l3r,l2t⟩:=ZH vb;rw[hco,pX];refine cF (aD.el .n) h.bp (fun i (_:Unit)=>[(1,.box ⟨0,0,0⟩ (h.cs .n)),(46,.x (aD.ls .n h.bp)),(47,.x (iT (h.bp.map (aD.el .n)).length)),(48,.x (iT i))]) (fun i _=>∀j,j<i->pL ke h j=true) () (by omega) rfl ?_ ?_
  ·rintro i _ s hx aF hc _ hinv ih;have tU:i<3:=by omega
   have fQ:=bF (show i<h.Rows.length by omega);generalize h.Rows[i]'(by omega)=rs at fQ;have C8:=zB hl hx
   repeat' (first|refine yy ?_|refine ym ?_|(apply ze;iterate 5 exact rfl)|(apply zf;iterate 5 exact rfl)|refine yp ?_|refine yi (aD.el .n s) (bH hx) ?_|refine yi (au.ls .n rs) (bH fQ) ?_|refine yk vl (LU s _ C8) ?_|refine ak ?_|refine ai ?_|refine yt ?_ ?_|refine yo ?_|apply zn|refine yc ?_|exact rfl|intro _)
   ·refine fin rfl (du ?_);rename_i h4;rw[Ji tU];rfl;rw[Cp hx fQ];rw[show(2:Int)=((2:Nat):Int) from rfl,tv]at h4
    revert h4
    cases s.ok h.aT.fm<;>cases decide (rs.length=2)<;>simp
   ·rename_i h4;rw[show(2:Int)=((2:Nat):Int) from rfl,tv]at h4;have h5:(s.ok h.aT.fm&&decide (rs.length=2))=true:=by
     revert h4
     cases s.ok h.aT.fm<;>cases decide (rs.length=2)<;>simp
    have h6:rs.length=2:=by simp only[Y8,decide_eq_true_eq]at h5;exact h5.2
    refine cF (au.el .n) rs (fun k (_:Unit)=>[(1,.box ⟨0,0,0⟩ (h.cs .n)),(3,.x (iT i)),(46,.x (aD.ls .n h.bp)),(47,.x (iT (h.bp.map (aD.el .n)).length)),(48,.x (iT i)),(72,.x (au.ls .n rs)),(73,.x (iT (rs.map (au.el .n)).length)),(74,.x (iT k))]) (fun k _=>(rs.take k).all (ke i)=true) () (by simp) rfl ?_ ?_
    ·rintro k _ r hy kN dx _ cG fZ;have qq:=ES hl fQ hy;have KP:=Zma qq
     repeat' (first|refine yy ?_|refine ym ?_|(apply ze;iterate 5 exact rfl)|(apply zf;iterate 5 exact rfl)|refine yp ?_|refine yi (au.el .n r) (bH hy) ?_|refine yk CW (LR r qq) ?_|refine yk RO (atv r qq) ?_|refine yk vd (T7 _ _) ?_|refine yv F5 (afQ (qH r) _ _ KP) ?_|refine ak ?_|refine ai ?_|refine yt ?_ ?_|refine yo ?_|apply zn|refine yc ?_|exact rfl|intro _)
     ·refine fin rfl (du ?_);rename_i h7;have h8:ke i r=false:=by
       rw[ke];revert h7;cases r.ok<;>simp
      rw[Ji tU];rfl;rw[Cp hx fQ,np (p:=ke i) hy h8,Y9]
     ·rename_i h7;have h8:ke i r=true:=by
       rw[ke];revert h7;cases r.ok<;>simp
      refine fZ () (nq (p:=ke i) cG hy h8) _ _ ?_;rw[bU (by omega)];rfl
    ·rintro _ dx _ cG
     repeat' (first|refine yy ?_|refine ym ?_|(apply ze;iterate 5 exact rfl)|(apply zf;iterate 5 exact rfl)|refine yp ?_|refine ak ?_|refine ai ?_|refine yt ?_ ?_|refine yo ?_|apply zn|refine yc ?_|exact rfl|intro _)
     refine ih () (mP hinv ?_) _ _ ?_
     ·rw[Cp hx fQ,h5,nr cG];rfl
     ·rw[bU (by omega)];rfl
  ·rintro _ hc _ hinv;have h7:eI 3 (pL ke h)=true:=Zo (l3▸hinv)
   repeat' (first|refine yy ?_|refine ym ?_|(apply ze;iterate 5 exact rfl)|(apply zf;iterate 5 exact rfl)|refine yp ?_|refine ak ?_|refine ai ?_|refine yt ?_ ?_|refine yo ?_|apply zn|refine yc ?_|exact rfl|intro _)
   refine cF (aK.el .n) h.cI (fun i (_:Unit)=>[(1,.box ⟨0,0,0⟩ (h.cs .n)),(94,.x (aK.ls .n h.cI)),(95,.x (iT (h.cI.map (aK.el .n)).length)),(96,.x (iT i))]) (fun i _=>(h.cI.take i).all aK.ok=true) () (by simp) rfl ?_ ?_
   ·rintro i _ t hx aF hc _ hinv ih;have tT:=JP hl hx
    repeat' (first|refine yy ?_|refine ym ?_|(apply ze;iterate 5 exact rfl)|(apply zf;iterate 5 exact rfl)|refine yp ?_|refine yi (aK.el .n t) (bH hx) ?_|refine yk F6 (afR t tT) ?_|refine ak ?_|refine ai ?_|refine yt ?_ ?_|refine yo ?_|apply zn|refine yc ?_|exact rfl|intro _)
    ·refine fin rfl (du ?_);rename_i h4;have h5:t.ok=false:=by simpa using h4
     rw[gv,np (p:=aK.ok) hx h5,Y9];rfl
    ·rename_i h4;have h5:t.ok=true:=by simpa using h4
     refine ih () (nq (p:=aK.ok) hinv hx h5) _ _ ?_;rw[bU (by omega)];rfl
   ·rintro _ hc _ hinv;have h8:gv ke h=true:=by rw[gv,vb,h7,nr hinv];rfl
    rw[h8,pX]
    repeat' (first|refine yy ?_|refine ym ?_|(apply ze;iterate 5 exact rfl)|(apply zf;iterate 5 exact rfl)|refine yp ?_|refine ak ?_|refine ai ?_|refine yt ?_ ?_|refine yo ?_|apply zn|refine yc ?_|exact rfl|intro _)
    refine cF (aa.el .n) h.aJ (fun i (_:Unit)=>[(1,.box ⟨0,0,0⟩ (h.cs .n)),(105,.x (aa.ls .n h.aJ)),(106,.x (iT (h.aJ.map (aa.el .n)).length)),(107,.x (iT i))]) (fun i _=>∀j,j<i->nf h.aJ j=true) () (by omega) rfl ?_ ?_
    ·rintro i _ e hx aF hc _ hinv ih;have auN:h.aJ.length<=4000000:=by unfold aA.al at hl;omega
     cases i with
     |zero=>
      have h0:decide (((0:Nat):Int)>0)= !true:=rfl;have h1:decide (((0:Nat):Int)>0)=false:=rfl;have h2:false=false:=rfl
      repeat' (first|refine yy ?_|refine ym ?_|(apply ze;iterate 5 exact rfl)|(apply zf;iterate 5 exact rfl)|refine yp ?_|refine yi (aa.el .n e) (bH hx) ?_|refine ak ?_|refine ai ?_|refine yt ?_ ?_|refine yo ?_|apply zn|refine yc ?_|exact rfl|intro _)
      refine ih () (mP hinv (Xr hx)) _ _ ?_;rw[bU (by omega)];rfl
     |succ k=>
      have hp:=bF (show k<h.aJ.length by omega);generalize h.aJ[k]'(by omega)=p at hp;have hk:=JS (k:=k) (by omega);have kM:0<=IntKind.i64.wrap (((k+1:Nat):Int)-1):=by rw[hk];omega
      have mX:(h.aJ.map (aa.el .n))[(IntKind.i64.wrap (((k+1:Nat):Int)-1)).toNat]?=some (aa.el .n p):=by rw[hk];exact bH hp
      have h0:decide (((k+1:Nat):Int)>0)=true:=by simp
      repeat' (first|refine yy ?_|refine ym ?_|(apply ze;iterate 5 exact rfl)|(apply zf;iterate 5 exact rfl)|refine yp ?_|refine yi (aa.el .n e) (bH hx) ?_|refine yj (aa.el .n p) (kM) (mX) ?_|refine yk F7 (afS p e) ?_|refine ak ?_|refine ai ?_|refine yt ?_ ?_|refine yo ?_|apply zn|refine yc ?_|exact rfl|intro _)
      ·refine fin rfl (du ?_);rename_i h4;have h3:eK p e=false:=by simpa using h4
       rw[Zn aF (by rw[Jg hx hp,h3])]
      ·rename_i h4;have h3:eK p e=true:=by simpa using h4
       refine ih () (mP hinv (by rw[Jg hx hp,h3])) _ _ ?_;rw[bU (i:=k+1) (by omega)];rfl
    ·rintro _ hc _ hinv;rw[Zo hinv]
     repeat' (first|refine yy ?_|refine ym ?_|(apply ze;iterate 5 exact rfl)|(apply zf;iterate 5 exact rfl)|refine yp ?_|refine ak ?_|refine ai ?_|refine yt ?_ ?_|refine yo ?_|apply zn|refine yc ?_|exact rfl|intro _)
     exact fin rfl rfl
def nd (l:List aa) (a:Int):Int:=(l.map fun e=>jK e.aH a).sum
theorem Jc:∀(l:List aa) (a:Int),0<=nd l a/\nd l a<=60*aS aa.al l
 |[],a=>by simp[nd,aS]
 |e::l,a=>by
  have h1:=Jc l a;have h2:=EL e.aH a;have h3:e.aH.length<=e.al:=by unfold aa.al;omega
  unfold nd aS at h1⊢;simp only[fc,im,dH];omega
theorem Zgq {l:List aa}{i:Nat}{e:aa}{a:Int} (h:l[i]?=some e):nd (l.take (i+1)) a=nd (l.take i) a+jK e.aH a:=by
 unfold nd;rw[mb,h];simp
theorem Ei {α:Type} (f:α->Nat):∀(l:List α) (i:Nat),aS f (l.take i)<=aS f l
 |[],i=>by simp
 |x::l,0=>by simp[aS]
 |x::l,i+1=>by
  have:=Ei f l i;unfold aS at this⊢;simp only[List.take_succ_cons,fc,im,dH];omega
theorem Xs (l:List aC):aS aa.al (l.map aC.bg)=aS aC.al l:=by
 unfold aS;rw[cL,yW];rfl
theorem Eh {α:Type} (f:α->Nat) (a b:List α):aS f (a++b)=aS f a+aS f b:=by
 unfold aS;rw[jR,kh,List.sum_append];omega
theorem Zml (rs:List au):aS aa.al (nh rs)<=aS au.al rs:=by
 induction rs with
 |nil=>simp[nh,aS]
 |cons r rs ih=>
  have:nh (r::rs)=r.bV++nh rs:=rfl;rw[this,Eh];have e:aS au.al (r::rs)=1+r.al+aS au.al rs:=by unfold aS;simp;omega
  rw[e];unfold au.al at ih⊢;omega
theorem Zm6 (h:aA):aS aa.al (fR h)<=aS (aS au.al) h.Rows:=by
 rw[zx]
 induction h.Rows with
 |nil=>simp[aS]
 |cons rs l ih=>
  rw[fc,pd,Eh];have e:aS (aS au.al) (rs::l)=1+aS au.al rs+aS (aS au.al) l:=by unfold aS;simp;omega
  have:=Zml rs;omega
theorem Z6 (h:aA):aS aa.al (fx h)=aS aa.al h.aJ+aS aC.al h.bz:=by
 rw[fx,Eh,Xs]
theorem Zq {h:aA} (hl:h.al<=4000000):aS aa.al (cD h)<=4000000:=by
 rw[cD,Eh,Z6];have:=Zm6 h;unfold aA.al at hl;omega
theorem Z0 {l:List aa}{k:Nat}{e:aa} (h:l[k]?=some e):xj l k=jq (mA (l.take k) []) e.aH:=by simp[xj,h]
theorem Zt {h:aA} (hp:gv lu h=true) (hr:pK h=true):∀e∈cD h,e.ok=true:=by
 have h1:=Xw (fun a r h=>Jy h) (Xv h▸hp);rw[pK,Zk,Zk]at hr;simp only[Y8]at hr;intro e he;rcases kF.1 he with he|he
 ·exact h1 e he
 ·rcases kF.1 he with he|he
  ·exact Xk.1 hr.1.1 e he
  ·obtain⟨o,ho,rfl⟩:=jt.1 he;exact Xm.1 hr.2.1 o ho
theorem W0 {h:aA}{a:Nat}{s:aD} (hx:h.bp[a]?=some s):ui h a=(nd h.aJ a+nd (h.bz.map aC.bg) a==s.dM):=by
 simp only[ui,hx,nd,yW];rfl
theorem afC (h:aA) (hl:h.al<=4000000):HM [.st (h.cs .n)]=some ⟨[.one (.b (fu h))],[]⟩:=by
 have dV:=Is hl
 (refine aP rfl ?_;show Ev adl.code _ _ _)
 repeat' (first|refine yy ?_|refine ym ?_|(apply zf;iterate 5 exact rfl)|refine yp ?_|refine yk Ke (asw h.aT dV) ?_|refine yk Q9 (asE h hl) ?_|refine yk Ra (asF h hl) ?_|refine yk Q3 (asy h hl) ?_|refine ak ?_|refine ai ?_|refine yt ?_ ?_|refine yo ?_|apply zn|refine yc ?_|exact rfl|intro _)
 ·refine fin rfl (du ?_);rename_i h1;rw[fu];revert h1;cases h.aT.ok<;>cases gv lu h<;>cases pK h<;>simp
 ·rename_i h1;have h2:h.aT.ok=true/\gv lu h=true/\pK h=true:=by
   revert h1
   cases h.aT.ok<;>cases gv lu h<;>cases pK h<;>simp
  have bf:=Zt h2.2.1 h2.2.2;have lk:=Jj h2.2.1;have KB:=Zq hl;have qp:=dA aa.al (cD h);have hh:∀e∈cD h,∀x∈e.aH,dz x:=fun e he=>Cr (GZ (bf e he));refine cF (aa.el .n) (cD h) (fun i (ids:List af)=>[(1,.box ⟨0,0,0⟩ (h.cs .n)),(3,.own ⟨0,0,0⟩ (af.ls .y ids)),(4,.own ⟨0,0,0⟩ (.l .y 10 ((cD h).map (aa.el .n)))),(5,.x (iT i))]) (fun i ids=>ids=mA ((cD h).take i) []/\∀j,j<i->xj (cD h) j=true) [] ⟨rfl,by omega⟩ rfl ?_ ?_
  ·rintro i ids e hx aF hc _ ⟨hinv,R3⟩ ih;have hei:=cS hx;have KN:(mA ((cD h).take i) []).length<=_:=EC ((cD h).take i) [];rw[<-hinv]at KN;have Gv:=uP (f:=fun e:aa=>e.aH.length) hx;have Gw:=w8 (f:=fun e:aa=>e.aH.length) (l:=cD h) (i:=i+1);have my:=IQ (cD h);have SD:ids.length+e.aH.length<=4194304:=by
    unfold aS at Gw;simp only[pre,p7]at KN Gv Gw;omega
   have hl6:ids.length<=4194304:=by omega
   have hl7:e.aH.length<=4194304:=by omega
   have hih:∀z∈ids,dz z:=hinv▸OV (fun e he=>hh e (s9 he)) (by simp)
   repeat' (first|refine yy ?_|refine ym ?_|(apply zf;iterate 5 exact rfl)|refine yp ?_|refine yx (qV aF) ?_|refine yl (aa.el .n e) (EJ (bH hx)) ?_|refine yv FG (afx ids e.aH hl6 hl7) ?_|refine yw zY (Uc ids e.aH SD hih (hh e hei)) (tc rfl (cm (fun _=>rfl) _)) ?_|refine ak ?_|refine ai ?_|refine yt ?_ ?_|refine yo ?_|apply zn|refine yc ?_|exact rfl|intro _)
   ·refine fin rfl (du ?_);rename_i h4;have h5:xj (cD h) i=false:=by rw[Z0 hx,<-hinv];simpa using h4
    rw[fu,CB,Zn aF h5];simp
   ·rename_i h4;have h5:xj (cD h) i=true:=by rw[Z0 hx,<-hinv];simpa using h4
    refine ih (jA ids e.aH) ⟨by rw[hinv,mA,mA,B4 (f:=fun o (e:aa)=>jA o e.aH) hx],mP R3 h5⟩ _ _ ?_;rw[bU (by omega)];rfl
  ·rintro ids hc _ ⟨hinv,R3⟩;rw[eD]at hinv;have h6:CB (cD h)=true:=Zo R3;have Sz:ids.length<=4194304:=by
    have:(mA (cD h) []).length<=_:=EC (cD h) [];have my:=IQ (cD h);rw[<-hinv]at this;simp only[p7]at this;omega
   repeat' (first|refine yy ?_|refine ym ?_|(apply zf;iterate 5 exact rfl)|refine yp ?_|refine yk Rb (asG h hl lk) ?_|refine yv Rc (asH ids ((fH h.bp 0).foldl gh []) Sz) ?_|refine ak ?_|refine ai ?_|refine yt ?_ ?_|refine yo ?_|apply zn|refine yc ?_|exact rfl|intro _)
   ·refine fin rfl (du ?_);rename_i h4;rw[hinv]at h4;have h5:decide (mA (cD h) []=(fH h.bp 0).foldl gh [])=false:=by simpa using h4
    rw[fu,h5];simp
   ·rename_i h4;rw[hinv]at h4;have h5:decide (mA (cD h) []=(fH h.bp 0).foldl gh [])=true:=by simpa using h4
    have mr:=dA aa.al h.aJ;have SP:=dA aC.al h.bz;have Df:aS aa.al h.aJ<=4000000/\aS aC.al h.bz<=4000000:=by unfold aA.al at hl;omega
    refine cF (aD.el .n) h.bp (fun i (_:Unit)=>[(1,.box ⟨0,0,0⟩ (h.cs .n)),(6,.x (iT i))]) (fun i _=>∀j,j<i->ui h j=true) () (by omega) rfl ?_ ?_
    ·rintro i _ s hx aF _ _ tX ih;have tU:i<3:=lk.1▸aF;have hc:decide ((i:Int)<3)=true:=by simp;omega
     have kp:0<=(i:Int)/\(i:Int)<=2:=by omega
     repeat' (first|refine yy ?_|refine ym ?_|(apply zf;iterate 5 exact rfl)|refine yp ?_|refine ak ?_|refine ai ?_|refine yt ?_ ?_|refine yo ?_|apply zn|refine yc ?_|exact rfl|intro _)
     refine cF (aa.el .n) h.aJ (fun k (n:Int)=>[(1,.box ⟨0,0,0⟩ (h.cs .n)),(6,.x (iT i)),(7,.x (iT n)),(8,.x (iT k))]) (fun k n=>n=nd (h.aJ.take k) i) 0 rfl rfl ?_ ?_
     ·rintro k n e hy kN dx _ cG fZ;have Sf:e∈cD h:=nX _ (pf _ (cS hy));have rm:e.aH.length<=4194304:=by
       have:=gk (f:=aa.al) hy;unfold aa.al at this Df;omega
      have dg:∀x∈e.aH,fo x:=fun x hx=>(jj (bf e Sf)).span hx;have eN:=Jc (h.aJ.take k) i;have dt:=EL e.aH i;have lQ:=Ei aa.al h.aJ k
      repeat' (first|refine yy ?_|refine ym ?_|(apply zf;iterate 5 exact rfl)|refine yp ?_|refine yi (aa.el .n e) (bH hy) ?_|refine yk zW (T9 e.aH _ rm kp dg) ?_|refine ak ?_|refine ai ?_|refine yt ?_ ?_|refine yo ?_|apply zn|refine yc ?_|exact rfl|intro _)
      refine fZ _ (Zgq hy).symm _ _ ?_;rw[cG,dQ (n:=nd (h.aJ.take k) i+jK e.aH i) (by omega),bU (by omega)];rfl
     ·rintro n dx _ cG;rw[eD]at cG
      repeat' (first|refine yy ?_|refine ym ?_|(apply zf;iterate 5 exact rfl)|refine yp ?_|refine ak ?_|refine ai ?_|refine yt ?_ ?_|refine yo ?_|apply zn|refine yc ?_|exact rfl|intro _)
      refine cF (aC.el .n) h.bz (fun k (n:Int)=>[(1,.box ⟨0,0,0⟩ (h.cs .n)),(6,.x (iT i)),(7,.x (iT n)),(9,.x (iT k))]) (fun k m=>m=n+nd ((h.bz.take k).map aC.bg) i) n (by simp[nd]) rfl ?_ ?_
      ·rintro k m o hy kN dx _ sB fZ;have Sf:o.bg∈cD h:=nX _ (nX _ (jt.2 ⟨o,cS hy,rfl⟩));have rm:o.bg.aH.length<=4194304:=by
        have:=gk (f:=aC.al) hy;unfold aC.al aa.al at this;unfold aC.al aa.al at Df;omega
       have dg:∀x∈o.bg.aH,fo x:=fun x hx=>(jj (bf o.bg Sf)).span hx;have jd:=Jc h.aJ i;have eN:=Jc ((h.bz.take k).map aC.bg) i;have dt:=EL o.bg.aH i;have lQ:=Ei aC.al h.bz k;rw[Xs]at eN;have hsu:nd ((h.bz.take (k+1)).map aC.bg) i=nd ((h.bz.take k).map aC.bg) i+jK o.bg.aH i:=by
        rw[km hy];simp[nd]
       repeat' (first|refine yy ?_|refine ym ?_|(apply zf;iterate 5 exact rfl)|refine yp ?_|refine yi (aC.el .n o) (bH hy) ?_|refine yk zW (T9 o.bg.aH _ rm kp dg) ?_|refine ak ?_|refine ai ?_|refine yt ?_ ?_|refine yo ?_|apply zn|refine yc ?_|exact rfl|intro _)
       refine fZ _ rfl _ _ ?_;rw[hsu,<-Int.add_assoc,<-sB,dQ (n:=m+jK o.bg.aH i) (by omega),bU (by omega)];rfl
      ·rintro m dx _ sB;rw[eD,cG]at sB
       repeat' (first|refine yy ?_|refine ym ?_|(apply zf;iterate 5 exact rfl)|refine yp ?_|refine yi (aD.el .n s) (bH hx) ?_|refine ak ?_|refine ai ?_|refine yt ?_ ?_|refine yo ?_|apply zn|refine yc ?_|exact rfl|intro _)
       ·refine fin rfl (du ?_);rename_i h7;have h8:ui h i=false:=by rw[W0 hx,<-sB];simpa using h7
        rw[fu,Zn tU h8];simp
       ·rename_i h7;have h8:ui h i=true:=by rw[W0 hx,<-sB];simpa using h7
        refine ih () (mP tX h8) _ _ ?_;rw[bU (by omega)];rfl
    ·rintro _ _ _ tX;have hc:decide ((h.bp.length:Int)<3)=false:=by rw[lk.1];rfl
     have h9:eI 3 (ui h)=true:=Zo (lk.1▸tX)
     repeat' (first|refine yy ?_|refine ym ?_|(apply zf;iterate 5 exact rfl)|refine yp ?_|refine ak ?_|refine ai ?_|refine yt ?_ ?_|refine yo ?_|apply zn|refine yc ?_|exact rfl|intro _)
     refine fin rfl (du ?_);rw[fu,h2.1,h2.2.1,h2.2.2,h5,h6,h9];rfl
theorem DC (h:aA) (hl:h.al<=4000000):yJ [.st (h.cs .n)]=some ⟨[.one (.b (li h))],[]⟩:=by
 have KB:=Zq hl;have qp:=dA aa.al (cD h);have dJ:((fR h).map (aa.el .n)).length+((fx h).map (aa.el .n)).length<cQ:=by
  rw[cL,cL];unfold cQ;have e:(cD h).length=(fR h).length+(fx h).length:=by rw[cD,jR]
  omega
 have aba:(fR h).map (aa.el .n)++(fx h).map (aa.el .n)=(cD h).map (aa.el .n):=by rw[cD,kh]
 have amx:D5 [.x (.l .n 10 (bO ((fR h).map (aa.el .n)++(fx h).map (aa.el .n))))]=some ⟨[.one (.b (kI (cD h)))],[]⟩:=by
  rw[aba,IL];exact afO (cD h) KB
 have KU:=atw h hl;cases hp:(h.aT.ok&&gv ke h&&eI h.aJ.length (nf h.aJ)) with
 |false=>
  rw[hp]at KU;have h1:(!false)= !false:=rfl;have h2:(!false)=true:=rfl;have h3:true=true:=rfl
  (refine aP rfl ?_;show Ev TI.code _ _ _)
  repeat' (first|refine yy ?_|refine ym ?_|(apply zf;iterate 5 exact rfl)|refine yp ?_|refine yk Kr (KU) ?_|refine ak ?_|refine ai ?_|refine yt ?_ ?_|refine yo ?_|apply zn|refine yc ?_|exact rfl|intro _)
  refine fin rfl (du ?_);rw[li,hp];simp
 |true=>
  rw[hp]at KU;have h1:(!true)=false:=rfl;have ams:aS aa.al (fx h)<=4000000:=by rw[cD,Eh]at KB;omega
  have KN:yI [.x (.l .n 10 (bO ((fR h).map (aa.el .n)++(fx h).map (aa.el .n))))]=yI [.x (aa.ls .n (cD h))]:=by
   rw[aba,IL]
  (refine aP rfl ?_;show Ev TI.code _ _ _)
  repeat' (first|refine yy ?_|refine ym ?_|(apply zf;iterate 5 exact rfl)|refine yp ?_|refine yk Kr (KU) ?_|refine yk Af (Uo h hl) ?_|refine yk CU (afJ h hl) ?_|(apply B7;(iterate 4 exact rfl);exact(IL _);exact(dJ);iterate 3 exact rfl)|refine yk F2 (amx) ?_|refine ak ?_|refine ai ?_|refine yt ?_ ?_|refine yo ?_|apply zn|refine yc ?_|exact rfl|intro _)
  ·refine fin rfl (du ?_);rename_i h4;have h5:kI (cD h)=false:=by simpa using h4
   rw[li,h5];simp
  ·rename_i h4;have si:kI (cD h)=true:=by simpa using h4
   have hpp:gv ke h=true:=by simp only[Y8]at hp;exact hp.1.2
   have lk:=Jj hpp;have r3:=Ov si;have hdh:∀e∈fx h,∀x∈e.aH,dz x:=fun e he=>r3 e (nX _ he);have Sz:(j6 (fx h)).length<=4194304:=eQ (PS _) (eQ V1 (by omega));have auz:(j6 (cD h)).length<=4194304:=eQ (PS _) (eQ V1 (by omega));have KK:=Un (fx h) ams hdh;have ane:=KN.trans (Un (cD h) KB r3);have K5:=Cv h.bp 0;have nc:aS aD.al h.bp<=4000000:=by unfold aA.al at hl;omega
   have oO:=Cw (l:=h.bp) (a:=0) lk.2 (by rw[lk.1];omega)
   repeat' (first|refine yy ?_|refine ym ?_|(apply zf;iterate 5 exact rfl)|refine yp ?_|refine yw Ae (KK) (tc rfl (cm (fun _=>rfl) _)) ?_|refine ak ?_|refine ai ?_|refine yt ?_ ?_|refine yo ?_|apply zn|refine yc ?_|exact rfl|intro _)
   refine cF (aD.el .n) h.bp (fun i (tk:List af)=>[(1,.box ⟨0,0,0⟩ (h.cs .n)),(3,.own ⟨0,0,0⟩ (af.ls .y tk)),(4,.own ⟨0,0,0⟩ (af.ls .y (j6 (fx h)))),(29,.x (aD.ls .n h.bp)),(30,.x (iT (h.bp.map (aD.el .n)).length)),(31,.x (iT i))]) (fun i tk=>tk=fH (h.bp.take i) 0/\∀j,j<i->sM h j=true) [] ⟨rfl,by omega⟩ rfl ?_ ?_
   ·rintro i tk s hx aF hc _ ⟨hinv,tX⟩ ih;have tU:i<3:=lk.1▸aF;have hr:=lk.2 s (cS hx)
    repeat' (first|refine yy ?_|refine ym ?_|(apply zf;iterate 5 exact rfl)|refine yp ?_|refine yi (aD.el .n s) (bH hx) ?_|refine ak ?_|refine ai ?_|refine yt ?_ ?_|refine yo ?_|apply zn|refine yc ?_|exact rfl|intro _)
    refine cF (fun k:Nat=>iT k) (List.range 60) (fun k (n:Nat)=>[(1,.box ⟨0,0,0⟩ (h.cs .n)),(3,.own ⟨0,0,0⟩ (af.ls .y tk)),(4,.own ⟨0,0,0⟩ (af.ls .y (j6 (fx h)))),(5,.x (iT i)),(6,.box ⟨0,0,0⟩ (s.cs .n)),(7,.x (iT n)),(8,.x (iT ((k:Int)+1))),(29,.x (aD.ls .n h.bp)),(30,.x (iT (h.bp.map (aD.el .n)).length)),(31,.x (iT i))]) (fun k n=>n=et (j6 (fx h)) i k) 0 rfl rfl ?_ ?_
    ·rintro k n x hy kN _ _ cG fZ;rw[List.length_range]at kN;have dx:decide ((k:Int)+1<=60)=true:=by simp;omega
     have vF:=zg (a:=i) (by omega) (s:=(k:Int)+1) (by omega);have hn:n<=k:=by rw[cG];unfold et;exact eQ List.countP_le_length (by simp)
     have Gj:et (j6 (fx h)) i (k+1)=et (j6 (fx h)) i k+if uo (j6 (fx h)) (nI i ((k:Int)+1)) then 1 else 0:=by
      rw[vF];unfold et;rw[List.range_succ,List.countP_append,List.countP_singleton]
     have vO:IntKind.i64.wrap ((k:Int)+1+1)=((k+1:Nat):Int)+1:=by rw[dQ (by omega)];omega
     repeat' (first|refine yy ?_|refine ym ?_|(apply zf;iterate 5 exact rfl)|refine yp ?_|refine yk vd (T7 _ _) ?_|refine yv Rs (as0 (j6 (fx h)) _ Sz) ?_|refine ak ?_|refine ai ?_|refine yt ?_ ?_|refine yo ?_|apply zn|refine yc ?_|exact rfl|intro _)
     ·rename_i h5;refine fZ (n+1) (by rw[Gj,<-cG,if_pos h5]) _ _ ?_;rw[bU (i:=n) (by omega),vO];rfl
     ·rename_i h5;refine fZ n (by rw[Gj,<-cG,if_neg (by rw[h5];simp),pc]) _ _ ?_;rw[vO];rfl
    ·rintro n _ _ cG;rw[List.length_range]at cG⊢;have dx:decide (((60:Nat):Int)+1<=60)=false:=rfl
     repeat' (first|refine yy ?_|refine ym ?_|(apply zf;iterate 5 exact rfl)|refine yp ?_|refine ak ?_|refine ai ?_|refine yt ?_ ?_|refine yo ?_|apply zn|refine yc ?_|exact rfl|intro _)
     ·refine fin rfl (du ?_);rename_i h5;have h6:sM h i=false:=by
       simp only[sM,hx];rw[<-cG];simpa using h5
      rw[li,Zn tU h6];simp
     ·rename_i h5;have h6:sM h i=true:=by
       simp only[sM,hx];rw[<-cG];simpa using h5
      have auQ:=Cv (h.bp.take i) 0;have tT:=Ei aD.al h.bp i;have C8:s.bK.length<=4000000:=eQ (gk (f:=aD.al) hx) nc;have GI:tk.length<=4000000:=by rw[hinv];omega
      refine cF (af.el .n) s.bK (fun k (o:List af)=>[(1,.box ⟨0,0,0⟩ (h.cs .n)),(3,.own ⟨0,0,0⟩ (af.ls .y o)),(4,.own ⟨0,0,0⟩ (af.ls .y (j6 (fx h)))),(5,.x (iT i)),(6,.box ⟨0,0,0⟩ (s.cs .n)),(29,.x (aD.ls .n h.bp)),(30,.x (iT (h.bp.map (aD.el .n)).length)),(31,.x (iT i)),(52,.x (af.ls .n s.bK)),(53,.x (iT (s.bK.map (af.el .n)).length)),(54,.x (iT k))]) (fun k o=>o=tk++(s.bK.take k).map (mE i)) tk (by simp) rfl ?_ ?_
      ·rintro k o x hy kN dx _ sB ih3;have fQ:=hr x (cS hy);have AP:(⟨nI i x.Lo,nI i x.Hi⟩:af)=mE i x:=by
        rw[zg (by omega) (by omega),zg (by omega) (by omega)];rfl
       have vw:(o.map (af.el .y)).length+([af.mk (nI i x.Lo) (nI i x.Hi)].map (af.el .n)).length<cQ:=by
        rw[cL,sB,jR,cL,fU];simp[cQ];omega
       repeat' (first|refine yy ?_|refine ym ?_|(apply zf;iterate 5 exact rfl)|refine yp ?_|refine yi (af.el .n x) (bH hy) ?_|refine yk vd (T7 _ _) ?_|(apply zv;(iterate 7 exact rfl);exact(vw);exact(rfl);exact rfl;exact rfl)|refine ak ?_|refine ai ?_|refine yt ?_ ?_|refine yo ?_|apply zn|refine yc ?_|exact rfl|intro _)
       refine ih3 (o++[⟨nI i x.Lo,nI i x.Hi⟩]) ?_ _ _ ?_
       ·rw[AP,sB,km hy,gY]
       ·rw[bU (by omega),EI];rfl
      ·rintro o dx _ sB;rw[eD]at sB
       repeat' (first|refine yy ?_|refine ym ?_|(apply zf;iterate 5 exact rfl)|refine yp ?_|refine ak ?_|refine ai ?_|refine yt ?_ ?_|refine yo ?_|apply zn|refine yc ?_|exact rfl|intro _)
       refine ih o ⟨by rw[sB,hinv,ZD hx],mP tX h6⟩ _ _ ?_;rw[bU (by omega)];rfl
   ·rintro tk hc _ ⟨hinv,tX⟩;rw[eD]at hinv;have hmr:eI 3 (sM h)=true:=Zo (lk.1▸tX);have abC:tk.length<=4194304:=by rw[hinv];omega
    have aov:∀x∈tk,dz x:=fun x hx=>(oO x (hinv▸hx)).hi;have xK:(pQ tk).length<=4194304:=eQ (PS tk) abC
    repeat' (first|refine yy ?_|refine ym ?_|(apply zf;iterate 5 exact rfl)|refine yp ?_|refine yw Ad (Um tk abC aov) (tc rfl (cm (fun _=>rfl) _)) ?_|refine yk Af (Uo h hl) ?_|refine yk CU (afJ h hl) ?_|(apply B7;(iterate 4 exact rfl);exact(IL _);exact(dJ);iterate 3 exact rfl)|refine yw Ae (ane) (tc rfl (cm (fun _=>rfl) _)) ?_|refine yv RP (atx (pQ tk) (j6 (cD h)) xK) ?_|refine ak ?_|refine ai ?_|refine yt ?_ ?_|refine yo ?_|apply zn|refine yc ?_|exact rfl|intro _)
    ·refine fin rfl (du ?_);rename_i h5;rw[hinv]at h5;have h6:decide (pQ (fH h.bp 0)=j6 (cD h))=false:=by simpa using h5
     rw[li,h6];simp
    ·rename_i h5;rw[hinv]at h5;have h6:decide (pQ (fH h.bp 0)=j6 (cD h))=true:=by simpa using h5
     have SP:=dA aC.al h.bz;have dq:h.bz.length<=4000000:=by unfold aA.al at hl;omega
     rw[li,hp,si,hmr,h6];refine cF (aC.el .n) h.bz (fun i (_:Unit)=>[(1,.box ⟨0,0,0⟩ (h.cs .n)),(83,.x (aC.ls .n h.bz)),(84,.x (iT (h.bz.map (aC.el .n)).length)),(85,.x (iT i))]) (fun i _=>∀j,j<i->pt h.bz j=true) () (by omega) rfl ?_ ?_
     ·rintro i _ o hx aF hc _ cG ih;have fg:0<=i/\i<=(h.bz.map (aC.el .n)).length:=by rw[cL];omega
      repeat' (first|refine yy ?_|refine ym ?_|(apply zf;iterate 5 exact rfl)|refine yp ?_|refine yi (aC.el .n o) (bH hx) ?_|(apply zu;exact rfl;exact Eg rfl rfl;exact rfl;exact(fg);exact rfl;exact JJ;exact rfl;exact rfl)|(apply zk F8;exact rfl;exact rfl;exact(afT (h.bz.take i) _ _ (by rw[fU];omega));iterate 3 exact rfl)|refine ak ?_|refine ai ?_|refine yt ?_ ?_|refine yo ?_|apply zn|refine yc ?_|exact rfl|intro _)
      ·refine fin rfl (du ?_);rename_i h7;have h8:pt h.bz i=false:=by rw[IM hx];simpa using h7
       rw[Zn aF h8];rfl
      ·rename_i h7;have h8:pt h.bz i=true:=by rw[IM hx];simpa using h7
       refine ih () (mP cG h8) _ _ ?_;rw[bU (by omega)];rfl
     ·rintro _ hc _ cG;rw[Zo cG]
      repeat' (first|refine yy ?_|refine ym ?_|(apply zf;iterate 5 exact rfl)|refine yp ?_|refine ak ?_|refine ai ?_|refine yt ?_ ?_|refine yo ?_|apply zn|refine yc ?_|exact rfl|intro _)
      exact fin rfl rfl
end Go.Wr

