/-
  What is proved: lemmas for the laws. No condition.
-/
import Derived.Test.YtbghjecopkbhlaaGreatQj
import Derived.Test.YtbghjecopkbhlaaGreatPc
import Derived.Test.YtbghjecopkbhlaaGreatQl
import Derived.Test.YtbghjecopkbhlaaGreatQd
set_option linter.unusedVariables false
set_option linter.unusedSimpArgs false
namespace Go.Wr
set_option maxRecDepth 20000
def vY (st:aA->Option aA):Nat->aA->aA
 |0,h=>h
 |n+1,h=>match st h with|some h'=>vY st n h'|none=>h
theorem WD {st:aA->Option aA}{n:Nat}{h h':aA} (hs:st h=some h'):vY st (n+1) h=vY st n h':=by
 simp only[vY,hs]
theorem WC {st:aA->Option aA}{n:Nat}{h:aA} (hs:st h=none):vY st n h=h:=by
 cases n with
 |zero=>rfl
 |succ n=>simp only[vY,hs]
def gA (st:aA->Option aA) (h:aA):aA×Bool:=match st h with|some h'=>(h',true)|none=>(h,false)
theorem YR {gx gz:Nat}{Fx Fz:aB}{h h0 r:aA}{st:aA->Option aA}{I:aA->Prop} (h1:Fx [.st (h.cs .n)]=some ⟨[.st (h0.cs .y)],[]⟩) (hI:I h0) {n:Nat} (hr:vY st n h0=r) (Si:st r=none)
  (bD:∀g,I g->Fz [.st (g.cs .n)]=some ⟨[.st ((gA st g).1.cs .y),.one (.b (gA st g).2)],[]⟩/\∀g',st g=some g'->I g'):lock (aQ (Ic gx Fx gz Fz)) [.st (h.cs .n)]=some ⟨[.st (r.cs .y)],[]⟩:=by
 refine aP rfl ?_;show Ev (Ic gx Fx gz Fz).code _ _ _
 repeat' (first|refine yy ?_|refine ym ?_|(apply ze;iterate 5 exact rfl)|(apply zf;iterate 5 exact rfl)|refine yp ?_|refine yw gx h1 (wW (aA.cl _) rfl) ?_|refine ak ?_|refine ai ?_|refine yt ?_ ?_|refine yo ?_|apply zn|refine yc ?_|exact rfl|intro _)
 show Ev (.loop _ _) _ _ _;refine jS (fun i (g:aA)=>[(2,.box ⟨0,0,0⟩ (aA.zero.cs .y)),(3,.box ⟨0,0,0⟩ (g.cs .y))]) (fun i g=>I g/\vY st (n-i) g=r) n h0 ⟨hI,hr⟩ rfl ?_;rintro i g hi ⟨hg,Dk⟩ ih;obtain⟨h2,h3⟩:=bD g hg;cases hs:st g with
 |none=>
  rw[WC hs]at Dk;subst Dk;rw[show gA st g=(g,false) by unfold gA;rw[hs]]at h2
  repeat' (first|refine yy ?_|refine ym ?_|(apply ze;iterate 5 exact rfl)|(apply zf;iterate 5 exact rfl)|refine yp ?_|refine yw gz h2 (uJ (aA.cl _) rfl) ?_|refine ak ?_ (ht:=rfl)|refine ak ?_|refine ai ?_|refine yt ?_ ?_|refine yo ?_|apply zn|refine yc ?_|exact rfl|intro _)
  exact fin rfl (by simp only[bN];rfl)
 |some g'=>
  obtain⟨m,hm⟩:∃m,n-i=m+1:=by
   cases hm:n-i with
   |zero=>rw[hm]at Dk;rw[show g=r from Dk]at hs;rw[hs]at Si;cases Si
   |succ m=>exact⟨m,rfl⟩
  rw[hm,WD hs]at Dk;rw[show gA st g=(g',true) by unfold gA;rw[hs]]at h2;have aF:i<n:=by omega
  have mZ:n-(i+1)=m:=by omega
  have go:=ih g' aF ⟨h3 g' hs,by rw[mZ];exact Dk⟩;clear ih h3 hs Si bD
  repeat' (first|refine yy ?_|refine ym ?_|(apply ze;iterate 5 exact rfl)|(apply zf;iterate 5 exact rfl)|refine yp ?_|refine yw gz h2 (uJ (aA.cl _) rfl) ?_|refine ai ?_ (ht:=rfl)|refine ak ?_|refine ai ?_|refine yt ?_ ?_|refine yo ?_|apply zn|refine yc ?_|exact rfl|intro _)
  exact go _ _ (by simp only[bN];rfl)
def yr (h:aA):Option aA:=if fu h then stepG h else none
theorem YP {h:aA} (hh:fu h=true):gA yr h=pN h:=by
 unfold gA pN yr;rw[if_pos hh];cases stepG h<;>rfl
theorem atf (h:aA) (hl:h.al<=4000000):D1 [.st (h.cs .n)]=some ⟨[.st ((gA yr h).1.cs .y),.one (.b (gA yr h).2)],[]⟩:=by
 cases hh:fu h with
 |false=>
  have h1:gA yr h=(h,false):=by unfold gA yr;rw[if_neg (by rw[hh];simp)]
  rw[h1];exact Wp h hl (.inl (by rw[qU];exact hh))
 |true=>
  by_cases hn:eM h 0=false/\eM h 1=false
  ·have h2:=(EK (th hh) hn).1;have h1:gA yr h=(h,false):=by unfold gA yr;rw[if_pos hh];unfold stepG;rw[h2]
   rw[h1];exact Wp h hl (.inr hn)
  ·rw[YP hh];exact Zb9 h hh hl hn
theorem Zq4 (h:aA) (hh:fu h=true) (hl:h.al<=4000000) (hn:eM h 0=false/\eM h 1=false):D3 [.st (h.cs .n)]=some ⟨[.st (h.cs .y),.one (.b false)],[]⟩:=by
 have h1:=Zq2 h (th hh) hl hn;have h2:=Dx h hl
 (refine aP rfl ?_;show Ev GX.code _ _ _)
 repeat' (first|refine yk Ko (h1) ?_|refine yk mh (h2) ?_|refine ak ?_ (ht:=rfl)|refine ak ?_|refine ai ?_|refine yt ?_ ?_|refine yo ?_|apply zn|refine yc ?_|intro _)
 show ∃l',(leave GX).ev _=some (_,l');exact fin rfl (by(try simp only[bN]);rfl)
theorem atn (h:aA) (hh:fu h=true) (hl:h.al<=4000000):D3 [.st (h.cs .n)]=some ⟨[.st ((gA stepG h).1.cs .y),.one (.b (gA stepG h).2)],[]⟩:=by
 by_cases hn:eM h 0=false/\eM h 1=false
 ·have h2:=(EK (th hh) hn).1;rw[show gA stepG h=(h,false) by unfold gA stepG;rw[h2]];exact Zq4 h hh hl hn
 ·exact Zq5 h hh hl hn
theorem Z8b {h:aA} (t:aa->Bool) (hr:h.aJ.isEmpty=true):kJ t h=h:=by
 obtain⟨cf,ck,cd,ss,rows,ts,si,ro,ou⟩:=h;simp only[List.isEmpty_iff]at hr;subst hr;rfl
theorem Iw {h:aA} (hc:(fu h&&h.gT)=false):gA ir h=(h,false):=by
 unfold gA ir;rw[hc];rfl
theorem VJ {h h':aA} (hc:(fu h&&h.gT)=true) (hs:stepG h=some h'):gA ir h=(h',true):=by
 unfold gA ir;rw[if_pos hc,hs]
theorem VI {h:aA} (hc:(fu h&&h.gT)=true) (hs:stepG h=none):gA ir h=if h.aJ.isEmpty then(h,false) else(kJ mQ h,true):=by
 unfold gA ir;rw[if_pos hc,hs];simp only;cases h.aJ.isEmpty<;>rfl
theorem Yh (l:List aa):decide (((l.map (aa.el .y)).length:Int)>0)= !l.isEmpty/\decide (((l.map (aa.el .n)).length:Int)>0)= !l.isEmpty/\(((l.map (aa.el .n)).length:Int)==0)=l.isEmpty:=by
 cases l with
 |nil=>exact⟨rfl,rfl,rfl⟩
 |cons a l=>
  refine⟨?_,?_,?_⟩
  ·simp
  ·simp
  ·simp only[List.isEmpty_cons,beq_eq_false_iff_ne,fc,dH];omega
set_option maxHeartbeats 2000000 in
theorem ato (h:aA) (hl:h.al<=4000000):NU [.st (h.cs .n)]=some ⟨[.st ((gA ir h).1.cs .y),.one (.b (gA ir h).2)],[]⟩:=by
 have h1:=DC h hl;rw[qU]at h1;have h2:=Hf h hl;have h3:=atf h hl;have h4:=asZ h hl;have iD:=Yh h.aJ;cases hh:fu h with
 |false=>
  rw[hh]at h1;rw[Iw (by rw[hh];rfl)]
  (refine aP rfl ?_;show Ev vZ.code _ _ _)
  repeat' (first|refine yy ?_|refine ym ?_|(apply zf;iterate 5 exact rfl)|refine yp ?_|refine yk lN (h1) ?_|refine yk oE (h2) ?_|refine ak ?_ (ht:=rfl)|refine ai ?_ (ht:=rfl)|refine ym ?_ (ht:=rfl)|refine yy ?_ (ht:=rfl)|refine yp ?_ (ht:=rfl)|refine ak ?_|refine ai ?_|refine yt ?_ ?_|refine yo ?_|apply zn|refine yc ?_|exact rfl|intro _)
  show ∃l',(leave vZ).ev _=some (_,l');exact fin rfl (by(try simp only[bN]);rfl)
 |true=>
  rw[hh]at h1;rw[YP hh]at h3;cases hc:h.gT with
  |false=>
   rw[Iw (by rw[hh,hc];rfl)];obtain⟨cf,ck,cd,ss,rows,ts,si,ro,ou⟩:=h;simp only at hc;subst hc
   (refine aP rfl ?_;show Ev vZ.code _ _ _)
   repeat' (first|refine yy ?_|refine ym ?_|(apply zf;iterate 5 exact rfl)|refine yp ?_|refine yk lN (h1) ?_|refine yk oE (h2) ?_|refine ak ?_ (ht:=rfl)|refine ai ?_ (ht:=rfl)|refine ym ?_ (ht:=rfl)|refine yy ?_ (ht:=rfl)|refine yp ?_ (ht:=rfl)|refine ak ?_|refine ai ?_|refine yt ?_ ?_|refine yo ?_|apply zn|refine yc ?_|exact rfl|intro _)
   show ∃l',(leave vZ).ev _=some (_,l');exact fin rfl (by(try simp only[bN]);rfl)
  |true=>
   have kZ:(fu h&&h.gT)=true:=by rw[hh,hc];rfl
   cases hs:stepG h with
   |some h'=>
    rw[VJ kZ hs];rw[show pN h=(h',true) by unfold pN;rw[hs]]at h3;clear iD h4 hs kZ;obtain⟨cf,ck,cd,ss,rows,ts,si,ro,ou⟩:=h;simp only at hc;subst hc
    (refine aP rfl ?_;show Ev vZ.code _ _ _)
    repeat' (first|refine yy ?_|refine ym ?_|(apply zf;iterate 5 exact rfl)|refine yp ?_|refine yk lN (h1) ?_|refine yw Km (h3) (uJ (aA.cl _) rfl) ?_|refine ak ?_ (ht:=rfl)|refine ai ?_ (ht:=rfl)|refine ym ?_ (ht:=rfl)|refine yy ?_ (ht:=rfl)|refine yp ?_ (ht:=rfl)|refine ak ?_|refine ai ?_|refine yt ?_ ?_|refine yo ?_|apply zn|refine yc ?_|exact rfl|intro _)
    show ∃l',(leave vZ).ev _=some (_,l');exact fin rfl (by(try simp only[bN]);rfl)
   |none=>
    have e:gA ir h=(kJ mQ h, !h.aJ.isEmpty):=by
     rw[VI kZ hs];cases hr:h.aJ.isEmpty with
     |true=>rw[Z8b mQ hr];rfl
     |false=>rfl
    rw[e];rw[show pN h=(h,false) by unfold pN;rw[hs]]at h3;rw[show zR h=kJ mQ h by unfold zR;rw[hh];rfl]at h4;generalize kJ mQ h=r at h4;rw[<-iD.2.1];clear iD hs kZ e;obtain⟨cf,ck,cd,ss,rows,ts,si,ro,ou⟩:=h;simp only at hc;subst hc
    (refine aP rfl ?_;show Ev vZ.code _ _ _)
    repeat' (first|refine yy ?_|refine ym ?_|(apply zf;iterate 5 exact rfl)|refine yp ?_|refine yk lN (h1) ?_|refine yw Km (h3) (uJ (aA.cl _) rfl) ?_|refine yw Rv (h4) (wW (aA.cl _) rfl) ?_|refine ak ?_ (ht:=rfl)|refine ai ?_ (ht:=rfl)|refine ym ?_ (ht:=rfl)|refine yy ?_ (ht:=rfl)|refine yp ?_ (ht:=rfl)|refine ak ?_|refine ai ?_|refine yt ?_ ?_|refine yo ?_|apply zn|refine yc ?_|exact rfl|intro _)
    show ∃l',(leave vZ).ev _=some (_,l');exact fin rfl (by(try simp only[bN]);rfl)
set_option maxHeartbeats 2000000 in
theorem atp (h:aA) (hl:h.al<=4000000):NV [.st (h.cs .n)]=some ⟨[.st ((gA ir h).1.cs .y),.one (.b (gA ir h).2)],[]⟩:=by
 have h1:=afC h hl;have h2:=Dx h hl;have h4:=Zq6 h hl;have iD:=(Yh h.aJ).2.2;cases hh:fu h with
 |false=>
  rw[hh]at h1;rw[Iw (by rw[hh];rfl)]
  (refine aP rfl ?_;show Ev sL.code _ _ _)
  repeat' (first|refine yy ?_|refine ym ?_|(apply zf;iterate 5 exact rfl)|refine yp ?_|refine yk su (h1) ?_|refine yk mh (h2) ?_|refine ak ?_ (ht:=rfl)|refine ai ?_ (ht:=rfl)|refine ym ?_ (ht:=rfl)|refine yy ?_ (ht:=rfl)|refine yp ?_ (ht:=rfl)|refine ak ?_|refine ai ?_|refine yt ?_ ?_|refine yo ?_|apply zn|refine yc ?_|exact rfl|intro _)
  show ∃l',(leave sL).ev _=some (_,l');exact fin rfl (by(try simp only[bN]);rfl)
 |true=>
  rw[hh]at h1;have h3:=atn h hh hl;cases hc:h.gT with
  |false=>
   rw[Iw (by rw[hh,hc];rfl)];clear h3;obtain⟨cf,ck,cd,ss,rows,ts,si,ro,ou⟩:=h;simp only at hc;subst hc
   (refine aP rfl ?_;show Ev sL.code _ _ _)
   repeat' (first|refine yy ?_|refine ym ?_|(apply zf;iterate 5 exact rfl)|refine yp ?_|refine yk su (h1) ?_|refine yk mh (h2) ?_|refine ak ?_ (ht:=rfl)|refine ai ?_ (ht:=rfl)|refine ym ?_ (ht:=rfl)|refine yy ?_ (ht:=rfl)|refine yp ?_ (ht:=rfl)|refine ak ?_|refine ai ?_|refine yt ?_ ?_|refine yo ?_|apply zn|refine yc ?_|exact rfl|intro _)
   show ∃l',(leave sL).ev _=some (_,l');exact fin rfl (by(try simp only[bN]);rfl)
  |true=>
   have kZ:(fu h&&h.gT)=true:=by rw[hh,hc];rfl
   cases hs:stepG h with
   |some h'=>
    rw[VJ kZ hs];rw[show gA stepG h=(h',true) by unfold gA;rw[hs]]at h3;clear iD h4 hs kZ;obtain⟨cf,ck,cd,ss,rows,ts,si,ro,ou⟩:=h;simp only at hc;subst hc
    (refine aP rfl ?_;show Ev sL.code _ _ _)
    repeat' (first|refine yy ?_|refine ym ?_|(apply zf;iterate 5 exact rfl)|refine yp ?_|refine yk su (h1) ?_|refine yw FZ (h3) (uJ (aA.cl _) rfl) ?_|refine ak ?_ (ht:=rfl)|refine ai ?_ (ht:=rfl)|refine ym ?_ (ht:=rfl)|refine yy ?_ (ht:=rfl)|refine yp ?_ (ht:=rfl)|refine ak ?_|refine ai ?_|refine yt ?_ ?_|refine yo ?_|apply zn|refine yc ?_|exact rfl|intro _)
    show ∃l',(leave sL).ev _=some (_,l');exact fin rfl (by(try simp only[bN]);rfl)
   |none=>
    rw[VI kZ hs];rw[show gA stepG h=(h,false) by unfold gA;rw[hs]]at h3;cases hr:h.aJ.isEmpty with
    |true=>
     rw[hr]at iD;clear hs kZ h4;obtain⟨cf,ck,cd,ss,rows,ts,si,ro,ou⟩:=h;simp only at hc iD;subst hc
     (refine aP rfl ?_;show Ev sL.code _ _ _)
     repeat' (first|refine yy ?_|refine ym ?_|(apply zf;iterate 5 exact rfl)|refine yp ?_|refine yk su (h1) ?_|refine yw FZ (h3) (uJ (aA.cl _) rfl) ?_|refine yk mh (h2) ?_|refine ak ?_ (ht:=rfl)|refine ai ?_ (ht:=rfl)|refine ym ?_ (ht:=rfl)|refine yy ?_ (ht:=rfl)|refine yp ?_ (ht:=rfl)|refine ak ?_ (ht:=iD)|refine ak ?_|refine ai ?_|refine yt ?_ ?_|refine yo ?_|apply zn|refine yc ?_|exact rfl|intro _)
     show ∃l',(leave sL).ev _=some (_,l');exact fin rfl (by(try simp only[bN]);rfl)
    |false=>
     rw[hr]at iD;generalize kJ mQ h=r at h4;clear hs kZ;obtain⟨cf,ck,cd,ss,rows,ts,si,ro,ou⟩:=h;simp only at hc iD;subst hc
     (refine aP rfl ?_;show Ev sL.code _ _ _)
     repeat' (first|refine yy ?_|refine ym ?_|(apply zf;iterate 5 exact rfl)|refine yp ?_|refine yk su (h1) ?_|refine yw FZ (h3) (uJ (aA.cl _) rfl) ?_|refine yw Rw (h4) (wW (aA.cl _) rfl) ?_|refine ak ?_ (ht:=rfl)|refine ai ?_ (ht:=rfl)|refine ym ?_ (ht:=rfl)|refine yy ?_ (ht:=rfl)|refine yp ?_ (ht:=rfl)|refine ai ?_ (ht:=iD)|refine ak ?_|refine ai ?_|refine yt ?_ ?_|refine yo ?_|apply zn|refine yc ?_|exact rfl|intro _)
     show ∃l',(leave sL).ev _=some (_,l');exact fin rfl (by(try simp only[bN]);rfl)
theorem VF (n:Nat) (h:aA):vY ir n h=tJ n h:=by
 induction n generalizing h with
 |zero=>rfl
 |succ n ih=>
  cases hs:ir h with
  |none=>rw[WC hs,On hs]
  |some h'=>rw[WD hs,Oo hs,ih]
theorem VK (h:aA):ir (CK h)=none:=VD _ (Nat.le_refl _)
theorem VG {g g':aA} (hs:ir g=some g'):g'.al<=4000000:=by have:=Wm (Oq hs).2.2.1;omega
theorem atq (h:aA) (hl:h.al<=4000000):NW [.st (h.cs .n)]=some ⟨[.st ((CK h).cs .y)],[]⟩:=
 YR (I:=fun g=>g.al<=4000000) (asN h hl) (by rw[Oj];exact hl) (VF _ _) (VK h) fun g hg=>⟨ato g hg,fun g' hs=>VG hs⟩
theorem atr (h:aA) (hl:h.al<=4000000):NX [.st (h.cs .n)]=some ⟨[.st ((CK h).cs .y)],[]⟩:=
 YR (I:=fun g=>g.al<=4000000) (asX h hl) (by rw[Oj];exact hl) (VF _ _) (VK h) fun g hg=>⟨atp g hg,fun g' hs=>VG hs⟩
end Go.Wr

