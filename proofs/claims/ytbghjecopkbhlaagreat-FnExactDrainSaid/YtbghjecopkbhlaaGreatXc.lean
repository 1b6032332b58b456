/-
  What is proved: lemmas for the laws. No condition.
-/
import Derived.Test.YtbghjecopkbhlaaGreatXa
import Derived.Test.YtbghjecopkbhlaaGreatRh
import Derived.Test.YtbghjecopkbhlaaGreatXb
set_option linter.unusedVariables false
set_option linter.unusedSimpArgs false
namespace Go.Wr
open Go.Proofs
theorem Zi4 {ae:Nat->FuncId}{gs gc go:Nat}{FC FO:aB} (hs:ae gs=209) (Gq:ae gc=178) (Sr:ae go=226) (hC:ik Tryz.prog ae gc FC) (hO:ik Tryz.prog ae go FO):ik Tryz.prog ae gs (wc FC FO):=by
 intro xs vs w ow out hF hl hA dl j3 _;obtain⟨dm,t,es,rfl,h1,h2,hc,hR⟩:=XC hF
 match vs,hl with
 |[v0],_=>
 have h0:=hA 0 _ v0 rfl rfl;obtain⟨va,rfl,h0⟩:=h0;simp only[bZ]at h0;obtain⟨v,rest,iQ,cJ,ei⟩:=h0;subst ei;have pz:=cJ;simp only[ay,Loc.push]at pz;obtain⟨_,A,cap,hv,hQ,_,rj⟩:=pz;simp only[fq,and_true]at hv;subst hv;have:va=#[.slice A dm.length cap]:=by apply Array.ext';rw[iQ]
 subst this;rw[hs]
 let W3:World:=((w.alloc (Obj.cells #[.slice A dm.length cap] 167)).alloc (Obj.cells #[.int .i64 0,.int .i64 0,.slice none 0 0,.int .i64 0,.int .i64 0,.int .i64 0,.int .i64 0,.slice none 0 0,.slice none 0 0,.slice none 0 0] 85)).alloc (Obj.cells #[.slice none 0 0] 167)
 have jC:W3.heap.size=w.heap.size+3:=by simp only[W3,eE,Y5]
 have vr:∀b,b<w.heap.size->W3.heap[b]?=w.heap[b]?:=fun b hb=>by
  simp only[W3,eE,Y3,Y5,if_neg (mM hb),if_neg (show b≠w.heap.size+1 by omega),if_neg (show b≠w.heap.size+1+1 by omega)]
 have Ux:Zs w ow W3 ow:=fun b hb=>⟨hb,vr b (dl b (by rw[hb];simp))⟩
 refine Zi8 A dm.length cap w _ (fun B m c w1=>m=es.length/\∃bB,kw ae [.st [.l .n 10 dm]] [.agg #[.slice A dm.length cap]] ⟨[.st [.l .y 10 es]],[]⟩ W3 ow w1 bB (.agg #[.slice B m c]))
  (fun B m c w1 t' w2=>t'=t/\∃bB aU,kw ae [.st [.l .n 10 dm]] [.agg #[.slice A dm.length cap]] ⟨[.st [.l .y 10 es]],[]⟩ W3 ow w1 bB (.agg #[.slice B m c])/\kw ae [.st [.l .n 10 dm]] [.agg #[.slice A dm.length cap]] ⟨[.one (.b t)],[]⟩ (w1.alloc (Obj.cells #[.slice B m c] 167)) (jy bB) w2 aU (.bool t)) ?_ ?_ ?_ ?_ ?_
 ·refine(Gq▸hC [.st [.l .n 10 dm]] [.agg #[.slice A dm.length cap]] W3 ow _ h2 rfl ?_ (fun b hb=>iF (dl b hb) (by rw[jC];omega)) j3 (fun i g hi=>Ll hi)).mono ?_
  ·intro i x v hx hv
   match i,hx,hv with
   |0,hx,hv=>
    simp only[kE,aR]at hx hv;subst hx hv;exact⟨_,rfl,lG (c:=none) Ux _ trivial (by simp only[bZ];exact⟨_,_,rfl,cJ,rfl⟩)⟩
   |i+1,hx,_=>simp at hx
  ·intro e w1 he
   match e,he with
   |.returned v,⟨bB,ha⟩=>
    have hr:=ha.dG;simp only[nU,jP,bZ,ay,Loc.push]at hr;obtain⟨va,iQ,v',rest,oQ,⟨_,B,c,eX,_⟩,ei⟩:=hr;subst ei;simp only[fq,and_true]at eX;subst eX;have:va=#[.slice B es.length c]:=by apply Array.ext';rw[oQ]
    subst this iQ;exact⟨B,es.length,c,rfl,rfl,bB,ha⟩
 ·rintro B m c w1 ⟨rfl,bB,ha⟩ o;have h3:ow w.heap.size=.no:=by
   cases h:ow w.heap.size with
   |no=>rfl
   |z=>exact absurd (dl w.heap.size (by rw[h];simp)) (sZ _)
   |own r p=>exact absurd (dl w.heap.size (by rw[h];simp)) (sZ _)
  have h4:=(ha.no w.heap.size (by rw[jC];omega) h3).2;have h5:w.heap.size<w1.heap.size:=iF (by rw[jC];omega) ha.grown;have h6:(w1.alloc o).heap[w.heap.size]?=w1.heap[w.heap.size]?:=by simp only[eE,Y3,if_neg (mM h5)]
  have h7:W3.heap[w.heap.size]?=some (.cells #[.slice A dm.length cap] 167 (0,0)):=by simp[W3,eE,Y3,show w.heap.size≠w.heap.size+1+1 by omega]
  simp[World.cell?,h6,h4,h7]
 ·rintro B m c w1 ⟨rfl,bB,ha⟩;have dK:∀b,w.heap.size<=b->ow b=.no:=fun b hb=>by
   cases h:ow b with
   |no=>rfl
   |z=>exact absurd (dl b (by rw[h];simp)) (by omega)
   |own r p=>exact absurd (dl b (by rw[h];simp)) (by omega)
  have g1:w.heap.size+3<=w1.heap.size:=by have:=ha.grown;rw[jC]at this;exact this
  have zz:Zs w ow (w1.alloc (Obj.cells #[.slice B es.length c] 167)) (jy bB):=fun b hb=>by
   have eN:=dl b (by rw[hb];simp);have:=ha.z b hb;refine⟨by simp only[jy,this.1],?_⟩;simp only[eE,Y3,if_neg (show b≠w1.heap.size by omega)];rw[this.2,vr b eN]
  refine(Sr▸hO [.st [.l .n 10 dm]] [.agg #[.slice A dm.length cap]] (w1.alloc (Obj.cells #[.slice B es.length c] 167)) (jy bB) _ h1 rfl ?_ ?_ ?_ (fun i g hi=>Ll hi)).mono ?_
  ·intro i x v hx hv
   match i,hx,hv with
   |0,hx,hv=>
    simp only[kE,aR]at hx hv;subst hx hv;exact⟨_,rfl,lG (c:=none) zz _ trivial (by simp only[bZ];exact⟨_,_,rfl,cJ,rfl⟩)⟩
   |i+1,hx,_=>simp at hx
  ·intro b hb;have:bB b≠.no:=fun h=>hb (by simp only[jy,h]);have:=ha.low b this;simp only[eE,Y5];omega
  ·intro b r q hb;simp only[jy]at hb;split at hb
   ·cases hb
   ·rename_i h;exact absurd hb (h r q)
  ·intro e w2 he
   match e,he with
   |.returned v,⟨aU,eV⟩=>
    have hr:=eV.dG;simp only[nU,jP,ay]at hr;have hv:v=.bool t:=by simpa using hr
    subst hv;have bY:∀b,w.heap.size<=b->b<w.heap.size+3->w2.heap[b]?=W3.heap[b]?:=fun b eN dt=>by
     have q1:=ha.no b (by rw[jC];exact dt) (dK b eN);have q2:=eV.no b (by simp only[eE,Y5];omega) (by simp only[jy,q1.1]);rw[q2.2,eE,Y3,if_neg (by omega),q1.2]
    have k0:w2.heap[w.heap.size]?=some (.cells #[.slice A dm.length cap] 167 (0,0)):=by
     rw[bY _ (Nat.le_refl _) (by omega)];simp[W3,eE,Y3,show w.heap.size≠w.heap.size+1+1 by omega]
    have k5:bB w1.heap.size=.no:=by
     cases h:bB w1.heap.size with
     |no=>rfl
     |z=>exact absurd (ha.low w1.heap.size (by rw[h];simp)) (sZ _)
     |own r p=>exact absurd (ha.low w1.heap.size (by rw[h];simp)) (sZ _)
    refine⟨t,rfl,by simp[World.cell?,k0],?_,?_,?_,by omega,?_,rfl,bB,aU,ha,eV⟩
    ·rw[(eV.no w1.heap.size (by simp only[eE,Y5];omega) (by simp only[jy,k5])).2];simp[eE]
    ·rw[bY _ (by omega) (by omega)];simp only[W3,eE,Y3,Y5,if_neg (show w.heap.size+1≠w.heap.size+1+1 by omega),if_true]
    ·rw[bY _ (by omega) (by omega)];simp only[W3,eE,Y3,Y5,if_true]
    ·intro ht hn;subst ht;have bC:dm≠[]:=fun h=>by rw[h]at hn;simp at hn
     have Au:(true&& !dm.isEmpty)=true:=by cases dm with
      |nil=>exact absurd rfl bC
      |cons _ _=>rfl
     unfold xZ at hR;rw[Au]at hR
     match es,hR with
     |.a e::bW,hR=>
      simp only[Option.ite_none_right_eq_some]at hR;obtain⟨sx,_⟩:=hR;obtain⟨hb,rn⟩:=Bool.and_eq_true_iff.1 sx;have hr:=ha.dG;simp only[nU,jP,bZ,Loc.push,eC]at hr;obtain⟨va,iQ,v',rest,oQ,j4,ei⟩:=hr;subst ei;have eX:v'=.slice B (.a e::bW).length c:=by
       have:va=#[.slice B (.a e::bW).length c]:=by simpa using iQ.symm
       rw[this]at oQ;simpa using oQ.symm
      subst eX;simp only[ay]at j4;obtain⟨_,A',cp,hv,h1,_,h3⟩:=j4;simp only[fq,Value.slice.injEq,and_true,true_and]at hv;obtain⟨rfl,rfl⟩:=hv;cases B with
      |none=>simp only at h3;simp only[dH]at h1;omega
      |some ad=>
      obtain⟨dg,eF,aG,ty,fr,bE,hh,eA,bP,cg⟩:=h3 (.inl rfl);obtain⟨aO,off,sp⟩:=ad;simp only at dg hh bP eF;subst dg;have nz:bB aO=.own (.rs 0) [0]:=by simpa[Ob.loc,Ob.own,Loc.ow]using eF
      have aF:aO<w1.heap.size:=ha.low aO (by rw[nz];simp);have AJ:∀b,w.heap.size<=b->b<w.heap.size+3->aO≠b:=fun b q1 q2 q3=>by
       have:=(ha.no b (by rw[jC];exact q2) (dK b q1)).1;rw[<-q3,nz]at this;cases this
      have lS:w2.heap[aO]?=some (.cells aG ty fr):=by
       rw[(eV.no aO (by simp only[eE,Y5];omega) (by simp only[jy,nz])).2,eE,Y3,if_neg (by omega),hh]
      simp only[cw,ay]at cg;obtain⟨v1,rest,rfl,dp,iL,_⟩:=cg;obtain⟨a0,a1,A2,n2,c2,a3,a4,a5,a6,A7,n7,c7,A8,n8,c8,A9,n9,c9,rfl⟩:=Iy hb iL;have cell:∀j v,(([.int .i64 a0,.int .i64 a1,.slice A2 n2 c2,.int .i64 a3,.int .i64 a4,.int .i64 a5,.int .i64 a6,.slice A7 n7 c7,.slice A8 n8 c8,.slice A9 n9 c9]:List Value)++rest)[j]?=some v->w2.cell? ⟨aO,off+j,none⟩=some v:=fun j v hj=>by
       simp[World.cell?,lS,bP j v hj]
      refine⟨by simp,h1,aO,off,rfl,AJ _ (by omega) (by omega),AJ _ (by omega) (by omega),a0,a1,A2,n2,c2,a3,a4,a5,a6,A7,n7,c7,A8,n8,c8,A9,n9,c9,cell 0 _ rfl,cell 1 _ rfl,cell 2 _ rfl,cell 3 _ rfl,cell 4 _ rfl,cell 5 _ rfl,cell 6 _ rfl,cell 7 _ rfl,cell 8 _ rfl,cell 9 _ rfl⟩
 ·rintro B m c w1 t' w2 w' ⟨rfl,ga,Gf⟩ ⟨rfl,bB,aU,ha,eV⟩ kK hS;have lc:(t'&& !dm.isEmpty)=false:=by
   rcases kK with rfl|h
   ·rfl
   ·have:dm=[]:=iY.1 h;subst this;cases t'<;>rfl
  unfold xZ at hR;rw[lc]at hR;simp only[aR]at hR;subst hR;have g1:w.heap.size+3<=w1.heap.size:=by have:=ha.grown;rw[jC]at this;exact this
  refine⟨nO (fun r p=>match r with|.rs 0=>.own (.rs 1) p|.ar i=>.own (.ar i) p|_=>.no) bB aU none,Jn none (W3:=W3) (wo:=w1.alloc (Obj.cells #[.slice B es.length c] 167)) dl (by rw[jC];omega) vr rfl rfl ha (by simp only[eE,Y5];omega) (fun b hb=>by simp only[eE,Y3,if_neg (mM hb)]) rfl rfl eV hS.gr (fun b e=>by cases e) (by omega) (by omega) (by simp) (by simp) ?_ ?_ trivial⟩
  ·intro r p j q h;split at h<;>simp at h;obtain⟨rfl,_⟩:=h;simp
  ·have hr:=ha.dG;simp only[nU,jP]at hr;obtain⟨va,iQ,j4⟩:=hr;have e0:va=#[.slice B es.length c]:=by simpa using iQ.symm
   subst e0;refine⟨_,rfl,rfl,fun j r u hj hu=>?_⟩
   match j,hj,hu with
   |0,hj,hu=>
    simp at hj hu;subst hj hu;exact⟨_,rfl,ZR⟩
   |1,hj,hu=>
    simp at hj hu;subst hj hu;refine⟨_,rfl,w9 _ (by simp[cP,T.closed,hc]) ?_ j4⟩;intro b q hb;simp only[eC]at hb⊢;have l1:=ha.low b (by rw[hb];simp);refine⟨by simp only[EO,nN,hb],?_⟩;have nb:∀b',w.heap.size<=b'->b'<w.heap.size+3->b≠b':=fun b' q1 q2 q3=>by
     have dK:ow b'=.no:=by
      cases h:ow b' with
      |no=>rfl
      |z=>exact absurd (dl b' (by rw[h];simp)) (by omega)
      |own r p=>exact absurd (dl b' (by rw[h];simp)) (by omega)
     have:=(ha.no b' (by rw[jC];exact q2) dK).1;rw[<-q3,hb]at this;cases this
    rw[hS.h b (nb _ (by omega) (by omega)) (nb _ (by omega) (by omega)),(eV.no b (by simp only[eE,Y5];omega) (by simp only[jy,hb])).2,eE,Y3,if_neg (by omega)]
   |2,hj,hu=>
    simp at hj hu;subst hj hu;simp[jP,ay]
   |j+3,hj,_=>simp at hj
 ·rintro aO off m c w1 w2 w' nK c' ⟨rfl,ga,Gf⟩ ⟨rfl,bB,aU,ha,eV⟩ hn hS ho a0 a1 A2 n2 c2 a3 a4 a5 a6 A7 n7 c7 A8 n8 c8 A9 n9 c9 u0 u1 u2 u3 u4 u5 u6 u7 u8 u9;have Au:(true&& !dm.isEmpty)=true:=by cases dm with
   |nil=>simp at hn
   |cons _ _=>rfl
  unfold xZ at hR;rw[Au]at hR
  match es,hR with
  |.a e::bW,hR=>
   simp only[Option.ite_none_right_eq_some,aR]at hR;obtain⟨sx,rfl⟩:=hR;obtain⟨hb,rn⟩:=Bool.and_eq_true_iff.1 sx;have g1:w.heap.size+3<=w1.heap.size:=by have:=ha.grown;rw[jC]at this;exact this
   have hr:=ha.dG;simp only[nU,jP]at hr;obtain⟨va,iQ,j4⟩:=hr;have e0:va=#[.slice (some ⟨aO,off,none⟩) (T.a e::bW).length c]:=by simpa using iQ.symm
   subst e0;simp only[bZ,Loc.push,eC]at j4;obtain⟨v',rest,oQ,j4,ei⟩:=j4;subst ei;simp only[fq,and_true]at oQ;subst oQ;have abp:=j4;simp only[ay]at j4;obtain⟨_,A',cp,hv,h1,_,h3⟩:=j4;simp only[fq,Value.slice.injEq,and_true,true_and]at hv;obtain⟨rfl,rfl⟩:=hv;obtain⟨dg,eF,aG,ty,fr,bE,hh,eA,bP,cg⟩:=h3 (.inl rfl);simp only at dg hh bP eF;have nz:bB aO=.own (.rs 0) [0]:=by simpa[Ob.loc,Ob.own,Loc.ow]using eF
   have kept:∀b r p,bB b=.own r p->w'.heap[b]?=w1.heap[b]?/\w2.heap[b]?=w1.heap[b]?:=fun b r p hb=>by
    have l1:=ha.low b (by rw[hb];simp);have nb:∀b',w.heap.size<=b'->b'<w.heap.size+3->b≠b':=fun b' q1 q2 q3=>by
     have dK:ow b'=.no:=by
      cases h:ow b' with
      |no=>rfl
      |z=>exact absurd (dl b' (by rw[h];simp)) (by omega)
      |own r p=>exact absurd (dl b' (by rw[h];simp)) (by omega)
     have:=(ha.no b' (by rw[jC];exact q2) dK).1;rw[<-q3,hb]at this;cases this
    have q:w2.heap[b]?=w1.heap[b]?:=by rw[(eV.no b (by simp only[eE,Y5];omega) (by simp only[jy,hb])).2,eE,Y3,if_neg (by omega)]
    exact⟨by rw[hS.h b (nb _ (by omega) (by omega)) (nb _ (by omega) (by omega)),q],q⟩
   simp only[cw,ay]at cg;obtain⟨v1,rest,rfl,dp,iL,_⟩:=cg;have gW:v1=[.int .i64 a0,.int .i64 a1,.slice A2 n2 c2,.int .i64 a3,.int .i64 a4,.int .i64 a5,.int .i64 a6,.slice A7 n7 c7,.slice A8 n8 c8,.slice A9 n9 c9]:=by
    obtain⟨b0,b1,B2,m2,d2,b3,b4,b5,b6,B7,m7,d7,B8,m8,d8,B9,m9,d9,rfl⟩:=Iy hb iL;have cell:∀j v,(([.int .i64 b0,.int .i64 b1,.slice B2 m2 d2,.int .i64 b3,.int .i64 b4,.int .i64 b5,.int .i64 b6,.slice B7 m7 d7,.slice B8 m8 d8,.slice B9 m9 d9]:List Value)++rest)[j]?=some v->w2.cell? ⟨aO,off+j,none⟩=some v:=fun j v hj=>by
     simp[World.cell?,(kept aO _ _ nz).2,hh,bP j v hj]
    have k0:=(cell 0 _ rfl).symm.trans u0;have k1:=(cell 1 _ rfl).symm.trans u1;have k2:=(cell 2 _ rfl).symm.trans u2;have k3:=(cell 3 _ rfl).symm.trans u3;have k4:=(cell 4 _ rfl).symm.trans u4;have k5:=(cell 5 _ rfl).symm.trans u5;have k6:=(cell 6 _ rfl).symm.trans u6;have k7:=(cell 7 _ rfl).symm.trans u7;have k8:=(cell 8 _ rfl).symm.trans u8;have k9:=(cell 9 _ rfl).symm.trans u9;simp only[aR]at k0 k1 k2 k3 k4 k5 k6 k7 k8 k9;rw[k0,k1,k2,k3,k4,k5,k6,k7,k8,k9]
   subst gW;have Aq:cP e=true:=by simp only[cP,T.closed,Y8]at hc;exact hc.1
   have fX:cP bW=true:=by simp only[cP,T.closed,Y8]at hc;exact hc.2
   refine⟨nO (fun r p=>match r,p with|.rs 0,0::0::q=>.own (.rs 0) q|.rs 0,0::(k+1)::q=>.own (.rs 1) (0::k::q)|.rs 0,[0]=>.own (.rs 1) [0]|.ar i,p=>.own (.ar i) p|_,_=>.no) bB aU none,
    Jn none (W3:=W3) (wo:=w1.alloc (Obj.cells #[.slice (some ⟨aO,off,none⟩) (T.a e::bW).length c] 167)) dl (by rw[jC];omega) vr rfl rfl ha (by simp only[eE,Y5];omega) (fun b hb=>by simp only[eE,Y3,if_neg (mM hb)]) rfl rfl eV hS.gr (fun b e=>by cases e) (by omega) (by omega) (by simp) (by simp) ?_ ?_ trivial⟩
   ·intro r p j q h;split at h<;>simp at h;all_goals (obtain⟨rfl,_⟩:=h;simp)
   ·refine⟨_,rfl,rfl,fun j r u hj hu=>?_⟩
    match j,hj,hu with
    |0,hj,hu=>
     simp at hj hu;subst hj hu;refine⟨_,rfl,w9 e Aq ?_ iL⟩;intro b q hb;exact⟨by simp only[Ob.loc,Ob.own,if_true,Loc.push,gf,eC]at hb;simp only[EO,nN,hb,eC],(kept b _ _ hb).1⟩
    |1,hj,hu=>
     simp at hj hu;subst hj hu;refine⟨_,rfl,?_⟩;simp only[bZ,Loc.push,eC];refine⟨_,_,rfl,?_,rfl⟩;refine Zle fX abp ⟨by simp only[EO,nN,nz],(kept aO _ _ nz).1⟩ (fun j b q hb=>?_) ho;exact⟨by simp only[gf,eC]at hb;simp only[EO,nN,hb,gf,eC],(kept b _ _ hb).1⟩
    |2,hj,hu=>
     simp at hj hu;subst hj hu;simp[jP,ay]
    |j+3,hj,_=>simp at hj
end Go.Wr
namespace Go.Wr
open Go.Proofs
theorem Zi5 {ae:Nat->FuncId}{gs gc go:Nat}{FC FO:aB} (hs:ae gs=204) (Gq:ae gc=171) (Sr:ae go=218) (hC:ik Tryz.prog ae gc FC) (hO:ik Tryz.prog ae go FO):ik Tryz.prog ae gs (wc FC FO):=by
 intro xs vs w ow out hF hl hA dl j3 _;obtain⟨dm,t,es,rfl,h1,h2,hc,hR⟩:=XC hF
 match vs,hl with
 |[v0],_=>
 have h0:=hA 0 _ v0 rfl rfl;obtain⟨va,rfl,h0⟩:=h0;simp only[bZ]at h0;obtain⟨v,rest,iQ,cJ,ei⟩:=h0;subst ei;have pz:=cJ;simp only[ay,Loc.push]at pz;obtain⟨_,A,cap,hv,hQ,_,rj⟩:=pz;simp only[fq,and_true]at hv;subst hv;have:va=#[.slice A dm.length cap]:=by apply Array.ext';rw[iQ]
 subst this;rw[hs]
 let W3:World:=((w.alloc (Obj.cells #[.slice A dm.length cap] 167)).alloc (Obj.cells #[.int .i64 0,.int .i64 0,.slice none 0 0,.int .i64 0,.int .i64 0,.int .i64 0,.int .i64 0,.slice none 0 0,.slice none 0 0,.slice none 0 0] 85)).alloc (Obj.cells #[.slice none 0 0] 167)
 have jC:W3.heap.size=w.heap.size+3:=by simp only[W3,eE,Y5]
 have vr:∀b,b<w.heap.size->W3.heap[b]?=w.heap[b]?:=fun b hb=>by
  simp only[W3,eE,Y3,Y5,if_neg (mM hb),if_neg (show b≠w.heap.size+1 by omega),if_neg (show b≠w.heap.size+1+1 by omega)]
 have Ux:Zs w ow W3 ow:=fun b hb=>⟨hb,vr b (dl b (by rw[hb];simp))⟩
 refine Zi9 A dm.length cap w _ (fun B m c w1=>m=es.length/\∃bB,kw ae [.st [.l .n 10 dm]] [.agg #[.slice A dm.length cap]] ⟨[.st [.l .y 10 es]],[]⟩ W3 ow w1 bB (.agg #[.slice B m c]))
  (fun B m c w1 t' w2=>t'=t/\∃bB aU,kw ae [.st [.l .n 10 dm]] [.agg #[.slice A dm.length cap]] ⟨[.st [.l .y 10 es]],[]⟩ W3 ow w1 bB (.agg #[.slice B m c])/\kw ae [.st [.l .n 10 dm]] [.agg #[.slice A dm.length cap]] ⟨[.one (.b t)],[]⟩ (w1.alloc (Obj.cells #[.slice B m c] 167)) (jy bB) w2 aU (.bool t)) ?_ ?_ ?_ ?_ ?_
 ·refine(Gq▸hC [.st [.l .n 10 dm]] [.agg #[.slice A dm.length cap]] W3 ow _ h2 rfl ?_ (fun b hb=>iF (dl b hb) (by rw[jC];omega)) j3 (fun i g hi=>Ll hi)).mono ?_
  ·intro i x v hx hv
   match i,hx,hv with
   |0,hx,hv=>
    simp only[kE,aR]at hx hv;subst hx hv;exact⟨_,rfl,lG (c:=none) Ux _ trivial (by simp only[bZ];exact⟨_,_,rfl,cJ,rfl⟩)⟩
   |i+1,hx,_=>simp at hx
  ·intro e w1 he
   match e,he with
   |.returned v,⟨bB,ha⟩=>
    have hr:=ha.dG;simp only[nU,jP,bZ,ay,Loc.push]at hr;obtain⟨va,iQ,v',rest,oQ,⟨_,B,c,eX,_⟩,ei⟩:=hr;subst ei;simp only[fq,and_true]at eX;subst eX;have:va=#[.slice B es.length c]:=by apply Array.ext';rw[oQ]
    subst this iQ;exact⟨B,es.length,c,rfl,rfl,bB,ha⟩
 ·rintro B m c w1 ⟨rfl,bB,ha⟩ o;have h3:ow w.heap.size=.no:=by
   cases h:ow w.heap.size with
   |no=>rfl
   |z=>exact absurd (dl w.heap.size (by rw[h];simp)) (sZ _)
   |own r p=>exact absurd (dl w.heap.size (by rw[h];simp)) (sZ _)
  have h4:=(ha.no w.heap.size (by rw[jC];omega) h3).2;have h5:w.heap.size<w1.heap.size:=iF (by rw[jC];omega) ha.grown;have h6:(w1.alloc o).heap[w.heap.size]?=w1.heap[w.heap.size]?:=by simp only[eE,Y3,if_neg (mM h5)]
  have h7:W3.heap[w.heap.size]?=some (.cells #[.slice A dm.length cap] 167 (0,0)):=by simp[W3,eE,Y3,show w.heap.size≠w.heap.size+1+1 by omega]
  simp[World.cell?,h6,h4,h7]
 ·rintro B m c w1 ⟨rfl,bB,ha⟩;have dK:∀b,w.heap.size<=b->ow b=.no:=fun b hb=>by
   cases h:ow b with
   |no=>rfl
   |z=>exact absurd (dl b (by rw[h];simp)) (by omega)
   |own r p=>exact absurd (dl b (by rw[h];simp)) (by omega)
  have g1:w.heap.size+3<=w1.heap.size:=by have:=ha.grown;rw[jC]at this;exact this
  have zz:Zs w ow (w1.alloc (Obj.cells #[.slice B es.length c] 167)) (jy bB):=fun b hb=>by
   have eN:=dl b (by rw[hb];simp);have:=ha.z b hb;refine⟨by simp only[jy,this.1],?_⟩;simp only[eE,Y3,if_neg (show b≠w1.heap.size by omega)];rw[this.2,vr b eN]
  refine(Sr▸hO [.st [.l .n 10 dm]] [.agg #[.slice A dm.length cap]] (w1.alloc (Obj.cells #[.slice B es.length c] 167)) (jy bB) _ h1 rfl ?_ ?_ ?_ (fun i g hi=>Ll hi)).mono ?_
  ·intro i x v hx hv
   match i,hx,hv with
   |0,hx,hv=>
    simp only[kE,aR]at hx hv;subst hx hv;exact⟨_,rfl,lG (c:=none) zz _ trivial (by simp only[bZ];exact⟨_,_,rfl,cJ,rfl⟩)⟩
   |i+1,hx,_=>simp at hx
  ·intro b hb;have:bB b≠.no:=fun h=>hb (by simp only[jy,h]);have:=ha.low b this;simp only[eE,Y5];omega
  ·intro b r q hb;simp only[jy]at hb;split at hb
   ·cases hb
   ·rename_i h;exact absurd hb (h r q)
  ·intro e w2 he
   match e,he with
   |.returned v,⟨aU,eV⟩=>
    have hr:=eV.dG;simp only[nU,jP,ay]at hr;have hv:v=.bool t:=by simpa using hr
    subst hv;have bY:∀b,w.heap.size<=b->b<w.heap.size+3->w2.heap[b]?=W3.heap[b]?:=fun b eN dt=>by
     have q1:=ha.no b (by rw[jC];exact dt) (dK b eN);have q2:=eV.no b (by simp only[eE,Y5];omega) (by simp only[jy,q1.1]);rw[q2.2,eE,Y3,if_neg (by omega),q1.2]
    have k0:w2.heap[w.heap.size]?=some (.cells #[.slice A dm.length cap] 167 (0,0)):=by
     rw[bY _ (Nat.le_refl _) (by omega)];simp[W3,eE,Y3,show w.heap.size≠w.heap.size+1+1 by omega]
    have k5:bB w1.heap.size=.no:=by
     cases h:bB w1.heap.size with
     |no=>rfl
     |z=>exact absurd (ha.low w1.heap.size (by rw[h];simp)) (sZ _)
     |own r p=>exact absurd (ha.low w1.heap.size (by rw[h];simp)) (sZ _)
    refine⟨t,rfl,by simp[World.cell?,k0],?_,?_,?_,by omega,?_,rfl,bB,aU,ha,eV⟩
    ·rw[(eV.no w1.heap.size (by simp only[eE,Y5];omega) (by simp only[jy,k5])).2];simp[eE]
    ·rw[bY _ (by omega) (by omega)];simp only[W3,eE,Y3,Y5,if_neg (show w.heap.size+1≠w.heap.size+1+1 by omega),if_true]
    ·rw[bY _ (by omega) (by omega)];simp only[W3,eE,Y3,Y5,if_true]
    ·intro ht hn;subst ht;have bC:dm≠[]:=fun h=>by rw[h]at hn;simp at hn
     have Au:(true&& !dm.isEmpty)=true:=by cases dm with
      |nil=>exact absurd rfl bC
      |cons _ _=>rfl
     unfold xZ at hR;rw[Au]at hR
     match es,hR with
     |.a e::bW,hR=>
      simp only[Option.ite_none_right_eq_some]at hR;obtain⟨sx,_⟩:=hR;obtain⟨hb,rn⟩:=Bool.and_eq_true_iff.1 sx;have hr:=ha.dG;simp only[nU,jP,bZ,Loc.push,eC]at hr;obtain⟨va,iQ,v',rest,oQ,j4,ei⟩:=hr;subst ei;have eX:v'=.slice B (.a e::bW).length c:=by
       have:va=#[.slice B (.a e::bW).length c]:=by simpa using iQ.symm
       rw[this]at oQ;simpa using oQ.symm
      subst eX;simp only[ay]at j4;obtain⟨_,A',cp,hv,h1,_,h3⟩:=j4;simp only[fq,Value.slice.injEq,and_true,true_and]at hv;obtain⟨rfl,rfl⟩:=hv;cases B with
      |none=>simp only at h3;simp only[dH]at h1;omega
      |some ad=>
      obtain⟨dg,eF,aG,ty,fr,bE,hh,eA,bP,cg⟩:=h3 (.inl rfl);obtain⟨aO,off,sp⟩:=ad;simp only at dg hh bP eF;subst dg;have nz:bB aO=.own (.rs 0) [0]:=by simpa[Ob.loc,Ob.own,Loc.ow]using eF
      have aF:aO<w1.heap.size:=ha.low aO (by rw[nz];simp);have AJ:∀b,w.heap.size<=b->b<w.heap.size+3->aO≠b:=fun b q1 q2 q3=>by
       have:=(ha.no b (by rw[jC];exact q2) (dK b q1)).1;rw[<-q3,nz]at this;cases this
      have lS:w2.heap[aO]?=some (.cells aG ty fr):=by
       rw[(eV.no aO (by simp only[eE,Y5];omega) (by simp only[jy,nz])).2,eE,Y3,if_neg (by omega),hh]
      simp only[cw,ay]at cg;obtain⟨v1,rest,rfl,dp,iL,dY⟩:=cg;obtain⟨a0,a1,A2,n2,c2,a3,a4,a5,a6,A7,n7,c7,A8,n8,c8,A9,n9,c9,rfl⟩:=Iy hb iL;have cell:∀j v,(([.int .i64 a0,.int .i64 a1,.slice A2 n2 c2,.int .i64 a3,.int .i64 a4,.int .i64 a5,.int .i64 a6,.slice A7 n7 c7,.slice A8 n8 c8,.slice A9 n9 c9]:List Value)++rest)[j]?=some v->w2.cell? ⟨aO,off+j,none⟩=some v:=fun j v hj=>by
       simp[World.cell?,lS,bP j v hj]
      have iD:rest.length=bW.length*10:=qW dY;have aus:bW.length<1073741824:=by have:=qM rn;omega
      refine⟨by simp,h1,by simp;omega,aO,off,rfl,AJ _ (by omega) (by omega),AJ _ (by omega) (by omega),⟨rest,by simpa using iD,fun j v hj=>by rw[fK];exact cell (10+j) v (by rw[kD (by simp)];simpa using hj)⟩,a0,a1,A2,n2,c2,a3,a4,a5,a6,A7,n7,c7,A8,n8,c8,A9,n9,c9,cell 0 _ rfl,cell 1 _ rfl,cell 2 _ rfl,cell 3 _ rfl,cell 4 _ rfl,cell 5 _ rfl,cell 6 _ rfl,cell 7 _ rfl,cell 8 _ rfl,cell 9 _ rfl⟩
 ·rintro B m c w1 t' w2 w' ⟨rfl,ga,Gf⟩ ⟨rfl,bB,aU,ha,eV⟩ kK hS;have lc:(t'&& !dm.isEmpty)=false:=by
   rcases kK with rfl|h
   ·rfl
   ·have:dm=[]:=iY.1 h;subst this;cases t'<;>rfl
  unfold xZ at hR;rw[lc]at hR;simp only[aR]at hR;subst hR;have g1:w.heap.size+3<=w1.heap.size:=by have:=ha.grown;rw[jC]at this;exact this
  refine⟨nO (fun r p=>match r with|.rs 0=>.own (.rs 1) p|.ar i=>.own (.ar i) p|_=>.no) bB aU none,Jn none (W3:=W3) (wo:=w1.alloc (Obj.cells #[.slice B es.length c] 167)) dl (by rw[jC];omega) vr rfl rfl ha (by simp only[eE,Y5];omega) (fun b hb=>by simp only[eE,Y3,if_neg (mM hb)]) rfl rfl eV hS.gr (fun b e=>by cases e) (by omega) (by omega) (by simp) (by simp) ?_ ?_ trivial⟩
  ·intro r p j q h;split at h<;>simp at h;obtain⟨rfl,_⟩:=h;simp
  ·have hr:=ha.dG;simp only[nU,jP]at hr;obtain⟨va,iQ,j4⟩:=hr;have e0:va=#[.slice B es.length c]:=by simpa using iQ.symm
   subst e0;refine⟨_,rfl,rfl,fun j r u hj hu=>?_⟩
   match j,hj,hu with
   |0,hj,hu=>
    simp at hj hu;subst hj hu;exact⟨_,rfl,ZR⟩
   |1,hj,hu=>
    simp at hj hu;subst hj hu;refine⟨_,rfl,w9 _ (by simp[cP,T.closed,hc]) ?_ j4⟩;intro b q hb;simp only[eC]at hb⊢;have l1:=ha.low b (by rw[hb];simp);refine⟨by simp only[EO,nN,hb],?_⟩;have nb:∀b',w.heap.size<=b'->b'<w.heap.size+3->b≠b':=fun b' q1 q2 q3=>by
     have dK:ow b'=.no:=by
      cases h:ow b' with
      |no=>rfl
      |z=>exact absurd (dl b' (by rw[h];simp)) (by omega)
      |own r p=>exact absurd (dl b' (by rw[h];simp)) (by omega)
     have:=(ha.no b' (by rw[jC];exact q2) dK).1;rw[<-q3,hb]at this;cases this
    rw[hS.h b (nb _ (by omega) (by omega)) (nb _ (by omega) (by omega)),(eV.no b (by simp only[eE,Y5];omega) (by simp only[jy,hb])).2,eE,Y3,if_neg (by omega)]
   |2,hj,hu=>
    simp at hj hu;subst hj hu;simp[jP,ay]
   |j+3,hj,_=>simp at hj
 ·rintro aO off m c w1 w2 w' A' C' news ⟨rfl,ga,Gf⟩ ⟨rfl,bB,aU,ha,eV⟩ hn hm0 hS qw hnw hP a0 a1 A2 n2 c2 a3 a4 a5 a6 A7 n7 c7 A8 n8 c8 A9 n9 c9 u0 u1 u2 u3 u4 u5 u6 u7 u8 u9;have Au:(true&& !dm.isEmpty)=true:=by cases dm with
   |nil=>simp at hn
   |cons _ _=>rfl
  unfold xZ at hR;rw[Au]at hR
  match es,hR with
  |.a e::bW,hR=>
   simp only[Option.ite_none_right_eq_some,aR]at hR;obtain⟨sx,rfl⟩:=hR;obtain⟨hb,rn⟩:=Bool.and_eq_true_iff.1 sx;have g1:w.heap.size+3<=w1.heap.size:=by have:=ha.grown;rw[jC]at this;exact this
   have hr:=ha.dG;simp only[nU,jP]at hr;obtain⟨va,iQ,j4⟩:=hr;have e0:va=#[.slice (some ⟨aO,off,none⟩) (T.a e::bW).length c]:=by simpa using iQ.symm
   subst e0;simp only[bZ,Loc.push,eC]at j4;obtain⟨v',rest,oQ,j4,ei⟩:=j4;subst ei;simp only[fq,and_true]at oQ;subst oQ;have abp:=j4;simp only[ay]at j4;obtain⟨_,A',cp,hv,h1,_,h3⟩:=j4;simp only[fq,Value.slice.injEq,and_true,true_and]at hv;obtain⟨rfl,rfl⟩:=hv;obtain⟨dg,eF,aG,ty,fr,bE,hh,eA,bP,cg⟩:=h3 (.inl rfl);simp only at dg hh bP eF;have nz:bB aO=.own (.rs 0) [0]:=by simpa[Ob.loc,Ob.own,Loc.ow]using eF
   obtain⟨gb,alY,rfl,eH,fp,nE,Ss,Gq,hgn⟩:=hP;have kept:∀b r p,bB b=.own r p->w'.heap[b]?=w1.heap[b]?/\w2.heap[b]?=w1.heap[b]?:=fun b r p hb=>by
    have l1:=ha.low b (by rw[hb];simp);have nb:∀b',w.heap.size<=b'->b'<w.heap.size+3->b≠b':=fun b' q1 q2 q3=>by
     have dK:ow b'=.no:=by
      cases h:ow b' with
      |no=>rfl
      |z=>exact absurd (dl b' (by rw[h];simp)) (by omega)
      |own r p=>exact absurd (dl b' (by rw[h];simp)) (by omega)
     have:=(ha.no b' (by rw[jC];exact q2) dK).1;rw[<-q3,hb]at this;cases this
    have q:w2.heap[b]?=w1.heap[b]?:=by rw[(eV.no b (by simp only[eE,Y5];omega) (by simp only[jy,hb])).2,eE,Y3,if_neg (by omega)]
    exact⟨by rw[hS.h b (by have:=eV.grown;simp only[eE,Y5]at this;omega) (nb _ (by omega) (by omega)) (nb _ (by omega) (by omega)),q],q⟩
   simp only[cw,ay]at cg;obtain⟨v1,rest,rfl,dp,iL,dY⟩:=cg;have gW:v1=[.int .i64 a0,.int .i64 a1,.slice A2 n2 c2,.int .i64 a3,.int .i64 a4,.int .i64 a5,.int .i64 a6,.slice A7 n7 c7,.slice A8 n8 c8,.slice A9 n9 c9]:=by
    obtain⟨b0,b1,B2,m2,d2,b3,b4,b5,b6,B7,m7,d7,B8,m8,d8,B9,m9,d9,rfl⟩:=Iy hb iL;have cell:∀j v,(([.int .i64 b0,.int .i64 b1,.slice B2 m2 d2,.int .i64 b3,.int .i64 b4,.int .i64 b5,.int .i64 b6,.slice B7 m7 d7,.slice B8 m8 d8,.slice B9 m9 d9]:List Value)++rest)[j]?=some v->w2.cell? ⟨aO,off+j,none⟩=some v:=fun j v hj=>by
     simp[World.cell?,(kept aO _ _ nz).2,hh,bP j v hj]
    have k0:=(cell 0 _ rfl).symm.trans u0;have k1:=(cell 1 _ rfl).symm.trans u1;have k2:=(cell 2 _ rfl).symm.trans u2;have k3:=(cell 3 _ rfl).symm.trans u3;have k4:=(cell 4 _ rfl).symm.trans u4;have k5:=(cell 5 _ rfl).symm.trans u5;have k6:=(cell 6 _ rfl).symm.trans u6;have k7:=(cell 7 _ rfl).symm.trans u7;have k8:=(cell 8 _ rfl).symm.trans u8;have k9:=(cell 9 _ rfl).symm.trans u9;simp only[aR]at k0 k1 k2 k3 k4 k5 k6 k7 k8 k9;rw[k0,k1,k2,k3,k4,k5,k6,k7,k8,k9]
   subst gW;have aa1:∀b r p,bB b=.own r p->b≠gb:=fun b r p hb e=>by
    have l1:=ha.low b (by rw[hb];simp);have:=eV.grown;simp only[eE,Y5]at this;omega
   have iD:rest.length=bW.length*10:=qW dY;have hnr:news=rest:=by
    apply uB;intro j;by_cases hj:j<rest.length
    ·have fP:j<news.length:=by rw[qw];simpa[iD]using hj
     have k1:=hnw j news[j] (bF fP);have k2:=bP (10+j) rest[j] (by rw[kD (by simp)];simp[hj]);have k3:w2.cell? ⟨aO,off+10+j,none⟩=some rest[j]:=by simp[World.cell?,(kept aO _ _ nz).2,hh,fK,k2]
     rw[k1]at k3;rw[bF fP,bF hj,Option.some.inj k3]
    ·rw[pe (by rw[qw];simpa[iD]using hj),pe (by omega)]
   subst hnr;have Aq:cP e=true:=by simp only[cP,T.closed,Y8]at hc;exact hc.1
   have fX:cP bW=true:=by simp only[cP,T.closed,Y8]at hc;exact hc.2
   refine⟨nO (fun r p=>match r,p with|.rs 0,0::0::q=>.own (.rs 0) q|.rs 0,0::(k+1)::q=>.own (.rs 1) (0::k::q)|.ar i,p=>.own (.ar i) p|_,_=>.no) bB aU (some gb),
    Jn (some gb) (W3:=W3) (wo:=w1.alloc (Obj.cells #[.slice (some ⟨aO,off,none⟩) (T.a e::bW).length c] 167)) dl (by rw[jC];omega) vr rfl rfl ha (by simp only[eE,Y5];omega) (fun b hb=>by simp only[eE,Y3,if_neg (mM hb)]) rfl rfl eV hS (fun b e=>by cases e;exact⟨eH,fp⟩) (by omega) (by omega) (by simp) (by simp) ?_ ?_ trivial⟩
   ·intro r p j q h;split at h<;>simp at h;all_goals (obtain⟨rfl,_⟩:=h;simp)
   ·refine⟨_,rfl,rfl,fun j r u hj hu=>?_⟩
    match j,hj,hu with
    |0,hj,hu=>
     simp at hj hu;subst hj hu;refine⟨_,rfl,w9 e Aq ?_ iL⟩;intro b q hb;exact⟨by simp only[Ob.loc,Ob.own,if_true,Loc.push,gf,eC]at hb;rw[XV (aa1 _ _ _ hb)];simp only[nN,hb,eC],(kept b _ _ hb).1⟩
    |1,hj,hu=>
     simp at hj hu;subst hj hu;refine⟨_,rfl,?_⟩;simp only[bZ,Loc.push,eC];refine⟨_,_,rfl,?_,rfl⟩;simp only[ay];refine⟨fun _=>by simp,some ⟨gb,0,none⟩,C',by simp,by simpa using Gq,(fun k hk=>by cases hk),fun _=>⟨rfl,by simp[nO,Ob.loc,Ob.own,Loc.ow],alY,_,_,news,nE,fun _=>⟨.inl (Nat.le_refl _),by simp only[db];omega⟩,fun j u hj=>by rw[db];exact hgn j u hj,?_⟩⟩;refine Ya (k:=1) (p:=[0]) (r:=.rs 0) fX (fun j _=>?_) dY;intro b q hb;simp only[gf,eC,db]at hb⊢;rw[Nat.add_comm 1 j]at hb;exact⟨by rw[XV (aa1 _ _ _ hb)];simp only[nN,hb],(kept b _ _ hb).1⟩
    |2,hj,hu=>
     simp at hj hu;subst hj hu;simp[jP,ay]
    |j+3,hj,_=>simp at hj
end Go.Wr

