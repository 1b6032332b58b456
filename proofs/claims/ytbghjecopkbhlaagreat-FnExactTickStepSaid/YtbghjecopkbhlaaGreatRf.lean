/-
  What is proved: lemmas for the laws. No condition.
-/
import Derived.Test.YtbghjecopkbhlaaGreatRb
import Derived.Test.YtbghjecopkbhlaaGreatRa
set_option linter.unusedVariables false
set_option linter.unusedSimpArgs false
namespace Go.Wr
section
variable {ae:Nat->FuncId}{mv:Nat->Value}{w w':World}{ow ap:Nat->Ow}
theorem Jr (hz:Zs w ow w' ap) {node fM:T}:∀(p:List Nat) (t:T) {c:Loc}{vs:List Value}{b o:Nat},ay ae mv w ow c t vs->At w b o vs->t.aM p=some node->
  (∀b' o' bE,cE w t b o p=some (b',o')->At w b' o' bE->ay ae mv w ow (t.fF c p) node bE->ay ae mv w' ap (t.fF c p) fM bE)->
  (∀r q,c=some (r,q)->∀b q',ow b=.own r (q++q')->¬p <+: q'->ap b=.own r (q++q')/\w'.heap[b]?=w.heap[b]?)->
  ay ae mv w' ap c (t.put p fM) vs
 |[],t,c,vs,b,o,h,Kx,hn,eh,_=>by
  simp only[T.aM,aR]at hn;subst hn;have:=eh b o vs (by cases t<;>rfl) Kx (by cases t<;>exact h);cases t<;>exact this
 |k::p,t,c,vs,b0,o0,h,Kx,hn,eh,jY=>by
  have Bo:∀j,j≠k->Tr w ow w' ap (c.push j) (c.push j):=fun j hj=>by
   rcases c with _|⟨r,q⟩
   ·trivial
   ·intro b q' hb;have cU:ow b=.own r (q++(j::q')):=by rw[hb];simp
    obtain⟨h1,h2⟩:=jY r q rfl b (j::q') cU (by simp[Ne.symm hj]);exact⟨by rw[h1];simp,h2⟩
  have down:∀r q,c.push k=some (r,q)->∀b q',ow b=.own r (q++q')->¬p <+: q'->ap b=.own r (q++q')/\w'.heap[b]?=w.heap[b]?:=fun r q hq b q' hb vP=>by
   rcases c with _|⟨r0,q0⟩
   ·cases hq
   ·simp only[gU,aR,di]at hq;obtain⟨rfl,rfl⟩:=hq;have cU:ow b=.own r0 (q0++(k::q')):=by rw[hb];simp
    obtain⟨h1,h2⟩:=jY r0 q0 rfl b (k::q') cU (by simpa using vP);exact⟨by rw[h1];simp,h2⟩
  cases t<;>simp only[T.aM,T.bA,yQ,reduceCtorEq]at hn
  case a cs=>
   obtain⟨t',bG,gK⟩:=gG.1 hn;simp only[T.fF,cE,bG]at eh;have hAk:∀u,vs[k]?=some u->At w b0 (o0+k) [u]:=fun u hu j x hx=>by
    cases j with
    |zero=>simp at hx;subst hx;exact Kx k _ hu
    |succ j=>simp at hx
   simp only[ay]at h;have dC:=ol h;have hk:k<cs.length:=(bt.1 bG).1;simp only[T.put,T.bA,bG,T.dP,ay];refine pj (by simp[dC]) fun j x u hx hu=>?_;obtain⟨u',jz,hr⟩:∃u',vs[j]?=some u'/\∀y,cs[j]?=some y->ay ae mv w ow (c.push (0+j)) y [u']:=by
    obtain⟨y,hy⟩:∃y,cs[j]?=some y:=by
     have:=(bt.1 hx).1;exact⟨_,bF (by simpa using this)⟩
    obtain⟨u',h1,h2⟩:=kT h hy;exact⟨u',h1,fun y' GM=>by rw[hy]at GM;cases GM;exact h2⟩
   rw[jz]at hu;cases hu;rw[db]at hr⊢;by_cases hj:j=k
   ·subst hj;rw[il hk]at hx;cases hx;exact Jr hz p t' (hr t' bG) (hAk _ jz) gK eh down
   ·rw[jQ (Ne.symm hj)]at hx;exact cB hz x (Bo j hj) (hr x hx)
  case l o sz es=>
   obtain⟨t',bG,gK⟩:=gG.1 hn;simp only[T.fF,bG]at eh;simp only[T.put,T.bA,bG,T.dP];simp only[ay]at h⊢;obtain⟨h0,A,cap,rfl,hc,hm,ei⟩:=h;have dR:=(Kx.cons).1;have hk:k<es.length:=(bt.1 bG).1;refine⟨h0,A,cap,by simp,by simpa using hc,by simpa using hm,?_⟩;cases A with
   |none=>exact ei
   |some ad=>
    intro _;have bC:es≠[]:=by intro he;subst he;simp at bG
    obtain⟨hs,hb,aG,ty,fr,bE,hh,eA,bP,cg⟩:=ei (.inr bC);have cW:ap ad.block=(o.loc c).ow/\w'.heap[ad.block]?=w.heap[ad.block]?:=by
     unfold Ob.loc at hb⊢;split at hb<;>rename_i ho
     ·rw[if_pos ho];rcases c with _|⟨r,q⟩
      ·exact hz _ hb
      ·have:=jY r q rfl ad.block [] (by simpa[Loc.ow]using hb) (by simp);simpa[Loc.ow]using this
     ·rw[if_neg ho];exact hz _ hb
    refine⟨hs,cW.1,aG,ty,fr,bE,cW.2▸hh,eA,bP,?_⟩;refine Ch cg (by simp) rfl fun j t2 v2 hj dy dS gQ=>?_;rw[db]at dS⊢;by_cases jI:j=k
    ·subst jI;rw[bG]at hj;cases hj;refine⟨_,v2,il hk,dy,Jr hz p t' dS (b:=ad.block) (o:=ad.off+j*sz) (fun i x hx=>by
      rw[iZ hh,fK];exact bP _ _ (gQ i x hx)) gK (fun b' o' ek h1 h2 h3=>eh b' o' ek (by simp only[cE,dR,bG];exact h1) h2 h3) ?_,gQ⟩
     intro r q hq;unfold Ob.loc at hq;split at hq
     ·exact down r q hq
     ·cases hq
    ·refine⟨t2,v2,by rw[jQ (Ne.symm jI)];exact hj,dy,cB hz t2 ?_ dS,gQ⟩;unfold Ob.loc;split
     ·exact Bo j jI
     ·trivial
theorem Zjb (hz:Zs w ow w' ap) {node fM:T}{k:Nat}{p:List Nat}{o:Ob}{sz:Nat}{es:List T}{c:Loc}{v:Value} (h:ay ae mv w ow c (.l o sz es) [v]) (hn:(T.l o sz es).aM (k::p)=some node)
  (eh:∀A n cap b' o' bE,v=.slice A n cap->eY w (.l o sz es) A (k::p)=some (b',o')->At w b' o' bE->ay ae mv w ow ((T.l o sz es).fF c (k::p)) node bE->ay ae mv w' ap ((T.l o sz es).fF c (k::p)) fM bE)
  (jY:∀r q,c=some (r,q)->∀b q',ow b=.own r (q++q')->¬(k::p) <+: q'->ap b=.own r (q++q')/\w'.heap[b]?=w.heap[b]?):
  ay ae mv w' ap c ((T.l o sz es).put (k::p) fM) [v]:=by
 have Bo:∀j,j≠k->Tr w ow w' ap (c.push j) (c.push j):=fun j hj=>by
  rcases c with _|⟨r,q⟩
  ·trivial
  ·intro b q' hb;have cU:ow b=.own r (q++(j::q')):=by rw[hb];simp
   obtain⟨h1,h2⟩:=jY r q rfl b (j::q') cU (by simp[Ne.symm hj]);exact⟨by rw[h1];simp,h2⟩
 have down:∀r q,c.push k=some (r,q)->∀b q',ow b=.own r (q++q')->¬p <+: q'->ap b=.own r (q++q')/\w'.heap[b]?=w.heap[b]?:=fun r q hq b q' hb vP=>by
  rcases c with _|⟨r0,q0⟩
  ·cases hq
  ·simp only[gU,aR,di]at hq;obtain⟨rfl,rfl⟩:=hq;have cU:ow b=.own r0 (q0++(k::q')):=by rw[hb];simp
   obtain⟨h1,h2⟩:=jY r0 q0 rfl b (k::q') cU (by simpa using vP);exact⟨by rw[h1];simp,h2⟩
 simp only[T.aM,T.bA]at hn;obtain⟨t',bG,gK⟩:=gG.1 hn;simp only[T.fF,bG]at eh;simp only[T.put,T.bA,bG,T.dP];simp only[ay]at h⊢;obtain⟨h0,A,cap,hv,hc,hm,ei⟩:=h;obtain rfl:v=.slice A es.length cap:=by simpa using hv
 have hk:k<es.length:=(bt.1 bG).1;refine⟨h0,A,cap,by simp,by simpa using hc,by simpa using hm,?_⟩;cases A with
 |none=>exact ei
 |some ad=>
  intro _;have bC:es≠[]:=by intro he;subst he;simp at bG
  obtain⟨hs,hb,aG,ty,fr,bE,hh,eA,bP,cg⟩:=ei (.inr bC);have cW:ap ad.block=(o.loc c).ow/\w'.heap[ad.block]?=w.heap[ad.block]?:=by
   unfold Ob.loc at hb⊢;split at hb<;>rename_i ho
   ·rw[if_pos ho];rcases c with _|⟨r,q⟩
    ·exact hz _ hb
    ·have:=jY r q rfl ad.block [] (by simpa[Loc.ow]using hb) (by simp);simpa[Loc.ow]using this
   ·rw[if_neg ho];exact hz _ hb
  refine⟨hs,cW.1,aG,ty,fr,bE,cW.2▸hh,eA,bP,?_⟩;refine Ch cg (by simp) rfl fun j t2 v2 hj dy dS gQ=>?_;rw[db]at dS⊢;by_cases jI:j=k
  ·subst jI;rw[bG]at hj;cases hj;refine⟨_,v2,il hk,dy,Jr hz p t' dS (b:=ad.block) (o:=ad.off+j*sz) (fun i x hx=>by
    rw[iZ hh,fK];exact bP _ _ (gQ i x hx)) gK (fun b' o' ek h1 h2 h3=>eh _ _ _ b' o' ek rfl (by simp only[eY,bG];exact h1) h2 h3) ?_,gQ⟩
   intro r q hq;unfold Ob.loc at hq;split at hq
   ·exact down r q hq
   ·cases hq
  ·refine⟨t2,v2,by rw[jQ (Ne.symm jI)];exact hj,dy,cB hz t2 ?_ dS,gQ⟩;unfold Ob.loc;split
   ·exact Bo j jI
   ·trivial
end
section
variable {X:Cx}{U:Nat->Prop}{J J':Nat}{σ aj aX:St}{a a' a2:Act}{w w' w2:World}{ow ap aU:Nat->Ow}
theorem Zm3 {r:Nat}{c:RC}{v:Value} (hc:(σ r).rc=some c) (hs:cK X σ a w ow r (σ r) v) {p:List Nat}{node fM:T} (hn:c.t.aM p=some node)
  (hp:c.dh=true\/p≠[]) (fk:c.dh=true->p≠[]) (hz:Zs w ow w' ap)
  (eh:∀b o bE,place w c v p=some (b,o)->At w b o bE->ay X.ae X.mv w ow (c.t.fF (some (.sl r,[])) p) node bE->ay X.ae X.mv w' ap (c.t.fF (some (.sl r,[])) p) fM bE)
  (jY:∀b q',ow b=.own (.sl r) q'->¬p <+: q'->ap b=.own (.sl r) q'/\w'.heap[b]?=w.heap[b]?):
  ({c with t:=c.t.put p fM}:RC).av.rc=some {c with t:=c.t.put p fM}/\cK X aX a2 w' ap r ({c with t:=c.t.put p fM}:RC).av v:=by
 have SU:p≠[]:=by
  rcases hp with h|h
  ·exact fk h
  ·exact h
 obtain⟨k,p,rfl⟩:∃k q,p=k::q:=by
  cases p with
  |nil=>exact absurd rfl SU
  |cons k q=>exact⟨k,q,rfl⟩
 have Gu:∀(r':aJ) (q:List Nat),some (aJ.sl r,([]:List Nat))=some (r',q)->∀b q',ow b=.own r' (q++q')->¬(k::p) <+: q'->
   ap b=.own r' (q++q')/\w'.heap[b]?=w.heap[b]?:=fun r' q hq b q' hb vP=>by
  simp only[aR,di]at hq;obtain⟨rfl,rfl⟩:=hq;exact jY b q' hb vP
 rcases ju hc with⟨hb,cs,ht,hv⟩|⟨hb,hv⟩
 ·obtain⟨ib,kk,t⟩:=c;simp only at hb ht hn eh hv⊢;subst hb ht;rw[hv]at hs;simp only[cK]at hs;obtain⟨b,aG,ty,fr,rfl,cW,hh,hf,hr⟩:=hs;simp only[T.aM,T.bA]at hn;have na:=hn;obtain⟨t',bG,gK⟩:=gG.1 hn;have mo:(T.a cs).put (k::p) fM=.a (cs.set k (t'.put p fM)):=by simp only[T.put,T.bA,bG,T.dP]
  have h1:=Jr hz (node:=node) (fM:=fM) (k::p) (.a cs) (c:=some (.sl r,[])) (vs:=aG.toList) (by simp only[ay];exact hr) (uI hh) (by simp only[T.aM,T.bA];exact na) (fun b' o' bE h1 h2 h3=>eh b' o' bE (by simp only[place];exact h1) h2 h3) Gu;rw[mo]at h1⊢;simp only[ay]at h1;obtain⟨h2,h3⟩:=jY b [] cW (by simp);exact⟨rfl,b,aG,ty,fr,rfl,h2,h3▸hh,hf,h1⟩
 ·obtain⟨ib,kk,t⟩:=c;simp only at hb hn eh hv⊢;subst hb;rw[hv]at hs;simp only[cK]at hs;obtain⟨⟨o,sz,es,rfl,ho⟩,hr⟩:=hs;have h1:=Zjb hz (node:=node) (fM:=fM) (c:=some (.sl r,[])) hr hn (fun A n cap b' o' bE hv h1 h2 h3=>eh b' o' bE (by subst hv;simp only[place];exact h1) h2 h3) Gu;simp only[T.aM,T.bA]at hn;obtain⟨t',bG,gK⟩:=gG.1 hn;have mo:(T.l o sz es).put (k::p) fM=.l o sz (es.set k (t'.put p fM)):=by simp only[T.put,T.bA,bG,T.dP]
  rw[mo]at h1⊢;cases o with
  |n=>simp[Ob.own]at ho
  |y=>exact⟨rfl,⟨_,_,_,rfl,rfl⟩,h1⟩
  |m j=>exact⟨rfl,⟨_,_,_,rfl,rfl⟩,h1⟩
end
theorem Zcy {t t' y:T}{k j:Nat} (ht:t.bA k=some t'):(t.dP k y).bA j=if j=k then some y else t.bA j:=by
 cases t<;>simp only[T.bA,reduceCtorEq]at ht
 case a cs=>
  simp only[T.dP,T.bA,List.getElem?_set];have:=(bt.1 ht).1;by_cases h:k=j
  ·subst h;simp[this]
  ·simp[h,Ne.symm h]
 case l o sz es=>
  simp only[T.dP,T.bA,List.getElem?_set];have:=(bt.1 ht).1;by_cases h:k=j
  ·subst h;simp[this]
  ·simp[h,Ne.symm h]
theorem Xa:∀(p q:List Nat) (t x:T),¬p <+: q->¬q <+: p->(t.put p x).aM q=t.aM q
 |[],q,t,x,h,_=>absurd List.nil_prefix h
 |k::p,[],t,x,_,h=>absurd List.nil_prefix h
 |k::p,j::q,t,x,h,h2=>by
  cases ht:t.bA k with
  |none=>simp only[T.put,ht]
  |some t'=>
   simp only[T.put,ht,T.aM,Zcy ht];by_cases hj:j=k
   ·subst hj;simp only[if_true,ht,jl];exact Xa p q t' x (fun e=>h (by simpa using e)) (fun e=>h2 (by simpa using e))
   ·simp only[if_neg hj]
theorem I1 (w:World):∀(p q:List Nat) (t x:T) (b o:Nat),¬p <+: q->cE w (t.put p x) b o q=cE w t b o q
 |[],q,t,x,b,o,h=>absurd List.nil_prefix h
 |k::p,[],t,x,b,o,_=>by
  have:∀t:T,cE w t b o []=some (b,o):=fun t=>by cases t<;>rfl
  rw[this,this]
 |k::p,j::q,t,x,b,o,h=>by
  cases t
  case a cs=>
   cases ht:cs[k]? with
   |none=>simp only[T.put,T.bA,ht]
   |some t'=>
    have hk:=(bt.1 ht).1;simp only[T.put,T.bA,ht,T.dP,cE,List.getElem?_set];by_cases hj:k=j
    ·subst hj;simp only[if_true,hk,ht];exact I1 w p q t' x b (o+k) (fun e=>h (by simpa using e))
    ·simp only[if_neg hj]
  case l ob sz es=>
   cases ht:es[k]? with
   |none=>simp only[T.put,T.bA,ht]
   |some t'=>
    have hk:=(bt.1 ht).1;simp only[T.put,T.bA,ht,T.dP,cE,List.getElem?_set];by_cases hj:k=j
    ·subst hj;simp only[if_true,hk,ht];cases hc:w.cell? ⟨b,o,none⟩ with
     |none=>rfl
     |some v=>
      cases v<;>try rfl
      rename_i A n cap;cases A with
      |none=>rfl
      |some ad=>exact I1 w p q t' x ad.block (ad.off+k*sz) (fun e=>h (by simpa using e))
    ·simp only[if_neg hj]
  all_goals rfl
theorem Zhz (w:World) (c:RC) (v:Value) (p q:List Nat) (x:T) (h:¬p <+: q):place w {c with t:=c.t.put p x} v q=place w c v q:=by
 obtain⟨ib,kk,t⟩:=c;cases ib with
 |true=>
  unfold place;cases v<;>try rfl
  rename_i a;cases a with
  |none=>rfl
  |some ad=>exact I1 w p q t x ad.block 0 h
 |false=>
  unfold place;cases v<;>try rfl
  rename_i A n cap;show eY w (t.put p x) A q=eY w t A q;cases p with
  |nil=>exact absurd List.nil_prefix h
  |cons k p=>
   cases t
   case l ob sz es=>
    cases ht:es[k]? with
    |none=>simp only[T.put,T.bA,ht]
    |some t'=>
     have hk:=(bt.1 ht).1;simp only[T.put,T.bA,ht,T.dP];cases A with
     |none=>cases q<;>rfl
     |some ad=>
      cases q with
      |nil=>rfl
      |cons j q=>
       simp only[eY,List.getElem?_set];by_cases hj:k=j
       ·subst hj;simp only[if_true,hk,ht];exact I1 w p q t' x ad.block (ad.off+k*sz) (fun e=>h (by simpa using e))
       ·simp only[if_neg hj]
   case a cs=>
    simp only[T.put,T.bA];cases fX:cs[k]?<;>rfl
   all_goals rfl
section
variable {X:Cx}{U:Nat->Prop}{J J':Nat}{σ aj aX:St}{a a' a2:Act}{w w' w2:World}{ow ap aU:Nat->Ow}{e:Nat}{o:Oper}
def pD (ow:Nat->Ow) (r n:Nat) (pre p:List Nat):Nat->Ow:=fun b=>
 match ow b with
 |.own (.ar m) q=>if m=n/\pre <+: q then .own (.sl r) (p++q.drop pre.length) else .own (.ar m) q
 |x=>x
theorem IW {r n:Nat}{pre p:List Nat}:Zs w ow w (pD ow r n pre p):=fun b hb=>⟨by simp[pD,hb],rfl⟩
theorem Zd7 {r n b:Nat}{pre p q:List Nat} (hb:ow b=.own (.ar n) (pre++q)):pD ow r n pre p b=.own (.sl r) (p++q):=by
 simp[pD,hb]
theorem WJ {r n b s:Nat}{pre p q:List Nat} (hb:ow b=.own (.sl s) q):pD ow r n pre p b=.own (.sl s) q:=by
 simp[pD,hb]
theorem WI {r n b m:Nat}{pre p q:List Nat} (hb:ow b=.own (.ar m) q) (h:¬(m=n/\pre <+: q)):pD ow r n pre p b=.own (.ar m) q:=by
 simp only[pD,hb,if_neg h]
theorem Zd6 {r n b i:Nat}{pre p q:List Nat} (h:pD ow r n pre p b=.own (.ar i) q):ow b=.own (.ar i) q:=by
 unfold pD at h;split at h
 ·split at h
  ·cases h
  ·rename_i h1 _;rw[h1];exact h
 ·exact h
theorem Zje {r n:Nat}{c:RC}{v u:Value}{p pre:List Nat}{x:T}{b o:Nat} (hc:(σ r).rc=some c) (hs:cK X σ a w ow r (σ r) v) (hn:c.t.aM p=some .u) (hm:c.t.eO p=true)
  (hp:p≠[]) (fA:place w c v p=some (b,o)) (dR:w.cell? ⟨b,o,none⟩=some u) (hx:ay X.ae X.mv w ow (some (.ar n,pre)) x [u]):
  ({c with t:=c.t.put p x}:RC).av.rc=some {c with t:=c.t.put p x}/\cK X aX a2 w (pD ow r n pre p) r ({c with t:=c.t.put p x}:RC).av v:=by
 refine Zm3 hc hs hn (.inr hp) (fun _=>hp) IW (fun b' o' bE h1 h2 h3=>?_) (fun b' q' hb _=>⟨WJ hb,rfl⟩);rw[fA]at h1;cases h1;simp only[ay]at h3;obtain⟨v',rfl,_⟩:=h3;have:=(h2.cons).1;rw[dR]at this;cases this;rw[O1 p c.t _ _ hm];simp only[eC];exact cB (c:=some (.ar n,pre)) (c':=some (.sl r,p)) IW x (fun b' q hb=>⟨Zd7 hb,rfl⟩) hx
structure o8 where
 p:List Nat
 x:T
 n:Nat
 pre:List Nat
def nM:List o8->T->Option T
 |[],t=>some t
 |l::ls,t=>match t.aM l.p with
  |some .u=>if t.eO l.p&& !l.p.isEmpty&&ls.all (fun m=> !(l.p.isPrefixOf m.p)) then nM ls (t.put l.p l.x) else none
  |_=>none
def o8.CE (l m:o8):Prop:=¬(m.n=l.n/\(l.pre <+: m.pre\/m.pre <+: l.pre))
structure UI (w:World) (ow ap:Nat->Ow) (ls:List o8):Prop where
 z:Zs w ow w ap
 sl:∀b s q,ow b=.own (.sl s) q->ap b=.own (.sl s) q
 rs:∀b s q,ow b=.own (.rs s) q->ap b=.own (.rs s) q
 no:∀b,ow b=.no->ap b=.no
 dw:∀b i q,ap b=.own (.ar i) q->ow b=.own (.ar i) q
 out:∀b i q,ow b=.own (.ar i) q->(∀l∈ls,¬(i=l.n/\l.pre <+: q))->ap b=.own (.ar i) q
theorem XR {r:Nat}{v:Value}:∀(ls:List o8) {σ:St}{c:RC}{ow:Nat->Ow}{t':T},(σ r).rc=some c->cK X σ a w ow r (σ r) v->nM ls c.t=some t'->
  (∀l∈ls,∃b o u,place w c v l.p=some (b,o)/\w.cell? ⟨b,o,none⟩=some u/\ay X.ae X.mv w ow (some (.ar l.n,l.pre)) l.x [u])->ls.Pairwise o8.CE->
  ∃ap,UI w ow ap ls/\∀aX a2,({c with t:=t'}:RC).av.rc=some {c with t:=t'}/\cK X aX a2 w ap r ({c with t:=t'}:RC).av v
 |[],σ,c,ow,t',hc,hs,hp,_,_=>by
  simp only[nM,aR]at hp;subst hp;have iK:({c with t:=c.t}:RC).av=σ r:=by
   obtain⟨ib,kk,t⟩:=c;rcases ju hc with⟨hb,cs,ht,hv⟩|⟨hb,hv⟩
   ·simp only at hb ht;subst hb ht;rw[hv];rfl
   ·simp only at hb;subst hb;rw[hv]at hs⊢;simp only[cK]at hs;obtain⟨⟨o,sz,es,rfl,ho⟩,_⟩:=hs;cases o with
    |n=>simp[Ob.own]at ho
    |y=>rfl
    |m j=>rfl
  refine⟨ow,⟨fun b hb=>⟨hb,rfl⟩,fun _ _ _ h=>h,fun _ _ _ h=>h,fun _ h=>h,fun _ _ _ h=>h,fun _ _ _ h _=>h⟩,fun aX a2=>?_⟩;rw[iK];refine⟨hc,?_⟩;rcases ju hc with⟨hb,cs,ht,hv⟩|⟨hb,hv⟩<;>rw[hv]at hs⊢<;>exact hs
 |l::ls,σ,c,ow,t',hc,hs,hp,hl,GD=>by
  simp only[nM]at hp;split at hp
  ·rename_i hn;split at hp
   ·rename_i lc;simp only[Y8,lC,List.isEmpty_eq_false_iff,ne_eq,eJ]at lc;obtain⟨⟨hm,bC⟩,dD⟩:=lc;obtain⟨b,o,u,h1,h2,h3⟩:=hl l fe;have key:=fun aX a2=>Zje (aX:=aX) (a2:=a2) hc hs hn hm bC h1 h2 h3;rw[qQ]at GD;obtain⟨jf,_⟩:=key σ a;obtain⟨_,rC⟩:=key (bi σ r ({c with t:=c.t.put l.p l.x}:RC).av) a;obtain⟨ap,hL,oG⟩:=XR (r:=r) (v:=v) ls (σ:=bi σ r ({c with t:=c.t.put l.p l.x}:RC).av) (c:={c with t:=c.t.put l.p l.x}) (ow:=pD ow r l.n l.pre l.p) (t':=t') (by simpa[bi]using jf) (by simpa[bi]using rC) hp
     (fun m vJ=>by
      obtain⟨b2,o2,u2,g1,g2,g3⟩:=hl m (fJ _ vJ);have AO:¬l.p <+: m.p:=fun hh=>by
       have:=dD m vJ;rw[List.isPrefixOf_iff_prefix.2 hh]at this;cases this
      refine⟨b2,o2,u2,by rw[Zhz w c v l.p m.p l.x AO];exact g1,g2,?_⟩;refine cB (c:=some (.ar m.n,m.pre)) (c':=some (.ar m.n,m.pre)) IW m.x (fun b' q hb=>⟨WI hb fun hh=>?_,rfl⟩) g3;refine GD.1 m vJ ⟨hh.1,?_⟩;exact(List.prefix_or_prefix_of_prefix hh.2 (List.prefix_append m.pre q)))
     GD.2
    refine⟨ap,⟨fun b hb=>?_,fun b s q hb=>hL.sl b s q (WJ hb),fun b s q hb=>hL.rs b s q (by simp[pD,hb]),fun b hb=>hL.no b (by simp[pD,hb]),fun b i q hb=>Zd6 (hL.dw b i q hb),fun b i q hb px=>?_⟩,oG⟩
    ·exact hL.z b (IW (w:=w) b hb).1
    ·exact hL.out b i q (WI hb (px l fe)) fun m oI=>px m (fJ _ oI)
   ·cases hp
  ·cases hp
def Oa (t t':T):Prop:=(∀o sz bW,t'=.l o sz bW->∃es,t=.l o sz es/\es.length=bW.length)/\(∀cA,t'=.a cA->∃cs,t=.a cs)
theorem Zjk {t x:T}{p:List Nat} (hp:p≠[]):Oa t (t.put p x):=by
 obtain⟨k,p,rfl⟩:∃k q,p=k::q:=by
  cases p with
  |nil=>exact absurd rfl hp
  |cons k q=>exact⟨k,q,rfl⟩
 simp only[T.put];cases ht:t.bA k with
 |none=>exact⟨fun o sz bW h=>⟨bW,h,rfl⟩,fun cA h=>⟨cA,h⟩⟩
 |some t'=>
  cases t<;>simp only[T.bA,reduceCtorEq]at ht
  case a cs=>exact⟨fun o sz bW h=>by simp[T.dP]at h,fun cA h=>⟨cs,rfl⟩⟩
  case l o sz es=>
   refine⟨fun o' qK bW h=>?_,fun cA h=>by simp[T.dP]at h⟩;simp only[T.dP,T.l.injEq]at h;obtain⟨rfl,rfl,rfl⟩:=h;exact⟨es,rfl,by simp⟩
theorem XS:∀(ls:List o8) {t t':T},nM ls t=some t'->Oa t t'
 |[],t,t',h=>by
  simp only[nM,aR]at h;subst h;exact⟨fun o sz bW h=>⟨bW,h,rfl⟩,fun cA h=>⟨cA,h⟩⟩
 |l::ls,t,t',h=>by
  simp only[nM]at h;split at h
  ·split at h
   ·rename_i lc;simp only[Y8,lC,List.isEmpty_eq_false_iff,ne_eq]at lc;have h1:=Zjk (t:=t) (x:=l.x) lc.1.2;have h2:=XS ls h;refine⟨fun o sz bW he=>?_,fun cA he=>?_⟩
    ·obtain⟨bQ,e1,e2⟩:=h2.1 o sz bW he;obtain⟨es,e3,e4⟩:=h1.1 o sz bQ e1;exact⟨es,e3,e4.trans e2⟩
    ·obtain⟨xm,e1⟩:=h2.2 cA he;exact h1.2 xm e1
   ·cases h
  ·cases h
theorem Zcx {r:Nat}{c:RC}{t':T} (he:¬U e) (hc:(σ r).rc=some c) (cN:(aj r).rc=some {c with k:=⟨c.k.e,e,e⟩,t:=t'}) (ht:Oa c.t t'):dn U σ a w aj a w r:=by
 have sN:∀(k:K),U k.h->∀n,1<=n->K.ok ⟨c.k.e,e,e⟩ k n=true->False:=fun k hU n hn hk=>by
  obtain⟨n,rfl⟩:∃m,n=m+1:=⟨n-1,by omega⟩
  cases n with
  |zero=>
   simp only[K.ok,Y8,beq_iff_eq]at hk;exact he (hk.2▸hU)
  |succ n=>
   simp only[K.ok,Y8,beq_iff_eq]at hk;exact he (hk.1.2▸hU)
 have k0:∀k:K,K.ok ⟨c.k.e,e,e⟩ k 0=true->c.k.ok k 0=true:=fun k hk=>by simpa[K.ok]using hk
 obtain⟨ib,kk,t⟩:=c;constructor
 ·intro k p bo c2 u1 u2 u3 dx hk hp;rw[cN]at dx;cases dx;refine⟨⟨ib,kk,t⟩,hc,?_⟩;rcases ib with _|_
  ·-- a slice of auZ own
   rcases p with _|⟨i,_|⟨j,p⟩⟩
   ·exact(sN k u2 2 (by omega) hk).elim
   ·refine⟨k0 k hk,?_⟩;generalize bL a r=v at hp⊢;cases v<;>simp only[place,reduceCtorEq]at hp⊢;rename_i A n cap;cases t'<;>simp only[eY,reduceCtorEq]at hp;rename_i o sz bW;obtain⟨es,rfl,hl⟩:=ht.1 o sz bW rfl;cases A with
    |none=>simp[eY]at hp
    |some ad=>
     simp only[eY]at hp⊢;have sF:∀(t:T) (b o:Nat),cE w t b o []=some (b,o):=fun t b o=>by cases t<;>rfl
     cases h1:bW[i]? with
     |none=>simp[h1]at hp
     |some t1=>
      obtain⟨t2,h2⟩:∃t2,es[i]?=some t2:=⟨_,bF (by have:=(bt.1 h1).1;omega)⟩
      simp only[h1,h2,sF]at hp⊢;exact hp
   ·exact(sN k u2 2 (by omega) hk).elim
  ·rcases p with _|⟨i,p⟩
   ·refine⟨k0 k hk,?_⟩;have sF:∀(t:T) (b o:Nat),cE w t b o []=some (b,o):=fun t b o=>by cases t<;>rfl
    generalize bL a r=v at hp⊢;cases v<;>simp only[place,reduceCtorEq]at hp⊢;rename_i A;cases A with
    |none=>simp at hp
    |some ad=>simp only[sF]at hp⊢;exact hp
   ·exfalso;refine sN k u2 _ ?_ hk;rcases p with _|⟨j,_|⟨l,p⟩⟩<;>simp[j8]
 ·intro k p o' sz bW A N C c2 u1 u2 u3 dx hk hn hh;rw[cN]at dx;cases dx;rcases ib with _|_
  ·rcases p with _|⟨i,p⟩
   ·simp only[T.aM,aR]at hn;obtain⟨es,h1,h2⟩:=ht.1 o' sz bW hn;exact⟨_,o',es,hc,k0 k hk,by simp only[T.aM];exact congrArg some h1,h2,by simpa[fE]using hh⟩
   ·exfalso;refine sN k u2 _ ?_ hk;simp[ic]
  ·exfalso;refine sN k u2 _ ?_ hk;rcases p with _|⟨i,_|⟨j,p⟩⟩<;>simp[ic]
 ·intro k p cA c2 u1 u2 u3 dx hk hn;rw[cN]at dx;cases dx;rcases ib with _|_
  ·rcases p with _|⟨i,p⟩
   ·simp only[T.aM,aR]at hn;obtain⟨cs,h1⟩:=ht.2 cA hn;exact⟨_,cs,hc,k0 k hk,by simp only[T.aM];exact congrArg some h1⟩
   ·exfalso;refine sN k u2 _ ?_ hk;simp[ic]
  ·exfalso;refine sN k u2 _ ?_ hk;rcases p with _|⟨i,_|⟨j,p⟩⟩<;>simp[ic]
theorem Z9v (h:Rel X U J σ a w ow) {U':Nat->Prop} (hU:∀x,U x->U' x) {r:Nat}{v':AV} (rC:cK X (bi σ r v') a w ap r v' (bL a r)) (bD:v'.stamps U') (hz:Zs w ow w ap)
  (sG:∀b s q,s≠r->ow b=.own (.sl s) q->ap b=.own (.sl s) q) (dK:∀b,ow b=.no->ap b=.no) (cT:∀b i q,ap b=.own (.ar i) q->i<J')
  (GG:dn U σ a w (bi σ r v') a w r) (bC:σ r≠.u) (vN:∀n,σ r≠.dj n):Rel X U' J' (bi σ r v') a w ap/\∀r',dn U σ a w (bi σ r v') a w r':=by
 have dD:∀r',dn U σ a w (bi σ r v') a w r':=fun r'=>by
  by_cases hr:r'=r
  ·subst hr;exact GG
  ·exact ph (h.slot r') (by simp[bi,hr]) rfl hz (fun _ _ _=>rfl)
 refine⟨⟨h.size,h.small,h.defers,fun s=>?_,fun s=>?_,fun b hb=>h.low b fun e=>hb (dK b e),cT,h.grown,fun b hb hr=>?_,h.os,h.output,h.cO,fun s hs hu=>?_⟩,dD⟩
 ·by_cases hs:s=r
  ·subst hs;simpa[bi]using rC
  ·have:=qg (aj:=bi σ r v') (a':=a) (h.slot s) (h.fh s) hz dD (fun b q hb=>⟨sG b s q hs hb,rfl⟩);simpa[bi,hs]using this
 ·by_cases hs:s=r
  ·subst hs;simpa[bi]using bD
  ·simpa[bi,hs]using AV.yq hU (h.fh s)
 ·obtain⟨h1,h2⟩:=h.same b hb hr;refine⟨h1,?_⟩;cases h3:ow b with
  |no=>rw[dK b h3,<-h2,h3]
  |z=>rw[(hz b h3).1,<-h2,h3]
  |own r' q=>rw[h3]at h2;exact absurd h2.symm (hr r' q)
 ·obtain⟨n,h1,h2⟩:=h.pR s hs (by
   by_cases oN:s=r
   ·subst oN;exact bC
   ·simpa[bi,oN]using hu)
  refine⟨n,?_,h2⟩;have:s%1000≠r:=fun e=>vN n (e▸h1);simpa[bi,this]using h1
theorem Zpi {r:Nat}{c:RC}{k:K}{v:Value} (h:cK X σ a w ow r c.av v):cK X σ a w ow r ({c with k:=k}:RC).av v:=by
 obtain⟨ib,kk,t⟩:=c;cases ib<;>cases t<;>try exact h
 rename_i o sz es;cases o<;>exact h
theorem aty {c:RC}{k:K} (h:c.av.rc=some c):({c with k:=k}:RC).av.rc=some {c with k:=k}:=by
 obtain⟨ib,kk,t⟩:=c;cases ib<;>cases t<;>simp only[RC.av,AV.rc,reduceCtorEq]at h⊢;rename_i o sz es;cases o<;>simp only[AV.rc,reduceCtorEq]at h⊢
theorem Zil (h:Rel X U J σ a w ow) (he:¬U e) {r:Nat}{c:RC}{ls:List o8}{t':T} (hc:(σ r).rc=some c) (hp:nM ls c.t=some t')
  (hl:∀l∈ls,∃b o u,place w c (bL a r) l.p=some (b,o)/\w.cell? ⟨b,o,none⟩=some u/\ay X.ae X.mv w ow (some (.ar l.n,l.pre)) l.x [u]) (GD:ls.Pairwise o8.CE):
  ∃ap,UI w ow ap ls/\Rel X (fun x=>U x\/x=e) J (bi σ r ({c with k:=⟨c.k.e,e,e⟩,t:=t'}:RC).av) a w ap/\
   ∀r',dn U σ a w (bi σ r ({c with k:=⟨c.k.e,e,e⟩,t:=t'}:RC).av) a w r':=by
 obtain⟨ap,hL,oG⟩:=XR ls hc (h.slot r) hp hl GD;obtain⟨h1,h2⟩:=oG (bi σ r ({c with k:=⟨c.k.e,e,e⟩,t:=t'}:RC).av) a;have h3:=aty (k:=⟨c.k.e,e,e⟩) h1;have h4:=Zpi (k:=⟨c.k.e,e,e⟩) h2;refine⟨ap,hL,Z9v h (fun x hx=>.inl hx) h4 ?_ hL.z (fun b s q _ hb=>hL.sl b s q hb) hL.no (fun b i q hb=>h.dw b i q (hL.dw b i q hb)) ?_ (pg hc).1 (pg hc).2⟩
 ·have bD:=h.fh r;have hke:U c.k.e:=by
   rcases ju hc with⟨hb,cs,ht,aV⟩|⟨hb,aV⟩<;>rw[aV]at bD<;>exact bD.1
  generalize iK:({c with k:=⟨c.k.e,e,e⟩,t:=t'}:RC).av=av at h3;cases av<;>simp only[AV.rc,reduceCtorEq,aR]at h3<;>simp only[AV.stamps];all_goals
   have oH:=congrArg RC.k h3;simp only at oH;rw[oH];exact⟨.inl hke,.inr rfl,.inr rfl⟩
 ·exact Zcx he hc (by simpa[bi]using h3) (XS ls hp)
end
def hZ (n:Nat) (mu:Bool):Nat->List (Option (Nat×List Nat))->List T->List o8
 |k,some (_,p)::ps,t::ts=>⟨p,t,n,if mu then[] else[k]⟩::hZ n mu (k+1) ps ts
 |k,none::ps,_::ts=>hZ n mu (k+1) ps ts
 |_,_,_=>[]
theorem OX {n:Nat}{mu:Bool}{q:List Nat->Bool}:∀(ps:List (Option (Nat×List Nat))) (ts:List T) (k:Nat),(hZ n mu k ps ts).all (fun m=>q m.p)=(ng ps ts).all fun m=>q m.1
 |[],ts,k=>by simp[hZ,ng]
 |some (r,p)::ps,[],k=>by simp[hZ,ng]
 |none::ps,[],k=>by simp[hZ,ng]
 |some (r,p)::ps,t::ts,k=>by simp[hZ,ng,OX ps ts (k+1)]
 |none::ps,t::ts,k=>by simp[hZ,ng,OX ps ts (k+1)]
theorem OZ {n:Nat}{mu:Bool}:∀(ps:List (Option (Nat×List Nat))) (ts:List T) (k:Nat) (t:T),nM (hZ n mu k ps ts) t=qF (ng ps ts) t
 |[],ts,k,t=>by simp[hZ,ng,nM,qF]
 |some (r,p)::ps,[],k,t=>by simp[hZ,ng,nM,qF]
 |none::ps,[],k,t=>by simp[hZ,ng,nM,qF]
 |none::ps,x::ts,k,t=>by simp only[hZ,ng];exact OZ ps ts (k+1) t
 |some (r,p)::ps,x::ts,k,t=>by
  simp only[hZ,ng,nM,qF];rw[OX (q:=fun m=> !(p.isPrefixOf m)) ps ts (k+1),OZ ps ts (k+1)];cases h:t.aM p with
  |none=>rfl
  |some node=>cases node<;>rfl
theorem EF {n:Nat}{mu:Bool}{l:o8}:∀(ps:List (Option (Nat×List Nat))) (ts:List T) (k:Nat),l∈hZ n mu k ps ts->∃(j:Nat) (r:Nat) (x:T),ps[j]?=some (some (r,l.p))/\ts[j]?=some x/\l.x=x/\l.n=n/\l.pre=if mu then[] else[k+j]
 |[],ts,k,h=>by simp[hZ]at h
 |some (r,p)::ps,[],k,h=>by simp[hZ]at h
 |none::ps,[],k,h=>by simp[hZ]at h
 |none::ps,x::ts,k,h=>by
  simp only[hZ]at h;obtain⟨j,r,y,h1,h2,h3,h4,h5⟩:=EF ps ts (k+1) h;exact⟨j+1,r,y,by simpa using h1,by simpa using h2,h3,h4,by rw[h5,show k+1+j=k+(j+1) by omega]⟩
 |some (r,p)::ps,x::ts,k,h=>by
  simp only[hZ,iG]at h;rcases h with rfl|h
  ·exact⟨0,r,x,rfl,rfl,rfl,rfl,rfl⟩
  ·obtain⟨j,r,y,h1,h2,h3,h4,h5⟩:=EF ps ts (k+1) h;exact⟨j+1,r,y,by simpa using h1,by simpa using h2,h3,h4,by rw[h5,show k+1+j=k+(j+1) by omega]⟩
theorem OY {n:Nat}:∀(ps:List (Option (Nat×List Nat))) (ts:List T) (k:Nat),(hZ n false k ps ts).Pairwise o8.CE
 |[],ts,k=>by simp[hZ]
 |some (r,p)::ps,[],k=>by simp[hZ]
 |none::ps,[],k=>by simp[hZ]
 |none::ps,x::ts,k=>by simp only[hZ];exact OY ps ts (k+1)
 |some (r,p)::ps,x::ts,k=>by
  simp only[hZ,qQ];refine⟨fun l hl=>?_,OY ps ts (k+1)⟩;obtain⟨j,_,_,_,_,_,_,h5⟩:=EF ps ts (k+1) hl;unfold o8.CE;rw[h5];rintro⟨_,h|h⟩<;>simp at h<;>omega
theorem XN:∀(m p:List Nat) (t x y:T),m <+: p->m≠p->t.aM p=some y->(t.put p x).aM m≠some .u
 |[],[],t,x,y,_,h,_=>absurd rfl h
 |[],k::p,t,x,y,_,_,hn=>by
  simp only[T.aM]at hn⊢;cases t<;>simp only[T.bA,yQ,reduceCtorEq]at hn
  ·simp only[T.put,T.bA];split<;>simp[T.dP]
  ·simp only[T.put,T.bA];split<;>simp[T.dP]
 |j::m,[],t,x,y,hp,_,_=>by simp at hp
 |j::m,k::p,t,x,y,hp,bC,hn=>by
  rw[List.cons_prefix_cons]at hp;obtain⟨rfl,hp⟩:=hp;simp only[T.aM]at hn;cases hk:t.bA j with
  |none=>simp[hk]at hn
  |some c=>
   rw[hk,jl]at hn;have AI:m≠p:=fun e=>bC (by rw[e]);have ih:=XN m p c x y hp AI hn;simp only[T.put,hk,T.aM];have:(t.dP j (c.put p x)).bA j=some (c.put p x):=by
    cases t<;>simp only[T.bA,reduceCtorEq]at hk<;>simp only[T.dP,T.bA]<;>rw[il (bt.1 hk).1]
   rw[this,jl];exact ih
theorem XQ:∀(ls:List o8) {t t':T},nM ls t=some t'->∀l∈ls,t.aM l.p=some .u/\l.p≠[]
 |[],t,t',_,l,hl=>by cases hl
 |m::ls,t,t',h,l,hl=>by
  simp only[nM]at h;split at h
  ·rename_i hn;split at h
   ·rename_i hc;simp only[Y8,lC,eJ]at hc;have bC:m.p≠[]:=fun e=>by simp[e]at hc
    rcases iG.1 hl with rfl|kr
    ·exact⟨hn,bC⟩
    ·obtain⟨h1,h2⟩:=XQ ls h l kr;refine⟨?_,h2⟩;have AO:¬m.p <+: l.p:=fun e=>by
      have:=hc.2 l kr;rw[<-List.isPrefixOf_iff_prefix]at e;simp[e]at this
     by_cases h3:l.p <+: m.p
     ·by_cases h4:l.p=m.p
      ·rw[h4]at AO;exact absurd (List.prefix_refl _) AO
      ·exact absurd h1 (XN _ _ _ _ _ h3 h4 hn)
     ·rw[Xa _ _ _ _ AO h3]at h1;exact h1
   ·cases h
  ·cases h
section
variable {X:Cx}{U:Nat->Prop}{J J':Nat}{σ aj aX:St}{a a' a2:Act}{w w' w2:World}{ow ap aU:Nat->Ow}{e:Nat}{o:Oper}
def oy (ow:Nat->Ow) (n:Nat):Nat->Ow:=fun b=>
 match ow b with
 |.z=>.z
 |.own (.ar j) q=>if j=n then .own (.ar 0) q else .no
 |_=>.no
def zN (n base:Nat):Ow->Ow
 |.z=>.z
 |.own (.rs j) q=>.own (.ar (base+j)) q
 |.own (.ar i) q=>if i=0 then .own (.ar n) q else .no
 |_=>.no
def q8 (ow:Nat->Ow) (n base:Nat) (ap:Nat->Ow):Nat->Ow:=fun b=>
 match ow b with
 |.own (.sl s) q=>.own (.sl s) q
 |_=>zN n base (ap b)
theorem Vo {n:Nat}:Zs w ow w (oy ow n):=fun b hb=>⟨by simp[oy,hb],rfl⟩
theorem Vn {n b:Nat}{q:List Nat} (hb:ow b=.own (.ar n) q):oy ow n b=.own (.ar 0) q:=by simp[oy,hb]
theorem Y3 {n b:Nat} (hb:oy ow n b≠.no):ow b≠.no:=fun e=>hb (by simp[oy,e])
theorem Y7 {n b:Nat}{r:aJ}{q:List Nat} (hb:oy ow n b=.own r q):r=.ar 0:=by
 unfold oy at hb;split at hb
 ·cases hb
 ·split at hb
  ·cases hb;rfl
  ·cases hb
 ·cases hb
section
variable {n base:Nat}{as:List Arg}{vs:List Value}{out:Out}{v:Value} (h:Rel X U J σ a w ow) (hA:kw X.ae as vs out w (oy ow n) w' ap v)
include h hA
theorem GR {s b:Nat}{q:List Nat} (hb:ow b=.own (.sl s) q):w'.heap[b]?=w.heap[b]?/\ap b=.no:=by
 obtain⟨h1,h2⟩:=hA.no b (h.low b (by rw[hb];simp)) (by simp[oy,hb]);exact⟨h2,h1⟩
theorem Oe {b:Nat} (hb:ap b≠.no):q8 ow n base ap b=zN n base (ap b):=by
 unfold q8;split
 ·rename_i s q hs;exact absurd (GR h hA hs).2 hb
 ·rfl
theorem Va:Zs w' ap w' (q8 ow n base ap):=fun b hb=>⟨by rw[Oe h hA (by rw[hb];simp),hb];rfl,rfl⟩
theorem ZK:Zs w ow w' (q8 ow n base ap):=fun b hb=>by
 obtain⟨h1,h2⟩:=hA.z b (by simp[oy,hb]);exact⟨(Va h hA b h1).1,h2⟩
theorem ZJ (b:Nat) (aF:b<w.heap.size) (hb:ow b=.no):q8 ow n base ap b=.no/\w'.heap[b]?=w.heap[b]?:=by
 have _:=h;obtain⟨h1,h2⟩:=hA.no b aF (by simp[oy,hb]);exact⟨by simp[q8,hb,h1,zN],h2⟩
theorem Y5 (hn:n<J):Rel X U (J+out.dG.length) σ a w' (q8 ow n J ap):=by
 have hz:=ZK (base:=J) h hA;have dD:∀r,dn U σ a w σ a w' r:=fun r=>ph (h.slot r) rfl rfl hz (fun b q hb=>(GR h hA hb).1);refine⟨h.size,h.small,h.defers,fun s=>?_,h.fh,fun b hb=>?_,fun b i q hb=>?_,eQ h.grown hA.grown,fun b hb hr=>?_,hA.os.trans h.os,hA.output.trans h.output,h.cO,h.pR⟩
 ·exact qg (h.slot s) (h.fh s) hz dD (fun b q hb=>⟨by simp[q8,hb],(GR h hA hb).1⟩)
 ·by_cases dt:ap b=.no
  ·have:ow b≠.no:=fun e=>by
    by_cases aF:b<w.heap.size
    ·exact hb (ZJ h hA b aF e).1
    ·exact hb (by simp[q8,e,dt,zN])
   exact iF (h.low b this) hA.grown
  ·exact hA.low b dt
 ·unfold q8 at hb;split at hb
  ·cases hb
  ·cases ho:ap b with
   |z=>rw[ho]at hb;cases hb
   |no=>rw[ho]at hb;cases hb
   |own r q2=>
    rw[ho]at hb;cases r with
    |sl s=>cases hb
    |ar i2=>
     simp only[zN]at hb;split at hb
     ·cases hb;omega
     ·cases hb
    |rs j=>
     simp only[zN,Ow.own.injEq,aJ.ar.injEq]at hb;have:=hA.rs b j q2 ho;omega
 ·exact Co hz (fun b aF dt=>ZJ h hA b aF dt) (iF hb h.grown) (h.same b hb hr) hr
end
theorem K.arB (k:K) (n:Nat):k.ok k n=true:=by
 cases n with
 |zero=>simp[K.ok]
 |succ n=>cases n<;>simp[K.ok]
theorem Z8r (h:Rel X U J σ a w ow) {r:Nat}{k:K}{p:List Nat}{z n:Nat}{v:Value} (hv:kz σ a w r k p z 0 n v) {c:RC} (hc:(σ r).rc=some c) (hk:c.k.ok k (ic c.dh p)=true) {ob:Ob}{sz:Nat}{es:List T}
  (hn:c.t.aM p=some (.l ob sz es)) (hl:es.length=n) (hp:p≠[]):∃bo,place w c (bL a r) p=some bo/\w.cell? ⟨bo.1,bo.2,none⟩=some v:=by
 obtain⟨cC,hh,cJ⟩:=xd (w:=w) (v:=bL a r) hc (h.slot r) hn;obtain⟨A,C,rfl⟩:∃A C,cC=.slice A es.length C:=by
  obtain⟨A,C,e,_⟩:=mO cJ;exact⟨A,C,by simpa using e⟩
 obtain⟨_,_,mz⟩:=(hv.2 c hc hk).2 ob sz es hn _ _ _ hh;obtain⟨A1,N1,C1,A2,c2,e3,e4,_,_,_,oG⟩:=mz;cases e3;have hvv:=oG rfl hl.symm;unfold fE at hh;have SS:p.isEmpty=false:=by cases p with|nil=>exact absurd rfl hp|cons _ _=>rfl
 rw[SS,Y9]at hh;simp only[cX,if_false]at hh;split at hh
 ·rename_i bo eF;exact⟨bo,eF,by rw[hh,hvv]⟩
 ·cases hh
theorem Zhv {aZ:St}{bB:Nat->Ow}{J1:Nat} (h:Rel X U J σ a w ow) (hg:Gh X U J J1 σ a w ow aZ bB) {r:Nat}{c c1:RC}{p:List Nat}{bo:Nat×Nat}{v:Value} (hc:(σ r).rc=some c) (nB:(aZ r).rc=some c1)
  (fA:place w c (bL a r) p=some bo) (dR:w.cell? ⟨bo.1,bo.2,none⟩=some v) (hn:c1.t.aM p=some .u) (hp:p≠[]) (hz:∀b,bB b=.z->w'.heap[b]?=w.heap[b]?) (ho:∀b q,bB b=.own (.sl r) q->w'.heap[b]?=w.heap[b]?):
  place w' c1 (bL a r) p=some bo/\w'.cell? ⟨bo.1,bo.2,none⟩=some v:=by
 have h1:=hg.rel;obtain⟨b1,o1,A9,e1,_,_⟩:=Jx (w:=w) (v:=bL a r) nB (h1.slot r) hn (.inr hp);have bD:U c1.k.e/\U c1.k.h/\U c1.k.d:=by
  have:=h1.fh r;rcases ju nB with⟨_,cs,ht,aV⟩|⟨_,aV⟩<;>rw[aV]at this<;>exact this
 obtain⟨c',cN,_,e2⟩:=(hg.refs r).ptr c1.k p (b1,o1) c1 bD.1 bD.2.1 bD.2.2 nB (K.arB _ _) e1;rw[hc]at cN;cases cN;rw[fA]at e2;cases e2;have e3:=Pb (w':=w') nB (h1.slot r) hz ho p;refine⟨by rw[e3,e1],?_⟩;have hblk:w'.heap[b1]?=w.heap[b1]?:=by
  rcases XA nB (h1.slot r) e1 with hb|⟨q,hb⟩
  ·exact hz _ hb
  ·exact ho _ q hb
 rw[<-dR];simp only[World.cell?,hblk]
end
section
variable {X:Cx}{U:Nat->Prop}{J J':Nat}{σ aj aX:St}{a a' a2:Act}{w w' w2:World}{ow ap aU:Nat->Ow}{e:Nat}{o:Oper}
theorem OF:∀(cs:List Cell) {σ aj:St},(rh cs).run σ=some ((),aj)->aj=σ/\∀(j:Nat) r k p z lo n,cs[j]?=some (.w r k p z lo n)->∃c sz es,(σ r).rc=some c/\c.k.ok k (ic c.dh p)=true/\c.t.aM p=some (.l .y sz es)/\es.length=n
 |[],σ,aj,h=>by
  obtain⟨_,rfl⟩:=bS h;exact⟨rfl,fun j r k p z lo n hj=>by simp at hj⟩
 |.x t::cs,σ,aj,h=>by
  obtain⟨h1,h2⟩:=OF cs (σ:=σ) h;refine⟨h1,fun j r k p z lo n hj=>?_⟩;cases j with
  |zero=>simp at hj
  |succ j=>exact h2 j r k p z lo n (by simpa using hj)
 |.w r k p z lo n::cs,σ,aj,h=>by
  obtain⟨c,aZ,h1,h2⟩:=aW h;obtain⟨rfl,hc,hk⟩:=Cl h1;cases hn:c.t.aM p with
  |none=>simp[hn,Pg.run]at h2
  |some node=>
   simp only[hn]at h2;cases node<;>try simp only[Pg.run,reduceCtorEq]at h2
   rename_i ob sz es;cases ob<;>try simp only[Pg.run,reduceCtorEq]at h2
   split at h2
   ·rename_i hl;obtain⟨h3,h4⟩:=OF cs h2;refine⟨h3,fun j r' k' p' z' xR n' hj=>?_⟩;cases j with
    |zero=>
     simp only[kE,aR,Cell.w.injEq]at hj;obtain⟨rfl,rfl,rfl,rfl,rfl,rfl⟩:=hj;exact⟨c,sz,es,hc,hk,hn,hl⟩
    |succ j=>exact h4 j r' k' p' z' xR n' (by simpa using hj)
   ·simp[Pg.run]at h2
theorem Ip:∀{cs:List Cell}{ps:List (Option (Nat×List Nat))},lJ cs=some ps->cs.length=ps.length/\∀(j:Nat) r p,ps[j]?=some (some (r,p))->∃k z n,cs[j]?=some (.w r k p z 0 n)
 |[],ps,h=>by
  simp only[lJ,aR]at h;subst h;exact⟨rfl,fun j r p hj=>by simp at hj⟩
 |c::cs,ps,h=>by
  simp only[lJ]at h;cases h1:ql c with
  |none=>simp[h1]at h
  |some x=>
   cases h2:lJ cs with
   |none=>simp[h1,h2]at h
   |some xs=>
    rw[h1,h2]at h;simp only[aR]at h;subst h;obtain⟨h3,h4⟩:=Ip h2;refine⟨by simp[h3],fun j r p hj=>?_⟩;cases j with
    |zero=>
     simp only[kE,aR]at hj;subst hj;cases c with
     |x t=>simp only[ql]at h1;split at h1<;>cases h1
     |w r' k' p' z' lo n=>
      cases lo with
      |zero=>
       simp only[ql,aR,di]at h1;obtain⟨rfl,rfl⟩:=h1;exact⟨k',z',n,rfl⟩
      |succ lo=>simp[ql]at h1
    |succ j=>
     obtain⟨k,z,n,h5⟩:=h4 j r p (by simpa using hj);exact⟨k,z,n,by simpa using h5⟩
theorem Pt:∀{ps:List (Option (Nat×List Nat))}{r:Nat},rootOf ps=some r->∀(j:Nat) r' p,ps[j]?=some (some (r',p))->r'=r
 |[],r,h,j,r',p,hj=>by simp at hj
 |none::ps,r,h,j,r',p,hj=>by
  cases j with
  |zero=>simp at hj
  |succ j=>exact Pt (ps:=ps) (by simpa[rootOf]using h) j r' p (by simpa using hj)
 |some (r1,p1)::ps,r,h,j,r',p,hj=>by
  simp only[rootOf]at h;split at h
  ·rename_i dD;simp only[aR]at h;subst h;cases j with
   |zero=>simp at hj;exact hj.1.symm
   |succ j=>
    have:=eJ.1 dD _ (cS (show ps[j]?=some (some (r',p)) by simpa using hj));simpa using this
  ·cases h
def gM (ix:Nat->Nat) (len n:Nat) (mu:Bool) (i:Nat):Option (Nat×List Nat):=
 match(List.range len).find? (fun j=>ix j==i) with
 |some j=>some (n,if mu then[] else[j])
 |none=>none
theorem Z9g {ix:Nat->Nat}{len n j:Nat}{mu:Bool} (Gs:∀i j,i<len->j<len->ix i=ix j->i=j) (hj:j<len):gM ix len n mu (ix j)=some (n,if mu then[] else[j]):=by
 unfold gM;cases h:(List.range len).find? (fun i=>ix i==ix j) with
 |none=>
  have:=BR.1 h j (mN.2 hj);simp at this
 |some i=>
  have h1:=wM h;have h2:=wR h;rw[mN]at h2;have:=Gs i j h2 hj (by simpa using h1);subst this;rfl
theorem Z9h {ix:Nat->Nat}{len n i m:Nat}{mu:Bool}{pre:List Nat} (h:gM ix len n mu i=some (m,pre)):m=n:=by
 unfold gM at h;split at h
 ·simp only[aR,di]at h;exact h.1.symm
 ·cases h
theorem Zk7 {g:Nat->Option (Nat×List Nat)}{b:Nat} (h:ow b=.z):l6 ow g b=.z:=by simp[l6,h]
end
section
variable {X:Cx}{U:Nat->Prop}{J J':Nat}{σ aj aX:St}{a a' a2:Act}{w w' w2:World}{ow ap aU:Nat->Ow}{e:Nat}{o:Oper}
def AV.rF:AV->Bool
 |.w _ _ _ _ _ _=>true
 |_=>false
def Fb (mu:Bool) (v:Value) (us:List Value):Prop:=if mu then us=[v] else ∃vs:Array Value,v=.agg vs/\us=vs.toList
theorem Zsc (h:Rel X U J σ a w ow) {x:aL}{u:Value}{v:AV} (cj:fw X U σ a w ow x u v) {ps:List (Option (Nat×List Nat))}{r:Nat} (fA:xY v=some (ps,r)):
  ∃us,Fb v.rF u us/\us=u.cells.toList/\v.Hm.length=ps.length/\us.length=ps.length/\(∀(j:Nat) r' p,ps[j]?=some (some (r',p))->r'=r/\∃k z n u',v.Hm[j]?=some (.w r' k p z 0 n)/\us[j]?=some u'/\kz σ a w r' k p z 0 n u')/\
   (v.rF=true->ps.length=1):=by
 unfold xY at fA;cases lj:v.G7 with
 |none=>simp[lj]at fA
 |some G8=>
  cases mr:rootOf G8 with
  |none=>simp[lj,mr]at fA
  |some r'=>
   simp only[lj,mr,aR,di]at fA;obtain⟨rfl,rfl⟩:=fA;have qy:=Pt mr;cases v<;>simp only[AV.G7,reduceCtorEq]at lj
   case w r1 k1 p1 z1 y8 n1=>
    obtain⟨hl,gu⟩:=Ip lj;obtain⟨⟨A,C,rfl,_,_⟩,_⟩:=cj.1;refine⟨[.slice A n1 C],rfl,by simp[Value.cells],hl,by simpa using hl,fun j rr p hj=>⟨qy j rr p hj,?_⟩,fun _=>by simpa using hl.symm⟩;obtain⟨k,z,n,hc⟩:=gu j rr p hj;have Gt:j=0:=by
     have:=(bt.1 hc).1;simp at this;exact this
    subst Gt;simp only[kE,aR,Cell.w.injEq]at hc;obtain⟨rfl,rfl,rfl,rfl,rfl,rfl⟩:=hc;exact⟨_,_,_,_,rfl,rfl,cj.1⟩
   case st cs=>
    obtain⟨hl,gu⟩:=Ip lj;cases x with
    |k c=>
     obtain⟨ts,vs,rfl,rfl,_⟩:=cj;exfalso;have:∀(ts:List T) ps,lJ (ts.map .x)=some ps->rootOf ps=none:=by
      intro ts
      induction ts with
      |nil=>intro ps h;simp[lJ]at h;subst h;rfl
      |cons t ts ih=>
       intro ps h;simp only[fc,lJ,ql]at h;by_cases ht:t.scalar=true
       ·rw[if_pos ht]at h;cases h2:lJ (ts.map .x) with
        |none=>simp[h2]at h
        |some xs=>
         rw[h2]at h;simp only[aR]at h;subst h;exact ih xs h2
       ·rw[if_neg ht]at h;simp at h
     rw[this ts G8 lj]at mr;cases mr
    |t s=>
     obtain⟨dL,rfl,aV⟩:=cj;have hs:=h.slot s;rw[aV]at hs;obtain⟨vs,hv,eu⟩:=hs;have dC:=(uK eu).1;refine⟨vs.toList,⟨vs,hv,rfl⟩,by rw[hv];rfl,hl,by rw[dC];exact hl,fun j rr p hj=>⟨qy j rr p hj,?_⟩,fun e=>by cases e⟩;obtain⟨k,z,n,hc⟩:=gu j rr p hj;have iA:=(bt.1 hc).1;have hu:vs.toList[j]?=some (vs.toList[j]'(by rw[dC];exact iA)):=bF _;exact⟨k,z,n,_,hc,hu,(uK eu).2 j _ _ hc hu⟩
end
section
variable {X:Cx}{U:Nat->Prop}{J J':Nat}{σ aj aX:St}{a a' a2:Act}{w w' w2:World}{ow ap aU:Nat->Ow}{e:Nat}{o:Oper}
theorem Wh {tk:Bool}{r:Nat}{k:K}{p:List Nat}{lo n:Nat}{t:T} (h:(jX tk r k p lo n).run σ=some (t,aj)):∀s,s≠r->aj s=σ s:=fun s hs=>by
 obtain⟨c,ob,sz,es,hc,hk,hn,kK⟩:=Et h;rcases kK with⟨_,_,rfl⟩|⟨_,_,rfl⟩|⟨_,_,rfl⟩
 ·rfl
 ·simp[bi,hs]
 ·simp[bi,hs]
theorem Wg {tk:Bool}{r:Nat}:∀(cs:List Cell) {ps:List (Option (Nat×List Nat))}{σ aj:St}{ts:List T},lJ cs=some ps->(∀(j:Nat) r' p,ps[j]?=some (some (r',p))->r'=r)->(mU tk cs).run σ=some (ts,aj)->∀s,s≠r->aj s=σ s
 |[],ps,σ,aj,ts,hp,hr,h,s,hs=>by
  obtain⟨_,rfl⟩:=bS h;rfl
 |c::cs,ps,σ,aj,ts,hp,hr,h,s,hs=>by
  simp only[lJ]at hp;cases h1:ql c with
  |none=>simp[h1]at hp
  |some x=>
   cases h2:lJ cs with
   |none=>simp[h1,h2]at hp
   |some xs=>
    rw[h1,h2]at hp;simp only[aR]at hp;subst hp;have ih:∀{aZ:St}{Ut:List T},(mU tk cs).run aZ=some (Ut,aj)->aj s=aZ s:=fun h3=>Wg cs h2 (fun j r' p hj=>hr (j+1) r' p (by simpa using hj)) h3 s hs;cases c with
    |x t=>
     obtain⟨Ut,aZ,h3,h4⟩:=aW h;obtain⟨_,rfl⟩:=bS h4;exact ih h3
    |w r0 k p z lo n=>
     obtain⟨t1,aZ,h3,h4⟩:=aW h;obtain⟨Ut,iU,h5,h6⟩:=aW h4;obtain⟨_,rfl⟩:=bS h6;rw[ih h5];have tZ:r0=r:=by
      cases lo with
      |succ lo=>simp[ql]at h1
      |zero=>
       simp only[ql,aR]at h1;subst h1;exact hr 0 r0 p rfl
     exact Wh h3 s (tZ▸hs)
theorem Za6 {x:aL}{v:AV}{ps:List (Option (Nat×List Nat))}{r:Nat}{ts:List T} (hv:(raw e x).run σ=some (v,σ)) (fA:xY v=some (ps,r)) (h:(gJ e true x).run σ=some (ts,aj)):∀s,s≠r->aj s=σ s:=by
 unfold xY at fA;cases lj:v.G7 with
 |none=>simp[lj]at fA
 |some G8=>
  cases mr:rootOf G8 with
  |none=>simp[lj,mr]at fA
  |some r'=>
   simp only[lj,mr,aR,di]at fA;obtain⟨rfl,rfl⟩:=fA;have qy:=Pt mr;unfold gJ at h;obtain⟨v2,aZ,h1,h2⟩:=aW h;rw[hv]at h1;simp only[aR,di]at h1;obtain⟨rfl,rfl⟩:=h1;cases v<;>simp only[AV.G7,reduceCtorEq]at lj
   case w r1 k1 p1 z1 y8 n1=>
    obtain⟨t1,aX,h3,h4⟩:=aW h2;obtain⟨_,rfl⟩:=bS h4;obtain⟨hl,gu⟩:=Ip lj;have dO:r1=r':=by
     cases y8 with
     |succ lo=>simp[lJ,ql]at lj
     |zero=>
      simp only[lJ,ql,aR]at lj;subst lj;exact qy 0 r1 p1 rfl
    exact fun s hs=>Wh h3 s (dO▸hs)
   case st cs=>
    have dK:cs.any Cell.lY=false:=by
     rw[List.any_eq_false];intro c hc;have:∀(cs:List Cell) ps,lJ cs=some ps->∀c∈cs,c.lY=false:=by
      intro cs
      induction cs with
      |nil=>intro ps _ c hc;cases hc
      |cons c cs ih=>
       intro ps h c' cN;simp only[lJ]at h;cases h1:ql c with
       |none=>simp[h1]at h
       |some x=>
        cases h2:lJ cs with
        |none=>simp[h1,h2]at h
        |some xs=>
         rcases iG.1 cN with rfl|cN
         ·cases c' with
          |w _ _ _ _ _ _=>rfl
          |x t=>
           simp only[ql]at h1;split at h1
           ·rename_i jg;cases t<;>simp[T.scalar]at jg<;>rfl
           ·cases h1
         ·exact ih xs h2 c' cN
     rw[this cs G8 lj c hc];simp
    simp only[dK,cX,if_false]at h2;exact Wg cs lj qy h2
end
section
variable {X:Cx}{U:Nat->Prop}{J J':Nat}{σ aj aX:St}{a a' a2:Act}{w w' w2:World}{ow ap aU:Nat->Ow}{e:Nat}{o:Oper}
theorem WE (h:Rel X U J σ a w ow) {d:Nat} (hd:d<1000) {av:AV} (iK:cK X (kP σ d av) a w ow d av (bL a d)) (bD:av.stamps U) (jf:av.rc=none):Rel X U J (kP σ d av) a w ow:=by
 have de:=fun s=>tF h hd av s;have hz:Zs w ow w ow:=fun b hb=>⟨hb,rfl⟩
 have dD:∀r,dn U σ a w (kP σ d av) a w r:=fun r=>by
  by_cases h1:r=d
  ·refine dn.fresh fun c hc=>?_;rw[de r,if_pos h1,jf]at hc;cases hc
  ·by_cases h2:1000<=r/\r%1000=d
   ·refine dn.fresh fun c hc=>?_;rw[de r,if_neg h1,if_pos h2]at hc;simp[AV.rc]at hc
   ·exact ph (h.slot r) (by rw[de r,if_neg h1,if_neg h2]) rfl hz (fun _ _ _=>rfl)
 refine⟨h.size,h.small,h.defers,fun s=>?_,fun s=>?_,h.low,h.dw,h.grown,h.same,h.os,h.output,h.cO,fun s hs hu=>?_⟩
 ·rw[de s];split
  ·rename_i e1;subst e1;exact iK
  ·split
   ·trivial
   ·exact qg (h.slot s) (h.fh s) hz dD (fun b q hb=>⟨hb,rfl⟩)
 ·rw[de s];split
  ·exact bD
  ·split
   ·trivial
   ·exact h.fh s
 ·rw[de s]at hu;have h1:s≠d:=by omega
  rw[if_neg h1]at hu;split at hu
  ·exact absurd rfl hu
  ·rename_i h2;obtain⟨n,h3,h4⟩:=h.pR s hs hu;refine⟨n,?_,h4⟩;rw[de,if_neg (fun e=>h2 ⟨hs,e⟩),if_neg (by omega)];exact h3
theorem PD {d:Nat}{k:K}:∀{ts:List T}{j0:Nat}{cs:List Cell},wj d k j0 ts=some cs->cs.length=ts.length/\∀(j:Nat) c,cs[j]?=some c->(∃o sz es,ts[j]?=some (.l o sz es)/\c=.w d k [j0+j] sz 0 es.length)\/∃t,ts[j]?=some t/\t.scalar=true/\c=.x t
 |[],j0,cs,h=>by
  simp only[wj,aR]at h;subst h;exact⟨rfl,fun j c hj=>by simp at hj⟩
 |t::ts,j0,cs,h=>by
  cases hr:wj d k (j0+1) ts with
  |none=>
   cases t<;>simp[wj,hr]at h
  |some cA=>
   obtain⟨h1,h2⟩:=PD hr;have tail:∀{c0:Cell} (j:Nat) c,(c0::cA)[j+1]?=some c->(∃o sz es,(t::ts)[j+1]?=some (.l o sz es)/\c=.w d k [j0+(j+1)] sz 0 es.length)\/∃t',(t::ts)[j+1]?=some t'/\t'.scalar=true/\c=.x t':=fun{c0} j c hj=>by
    rw[wN]at hj⊢;rw[show j0+(j+1)=j0+1+j by omega];exact h2 j c hj
   by_cases hl:∃o sz es,t=.l o sz es
   ·obtain⟨o,sz,es,rfl⟩:=hl;simp only[wj,hr,aR]at h;subst h;refine⟨by simp[h1],fun j c hj=>?_⟩;cases j with
    |zero=>
     simp only[kE,aR]at hj;exact .inl ⟨o,sz,es,rfl,hj.symm⟩
    |succ j=>exact tail j c hj
   ·have:t.scalar=true/\.x t::cA=cs:=by
     cases t<;>simp only[wj,hr,T.scalar,if_true,cX,if_false,aR,reduceCtorEq]at h⊢<;>first|exact⟨trivial,h⟩|exact⟨rfl,h⟩|exact(hl ⟨_,_,_,rfl⟩).elim|skip
    obtain⟨jg,rfl⟩:=this;refine⟨by simp[h1],fun j c hj=>?_⟩;cases j with
    |zero=>
     simp only[kE,aR]at hj;exact .inr ⟨t,rfl,jg,hj.symm⟩
    |succ j=>exact tail j c hj
end
section
variable {X:Cx}{U U2:Nat->Prop}{J J':Nat}{σ aj aX:St}{a a' a2:Act}{w w' w2:World}{ow ap aU:Nat->Ow}{e:Nat}{o:Oper}
theorem Vg {r:Nat}{c:RC}{i:Nat}{ob:Ob}{sz:Nat}{es:List T} (h:Rel X U J σ a w ow) (hc:(σ r).rc=some c) (hb:c.dh=true) (hn:c.t.aM [i]=some (.l ob sz es)):
  ∃b A C,bL a r=.pointer (some ⟨b,0,none⟩)/\fE w c (bL a r) [i]=w.cell? ⟨b,i,none⟩/\w.cell? ⟨b,i,none⟩=some (.slice A es.length C):=by
 obtain⟨cC,hh,cJ⟩:=xd (w:=w) (v:=bL a r) hc (h.slot r) hn;obtain⟨A,C,rfl⟩:∃A C,cC=.slice A es.length C:=by
  obtain⟨A,C,e,_⟩:=mO cJ;exact⟨A,C,by simpa using e⟩
 rcases ju hc with⟨_,cs,ht,aV⟩|⟨dt,_⟩
 ·have hs:=h.slot r;rw[aV]at hs;obtain⟨b,aG,ty,fr,e1,_⟩:=hs;obtain⟨ib,kk,tt⟩:=c;simp only at hb ht;subst hb ht;have hk:cs[i]?=some (.l ob sz es):=by simpa[T.aM,T.bA]using hn
  have:fE w ⟨true,kk,.a cs⟩ (bL a r) [i]=w.cell? ⟨b,i,none⟩:=by
   rw[e1];simp only[fE,place,cE,hk,BM,wI,cX,if_false];rw[show(0+i)=i by omega]
  exact⟨b,A,C,e1,this,by rw[<-this];exact hh⟩
 ·rw[hb]at dt;cases dt
theorem Zsa {d:Nat}{av:AV} (h:Rel X U J σ a w ow) (hd:d<1000) (jf:av.rc=none) {r:Nat}{k:K}{p:List Nat}{z lo n:Nat}{v:Value} (hv:kz σ a w r k p z lo n v):kz (kP σ d av) a w r k p z lo n v:=by
 refine⟨hv.1,fun c hc hk=>?_⟩;rw[tF h hd av r]at hc;split at hc
 ·rw[jf]at hc;cases hc
 ·split at hc
  ·simp[AV.rc]at hc
  ·exact hv.2 c hc hk
theorem Zob (h:Rel X U J σ a w ow) (h2:Rel X U2 J' aX a w2 aU) {r:Nat}{c0:RC} (sy:(σ r).rc=some c0) (h0:r≠0->aX 0=σ 0)
  (iO:∀c2 b,(aX r).rc=some c2->c2.dh=true->bL a r=.pointer (some ⟨b,0,none⟩)->w2.heap[b]?=w.heap[b]?) (aq:(DE r c0).run aX=some ((),aj)):Rel X U2 J' aj a w2 aU:=by
 unfold DE at aq;obtain⟨v,B9,h3,h4⟩:=aW aq;obtain⟨hv,ea⟩:=jv h3;obtain⟨av,Fx,h5,h6⟩:=aW h4;obtain⟨iK,eb⟩:=jv h5;rw[eb,ea,iK]at h6;clear aq h3 h4 h5 eb iK;have same:(pure ():Pg Unit).run aX=some ((),aj)->Rel X U2 J' aj a w2 aU:=fun h7=>by
  obtain⟨_,rfl⟩:=bS h7;exact h2
 subst hv;rw[ea]at h6;cases La:aX 0<;>rw[La]at h6<;>try exact same h6
 rename_i cells;cases dx:(aX r).rc with
 |none=>rw[dx]at h6;exact same h6
 |some c2=>
 rw[dx]at h6;simp only at h6;split at h6
 ·exact same h6
 rename_i tZ;rw[uR]at h6;simp only[aR,di,true_and]at h6;subst h6;have hold:=h.slot 0;rw[<-h0 tZ,La]at hold;obtain⟨vs,bP,eu⟩:=hold;have eh:=h2.slot 0;rw[La]at eh;obtain⟨ek,rD,amO⟩:=eh;rw[bP]at rD;cases rD;have abw:=h2.fh 0;rw[La]at abw;have K2:U2 c2.k.e/\U2 c2.k.h/\U2 c2.k.d:=by
  have:=h2.fh r;rcases ju dx with⟨_,cs,ht,aV⟩|⟨_,aV⟩<;>rw[aV]at this<;>exact this
 refine WE h2 (by omega) ?_ ?_ rfl
 ·refine⟨vs,bP,td _ 0 _ (by rw[cL];exact(uK eu).1) fun j c' u cN hu=>?_⟩;rw[iX]at cN;obtain⟨c,hc,rfl⟩:=jm.1 cN;have ho:=(uK eu).2 j c u hc hu;have hn:=(uK amO).2 j c u hc hu;cases c with
  |x t=>exact hn
  |w r0 k p z lo n=>
   have jY:lx X (kP aX 0 (.st (cells.map (LY r c0 c2)))) a w2 aU 0 (0+j) (.w r0 k p z lo n) u:=Zsa (av:=.st _) h2 (by omega) rfl hn;simp only[LY];split
   ·rename_i i o0 L1 dm o2 nQ bQ GA gK;split
    ·rename_i lc;obtain⟨rfl,jd,dt,kM,rfl⟩:=lc;refine⟨hn.1,fun c kZ oH=>?_⟩;rw[tF h2 (by omega) _ r0,if_neg tZ]at kZ;split at kZ
     ·simp[AV.rc]at kZ
     ·rw[dx]at kZ;cases kZ;refine⟨fun cA h8=>(by rw[gK]at h8;cases h8),fun o3 Bq iu h9 A N C eU=>?_⟩;rw[gK]at h9;cases h9;obtain⟨b,A0,C0,e1,e2,e3⟩:=Vg h sy jd GA;obtain⟨b',A2,C2,l0,e2',l5⟩:=Vg h2 dx dt gK;rw[e1]at l0;cases l0;have dR:w2.cell? ⟨b,i,none⟩=w.cell? ⟨b,i,none⟩:=by
       simp only[World.cell?,iO c2 b dx dt e1]
      rw[e2',dR,<-e2]at eU;have AG:ic c0.dh [i]=1:=by rw[jd];rfl
      obtain⟨lP,sv,vo⟩:=(ho.2 c0 sy (by rw[AG];exact kM)).2 o0 L1 dm GA A N C eU;rw[e2,e3]at eU;rw[dR,e3]at l5;simp only[aR,Value.slice.injEq]at l5 eU;refine⟨rfl,by omega,?_⟩;rw[lP]at vo;exact vo
    ·exact jY
   ·exact jY
 ·intro c' cN;obtain⟨c,hc,rfl⟩:=jt.1 cN;have hs:=abw c hc;cases c with
  |x t=>trivial
  |w r0 k p z lo n=>
   simp only[LY];split
   ·split
    ·exact K2
    ·exact hs
   ·exact hs
end
section
variable {X:Cx}{U:Nat->Prop}{J J':Nat}{σ aj aX:St}{a a' a2:Act}{w w' w2:World}{ow ap aU:Nat->Ow}{e:Nat}{o:Oper}
theorem Zh8 {F:aB}{v:AV}{ts:List T}{hs:List Hand}{n:Nat}{q:Out}{cs:List T} (h:Du F v ts hs n=some (q,cs)):
  (∀x∈hs,x.iI=[]/\x.box=none/\x.arg.rE=true)/\∃x,zG v ts=some x/\F (x::hs.map Hand.arg)=some q/\q.back=[cs]/\q.dG.all RV.lO=true/\cs.length=n:=by
 unfold Du at h;split at h
 ·rename_i dD;split at h
  ·rename_i x hx;split at h
   ·rename_i q' hq;split at h
    ·rename_i cA fX;simp only[aR,di]at h;obtain⟨rfl,rfl⟩:=h;refine⟨fun y hy=>?_,x,hx,hq,?_⟩
     ·have:=eJ.1 dD y hy;simp only[Y8,List.isEmpty_iff,Option.isNone_iff_eq_none]at this;exact⟨this.1.1,this.1.2,this.2⟩
     ·unfold P0 at fX;split at fX
      ·rename_i c2 hb;split at fX
       ·rename_i hc;simp only[aR]at fX;subst fX;simp only[Y8,beq_iff_eq]at hc;exact⟨hb,hc.1,hc.2⟩
       ·cases fX
      ·cases fX
    ·cases h
   ·cases h
  ·cases h
 ·cases h
theorem Zjx {c c2:RC} (h:c.av.rc=some c2):c2.dh=c.dh:=by
 obtain⟨ib,kk,t⟩:=c;cases ib<;>cases t<;>simp only[RC.av,AV.rc,reduceCtorEq,aR]at h<;>try (subst h;rfl)
 rename_i o sz es;cases o<;>simp only[AV.rc,reduceCtorEq,aR]at h<;>(subst h;rfl)
theorem Zj1 {r:Nat}{ls:List (List Nat×T)} (h:(Dw e r ls).run σ=some ((),aj)):∃c t',(σ r).rc=some c/\qF ls c.t=some t'/\aj=bi σ r ({c with k:=⟨c.k.e,e,e⟩,t:=t'}:RC).av:=by
 obtain⟨av,aZ,h1,h2⟩:=aW h;obtain⟨rfl,rfl⟩:=jv h1;cases hc:(aZ r).rc with
 |none=>simp[hc,Pg.run]at h2
 |some c=>
  simp only[hc]at h2;cases hp:qF ls c.t with
  |none=>simp[hp,Pg.run]at h2
  |some t'=>
   simp only[hp]at h2;exact⟨c,t',rfl,hp,rZ h2⟩
theorem Z6i (h:Rel X U J σ a w ow) (ct:X.mv=eZ) (hd:eW X o) (he:∀x,bJ e x->¬U x) {g:Nat}{F:aB}{x:aL}{args:List (fN×aL)}{y0:Operand}{ys:List Operand} (hF:ik X.P X.ae g F)
  (hx:x.is X.ae y0=true) (hp:iR X.ae args ys=true)
  (pv:(execOp a.eval o).run X.P w=.ok (.enter (X.ae g) (a.eval y0::ys.map a.eval).toArray) w) (aq:(Fg e o.dst F x args).run σ=some ((),aj)):Sound X U a w e o aj:=by
 unfold Fg at aq;obtain⟨v,B8,h1,h2⟩:=aW aq;obtain⟨e0,cj⟩:=kn h hx h1;rw[e0]at h1 h2;have aoe:=h1;clear h1 aq e0 B8;cases fA:xY v with
 |none=>simp[fA,Pg.run]at h2
 |some psr=>
 obtain⟨ps,r⟩:=psr;simp only[fA]at h2;obtain⟨us,xF,eu,dC,xK,vW,gL⟩:=Zsc h cj fA;obtain⟨_,B9,h3,h4⟩:=aW h2;obtain⟨ea,KI⟩:=OF _ h3;rw[ea]at h4;clear h2 h3 ea B9;obtain⟨uX,σr,dO,dS⟩:=aW h4;obtain⟨aaM,er⟩:=jv dO;rw[er,aaM]at dS;clear h4 dO aaM er;cases sy:(σ r).rc with
 |none=>simp[sy,Pg.run]at dS
 |some c0=>
 simp only[sy]at dS;obtain⟨ts,aZ,h5,h6⟩:=aW dS;obtain⟨J1,bB,ix,hJ,hg,cT⟩:=uM h hx h5;obtain⟨hs,Fx,h7,h8⟩:=aW h6;obtain⟨eb,Sv,Sw⟩:=ON hg.rel args ys (J:=J1) hp (fun i t y ht=>by
  rw[iX]at ht;cases hq:args[i]?<;>simp[hq]at ht) h7
 rw[eb]at h8;clear dS h6 h7 eb Fx;cases px:Du F v ts hs ps.length with
 |none=>simp[px,Pg.run]at h8
 |some qc=>
 obtain⟨q,cs⟩:=qc;simp only[px]at h8;obtain⟨_,aX,h9,h9b⟩:=aW h8;obtain⟨_,Ho,lP,eU⟩:=aW h9b;obtain⟨hS,xa,lV,hFq,An,Az,dV⟩:=Zh8 px;obtain⟨c1,t',nB,aob,rfl⟩:=Zj1 h9;have Th:ys.length=args.length:=by
  have:∀(as:List (fN×aL)) (ys:List Operand),iR X.ae as ys=true->ys.length=as.length:=by
   intro as
   induction as with
   |nil=>intro ys h;cases ys with|nil=>rfl|cons _ _=>simp[iR]at h
   |cons b as ih=>
    intro ys h;cases ys with
    |nil=>simp[iR]at h
    |cons y ys=>
     simp only[iR,Y8]at h;simp[ih ys h.2]
  exact this args ys hp
 let gg:=gM ix ts.length J1 v.rF
 have vq:Rel X U (J1+1) aZ a w (l6 bB gg):=XX hg.rel (by omega) fun i n pre hgi=>by
  have:=Z9h hgi;omega
 generalize Td:l6 bB gg=Bf at vq;have iD:∀(j:Nat) t u,ts[j]?=some t->us[j]?=some u->ay X.ae X.mv w Bf (some (.ar J1,if v.rF then[] else[j])) t [u]:=fun j t u ht hu=>by
  have iA:=(bt.1 ht).1;have lP:=cT.ay j t u ht (by rw[<-eu];exact hu);rw[<-Td];exact cB EP t (c:=some (.ar (ix j),[])) (fun b q hb=>⟨by
   have:=XW (g:=gg) (Z9g (mu:=v.rF) cT.inj iA) hb;simpa using this,rfl⟩) lP
 have y5:∀b,bB b=.z->Bf b=.z:=fun b hb=>by rw[<-Td];exact Zk7 hb
 have abr:∀b s q,bB b=.own (.sl s) q->Bf b=.own (.sl s) q:=fun b s q hb=>by rw[<-Td];exact XY hb
 intro K Q hK;left;unfold Oper.wp;rw[pv,Oper.upon_enter];have Da:=hF (xa::hs.map Hand.arg) (a.eval y0::ys.map a.eval) w (oy Bf J1) q hFq (by simp[Sv,Th])
  (fun i y u hy hu=>by
   cases i with
   |zero=>
    simp only[kE,aR]at hy hu;subst hy hu;unfold zG at lV;split at lV
    ·rename_i sz es;simp only[aR]at lV;subst lV;simp only[AV.rF,Fb,if_true]at xF iD;subst xF;have sv:=iD 0 _ _ rfl rfl;rw[ct]at sv;exact⟨⟨_,_,rfl⟩,cB Vo _ (c:=some (.ar J1,[])) (fun b q hb=>⟨Vn hb,rfl⟩) sv⟩
    ·simp only[aR]at lV;subst lV;simp only[AV.rF,Fb,cX,if_false]at xF iD;obtain⟨vv,gW,rfl⟩:=xF;refine⟨vv,gW,pj (by rw[eu];exact cT.len) fun k t u' ht jz=>?_⟩;rw[db];have sv:=iD k t u' ht jz;rw[ct]at sv;exact cB Vo _ (c:=some (.ar J1,[k])) (fun b q hb=>⟨Vn hb,rfl⟩) sv
    ·cases lV
   |succ i=>
    rw[wN,iX]at hy hu;obtain⟨hd,KJ,rfl⟩:=jm.1 hy;obtain⟨yy,K8,rfl⟩:=jm.1 hu;obtain⟨eN,_,lQ⟩:=hS hd (cS KJ);have hH:=Sw i hd yy KJ K8;unfold qL at hH;rw[eN,ct]at hH;have aa8:rQ bB [] (oy Bf J1):=⟨fun b hb=>by simp[oy,y5 b hb],fun r hr=>by cases hr⟩
    cases ha:hd.arg<;>rw[ha]at hH lQ<;>simp only[Arg.rE,cX]at lQ<;>simp only at hH
    ·exact hH.2 _ aa8
    ·exact hH.2 _ aa8)
  (fun b hb=>vq.low b (Y3 hb)) (fun b r q hb=>⟨0,Y7 hb,by simp⟩) (fun i g hi=>by
   exfalso;cases i with
   |zero=>
    simp only[kE,aR]at hi;subst hi;unfold zG at lV;split at lV<;>cases lV
   |succ i=>
    rw[wN,iX]at hi;obtain⟨hd,KJ,hda⟩:=jm.1 hi;obtain⟨_,_,lQ⟩:=hS hd (cS KJ);rw[hda]at lQ;simp[Arg.rE]at lQ)
 refine Calls.mono Da fun en gS qu=>?_;cases en with
 |panicked c=>exact qu.elim
 |outgrown=>exact qu.elim
 |returned rv=>
  obtain⟨ap,hA⟩:=qu;have hRB:=Y5 vq hA (by omega);have Tk:=Va (base:=J1+1) vq hA;have p6:∀pre,Tr gS ap gS (q8 Bf J1 (J1+1) ap) (some (.ar 0,pre)) (some (.ar J1,pre)):=fun pre b q hb=>⟨by
   rw[Oe vq hA (by rw[hb];simp),hb];simp[zN],rfl⟩
  have cW:∀(j:Nat) t u,cs[j]?=some t->us[j]?=some u->ay X.ae X.mv gS (q8 Bf J1 (J1+1) ap) (some (.ar J1,if v.rF then[] else[j])) t [u]:=by
   have hb:=hA.back;rw[An]at hb;unfold zG at lV;rw[ct];split at lV
   ·rename_i sz es;simp only[aR]at lV;subst lV;simp only[AV.rF,Fb,if_true]at xF⊢;subst xF;simp only[jN]at hb;obtain⟨⟨t1,rfl,_,vo⟩,_⟩:=hb;intro j t u ht hu;cases j with
    |zero=>
     simp only[kE,aR]at ht hu;subst ht hu;exact cB Tk _ (p6 []) vo
    |succ j=>simp at hu
   ·simp only[aR]at lV;subst lV;simp only[AV.rF,Fb,cX,if_false]at xF⊢;obtain⟨vv,gW,rfl⟩:=xF;simp only[jN]at hb;obtain⟨⟨vv2,gQ,vo⟩,_⟩:=hb;rw[gW]at gQ;cases gQ;intro j t u ht hu;obtain⟨u',Kv,RS⟩:=kT vo ht;rw[hu]at Kv;cases Kv;rw[db]at RS;exact cB Tk _ (p6 [j]) RS
   ·cases lV
  have abl:nM (hZ J1 v.rF 0 ps cs) c1.t=some t':=by rw[OZ];exact aob
  have KR:=XQ _ abl;obtain⟨xX,hL,hR3,_⟩:=Zil hRB (he e (bJ.self e)) nB abl (fun l hl=>by
   obtain⟨j,r',t1,lj,fX,rfl,KO,AO⟩:=EF ps cs 0 hl;obtain⟨rfl,k,z,n,u,Tc,hu,AS⟩:=vW j r' l.p lj;obtain⟨c,sz,es,hc,hk,hn,hlen⟩:=KI j _ _ _ _ _ _ Tc;obtain⟨hnu,bC⟩:=KR l hl;obtain⟨bo,eF,dR⟩:=Z8r h AS hc hk hn hlen bC;obtain⟨h16,h17⟩:=Zhv (w':=gS) h hg hc nB eF dR hnu bC (fun b hb=>(ZK (base:=J1+1) vq hA b (y5 b hb)).2) (fun b q hb=>(GR vq hA (abr b _ q hb)).1);refine⟨bo.1,bo.2,u,h16,h17,?_⟩;rw[KO,AO];have:=cW j _ u fX hu;simpa using this) (by
   cases hw:v.rF with
   |false=>exact OY ps cs 0
   |true=>
    have h1:=gL hw
    match ps,h1 with
    |[p0],_=>
     cases p0 with
     |none=>cases cs<;>simp[hZ]
     |some rp=>
      obtain⟨r0,p0⟩:=rp;cases cs with
      |nil=>simp[hZ]
      |cons c cs=>cases cs<;>simp[hZ])
  have anY:∀b j q',ap b=.own (.rs j) q'->xX b=.own (.ar (J1+1+j)) q':=fun b j q' hb=>by
   refine hL.out b _ q' (by rw[Oe vq hA (by rw[hb];simp),hb];rfl) fun l hl=>?_;obtain⟨_,_,_,_,_,_,KO,_⟩:=EF ps cs 0 hl;rw[KO];rintro⟨h18,_⟩;omega
  have K9:Zs gS ap gS xX:=fun b hb=>⟨(hL.z b (Tk b hb).1).1,rfl⟩
  have sI:BK X gS xX (J1+1) q.dG rv:=by
   have one:∀(j:Nat) (r:RV) (u:Value),jP X.ae gS ap j r u->pa X gS xX (J1+1+j) r u:=fun j r u oM=>by
    have ht:Tr gS ap gS xX (some (.rs j,[])) (some (.ar (J1+1+j),[])):=fun b q hb=>⟨anY b j _ hb,rfl⟩
    cases r with
    |bx cs=>
     unfold pa;rw[ct];exact mI.tr K9 ht oM
    |one t=>
     unfold pa;rw[ct];exact cB K9 t ht oM
    |st cs=>
     obtain⟨vs,hv,dS⟩:=oM;unfold pa;rw[ct];exact⟨vs,hv,lG K9 cs ht dS⟩
   have hr:=hA.dG;generalize q.dG=rs at hr⊢
   match rs,hr with
   |[r],hr=>exact one 0 r rv hr
   |[],hr=>exact hr.elim fun vs hr=>⟨vs,hr.1,hr.2.1,fun j r u hj hu=>one j r u (hr.2.2 j r u hj hu)⟩
   |r1::r2::rs,hr=>exact hr.elim fun vs hr=>⟨vs,hr.1,hr.2.1,fun j r u hj hu=>one j r u (hr.2.2 j r u hj hu)⟩
  have hR4:=Zob h hR3 sy (fun tZ=>by
    simp only[bi,if_neg (Ne.symm tZ)];exact Za6 aoe fA h5 0 (Ne.symm tZ)) (fun c2 b dx dt iQ=>by
    have eN:c1.dh=true:=by
     simp only[bi,if_true]at dx;have:=Zjx dx;rw[dt]at this;exact this.symm
    rcases ju nB with⟨_,kB,_,aoN⟩|⟨hf,_⟩
    ·have dL:=hg.rel.slot r;rw[aoN]at dL;obtain⟨b1,_,_,_,e1,e2,_⟩:=dL;rw[iQ]at e1;cases e1;exact(GR vq hA (abr b r [] e2)).1
    ·rw[eN]at hf;cases hf) lP
  obtain⟨ow4,oG⟩:=Yf hR4 hd (fun x hx bC hU=>by
   rcases hU with hU|hU
   ·exact he x hx hU
   ·exact bC hU) Az sI eU
  refine hK _ _ _ _ (oG.mono (fun x hx=>?_) (Nat.le_refl _));rcases hx with(hx|hx)|hx
  ·exact .inl hx
  ·exact .inr (hx▸bJ.self e)
  ·exact .inr hx
end
section
variable {X:Cx}{U:Nat->Prop}{J J':Nat}{σ aj aX:St}{a a' a2:Act}{w w' w2:World}{ow ap aU:Nat->Ow}{e:Nat}{o:Oper}
theorem Z6f (h:Rel X U J σ a w ow) (hd:eW X o) (he:∀x,bJ e x->¬U x) {x:aL}{x':Operand}{t:TypeId} (hx:x.is X.ae x'=true) (bl:o.op=.box t x')
  (aq:(exec e o.dst (.CF x)).run σ=some ((),aj)):Sound X U a w e o aj:=by
 simp only[exec]at aq;cases dB:o.dst with
 |none=>simp[dB,Pg.run]at aq
 |some d=>
 cases x with
 |k c=>simp[dB,Pg.run]at aq
 |t s=>
 simp only[dB,aai]at aq;obtain⟨v,B8,h1,h2⟩:=aW aq;obtain⟨hv,e0⟩:=jv h1;rw[e0,hv]at h2;clear aq h1 e0 hv;cases aV:σ s<;>rw[aV]at h2<;>try simp only[Pg.run,reduceCtorEq]at h2
 rename_i cs0;have fg:=h.slot s;rw[aV]at fg;obtain⟨vs,bP,_⟩:=fg;have dL:s<1000:=by
  cases x'<;>simp[aL.is]at hx;exact hx.2
 have Dl:x'=.tmp s:=by
  cases x'<;>simp[aL.is]at hx;rw[hx.1]
 subst Dl;have sA:a.eval (.tmp s)=.agg vs:=by rw[tf dL,bP]
 split at h2
 ·simp[Pg.run]at h2
 rename_i ua;obtain⟨cs,aZ,h3,h4⟩:=aW h2;obtain⟨J1,bB,ix,hJ,hg,cT⟩:=uM h hx h3;cases KY:wj d ⟨e,e,e⟩ 0 cs with
 |none=>simp[KY,Pg.run]at h4
 |some cells=>
 simp only[KY]at h4;obtain⟨_,iU,h5,h6⟩:=aW h4;rw[uR]at h5 h6;simp only[aR,di,true_and]at h5 h6;subst h5 h6;rw[sA]at cT;have Se:=hd d dB;have kL:d<1000:=iF Se.1 h.small;have As:d<a.tmps.size:=by rw[h.size];exact Se.1
 have mV:=(zF hg.rel (U':=fun x=>U x\/bJ e x) (fun x hx=>.inl hx) (I9 hg.rel d (pr cs.length ix (fun j=>[j])) (.cells (Value.agg vs).cells t (0,0))) (av:=.box ⟨e,e,e⟩ cs) (v:=.pointer (some ⟨w.heap.size,0,none⟩))
  (fun d' je=>by cases je;exact Se) ⟨.inr (bJ.self e),.inr (bJ.self e),.inr (bJ.self e)⟩ (fun c hc=>by simp only[AV.rc,aR]at hc;subst hc;exact he _ (bJ.self e))
  (fun d' je aj a' _=>by cases je;exact Og hg.rel cT d)).1
 have eu:(Value.agg vs).cells=vs:=rfl;simp only[yf]at mV;have pv:(execOp a.eval o).run X.P w=.ok (.value (.pointer (some ⟨w.heap.size,0,none⟩))) (World.more w (.cells (Value.agg vs).cells t (0,0))):=by
  simp only[execOp,bl];refine jG ?_;unfold Instr.box;rw[sA,bu PA];rfl
 intro K Q hK;left;unfold Oper.wp;rw[pv,Oper.upon_value,dB];refine hK _ _ _ _ (WE mV dL ?_ ?_ rfl)
 ·have rD:bL (a.put (some d) (.pointer (some ⟨w.heap.size,0,none⟩))) s=.agg vs:=by
   rw[JQ ua (fun h=>by omega),bP]
  rw[rD];obtain⟨hlen,gu⟩:=PD KY;refine⟨vs,rfl,td _ 0 _ (by rw[hlen];exact cT.len) fun j c u hc hu=>?_⟩;have de:=tF mV dL (.st cells) d;rw[if_neg (Ne.symm ua),if_neg (fun hh=>absurd kL (Nat.not_lt.2 hh.1))]at de;have aaL:=tF hg.rel kL (.box ⟨e,e,e⟩ cs) d;rw[if_pos rfl]at aaL;rw[aaL]at de;rcases gu j c hc with⟨ob,sz,es,ht,rfl⟩|⟨t0,ht,jg,rfl⟩
  ·rw[db];have cJ:=cT.ay j _ u ht hu;have pz:=cJ;simp only[ay]at pz;obtain⟨_,A,cap,ub,hle,_,hA⟩:=pz;simp only[fq,and_true]at ub;refine⟨⟨A,cap,ub,hle,fun oL=>?_⟩,fun c dx hk=>?_⟩
   ·cases A with
    |none=>simp only at hA;omega
    |some ad=>
     obtain⟨dg,_⟩:=hA (.inr (fun e=>by rw[e]at oL;simp at oL));obtain⟨b,o2,sp⟩:=ad;simp only at dg;exact⟨b,o2,by rw[dg]⟩
   ·rw[de]at dx;simp only[AV.rc,aR]at dx;subst dx;have aa5:(T.a cs).aM [j]=some (.l ob sz es):=by simp[T.aM,T.bA,ht]
    refine⟨fun cA h=>(by rw[aa5]at h;cases h),fun o2 nQ bQ hn A2 N C hh=>?_⟩;rw[aa5]at hn;cases hn;have cC:bL (a.put (some d) (.pointer (some ⟨w.heap.size,0,none⟩))) d=.pointer (some ⟨w.heap.size,0,none⟩):=ZO As kL;rw[cC]at hh;have dR:(World.more w (.cells (Value.agg vs).cells t (0,0))).cell? ⟨w.heap.size,j,none⟩=some u:=by
     simp only[World.cell?,O3];rw[eu];simpa using hu
    have:fE (World.more w (.cells (Value.agg vs).cells t (0,0))) ⟨true,⟨e,e,e⟩,.a cs⟩ (.pointer (some ⟨w.heap.size,0,none⟩)) [j]=some u:=by
     simp only[fE,place,cE,ht,BM,wI,cX,if_false];rw[show(0+j)=j by omega];exact dR
    rw[this,ub]at hh;simp only[aR,Value.slice.injEq]at hh;obtain⟨rfl,rfl,rfl⟩:=hh;refine⟨rfl,by omega,A,es.length,cap,A,cap,rfl,ub,hle,by omega,.inl ⟨rfl,.inl rfl⟩,fun _ _=>ub⟩
  ·have cJ:=cT.ay j _ u ht hu;show ay X.ae X.mv _ _ _ t0 [u];cases t0<;>simp only[T.scalar,cX]at jg<;>simp only[ay]at cJ⊢<;>first|exact cJ|skip
   all_goals
    obtain⟨eR,h7,h8⟩:=cJ;exact⟨eR,h7,lG (c:=none) (c':=none) (I9 hg.rel d _ _).z _ trivial h8⟩
 ·intro c hc;obtain⟨j,hj⟩:=gZ.1 hc;rcases(PD KY).2 j c hj with⟨_,_,_,_,rfl⟩|⟨_,_,_,rfl⟩
  ·exact⟨.inr (bJ.self e),.inr (bJ.self e),.inr (bJ.self e)⟩
  ·trivial
end
end Go.Wr

