/-
  What is proved: lemmas for the laws. No condition.
-/
import Derived.Test.YtbghjecopkbhlaaGreatRf
import Derived.Laws.BytesString
import Derived.Test.YtbghjecopkbhlaaGreatRb
set_option linter.unusedVariables false
set_option linter.unusedSimpArgs false
namespace Go.Wr
section
variable {X:Cx}{U:Nat->Prop}{J J':Nat}{σ aj aX:St}{a a' a2:Act}{w w' w2:World}{ow ap aU:Nat->Ow}{e:Nat}{o:Oper}
theorem Z6h (h:Rel X U J σ a w ow) (ct:X.mv=eZ) (hd:eW X o) (he:∀x,bJ e x->¬U x) {g:Nat}{F:aB}{args:List (fN×aL)}{c:Call}{f:FuncId} (hF:ik X.P X.ae g F) (bl:o.op=.call c)
  (hc:c.callee=.value (.func f)) (hf:X.ae g=f) (hb:xk X.P f=true) (hp:iR X.ae args c.args.toList=true) (aq:(exec e o.dst (.call g F args)).run σ=some ((),aj)):Sound X U a w e o aj:=by
 refine Oz (eR:=[]) h ct hd he hF hp (fun i t v ht=>by simp at ht) rfl ?_ aq;simp only[execOp,bl];have hr:(resolve a.eval c o.type).run X.P w=.ok {target:=.fn (.func f) #[],args:=#[]++c.args.map a.eval} w:=by
  simp only[resolve,hc,Act.eval,Deferred.ofValue];rfl
 rw[bu hr];simp only[invoke];rw[hf,JA hb]
 congr 2
 apply Array.ext';simp
theorem Z6j (h:Rel X U J σ a w ow) (ct:X.mv=eZ) (hd:eW X o) (he:∀x,bJ e x->¬U x) {g:Nat}{F:aB}{x:aL}{args:List (fN×aL)}{c:Call}{f:FuncId}{y0:Operand}{ys:List Operand} (hF:ik X.P X.ae g F) (bl:o.op=.call c)
  (hc:c.callee=.value (.func f)) (hf:X.ae g=f) (hb:xk X.P f=true) (ha:c.args.toList=y0::ys) (hx:x.is X.ae y0=true) (hp:iR X.ae args ys=true) (aq:(exec e o.dst (.iq g F x args)).run σ=some ((),aj)):Sound X U a w e o aj:=by
 refine Z6i h ct hd he hF hx hp ?_ aq;simp only[execOp,bl];have hr:(resolve a.eval c o.type).run X.P w=.ok {target:=.fn (.func f) #[],args:=#[]++c.args.map a.eval} w:=by
  simp only[resolve,hc,Act.eval,Deferred.ofValue];rfl
 rw[bu hr];simp only[invoke];rw[hf,JA hb]
 congr 2
 apply Array.ext';simp[ha]
theorem Xx {ae:Nat->FuncId}{m:fN}{x:aL}{y:Operand} (hx:x.is ae y=true):∀{args:List (fN×aL)}{ys:List Operand},iR ae args ys=true->iR ae (args++[(m,x)]) (ys++[y])=true
 |[],[],_=>by simp[iR,hx]
 |[],_::_,h=>by simp[iR]at h
 |_::_,[],h=>by simp[iR]at h
 |(m',x')::args,y'::ys,h=>by
  simp only[iR,Y8]at h;simp only[gf,iR,Y8];exact⟨h.1,Xx hx h.2⟩
theorem Z6m (h:Rel X U J σ a w ow) (ct:X.mv=eZ) (hd:eW X o) (he:∀x,bJ e x->¬U x) {x:aL}{lI:List (Nat×aB)}{args:List (fN×aL)}{c:Call}{y:Operand} (hF:∀p∈lI,ik X.P X.ae p.1 p.2/\xk X.P (X.ae p.1)=true)
  (hx:x.is X.ae y=true) (bl:o.op=.call c) (hc:c.callee=.value y) (hp:iR X.ae args c.args.toList=true) (aq:(exec e o.dst (.tK x lI args)).run σ=some ((),aj)):Sound X U a w e o aj:=by
 obtain⟨av,aZ,h1,h2⟩:=aW aq;obtain⟨e1,cj⟩:=kn h hx h1;rw[e1]at h2;cases av<;>try simp only[Pg.run,reduceCtorEq]at h2
 case fb g r k=>
  obtain⟨c0,aX,h3,h4⟩:=aW h2;obtain⟨e2,sy,hk,_⟩:=ER h3;rw[e2]at h4;obtain⟨⟨u,hu,Dj⟩,_⟩:=cj;rcases ju sy with⟨hb,cs,eG,aV⟩|⟨hb,aV⟩
  ·obtain⟨ib,kk,tt⟩:=c0;simp only at hb eG aV;subst hb eG;have oN:=h.slot r;rw[aV]at oN;obtain⟨b,aG,ty,fr,f1,f2,f3,f4,f5⟩:=oN;have hv:=Dj.2 _ sy hk (b,0) (by rw[f1];rfl);simp only at h4;cases vB:lI.find? (fun c=>c.1==g) with
   |none=>simp[vB,Pg.run]at h4
   |some p=>
    simp only[vB]at h4;have hg:p.1=g:=by simpa using wM vB
    obtain⟨Aj,hb⟩:=hF p (wR vB);rw[hg]at Aj hb;split at h4
    case isFalse=>simp[Pg.run]at h4
    rename_i dO;refine Oz (eR:=[]) (ys:=c.args.toList++[.tmp r]) h ct hd he Aj (Xx (m:=.P) (x:=.t r) (y:=.tmp r) (by simp[aL.is,dO]) hp) (fun i t v ht=>by simp at ht) rfl ?_ h4;simp only[execOp,bl];have hr:(resolve a.eval c o.type).run X.P w=.ok {target:=.fn (.func (X.ae g)) #[u],args:=#[]++c.args.map a.eval} w:=by
     simp only[resolve,hc,hu,Deferred.ofValue];rfl
    rw[bu hr];simp only[invoke];rw[JA hb]
    congr 2
    apply Array.ext';have:a.eval (.tmp r)=u:=by rw[tf dO,f1,hv]
    simp[this]
  ·obtain⟨ib,kk,tt⟩:=c0;simp only at hb;subst hb;simp[Pg.run]at h4
 rename_i t;cases t<;>try simp only[Pg.run,reduceCtorEq]at h2
 rename_i g env;simp only[fw,ay]at cj;obtain⟨eR,hv,Db⟩:=cj;have eX:a.eval y=.func (.func (X.ae g)) #[] eR:=by simpa using hv
 cases vB:lI.find? (fun c=>c.1==g) with
 |none=>simp[vB,Pg.run]at h2
 |some p=>
  simp only[vB]at h2;have hg:p.1=g:=by simpa using wM vB
  obtain⟨Aj,hb⟩:=hF p (wR vB);rw[hg]at Aj hb;refine Oz (eR:=eR.toList) h ct hd he Aj hp (fun i t v ht xL aU hz=>?_) (ol Db) ?_ h2
  ·obtain⟨v',h3,h4⟩:=kT Db ht;rw[xL]at h3;cases h3;rw[<-ct];exact cB (fun b hb=>⟨hz b hb,rfl⟩) t (c:=none) (c':=none) trivial h4
  ·simp only[execOp,bl];have hr:(resolve a.eval c o.type).run X.P w=.ok {target:=.fn (.func (X.ae g)) eR,args:=#[]++c.args.map a.eval} w:=by
    simp only[resolve,hc,eX,Deferred.ofValue];rfl
   rw[bu hr];simp only[invoke];rw[JA hb]
   congr 2
   apply Array.ext';simp
def Ur (P:Program) (s d:TypeId):Bool:=
 match P.underlying s,P.underlying d with
 |some (.slice e),some .string=>(match P.underlying e with|some (.int .u8)=>true|_=>false)
 |_,_=>false
theorem Vm {ae:Nat->FuncId}{mv:Nat->Value}{c:Loc}:∀{es:List T}{ns:List Int}{k:Nat}{vs:List Value},sb es=some ns->cw ae mv w ow c 1 k es vs->vs=ns.map (Value.int .u8)/\ns.length=es.length
 |[],ns,k,vs,hb,h=>by
  simp only[sb,aR]at hb;subst hb;simp only[cw]at h;exact⟨h,rfl⟩
 |t::es,ns,k,vs,hb,h=>by
  simp only[cw]at h;obtain⟨v1,rest,rfl,hl,h1,h2⟩:=h;cases t<;>try simp only[sb,reduceCtorEq]at hb
  rename_i kk n;cases kk<;>simp only[sb,reduceCtorEq]at hb;obtain⟨ms,h3,rfl⟩:=jm.1 hb;obtain⟨h4,h5⟩:=Vm h3 h2;simp only[ay]at h1;subst h1 h4;exact⟨rfl,by simp[h5]⟩
theorem Z75 (h:Rel X U J σ a w ow) (hd:eW X o) (he:∀x,bJ e x->¬U x) {x:aL}{x':Operand}{s t:TypeId} (hx:x.is X.ae x'=true) (hg:Ur X.P s t=true) (bl:o.op=.convert s t x')
  (aq:(exec e o.dst (.L4 x)).run σ=some ((),aj)):Sound X U a w e o aj:=by
 obtain⟨v,aZ,h1,h2⟩:=aW aq;obtain⟨rfl,cj⟩:=kn h hx h1;obtain⟨tt,aX,h3,h4⟩:=aW h2;obtain⟨rfl,hl⟩:=Zdw h cj h3;unfold Ur at hg;split at hg
 ·rename_i el hs ht;split at hg
  ·rename_i sn;split at h4
   ·rename_i ob es;cases hb:sb es with
    |none=>simp[hb,Pg.run]at h4
    |some ns=>
     simp only[hb]at h4;have cC:∃(A:Option Addr) (cap:Nat),a.eval x'=.slice A es.length cap/\(match A with|none=>es=[]|some ad=>es≠[]->ad.spot=none/\At w ad.block ad.off (ns.map (Value.int .u8)))/\ns.length=es.length:=by
      have cJ:ay X.ae X.mv w (qi ow) none (.l ob 1 es) [a.eval x']:=by
       rcases hl with hl|⟨vs,hv,hl⟩
       ·exact hl
       ·exfalso;cases v<;>simp only[lX]at h3
        case x t0=>
         obtain⟨rfl,_⟩:=bS h3;simp only[fw,ay]at cj;obtain⟨_,A,cap,hh,_⟩:=cj;rw[hv]at hh;simp at hh
        case own k0 t0=>
         obtain⟨e0,_⟩:=bS h3;have:=Cd h cj (v:=.own k0 t0) (by simp only[lX];exact h3);have h5:=this.2 (qi ow) X.mv (Zp _);simp only[ay]at h5;obtain⟨_,A,cap,hh,_⟩:=h5;rw[hv]at hh;simp at hh
        case w=>
         have:=Cd h cj h3;have h5:=this.2 (qi ow) X.mv (Zp _);simp only[ay]at h5;obtain⟨_,A,cap,hh,_⟩:=h5;rw[hv]at hh;simp at hh
        case st cs=>
         obtain⟨ts,iU,_,h6⟩:=aW h3;obtain⟨e0,_⟩:=bS h6;cases e0
        all_goals simp[Pg.run]at h3
      simp only[ay]at cJ;obtain⟨_,A,cap,hv,hc,_,ei⟩:=cJ;refine⟨A,cap,by simpa using hv,?_,?_⟩
      ·cases A with
       |none=>
        simp only at ei⊢;rw[ei]at hc;exact iY.1 (by omega)
       |some ad=>
        intro bC;obtain⟨dg,_,aG,ty,fr,bE,hh,_,de,cg⟩:=ei (.inr bC);obtain⟨rfl,_⟩:=Vm hb cg;exact⟨dg,fun j u hj=>by simp only[World.cell?,hh];exact de j u hj⟩
      ·have:∀{es:List T}{ns:List Int},sb es=some ns->ns.length=es.length:=by
        intro es
        induction es with
        |nil=>intro ns h;simp only[sb,aR]at h;subst h;rfl
        |cons t es ih=>
         intro ns h;cases t<;>try simp only[sb,reduceCtorEq]at h
         rename_i kk n;cases kk<;>simp only[sb,reduceCtorEq]at h;obtain⟨ms,h3,rfl⟩:=jm.1 h;simp[ih h3]
       exact this hb
     obtain⟨A,cap,hv,hA,qw⟩:=cC;refine jH h (v:=.string (strOf ns)) (av:=.x (.s (strOf ns))) ?_ hd he (by simp[jE,ay]) h4;simp only[execOp,bl,hv];refine jG ?_;rw[run_convert_bytes_string w s t el A es.length cap hs sn ht];cases A with
     |none=>
      simp only at hA;subst hA;have:ns=[]:=iY.1 (by simpa using qw);subst this;rfl
     |some ad=>
      have tA:(loadCells ad es.length).run X.P w=.ok (ns.map (Value.int .u8)).toArray w:=by
       by_cases bC:es=[]
       ·subst bC;have:ns=[]:=iY.1 (by simpa using qw);subst this;simp[loadCells,loadCellsFrom,Pure.pure,Sem.run]
       ·obtain⟨dg,de⟩:=hA bC;obtain⟨b,of,sp⟩:=ad;obtain rfl:sp=none:=dg;have:=JC (P:=X.P) (w:=w) (b:=b) (o:=of) es.length 0 #[] _ (by simpa using de) (by simp[qw]);simpa[loadCells]using this
      rw[run_bytesToString w ad es.length cap ns tA];rfl
   ·simp[Pg.run]at h4
  ·cases hg
 ·cases hg
theorem Z8n (h:Rel X U J σ a w ow) {s:Nat}{t:T} (aq:(Qe s).run σ=some (t,aj)):∃ap,Gh X U J J σ a w ow aj ap/\ay X.ae X.mv w ap none t [bL a s]:=by
 unfold Qe at aq;obtain⟨v,aZ,h1,h2⟩:=aW aq;obtain⟨rfl,rfl⟩:=jv h1;have hs:=h.slot s;cases aV:aZ s<;>rw[aV]at h2 hs
 case x t0=>
  cases t0<;>try simp only[Pg.run,reduceCtorEq]at h2
  obtain⟨rfl,rfl⟩:=bS h2;exact⟨ow,Gh.refl h (Nat.le_refl _),hs⟩
 case box k cs=>
  obtain⟨_,aX,h3,h4⟩:=aW h2;obtain⟨rfl,rfl⟩:=bS h4;have:=rZ h3;subst this;obtain⟨b,aG,ty,fr,e1,e2,e3,e4,e5⟩:=hs;have hr:ay X.ae X.mv w (kW ow s []) none (.p (zJ cs)) [bL a s]:=by
   simp only[ay];refine⟨b,aG,ty,fr,by rw[e1],OG (p:=[]) (q:=[]) e2,e3,?_⟩;have h5:=Pn tg X.mv cs (c:=some (.sl s,[])) none (fun b q hb=>⟨OG (p:=[]) (by simpa using hb),rfl⟩) e5;unfold zJ;split
   ·rename_i c hc;rw[hc]at h5;simp only[bZ]at h5;obtain⟨u,rest,h6,h7,h8⟩:=h5;rw[h6,h8];exact h7
   ·simp only[ay];exact h5
  have hg:=qT (J':=J) (v':=.x (.p (zJ cs))) (ap:=kW ow s []) h (r:=s) hr trivial tg (fun b r' q hr hb=>IK hr hb) (fun b hb=>by simp[kW,hb]) (fun b i q hb=>h.dw b i q (Wf hb))
   (dn.fresh fun c hc=>by simp[bi,AV.rc]at hc) (by rw[aV];simp) (fun n=>by rw[aV];simp)
  exact⟨_,⟨hg.1,tg,fun b i q _ hb=>IK (by simp) hb,hg.2⟩,hr⟩
 all_goals simp[Pg.run]at h2
theorem Wb:∀(xs:List aL) (ys:List Operand) {σ aj:St}{ow:Nat->Ow}{ts:List T},Rel X U J σ a w ow->oU X.ae xs ys=true->(Fl xs).run σ=some (ts,aj)->
  ∃ap,Gh X U J J σ a w ow aj ap/\ys.length=ts.length/\∀(i:Nat) t y,ts[i]?=some t->ys[i]?=some y->ay X.ae X.mv w ap none t [a.eval y]
 |[],[],σ,aj,ow,ts,h,hp,aq=>by
  obtain⟨rfl,rfl⟩:=bS aq;exact⟨ow,Gh.refl h (Nat.le_refl _),rfl,fun i t y ht=>by simp at ht⟩
 |[],_::_,σ,aj,ow,ts,h,hp,aq=>by simp[oU]at hp
 |_::_,[],σ,aj,ow,ts,h,hp,aq=>by simp[oU]at hp
 |.k _::xs,y::ys,σ,aj,ow,ts,h,hp,aq=>by simp[Fl,Pg.run]at aq
 |.t s::xs,y::ys,σ,aj,ow,ts,h,hp,aq=>by
  simp only[oU,Y8]at hp;simp only[Fl]at aq;obtain⟨t,aZ,h1,h2⟩:=aW aq;obtain⟨bB,eH,dO⟩:=Z8n h h1;obtain⟨mG,aX,h3,h4⟩:=aW h2;obtain⟨rfl,rfl⟩:=bS h4;obtain⟨aU,fp,hl,dS⟩:=Wb xs ys eH.rel hp.2 h3;refine⟨aU,eH.trans fp (Nat.le_refl _),by simp[hl],fun i t' y' ht hy=>?_⟩;cases i with
  |zero=>
   simp at ht hy;subst ht hy;have hv:a.eval y=bL a s:=by
    cases y<;>simp[aL.is]at hp;obtain⟨⟨rfl,hn⟩,_⟩:=hp;simp[Act.eval,bL,hn]
   rw[hv];exact cB fp.z _ (c:=none) (c':=none) trivial dO
  |succ i=>exact dS i t' y' (by simpa using ht) (by simpa using hy)
theorem Z6p (h:Rel X U J σ a w ow) (hd:eW X o) (he:∀x,bJ e x->¬U x) {g:Nat}{xs:List aL}{f:FuncId}{first eR:Array Operand} (hf:X.ae g=f) (hx:oU X.ae xs eR.toList=true) (h0:first.isEmpty=true) (bl:o.op=.makeFunc (.func f) first eR)
  (aq:(exec e o.dst (.fn g xs)).run σ=some ((),aj)):Sound X U a w e o aj:=by
 obtain⟨ts,aZ,h1,h2⟩:=aW aq;obtain⟨bB,hg,hl,hr⟩:=Wb xs eR.toList h hx h1;have Sk:first=#[]:=by simpa using h0
 refine jH hg.rel (v:=.func (.func f) #[] (eR.map a.eval)) (av:=.x (.f g ts)) ?_ hd he ?_ h2
 ·simp only[execOp,bl,Sk];refine jG ?_;simp only[Instr.makeFunc,Array.map_empty];rfl
 ·simp only[jE,ay];refine⟨eR.map a.eval,by rw[hf],pj (by simpa using hl) fun j t v ht hv=>?_⟩;simp only[Y6,iX]at hv;obtain⟨y,hy,rfl⟩:=jm.1 hv;exact hr j t y ht hy
end
section
variable {ae:Nat->FuncId}{mv:Nat->Value}{w w':World}{ow ap:Nat->Ow}
theorem X3 {c c':Loc}{sz:Nat}:∀{es bW:List T}{k:Nat}{vs:List Value},bW.length=es.length->cw ae mv w ow c sz k es vs->
  (∀(j:Nat) t t' v1,es[j]?=some t->bW[j]?=some t'->ay ae mv w ow (c.push (k+j)) t v1->ay ae mv w' ap (c'.push (k+j)) t' v1)->cw ae mv w' ap c' sz k bW vs
 |[],[],k,vs,_,h,_=>by simpa only[cw]using h
 |[],_::_,k,vs,hl,_,_=>by simp at hl
 |_::_,[],k,vs,hl,_,_=>by simp at hl
 |e::es,e'::bW,k,vs,hl,h,hm=>by
  simp only[cw]at h⊢;obtain⟨v1,rest,rfl,dp,h1,h2⟩:=h;refine⟨v1,rest,rfl,dp,hm 0 e e' v1 rfl rfl h1,X3 (by simpa using hl) h2 fun j t t' v ht bG hr=>?_⟩;have:=hm (j+1) t t' v (by simpa using ht) (by simpa using bG) (by rw[show k+(j+1)=k+1+j by omega];exact hr);rw[show k+1+j=k+(j+1) by omega];exact this
theorem Z9r {c c':Loc}:∀{t:T}{vs:List Value},ay ae mv w ow c t vs->ay ae mv w' ap c' t.oF vs:=by
 intro t vs h;have hc:=xb _ h;by_cases ha:∃cs,t=.a cs
 ·obtain⟨cs,rfl⟩:=ha;simp only[ay]at h;have hl:=ol h;simp only[T.oF,ay];refine pj (by simp[hl]) fun j x u hx hu=>?_;rw[iX]at hx;obtain⟨_,_,rfl⟩:=jm.1 hx;simp only[ay];exact⟨u,rfl,eJ.1 hc u (cS hu)⟩
 ·have hg:t.oF=.u:=by
   cases t<;>first|rfl|exact absurd ⟨_,rfl⟩ ha
  rw[hg];obtain⟨v,rfl⟩:=s7.1 (xc h (fun cs e=>ha ⟨cs,e⟩));simp only[ay];exact⟨v,rfl,by simpa using hc⟩
theorem Z9s {t:T}:Sh w t.oF w t:=by
 by_cases ha:∃cs,t=.a cs
 ·obtain⟨cs,rfl⟩:=ha;simp only[T.oF];have hg:∀k,(cs.map fun _=>T.u)[k]?=(cs[k]?).map fun _=>T.u:=fun k=>iX;constructor
  ·intro b o p bo h;cases p with
   |nil=>exact h
   |cons k p=>
    simp only[cE,hg]at h⊢;cases hk:cs[k]? with
    |none=>simp[hk]at h
    |some t'=>
     simp only[hk,s5]at h⊢;cases p with
     |nil=>cases t'<;>exact h
     |cons j p=>simp[cE]at h
  ·intro A p bo h;simp only[eY,reduceCtorEq]at h
  ·intro p o sz es h;cases p with
   |nil=>simp[T.aM]at h
   |cons k p=>
    simp only[T.aM,T.bA,hg]at h;cases hk:cs[k]? with
    |none=>simp[hk]at h
    |some t'=>
     simp only[hk,s5,jl]at h;cases p with
     |nil=>simp[T.aM]at h
     |cons j p=>simp[T.aM,T.bA]at h
  ·intro p cA h;cases p with
   |nil=>exact⟨cs,rfl⟩
   |cons k p=>
    simp only[T.aM,T.bA,hg]at h;cases hk:cs[k]? with
    |none=>simp[hk]at h
    |some t'=>
     simp only[hk,s5,jl]at h;cases p with
     |nil=>simp[T.aM]at h
     |cons j p=>simp[T.aM,T.bA]at h
 ·have hg:t.oF=.u:=by
   cases t<;>first|rfl|exact absurd ⟨_,rfl⟩ ha
  rw[hg];exact Sh.scalar _ (fun k=>rfl) (fun _ _ _=>by simp) (fun _=>by simp)
theorem Sh.aal {o:Ob}{sz:Nat}{es bW:List T} (hl:bW.length=es.length) (h:∀(j:Nat) t t',es[j]?=some t->bW[j]?=some t'->Sh w t' w t):Sh w (.l o sz bW) w (.l o sz es):=by
 have get:∀(j:Nat) t',bW[j]?=some t'->∃t,es[j]?=some t/\Sh w t' w t:=fun j t' hj=>by
  have:j<es.length:=by rw[<-hl];exact(bt.1 hj).1
  exact⟨_,bF this,h j _ _ (bF this) hj⟩
 constructor
 ·intro b of p bo hp;cases p with
  |nil=>exact hp
  |cons j p=>
   simp only[cE]at hp⊢;split at hp
   ·rename_i ad N C t2 h1 h2;obtain⟨t,h3,h4⟩:=get j t2 h2;rw[h1,h3];exact h4.loc _ _ _ _ hp
   ·cases hp
 ·intro A p bo hp;cases A<;>cases p<;>simp only[eY,reduceCtorEq]at hp⊢;rename_i ad j p;split at hp
  ·rename_i t2 h2;obtain⟨t,h3,h4⟩:=get j t2 h2;rw[h3];exact h4.loc _ _ _ _ hp
  ·cases hp
 ·intro p o2 nQ bQ hp;cases p with
  |nil=>
   simp only[T.aM,aR,T.l.injEq]at hp;obtain⟨rfl,rfl,rfl⟩:=hp;exact⟨_,_,rfl,hl.symm⟩
  |cons j p=>
   simp only[T.aM,T.bA]at hp⊢;obtain⟨t2,h2,h5⟩:=gG.1 hp;obtain⟨t,h3,h4⟩:=get j t2 h2;rw[h3];exact h4.aM _ _ _ _ h5
 ·intro p cA hp;cases p with
  |nil=>simp[T.aM]at hp
  |cons j p=>
   simp only[T.aM,T.bA]at hp⊢;obtain⟨t2,h2,h5⟩:=gG.1 hp;obtain⟨t,h3,h4⟩:=get j t2 h2;rw[h3];exact h4.str _ _ h5
end
section
variable {X:Cx}{U:Nat->Prop}{J J':Nat}{σ aj aX:St}{a a' a2:Act}{w w' w2:World}{ow ap aU:Nat->Ow}{e:Nat}{o:Oper}
def jW (ow:Nat->Ow) (r:Nat) (p:List Nat) (J lo n:Nat):Nat->Ow:=fun b=>
 match ow b with
 |.own (.sl r') q=>if r'=r/\p <+: q then
   (match q.drop p.length with
    |[]=>.own (.sl r') q
    |i::q2=>if lo<=i/\i<lo+n then .own (.ar J) ((i-lo)::q2) else .own (.sl r') q)
   else .own (.sl r') q
 |o=>o
theorem Ix {r:Nat}{p:List Nat}{lo n:Nat}:Zs w ow w (jW ow r p J lo n):=fun b hb=>⟨by simp[jW,hb],rfl⟩
theorem VM {r:Nat}{p:List Nat}{lo n b:Nat}{r':aJ}{q:List Nat} (hr:r'≠.sl r) (hb:ow b=.own r' q):jW ow r p J lo n b=.own r' q:=by
 unfold jW;rw[hb];cases r' with
 |sl x=>simp only;rw[if_neg (fun h=>hr (by rw[h.1]))]
 |ar x=>rfl
 |rs x=>rfl
theorem Z52 {r:Nat}{p:List Nat}{lo n b:Nat}{q:List Nat} (hb:ow b=.own (.sl r) q) (hq:¬p <+: q):jW ow r p J lo n b=.own (.sl r) q:=by
 unfold jW;rw[hb];simp only;rw[if_neg (fun h=>hq h.2)]
theorem Z55 {r:Nat}{p:List Nat}{lo n b:Nat} (hb:ow b=.own (.sl r) p):jW ow r p J lo n b=.own (.sl r) p:=by
 unfold jW;rw[hb];simp
theorem Z54 {r:Nat}{p:List Nat}{lo n b i:Nat}{q:List Nat} (hb:ow b=.own (.sl r) (p++i::q)) (hi:i<lo\/lo+n<=i):jW ow r p J lo n b=.own (.sl r) (p++i::q):=by
 unfold jW;rw[hb];simp only[List.prefix_append,and_self,if_true,List.drop_left,List.drop_append,List.drop_length,Nat.sub_self,ax,eC];rw[if_neg (by omega)]
theorem Z51 {r:Nat}{p:List Nat}{lo n b i:Nat}{q:List Nat} (h:jW ow r p J lo n b=.own (.ar i) q):i=J\/ow b=.own (.ar i) q:=by
 unfold jW at h;cases hb:ow b with
 |no=>simp[hb]at h
 |z=>simp[hb]at h
 |own r' q'=>
  rw[hb]at h;cases r' with
  |sl x=>
   simp only at h;split at h
   ·split at h
    ·cases h
    ·split at h
     ·simp at h;exact .inl h.1.symm
     ·cases h
   ·cases h
  |ar x=>exact .inr h
  |rs x=>cases h
theorem Za0 {r:Nat}{k:K}{p:List Nat}{lo n:Nat}{t:T} (h:(CY r k p lo n).run σ=some (t,aj)):
  ∃c sz es,(σ r).rc=some c/\c.k.ok k (ic c.dh p)=true/\c.t.aM p=some (.l .y sz es)/\t=.l .n sz (sub es lo n)/\
   aj=bi σ r ({c with t:=c.t.put p (.l .y sz (es.take lo++((sub es lo n).map T.oF++es.drop (lo+n))))}:RC).av:=by
 unfold CY at h;obtain⟨c,aZ,h1,h2⟩:=aW h;obtain⟨rfl,hc,hk⟩:=Cl h1;cases hn:c.t.aM p with
 |none=>simp[hn,Pg.run]at h2
 |some node=>
  simp only[hn]at h2;cases node<;>try exact absurd h2 (by simp[Pg.run];done)
  rename_i o sz es;cases o
  case n=>cases h2
  case m=>cases h2
  obtain⟨_,aX,h3,h4⟩:=aW h2;obtain⟨rfl,rfl⟩:=bS h4;exact⟨c,sz,es,hc,hk,hn,rfl,rZ h3⟩
theorem Zdn (es:List T) (lo n:Nat) (h:lo+n<=es.length):(es.take lo++((sub es lo n).map T.oF++es.drop (lo+n))).length=es.length/\
  ∀(j:Nat) t t',es[j]?=some t->(es.take lo++((sub es lo n).map T.oF++es.drop (lo+n)))[j]?=some t'->(t'=t/\(j<lo\/lo+n<=j))\/(t'=t.oF/\lo<=j/\j<lo+n):=by
 have hs:=tH es lo n h;refine⟨by simp[hs];omega,fun j t t' ht bG=>?_⟩;have K5:(es.take lo).length=lo:=by simp;omega
 by_cases h1:j<lo
 ·rw[nl (by omega),wO h1,ht]at bG;cases bG;exact .inl ⟨rfl,.inl h1⟩
 ·rw[kD (by omega),K5]at bG;by_cases h2:j<lo+n
  ·rw[nl (by simp[hs];omega),iX,xf,if_pos (by omega),show lo+(j-lo)=j by omega,ht]at bG;cases bG;exact .inr ⟨rfl,by omega,h2⟩
  ·rw[kD (by simp[hs];omega),cL,hs,rT,show lo+n+(j-lo-n)=j by omega,ht]at bG;cases bG;exact .inl ⟨rfl,.inr (by omega)⟩
theorem Z9z (h:Rel X U J σ a w ow) {r:Nat}{k:K}{p:List Nat}{z lo n:Nat}{t:T}{v:Value} (hv:kz σ a w r k p z lo n v) (aq:(CY r k p lo n).run σ=some (t,aj)):
  ∃ap sz bQ vs,t=.l .n sz bQ/\Gh X U J (J+1) σ a w ow aj ap/\UU X w ap J sz v bQ vs:=by
 obtain⟨c,sz,es,hc,hk,hn,rfl,rfl⟩:=Za0 aq;obtain⟨cC,hh,cJ⟩:=xd (w:=w) (v:=bL a r) hc (h.slot r) hn;obtain⟨A,C,rfl⟩:∃A C,cC=.slice A es.length C:=by
  obtain⟨A,C,e,_⟩:=mO cJ;exact⟨A,C,by simpa using e⟩
 obtain⟨_,hl,mz⟩:=(hv.2 c hc hk).2 .y sz es hn _ _ _ hh;have mY:=EG (.sl r) p c.t [];rw[eC]at mY;have AH:c.t.fF (some (.sl r,[])) p=some (.sl r,p):=by
  rcases mY with e|e
  ·rw[e]at cJ;simp[ay,Ob.own]at cJ
  ·exact e
 rw[AH]at cJ;have dp:Ob.loc .y (some (aJ.sl r,p))=some (aJ.sl r,p):=rfl;have dy:Ob.loc .y (some (aJ.ar J,([]:List Nat)))=some (aJ.ar J,[]):=rfl;obtain⟨hlen,gu⟩:=Zdn es lo n hl;generalize hL:es.take lo++((sub es lo n).map T.oF++es.drop (lo+n))=bW at hlen gu;have cT:∀b i q,jW ow r p J lo n b=.own (.ar i) q->i<J+1:=fun b i q e=>by
  rcases Z51 e with e|e
  ·omega
  ·have:=h.dw b i q e;omega
 have abd:∀bE,ay X.ae X.mv w ow (some (.sl r,p)) (.l .y sz es) bE->ay X.ae X.mv w (jW ow r p J lo n) (some (.sl r,p)) (.l .y sz bW) bE:=fun bE hr=>by
  simp only[ay]at hr⊢;obtain⟨h0,A1,cap,rfl,hQ,hm,ei⟩:=hr;refine⟨h0,A1,cap,by rw[hlen],by rw[hlen];exact hQ,by rw[hlen];exact hm,?_⟩;cases A1 with
  |none=>exact ei
  |some ad=>
   intro jZ;obtain⟨hs,hb,aG,ty,fr,A9,hhp,eA,bP,cg⟩:=ei (.inl rfl);rw[dp]at hb cg⊢;refine⟨hs,Z55 hb,aG,ty,fr,A9,hhp,eA,bP,X3 hlen cg fun j t t' v1 ht bG dO=>?_⟩;rcases gu j t t' ht bG with⟨rfl,hj⟩|⟨rfl,hj1,fP⟩
   ·refine cB Ix t' (c:=some (.sl r,p++[0+j])) (c':=some (.sl r,p++[0+j])) (fun b q hb=>⟨?_,rfl⟩) dO;simp only[db,gY,gf,eC]at hb⊢;exact Z54 hb hj
   ·exact Z9r dO
 have hg:Rel X U (J+1) (bi σ r ({c with t:=c.t.put p (.l .y sz bW)}:RC).av) a w (jW ow r p J lo n)/\
   ∀r',dn U σ a w (bi σ r ({c with t:=c.t.put p (.l .y sz bW)}:RC).av) a w r':=by
  have sG:=fun b r' q (hr:r'≠aJ.sl r) (hb:ow b=.own r' q)=>VM (J:=J) (p:=p) (lo:=lo) (n:=n) hr hb;have dK:∀b,ow b=.no->jW ow r p J lo n b=.no:=fun b hb=>by simp[jW,hb]
  have AP:Sh w (.l .y sz bW) w (.l .y sz es):=Sh.aal hlen fun j t t' ht bG=>by
   rcases gu j t t' ht bG with⟨rfl,_⟩|⟨rfl,_⟩
   ·exact Sh.refl (Hs.refl w) _
   ·exact Z9s
  have mo:({c with t:=c.t.put p (.l .y sz bW)}:RC).av.rc=some {c with t:=c.t.put p (.l .y sz bW)}/\
    cK X (bi σ r ({c with t:=c.t.put p (.l .y sz bW)}:RC).av) a w (jW ow r p J lo n) r ({c with t:=c.t.put p (.l .y sz bW)}:RC).av (bL a r):=by
   by_cases hp:c.dh=true\/p≠[]
   ·exact Pu (aX:=bi σ r ({c with t:=c.t.put p (.l .y sz bW)}:RC).av) (a2:=a) (fM:=.l .y sz bW) hc (h.slot r) hn hp (Ph hc hn) Ix
     (fun bE bP=>by rw[AH]at bP⊢;exact abd bE bP) (fun b q' hb hq=>⟨Z52 (J:=J) (lo:=lo) (n:=n) hb hq,rfl⟩)
   ·have hb:c.dh=false:=by cases hh:c.dh<;>simp[hh]at hp⊢
    have Di:p=[]:=by
     cases p with
     |nil=>rfl
     |cons=>simp at hp
    subst Di;rcases ju hc with⟨cU,_⟩|⟨_,aV⟩
    ·rw[hb]at cU;cases cU
    ·have hs:=h.slot r;rw[aV]at hs;simp only[cK]at hs;simp only[T.aM,aR]at hn;rw[hn]at hs;have h5:=abd _ hs.2;obtain⟨ib,kk,t⟩:=c;simp only at hb hn;subst hb hn;exact⟨rfl,⟨_,_,_,rfl,rfl⟩,h5⟩
  obtain⟨h1,h2⟩:=mo;refine qT h h2 ?_ Ix sG dK cT ?_ (pg hc).1 (pg hc).2
  ·have bD:=h.fh r;rcases ju hc with⟨hb,cs,ht,aV⟩|⟨hb,aV⟩<;>rw[aV]at bD<;>simp only[AV.stamps]at bD;all_goals
    generalize iK:({c with t:=c.t.put p (.l .y sz bW)}:RC).av=av at h1;cases av<;>simp only[AV.rc,reduceCtorEq,aR]at h1<;>simp only[AV.stamps];all_goals
     have oH:=congrArg RC.k h1;simp only at oH;rw[oH];exact bD
  ·exact Jt (c':={c with t:=c.t.put p (.l .y sz bW)}) hc (by simp only[bi,if_true];exact h1) rfl rfl (Sh.put (Hs.refl w) AP p c.t hn) (Hs.refl w) rfl
 have GJ:ay X.ae X.mv w (kv ow r p J lo n) (some (.ar J,[])) (.l .y sz (sub es lo n)) [v]:=
  Cj Cu (fun _=>by simp) cJ mz hl (fun _=>by simp) (fun b hb=>⟨by rw[dp]at hb;rw[dy];exact ZA hb,rfl⟩) (fun i hi b q hb=>⟨by
   simp only[dp,gY,gf,eC]at hb;rw[YY hb hi];simp,rfl⟩)
 obtain⟨A2,C2,vs,gQ,Ga,nC⟩:=JM GJ;rw[dy]at nC;refine⟨jW ow r p J lo n,sz,_,vs,rfl,⟨hg.1,Ix,fun b i q _ hb=>VM (by simp) hb,hg.2⟩,⟨⟨A2,C2,gQ,Ga⟩,?_⟩⟩;have anL:∀b q,ow b≠.own (.ar J) q:=fun b q e=>Nat.lt_irrefl _ (h.dw b J q e);have amt:∀b i q,kv ow r p J lo n b=.own (.ar J) (i::q)->jW ow r p J lo n b=.own (.ar J) (i::q):=fun b i q e=>by
  unfold kv at e;unfold jW;cases hb:ow b with
  |no=>simp[hb]at e
  |z=>simp[hb]at e
  |own r' q'=>
   rw[hb]at e;cases r' with
   |sl x=>
    simp only at e⊢;split at e
    ·rename_i hc;rw[if_pos hc];split at e
     ·simp at e
     ·rename_i i' q2 hq;split at e
      ·rename_i hr;rw[hq];simp only;rw[if_pos hr];exact e
      ·cases e
    ·cases e
   |ar x=>exact e
   |rs x=>cases e
 have vX:∀b,kv ow r p J lo n b=.z->jW ow r p J lo n b=.z/\w.heap[b]?=w.heap[b]?:=fun b e=>by
  unfold kv at e;unfold jW;cases hb:ow b with
  |no=>simp[hb]at e
  |z=>exact⟨rfl,rfl⟩
  |own r' q'=>
   rw[hb]at e;cases r' with
   |sl x=>
    simp only at e;split at e
    ·split at e
     ·cases e
     ·split at e<;>cases e
    ·cases e
   |ar x=>cases e
   |rs x=>cases e
 exact tC nC fun j t v1 ht hr=>cB vX t (c:=some (.ar J,[]++[0+j])) (c':=some (.ar J,[]++[0+j])) (fun b q hb=>⟨amt b _ q (by simpa using hb),rfl⟩) hr
theorem Z69 (h:Rel X U J σ a w ow) (hd:eW X o) (he:∀x,bJ e x->¬U x) {sz:Nat}{agg:Bool}{zero:List T}{x y:aL}{x' y':Operand}{c:Call} (hx:x.is X.ae x'=true) (hy:y.is X.ae y'=true)
  (hg:CD X.P c sz agg zero=true) (bl:o.op=.call c) (C9:c.callee=.builtin .append) (kY:c.args=#[x',y']) (aq:(exec e o.dst (.CC sz agg zero x y)).run σ=some ((),aj)):Sound X U a w e o aj:=by
 simp only[exec]at aq;cases dB:o.dst with
 |none=>simp[dB,Pg.run]at aq
 |some d=>
  simp only[dB,JY]at aq;obtain⟨t1,aZ,h1,h2⟩:=aW aq;obtain⟨bB,eH,dO⟩:=PN h hx h1;cases t1<;>try simp only[Pg.run,reduceCtorEq]at h2
  rename_i ob uq es;cases ob<;>try simp only[Pg.run,reduceCtorEq]at h2
  obtain⟨v,aX,h3,h4⟩:=aW h2;obtain⟨e1,cj⟩:=kn eH.rel hy h3;rw[e1]at h4;clear h2 h3 e1 aX;cases v<;>try simp only[Pg.run,reduceCtorEq]at h4
  rename_i r k p z lo n;obtain⟨t2,iU,h5,h6⟩:=aW h4;simp only[fw]at cj;obtain⟨aU,nQ,bQ,vs,rfl,fp,aot⟩:=Z9z eH.rel cj.1 h5;simp only at h6;split at h6
  ·rename_i hc;obtain⟨rfl,rfl,AF⟩:=hc;have SZ:=
    cB (c':=some (.ar J,[])) fp.z _ (c:=some (.ar J,[])) (fun b q hb=>⟨fp.dw b J _ (by omega) hb,rfl⟩) dO
   exact Zz (J':=J+1+1) (J1:=J) (J2:=J+1) fp.rel he dB hd hg bl C9 kY (by omega) SZ aot (by simpa[cQ]using AF) h6
  ·simp[Pg.run]at h6
end
def LC (P:Program) (ae:Nat->FuncId) (m:jr) (o:Oper):Bool:=
 match m,o.op with
 |.mv x,.move y=>x.is ae y
 |.uW x,.assign y=>x.is ae y
 |.mv x,.assign y=>x.is ae y
 |.pick c x y,.pick c' x' y'=>c.is ae c'&&x.is ae x'&&y.is ae y'
 |.alloc cs,.alloc t=>wq P t cs
 |.box _ x,.box _ y=>x.is ae y
 |.fa x off,.fieldAddr s y f=>x.is ae y&&Qa P s f off
 |.ia sz x ix,.indexAddr t y iy=>x.is ae y&&ix.is ae iy&&xn P t sz
 |.ld none x,.load t y=>x.is ae y&&pp P t false
 |.ld (some n) x,.load t y=>x.is ae y&&pp P t true&&nj P t n
 |.kQ n _ x v,.store t y u=>x.is ae y&&v.is ae u&&nj P t n&&o.dst.isNone
 |.bin op g x y,.binOp G6 t x' y' _=>decide (op=G6)&&x.is ae x'&&y.is ae y'&&g.ok P t
 |.un op x,.unOp G6 _ x'=>decide (op=G6)&&x.is ae x'
 |.J6 k x,.convert s t y=>x.is ae y&&P6 P s t k
 |.L4 x,.convert s t y=>x.is ae y&&Ur P s t
 |.v7 sz agg zero l c,.makeSlice t l' c'=>l.is ae l'&&c.is ae c'&&DI P t sz agg zero
 |.qJ sz _ x lo hi,.slice t x' xR mW none=>x.is ae x'&&Be ae lo xR&&Be ae hi mW&&xn P t sz
 |.jU zero _ parts,.build t ps=>P1 P ae t zero parts ps.toList
 |.dN sz agg zero len _ parts,.buildSlice t abR ps=>len==abR&&P4 P ae t sz agg zero len parts ps.toList
 |.ext x j,.extract y j'=>x.is ae y&&j==j'
 |.qE x,.nilCheck y=>x.is ae y
 |.fn g xs,.makeFunc (.func f) first eR=>ae g==f&&oU ae xs eR.toList&&first.isEmpty
 |.len str x,.call c=>(match c.callee,c.args.toList with|.builtin .len,[y]=>x.is ae y&&Tn P str c.argTypes[0]?|_,_=>false)
 |.dk sz agg zero _ x y,.call c=>(match c.callee,c.args.toList with|.builtin .append,[x',y']=>x.is ae x'&&y.is ae y'&&CD P c sz agg zero|_,_=>false)
 |.mn xs,.call c=>(match c.callee with|.builtin .min=>oU ae xs c.args.toList|_=>false)
 |.mx xs,.call c=>(match c.callee with|.builtin .max=>oU ae xs c.args.toList|_=>false)
 |.call g _ args,.call c=>(match c.callee with|.value (.func f)=>ae g==f&&xk P f&&iR ae args c.args.toList|_=>false)
 |.tK x lI args,.call c=>(match c.callee with|.value y=>x.is ae y&&iR ae args c.args.toList&&lI.all (fun p=>xk P (ae p.1))|_=>false)
 |.iq g _ x args,.call c=>(match c.callee,c.args.toList with|.value (.func f),y::ys=>ae g==f&&xk P f&&x.is ae y&&iR ae args ys|_,_=>false)
 |.CF x,.box t y=>x.is ae y
 |_,_=>false
def jr.calls:jr->List (Nat×aB)
 |.call g F _=>[(g,F)]
 |.iq g F _ _=>[(g,F)]
 |.tK _ lI _=>lI
 |_=>[]
section
variable {X:Cx}{U:Nat->Prop}{J J':Nat}{σ aj aX:St}{a a' a2:Act}{w w' w2:World}{ow ap aU:Nat->Ow}{e:Nat}{o:Oper}
theorem ZU {α:Type}{xs:Array α}{y:α} (h:xs.toList=[y]):xs=#[y]:=by
 apply Array.ext';rw[h]
theorem zH {α:Type}{xs:Array α}{x y:α} (h:xs.toList=[x,y]):xs=#[x,y]:=by
 apply Array.ext';rw[h]
theorem Zfu {o:Oper}{y:Operand} (bl:o.op=.assign y) (ev:Operand->Value):execOp ev o=execOp ev {o with op:=.move y}:=by
 simp only[execOp,bl]
theorem Z6b (h:Rel X U J σ a w ow) (hd:eW X o) (he:∀x,bJ e x->¬U x) {x:aL}{x':Operand} (hx:x.is X.ae x'=true) (bl:o.op=.assign x')
  (aq:(exec e o.dst (.mv x)).run σ=some ((),aj)):Sound X U a w e o aj:=by
 have h1:Sound X U a w e {o with op:=.move x'} aj:=VS (o:={o with op:=.move x'}) h hd he hx rfl aq;intro K Q hK;have h2:=h1 K Q hK;unfold Oper.wp Oper.asks at h2⊢;rw[Zfu bl];exact h2
theorem VT (h:Rel X U J σ a w ow) (ct:X.mv=eZ) (hd:eW X o) (he:∀x,bJ e x->¬U x) {m:jr} (hF:∀p∈m.calls,ik X.P X.ae p.1 p.2) (hm:LC X.P X.ae m o=true)
  (aq:(exec e o.dst m).run σ=some ((),aj)):Sound X U a w e o aj:=by
 unfold LC at hm;split at hm
 case h_1 x y bl=>exact VS h hd he hm bl aq
 case h_2 x y bl=>exact Z6a h hd he hm bl aq
 case h_3 x y bl=>exact Z6b h hd he hm bl aq
 case h_4 c x y c' x' y' bl=>
  simp only[Y8]at hm;exact Z72 h hd he hm.1.1 hm.1.2 hm.2 bl aq
 case h_5 cs t bl=>exact Z67 h hd he hm bl aq
 case h_6 tk x t y bl=>exact Z6e h hd he hm bl aq
 case h_7 x off s y f bl=>
  simp only[Y8]at hm;exact Z6o h hd he hm.1 hm.2 bl aq
 case h_8 sz x ix t y iy bl=>
  simp only[Y8]at hm;exact Z6r h hd he hm.1.1 hm.1.2 hm.2 bl aq
 case h_9 x t y bl=>
  simp only[Y8]at hm;exact VR h hd he (agg:=none) hm.1 hm.2 bl aq
 case h_10 n x t y bl=>
  simp only[Y8]at hm;exact VR h hd he (agg:=some n) hm.1.1 ⟨hm.1.2,hm.2⟩ bl aq
 case h_11 n tk x v t y u bl=>
  simp only[Y8,Option.isNone_iff_eq_none]at hm;exact Z74 h hm.2 he hm.1.1.1 hm.1.1.2 hm.1.2 bl aq
 case h_12 op g x y G6 t x' y' t2 bl=>
  simp only[Y8,decide_eq_true_eq]at hm;obtain⟨⟨⟨rfl,h1⟩,h2⟩,h3⟩:=hm;exact Z6c h hd he h1 h2 h3 bl aq
 case h_13 op x G6 t x' bl=>
  simp only[Y8,decide_eq_true_eq]at hm;obtain⟨rfl,h1⟩:=hm;exact Z76 h hd he h1 bl aq
 case h_14 k x s t y bl=>
  simp only[Y8]at hm;exact Z6k h hd he hm.1 hm.2 bl aq
 case h_15 x s t y bl=>
  simp only[Y8]at hm;exact Z75 h hd he hm.1 hm.2 bl aq
 case h_16 sz agg zero l c t l' c' bl=>
  simp only[Y8]at hm;exact Z6w h hd he hm.1.1 hm.1.2 hm.2 bl aq
 case h_17 sz tk x lo hi t x' xR mW bl=>
  simp only[Y8]at hm;exact Z73 h hd he hm.1.1.1 hm.1.1.2 hm.1.2 hm.2 bl aq
 case h_18 zero tk parts t ps bl=>exact Z6d h hd he hm bl aq
 case h_19 sz agg zero len tk parts t abR ps bl=>
  simp only[Y8,beq_iff_eq]at hm;obtain⟨rfl,hm⟩:=hm;exact Z6g h hd he hm bl aq
 case h_20 x j y j' bl=>
  simp only[Y8,beq_iff_eq]at hm;obtain⟨hm,rfl⟩:=hm;exact Z6n h hd he hm bl aq
 case h_21 x y bl=>exact Z71 h hd he hm bl aq
 case h_22 g xs f first eR bl=>
  simp only[Y8,beq_iff_eq]at hm;exact Z6p h hd he hm.1.1 hm.1.2 hm.2 bl aq
 case h_23 str x c bl=>
  split at hm
  ·rename_i y hc ha;simp only[Y8]at hm;exact Z6v h hd he hm.1 bl hc (ZU ha) hm.2 aq
  ·cases hm
 case h_24 sz agg zero tk x y c bl=>
  split at hm
  ·rename_i x' y' hc ha;simp only[Y8]at hm;exact Z68 h hd he hm.1.1 hm.1.2 hm.2 bl hc (zH ha) aq
  ·cases hm
 case h_25 xs c bl=>
  split at hm
  ·rename_i hc;exact Z6x h hd he hm bl hc aq
  ·cases hm
 case h_26 xs c bl=>
  split at hm
  ·rename_i hc;exact Z70 h hd he hm bl hc aq
  ·cases hm
 case h_27 g F args c bl=>
  split at hm
  ·rename_i f hc;simp only[Y8,beq_iff_eq]at hm;exact Z6h h ct hd he (hF (g,F) (by simp[jr.calls])) bl hc hm.1.1 hm.1.2 hm.2 aq
  ·cases hm
 case h_28 x lI args c bl=>
  split at hm
  ·rename_i y hc;simp only[Y8]at hm;exact Z6m h ct hd he (fun p hp=>⟨hF p hp,eJ.1 hm.2 p hp⟩) hm.1.1 bl hc hm.1.2 aq
  ·cases hm
 case h_29 g F x args c bl=>
  split at hm
  ·rename_i f y ys hc ha;simp only[Y8,beq_iff_eq]at hm;exact Z6j h ct hd he (hF (g,F) (by simp[jr.calls])) bl hc hm.1.1.1 hm.1.1.2 ha hm.1.2 hm.2 aq
  ·cases hm
 case h_30 x t y bl=>exact Z6f h hd he hm bl aq
 case h_31=>cases hm
theorem ZB {Fe:Bool}{r c n:Nat}{k:K}{x:T} (h:(zQ Fe r k c n).run σ=some (x,aj)):(jX true r k [c] 0 n).run σ=some (x,aj)/\(Fe=true->∃kk cs sz es,(σ r)=.box kk cs/\kk.ok k 1=true/\cs[c]?=some (.l .y sz es)/\x=.l .y sz es/\n=es.length):=by
 obtain⟨v,aZ,h1,h2⟩:=aW h;have e1:v=(σ r).bk/\aZ=σ:=by
  simp only[pk,Pg.run,aR,di]at h1;exact⟨h1.1.symm,h1.2.symm⟩
 obtain⟨rfl,rfl⟩:=e1;cases aV:aZ r with
 |box kk cs=>
  simp only[aV,AV.bk]at h2;cases hk:kk.ok k 1 with
  |false=>simp[hk,Pg.run]at h2
  |true=>
   simp only[hk]at h2;obtain⟨v,aX,h3,h4⟩:=aW h2;have e2:v=cs[c]?/\aX=aZ:=by
    simp only[gC,Pg.run,aV,AV.bc,aR,di]at h3;exact⟨h3.1.symm,h3.2.symm⟩
   obtain⟨rfl,rfl⟩:=e2;split at h4
   ·rename_i sz es hc;have aF:c<cs.length:=(bt.1 hc).1;have put:∀iU,(sC r c .u).run aX=some ((),iU)->(jX true r k [c] 0 n).run aX=some (.l .y sz (sub es 0 n),iU):=fun iU h5=>by
     have e3:iU=bi aX r (.box kk (cs.set c .u)):=by
      simp only[sC,Pg.run,aV,AV.jD,if_pos aF,aR,di,true_and]at h5;exact h5.symm
     subst e3;have e4:ic true [c]=1:=rfl;have e5:(T.a cs).aM [c]=some (.l .y sz es):=by simp[T.aM,T.bA,hc]
     have e6:(T.a cs).put [c] .u=.a (cs.set c .u):=by simp[T.put,T.bA,T.dP,hc]
     simp only[jX,kc,Bind.bind,Pg.run,Pg.rd,aV,AV.rc,e4,hk,if_true,Pure.pure,e5,Pg.wr,RC.av,e6]
    cases Fe with
    |false=>
     simp only at h4;obtain⟨_,iU,h5,h6⟩:=aW h4;obtain⟨rfl,rfl⟩:=bS h6;exact⟨put _ h5,fun e=>by cases e⟩
    |true=>
     simp only at h4;split at h4
     ·rename_i hn;obtain⟨_,iU,h5,h6⟩:=aW h4;obtain⟨rfl,rfl⟩:=bS h6;have hs:sub es 0 n=es:=by rw[hn];simp[sub]
      have:=put _ h5;rw[hs]at this;exact⟨this,fun _=>⟨kk,cs,sz,es,rfl,hk,hc,rfl,hn⟩⟩
     ·simp[Pg.run]at h4
   ·simp[Pg.run]at h4
 |_=>simp only[aV,AV.bk,Pg.run,reduceCtorEq]at h2
theorem OL:∀(cs:List Cell) {σ aj:St}{ts:List T},(Fj cs).run σ=some (ts,aj)->(mU true cs).run σ=some (ts,aj)
 |[],σ,aj,ts,h=>h
 |.x t::cs,σ,aj,ts,h=>by
  obtain⟨us,aZ,h1,h2⟩:=aW h;have h3:=OL cs h1;show((mU true cs).bind fun ts=>pure (t::ts)).run σ=_;simp only[Pg.run,h3];exact h2
 |.w r k p z lo n::cs,σ,aj,ts,h=>by
  unfold Fj at h;split at h
  ·cases ‹_::_=[]›
  ·rename_i he;cases he
  ·rename_i he;cases he;obtain⟨t,aZ,h1,h2⟩:=aW h;obtain⟨us,aX,h3,h4⟩:=aW h2;have h5:=(ZB h1).1;have h6:=OL cs h3;show((jX true _ _ _ _ _).bind fun t=>(mU true cs).bind fun ts=>pure (t::ts)).run σ=_;simp only[Pg.run,h5,h6];exact h4
  ·simp[Pg.run]at h
theorem Z7s {d:Option Nat}:∀(m:jr),(xr e d m).run σ=some ((),aj)->(exec e d m).run σ=some ((),aj):=fun m h=>by
 have ref:∀(n off:Nat),(Qb n off d).run σ=some ((),aj)->∃k cs,σ n=.box k cs/\(dE d (.ptr n k [] off)).run σ=some ((),aj):=fun n off h=>by
  obtain⟨v,aZ,h1,h2⟩:=aW h;have e1:v=(σ n).bk/\aZ=σ:=by
   simp only[pk,Pg.run,aR,di]at h1;exact⟨h1.1.symm,h1.2.symm⟩
  obtain⟨rfl,rfl⟩:=e1;cases aV:aZ n with
  |box k cs=>simp only[aV,AV.bk]at h2;exact⟨k,cs,rfl,h2⟩
  |_=>simp only[aV,AV.bk,Pg.run,reduceCtorEq]at h2
 unfold xr at h;split at h
 ·rename_i n;obtain⟨k,cs,aV,h2⟩:=ref n 0 h;simp only[exec,look,Pg.rd,Bind.bind,Pg.run,aV,Pure.pure];exact h2
 ·rename_i n off;obtain⟨k,cs,aV,h2⟩:=ref n off h;simp only[exec,addr,look,Pg.rd,Bind.bind,Pg.run,aV,Pure.pure,db];exact h2
 ·rename_i x;obtain⟨v,aZ,h1,h2⟩:=aW h;obtain⟨rfl,rfl⟩:=jv h1;split at h2
  ·rename_i r k off aV;obtain⟨v,aX,h3,h4⟩:=aW h2;have e1:v=(aZ r).bk/\aX=aZ:=by
    simp only[pk,Pg.run,aR,di]at h3;exact⟨h3.1.symm,h3.2.symm⟩
   obtain⟨rfl,rfl⟩:=e1;cases hr:aX r with
   |box kk cs=>
    simp only[hr,AV.bk]at h4;cases hk:kk.ok k 0 with
    |false=>simp[hk,Pg.run]at h4
    |true=>
     simp only[hk]at h4;obtain⟨v,iU,h5,h6⟩:=aW h4;have e2:v=cs[off]?/\iU=aX:=by
      simp only[gC,Pg.run,hr,AV.bc,aR,di]at h5;exact⟨h5.1.symm,h5.2.symm⟩
     obtain⟨rfl,rfl⟩:=e2;split at h6
     ·rename_i t hc;have e4:j8 true []=0:=rfl;have e5:(T.a cs).aM []=some (.a cs):=rfl;have e6:(T.a cs).cells=cs:=rfl;have e7:seen r kk [] off (.a cs) t=seen r kk [] off (.a []) t:=by unfold seen;split<;>rfl
      simp only[exec,load,addr,look,oW,Pg.rd,Bind.bind,Pg.run,aV,hr,Pure.pure,AV.rc,e4,hk,Bool.true_or,gX,if_true,e5,e6,hc,e7];exact h6
     ·simp[Pg.run]at h6
   |_=>simp only[hr,AV.bk,Pg.run,reduceCtorEq]at h4
  ·simp[Pg.run]at h2
 ·rename_i n x v;obtain⟨v0,aZ,h1,h2⟩:=aW h;obtain⟨rfl,rfl⟩:=jv h1;split at h2
  ·rename_i cells aV;split at h2
   ·simp[Pg.run]at h2
   ·rename_i gN;obtain⟨new,aX,h3,h4⟩:=aW h2;have h5:=OL cells h3;have h6:(gJ e true (.t v)).run aZ=some (new,aX):=by
     simp only[gJ,raw,Pg.rd,Bind.bind,Pg.run,aV];rw[if_neg gN];exact h5
    show((gJ e true (.t v)).bind _).run aZ=_;simp only[Pg.run,h6];exact h4
  ·simp[Pg.run]at h2
 ·rename_i sz agg zero tk x y;cases d with
  |none=>simp[Pg.run]at h
  |some d=>
   simp only at h;obtain⟨v0,aZ,h1,h2⟩:=aW h;obtain⟨rfl,rfl⟩:=jv h1;split at h2
   ·rename_i r k c z n aV;obtain⟨t,aX,h3,h4⟩:=aW h2;obtain⟨h5,h5b⟩:=ZB h3;obtain⟨kk,cs,uq,es,hr,hk,hc,rfl,hn⟩:=h5b rfl;have e4:ic true [c]=1:=rfl;have e5:(T.a cs).aM [c]=some (.l .y uq es):=by simp[T.aM,T.bA,hc]
    have h6:(nk e (.t x)).run aZ=some (.l .y uq es,aX):=by
     simp only[nk,raw,kc,Pg.rd,Bind.bind,Pg.run,aV,hr,AV.rc,e4,hk,if_true,Pure.pure,e5,hn,and_self];rw[<-hn];exact h5
    show((nk e (.t x)).bind _).run aZ=_;simp only[Pg.run,h6];exact h4
   ·simp[Pg.run]at h2
 ·simp[Pg.run]at h
theorem Z6u (h:Rel X U J σ a w ow) (hd:eW X o) (he:∀x,bJ e x->¬U x) {x:aL}{y:Operand} (hx:x.is X.ae y=true) {t:TypeId} (cn:pp X.P t false=true) (bl:o.op=.load t y)
  (aq:(exec e o.dst (.GS x)).run σ=some ((),aj)):Sound X U a w e o aj:=by
 obtain⟨av,aZ,h1,h2⟩:=aW aq;obtain⟨rfl,v,hv,hl⟩:=WR h hx (agg:=none) cn h1;have cC:(execOp a.eval o).run X.P w=.ok (.value v) w:=by
  simp only[execOp,bl];exact jG hv
 cases av<;>try simp only[Pg.run,reduceCtorEq]at h2
 rename_i r k p z lo n;cases h3:(jX true r k p lo n).run aZ with
 |none=>rw[h3]at h2;cases h2
 |some q=>
  obtain⟨t1,σ5⟩:=q;rw[h3]at h2;simp only at h2;obtain⟨ap,nE,hr⟩:=B5 h hl.1 h3;refine E0 nE.rel cC hd he (Xu hr ?_) h2;obtain⟨c,o2,nQ,es,_,_,_,kK⟩:=Et h3;rcases kK with⟨_,rfl,_⟩|⟨_,rfl,_⟩|⟨_,rfl,_⟩
  ·exact .inl ⟨_,_,rfl⟩
  ·exact .inr ⟨_,_,rfl⟩
  ·exact .inl ⟨_,_,rfl⟩
theorem Z6q (h:Rel X U J σ a w ow) (hd:eW X o) (he:∀x,bJ e x->¬U x) {g:Nat}{x:aL}{f:FuncId}{first eR:Array Operand}{y:Operand} (hx:x.is X.ae y=true) (hf:X.ae g=f) (h0:first.isEmpty=true) (bl:o.op=.makeFunc (.func f) first eR) (pu:eR.toList=[y])
  (aq:(exec e o.dst (.J9 g x)).run σ=some ((),aj)):Sound X U a w e o aj:=by
 obtain⟨av,aZ,h1,h2⟩:=aW aq;obtain⟨rfl,cj,mq,nH⟩:=uO h hx h1;clear mq nH;cases av<;>try simp only[Pg.run,reduceCtorEq]at h2
 rename_i r k p off
 match p,off,cj,h2 with
 |_::_,_,_,h2=>simp[Pg.run]at h2
 |[],_+1,_,h2=>simp[Pg.run]at h2
 |[],0,cj,h2=>
  have Sk:first=#[]:=by simpa using h0
  have nB:eR=#[y]:=ZU pu;refine jH h (v:=.func (.func f) #[] #[a.eval y]) (av:=.fb g r k) ?_ hd he ⟨⟨a.eval y,by rw[hf],cj.1⟩,cj.2⟩ h2;simp only[execOp,bl,Sk,nB];refine jG ?_;simp only[Instr.makeFunc,List.map_toArray,fc,s8,Array.map_empty];rfl
def T3 (P:Program) (ae:Nat->FuncId) (m:jr) (o:Oper):Bool:=match m with
 |.oB m=>LC P ae m o
 |.GS x=>match o.op with
  |.load t y=>x.is ae y&&pp P t false
  |_=>false
 |.xO n sz x ix=>match o.op with
  |.indexAddr t y iy=>x.is ae y&&ix.is ae iy&&J4 P t n sz
  |_=>false
 |.J9 g x=>match o.op with
  |.makeFunc (.func f) first eR=>(match eR.toList with|[y]=>x.is ae y&&ae g==f&&first.isEmpty|_=>false)
  |_=>false
 |.CC sz agg zero x y=>match o.op with
  |.call c=>(match c.callee,c.args.toList with|.builtin .append,[x',y']=>x.is ae x'&&y.is ae y'&&CD P c sz agg zero|_,_=>false)
  |_=>false
 |m=>LC P ae m o
theorem Z7r {d:Option Nat}{m:jr} (h:(xr e d m).run σ=some ((),aj)):m.calls=[]:=by
 unfold xr at h;split at h<;>first|rfl|simp[Pg.run]at h
theorem VU (h:Rel X U J σ a w ow) (ct:X.mv=eZ) (hd:eW X o) (he:∀x,bJ e x->¬U x) {m:jr} (hF:∀p∈m.calls,ik X.P X.ae p.1 p.2) (hm:T3 X.P X.ae m o=true)
  (aq:(exec e o.dst m).run σ=some ((),aj)):Sound X U a w e o aj:=by
 unfold T3 at hm;split at hm
 ·rename_i m;have h2:(xr e o.dst m).run σ=some ((),aj):=aq;exact VT h ct hd he (fun p hp=>by rw[Z7r h2]at hp;cases hp) hm (Z7s m h2)
 ·split at hm
  ·rename_i bl;simp only[Y8]at hm;exact Z6u h hd he hm.1 hm.2 bl aq
  ·cases hm
 ·split at hm
  ·rename_i bl;simp only[Y8]at hm;exact Z6s h hd he hm.1.1 hm.1.2 hm.2 bl aq
  ·cases hm
 ·split at hm
  ·rename_i f first eR bl
   split at hm
   ·rename_i y hc;simp only[Y8,beq_iff_eq]at hm;exact Z6q h hd he hm.1.1 hm.1.2 hm.2 bl hc aq
   ·cases hm
  ·cases hm
 ·split at hm
  ·rename_i bl;split at hm
   ·rename_i x' y' hc ha;simp only[Y8]at hm;exact Z69 h hd he hm.1.1 hm.1.2 hm.2 bl hc (zH ha) aq
   ·cases hm
  ·cases hm
 ·exact VT h ct hd he hF hm aq
end
def xW (P:Program) (ae:Nat->FuncId) (n:Nat) (cO:List Nat) (ops:Array Oper) (m:aY) (o:Oper):Bool:=
 T3 P ae m.op o&&m.d==o.dst&&(match o.dst with|some d=>decide (d<n)&& !cO.contains d|none=>true)&&
 (match m.guard,o.guard with
  |none,none=>true
  |some (s,want),some (g,af5)=>want==af5&&(ops[g]?).bind (·.dst)==some s&&decide (s<1000)
  |_,_=>false)&&m.kl.all fun s=>decide (s<2000)
section
variable {X:Cx}{U:Nat->Prop}{J J':Nat}{σ aj aX:St}{a a' a2:Act}{w w' w2:World}{ow ap aU:Nat->Ow}{e:Nat}{o:Oper}
theorem Z8j (h:Rel X U J σ a w ow) {d:Nat} (hd:d<1000):Rel X U J (kP σ d .u) a w ow:=by
 have de:=fun s=>tF h hd .u s;have hz:Zs w ow w ow:=fun b hb=>⟨hb,rfl⟩
 have dD:∀r,dn U σ a w (kP σ d .u) a w r:=fun r=>by
  by_cases h1:r=d
  ·refine dn.fresh fun c hc=>?_;rw[de r,if_pos h1]at hc;simp[AV.rc]at hc
  ·by_cases h2:1000<=r/\r%1000=d
   ·refine dn.fresh fun c hc=>?_;rw[de r,if_neg h1,if_pos h2]at hc;simp[AV.rc]at hc
   ·exact ph (h.slot r) (by rw[de r,if_neg h1,if_neg h2]) rfl hz (fun _ _ _=>rfl)
 refine⟨h.size,h.small,h.defers,fun s=>?_,fun s=>?_,h.low,h.dw,h.grown,h.same,h.os,h.output,h.cO,fun s hs hu=>?_⟩
 ·rw[de s];split
  ·trivial
  ·split
   ·trivial
   ·exact qg (h.slot s) (h.fh s) hz dD (fun b q hb=>⟨hb,rfl⟩)
 ·rw[de s];split
  ·trivial
  ·split
   ·trivial
   ·exact h.fh s
 ·rw[de s]at hu;have h1:s≠d:=by omega
  rw[if_neg h1]at hu;split at hu
  ·exact absurd rfl hu
  ·rename_i h2;obtain⟨n,h3,h4⟩:=h.pR s hs hu;refine⟨n,?_,h4⟩;rw[de,if_neg (fun e=>h2 ⟨hs,e⟩),if_neg (by omega)];exact h3
theorem Zd1 (h:Rel X U J σ a w ow) {d:Nat} (hd:d<1000) {t:T} (ht:ay X.ae X.mv w ow none t [bL a d]):Rel X U J (kP σ d (.x t)) a w ow:=by
 have de:=fun s=>tF h hd (.x t) s;have hz:Zs w ow w ow:=fun b hb=>⟨hb,rfl⟩
 have dD:∀r,dn U σ a w (kP σ d (.x t)) a w r:=fun r=>by
  by_cases h1:r=d
  ·refine dn.fresh fun c hc=>?_;rw[de r,if_pos h1]at hc;simp[AV.rc]at hc
  ·by_cases h2:1000<=r/\r%1000=d
   ·refine dn.fresh fun c hc=>?_;rw[de r,if_neg h1,if_pos h2]at hc;simp[AV.rc]at hc
   ·exact ph (h.slot r) (by rw[de r,if_neg h1,if_neg h2]) rfl hz (fun _ _ _=>rfl)
 refine⟨h.size,h.small,h.defers,fun s=>?_,fun s=>?_,h.low,h.dw,h.grown,h.same,h.os,h.output,h.cO,fun s hs hu=>?_⟩
 ·rw[de s];split
  ·rename_i e;subst e;exact ht
  ·split
   ·trivial
   ·exact qg (h.slot s) (h.fh s) hz dD (fun b q hb=>⟨hb,rfl⟩)
 ·rw[de s];split
  ·trivial
  ·split
   ·trivial
   ·exact h.fh s
 ·rw[de s]at hu;have h1:s≠d:=by omega
  rw[if_neg h1]at hu;split at hu
  ·exact absurd rfl hu
  ·rename_i h2;obtain⟨n,h3,h4⟩:=h.pR s hs hu;refine⟨n,?_,h4⟩;rw[de,if_neg (fun e=>h2 ⟨hs,e⟩),if_neg (by omega)];exact h3
theorem Za2 {r:Nat}{k:K}{p:List Nat}{lo n:Nat}{t:T} (aq:(jX false r k p lo n).run σ=some (t,aj)):∃sz es,t=.l .n sz es:=by
 obtain⟨c,aZ,h1,h2⟩:=aW aq;cases hn:c.t.aM p with
 |none=>simp[hn,Pg.run]at h2
 |some node=>
  simp only[hn]at h2;cases node<;>try simp only[Pg.run,reduceCtorEq]at h2
  rename_i o sz es;cases o with
  |n=>
   obtain⟨rfl,_⟩:=bS h2;exact⟨_,_,rfl⟩
  |m k=>simp[Pg.run]at h2
  |y=>
   simp only[cX,if_false]at h2;obtain⟨_,aX,h3,h4⟩:=aW h2;obtain⟨rfl,_⟩:=bS h4;exact⟨_,_,rfl⟩
theorem Z8o (h:Rel X U J σ a w ow) {s:Nat} (hs:s<1000) (aq:(Qf s).run σ=some ((),aj)):∃J' ap,Rel X U J' aj a w ap:=by
 obtain⟨v,aZ,h1,h2⟩:=aW aq;obtain⟨e0,cj,-,-⟩:=uO h (o:=.tmp s) (by simp[aL.is,hs]) h1;subst e0;have same:(pure ():Pg Unit).run aZ=some ((),aj)->∃J' ap,Rel X U J' aj a w ap:=fun h3=>by
  obtain⟨_,rfl⟩:=bS h3;exact⟨J,ow,h⟩
 cases v<;>try exact same h2
 rename_i r k p z lo n;obtain⟨t,aX,h3,h4⟩:=aW h2;obtain⟨ap,hg,hr⟩:=B5 h cj.1 h3;obtain⟨sz,es,rfl⟩:=Za2 h3;cases dY:r==s with
 |true=>
  rw[dY]at h4;obtain⟨_,rfl⟩:=bS h4;exact⟨J+1,ap,hg.rel⟩
 |false=>
  rw[dY]at h4;simp only[cond_false]at h4;rw[uR]at h4;simp only[aR,di,true_and]at h4;subst h4;have e:a.eval (.tmp s)=bL a s:=by simp[Act.eval,bL,hs]
  rw[e]at hr;have dS:ay X.ae X.mv w ap none (T.l .n sz es) [bL a s]:=by
   simp only[ay,Ob.own,Ob.loc]at hr⊢;simpa using hr
  exact⟨J+1,ap,Zd1 hg.rel hs dS⟩
theorem OD:∀(ss:List Nat) {σ aj:St}{J:Nat}{ow:Nat->Ow},Rel X U J σ a w ow->ss.all (fun s=>decide (s<2000))=true->(forget ss).run σ=some ((),aj)->∃J' ap,Rel X U J' aj a w ap
 |[],σ,aj,J,ow,h,_,aq=>by
  obtain⟨_,rfl⟩:=bS aq;exact⟨J,ow,h⟩
 |s::ss,σ,aj,J,ow,h,hs,aq=>by
  simp only[nV,Y8,decide_eq_true_eq]at hs;obtain⟨_,aZ,h1,h2⟩:=aW (m:=bif Nat.blt s 1000 then gd s .u else Qf (s-1000)) (f:=fun _=>forget ss) aq;cases hb:Nat.blt s 1000 with
  |true=>
   rw[hb]at h1;simp only[cond_true]at h1;rw[uR]at h1;simp only[aR,di,true_and]at h1;subst h1;exact OD ss (Z8j h (show s+1<=1000 from qM hb)) hs.2 h2
  |false=>
   rw[hb]at h1;simp only[cond_false]at h1;obtain⟨J',ap,hr⟩:=Z8o h (by omega) h1;exact OD ss hr hs.2 h2
theorem Zab (h:Rel X U J σ a w ow) (ct:X.mv=eZ) (he:∀x,bJ e x->¬U x) {m:aY}{ops:Array Oper}{i:Nat} (hF:∀p∈m.op.calls,ik X.P X.ae p.1 p.2) (hi:ops[i]?=some o) (hm:xW X.P X.ae X.n X.cO ops m o=true)
  (aq:(m.go e).run σ=some ((),aj)) (K:Act->World->Prop) (Q:Exit->Act->World->Prop) (hK:∀a' w' ap J',Rel X (fun x=>U x\/bJ e x) J' aj a' w' ap->K a' w'):wpOp X.P ops Q i K a w:=by
 unfold xW at hm;simp only[Y8,beq_iff_eq]at hm;obtain⟨⟨⟨⟨bl,hd⟩,dB⟩,hg⟩,_⟩:=hm;have Sd:eW X o:=fun d lR=>by
  rw[lR]at dB;simp only[Y8,decide_eq_true_eq,lC,List.contains_eq_mem,decide_eq_false_iff_not]at dB;exact dB
 unfold wpOp;simp only[hi];unfold aY.go at aq;cases tB:m.guard with
 |none=>
  simp only[tB]at aq hg;cases AL:o.guard with
  |some gw=>simp[AL]at hg
  |none=>
   have hw:Region.wanted o (yielded ops a.tmps)=true:=by simp[Region.wanted,AL]
   rw[if_pos hw];rw[hd]at aq;exact VU h ct Sd he hF bl aq K Q hK
 |some sw=>
  obtain⟨s,want⟩:=sw;simp only[tB]at aq hg;cases AL:o.guard with
  |none=>simp[AL]at hg
  |some gw=>
   obtain⟨g,af5⟩:=gw;simp only[AL,Y8,beq_iff_eq,decide_eq_true_eq]at hg;obtain⟨⟨rfl,Ss⟩,dL⟩:=hg;obtain⟨v,aZ,h1,h2⟩:=aW aq;obtain⟨rfl,rfl⟩:=jv h1;have fg:=h.slot s;have skip:(dE m.d (.dj 0)).run aZ=some ((),aj)->K (a.put o.dst undef) w:=fun h2=>by
    rw[hd,EV]at h2;simp only[aR,di,true_and]at h2;subst h2;exact hK _ _ _ _ (zF h (fun x hx=>.inl hx) (pb.rfl h o.dst (Nat.le_refl J)) (av:=.dj 0) (v:=undef) Sd trivial (fun c hc=>by simp[AV.rc]at hc) (fun d _ aj a' hr=>⟨#[],rfl,rfl⟩)).1
   cases aV:aZ s<;>rw[aV]at h2 fg<;>try simp only[Pg.run,reduceCtorEq]at h2
   case dj n=>
    cases n with
    |succ n=>simp[Pg.run]at h2
    |zero=>
     obtain⟨vs,cC,bP⟩:=fg;unfold bL at cC;rw[if_pos dL]at cC;have hy:yielded ops a.tmps g=none:=by
      unfold yielded;rw[Ss];simp only[jl];cases oP:a.tmps[s]? with
      |none=>rfl
      |some v=>simp[oP]at cC;rw[cC]
     have hw:Region.wanted o (yielded ops a.tmps)=false:=by
      simp[Region.wanted,AL,hy]
     rw[hw];simp only[cX,if_false];exact skip h2
   rename_i t;cases t<;>try simp only[Pg.run,reduceCtorEq]at h2
   rename_i b;have cC:bL a s=.bool b:=by simpa[cK,ay]using fg
   unfold bL at cC;rw[if_pos dL]at cC;have hy:yielded ops a.tmps g=some b:=by
    unfold yielded;rw[Ss];simp only[jl];have:a.tmps[s]?=some (.bool b):=by
     cases oP:a.tmps[s]? with
     |none=>simp[oP,undef]at cC
     |some v=>simp[oP]at cC;rw[cC]
    rw[this]
   have hw:Region.wanted o (yielded ops a.tmps)=(b==want):=by
    simp[Region.wanted,AL,hy]
   rw[hw];by_cases Gi:b=want
   ·subst Gi;simp only[beq_self_eq_true,if_true]at h2⊢;rw[hd]at h2;exact VU h ct Sd he hF bl h2 K Q hK
   ·have:(b==want)=false:=by simpa using Gi
    rw[this];rw[if_neg Gi]at h2;simp only[cX,if_false];exact skip h2
theorem Xp (h:Rel X U J σ a w ow) (ct:X.mv=eZ) (he:∀x,bJ e x->¬U x) {m:aY}{ops:Array Oper}{i:Nat} (hF:∀p∈m.op.calls,ik X.P X.ae p.1 p.2) (hi:ops[i]?=some o) (hm:xW X.P X.ae X.n X.cO ops m o=true)
  (aq:(m.exec e).run σ=some ((),aj)) (K:Act->World->Prop) (Q:Exit->Act->World->Prop) (hK:∀a' w' ap J',Rel X (fun x=>U x\/bJ e x) J' aj a' w' ap->K a' w'):wpOp X.P ops Q i K a w:=by
 obtain⟨_,aZ,h1,h2⟩:=aW (m:=m.go e) (f:=fun _=>forget m.kl) aq;have tV:m.kl.all (fun s=>decide (s<2000))=true:=by
  unfold xW at hm;simp only[Y8]at hm;exact hm.2
 exact Zab h ct he hF hi hm h1 K Q fun a' w' ap J' hr=>by
  obtain⟨J2,aU,dS⟩:=OD m.kl hr tV h2;exact hK a' w' aU J2 dS
theorem Xq (ct:X.mv=eZ) {ops:Array Oper}{Q:Exit->Act->World->Prop} (id:Nat):∀(ms:List aY) (i:Nat) {U:Nat->Prop}{J:Nat}{σ aj:St}{a:Act}{w:World}{ow:Nat->Ow},Rel X U J σ a w ow->
  (∀x,(id*1000+i+1)*8<=x->x<(id*1000+1000)*8->¬U x)->i+ms.length<1000->(∀m∈ms,∀p∈m.op.calls,ik X.P X.ae p.1 p.2)->
  (∀(j:Nat) m,ms[j]?=some m->∃o,ops[i+j]?=some o/\xW X.P X.ae X.n X.cO ops m o=true)->(zO id i ms).run σ=some ((),aj)->
  (∀a' w' ap J',Rel X (fun x=>U x\/((id*1000+i+1)*8<=x/\x<(id*1000+1000)*8)) J' aj a' w' ap->Q .normal a' w')->wpOps X.P ops Q (List.range' i ms.length) a w
 |[],i,U,J,σ,aj,a,w,ow,h,eA,hl,hF,hm,aq,hK=>by
  obtain⟨_,rfl⟩:=bS aq;exact hK _ _ _ _ (h.mono (fun x hx=>.inl hx) (Nat.le_refl _))
 |m::ms,i,U,J,σ,aj,a,w,ow,h,eA,hl,hF,hm,aq,hK=>by
  simp only[zO]at aq;obtain⟨_,aZ,h1,h2⟩:=aW aq;obtain⟨o,ho,SG⟩:=hm 0 m rfl;simp only[dH]at hl;rw[pc]at ho;show wpOps X.P ops Q (List.range' i (ms.length+1)) a w;rw[List.range'_succ,wpOps_cons];refine Xp h ct (fun x hx=>eA x hx.1 (by have:=hx.2;omega)) (hF m fe) ho SG h1 _ Q (fun a' w' ap J' sH=>?_);refine Xq ct id ms (i+1) sH (fun x Tf Dl hU=>?_) (by omega) (fun m' oI=>hF m' (fJ _ oI)) (fun j m' hj=>?_) h2 (fun a2 w2 aU J2 dS=>hK _ _ _ _ (dS.mono (fun x hx=>?_) (Nat.le_refl _)))
  ·rcases hU with hU|hU
   ·exact eA x (by omega) Dl hU
   ·have:=hU.2;omega
  ·have:=hm (j+1) m' (by simpa using hj);rw[show i+1+j=i+(j+1) by omega];exact this
  ·rcases hx with(hx|hx)|hx
   ·exact .inl hx
   ·exact .inr ⟨hx.1,by have:=hx.2;omega⟩
   ·exact .inr ⟨by omega,hx.2⟩
end
end Go.Wr

