/-
  What is proved: lemmas for the laws. No condition.
-/
import Derived.Test.YtbghjecopkbhlaaGreatRg
import Derived.Tactics
import Derived.ChangeArms
import Derived.ChangeSame
import Derived.WideKeyArgs
set_option linter.unusedVariables false
set_option linter.unusedSimpArgs false
namespace Go.Wr
section
variable {X:Cx}{U:Nat->Prop}{J J':Nat}{σ aj aX:St}{a a' a2:Act}{w w' w2:World}{ow ap aU:Nat->Ow}{e:Nat}{o:Oper}
theorem Ye (σ:St):∀(bY:List Nat) (s:Nat),gy bY σ s=if s∈bY/\s<1000 then renew bY σ (σ s) else .u:=by
 intro bY;have gen:∀(ks full:List Nat) (s:Nat),(ks.foldr (fun s τ=>if s<1000 then bi τ s (renew full σ (σ s)) else τ) (fun _=>AV.u)) s=if s∈ks/\s<1000 then renew full σ (σ s) else .u:=by
  intro ks full
  induction ks with
  |nil=>intro s;simp
  |cons k ks ih=>
   intro s;simp only[List.foldr_cons,iG];by_cases hk:k<1000
   ·rw[if_pos hk];by_cases hs:s=k
    ·subst hs;simp[bi,hk]
    ·have:∀(τ:St) (v:AV),bi τ k v s=τ s:=fun τ v=>by simp[bi,hs]
     rw[this,ih];simp[hs]
   ·rw[if_neg hk,ih];by_cases hs:s=k
    ·subst hs;simp[hk]
    ·simp[hs]
 intro s;exact gen bY bY s
theorem Zkb {bY:List Nat}{v:AV}{c':RC} (h:(renew bY σ v).rc=some c'):∃c,v.rc=some c/\c'={c with k:=⟨0,0,0⟩}:=by
 cases v with
 |own k t=>simp only[renew,AV.rc,aR]at h;subst h;exact⟨_,rfl,rfl⟩
 |box k t=>simp only[renew,AV.rc,aR]at h;subst h;exact⟨_,rfl,rfl⟩
 |w r k p z lo n=>
  simp only[renew]at h;cases hk:pJ bY σ r k (ic · p)<;>rw[hk]at h<;>simp[AV.rc]at h
 |ptr r k p off=>
  simp only[renew]at h;cases hk:pJ bY σ r k (j8 · p)<;>rw[hk]at h<;>simp[AV.rc]at h
 |fb g r k=>
  simp only[renew]at h;cases hk:pJ bY σ r k (j8 · [])<;>rw[hk]at h<;>simp[AV.rc]at h
 |_=>simp[renew,AV.rc]at h
theorem Ck {bY:List Nat}{r:Nat}{k k':K}{Ld:Bool->Nat} (h:pJ bY σ r k Ld=some k'):r∈bY/\∃c,(σ r).rc=some c/\c.k.ok k (Ld c.dh)=true/\k'=⟨0,0,0⟩:=by
 unfold pJ at h;split at h
 ·rename_i hm;split at h
  ·rename_i c hc;split at h
   ·rename_i hk;cases h;exact⟨by simpa using hm,c,hc,hk,rfl⟩
   ·cases h
  ·cases h
 ·cases h
theorem Zln (h:Rel X U J σ a w ow) (bY:List Nat):Rel X (fun x=>x=0) J (gy bY σ) a w ow:=by
 have de:=Ye σ bY;have root:∀r c',(gy bY σ r).rc=some c'->∃c,(σ r).rc=some c/\c'={c with k:=⟨0,0,0⟩}:=fun r c' hc=>by
  rw[de]at hc;split at hc
  ·exact Zkb hc
  ·simp[AV.rc]at hc
 refine⟨h.size,h.small,h.defers,fun s=>?_,fun s=>?_,h.low,h.dw,h.grown,h.same,h.os,h.output,h.cO,fun s hs hu=>?_⟩
 ·rw[de];split
  ·have hs:=h.slot s;cases aV:σ s<;>rw[aV]at hs<;>simp only[renew]
   case u=>trivial
   case x t=>exact hs
   case own k t=>exact hs
   case w r k p z lo n=>
    cases hk:pJ bY σ r k (ic · p) with
    |none=>trivial
    |some k'=>
     obtain⟨hm,c,hc,bf,rfl⟩:=Ck hk;refine⟨hs.1,fun c' cN _=>?_⟩;obtain⟨c2,dx,rfl⟩:=root r c' cN;rw[hc]at dx;cases dx;exact hs.2 c hc bf
   case st cs=>trivial
   case box k cs=>exact hs
   case ptr r k p off=>
    cases hk:pJ bY σ r k (j8 · p) with
    |none=>trivial
    |some k'=>
     obtain⟨hm,c,hc,bf,rfl⟩:=Ck hk;refine⟨hs.1,fun c' cN _ bo eF=>?_⟩;obtain⟨c2,dx,rfl⟩:=root r c' cN;rw[hc]at dx;cases dx;exact hs.2 c hc bf bo eF
   case fb g r k=>
    cases hk:pJ bY σ r k (j8 · []) with
    |none=>trivial
    |some k'=>
     obtain⟨hm,c,hc,bf,rfl⟩:=Ck hk;obtain⟨u,hu,hs⟩:=hs;refine⟨u,hu,hs.1,fun c' cN _ bo eF=>?_⟩;obtain⟨c2,dx,rfl⟩:=root r c' cN;rw[hc]at dx;cases dx;exact hs.2 c hc bf bo eF
   case q t off=>exact hs
   case dj n=>trivial
  ·trivial
 ·rw[de];split
  ·cases aV:σ s<;>simp only[renew,AV.stamps]
   case w r k p z lo n=>
    cases hk:pJ bY σ r k (ic · p) with
    |none=>trivial
    |some k'=>
     obtain⟨hm,c,hc,bf,rfl⟩:=Ck hk;exact⟨rfl,rfl,rfl⟩
   case ptr r k p off=>
    cases hk:pJ bY σ r k (j8 · p) with
    |none=>trivial
    |some k'=>
     obtain⟨hm,c,hc,bf,rfl⟩:=Ck hk;exact⟨rfl,rfl,rfl⟩
   case fb g r k=>
    cases hk:pJ bY σ r k (j8 · []) with
    |none=>trivial
    |some k'=>
     obtain⟨hm,c,hc,bf,rfl⟩:=Ck hk;exact⟨rfl,rfl,rfl⟩
   all_goals trivial
  ·trivial
 ·rw[de,if_neg (by omega)]at hu;exact absurd rfl hu
end
def Bt (id x:Nat):Prop:=(id*1000+1)*8<=x/\x<(id*1000+1000)*8
def agi (U:Nat->Prop) (us:List Nat):Prop:=∀id,id∉us->∀x,Bt id x->¬U x
structure Good (X:Cx) (s:Sg) (a:Act) (w:World):Prop where
 out:∃U J ow,Rel X U J s.σ a w ow/\agi U s.us
def Ex.alR:Ex->Exit
 |.nx=>.normal
 |.exit id=>.exit id
 |.ret=>.ret
def wa (P:Program) (ae:Nat->FuncId) (n:Nat) (cO:List Nat) (ops:Array Oper):List aY->List Oper->Bool
 |[],[]=>true
 |m::ms,o::os=>xW P ae n cO ops m o&&wa P ae n cO ops ms os
 |_,_=>false
theorem O7 {P:Program}{ae:Nat->FuncId}{n:Nat}{cO:List Nat}{ops:Array Oper}:∀{ms:List aY}{os:List Oper},wa P ae n cO ops ms os=true->
  ms.length=os.length/\∀(j:Nat) m,ms[j]?=some m->∃o,os[j]?=some o/\xW P ae n cO ops m o=true
 |[],[],_=>⟨rfl,fun j m h=>by simp at h⟩
 |[],_::_,h=>by simp[wa]at h
 |_::_,[],h=>by simp[wa]at h
 |m::ms,o::os,h=>by
  simp only[wa,Y8]at h;obtain⟨h1,h2⟩:=O7 h.2;refine⟨by simp[h1],fun j m' hj=>?_⟩;cases j with
  |zero=>simp at hj;subst hj;exact⟨o,rfl,h.1⟩
  |succ j=>obtain⟨o',h3,h4⟩:=h2 j m' (by simpa using hj);exact⟨o',by simpa using h3,h4⟩
def alC (l:List Nat) (x:Nat):List Nat:=if l.contains x then l else x::l
def PZ:List Oper->List (List Nat)->List (List Nat)
 |[],acc=>acc
 |o::os,acc=>PZ os (acc++[o.after.toList.foldl (fun l x=>if Region.binds .any x then(x.on::acc.getD x.on []).foldl alC l else l) []])
def ov (x y:Nat):Bool:=Nat.beq x y||(Nat.ble 100000 y&&Nat.blt x 100000&&Nat.beq (y%100000) x)||(Nat.ble 100000 x&&Nat.blt y 100000&&Nat.beq (x%100000) y)
def CJ (a b:List Nat):Bool:=a.all fun x=> !b.any (ov x)
def indep (f g:List Nat×List Nat):Bool:=CJ f.2 g.1&&CJ f.2 g.2&&CJ g.2 f.1
def Fh (ops:List Oper) (fs:List (List Nat×List Nat)) (c:List (List Nat)):Bool:=
 fs.length==ops.length&&(List.range ops.length).all fun i=>
  (match ops[i]? with
   |some o=>o.after.toList.all (fun x=> !Region.binds .any x||decide (x.on<i))&&
    (c.getD i []).all (fun j=>o.after.toList.any fun x=>Region.binds .any x&&(x.on==j||(c.getD x.on []).contains j))
   |none=>false)&&
  (List.range i).all fun j=>(c.getD i []).contains j||indep (fs.getD j ([],[])) (fs.getD i ([],[]))
def lL (P:Program) (ae:Nat->FuncId) (n:Nat) (cO:List Nat):eB->Code->Bool
 |.sk,.skip=>true
 |.sR id none ms,.region jJ ops false=>id==jJ&&decide (ms.length<999)&&wa P ae n cO ops ms ops.toList
 |.sR id (some fs) ms,.region jJ ops true=>id==jJ&&decide (ms.length<999)&&wa P ae n cO ops ms ops.toList&&Fh ops.toList fs (PZ ops.toList [])
 |.seq a b,.seq x y=>lL P ae n cO a x&&lL P ae n cO b y
 |.cond c a b,.cond y x z=>c.is ae y&&lL P ae n cO a x&&lL P ae n cO b z
 |.aO id c,.block jJ x=>id==jJ&&lL P ae n cO c x
 |.loop _ c,.loop x=>lL P ae n cO c x
 |.exit id,.exit jJ=>id==jJ
 |.ret,.ret=>true
 |.bad,_=>true
 |_,_=>false
def eB.calls:eB->List (Nat×aB)
 |.sR _ _ ms=>ms.flatMap fun m=>m.op.calls
 |.seq a b=>a.calls++b.calls
 |.cond _ a b=>a.calls++b.calls
 |.aO _ c=>c.calls
 |.loop _ c=>c.calls
 |_=>[]
section
variable {X:Cx}{U:Nat->Prop}{J J':Nat}{σ aj aX:St}{a a' a2:Act}{w w' w2:World}{ow ap aU:Nat->Ow}{e:Nat}{o:Oper}
theorem Good.gy {s:Sg} (h:Good X s a w) (bY:List Nat):Good X ⟨Wr.gy bY s.σ,[]⟩ a w:=by
 obtain⟨U,J,ow,hr,_⟩:=h.out;refine⟨_,J,ow,Zln hr bY,fun id _ x hx h0=>?_⟩;have:=hx.1;omega
theorem Zcp (f:Sg->Option (Ex×Sg)) (n:Nat) (s:Sg):iter f (n+1) s=match f s with|some (.nx,s')=>iter f n s'|r=>r:=rfl
theorem Zk1 (ct:X.mv=eZ) {id:Nat}{ms:List aY}{ops:Array Oper}{s:Sg}{aj:St} (hg:Good X s a w) (vF:id∉s.us) (hl:ms.length<999) (hm:wa X.P X.ae X.n X.cO ops ms ops.toList=true)
  (hF:∀m∈ms,∀p∈m.op.calls,ik X.P X.ae p.1 p.2) (aq:(zO id 0 ms).run s.σ=some ((),aj)) {Q:Exit->Act->World->Prop} (hK:∀a' w',Good X ⟨aj,id::s.us⟩ a' w'->Q .normal a' w'):
  (Code.region id ops false).wp X.P Q a w:=by
 obtain⟨U,J,ow,hr,hf⟩:=hg.out;obtain⟨hlen,gu⟩:=O7 hm;have rz:ops.size=ms.length:=by rw[hlen,Y4]
 refine wp_region ?_;rw[rz,List.range_eq_range'];have eA:∀x,(id*1000+0+1)*8<=x->x<(id*1000+1000)*8->¬U x:=fun x h1 h2=>hf id vF x ⟨h1,h2⟩;have dy:0+ms.length<1000:=by omega
 refine Xq ct id ms 0 hr eA dy hF (fun j m hj=>?_) aq (fun a' w' ap J' py=>hK a' w' ⟨_,J',ap,py,fun jJ AE x hx hU=>?_⟩)
 ·obtain⟨o,h1,h2⟩:=gu j m hj;exact⟨o,by rw[db];simpa using h1,h2⟩
 ·simp only[iG,not_or]at AE;rcases hU with hU|hU
  ·exact hf jJ AE.2 x hx hU
  ·have h3:=hx.1;have h4:=hx.2;have:jJ=id:=by omega
   exact AE.1 this
end
def AV.fr:AV->AV
 |.box k cs=>.box k (List.replicate cs.length .u)
 |v=>v
def AV.at (v:AV):Option Nat->AV×Option T
 |none=>(v.fr,none)
 |some c=>(.u,v.bc c)
theorem OE {v:AV}{k:K}{cs:List T} (h:v.fr=(AV.box k cs).fr):∃cA,v=.box k cA/\cA.length=cs.length:=by
 cases v<;>simp only[AV.fr,AV.box.injEq,reduceCtorEq]at h;rename_i k2 xm;obtain⟨rfl,h⟩:=h;have:=congrArg List.length h;simp only[List.length_replicate]at this;exact⟨xm,rfl,this⟩
theorem U6 {v v':AV} (h:∀a,v.at a=v'.at a):v=v':=by
 have h0:v.fr=v'.fr:=congrArg Prod.fst (h none);have hc:∀c,v.bc c=v'.bc c:=fun c=>congrArg Prod.snd (h (some c));cases v' with
 |box k cs=>
  obtain⟨cA,rfl,hl⟩:=OE h0;have:cA=cs:=uB fun c=>hc c;rw[this]
 |_=>cases v<;>first|exact h0|(simp only[AV.fr,reduceCtorEq]at h0)
theorem Z8l {v v':AV} (h:v.at none=v'.at none):v.bk=v'.bk:=by
 have h0:v.fr=v'.fr:=congrArg Prod.fst h;cases v' with
 |box k cs=>obtain⟨cA,rfl,_⟩:=OE h0;rfl
 |_=>cases v<;>first|rfl|(simp only[AV.fr,reduceCtorEq]at h0)
theorem PG {v v2:AV}{c:Nat}{t:T} (h:v.jD c t=some v2):∃k cs,v=.box k cs/\c<cs.length/\v2=.box k (cs.set c t):=by
 cases v<;>simp only[AV.jD,reduceCtorEq]at h;split at h
 ·simp only[aR]at h;exact⟨_,_,rfl,‹_›,h.symm⟩
 ·cases h
theorem PH {v v2:AV}{c:Nat}{t:T} (h:v.jD c t=some v2) {a:Option Nat} (ha:a≠some c):v2.at a=v.at a:=by
 obtain⟨k,cs,rfl,hc,rfl⟩:=PG h;cases a with
 |none=>simp[AV.at,AV.fr]
 |some c'=>
  have:c≠c':=fun e=>ha (by rw[e]);simp[AV.at,AV.bc,jQ this]
theorem JF {v v2:AV}{c:Nat}{t:T} (h:v.jD c t=some v2):v2.at (some c)=(.u,some t):=by
 obtain⟨k,cs,rfl,hc,rfl⟩:=PG h;simp[AV.at,AV.bc,hc]
theorem Zon {v v' v2:AV}{c:Nat}{t:T} (h:v.jD c t=some v2) (hf:v'.at none=v.at none):∃v3,v'.jD c t=some v3:=by
 obtain⟨k,cs,rfl,hc,rfl⟩:=PG h;obtain⟨cA,rfl,hl⟩:=OE (congrArg Prod.fst hf);exact⟨_,if_pos (by omega)⟩
def xo (s:Nat):Option Nat->Nat
 |none=>100000+s
 |some c=>100000*(c+2)+s
def Names (R:List Nat) (s:Nat) (a:Option Nat):Prop:=s∈R\/(s<100000/\xo s a∈R)
theorem xh {α:Type}{R W:List Nat}:∀(p:Pg α) {σ aj:St}{x:α},(p.within R W).run σ=some (x,aj)->p.run σ=some (x,aj)
 |.ret y,σ,aj,x,h=>h
 |.fail,σ,aj,x,h=>by simp[Pg.within,Pg.run]at h
 |.get s k,σ,aj,x,h=>by
  simp only[Pg.within]at h;split at h
  ·exact xh (k (σ s)) h
  ·simp[Pg.run]at h
 |.set s v k,σ,aj,x,h=>by
  simp only[Pg.within]at h;split at h
  ·exact xh k h
  ·simp[Pg.run]at h
 |.wb s k,σ,aj,x,h=>by
  simp only[Pg.within]at h;split at h
  ·exact xh (k _) h
  ·simp[Pg.run]at h
 |.vm s c k,σ,aj,x,h=>by
  simp only[Pg.within]at h;split at h
  ·exact xh (k _) h
  ·simp[Pg.run]at h
 |.jD s c t k,σ,aj,x,h=>by
  simp only[Pg.within]at h;split at h
  ·simp only[Pg.run]at h⊢;cases hv:(σ s).jD c t with
   |none=>rw[hv]at h;cases h
   |some v=>rw[hv]at h;exact xh k h
  ·simp[Pg.run]at h
 |.bind p f,σ,aj,x,h=>by
  simp only[Pg.within,Pg.run]at h⊢;cases h1:(p.within R W).run σ with
  |none=>rw[h1]at h;cases h
  |some y=>
   obtain⟨y,aZ⟩:=y;rw[h1]at h;rw[xh p h1];exact xh (f y) h
theorem W9 {R:List Nat}{s:Nat} (h:R.contains s=true) (a:Option Nat):Names R s a:=.inl (by simpa using h)
theorem I7 {R:List Nat}{s:Nat}{a:Option Nat} (h:(R.contains s||(Nat.blt s 100000&&R.contains (xo s a)))=true):Names R s a:=by
 rcases Bool.or_eq_true_iff.1 h with h|h
 ·exact .inl (by simpa using h)
 ·simp only[Y8]at h;exact .inr ⟨qM h.1,by simpa using h.2⟩
theorem tI {α:Type}{R W:List Nat}:∀(p:Pg α) {σ aj τ:St}{x:α},(p.within R W).run σ=some (x,aj)->(∀s a,Names R s a->(τ s).at a=(σ s).at a)->
  (∀s a,¬Names W s a->(aj s).at a=(σ s).at a)/\∃yA,(p.within R W).run τ=some (x,yA)/\(∀s a,¬Names W s a->(yA s).at a=(τ s).at a)/\∀s a,Names W s a->(yA s).at a=(aj s).at a\/((yA s).at a=(τ s).at a/\(aj s).at a=(σ s).at a)
 |.ret y,σ,aj,τ,x,h,hr=>by
  simp only[Pg.within,Pg.run,aR,di]at h;obtain⟨rfl,rfl⟩:=h;exact⟨fun _ _ _=>rfl,τ,rfl,fun _ _ _=>rfl,fun _ _ _=>.inr ⟨rfl,rfl⟩⟩
 |.fail,σ,aj,τ,x,h,hr=>by simp[Pg.within,Pg.run]at h
 |.get s k,σ,aj,τ,x,h,hr=>by
  simp only[Pg.within]at h⊢;split at h
  ·rename_i hs;simp only[Pg.run]at h;rw[if_pos hs];simp only[Pg.run];rw[U6 (fun a=>hr s a (W9 hs a))];exact tI (k (σ s)) h hr
  ·simp[Pg.run]at h
 |.set s v k,σ,aj,τ,x,h,hr=>by
  simp only[Pg.within]at h⊢;split at h
  ·rename_i hs;simp only[Pg.run]at h;rw[if_pos hs];simp only[Pg.run];obtain⟨h1,yA,h2,h3,h4⟩:=tI k (τ:=bi τ s v) h (fun t a ht=>by unfold bi;split<;>first|rfl|exact hr t a ht);have bC:∀t a,¬Names W t a->t≠s:=fun t a ht e=>ht (e▸W9 hs a);refine⟨fun t a ht=>by rw[h1 t a ht];simp[bi,bC t a ht],yA,h2,fun t a ht=>by rw[h3 t a ht];simp[bi,bC t a ht],fun t a ht=>?_⟩;rcases h4 t a ht with h5|⟨h5,h6⟩
   ·exact .inl h5
   ·by_cases oP:t=s
    ·subst oP;left;rw[h5,h6];simp[bi]
    ·right;exact⟨by rw[h5];simp[bi,oP],by rw[h6];simp[bi,oP]⟩
  ·simp[Pg.run]at h
 |.wb s k,σ,aj,τ,x,h,hr=>by
  simp only[Pg.within]at h⊢;split at h
  ·rename_i hs;simp only[Pg.run]at h;rw[if_pos hs];simp only[Pg.run];rw[Z8l (hr s none (I7 (a:=none) hs))];exact tI (k _) h hr
  ·simp[Pg.run]at h
 |.vm s c k,σ,aj,τ,x,h,hr=>by
  simp only[Pg.within]at h⊢;split at h
  ·rename_i hs;simp only[Pg.run]at h;rw[if_pos hs];simp only[Pg.run];have e:(τ s).bc c=(σ s).bc c:=congrArg Prod.snd (hr s (some c) (I7 (a:=some c) hs));rw[e];exact tI (k _) h hr
  ·simp[Pg.run]at h
 |.jD s c t k,σ,aj,τ,x,h,hr=>by
  simp only[Pg.within]at h⊢;split at h
  ·rename_i hs;simp only[Pg.run]at h;rw[if_pos hs];simp only[Pg.run];rw[Y8]at hs;have hW:Names W s (some c):=I7 (a:=some c) hs.2;cases hv:(σ s).jD c t with
   |none=>rw[hv]at h;cases h
   |some v=>
    rw[hv]at h;obtain⟨v',eX⟩:=Zon hv (hr s none (I7 (a:=none) hs.1));rw[eX];obtain⟨h1,yA,h2,h3,h4⟩:=tI k (τ:=bi τ s v') h (fun t' a ht=>by
     unfold bi;split
     ·by_cases ha:a=some c
      ·subst ha;rw[JF hv,JF eX]
      ·rename_i e;subst e;rw[PH hv ha,PH eX ha];exact hr _ a ht
     ·exact hr t' a ht)
    have hk:∀(ρ:St) (v1:AV),(ρ s).jD c t=some v1->∀t' a,¬(t'=s/\a=some c)->(bi ρ s v1 t').at a=(ρ t').at a:=fun ρ v1 hu t' a ht=>by
     unfold bi;split
     ·rename_i e;subst e;exact PH hu fun e=>ht ⟨rfl,e⟩
     ·rfl
    have bC:∀t' a,¬Names W t' a->¬(t'=s/\a=some c):=fun t' a ht e=>ht (by rw[e.1,e.2];exact hW);refine⟨fun t' a ht=>by rw[h1 t' a ht];exact hk σ v hv t' a (bC t' a ht),yA,h2,fun t' a ht=>by rw[h3 t' a ht];exact hk τ v' eX t' a (bC t' a ht),fun t' a ht=>?_⟩;rcases h4 t' a ht with h5|⟨h5,h6⟩
    ·exact .inl h5
    ·by_cases oP:t'=s/\a=some c
     ·obtain⟨rfl,rfl⟩:=oP;left;rw[h5,h6];simp only[bi,if_true];rw[JF hv,JF eX]
     ·right;exact⟨by rw[h5];exact hk τ v' eX t' a oP,by rw[h6];exact hk σ v hv t' a oP⟩
  ·simp[Pg.run]at h
 |.bind p f,σ,aj,τ,x,h,hr=>by
  simp only[Pg.within,Pg.run]at h⊢;cases h1:(p.within R W).run σ with
  |none=>rw[h1]at h;cases h
  |some y=>
   obtain⟨y,aZ⟩:=y;rw[h1]at h;obtain⟨a1,ur,a2,a3,a4⟩:=tI p h1 hr;have dO:∀s a,Names R s a->(ur s).at a=(aZ s).at a:=fun s a hs=>by
    by_cases hw:Names W s a
    ·rcases a4 s a hw with h5|⟨h5,h6⟩
     ·exact h5
     ·rw[h5,h6,hr s a hs]
    ·rw[a3 s a hw,a1 s a hw,hr s a hs]
   obtain⟨b1,FC,b2,b3,b4⟩:=tI (f y) h dO;refine⟨fun s a hs=>(b1 s a hs).trans (a1 s a hs),FC,by rw[a2];exact b2,fun s a hs=>(b3 s a hs).trans (a3 s a hs),fun s a hs=>?_⟩;rcases b4 s a hs with h5|⟨h5,h6⟩
   ·exact .inl h5
   ·rcases a4 s a hs with h7|⟨h7,h8⟩
    ·exact .inl (by rw[h5,h6,h7])
    ·exact .inr ⟨h5.trans h7,h6.trans h8⟩
theorem Xt {s:Nat} (a:Option Nat) (hs:s<100000):100000<=xo s a/\xo s a%100000=s:=by
 cases a with
 |none=>simp only[xo];omega
 |some c=>simp only[xo];omega
theorem Iv {a b:List Nat} (h:CJ a b=true) {x y:Nat} (hx:x∈a) (hy:y∈b):ov x y=false:=by
 unfold CJ at h;have:=eJ.1 h x hx;simp only[lC]at this;exact yT _▸(List.any_eq_false.1 this y hy)
theorem Om {a b:List Nat} (h:CJ a b=true) {s:Nat}{p:Option Nat} (hx:Names a s p):¬Names b s p:=fun hy=>by
 rcases hx with hx|⟨hs,hx⟩<;>rcases hy with hy|⟨fY,hy⟩
 ·have:=Iv h hx hy;simp[ov,Nat.beq_refl]at this
 ·have h1:=Xt p fY;have:=Iv h hx hy;unfold ov at this;have e1:Nat.ble 100000 (xo s p)=true:=Nat.ble_eq_true_of_le h1.1;have e2:Nat.blt s 100000=true:=Nat.ble_eq_true_of_le fY;rw[h1.2,e1,e2,Nat.beq_refl]at this;simp at this
 ·have h1:=Xt p hs;have:=Iv h hx hy;unfold ov at this;have e1:Nat.ble 100000 (xo s p)=true:=Nat.ble_eq_true_of_le h1.1;have e2:Nat.blt s 100000=true:=Nat.ble_eq_true_of_le hs;rw[h1.2,e1,e2,Nat.beq_refl]at this;simp at this
 ·have:=Iv h hx hy;simp[ov,Nat.beq_refl]at this
theorem Zqz {f g:List Nat×List Nat}{p q:Pg Unit}{σ aZ aX:St} (hi:indep f g=true) (hp:(p.within f.1 f.2).run σ=some ((),aZ)) (hq:(q.within g.1 g.2).run aZ=some ((),aX)):
  ∃ur,(q.within g.1 g.2).run σ=some ((),ur)/\(p.within f.1 f.2).run ur=some ((),aX):=by
 unfold indep at hi;simp only[Y8]at hi;obtain⟨⟨h1,h2⟩,h3⟩:=hi;have oK:=(tI p (τ:=σ) hp (fun _ _ _=>rfl)).1;obtain⟨mq,ur,nH,SX,hq4⟩:=tI q (τ:=σ) hq (fun s a hs=>(oK s a (fun hw=>Om h1 hw hs)).symm);obtain⟨_,FC,fk,hp3,hp4⟩:=tI p (τ:=ur) hp (fun s a hs=>SX s a (fun hw=>Om h3 hw hs));refine⟨ur,nH,?_⟩;rw[fk]
 congr 2
 funext s
 refine U6 fun a=>?_;by_cases hs:Names f.2 s a
 ·have gP:¬Names g.2 s a:=Om h2 hs;rw[mq s a gP];rcases hp4 s a hs with h5|⟨h5,h6⟩
  ·exact h5
  ·rw[h5,SX s a gP,h6]
 ·rw[hp3 s a hs];by_cases gP:Names g.2 s a
  ·rcases hq4 s a gP with h5|⟨h5,h6⟩
   ·exact h5
   ·rw[h5,h6,oK s a hs]
  ·rw[SX s a gP,mq s a gP,oK s a hs]
def rL (id:Nat) (ms:List aY) (fs:List (List Nat×List Nat)) (i:Nat):Pg Unit:=
 match ms[i]? with
 |some m=>(m.exec ((id*1000+i+1)*8)).within (fs.getD i ([],[])).1 (fs.getD i ([],[])).2
 |none=>.fail
def sS (ps:Nat->Pg Unit):List Nat->Pg Unit
 |[]=>pure ()
 |i::l=>do
  ps i
  sS ps l
theorem VV {id:Nat}{ms:List aY}{fs:List (List Nat×List Nat)} (hl:fs.length=ms.length):∀(os:List aY) (i:Nat),ms.drop i=os->xq id i os (fs.drop i)=sS (rL id ms fs) (List.range' i os.length)
 |[],i,h=>by
  have:fs.drop i=[]:=by
   have h1:=congrArg List.length h;simp only[List.length_drop,p7]at h1;exact List.drop_eq_nil_of_le (by omega)
  rw[this];rfl
 |o::os,i,h=>by
  have hi:i<ms.length:=by
   by_cases aF:i<ms.length
   ·exact aF
   ·rw[List.drop_eq_nil_of_le (by omega)]at h;cases h
  have sE:ms[i]?=some o:=by
   have:=congrArg (fun l=>l[0]?) h;simpa using this
  have sT:i<fs.length:=by omega
  have hf:fs.drop i=fs[i]::fs.drop (i+1):=List.drop_eq_getElem_cons sT;have ho:ms.drop (i+1)=os:=by rw[<-List.drop_drop,h];rfl
  rw[hf];show xq id i (o::os) ((fs[i].1,fs[i].2)::fs.drop (i+1))=sS _ (List.range' i (os.length+1));rw[List.range'_succ];simp only[xq,sS];rw[VV hl os (i+1) ho]
  congr 1
  simp[rL,sE,sT]
theorem W8 {id:Nat}{ms:List aY}{fs:List (List Nat×List Nat)}{i:Nat}:∀(l1 l2:List Nat) {σ Br:St},(∀j∈l1,indep (fs.getD j ([],[])) (fs.getD i ([],[]))=true)->
  (sS (rL id ms fs) (l1++i::l2)).run σ=some ((),Br)->∃aZ,(rL id ms fs i).run σ=some ((),aZ)/\(sS (rL id ms fs) (l1++l2)).run aZ=some ((),Br)
 |[],l2,σ,Br,hi,h=>by
  simp only[eC,sS]at h;obtain⟨_,aZ,h1,h2⟩:=aW h;exact⟨aZ,h1,h2⟩
 |j::l1,l2,σ,Br,hi,h=>by
  simp only[gf,sS]at h;obtain⟨_,aZ,h1,h2⟩:=aW h;obtain⟨aX,h3,h4⟩:=W8 l1 l2 (fun k hk=>hi k (fJ _ hk)) h2;have h5:=h1;have h6:=h3;unfold rL at h5 h6;cases hj:ms[j]? with
  |none=>simp[hj,Pg.run]at h5
  |some mj=>
   cases sE:ms[i]? with
   |none=>simp[sE,Pg.run]at h6
   |some mi=>
    simp only[hj]at h5;simp only[sE]at h6;obtain⟨ur,h7,h8⟩:=Zqz (hi j fe) h5 h6;refine⟨ur,by unfold rL;simp only[sE];exact h7,?_⟩;simp only[gf,sS];rw[run_bind];have:(rL id ms fs j).run ur=some ((),aX):=by unfold rL;simp only[hj];exact h8
    rw[this];exact h4
section
variable {X:Cx}{U:Nat->Prop}{J J':Nat}{σ aj aX:St}{a a' a2:Act}{w w' w2:World}{ow ap aU:Nat->Ow}{e:Nat}{o:Oper}
theorem VY {id i x:Nat} (hi:i<999) (h:bJ ((id*1000+i+1)*8) x):Bt id x:=by
 obtain⟨h1,h2⟩:=h;refine⟨eQ (kC 8 (by omega)) h1,iF h2 ?_⟩;rw[<-iW];exact kC 8 (by omega)
theorem Z7e {id i k x:Nat} (h:bJ ((id*1000+i+1)*8) x) (h2:bJ ((id*1000+k+1)*8) x):k=i:=by
 unfold bJ at h h2;omega
theorem W1 {id k x:Nat} (h:Bt id x) (h2:Bt k x):k=id:=by
 obtain⟨h1,h3⟩:=h;obtain⟨h4,h5⟩:=h2;rcases Nat.lt_trichotomy k id with aF|aF|aF
 ·omega
 ·exact aF
 ·omega
def rN (n:Nat) (ej:Array Bool):List Nat:=(List.range n).filter fun i=> !ej.getD i true
theorem PT {n i:Nat}{ej:Array Bool} (hn:ej.size=n) (hi:ej.getD i true=false):∃l1 l2,rN n ej=l1++i::l2/\rN n (ej.setIfInBounds i true)=l1++l2/\(∀j∈l1,j<i/\ej.getD j true=false):=by
 have kq:i<n:=by
  rcases js i n with h|h
  ·exact h
  ·rw[<-hn]at h;simp[Array.getElem?_eq_none h]at hi
 have hs:List.range n=List.range i++i::List.range' (i+1) (n-i-1):=by
  rw[List.range_eq_range',List.range_eq_range',<-List.range'_succ];have:=@List.range'_append_1 0 i (n-i-1+1);rw[db]at this;rw[this]
  congr 1;omega
 have bC:∀j,j≠i->(ej.setIfInBounds i true).getD j true=ej.getD j true:=fun j hj=>getD_set_ne true (Ne.symm hj);refine⟨(List.range i).filter fun j=> !ej.getD j true,(List.range' (i+1) (n-i-1)).filter fun j=> !ej.getD j true,?_,?_,fun j hj=>?_⟩
 ·unfold rN;rw[hs,List.filter_append,List.filter_cons_of_pos (by simp[hi])]
 ·unfold rN;rw[hs,List.filter_append,List.filter_cons_of_neg (by simp[show i<ej.size by omega])]
  congr 1
  ·exact List.filter_congr fun j hj=>by rw[bC j (by have:=mN.1 hj;omega)]
  ·exact List.filter_congr fun j hj=>by rw[bC j (by have:=List.mem_range'_1.1 hj;omega)]
 ·obtain⟨h1,h2⟩:=List.mem_filter.1 hj;exact⟨mN.1 h1,by simpa using h2⟩
def Down (c:List (List Nat)) (ej:Array Bool):Prop:=∀i,ej.getD i false=true->∀j∈c.getD i [],ej.getD j false=true
theorem OH {ej:Array Bool}{i:Nat} (h:i<ej.size):ej.getD i true=ej.getD i false:=by simp[h]
theorem Zsu (ct:X.mv=eZ) {ops:Array Oper}{Q:Exit->Act->World->Prop}{id:Nat}{ms:List aY}{fs:List (List Nat×List Nat)}{c:List (List Nat)} (hl:ms.length<999)
  (anX:ops.size=ms.length) (fE:Fh ops.toList fs c=true) (hF:∀m∈ms,∀p∈m.op.calls,ik X.P X.ae p.1 p.2) (hm:∀(j:Nat) m,ms[j]?=some m->∃o,ops[j]?=some o/\xW X.P X.ae X.n X.cO ops m o=true)
  {U0:Nat->Prop} (eA:∀x,Bt id x->¬U0 x) {Br:St} (hK:∀a' w' ap J',Rel X (fun x=>U0 x\/Bt id x) J' Br a' w' ap->Q .normal a' w'):
  ∀(mg:Nat) {ej:Array Bool}{U:Nat->Prop}{J:Nat}{σ:St}{a:Act}{w:World}{ow:Nat->Ow},Rel X U J σ a w ow->ej.size=ms.length->mg=(rN ms.length ej).length->Down c ej->
   (∀x,U x->U0 x\/∃i,ej.getD i false=true/\bJ ((id*1000+i+1)*8) x)->(sS (rL id ms fs) (rN ms.length ej)).run σ=some ((),Br)->wpAny X.P .any ops Q mg ej a w:=by
 unfold Fh at fE;simp only[Y8,beq_iff_eq,eJ,mN]at fE;obtain⟨gq,dD⟩:=fE;have auJ:ops.toList.length=ms.length:=by rw[Y4];exact anX
 have Te:∀i o,ops[i]?=some o->(∀x∈o.after,Region.binds .any x=true->x.on<i)/\(∀j∈c.getD i [],∃x∈o.after,Region.binds .any x=true/\(x.on=j\/j∈c.getD x.on []))/\
   ∀j,j<i->j∈c.getD i []\/indep (fs.getD j ([],[])) (fs.getD i ([],[]))=true:=fun i o ho=>by
  have hi:i<ops.toList.length:=by have:=(Array.getElem?_eq_some_iff.1 ho).1;simpa using this
  obtain⟨h1,h2⟩:=dD i hi;have SJ:ops.toList[i]?=some o:=by simpa using ho
  simp only[SJ,Y8,eJ,pW,lC,decide_eq_true_eq]at h1;refine⟨fun x hx hb=>?_,fun j hj=>?_,fun j hj=>?_⟩
  ·rcases h1.1 x (by simpa using hx) with h|h
   ·rw[hb]at h;cases h
   ·exact h
  ·have:=h1.2 j hj;rw[qN]at this;obtain⟨x,hx,h3⟩:=this;simp only[Y8,pW,beq_iff_eq]at h3;exact⟨x,by simpa using hx,h3.1,h3.2.imp (fun h=>h) (by simp)⟩
  ·rcases Bool.or_eq_true_iff.1 (h2 j hj) with h|h
   ·exact .inl (by simpa using h)
   ·exact .inr h
 have aog:∀{ej:Array Bool}{i:Nat},ej.size=ms.length->i∈Region.ready .any ops ej->Down c ej->∀j∈c.getD i [],ej.getD j false=true:=fun{ej i} dW hi hd j hj=>by
  obtain⟨h1,o,ho,h2⟩:=mem_ready.1 hi;obtain⟨x,hx,hb,h3⟩:=(Te i o ho).2.1 j hj;have h4:=h2 x hx hb;rcases h3 with h3|h3
  ·rw[<-h3];exact h4
  ·exact hd x.on h4 j h3
 intro mg
 induction mg with
 |zero=>
  intro ej U J σ a w ow h dW hf hd hU aq;have sF:rN ms.length ej=[]:=iY.1 hf.symm;rw[sF]at aq;obtain⟨_,rfl⟩:=bS aq;refine⟨?_,hK _ _ _ _ (h.mono (fun x hx=>?_) (Nat.le_refl _))⟩
  ·cases hr:Region.ready .any ops ej with
   |nil=>rfl
   |cons i l=>
    have hi:i∈Region.ready .any ops ej:=by rw[hr];exact fe
    obtain⟨h1,o,ho,h2⟩:=mem_ready.1 hi;obtain⟨l1,l2,h3,_⟩:=PT dW h1;rw[sF]at h3;simp at h3
  ·rcases hU x hx with h1|⟨i,h1,h2⟩
   ·exact .inl h1
   ·right;have hi:i<ms.length:=by
     rcases js i ej.size with h|h
     ·omega
     ·simp[Array.getElem?_eq_none h]at h1
    exact VY (by omega) h2
 |succ mg ih=>
  intro ej U J σ a w ow h dW hf hd hU aq;refine⟨fun hr=>?_,fun i hi=>?_⟩
  ·-- the first atG is not ej is ready
   exfalso;cases hu:rN ms.length ej with
   |nil=>rw[hu]at hf;simp at hf
   |cons i0 l=>
    have Sy:i0∈rN ms.length ej:=by rw[hu];exact fe
    obtain⟨h1,h2⟩:=List.mem_filter.1 Sy;have tP:ej.getD i0 true=false:=by simpa using h2
    have xB:i0<ms.length:=mN.1 h1;have Gz:∀j,j<i0->ej.getD j false=true:=fun j hj=>by
     cases hb:ej.getD j false with
     |true=>rfl
     |false=>
      have hjt:ej.getD j true=false:=by rw[OH (by omega)];exact hb
      obtain⟨m1,m2,h3,_,h4⟩:=PT dW hjt;rw[hu]at h3;cases m1 with
      |nil=>simp at h3;omega
      |cons x m1=>
       simp only[gf,fq]at h3;have:=(h4 x fe).1;omega
    have u0:ops[i0]?=some ops[i0]:=Array.getElem?_eq_getElem (by omega);have:i0∈Region.ready .any ops ej:=mem_ready.2 ⟨tP,ops[i0],u0,fun x hx hb=>Gz _ ((Te i0 _ u0).1 x hx hb)⟩;rw[hr]at this;cases this
  ·obtain⟨h1,o,ho,h2⟩:=mem_ready.1 hi;obtain⟨l1,l2,h3,h4,h5⟩:=PT dW h1;have dV:=aog dW hi hd;rw[h3]at aq;obtain⟨aZ,h6,h7⟩:=W8 l1 l2 (fun j hj=>by
    obtain⟨h8,h9⟩:=h5 j hj;rcases(Te i o ho).2.2 j h8 with eU|eU
    ·have:=dV j eU;have hjs:j<ej.size:=by
      rcases js j ej.size with h|h
      ·exact h
      ·simp[Array.getElem?_eq_none h]at this
     rw[OH hjs]at h9;rw[this]at h9;cases h9
    ·exact eU) aq
   have h8:=h6;unfold rL at h8;cases sE:ms[i]? with
   |none=>simp[sE,Pg.run]at h8
   |some m=>
    simp only[sE]at h8;obtain⟨o',SJ,SG⟩:=hm i m sE;have lT:i<ms.length:=(bt.1 sE).1;have hif:ej.getD i false=false:=by rw[<-OH (by omega)];exact h1
    refine Xp h ct (fun x hx hUx=>?_) (hF m (cS sE)) SJ SG (xh _ h8) _ Q (fun a' w' ap J' sH=>?_)
    ·rcases hU x hUx with h9|⟨k,h9,eU⟩
     ·exact eA x (VY (by omega) hx) h9
     ·have:k=i:=Z7e hx eU;subst this;rw[hif]at h9;cases h9
    ·refine ih sH (by simp[dW]) ?_ ?_ ?_ (by rw[h4];exact h7)
     ·rw[h4];rw[h3]at hf;simp at hf⊢;omega
     ·intro k hk j hj;by_cases te:k=i
      ·subst te;exact getD_set_true (dV j hj)
      ·rw[getD_set_ne false (Ne.symm te)]at hk;exact getD_set_true (hd k hk j hj)
     ·intro x hx;rcases hx with hx|hx
      ·rcases hU x hx with h9|⟨k,h9,eU⟩
       ·exact .inl h9
       ·exact .inr ⟨k,getD_set_true h9,eU⟩
      ·refine .inr ⟨i,?_,hx⟩;simp[show i<ej.size by omega]
theorem Z4v (h:Rel X U J σ a w ow) (n:Nat):Rel X U J σ a {w with drawn:=n} ow:=by
 have:=zF (dst:=none) (av:=.u) (v:=undef) (w':={w with drawn:=n}) (ap:=ow) (J':=J) h (U':=U) (fun x hx=>hx) ⟨fun b hb=>⟨hb,rfl⟩,fun b s q _ hb=>⟨hb,rfl⟩,h.low,h.dw,Nat.le_refl _,fun b _ hb=>⟨hb,rfl⟩,rfl,rfl⟩ (fun d hd=>by cases hd) trivial (fun c hc=>by simp[AV.rc]at hc) (fun d hd=>by cases hd);exact this.1
theorem Z4u (ct:X.mv=eZ) (qv:X.P.follows .mixedOrders=true) {id:Nat}{ms:List aY}{ops:Array Oper}{fs:List (List Nat×List Nat)}{s:Sg}{aj:St} (hg:Good X s a w) (vF:id∉s.us) (hl:ms.length<999) (hm:wa X.P X.ae X.n X.cO ops ms ops.toList=true)
  (fE:Fh ops.toList fs (PZ ops.toList [])=true)
  (hF:∀m∈ms,∀p∈m.op.calls,ik X.P X.ae p.1 p.2) (aq:(xq id 0 ms fs).run s.σ=some ((),aj)) {Q:Exit->Act->World->Prop} (hK:∀a' w',Good X ⟨aj,id::s.us⟩ a' w'->Q .normal a' w'):
  (Code.region id ops true).wp X.P Q a w:=by
 obtain⟨U,J,ow,hr,hf⟩:=hg.out;obtain⟨hlen,gu⟩:=O7 hm;have rz:ops.size=ms.length:=by rw[hlen,Y4]
 have gq:fs.length=ms.length:=by
  have:=fE;unfold Fh at this;simp only[Y8,beq_iff_eq]at this;rw[this.1,<-hlen]
 refine wp_region_any qv ?_;have hu:rN ms.length (Array.replicate ms.length false)=List.range' 0 ms.length:=by
  unfold rN;rw[List.filter_eq_self.2,List.range_eq_range'];intro i hi;have:=mN.1 hi;simp[this]
 have vR:(sS (rL id ms fs) (rN ms.length (Array.replicate ms.length false))).run s.σ=some ((),aj):=by
  rw[hu,<-VV gq ms 0 rfl];exact aq
 rw[rz];refine Zsu ct hl rz fE hF (fun j m hj=>?_) (U0:=U) (fun x hx=>hf id vF x hx) (fun a' w' ap J' sH=>hK a' w' ⟨_,J',ap,sH,fun jJ AE x hx hU=>?_⟩) ms.length (Z4v hr _) (by simp) ?_ ?_ (fun x hx=>.inl hx) vR
 ·obtain⟨o,h1,h2⟩:=gu j m hj;exact⟨o,by simpa using h1,h2⟩
 ·simp only[iG,not_or]at AE;rcases hU with hU|hU
  ·exact hf jJ AE.2 x hx hU
  ·exact AE.1 (W1 hU hx)
 ·rw[hu];simp
 ·intro i hi;rcases js i ms.length with h|h<;>simp[h]at hi
end
section
variable {X:Cx}{a a':Act}{w w':World}
theorem Zdi (p:Nat->Prop) {n:Nat} (h:p n):∃m,p m/\∀k,p k->m<=k:=by
 induction n using Nat.strongRecOn with
 |_ n ih=>
  by_cases hx:∃k,k<n/\p k
  ·obtain⟨k,hk,hp⟩:=hx;exact ih k hk hp
  ·exact⟨n,h,fun k hk=>Nat.le_of_not_lt fun aF=>hx ⟨k,aF,hk⟩⟩
open Classical in
noncomputable def least (p:Nat->Prop):Nat:=if h:∃m,p m/\∀k,p k->m<=k then h.choose else 0
theorem WN {p:Nat->Prop}{n:Nat} (h:p n):p (least p)/\∀k,p k->least p<=k:=by
 have:=Zdi p h;unfold least;rw[dif_pos this];exact this.choose_spec
theorem wX (ct:X.mv=eZ) (qv:X.P.follows .mixedOrders=true):∀(m:eB) (c:Code) {s s':Sg}{ex:Ex}{a:Act}{w:World}{Q:Exit->Act->World->Prop},lL X.P X.ae X.n X.cO m c=true->(∀p∈m.calls,ik X.P X.ae p.1 p.2)->
  Good X s a w->den m s=some (ex,s')->(∀a' w',Good X s' a' w'->Q ex.alR a' w')->c.wp X.P Q a w
 |.sk,c,s,s',ex,a,w,Q,hc,hF,hg,hd,hK=>by
  cases c<;>try simp only[lL,cX]at hc
  simp only[den,aR,di]at hd;obtain⟨rfl,rfl⟩:=hd;exact wp_skip (hK _ _ hg)
 |.sR id none ms,c,s,s',ex,a,w,Q,hc,hF,hg,hd,hK=>by
  cases c<;>try simp only[lL,cX]at hc
  rename_i jJ ops dr;cases dr<;>simp only[lL,cX]at hc;simp only[Y8,beq_iff_eq,decide_eq_true_eq]at hc;obtain⟨⟨rfl,hl⟩,hm⟩:=hc;simp only[den]at hd;split at hd
  ·cases hd
  ·rename_i vF;split at hd
   ·rename_i u aj aq;simp only[aR,di]at hd;obtain⟨rfl,rfl⟩:=hd;exact Zk1 ct hg (by simpa using vF) hl hm (fun m oI p hp=>hF p (uE.2 ⟨m,oI,hp⟩)) aq hK
   ·cases hd
 |.sR id (some fs) ms,c,s,s',ex,a,w,Q,hc,hF,hg,hd,hK=>by
  cases c<;>try simp only[lL,cX]at hc
  rename_i jJ ops dr;cases dr<;>simp only[lL,cX]at hc;simp only[Y8,beq_iff_eq,decide_eq_true_eq]at hc;obtain⟨⟨⟨rfl,hl⟩,hm⟩,fE⟩:=hc;simp only[den]at hd;split at hd
  ·cases hd
  ·rename_i vF;split at hd
   ·rename_i u aj aq;simp only[aR,di]at hd;obtain⟨rfl,rfl⟩:=hd;exact Z4u ct qv hg (by simpa using vF) hl hm fE (fun m oI p hp=>hF p (uE.2 ⟨m,oI,hp⟩)) aq hK
   ·cases hd
 |.seq x y,c,s,s',ex,a,w,Q,hc,hF,hg,hd,hK=>by
  cases c<;>simp only[lL,cX]at hc;simp only[Y8]at hc;simp only[den]at hd;cases hx:den x s with
  |none=>simp[hx]at hd
  |some r=>
   obtain⟨Fi,s1⟩:=r;refine wp_seq (wX ct qv x _ hc.1 (fun p hp=>hF p (pf _ hp)) hg hx fun a1 w1 eH=>?_);cases Fi with
   |nx=>
    simp only[hx]at hd;exact wX ct qv y _ hc.2 (fun p hp=>hF p (nX _ hp)) eH hd hK
   |exit id=>
    simp only[hx,aR,di]at hd;obtain⟨rfl,rfl⟩:=hd;exact hK _ _ eH
   |ret=>
    simp only[hx,aR,di]at hd;obtain⟨rfl,rfl⟩:=hd;exact hK _ _ eH
 |.cond o x y,c,s,s',ex,a,w,Q,hc,hF,hg,hd,hK=>by
  cases c<;>simp only[lL,cX]at hc;rename_i o' cx cy;simp only[Y8]at hc;simp only[den]at hd;obtain⟨U,J,ow,hr,hf⟩:=hg.out;split at hd
  ·rename_i t aZ aq;obtain⟨_,cj⟩:=kn hr hc.1.1 aq;have hv:a.eval o'=.bool t:=by simpa[fw,ay]using cj
   refine wp_cond hv ?_;cases t with
   |true=>exact wX ct qv x _ hc.1.2 (fun p hp=>hF p (pf _ hp)) hg hd hK
   |false=>exact wX ct qv y _ hc.2 (fun p hp=>hF p (nX _ hp)) hg hd hK
  ·cases hd
 |.aO id x,c,s,s',ex,a,w,Q,hc,hF,hg,hd,hK=>by
  cases c<;>simp only[lL,cX]at hc;simp only[Y8,beq_iff_eq]at hc;obtain⟨rfl,hc⟩:=hc;simp only[den]at hd;cases hx:den x s with
  |none=>simp[hx]at hd
  |some r=>
   obtain⟨Fi,s1⟩:=r;refine wp_block (wX ct qv x _ hc hF hg hx fun a1 w1 eH=>?_);cases Fi with
   |nx=>
    simp only[hx,aR,di]at hd;obtain⟨rfl,rfl⟩:=hd;exact hK _ _ eH
   |exit id2=>
    simp only[hx]at hd;show Exit.inBlock id Q (.exit id2) a1 w1;simp only[Exit.inBlock];split at hd
    ·rename_i he;simp only[aR,di]at hd;obtain⟨rfl,rfl⟩:=hd;rw[if_pos he];exact hK _ _ eH
    ·rename_i he;simp only[aR,di]at hd;obtain⟨rfl,rfl⟩:=hd;rw[if_neg he];exact hK _ _ eH
   |ret=>
    simp only[hx,aR,di]at hd;obtain⟨rfl,rfl⟩:=hd;exact hK _ _ eH
 |.loop bY x,c,s,s',ex,a,w,Q,hc,hF,hg,hd,hK=>by
  cases c<;>simp only[lL,cX]at hc;rename_i cx;simp only[den,rounds]at hd;split at hd
  ·rename_i hex;generalize hex.choose=n at hd;refine wp_loop (fun a w=>∃n s,Good X s a w/\iter (fun s=>den x ⟨gy bY s.σ,[]⟩) n s=some (ex,s')) (fun a w=>least fun n=>∃s,Good X s a w/\iter (fun s=>den x ⟨gy bY s.σ,[]⟩) n s=some (ex,s')) ⟨n,s,hg,hd⟩ ?_;rintro a1 w1 ⟨n1,s1,eH,nF⟩;obtain⟨⟨s2,fp,kp⟩,Gz⟩:=WN (p:=fun n=>∃s,Good X s a1 w1/\iter (fun s=>den x ⟨gy bY s.σ,[]⟩) n s=some (ex,s')) ⟨s1,eH,nF⟩;generalize hm:least (fun n=>∃s,Good X s a1 w1/\iter (fun s=>den x ⟨gy bY s.σ,[]⟩) n s=some (ex,s'))=m at kp Gz;cases m with
   |zero=>simp[iter]at kp
   |succ m=>
    rw[Zcp]at kp;cases hx:den x ⟨gy bY s2.σ,[]⟩ with
    |none=>simp[hx]at kp
    |some r=>
     obtain⟨Fi,s3⟩:=r;refine wX ct qv x _ hc hF (fp.gy bY) hx fun a3 w3 ru=>?_;cases Fi with
     |nx=>
      simp only[hx]at kp;refine⟨⟨m,s3,ru,kp⟩,?_⟩;have:=(WN (p:=fun n=>∃s,Good X s a3 w3/\iter (fun s=>den x ⟨gy bY s.σ,[]⟩) n s=some (ex,s')) ⟨s3,ru,kp⟩).2 m ⟨s3,ru,kp⟩;omega
     |exit id=>
      simp only[hx,aR,di]at kp;obtain⟨rfl,rfl⟩:=kp;exact hK _ _ ru
     |ret=>
      simp only[hx,aR,di]at kp;obtain⟨rfl,rfl⟩:=kp;exact hK _ _ ru
  ·cases hd
 |.exit id,c,s,s',ex,a,w,Q,hc,hF,hg,hd,hK=>by
  cases c<;>simp only[lL,cX]at hc;simp only[beq_iff_eq]at hc;subst hc;simp only[den,aR,di]at hd;obtain⟨rfl,rfl⟩:=hd;exact wp_exit (hK _ _ hg)
 |.ret,c,s,s',ex,a,w,Q,hc,hF,hg,hd,hK=>by
  cases c<;>simp only[lL,cX]at hc;simp only[den,aR,di]at hd;obtain⟨rfl,rfl⟩:=hd;exact wp_ret (hK _ _ hg)
 |.bad,c,s,s',ex,a,w,Q,hc,hF,hg,hd,hK=>by simp[den]at hd
end
def lp (ow:Nat->Ow):Nat->Ow:=fun b=>match ow b with|.own (.ar i) q=>.own (.sl i) q|o=>o
theorem Ws:∀(as:List Arg) (i:Nat) (σ:St) (s:Nat),pB i as σ s=match as[s-i]? with|some x=>if i<=s then x.av s else σ s|none=>σ s
 |[],i,σ,s=>by simp[pB]
 |x::as,i,σ,s=>by
  simp only[pB];rw[Ws as (i+1)];by_cases h1:s<i
  ·have h2:s-i=0:=by omega
   have h3:s-(i+1)=0:=by omega
   rw[h2,h3];simp only[kE,if_neg (by omega:¬i<=s)];cases as with
   |nil=>simp[bi,mM h1]
   |cons y ys=>simp[bi,mM h1];omega
  ·by_cases h2:s=i
   ·subst h2;rw[Nat.sub_self];simp only[kE,if_pos (Nat.le_refl s)];have h3:s-(s+1)=0:=by omega
    rw[h3];cases as with
    |nil=>simp[bi]
    |cons y ys=>simp[bi];omega
   ·have h3:s-i=(s-(i+1))+1:=by omega
    rw[h3,wN];cases h4:as[s-(i+1)]? with
    |none=>simp[bi,h2]
    |some y=>simp only[if_pos (by omega:i+1<=s),if_pos (by omega:i<=s)]
section
variable {w:World}{ow:Nat->Ow}
theorem zh:Zs w ow w (lp ow):=fun b hb=>⟨by simp[lp,hb],rfl⟩
theorem B6 {b i:Nat}{q:List Nat} (hb:ow b=.own (.ar i) q):lp ow b=.own (.sl i) q:=by simp[lp,hb]
theorem IS {as:List Arg}{s:Nat}:pB 0 as (fun _=>.u) s=match as[s]? with|some x=>x.av s|none=>.u:=by
 rw[Ws,Nat.sub_zero];cases as[s]?<;>simp
theorem Wq (X:Cx) (ct:X.mv=eZ) {as:List Arg}{vs:List Value} (hl:vs.length=as.length) (hn:as.length<=X.n) (my:X.n<=1000) (K7:X.w0=w) (AN:X.ga=lp ow) (kY:X.args=vs.toArray)
  (aoa:∀i∈X.cO,i<as.length) (hA:∀(i:Nat) x v,as[i]?=some x->vs[i]?=some v->oZ X.ae w ow i x v) (dl:∀b,ow b≠.no->b<w.heap.size) (j3:∀b r q,ow b=.own r q->∃i,r=.ar i/\i<as.length)
  (Gn:∀(i:Nat) g,as[i]?=some (.fb g)->∃u,vs[0]?=some u/\vs[i]?=some (.func (.func (X.ae g)) #[] #[u])) (Ay:∀(i:Nat) g,as[i]?=some (.fb g)->∃cs,as[0]?=some (.bx cs))
  (gN:∀(i:Nat) t,as[i]?=some (.own t)->∃sz es,t=.l .y sz es):
  Rel X (fun x=>x=0) 0 (pB 0 as fun _=>.u) {tmps:=vs.toArray++Array.replicate (X.n-vs.toArray.size) undef,defers:=[]} w (lp ow):=by
 have cC:∀(s:Nat) v,vs[s]?=some v->bL {tmps:=vs.toArray++Array.replicate (X.n-vs.toArray.size) undef,defers:=[]} s=v:=fun s v hv=>by
  have hs:=(bt.1 hv).1;unfold bL;rw[if_pos (by omega)];simp only[Array.getD_eq_getD_getElem?];rw[Array.getElem?_append_left (by simpa using hs)];simp[hv]
 refine⟨by simp[hl];omega,my,rfl,fun s=>?_,fun s=>?_,fun b hb=>dl b fun e=>hb (by simp[lp,e]),fun b i q hb=>?_,by rw[K7];exact Nat.le_refl _,fun b hb hr=>⟨by rw[K7],by rw[AN]⟩,by rw[K7],by rw[K7],fun i hi=>?_,fun s hs hu=>?_⟩
 ·rw[IS];cases hx:as[s]? with
  |none=>trivial
  |some x=>
   have hs:=(bt.1 hx).1;have hv:vs[s]?=some vs[s]:=bF (by omega);rw[cC s _ hv];have ha:=hA s x _ hx hv;cases x with
   |fb g=>
    obtain⟨u,hu,bP⟩:=Gn s g hx;obtain⟨cs,h0⟩:=Ay s g hx;rw[hv]at bP;obtain⟨b,aG,ty,fr,e1,_⟩:=hA 0 _ u h0 hu;refine⟨u,Option.some.inj bP,⟨b,0,e1⟩,fun c hc _ bo eF=>?_⟩;have cN:c=⟨true,⟨0,0,0⟩,.a cs⟩:=by
     rw[IS,h0]at hc;exact(Option.some.inj hc).symm
    subst cN;rw[cC 0 u hu,e1]at eF;have:bo=(b,0):=(Option.some.inj (show some (b,0)=some bo from eF)).symm;rw[this,e1]
   |x t=>
    show ay X.ae X.mv w (lp ow) none t [vs[s]];rw[ct];exact cB zh t (c:=none) (c':=none) trivial ha
   |bx cs=>
    obtain⟨b,aG,ty,fr,e1,e2,e3,e4,e5⟩:=ha;refine⟨b,aG,ty,fr,e1,B6 e2,e3,e4,?_⟩;rw[ct];exact lG zh cs (c:=some (.ar s,[])) (c':=some (.sl s,[])) (fun b q hb=>⟨B6 hb,rfl⟩) e5
   |own t=>
    obtain⟨sz,es,rfl⟩:=gN s t hx;refine⟨⟨_,_,_,rfl,rfl⟩,?_⟩;rw[ct];exact cB zh _ (c:=some (.ar s,[])) (c':=some (.sl s,[])) (fun b q hb=>⟨B6 hb,rfl⟩) ha
   |st cs=>
    obtain⟨vv,e1,e2⟩:=ha;refine⟨vv,e1,td _ 0 vv.toList (by rw[ol e2];simp) fun j c u h1 h2=>?_⟩;rw[iX]at h1;obtain⟨t,ht,rfl⟩:=jm.1 h1;obtain⟨u',h3,h4⟩:=kT e2 ht;rw[h2]at h3;cases h3;show ay X.ae X.mv w (lp ow) _ t [u];rw[ct];exact cB zh t (c:=none) trivial h4
   |mu t=>
    obtain⟨⟨sz,es,rfl⟩,ha⟩:=ha;refine⟨⟨_,_,_,rfl,rfl⟩,?_⟩;rw[ct];exact cB zh _ (c:=some (.ar s,[])) (c':=some (.sl s,[])) (fun b q hb=>⟨B6 hb,rfl⟩) ha
   |os cs=>
    obtain⟨vv,e1,e2⟩:=ha;refine⟨vv,e1,td _ 0 vv.toList (by rw[ol e2];simp) fun j c u h1 h2=>?_⟩;rw[iX]at h1;obtain⟨t,ht,rfl⟩:=jm.1 h1;obtain⟨u',h3,h4⟩:=kT e2 ht;rw[h2]at h3;cases h3;show ay X.ae X.mv w (lp ow) _ t [u];rw[ct];exact cB zh t (c:=some (.ar s,[0+j])) (c':=some (.sl s,[0+j])) (fun b q hb=>⟨B6 hb,rfl⟩) h4
   |ms cs=>
    obtain⟨vv,e1,e2⟩:=ha;refine⟨vv,e1,td _ 0 vv.toList (by rw[ol e2];simp) fun j c u h1 h2=>?_⟩;rw[iX]at h1;obtain⟨t,ht,rfl⟩:=jm.1 h1;obtain⟨u',h3,h4⟩:=kT e2 ht;rw[h2]at h3;cases h3;show ay X.ae X.mv w (lp ow) _ t [u];rw[ct];exact cB zh t (c:=some (.ar s,[0+j])) (c':=some (.sl s,[0+j])) (fun b q hb=>⟨B6 hb,rfl⟩) h4
 ·rw[IS];cases hx:as[s]? with
  |none=>trivial
  |some x=>
   cases x with
   |x t=>trivial
   |fb g=>exact⟨rfl,rfl,rfl⟩
   |bx cs=>exact⟨rfl,rfl,rfl⟩
   |own t=>exact⟨rfl,rfl,rfl⟩
   |st cs=>
    intro c hc;obtain⟨t,_,rfl⟩:=jt.1 hc
    trivial
   |mu t=>exact⟨rfl,rfl,rfl⟩
   |ms cs=>
    intro c hc;obtain⟨t,_,rfl⟩:=jt.1 hc
    trivial
   |os cs=>
    intro c hc;obtain⟨t,_,rfl⟩:=jt.1 hc
    trivial
 ·unfold lp at hb;cases ho:ow b with
  |no=>simp[ho]at hb
  |z=>simp[ho]at hb
  |own r q'=>
   obtain⟨j,rfl,_⟩:=j3 b r q' ho;simp[ho]at hb
 ·rw[kY];have:=aoa i hi;rw[Array.getElem?_append_left (by simp;omega)]
 ·rw[IS]at hu;have:as[s]?=none:=pe (by omega);rw[this]at hu;exact absurd rfl hu
end
section
variable {X:Cx}{U:Nat->Prop}{J J':Nat}{σ aj aX:St}{a a' a2:Act}{w w' w2:World}{ow ap aU:Nat->Ow}{e:Nat}{o:Oper}
def ago (X:Cx) (w:World) (ow:Nat->Ow) (lo hi:Nat) (ix:Nat->Nat) (r:RV) (v:Value):Prop:=
 match r with
 |.one t=>mH X w ow lo hi [t] [v] ix
 |.st cs=>∃vs:Array Value,v=.agg vs/\mH X w ow lo hi cs vs.toList ix
 |.bx cs=>lo<=ix 0/\ix 0<hi/\mI X.ae X.mv w ow (.ar (ix 0)) cs v
def ya (P:Program):wF->ResultVar->Bool
 |.tmp s,.tmp t=>s==t&&decide (s<1000)
 |.cell s none,.cell b t=>s==b&&decide (s<1000)&&pp P t false
 |.cell s (some n),.cell b t=>s==b&&decide (s<1000)&&pp P t true&&nj P t n
 |_,_=>false
def wh (tmps:Array Value):ResultVar->Sem Value
 |.tmp t=>pure (tmps.getD t undef)
 |.cell b t=>do loadVar t (<-asAddr (tmps.getD b undef))
theorem Y0 (h:Rel X U J σ a w ow) {s:Nat}{k:K}{cs:List T} (aV:σ s=.box k cs):∃ap b aG ty fr,bL a s=.pointer (some ⟨b,0,none⟩)/\w.heap[b]?=some (.cells aG ty fr)/\
  Gh X U J (J+cs.length) σ a w ow (bi σ s .u) ap/\mH X w ap J (J+cs.length) cs aG.toList (fun j=>J+j):=by
 have hs:=h.slot s;rw[aV]at hs;obtain⟨b,aG,ty,fr,e1,e2,e3,e4,e5⟩:=hs;have hz:Zs w ow w (jc ow s J cs.length):=fun b hb=>⟨by simp[jc,hb],rfl⟩
 have hg:=qT (J':=J+cs.length) (v':=.u) (ap:=jc ow s J cs.length) h (r:=s) (by simp[cK]) (by simp[AV.stamps]) hz (fun b r' q hr hb=>by
   unfold jc;rw[hb];cases r' with
   |sl y=>simp only;rw[if_neg (fun e=>hr (by rw[e]))]
   |ar y=>rfl
   |rs y=>rfl) (fun b hb=>by simp[jc,hb]) (fun b i q hb=>by
   unfold jc at hb;cases dq:ow b with
   |no=>simp[dq]at hb
   |z=>simp[dq]at hb
   |own r' q'=>
    rw[dq]at hb;cases r' with
    |sl y=>
     simp only at hb;split at hb
     ·split at hb
      ·split at hb
       ·simp at hb;omega
       ·cases hb
      ·cases hb
     ·cases hb
    |ar y=>have:=h.dw b y q' dq;simp at hb;omega
    |rs y=>cases hb) (dn.fresh fun c' cN=>by simp[bi,AV.rc]at cN) (by rw[aV];simp) (fun n=>by rw[aV];simp)
 refine⟨jc ow s J cs.length,b,aG,ty,fr,e1,e3,⟨hg.1,hz,fun b i q _ hb=>by simp[jc,hb],hg.2⟩,⟨ol e5,fun j t v ht hv=>?_,fun j hj=>⟨by omega,by omega⟩,fun i j _ _ e=>by omega⟩⟩;obtain⟨u,h1,h2⟩:=kT e5 ht;rw[hv]at h1;cases h1;have iA:=(bt.1 ht).1;rw[db]at h2;exact cB hz t (c:=some (.sl s,[j])) (fun b q hb=>⟨by simp only[gf,eC]at hb;simp[jc,hb,iA],rfl⟩) h2
theorem Vh (h:Rel X U J σ a w ow) {s:Nat}{k:K}{cs:List T} (aV:σ s=.box k cs):∃ap,Gh X U J (J+1) σ a w ow (bi σ s .u) ap/\mI X.ae X.mv w ap (.ar J) cs (bL a s):=by
 have hs:=h.slot s;rw[aV]at hs;have hz:Zs w ow w (jb ow s J):=fun b hb=>⟨by simp[jb,hb],rfl⟩
 have hg:=qT (J':=J+1) (v':=.u) (ap:=jb ow s J) h (r:=s) (by simp[cK]) (by simp[AV.stamps]) hz (fun b r' q hr hb=>by
   unfold jb;rw[hb];cases r' with
   |sl y=>simp only;rw[if_neg (fun e=>hr (by rw[e]))]
   |ar y=>rfl
   |rs y=>rfl) (fun b hb=>by simp[jb,hb]) (fun b i q hb=>by
   unfold jb at hb;cases dq:ow b with
   |no=>simp[dq]at hb
   |z=>simp[dq]at hb
   |own r' q'=>
    rw[dq]at hb;cases r' with
    |sl y=>
     simp only at hb;split at hb
     ·simp at hb;omega
     ·cases hb
    |ar y=>have:=h.dw b y q' dq;simp at hb;omega
    |rs y=>cases hb) (dn.fresh fun c' cN=>by simp[bi,AV.rc]at cN) (by rw[aV];simp) (fun n=>by rw[aV];simp)
 exact⟨jb ow s J,⟨hg.1,hz,fun b i q _ hb=>by simp[jb,hb],hg.2⟩,mI.tr hz (fun b q hb=>⟨by simp only[eC]at hb;simp[jb,hb],rfl⟩) hs⟩
theorem Zlg (h:Rel X U J σ a w ow) {x:wF}{y:ResultVar} (hx:ya X.P x y=true) {r:RV} (aq:(LX x).run σ=some (r,aj)):
  ∃v J' ap ix,J<=J'/\Gh X U J J' σ a w ow aj ap/\(wh a.tmps y).run X.P w=.ok v w/\ago X w ap J J' ix r v:=by
 cases x with
 |tmp s=>
  cases y<;>simp only[ya,cX,Y8,beq_iff_eq,decide_eq_true_eq]at hx;obtain⟨rfl,dL⟩:=hx;simp only[LX]at aq;obtain⟨v0,aZ,h1,h2⟩:=aW aq;obtain⟨rfl,rfl⟩:=jv h1;have qy:(wh a.tmps (.tmp s)).run X.P w=.ok (bL a s) w:=by
   unfold bL;rw[if_pos dL];rfl
  by_cases rq:∃k cs,aZ s=.box k cs
  ·obtain⟨k,cs,aV⟩:=rq;rw[aV]at h2;obtain⟨ap,hg,hb⟩:=Vh h aV;have tP:some (RV.bx cs,bi aZ s .u)=some (r,aj):=h2;simp only[aR,di]at tP;obtain⟨rfl,rfl⟩:=tP;exact⟨_,J+1,ap,fun _=>J,by omega,hg,qy,Nat.le_refl J,Nat.lt_succ_self J,hb⟩
  by_cases Dj:∃r k,aZ s=.ptr r k [] 0
  ·obtain⟨n,k,aV⟩:=Dj;have hs:=h.slot s;rw[aV]at h2 hs;obtain⟨v1,iU,h5,h6⟩:=aW h2;obtain⟨rfl,rfl⟩:=jv h5;cases hn:iU n<;>rw[hn]at h6<;>try simp only[Pg.run,reduceCtorEq]at h6
   rename_i kk cs;split at h6
   ·rename_i hk;have o4:some (RV.bx cs,bi iU n .u)=some (r,aj):=h6;simp only[aR,di]at o4;obtain⟨rfl,rfl⟩:=o4;obtain⟨ap,hg,hb⟩:=Vh h hn;have u7:=h.slot n;rw[hn]at u7;obtain⟨b,aG,ty,fr,e1,e2,e3,e4,e5⟩:=u7;have hv:=hs.2 ⟨true,kk,.a cs⟩ (by rw[hn];rfl) (by simp[K.ok,j8,hk]) (b,0) (by rw[e1];rfl);have cC:bL a s=bL a n:=by rw[hv,e1]
    exact⟨_,J+1,ap,fun _=>J,by omega,hg,qy,Nat.le_refl J,Nat.lt_succ_self J,by rw[cC];exact hb⟩
   ·simp[Pg.run]at h6
  have h2:(do let ts <-gJ 0 true (.t s);match aZ s,ts with|.st _,ts=>pure (.st ts)|_,[t]=>pure (.one t)|_,_=>.fail:Pg RV).run aZ=some (r,aj):=by
   cases aV:aZ s<;>rw[aV]at h2
   case box k cs=>exact absurd ⟨k,cs,aV⟩ rq
   case ptr n k p off=>
    match p,off,aV,h2 with
    |[],0,aV,_=>exact absurd ⟨n,k,aV⟩ Dj
    |[],_+1,_,h2=>exact h2
    |_::_,_,_,h2=>exact h2
   all_goals exact h2
  obtain⟨ts,aX,h3,h4⟩:=aW h2;obtain⟨J',ap,ix,hJ,hg,cT⟩:=uM h (x:=.t s) (o:=.tmp s) (by simp[aL.is,dL]) h3;have sA:a.eval (.tmp s)=bL a s:=tf dL;rw[sA]at cT;have hs:=h.slot s;by_cases bD:∃cs,aZ s=.st cs
  ·obtain⟨cs,aV⟩:=bD;rw[aV]at h4 hs;obtain⟨rfl,rfl⟩:=bS h4;obtain⟨vs,hv,_⟩:=hs;refine⟨_,J',ap,ix,hJ,hg,qy,vs,hv,?_⟩;rw[hv]at cT;exact cT
  ·have h5:∃t,ts=[t]/\r=.one t/\aj=aX:=by
    cases aV:aZ s<;>rw[aV]at h4
    case st cs=>exact absurd ⟨cs,aV⟩ bD
    all_goals
     match ts,h4 with
     |[t],h4=>obtain⟨rfl,rfl⟩:=bS h4;exact⟨t,rfl,rfl,rfl⟩
     |[],h4=>simp[Pg.run]at h4
     |_::_::_,h4=>simp[Pg.run]at h4
   obtain⟨t,rfl,rfl,rfl⟩:=h5;refine⟨_,J',ap,ix,hJ,hg,qy,?_⟩;have gL:oT (bL a s)=true:=by
    have h6:=h3;unfold gJ at h6;obtain⟨v1,iU,h7,h8⟩:=aW h6;simp only[raw]at h7;obtain⟨rfl,rfl⟩:=jv h7;cases aV:iU s<;>rw[aV]at h8 hs<;>try simp only[Pg.run,reduceCtorEq]at h8
    case x t0=>simpa using xb _ hs
    case own k t0=>simpa using xb _ hs.2
    case w r k p z lo n=>
     obtain⟨⟨A,C,hv,_⟩,_⟩:=hs;rw[hv];rfl
    case st cs=>exact absurd ⟨_,aV⟩ bD
   have eu:(bL a s).cells.toList=[bL a s]:=by
    cases hv:bL a s<;>rw[hv]at gL<;>first|rfl|simp[oT]at gL
   rw[eu]at cT;exact cT
 |cell s agg=>
  simp only[LX]at aq;obtain⟨v0,aZ,h1,h2⟩:=aW aq;obtain⟨rfl,rfl⟩:=jv h1;cases aV:aZ s<;>rw[aV]at h2<;>try simp only[Pg.run,reduceCtorEq]at h2
  rename_i k cs;obtain⟨ap,b,aG,ty,fr,hv,hh,hg,cT⟩:=Y0 h aV;have yE:∀(rv:RV),((Pg.wr s .u).bind fun _=>(pure rv:Pg RV)).run aZ=some (rv,bi aZ s .u):=fun rv=>rfl;cases y<;>cases agg<;>simp only[ya,cX,Y8,beq_iff_eq,decide_eq_true_eq]at hx
  ·obtain⟨⟨rfl,dL⟩,cn⟩:=hx
   match cs,h2,cT,hg with
   |[],h2,_,_=>simp[Pg.run]at h2
   |_::_::_,h2,_,_=>simp[Pg.run]at h2
   |[t],h2,cT,hg=>
    simp only at h2;rw[yE]at h2;simp only[aR,di]at h2;obtain⟨rfl,rfl⟩:=h2;have qp:=cT.len;obtain⟨u,hu⟩:∃u,aG.toList=[u]:=s7.1 qp;rw[hu]at cT;refine⟨u,J+1,ap,fun j=>J+j,by omega,hg,?_,cT⟩;unfold bL at hv;rw[if_pos dL]at hv;simp only[wh,hv];rw[bu (x:=⟨b,0,none⟩) (w':=w) rfl];refine Py cn ?_;rw[iZ hh,<-Array.getElem?_toList,hu];rfl
  ·obtain⟨⟨⟨rfl,dL⟩,cn⟩,dW⟩:=hx;simp only at h2;split at h2
   ·rename_i dV;rw[yE]at h2;simp only[aR,di]at h2;obtain⟨rfl,rfl⟩:=h2;refine⟨.agg aG,J+cs.length,ap,fun j=>J+j,by omega,hg,?_,aG,rfl,cT⟩;unfold bL at hv;rw[if_pos dL]at hv;simp only[wh,hv];rw[bu (x:=⟨b,0,none⟩) (w':=w) rfl];have:=Pz (w:=w) (P:=X.P) cn dW (uI hh) (by rw[cT.len];exact dV);simpa using this
   ·simp[Pg.run]at h2
end
theorem WW {P:Program}{w:World}{f:ResultVar->Sem Value}:∀(ys:List ResultVar) (vs:List Value),vs.length=ys.length->(∀(k:Nat) y v,ys[k]?=some y->vs[k]?=some v->(f y).run P w=.ok v w)->(ys.mapM f).run P w=.ok vs w
 |[],[],_,_=>by simp[Pure.pure,Sem.run]
 |[],_::_,h,_=>by simp at h
 |_::_,[],h,_=>by simp at h
 |y::ys,v::vs,hl,hr=>by
  rw[List.mapM_cons,bu (hr 0 y v rfl rfl),bu (WW ys vs (by simpa using hl) fun k y' v' h1 h2=>hr (k+1) y' v' (by simpa using h1) (by simpa using h2))];rfl
theorem Yg {P:Program}{fn:Func}{tmps:Array Value}{w:World}{ys:List ResultVar} (h:fn.results.toList=ys) {vs:List Value} (hl:vs.length=ys.length)
  (hr:∀(k:Nat) y v,ys[k]?=some y->vs[k]?=some v->(wh tmps y).run P w=.ok v w):
  (Go.results fn tmps).run P w=.ok (match vs with|[v]=>v|vs=>.tuple vs.toArray) w:=by
 have ha:fn.results=ys.toArray:=by rw[<-h]
 have key:∀{α β:Type} (s:Sem α) (f:α->Sem β) {x:α},s.run P w=.ok x w->(s>>=f).run P w=(f x).run P w:=fun s f x hs=>bu hs;unfold Go.results;rw[ha];have go:∀(r:Sem (Array Value)),r.run P w=.ok vs.toArray w->(do let vs <-r;pure (if h:vs.size=1 then vs[0] else .tuple vs):Sem Value).run P w=.ok (match vs with|[v]=>v|vs=>.tuple vs.toArray) w:=fun r hr=>by
  rw[key _ _ hr]
  match vs with
  |[]=>rfl
  |[v]=>rfl
  |v1::v2::vs=>simp[Pure.pure,Sem.run]
 refine go _ ?_
 suffices hs:(ys.toArray.mapM (wh tmps)).run P w=.ok vs.toArray w by
  have hf:∀(f:ResultVar->Sem Value),(∀x,f x=wh tmps x)->(ys.toArray.mapM f).run P w=.ok vs.toArray w:=fun f h=>by rw[funext h];exact hs
  exact hf _ (fun x=>by cases x<;>rfl)
 rw[List.mapM_toArray];have dy:=WW (P:=P) (w:=w) ys vs hl hr;show((List.toArray <$> ys.mapM (wh tmps):Sem _)).run P w=_;rw[map_eq_pure_bind,key _ _ dy];rfl
section
variable {X:Cx}{U:Nat->Prop}{J J':Nat}{σ aj aX:St}{a a' a2:Act}{w w' w2:World}{ow ap aU:Nat->Ow}{e:Nat}{o:Oper}
def rR (X:Cx) (w:World) (ow:Nat->Ow) (B:Nat) (M:Nat->Option (Nat×List Nat)) (j:Nat) (r:RV) (v:Value):Prop:=
 match r with
 |.one t=>∃n,n<B/\M n=some (j,[])/\ay X.ae X.mv w ow (some (.ar n,[])) t [v]
 |.st cs=>∃(vs:Array Value) (ix:Nat->Nat),v=.agg vs/\vs.size=cs.length/\∀(k:Nat) t u,cs[k]?=some t->vs[k]?=some u->ix k<B/\M (ix k)=some (j,[k])/\ay X.ae X.mv w ow (some (.ar (ix k),[])) t [u]
 |.bx cs=>∃n,n<B/\M n=some (j,[])/\mI X.ae X.mv w ow (.ar n) cs v
def Bm (lo hi j:Nat) (one:Bool) (n:Nat) (ix:Nat->Nat) (M:Nat->Option (Nat×List Nat)):Nat->Option (Nat×List Nat):=fun i=>
 if lo<=i/\i<hi then(pr n ix (fun k=>if one then[] else[k]) i).map fun p=>(j,p) else M i
theorem Pr:∀(xs:List wF) (ys:List ResultVar) {J:Nat}{σ aj:St}{ow:Nat->Ow}{rs:List RV} (j0:Nat) (M:Nat->Option (Nat×List Nat)),Rel X U J σ a w ow->xs.length=ys.length->(∀(k:Nat) x y,xs[k]?=some x->ys[k]?=some y->ya X.P x y=true)->
  (Hg xs).run σ=some (rs,aj)->
  ∃(vs:List Value) (J':Nat) (ap:Nat->Ow) (M':Nat->Option (Nat×List Nat)),J<=J'/\Gh X U J J' σ a w ow aj ap/\vs.length=ys.length/\rs.length=ys.length/\(∀(k:Nat) y v,ys[k]?=some y->vs[k]?=some v->(wh a.tmps y).run X.P w=.ok v w)/\
   (∀n,n<J->M' n=M n)/\(∀n j p,J<=n->n<J'->M' n=some (j,p)->j<j0+rs.length)/\(∀(k:Nat) r v,rs[k]?=some r->vs[k]?=some v->rR X w ap J' M' (j0+k) r v)
 |[],[],J,σ,aj,ow,rs,j0,M,h,hl,hx,aq=>by
  obtain⟨rfl,rfl⟩:=bS aq;exact⟨[],J,ow,M,Nat.le_refl _,Gh.refl h (Nat.le_refl _),rfl,rfl,fun k y v hy=>by simp at hy,fun _ _=>rfl,fun n j p h1 h2=>by omega,fun k r v hr=>by simp at hr⟩
 |[],_::_,_,_,_,_,_,_,_,h,hl,hx,aq=>by simp at hl
 |_::_,[],_,_,_,_,_,_,_,h,hl,hx,aq=>by simp at hl
 |x::xs,y::ys,J,σ,aj,ow,rs,j0,M,h,hl,hx,aq=>by
  simp only[Hg]at aq;obtain⟨r,aZ,h1,h2⟩:=aW aq;obtain⟨rs',aX,h3,h4⟩:=aW h2;obtain⟨rfl,rfl⟩:=bS h4;obtain⟨v,J1,bB,ix,C4,eH,hv,oM⟩:=Zlg h (hx 0 x y rfl rfl) h1;obtain⟨n,one,hM⟩:∃(n:Nat) (one:Bool),rR X w bB J1 (Bm J J1 j0 one n ix M) j0 r v:=by
   cases r with
   |bx cs=>
    refine⟨1,true,ix 0,oM.2.1,?_,oM.2.2⟩;unfold Bm;rw[if_pos ⟨oM.1,oM.2.1⟩,Em (fun i j hi hj _=>by omega) (by omega)];rfl
   |one t=>
    have h5:=oM.pq 0 (by simp);refine⟨1,true,ix 0,h5.2,?_,?_⟩
    ·unfold Bm;rw[if_pos h5,Em (fun i j hi hj _=>by omega) (by omega)];rfl
    ·exact oM.ay 0 t v rfl rfl
   |st cs=>
    obtain⟨vs,rfl,ha⟩:=oM;refine⟨cs.length,false,vs,ix,rfl,by simpa using ha.len,fun k t u ht hu=>⟨(ha.pq k (bt.1 ht).1).2,?_,ha.ay k t u ht (by simpa using hu)⟩⟩;have hk:=(bt.1 ht).1;have h5:=ha.pq k hk;unfold Bm;rw[if_pos h5,Em ha.inj hk];rfl
  obtain⟨vs,J2,aU,M2,hJ2,fp,dy,Gv,bP,vp,Gb,Gc⟩:=Pr xs ys (j0+1) (Bm J J1 j0 one n ix M) eH.rel (by simpa using hl) (fun k x' y' h5 h6=>hx (k+1) x' y' (by simpa using h5) (by simpa using h6)) h3;refine⟨v::vs,J2,aU,M2,by omega,eH.trans fp C4,by simp[dy],by simp[Gv],fun k y' v' hy eX=>?_,fun m hm=>?_,fun m j p mZ hm2 vJ=>?_,fun k r' v' hr eX=>?_⟩
  ·cases k with
   |zero=>simp at hy eX;subst hy eX;exact hv
   |succ k=>exact bP k y' v' (by simpa using hy) (by simpa using eX)
  ·rw[vp m (by omega)];unfold Bm;rw[if_neg (by omega)]
  ·simp only[dH];by_cases hm:m<J1
   ·rw[vp m hm]at vJ;unfold Bm at vJ;rw[if_pos ⟨mZ,hm⟩]at vJ;obtain⟨p',_,hp⟩:=jm.1 vJ;simp only[di]at hp;omega
   ·have:=Gb m j p (by omega) hm2 vJ;omega
  ·cases k with
   |succ k=>
    have:=Gc k r' v' (by simpa using hr) (by simpa using eX);rw[show j0+1+k=j0+(k+1) by omega]at this;exact this
   |zero=>
    simp at hr eX;subst hr eX;have dw:∀i t u q,i<J1->ay X.ae X.mv w bB (some (.ar i,q)) t u->ay X.ae X.mv w aU (some (.ar i,q)) t u:=fun i t u q hi hr=>cB fp.z t (c:=some (.ar i,q)) (fun b q' hb=>⟨fp.dw b i _ hi hb,rfl⟩) hr;cases r with
    |bx cs=>
     obtain⟨i,h5,h6,h7⟩:=hM;exact⟨i,by omega,by rw[pc,vp i h5];exact h6,h7.tr fp.z fun b q' hb=>⟨fp.dw b i _ h5 hb,rfl⟩⟩
    |one t=>
     obtain⟨i,h5,h6,h7⟩:=hM;exact⟨i,by omega,by rw[pc,vp i h5];exact h6,dw i t _ _ h5 h7⟩
    |st cs=>
     obtain⟨us,pC,rfl,h5,h6⟩:=hM;refine⟨us,pC,rfl,h5,fun k t u ht hu=>?_⟩;obtain⟨h7,h8,h9⟩:=h6 k t u ht hu;exact⟨by omega,by rw[pc,vp _ h7];exact h8,dw _ t _ _ h7 h9⟩
end
def pG (cO:List Nat) (M:Nat->Option (Nat×List Nat)) (ow:Nat->Ow):Nat->Ow:=fun b=>
 match ow b with
 |.no=>.no
 |.z=>.z
 |.own (.sl s) q=>if s∈cO then .own (.ar s) q else .no
 |.own (.ar n) q=>match M n with
  |some (j,p)=>.own (.rs j) (p++q)
  |none=>.no
 |.own (.rs _) _=>.no
section
variable {X:Cx}{U:Nat->Prop}{J J':Nat}{σ aj aX:St}{a a' a2:Act}{w w' w2:World}{ow ap aU:Nat->Ow}{e:Nat}{o:Oper}
theorem Jh {cO:List Nat}{M:Nat->Option (Nat×List Nat)}:Zs w ow w (pG cO M ow):=fun b hb=>⟨by simp[pG,hb],rfl⟩
theorem O9 {cO:List Nat}{M:Nat->Option (Nat×List Nat)}{n j:Nat}{p:List Nat} (hM:M n=some (j,p)):Tr w ow w (pG cO M ow) (some (.ar n,[])) (some (.rs j,p)):=fun b q hb=>⟨by simp only[eC]at hb;simp[pG,hb,hM],rfl⟩
theorem Zno {cO:List Nat}{M:Nat->Option (Nat×List Nat)} (ct:X.mv=eZ) {B j:Nat}{r:RV}{v:Value} (h:rR X w ow B M j r v):jP X.ae w (pG cO M ow) j r v:=by
 unfold rR at h;rw[ct]at h;cases r with
 |bx cs=>
  obtain⟨n,_,h1,h2⟩:=h;exact h2.tr Jh (O9 h1)
 |one t=>
  obtain⟨n,_,h1,h2⟩:=h;exact cB Jh t (O9 h1) h2
 |st cs=>
  obtain⟨us,ix,rfl,h1,h2⟩:=h;refine⟨us,rfl,pj (by simpa using h1) fun k t u ht hu=>?_⟩;obtain⟨_,h3,h4⟩:=h2 k t u ht (by simpa using hu);rw[db];exact cB Jh t (O9 h3) h4
theorem yX (h:Rel X U J σ a w ow) (ct:X.mv=eZ) {M:Nat->Option (Nat×List Nat)}{jM:List Value} (kY:X.args=jM.toArray) (my:jM.length<=1000):∀(as:List Arg) (vs:List Value) (i:Nat) {bs:List (List T)}{aj:St},vs.length=as.length->jM.drop i=vs->(∀k∈rI i as,k∈X.cO)->
  as.all Arg.oB=true->(E8 (rI i as)).run σ=some (bs,aj)->aj=σ/\jN X.ae w (pG X.cO M ow) i as vs bs
 |[],[],i,bs,aj,hl,hd,hp,hf,aq=>by
  simp only[rI,E8]at aq;obtain⟨rfl,rfl⟩:=bS aq;exact⟨rfl,trivial⟩
 |[],_::_,i,bs,aj,hl,hd,hp,hf,aq=>by simp at hl
 |_::_,[],i,bs,aj,hl,hd,hp,hf,aq=>by simp at hl
 |x::as,v::vs,i,bs,aj,hl,hd,hp,hf,aq=>by
  simp only[nV,Y8]at hf;have je:jM.drop (i+1)=vs:=by
   rw[<-List.drop_drop,hd];rfl
  have hi:i<jM.length:=by
   by_cases aF:i<jM.length
   ·exact aF
   ·rw[List.drop_eq_nil_of_le (by omega)]at hd;cases hd
  have xL:jM[i]?=some v:=by
   have:=congrArg (fun l=>l[0]?) hd;simpa using this
  cases x with
  |bx cs=>
   simp only[rI,E8]at aq hp;obtain⟨av,aZ,h1,h2⟩:=aW aq;obtain⟨iK,lk⟩:=jv h1;rw[lk,iK]at h2;cases aV:σ i<;>rw[aV]at h2<;>try simp only[Pg.run,reduceCtorEq]at h2
   rename_i k cA;split at h2
   ·obtain⟨bs',aX,h3,h4⟩:=aW h2;obtain⟨rfl,aon⟩:=bS h4;obtain⟨e1,h5⟩:=yX h ct kY my as vs (i+1) (by simpa using hl) je (fun k hk=>hp k (fJ _ hk)) hf.2 h3;refine⟨aon.trans e1,?_,h5⟩;have hs:=h.slot i;rw[aV]at hs;obtain⟨b,aG,ty,fr,e1,e2,e3,e4,e5⟩:=hs;have s4:i∈X.cO:=hp i fe;have cC:bL a i=v:=by
     have:=h.cO i s4;unfold bL;rw[if_pos (by omega),Array.getD_eq_getD_getElem?,this,kY];simp[xL]
    rw[cC]at e1;have hc:∀b q,ow b=.own (.sl i) q->pG X.cO M ow b=.own (.ar i) q:=fun b q hb=>by simp[pG,hb,s4]
    refine⟨b,aG,ty,fr,e1,hc b [] e2,e3,e4,?_⟩;rw[ct]at e5;exact lG Jh cA (c:=some (.sl i,[])) (c':=some (.ar i,[])) (fun b q hb=>⟨hc b _ hb,rfl⟩) e5
   ·simp[Pg.run]at h2
  |x t=>exact yX h ct kY my as vs (i+1) (by simpa using hl) je hp hf.2 aq
  |own t=>exact yX h ct kY my as vs (i+1) (by simpa using hl) je hp hf.2 aq
  |os cs=>exact yX h ct kY my as vs (i+1) (by simpa using hl) je hp hf.2 aq
  |st cs=>exact yX h ct kY my as vs (i+1) (by simpa using hl) je hp hf.2 aq
  |fb g=>exact yX h ct kY my as vs (i+1) (by simpa using hl) je hp hf.2 aq
  |mu t=>simp[Arg.oB]at hf
  |ms t=>simp[Arg.oB]at hf
theorem Zdl (h:Rel X U J σ a w ow) (ct:X.mv=eZ) {f:aI}{fn:Func}{as:List Arg}{vs:List Value}{ga:Nat->Ow}{out:Out} (AN:X.ga=lp ga) (dl:∀b,ga b≠.no->b<X.w0.heap.size)
  (kY:X.args=vs.toArray) (my:vs.length<=1000) (hl:vs.length=as.length) (hp:X.cO=f.cO) (bf:E6 f as=true)
  (ue:f.dG.length=fn.results.toList.length) (hx:∀(k:Nat) x y,f.dG[k]?=some x->fn.results.toList[k]?=some y->ya X.P x y=true) (aq:(leave f).run σ=some (out,aj)):
  ∃v ap,(Go.results fn a.tmps).run X.P w=.ok v w/\kw X.ae as vs out X.w0 ga w ap v:=by
 unfold leave at aq;obtain⟨rs,aZ,h1,h2⟩:=aW aq;obtain⟨bs,aX,h3,h4⟩:=aW h2;obtain⟨rfl,rfl⟩:=bS h4;unfold E6 at bf;simp only[Y8,beq_iff_eq]at bf;obtain⟨⟨qp,xJ⟩,Sp,_⟩:=bf;obtain⟨us,J1,bB,M,hJ,hg,xK,iD,S7,vp,Gb,Gc⟩:=Pr f.dG fn.results.toList 0 (fun _=>none) h ue hx h1;have hR:=hg.rel;rw[<-xJ]at h3;obtain⟨e1,An⟩:=yX (M:=M) hR ct kY my as vs 0 hl (by simp) (fun k hk=>by rw[hp,<-xJ];exact hk) Sp h3;have Gy:∀b,b<X.w0.heap.size->(∀r q,X.ga b≠.own r q)->w.heap[b]?=X.w0.heap[b]?/\bB b=X.ga b:=hR.same;refine⟨_,pG X.cO M bB,Yg rfl xK S7,?_,?_,?_,hR.grown,hR.os,hR.output,?_,An,?_⟩
 ·intro b hb;have jd:X.ga b=.z:=by rw[AN];simp[lp,hb]
  obtain⟨h5,h6⟩:=Gy b (dl b (by rw[hb];simp)) (fun r q=>by rw[jd];simp);exact⟨by simp[pG,h6,jd],h5⟩
 ·intro b aF hb;have jd:X.ga b=.no:=by rw[AN];simp[lp,hb]
  obtain⟨h5,h6⟩:=Gy b aF (fun r q=>by rw[jd];simp);exact⟨by simp[pG,h6,jd],h5⟩
 ·intro b hb;exact hR.low b fun e=>hb (by simp[pG,e])
 ·-- the results
  have gL:∀(k:Nat) r v,rs[k]?=some r->us[k]?=some v->jP X.ae w (pG X.cO M bB) k r v:=fun k r v h5 h6=>by
   have:=Gc k r v h5 h6;rw[db]at this;exact Zno ct this
  unfold nU
  match rs,us,(iD.trans xK.symm:rs.length=us.length),gL with
  |[r],[v],_,gL=>exact gL 0 r v rfl rfl
  |[],[],_,gL=>exact⟨#[],rfl,rfl,fun j r u hr=>by simp at hr⟩
  |r::r2::rs,v::v2::us,hlen,gL=>exact⟨(v::v2::us).toArray,rfl,by simp at hlen;simp[hlen],fun j r u hr hu=>gL j r u hr (by simpa using hu)⟩
  |[_],_::_::_,hlen,_=>simp at hlen
  |_::_::_,[_],hlen,_=>simp at hlen
  |[],_::_,hlen,_=>simp at hlen
  |_::_,[],hlen,_=>simp at hlen
 ·intro b j q hb;unfold pG at hb;cases dq:bB b with
  |no=>simp[dq]at hb
  |z=>simp[dq]at hb
  |own r q'=>
   rw[dq]at hb;cases r with
   |sl s=>simp only at hb;split at hb<;>cases hb
   |rs s=>cases hb
   |ar n=>
    simp only at hb;split at hb
    ·rename_i j' p Gd;simp only[Ow.own.injEq,aJ.rs.injEq]at hb;have hn:=hR.dw b n q' dq;by_cases SH:n<J
     ·rw[vp n SH]at Gd;cases Gd
     ·have:=Gb n j' p (by omega) hn Gd;show j<rs.length;omega
    ·cases hb
end
def DD (P:Program):List wF->List ResultVar->Bool
 |[],[]=>true
 |x::xs,y::ys=>ya P x y&&DD P xs ys
 |_,_=>false
theorem Pq {P:Program}:∀{xs:List wF}{ys:List ResultVar},DD P xs ys=true->xs.length=ys.length/\∀(k:Nat) x y,xs[k]?=some x->ys[k]?=some y->ya P x y=true
 |[],[],_=>⟨rfl,fun k x y h=>by simp at h⟩
 |[],_::_,h=>by simp[DD]at h
 |_::_,[],h=>by simp[DD]at h
 |x::xs,y::ys,h=>by
  simp only[DD,Y8]at h;obtain⟨h1,h2⟩:=Pq h.2;refine⟨by simp[h1],fun k x' y' hx hy=>?_⟩;cases k with
  |zero=>simp at hx hy;subst hx hy;exact h.1
  |succ k=>exact h2 k x' y' (by simpa using hx) (by simpa using hy)
def CP (P:Program) (ae:Nat->FuncId) (f:aI) (fn:Func):Bool:=
 match fn.body with
 |some c=>lL P ae fn.ntmps f.cO f.code c&&DD P f.dG fn.results.toList&&decide (f.ar<=fn.ntmps)&&decide (fn.ntmps<=1000)
 |none=>false
theorem XE:∀{as:List Arg}{i k:Nat},k∈rI i as->i<=k/\k<i+as.length
 |[],i,k,h=>by simp[rI]at h
 |x::as,i,k,h=>by
  have key:k∈rI (i+1) as->i<=k/\k<i+(x::as).length:=fun h=>by
   have:=XE h;simp only[dH];omega
  cases x<;>simp only[rI,iG]at h<;>try exact key h
  rcases h with h|h
  ·simp only[dH];omega
  ·exact key h
theorem Z7g {as:List Arg} (h:P9 as=true) {i g:Nat} (hi:as[i]?=some (.fb g)):∃cs,as[0]?=some (.bx cs):=by
 unfold P9 at h;split at h
 ·exact⟨_,rfl⟩
 ·have:as.any Arg.y6=true:=qN.2 ⟨_,cS hi,rfl⟩;rw[this]at h;cases h
theorem Z8z {P:Program}{ae:Nat->FuncId}{g:Nat}{f:aI}{fn:Func} (qv:P.follows .mixedOrders=true) (hf:P.funcs[ae g]?=some fn) (vG:CP P ae f fn=true) (hF:∀p∈f.code.calls,ik P ae p.1 p.2):ik P ae g (aQ f):=by
 intro as vs w ow out iz hl hA dl j3 Gn;unfold CP at vG;cases hb:fn.body with
 |none=>simp[hb]at vG
 |some c=>
  simp only[hb,Y8,decide_eq_true_eq]at vG;obtain⟨⟨⟨hc,sI⟩,har⟩,RR⟩:=vG;unfold aQ at iz;split at iz
  ·rename_i bf;have AM:=bf;unfold E6 at AM;simp only[Y8,beq_iff_eq]at AM;obtain⟨⟨qp,xJ⟩,Sp,Ay⟩:=AM;obtain⟨ue,hx⟩:=Pq sI
   let X:Cx:={P:=P,ae:=ae,mv:=eZ,w0:=w,ga:=lp ow,n:=fn.ntmps,args:=vs.toArray,cO:=f.cO}
   have kq:=Wq X rfl (as:=as) (vs:=vs) (w:=w) (ow:=ow) hl (by show as.length<=fn.ntmps;omega) RR rfl rfl rfl (fun i hi=>by
     have mW:i∈rI 0 as:=by rw[xJ];exact hi
     have:=XE mW;omega) hA dl j3 Gn (fun i g hi=>Z7g Ay hi) (fun i t ht=>by
     have:=eJ.1 Sp _ (cS ht);cases t<;>simp only[Arg.oB,cX]at this;rename_i o sz es;cases o<;>simp only[Arg.oB,cX]at this;exact⟨sz,es,rfl⟩)
   have Az:Good X ⟨pB 0 as fun _=>.u,[]⟩ {tmps:=vs.toArray++Array.replicate (fn.ntmps-vs.toArray.size) undef,defers:=[]} w:=
    ⟨_,_,_,kq,fun id _ x hx h0=>by have:=hx.1;omega⟩
   refine calls_of_wp hf hb ?_;cases hd:den f.code ⟨pB 0 as fun _=>.u,[]⟩ with
   |none=>simp[hd]at iz
   |some r=>
    obtain⟨ex,s⟩:=r;have AG:(ex=.nx\/ex=.ret)/\∃aj,(leave f).run s.σ=some (out,aj):=by
     rw[hd]at iz;cases ex with
     |exit id=>simp at iz
     |nx=>
      simp only at iz;split at iz
      ·rename_i o aj hr;cases iz;exact⟨.inl rfl,aj,hr⟩
      ·cases iz
     |ret=>
      simp only at iz;split at iz
      ·rename_i o aj hr;cases iz;exact⟨.inr rfl,aj,hr⟩
      ·cases iz
    obtain⟨hex,aj,aq⟩:=AG;refine wX (X:=X) rfl qv f.code c hc hF Az hd fun a' w' hg=>?_;obtain⟨U,J,ap,hr,_⟩:=hg.out;obtain⟨v,aU,h1,h2⟩:=Zdl (X:=X) hr rfl (f:=f) (fn:=fn) (as:=as) (vs:=vs) (ga:=ow) rfl dl rfl (by omega) hl rfl bf ue hx aq;rcases hex with rfl|rfl
    ·exact⟨hr.defers,v,h1,aU,h2⟩
    ·exact⟨hr.defers,v,h1,aU,h2⟩
  ·cases iz
abbrev LS:=List (Nat×AV)
def LS.get:LS->Nat->AV
 |[],_=>.u
 |(k,v)::l,s=>bif Nat.beq k s then v else LS.get l s
def LS.Ag {β:Type}:LS->Nat->(AV->β)->β
 |[],_,k=>k .u
 |(a,v)::l,s,k=>bif Nat.beq a s then k v else LS.Ag l s k
theorem LS.vn {β:Type}:∀(l:LS) (s:Nat) (k:AV->β),l.Ag s k=k (l.get s)
 |[],_,_=>rfl
 |(a,v)::l,s,k=>by
  simp only[LS.Ag,LS.get];cases Nat.beq a s with
  |true=>rfl
  |false=>exact LS.vn l s k
def LS.ins {β:Type}:LS->Nat->AV->(LS->β)->β
 |[],s,v,k=>k [(s,v)]
 |(a,b)::l,s,v,k=>bif Nat.beq a s then k ((s,v)::l) else LS.ins l s v fun l'=>k ((a,b)::l')
def LS.del {β:Type}:LS->Nat->(LS->β)->β
 |[],s,k=>k []
 |(a,b)::l,s,k=>bif Nat.beq a s then LS.del l s k else LS.del l s fun l'=>k ((a,b)::l')
def T.force {β:Type}:T->(T->β)->β
 |.i kd n,k=>k (.i kd n)
 |.b x,k=>k (.b x)
 |.s x,k=>k (.s x)
 |.a cs,k=>k (.a cs)
 |.l o sz es,k=>k (.l o sz es)
 |.f g env,k=>k (.f g env)
 |.p t,k=>k (.p t)
 |.u,k=>k .u
def CO {α β:Type}:List α->(List α->β)->β
 |[],k=>k []
 |x::l,k=>CO l fun l=>k (x::l)
def Fk {β:Type}:List T->(List T->β)->β
 |[],k=>k []
 |x::l,k=>x.force fun x=>Fk l fun l=>k (x::l)
def Kb {β:Type} (n:Nat) (k:Nat->β):β:=match n with|0=>k 0|m+1=>k (m+1)
def K.force {β:Type} (c:K) (k:K->β):β:=match c with|⟨e,h,d⟩=>Kb e fun e=>Kb h fun h=>Kb d fun d=>k ⟨e,h,d⟩
def Cell.force {β:Type} (c:Cell) (k:Cell->β):β:=
 match c with
 |.x t=>t.force fun t=>k (.x t)
 |.w r kk p z lo n=>kk.force fun kk=>CO p fun p=>k (.w r kk p z lo n)
def Ka {β:Type}:List Cell->(List Cell->β)->β
 |[],k=>k []
 |x::l,k=>x.force fun x=>Ka l fun l=>k (x::l)
def LS.put {β:Type} (l:LS) (s:Nat) (v:AV) (k:LS->β):β:=
 match v with
 |.u=>l.del s k
 |.x t=>t.force fun t=>l.ins s (.x t) k
 |.own kk t=>kk.force fun kk=>t.force fun t=>l.ins s (.own kk t) k
 |.w r kk p z lo n=>kk.force fun kk=>CO p fun p=>l.ins s (.w r kk p z lo n) k
 |.st cs=>Ka cs fun cs=>l.ins s (.st cs) k
 |.box kk cs=>kk.force fun kk=>Fk cs fun cs=>l.ins s (.box kk cs) k
 |.ptr r kk p off=>kk.force fun kk=>CO p fun p=>l.ins s (.ptr r kk p off) k
 |.q t off=>t.force fun t=>l.ins s (.q t off) k
 |.dj n=>l.ins s (.dj n) k
 |.fb g r kk=>kk.force fun kk=>l.ins s (.fb g r kk) k
def LS.of (l:LS):St:=l.get
theorem LS.abO {β:Type}:∀(l:LS) (s:Nat) (v:AV) (k:LS->β),∃l',l.ins s v k=k l'/\l'.of=bi l.of s v
 |[],s,v,k=>⟨[(s,v)],rfl,by
  funext j
  simp only[LS.of,LS.get,bi];by_cases h:j=s
  ·subst h;simp
  ·have:Nat.beq s j=false:=by rw[<-yT,Nat.beq_eq];exact fun e=>h e.symm
   simp[this,h]⟩
 |(a,b)::l,s,v,k=>by
  simp only[LS.ins];cases h:Nat.beq a s with
  |true=>
   have h1:=Nat.eq_of_beq_eq_true h;subst h1;refine⟨(a,v)::l,rfl,?_⟩
   funext j
   simp only[LS.of,LS.get,bi];by_cases hj:j=a
   ·subst hj;simp
   ·have:Nat.beq a j=false:=by rw[<-yT,Nat.beq_eq];exact fun e=>hj e.symm
    simp[this,hj]
  |false=>
   obtain⟨l',h1,h2⟩:=LS.abO l s v (fun l'=>k ((a,b)::l'));refine⟨(a,b)::l',h1,?_⟩;have bC:a≠s:=fun e=>by subst e;simp at h
   funext j
   have h3:=congrFun h2 j;simp only[LS.of,LS.get,bi]at h3⊢;by_cases hj:j=a
   ·subst hj;simp[bC]
   ·have:Nat.beq a j=false:=by rw[<-yT,Nat.beq_eq];exact fun e=>hj e.symm
    simp only[this,cond_false];exact h3
theorem LS.del_eq {β:Type}:∀(l:LS) (s:Nat) (k:LS->β),∃l',l.del s k=k l'/\l'.of=bi l.of s .u
 |[],s,k=>⟨[],rfl,by funext j;simp[LS.of,LS.get,bi]⟩
 |(a,b)::l,s,k=>by
  simp only[LS.del];cases h:Nat.beq a s with
  |true=>
   have h1:=Nat.eq_of_beq_eq_true h;subst h1;obtain⟨l',h2,h3⟩:=LS.del_eq l a k;refine⟨l',h2,?_⟩;rw[h3]
   funext j
   simp only[LS.of,LS.get,bi];by_cases hj:j=a
   ·subst hj;simp
   ·have:Nat.beq a j=false:=by rw[<-yT,Nat.beq_eq];exact fun e=>hj e.symm
    simp[this,hj]
  |false=>
   obtain⟨l',h1,h2⟩:=LS.del_eq l s (fun l'=>k ((a,b)::l'));refine⟨(a,b)::l',h1,?_⟩;have bC:a≠s:=fun e=>by subst e;simp at h
   funext j
   have h3:=congrFun h2 j;simp only[LS.of,LS.get,bi]at h3⊢;by_cases hj:j=a
   ·subst hj;simp[bC]
   ·have:Nat.beq a j=false:=by rw[<-yT,Nat.beq_eq];exact fun e=>hj e.symm
    simp only[this,cond_false];exact h3
theorem T.force_eq {β:Type} (t:T) (k:T->β):t.force k=k t:=by cases t<;>rfl
theorem II {α β:Type}:∀(l:List α) (k:List α->β),CO l k=k l
 |[],_=>rfl
 |x::l,k=>by simp only[CO,II l]
theorem IJ {β:Type}:∀(l:List T) (k:List T->β),Fk l k=k l
 |[],_=>rfl
 |x::l,k=>by simp only[Fk,T.force_eq,IJ l]
theorem Z8h {β:Type} (n:Nat) (k:Nat->β):Kb n k=k n:=by cases n<;>rfl
theorem K.force_eq {β:Type} (c:K) (k:K->β):c.force k=k c:=by
 obtain⟨e,h,d⟩:=c;simp only[K.force,Z8h]
theorem Cell.force_eq {β:Type} (c:Cell) (k:Cell->β):c.force k=k c:=by
 cases c
 ·simp only[Cell.force,T.force_eq]
 ·simp only[Cell.force,K.force_eq,II]
theorem OC {β:Type}:∀(l:List Cell) (k:List Cell->β),Ka l k=k l
 |[],_=>rfl
 |x::l,k=>by simp only[Ka,Cell.force_eq,OC l]
theorem LS.put_eq {β:Type} (l:LS) (s:Nat) (v:AV) (k:LS->β):∃l',l.put s v k=k l'/\l'.of=bi l.of s v:=by
 cases v<;>simp only[LS.put,T.force_eq,K.force_eq,II,IJ,OC]
 case u=>exact LS.del_eq l s k
 all_goals exact LS.abO l s _ k
def Pg.jw {α β:Type}:Pg α->LS->(α->LS->Option β)->Option β
 |.ret a,l,k=>k a l
 |.fail,_,_=>none
 |.get s q,l,k=>l.Ag s fun v=>(q v).jw l k
 |.set s v q,l,k=>l.put s v fun l=>q.jw l k
 |.bind p f,l,k=>p.jw l fun a l=>(f a).jw l k
 |.wb s q,l,k=>l.Ag s fun v=>(q v.bk).jw l k
 |.vm s c q,l,k=>l.Ag s fun v=>(q (v.bc c)).jw l k
 |.jD s c t q,l,k=>l.Ag s fun v=>match v.jD c t with
  |some v=>l.put s v fun l=>q.jw l k
  |none=>none
def Pg.ev {α:Type} (p:Pg α) (l:LS):Option (α×LS):=p.jw l fun a l=>some (a,l)
theorem Pj {β γ:Type} (acc:LS) (s:Nat) (v:AV) (g:LS->β) (k:β->γ):acc.put s v (fun l=>k (g l))=k (acc.put s v g):=by
 have ani:∀(acc:LS) (v:AV) (g:LS->β),acc.ins s v (fun l=>k (g l))=k (acc.ins s v g):=by
  intro acc
  induction acc with
  |nil=>intro v g;rfl
  |cons x acc fZ=>
   intro v g;obtain⟨a,b⟩:=x;simp only[LS.ins];cases Nat.beq a s with
   |true=>rfl
   |false=>exact fZ v fun l'=>g ((a,b)::l')
 have amU:∀(acc:LS) (g:LS->β),acc.del s (fun l=>k (g l))=k (acc.del s g):=by
  intro acc
  induction acc with
  |nil=>intro g;rfl
  |cons x acc fZ=>
   intro g;obtain⟨a,b⟩:=x;simp only[LS.del];cases Nat.beq a s with
   |true=>exact fZ g
   |false=>exact fZ fun l'=>g ((a,b)::l')
 cases v<;>simp only[LS.put,T.force_eq,K.force_eq,II,IJ,OC]
 case u=>exact amU acc g
 all_goals exact ani acc _ g
def andThen {α β:Type} (r:Option (α×LS)) (k:α->LS->Option β):Option β:=match r with|some (a,l)=>k a l|none=>none
theorem uL {α:Type}:∀(p:Pg α) {β:Type} (l:LS) (k:α->LS->Option β),p.jw l k=andThen (p.ev l) k
 |.ret a,β,l,k=>rfl
 |.fail,β,l,k=>rfl
 |.get s q,β,l,k=>by
  simp only[Pg.ev,Pg.jw,LS.vn];exact uL (q (l.get s)) l k
 |.set s v q,β,l,k=>by
  simp only[Pg.ev,Pg.jw];rw[<-Pj l s v (fun l=>q.jw l fun a l=>some (a,l)) fun r=>andThen r k]
  congr 1
  funext l'
  exact uL q l' k
 |.wb s q,β,l,k=>by
  simp only[Pg.ev,Pg.jw,LS.vn];exact uL (q _) l k
 |.vm s c q,β,l,k=>by
  simp only[Pg.ev,Pg.jw,LS.vn];exact uL (q _) l k
 |.jD s c t q,β,l,k=>by
  simp only[Pg.ev,Pg.jw,LS.vn];cases(l.get s).jD c t with
  |none=>rfl
  |some v=>
   simp only;rw[<-Pj l s v (fun l=>q.jw l fun a l=>some (a,l)) fun r=>andThen r k]
   congr 1
   funext l'
   exact uL q l' k
 |.bind p f,β,l,k=>by
  simp only[Pg.ev,Pg.jw];rw[uL p l,uL p l];cases p.ev l with
  |none=>rfl
  |some x=>exact uL (f x.1) x.2 k
theorem ch {α β:Type} (p:Pg α) (f:α->Pg β) (l:LS):(p.bind f).ev l=match p.ev l with|some (a,l')=>(f a).ev l'|none=>none:=by
 show p.jw l _=_;rw[uL];cases p.ev l<;>rfl
theorem El {α:Type} (s:Nat) (q:AV->Pg α) (l:LS):(Pg.get s q).ev l=(q (l.get s)).ev l:=by
 simp only[Pg.ev,Pg.jw,LS.vn]
theorem ja {α:Type} (a:α) (l:LS):(Pg.ret a).ev l=some (a,l):=rfl
theorem qa {α:Type}:∀(p:Pg α) {l l':LS}{x:α},p.ev l=some (x,l')->p.run l.of=some (x,l'.of)
 |.ret a,l,l',x,h=>by
  simp only[ja,aR,di]at h;obtain⟨rfl,rfl⟩:=h;rfl
 |.fail,l,l',x,h=>by cases h
 |.get s k,l,l',x,h=>by
  rw[El]at h;exact qa (k (l.get s)) h
 |.set s v k,l,l',x,h=>by
  simp only[Pg.ev,Pg.jw]at h;obtain⟨l2,h1,h2⟩:=LS.put_eq l s v fun l=>k.jw l fun a l=>some (a,l);rw[h1]at h;have:=qa k h;rw[h2]at this;exact this
 |.wb s k,l,l',x,h=>by
  simp only[Pg.ev,Pg.jw,LS.vn]at h;exact qa (k _) h
 |.vm s c k,l,l',x,h=>by
  simp only[Pg.ev,Pg.jw,LS.vn]at h;exact qa (k _) h
 |.jD s c t k,l,l',x,h=>by
  simp only[Pg.ev,Pg.jw,LS.vn]at h;simp only[Pg.run];show(match(l.get s).jD c t with|some v=>k.run (bi l.of s v)|none=>none)=_;cases hv:(l.get s).jD c t with
  |none=>rw[hv]at h;cases h
  |some v=>
   rw[hv]at h;simp only at h⊢;obtain⟨l2,h1,h2⟩:=LS.put_eq l s v fun l=>k.jw l fun a l=>some (a,l);rw[h1]at h;have:=qa k h;rw[h2]at this;exact this
 |.bind p f,l,l',x,h=>by
  rw[ch]at h;simp only[Pg.run];cases h1:p.ev l with
  |none=>rw[h1]at h;cases h
  |some y=>
   rw[h1]at h;rw[qa p h1];exact qa (f y.1) h
structure UB {α:Type} (p:Pg α) (l:LS) (K:α->LS->Prop):Prop where
 out:∃x l',p.ev l=some (x,l')/\K x l'
structure EvO (id i:Nat) (os:List aY) (l:LS) (K:Unit->LS->Prop):Prop where
 out:UB (zO id i os) l K
structure EvD (id i:Nat) (os:List aY) (fs:List (List Nat×List Nat)) (l:LS) (K:Unit->LS->Prop):Prop where
 out:UB (xq id i os fs) l K
def oz (e:Nat) (args:List (fN×aL)) (env:List T):Pg (List Hand):=do
 let ts <-ny e args
 let vS <-ml e args ts
 pure (vS++env.map fun t=>{arg:=.x t})
def jV (hs:List Hand) (o:Out):Bool:=apart hs&&(((hs.all fun h=>h.iI.isEmpty)||(o.dG.all RV.closed&&o.back.all cP))&&o.dG.all RV.lO)
def qk (e:Nat) (d:Option Nat) (hs:List Hand) (o:Out):Pg Unit:=do
 rM e hs o.back
 results e d o.dG
theorem VP {e:Nat}{d:Option Nat}{F:aB}{args:List (fN×aL)}{env:List T}{l l1 l2:LS}{hs:List Hand}{o:Out} (h1:(oz e args env).ev l=some (hs,l1)) (h2:F (hs.map Hand.arg)=some o) (h3:jV hs o=true)
  (h4:(qk e d hs o).ev l1=some ((),l2)):(se e d F args env).ev l=some ((),l2):=by
 unfold jV at h3;simp only[Y8]at h3;obtain⟨ha,hb,hc⟩:=h3;unfold oz at h1;unfold se;simp only[Bind.bind,ch,Pure.pure,ja]at h1⊢;cases e1:(ny e args).ev l with
 |none=>simp[e1]at h1
 |some x1=>
  obtain⟨ts,l3⟩:=x1;simp only[e1]at h1⊢;cases e2:(ml e args ts).ev l3 with
  |none=>simp[e2]at h1
  |some x2=>
   obtain⟨vS,l4⟩:=x2;simp only[e2,aR,di]at h1⊢;obtain⟨rfl,rfl⟩:=h1;simp only[ha,if_true,h2,hb,hc,gX];exact h4
theorem fj {α β:Type}{r w:List Nat} (p:Pg α) (f:α->Pg β):(p.bind f).within r w=(p.within r w).bind fun x=>(f x).within r w:=rfl
theorem r8 {α:Type}{r w:List Nat} (a:α):(Pg.ret a).within r w=Pg.ret a:=rfl
theorem VQ {e:Nat}{d:Option Nat}{F:aB}{args:List (fN×aL)}{env:List T}{r w:List Nat}{l l1 l2:LS}{hs:List Hand}{o:Out} (h1:((oz e args env).within r w).ev l=some (hs,l1)) (h2:F (hs.map Hand.arg)=some o) (h3:jV hs o=true)
  (h4:((qk e d hs o).within r w).ev l1=some ((),l2)):((se e d F args env).within r w).ev l=some ((),l2):=by
 unfold jV at h3;simp only[Y8]at h3;obtain⟨ha,hb,hc⟩:=h3;unfold oz at h1;unfold se;simp only[Bind.bind,fj,ch,Pure.pure,r8,ja]at h1⊢;cases e1:((ny e args).within r w).ev l with
 |none=>simp[e1]at h1
 |some x1=>
  obtain⟨ts,l3⟩:=x1;simp only[e1]at h1⊢;cases e2:((ml e args ts).within r w).ev l3 with
  |none=>simp[e2]at h1
  |some x2=>
   obtain⟨vS,l4⟩:=x2;simp only[e2,aR,di]at h1⊢;obtain⟨rfl,rfl⟩:=h1;simp only[ha,if_true,h2,hb,hc,gX];exact h4
structure Ev (c:eB) (l:LS) (us:List Nat) (K:Ex->LS->List Nat->Prop):Prop where
 out:∃ex l' ed,den c ⟨l.of,us⟩=some (ex,⟨l'.of,ed⟩)/\K ex l' ed
section
variable {l:LS}{us:List Nat}{K:Ex->LS->List Nat->Prop}
theorem Z62 (h:K .nx l us):Ev .sk l us K:=⟨.nx,l,us,rfl,h⟩
theorem Z5z (h:K .ret l us):Ev .ret l us K:=⟨.ret,l,us,rfl,h⟩
theorem Z5u {id:Nat} (h:K (.exit id) l us):Ev (.exit id) l us K:=⟨.exit id,l,us,rfl,h⟩
def afX (b:eB) (K:Ex->LS->List Nat->Prop):Ex->LS->List Nat->Prop
 |.nx,l',ed=>Ev b l' ed K
 |ex,l',ed=>K ex l' ed
theorem Z61 {a b:eB} (h:Ev a l us (afX b K)):Ev (.seq a b) l us K:=by
 obtain⟨ex,l',ed,h1,h2⟩:=h;cases ex with
 |nx=>
  obtain⟨ex2,l2,L6,h3,h4⟩:=h2;exact⟨ex2,l2,L6,by simp only[den,h1];exact h3,h4⟩
 |exit id=>exact⟨_,l',ed,by simp only[den,h1],h2⟩
 |ret=>exact⟨_,l',ed,by simp only[den,h1],h2⟩
theorem Ox {c:aL}{a b:eB}{t:Bool}{l1:LS} (h:(raw 0 c).ev l=some (.x (.b t),l1)) (h1:t=true->Ev a l us K) (h2:t=false->Ev b l us K):Ev (.cond c a b) l us K:=by
 have h3:=qa _ h;cases t with
 |true=>
  obtain⟨ex,l',ed,h4,h5⟩:=h1 rfl;exact⟨ex,l',ed,by simp only[den,h3,if_true];exact h4,h5⟩
 |false=>
  obtain⟨ex,l',ed,h4,h5⟩:=h2 rfl;exact⟨ex,l',ed,by simp only[den,h3,cX,if_false];exact h4,h5⟩
def P2 (id:Nat) (K:Ex->LS->List Nat->Prop):Ex->LS->List Nat->Prop
 |.exit jJ,l',ed=>bif Nat.beq jJ id then K .nx l' ed else K (.exit jJ) l' ed
 |ex,l',ed=>K ex l' ed
theorem Z5q {id:Nat}{c:eB} (h:Ev c l us (P2 id K)):Ev (.aO id c) l us K:=by
 obtain⟨ex,l',ed,h1,h2⟩:=h;cases ex with
 |nx=>exact⟨.nx,l',ed,by simp only[den,h1],h2⟩
 |ret=>exact⟨.ret,l',ed,by simp only[den,h1],h2⟩
 |exit jJ=>
  simp only[P2]at h2;cases hb:Nat.beq jJ id with
  |true=>
   have:=Nat.eq_of_beq_eq_true hb;subst this;rw[hb]at h2;exact⟨.nx,l',ed,by simp only[den,h1,if_true],h2⟩
  |false=>
   rw[hb]at h2;have bC:jJ≠id:=fun e=>by subst e;simp at hb
   exact⟨.exit jJ,l',ed,by simp only[den,h1,if_neg bC],h2⟩
def rK {β:Type} (l:LS) (full:List Nat):List Nat->LS->(LS->β)->β
 |[],acc,k=>k acc
 |s::ks,acc,k=>if s<1000 then acc.put s (renew full l.of (l.get s)) fun acc=>rK l full ks acc k else rK l full ks acc k
end
theorem Ps {β:Type} (l:LS) (full:List Nat):∀(ks:List Nat) (acc:LS) (k:LS->β),∃l',rK l full ks acc k=k l'/\∀s,l'.of s=if s∈ks/\s<1000 then renew full l.of (l.of s) else acc.of s
 |[],acc,k=>⟨acc,rfl,fun s=>by simp⟩
 |s::ks,acc,k=>by
  simp only[rK];split
  ·rename_i hs;obtain⟨alz,h1,h2⟩:=LS.put_eq acc s (renew full l.of (l.get s)) fun acc=>rK l full ks acc k;obtain⟨l',h3,h4⟩:=Ps l full ks alz k;refine⟨l',h1.trans h3,fun j=>?_⟩;rw[h4 j,h2];by_cases hj:j=s
   ·subst hj;simp[bi,hs,LS.of]
   ·simp[bi,hj]
  ·rename_i hs;obtain⟨l',h3,h4⟩:=Ps l full ks acc k;refine⟨l',h3,fun j=>?_⟩;rw[h4 j];by_cases hj:j=s
   ·subst hj;simp[hs]
   ·simp[hj]
def LS.gy {β:Type} (l:LS) (bY:List Nat) (k:LS->β):β:=rK l bY bY [] k
theorem Zm5 {f:Sg->Option (Ex×Sg)}{s s':Sg}{r:Ex×Sg} (h:f s=some (.nx,s')) (hr:rounds f s'=some r):rounds f s=some r:=by
 unfold rounds at hr;split at hr
 ·rename_i hex;have mono:∀(n m:Nat) (s:Sg) (r:Ex×Sg),n<=m->iter f n s=some r->iter f m s=some r:=by
   intro n
   induction n with
   |zero=>intro m s r _ h;simp[iter]at h
   |succ n ih=>
    intro m s r hnm h;obtain⟨m,rfl⟩:∃k,m=k+1:=⟨m-1,by omega⟩
    simp only[iter]at h⊢;cases hf:f s with
    |none=>simp[hf]at h
    |some x=>
     obtain⟨ex,s1⟩:=x;cases ex<;>simp only[hf]at h⊢<;>first|exact h|exact ih m s1 r (by omega) h
  have h1:iter f (hex.choose+1) s=some r:=by simp only[iter,h];exact hr
  unfold rounds;have Aw:∃n,(iter f n s).isSome:=⟨_,by rw[h1];rfl⟩
  rw[dif_pos Aw];have h2:=Aw.choose_spec;obtain⟨r2,h3⟩:=Option.isSome_iff_exists.1 h2;rw[h3];rcases Nat.le_total Aw.choose (hex.choose+1) with hle|hle
  ·have:=mono _ _ _ _ hle h3;rw[h1]at this;exact this.symm
  ·have:=mono _ _ _ _ hle h1;rw[h3]at this;exact this
 ·cases hr
theorem Yi {f:Sg->Option (Ex×Sg)}{s:Sg}{ex:Ex}{s':Sg} (h:f s=some (ex,s')) (bC:ex≠.nx):rounds f s=some (ex,s'):=by
 have h1:∀n,iter f (n+1) s=some (ex,s'):=fun n=>by
  simp only[iter,h];cases ex<;>first|exact absurd rfl bC|rfl
 unfold rounds;have Aw:∃n,(iter f n s).isSome:=⟨1,by rw[h1];rfl⟩
 rw[dif_pos Aw];have h2:=Aw.choose_spec;cases hn:Aw.choose with
 |zero=>rw[hn]at h2;simp[iter]at h2
 |succ n=>exact h1 n
def pE (bY:List Nat) (c:eB) (K:Ex->LS->List Nat->Prop):Ex->LS->List Nat->Prop
 |.nx,l',ed=>Ev (.loop bY c) l' ed K
 |ex,l',ed=>K ex l' ed
theorem Oy {bY:List Nat}{c:eB}{l:LS}{us:List Nat}{K:Ex->LS->List Nat->Prop} (h:l.gy bY fun l'=>Ev c l' [] (pE bY c K)):Ev (.loop bY c) l us K:=by
 unfold LS.gy at h;obtain⟨l',h1,h2⟩:=Ps l bY bY [] fun l'=>Ev c l' [] (pE bY c K);rw[h1]at h;have aV:l'.of=Wr.gy bY l.of:=by
  funext s
  rw[h2 s,Ye];rfl
 obtain⟨ex,l2,L6,h3,h4⟩:=h;rw[aV]at h3;cases ex with
 |nx=>
  obtain⟨ex3,l3,us3,h5,h6⟩:=h4;exact⟨ex3,l3,us3,Zm5 (f:=fun s=>den c ⟨Wr.gy bY s.σ,[]⟩) h3 h5,h6⟩
 |exit id=>exact⟨_,l2,L6,Yi (f:=fun s=>den c ⟨Wr.gy bY s.σ,[]⟩) h3 (by simp),h4⟩
 |ret=>exact⟨_,l2,L6,Yi (f:=fun s=>den c ⟨Wr.gy bY s.σ,[]⟩) h3 (by simp),h4⟩
def Dm {β:Type}:Nat->List Arg->LS->(LS->β)->β
 |_,[],l,k=>k l
 |i,a::as,l,k=>l.put i (a.av i) fun l=>Dm (i+1) as l k
theorem OQ {β:Type}:∀(as:List Arg) (i:Nat) (l:LS) (k:LS->β),∃l',Dm i as l k=k l'/\l'.of=pB i as l.of
 |[],i,l,k=>⟨l,rfl,rfl⟩
 |a::as,i,l,k=>by
  simp only[Dm,pB];obtain⟨l1,h1,h2⟩:=LS.put_eq l i (a.av i) fun l=>Dm (i+1) as l k;obtain⟨l2,h3,h4⟩:=OQ as (i+1) l1 k;exact⟨l2,h1.trans h3,by rw[h4,h2]⟩
def afe (f:aI) (o:Out):Ex->LS->List Nat->Prop
 |.exit _,_,_=>False
 |_,l,_=>∃l',(leave f).ev l=some (o,l')
theorem WS (f:aB):∃g,g=f:=⟨f,rfl⟩
noncomputable def lock (f:aB):aB:=Classical.choose (WS f)
theorem rX (f:aB):lock f=f:=Classical.choose_spec (WS f)
theorem aP {f:aI}{as:List Arg}{o:Out} (h0:E6 f as=true) (h:Dm 0 as [] fun l=>Ev f.code l [] (afe f o)):lock (aQ f) as=some o:=by
 rw[rX];obtain⟨l,h1,h2⟩:=OQ as 0 [] fun l=>Ev f.code l [] (afe f o);rw[h1]at h;obtain⟨ex,l',ed,h3,h4⟩:=h;rw[h2]at h3;have h5:(LS.of []:St)=fun _=>AV.u:=rfl;rw[h5]at h3;unfold aQ;rw[if_pos h0,h3];cases ex with
 |exit id=>exact h4.elim
 |nx=>
  obtain⟨l2,h6⟩:=h4;simp only[qa _ h6]
 |ret=>
  obtain⟨l2,h6⟩:=h4;simp only[qa _ h6]
section
variable {id i:Nat}{d:Option Nat}{op:jr}{os:List aY}{l l1 l2:LS}{K:Unit->LS->Prop}{s:Nat}{b want:Bool}{r w:List Nat}{fs:List (List Nat×List Nat)}{kl:List Nat}
theorem Z9l {e:Nat} (hg:l.get s=.x (.b b)) (ht:b=want):(aY.exec e ⟨d,op,some (s,want),kl⟩).ev l=(aY.exec e ⟨d,op,none,kl⟩).ev l:=by
 simp only[aY.exec,aY.go,Bind.bind,ch,Pg.rd,El,ja,hg,ht,if_true]
theorem Z9i {e:Nat} (hg:l.get s=.x (.b b)) (ht:b= !want):(aY.exec e ⟨d,op,some (s,want),kl⟩).ev l=((dE d (.dj 0)).bind fun _=>forget kl).ev l:=by
 have bC:b≠want:=by subst ht;cases want<;>simp
 simp only[aY.exec,aY.go,Bind.bind,ch,Pg.rd,El,ja,hg,if_neg bC]
theorem Z9m {e:Nat} (hr:r.contains s=true) (hg:l.get s=.x (.b b)) (ht:b=want):((aY.exec e ⟨d,op,some (s,want),kl⟩).within r w).ev l=((aY.exec e ⟨d,op,none,kl⟩).within r w).ev l:=by
 simp only[aY.exec,aY.go,Bind.bind,fj,ch,Pg.rd,Pg.within,hr,if_true,El,ja,hg,ht]
theorem Z9j {e:Nat} (hr:r.contains s=true) (hg:l.get s=.x (.b b)) (ht:b= !want):((aY.exec e ⟨d,op,some (s,want),kl⟩).within r w).ev l=(((dE d (.dj 0)).bind fun _=>forget kl).within r w).ev l:=by
 have bC:b≠want:=by subst ht;cases want<;>simp
 simp only[aY.exec,aY.go,Bind.bind,fj,ch,Pg.rd,Pg.within,hr,if_true,El,ja,hg,if_neg bC]
def L5 (s:Nat):List aY->(Nat->Prop)->Prop
 |[],k=>k 0
 |o::os,k=>match o.op with
  |.pick (.t c) _ _=>bif Nat.beq c s then k 1 else L5 s os fun n=>k (n+1)
  |_=>L5 s os fun n=>k (n+1)
def Tm:List aY->(Nat->Prop)->Prop
 |[],k=>k 0
 |[o],k=>match o.d with|some d=>k d|none=>k 0
 |_::os,k=>Tm os k
def LS.Hj:LS->Nat->AV->LS
 |[],_,_=>[]
 |(a,b)::l,s,v=>bif Nat.beq a s then(a,v)::l else(a,b)::LS.Hj l s v
def LS.Bn {β:Type}:LS->Nat->AV->(LS->β)->β
 |[],_,_,k=>k []
 |(a,b)::l,s,v,k=>bif Nat.beq a s then k ((a,v)::l) else LS.Bn l s v fun l'=>k ((a,b)::l')
theorem PF {β:Type}:∀(l:LS) (s:Nat) (v:AV) (k:LS->β),l.Bn s v k=k (l.Hj s v)
 |[],_,_,_=>rfl
 |(a,b)::l,s,v,k=>by
  simp only[LS.Bn,LS.Hj];cases Nat.beq a s with
  |true=>rfl
  |false=>simp only[cond_false];rw[PF l s v]
theorem EW:∀(l:LS) (s:Nat) (v:AV),l.get s=v->l.Hj s v=l
 |[],_,_,_=>rfl
 |(a,b)::l,s,v,h=>by
  simp only[LS.get,LS.Hj]at h⊢;cases hb:Nat.beq a s with
  |true=>rw[hb]at h;simp only[cond_true]at h⊢;rw[h]
  |false=>rw[hb]at h;simp only[cond_false]at h⊢;rw[EW l s v h]
end
theorem Z5t {c:aL}{a b:eB}{t:Bool}{l l1:LS}{us:List Nat}{K:Ex->LS->List Nat->Prop} (h:(raw 0 c).ev l=some (.x (.b t),l1)) (ht:t=true) (h1:Ev a l us K):Ev (.cond c a b) l us K:=
 Ox h (fun _=>h1) (fun h2=>by rw[ht]at h2;cases h2)
theorem Z5s {c:aL}{a b:eB}{t:Bool}{l l1:LS}{us:List Nat}{K:Ex->LS->List Nat->Prop} (h:(raw 0 c).ev l=some (.x (.b t),l1)) (ht:t=false) (h1:Ev b l us K):Ev (.cond c a b) l us K:=
 Ox h (fun h2=>by rw[ht]at h2;cases h2) (fun _=>h1)
theorem fin {f:aI}{o o':Out}{l l':LS} (h:(leave f).ev l=some (o',l')) (ho:o'=o):∃l',(leave f).ev l=some (o,l'):=⟨l',by rw[h,ho]⟩
theorem EQ {β:Type} (l:LS) (full:List Nat):∀(ks:List Nat) (acc:LS) (k:LS->β),rK l full ks acc k=k (rK l full ks acc fun x=>x)
 |[],acc,k=>rfl
 |s::ks,acc,k=>by
  simp only[rK];split
  ·have h5:∀(l1:LS),rK l full ks l1 k=k (rK l full ks l1 fun x=>x):=fun l1=>EQ l full ks l1 k;simp only[h5];exact Pj acc s _ (fun l1=>rK l full ks l1 fun x=>x) k
  ·exact EQ l full ks acc k
theorem jS {bY:List Nat}{c:eB}{l:LS}{us:List Nat}{K:Ex->LS->List Nat->Prop}{α:Type} (S:Nat->α->LS) (Inv:Nat->α->Prop) (n:Nat) (x0:α) (h0:Inv 0 x0) (hS:(l.gy bY fun x=>x)=S 0 x0)
  (step:∀i x,i<=n->Inv i x->(∀x',i<n->Inv (i+1) x'->∀l' ed,(l'.gy bY fun x=>x)=S (i+1) x'->pE bY c K .nx l' ed)->Ev c (S i x) [] (pE bY c K)):Ev (.loop bY c) l us K:=by
 have key:∀(d i:Nat) (x:α) (l:LS) (us:List Nat),i+d=n->Inv i x->(l.gy bY fun x=>x)=S i x->Ev (.loop bY c) l us K:=by
  intro d
  induction d with
  |zero=>
   intro i x l us hi hx hl;refine Oy ?_;unfold LS.gy at hl⊢;rw[EQ,hl];exact step i x (by omega) hx fun x' aF=>by omega
  |succ d ih=>
   intro i x l us hi hx hl;refine Oy ?_;unfold LS.gy at hl⊢;rw[EQ,hl];exact step i x (by omega) hx fun x' aF jh l' ed kr=>ih (i+1) x' l' ed (by omega) jh kr
 exact key n 0 x0 l us (by omega) h0 hS
section
variable {id i:Nat}{d:Option Nat}{os:List aY}{l l1 l2:LS}{K:Unit->LS->Prop}{r w:List Nat}{fs:List (List Nat×List Nat)}{sz:Nat}{x ix:aL}{k:IntKind}{n:Int}{es:List T}{t:T}{kl:List Nat}
end
section
variable {id i:Nat}{d:Option Nat}{os:List aY}{l l1 l2:LS}{K:Unit->LS->Prop}{r w:List Nat}{fs:List (List Nat×List Nat)}{kl:List Nat}
def LI (c:RC) (p:List Nat) (off:Nat) (node:T) (new:List T):Bool:=c.rH p&&Nat.ble (off+new.length) node.cells.length&& !new.isEmpty&&new.all T.yn&& !(new.any T.pinned)
theorem XF {e:Nat}{c:RC}{p:List Nat}{off:Nat}{new:List T}{node t:T}{k:Wr.K} (hn:c.t.aM p=some node) (hm:c.t.eO p=true) (bf:LI c p off node new=true)
  (hk:(bif (sub node.cells off new.length).all T.scalar&&new.all T.scalar then c.k else bump e c p)=k) (ht:c.t.put p (node.jo (fG node.cells off new))=t):putCells e c p off new=some {c with k:=k,t:=t}:=by
 unfold LI at bf;simp only[Y8]at bf;obtain⟨⟨⟨⟨h1,h2⟩,h3⟩,h4⟩,h5⟩:=bf;unfold putCells;simp only[hn,h1,hm,decide_eq_true (qM h2),h3,h4,h5,gX,if_true,ht]
 congr 2
 rw[<-hk];cases((sub node.cells off new.length).all T.scalar&&new.all T.scalar)<;>rfl
end
def iJ {α:Type} (f:α->T) (z:T) (l:List α) (i:Nat):List T:=(l.take i).map f++List.replicate (l.length-i) z
theorem IF {α:Type} (f:α->T) (z:T) (l:List α):iJ f z l 0=List.replicate l.length z:=by simp[iJ]
theorem IB {α:Type} (f:α->T) (z:T) (l:List α) {i:Nat} (h:l.length<=i):iJ f z l i=l.map f:=by
 simp[iJ,p8 h,Nat.sub_eq_zero_of_le h]
theorem ID {α:Type} (f:α->T) (z:T) (l:List α) {i:Nat} (h:i<=l.length):(iJ f z l i).length=l.length:=by
 simp[iJ];omega
theorem IC {α:Type} (f:α->T) (z:T) (l:List α) {i:Nat} (h:i<l.length):(iJ f z l i)[i]?=some z:=by
 unfold iJ;rw[kD (by simp;omega)];simp[Nat.min_eq_left (Nat.le_of_lt h),List.getElem?_replicate];omega
theorem IE {α:Type} (f:α->T) (z:T) (l:List α) {i:Nat}{x:α} (h:l[i]?=some x):(iJ f z l i).set i (f x)=iJ f z l (i+1):=by
 obtain⟨hi,rfl⟩:=bt.1 h;unfold iJ;have hl:((l.take i).map f).length=i:=by simp;omega
 rw[List.set_append_right _ _ (by omega),hl,Nat.sub_self,List.take_succ_eq_append_getElem hi,kh,gY]
 congr 1
 obtain⟨m,hm⟩:∃m,l.length-i=m+1:=⟨l.length-i-1,by omega⟩
 rw[hm,show l.length-(i+1)=m by omega,List.replicate_succ];rfl
section
variable {id i:Nat}{d:Option Nat}{os:List aY}{l l1 l2:LS}{K:Unit->LS->Prop}{r w:List Nat}{fs:List (List Nat×List Nat)}{kl:List Nat}
end
inductive Ty where
 |i (k:IntKind)
 |b
 |s
 |st (fs:List Ty)
 |l (e:Ty)
 deriving Inhabited
mutual
def Ty.size:Ty->Nat
 |.st fs=>DH fs
 |_=>1
def DH:List Ty->Nat
 |[]=>0
 |f::fs=>f.size+DH fs
end
def Ty.agg:Ty->Bool
 |.st _=>true
 |_=>false
mutual
def dU:Ty->List T->Prop
 |.i k,ts=>∃n,ts=[.i k n]/\k.min<=n/\n<=k.max
 |.b,ts=>∃x,ts=[.b x]
 |.s,ts=>∃x,ts=[.s x]/\x.size<=maxLen
 |.st fs,ts=>rP fs ts
 |.l e,ts=>∃es,ts=[.l .n e.size es]/\es.length<=maxLen/\∀x∈es,∃cs,dU e cs/\x=sf e.agg cs
def rP:List Ty->List T->Prop
 |[],ts=>ts=[]
 |f::fs,ts=>∃a b,ts=a++b/\dU f a/\rP fs b
end
mutual
def pO (P:Program):TypeId->Ty->Bool
 |t,.i k=>(match P.underlying t with|some (.int k')=>decide (k'=k)|_=>false)&&P.cellsOf t==1
 |t,.b=>(match P.underlying t with|some .bool=>true|_=>false)&&P.cellsOf t==1
 |t,.s=>(match P.underlying t with|some .string=>true|_=>false)&&P.cellsOf t==1
 |t,.st fs=>(match P.underlying t with|some (.struct ff)=>CN P ff.toList fs 0|_=>false)&&P.cellsOf t==DH fs
 |t,.l e=>(match P.underlying t with|some (.slice t')=>pO P t' e&&decide (0<e.size)|_=>false)&&P.cellsOf t==1
def CN (P:Program):List Field->List Ty->Nat->Bool
 |[],[],_=>true
 |f::ff,e::es,off=>f.offset==off&&pO P f.type e&&CN P ff es (off+e.size)
 |_,_,_=>false
end
theorem ZM {P:Program}{t:TypeId}{e:Ty} (h:pO P t e=true):P.cellsOf t=e.size:=by
 cases e<;>simp only[pO,Y8,beq_iff_eq]at h<;>exact h.2
theorem O0 {α β:Type}{f:α->Option β}:∀{l:List α}{ys:List β},l.mapM f=some ys->ys.length=l.length/\∀(i:Nat) x,l[i]?=some x->∃y,ys[i]?=some y/\f x=some y
 |[],ys,h=>by simp at h;subst h;exact⟨rfl,fun i x h=>by simp at h⟩
 |a::l,ys,h=>by
  rw[List.mapM_cons]at h;cases ha:f a with
  |none=>simp[ha]at h
  |some b=>
   cases hl:l.mapM f with
   |none=>simp[ha,hl]at h
   |some bs=>
    simp[ha,hl]at h;subst h;obtain⟨h1,h2⟩:=O0 hl;refine⟨by simp[h1],fun i x hx=>?_⟩;cases i with
    |zero=>simp at hx;subst hx;exact⟨b,rfl,ha⟩
    |succ i=>exact h2 i x (by simpa using hx)
def qh (w:World):Nat->Ow:=fun b=>if b<w.heap.size then .z else .no
theorem XZ {ae:Nat->FuncId}{mv:Nat->Value}{w:World}{ow:Nat->Ow}:∀(a:List T) {b:List T}{k k':Nat}{u v:List Value},bZ ae mv w ow none k a u->bZ ae mv w ow none k' b v->bZ ae mv w ow none k (a++b) (u++v)
 |[],b,k,k',u,v,h1,h2=>by
  simp only[bZ]at h1;subst h1;have:∀(b:List T) (k k':Nat) (v:List Value),bZ ae mv w ow none k' b v->bZ ae mv w ow none k b v:=fun b=>by
   induction b with
   |nil=>intro k k' v h;simpa only[bZ]using h
   |cons t ts ih=>
    intro k k' v h;simp only[bZ]at h⊢;obtain⟨x,rest,rfl,h3,h4⟩:=h;exact⟨x,rest,rfl,h3,ih _ _ _ h4⟩
  exact this b k k' v h2
 |t::a,b,k,k',u,v,h1,h2=>by
  simp only[bZ]at h1;obtain⟨x,rest,rfl,h3,h4⟩:=h1;simp only[gf,bZ];exact⟨x,rest++v,rfl,h3,XZ a h4 h2⟩
section
variable {ae:Nat->FuncId}{mv:Nat->Value}{w:World}
theorem Vs {base:Nat}{a:Addr}{n:Nat}{cs:List Value} (h:w.cells? base a n=some cs) (hn:0<n):cs.length=n/\a.spot=none/\∃aG ty fr,w.heap[a.block]?=some (.cells aG ty fr)/\∀j v,cs[j]?=some v->aG[a.off+j]?=some v:=by
 unfold World.cells? at h;split at h
 ·obtain⟨h1,h2⟩:=O0 h;rw[List.length_range]at h1;obtain⟨y,_,h3⟩:=h2 0 0 (by simp[hn]);have h4:a.add 0=a:=by simp[Addr.add]
  rw[h4]at h3;unfold World.cell? at h3;split at h3
  ·rename_i aG ty fr hh;split at h3
   ·cases h3
   ·rename_i hs;have fY:a.spot=none:=by cases dg:a.spot<;>simp[dg]at hs⊢
    refine⟨h1,fY,aG,ty,fr,hh,fun j v hv=>?_⟩;have hj:j<n:=by have:=(bt.1 hv).1;omega
    obtain⟨y',h5,h6⟩:=h2 j j (by simp[hj]);rw[hv]at h5;cases h5;have ha:a.add j=⟨a.block,a.off+j,none⟩:=by
     obtain⟨b,o,sp⟩:=a;simp only at fY;subst fY;unfold Addr.add;split
     ·rename_i Gt;subst Gt;rfl
     ·rfl
    rw[ha,iZ hh]at h6;exact h6
  ·cases h3
 ·cases h
theorem VN {P:T->Prop}{aG:Array Value}{sz:Nat}:∀(n off:Nat),(∀i,i<n->∃cells x,cells.length=sz/\(∀j v,cells[j]?=some v->aG[off+i*sz+j]?=some v)/\ay ae mv w (qh w) none x cells/\P x)->
  ∃es vs,es.length=n/\(∀k,cw ae mv w (qh w) none sz k es vs)/\(∀x∈es,P x)/\∀(j:Nat) v,vs[j]?=some v->aG[off+j]?=some v
 |0,off,h=>⟨[],[],rfl,fun k=>by simp[cw],fun x hx=>by simp at hx,fun j v hv=>by simp at hv⟩
 |n+1,off,h=>by
  obtain⟨cells,x,h1,h2,h3,h4⟩:=h 0 (by omega);obtain⟨es,vs,h5,h6,h7,h8⟩:=VN n (off+sz) (fun i hi=>by
   obtain⟨cells,x,h1,h2,h3,h4⟩:=h (i+1) (by omega);refine⟨cells,x,h1,fun j v hv=>?_,h3,h4⟩;have:=h2 j v hv;rw[iW]at this;rw[show off+sz+i*sz+j=off+(i*sz+sz)+j by omega];exact this)
  refine⟨x::es,cells++vs,by simp[h5],fun k=>?_,fun y hy=>?_,fun j v hv=>?_⟩
  ·simp only[cw];exact⟨cells,vs,rfl,h1,h3,h6 _⟩
  ·rcases iG.1 hy with rfl|hy
   ·exact h4
   ·exact h7 y hy
  ·by_cases hj:j<sz
   ·rw[nl (by omega)]at hv;have:=h2 j v hv;simpa using this
   ·rw[kD (by omega)]at hv;have:=h8 _ v hv;rw[show off+sz+(j-cells.length)=off+j by omega]at this;exact this
theorem Wk {e:Ty}{cs:List T} (h:dU e cs) (ha:e.agg=false):∃x,cs=[x]/\∀cs,x≠.a cs:=by
 cases e<;>simp only[dU]at h
 case i k=>obtain⟨n,rfl,_⟩:=h;exact⟨_,rfl,by simp⟩
 case b=>obtain⟨n,rfl⟩:=h;exact⟨_,rfl,by simp⟩
 case s=>obtain⟨n,rfl,_⟩:=h;exact⟨_,rfl,by simp⟩
 case st fs=>simp[Ty.agg]at ha
 case l e=>obtain⟨es,rfl,_⟩:=h;exact⟨_,rfl,by simp⟩
theorem PR {H:Type}{mf:TypeId×Value->H}{P:Program}{base:Nat}{spare:Nat->Bool}{held:Bool}:∀(mg:Nat) (e:Ty) {t:TypeId}{cs:List Value}{x:DataW H×List MemPlace},pO P t e=true->
  DataW.trod mf P w base spare held mg t cs=some x->∃ts,dU e ts/\cs.length=e.size/\∀k,bZ ae mv w (qh w) none k ts cs
 |0,e,t,cs,x,cn,h=>by simp[DataW.trod]at h
 |mg+1,.i k,t,cs,x,cn,h=>by
  simp only[pO,Y8]at cn;obtain⟨cn,_⟩:=cn;split at cn
  ·rename_i k' hu;simp only[decide_eq_true_eq]at cn;subst cn;obtain⟨n,rfl,_,hw⟩:=DataW.trod_int hu h;simp only[Lit.wf,Y8,decide_eq_true_eq]at hw;exact⟨[.i k' n],⟨n,rfl,hw.1,hw.2⟩,rfl,fun k=>by simp[bZ,ay]⟩
  ·cases cn
 |mg+1,.b,t,cs,x,cn,h=>by
  simp only[pO,Y8]at cn;obtain⟨cn,_⟩:=cn;split at cn
  ·rename_i hu;obtain⟨n,rfl,_⟩:=DataW.trod_bool hu h;exact⟨[.b n],⟨n,rfl⟩,rfl,fun k=>by simp[bZ,ay]⟩
  ·cases cn
 |mg+1,.s,t,cs,x,cn,h=>by
  simp only[pO,Y8]at cn;obtain⟨cn,_⟩:=cn;split at cn
  ·rename_i hu;obtain⟨n,rfl,_,hl⟩:=DataW.trod_string hu h;exact⟨[.s n],⟨n,rfl,hl⟩,rfl,fun k=>by simp[bZ,ay]⟩
  ·cases cn
 |mg+1,.st fs,t,cs,x,cn,h=>by
  simp only[pO,Y8,beq_iff_eq]at cn;obtain⟨cn,dW⟩:=cn;split at cn
  ·rename_i ff hu;simp only[DataW.trod,hu]at h;split at h
   ·rename_i hl;rw[dW]at hl;cases hm:(ff.toList.mapM fun f=>DataW.trod mf P w base spare held mg f.type ((cs.drop f.offset).take (P.cellsOf f.type))) with
    |none=>simp[hm]at h
    |some ys=>
     obtain⟨h1,h2⟩:=O0 hm;have:∀(gs:List Field) (es:List Ty) (off:Nat),CN P gs es off=true->(∀g∈gs,∃y,DataW.trod mf P w base spare held mg g.type ((cs.drop g.offset).take (P.cellsOf g.type))=some y)->(cs.drop off).length=DH es->
       ∃ts,rP es ts/\∀k,bZ ae mv w (qh w) none k ts (cs.drop off):=by
      intro gs
      induction gs with
      |nil=>
       intro es off hf _ hlen;cases es with
       |nil=>simp only[DH]at hlen;rw[iY.1 hlen];exact⟨[],by simp[rP],fun k=>by simp[bZ]⟩
       |cons e es=>simp[CN]at hf
      |cons g gs ih=>
       intro es off hf dD hlen;cases es with
       |nil=>simp[CN]at hf
       |cons e es=>
        simp only[CN,Y8,beq_iff_eq]at hf;obtain⟨⟨h3,h4⟩,h5⟩:=hf;simp only[DH]at hlen;obtain⟨y,h6⟩:=dD g fe;obtain⟨ts,h7,h8,h9⟩:=PR mg e h4 h6;obtain⟨Uu,eU,lP⟩:=ih es (off+e.size) h5 (fun g' hg=>dD g' (fJ _ hg)) (by simp at hlen⊢;omega);refine⟨ts++Uu,by simp only[rP];exact⟨ts,Uu,rfl,h7,eU⟩,fun k=>?_⟩;have sv:=XZ ts (h9 k) (lP 0);rw[h3,ZM h4]at sv;have vo:(cs.drop off).take e.size++cs.drop (off+e.size)=cs.drop off:=by
         rw[<-List.drop_drop];exact uG _ _
        rw[vo]at sv;exact sv
     obtain⟨ts,h3,h4⟩:=this ff.toList fs 0 cn (fun g hg=>by
      obtain⟨i,hi⟩:=gZ.1 hg;obtain⟨y,_,hy⟩:=h2 i g hi;exact⟨y,hy⟩) (by simpa using hl)
     exact⟨ts,h3,hl,by simpa using h4⟩
   ·cases h
  ·cases cn
 |mg+1,.l e,t,cs,x,cn,h=>by
  simp only[pO,Y8,beq_iff_eq]at cn;obtain⟨cn,dW⟩:=cn;split at cn
  ·rename_i t' hu;simp only[Y8,decide_eq_true_eq]at cn;obtain⟨vc,oL⟩:=cn;have dR:=ZM vc;rcases DataW.trod_slice hu h with⟨rfl,_⟩|⟨a,len,cap,aal,rest,n,hn,rfl,_,_,hle,hQ,sn,dD,_,_⟩
   ·refine⟨[.l .n e.size []],⟨[],rfl,by simp,by simp⟩,rfl,fun k=>?_⟩;simp only[bZ,ay];exact⟨_,[],rfl,⟨fun x=>by simp[Ob.own]at x,none,0,rfl,by simp,(fun _ hk=>by cases hk),rfl⟩,rfl⟩
   ·obtain rfl:n=mg:=by omega
    by_cases tW:len=0
    ·subst tW;refine⟨[.l .n e.size []],⟨[],rfl,by simp,by simp⟩,rfl,fun k=>?_⟩;simp only[bZ,ay];exact⟨_,[],rfl,⟨fun x=>by simp[Ob.own]at x,some a,cap,rfl,by simp,(fun _ hk=>by cases hk),fun jZ=>by rcases jZ with x|x<;>simp[Ob.own]at x⟩,rfl⟩
    ·have gL:∀i,i<len->∃cells y,w.cells? base (a.add (i*P.cellsOf t')) (P.cellsOf t')=some cells/\DataW.trod mf P w base spare held n t' cells=some y:=fun i hi=>by
      have h1:=dD i hi;rw[bF (by omega)]at h1;obtain⟨cells,h2,h3⟩:=gG.1 h1;exact⟨cells,_,h2,h3⟩
     rw[dR]at gL;obtain⟨c0,_,h0,_⟩:=gL 0 (by omega);have Gf:a.add (0*e.size)=a:=by simp[Addr.add]
     rw[Gf]at h0;obtain⟨_,S2,aG,ty,fr,hh,_⟩:=Vs h0 oL;have xE:∀m,a.add m=⟨a.block,a.off+m,none⟩:=fun m=>by
      obtain⟨b,o,sp⟩:=a;simp only at S2;subst S2;unfold Addr.add;split
      ·rename_i Gt;subst Gt;rfl
      ·rfl
     obtain⟨es,vs,h5,h6,h7,h8⟩:=VN (ae:=ae) (mv:=mv) (w:=w) (P:=fun x=>∃cs,dU e cs/\x=sf e.agg cs) (aG:=aG) (sz:=e.size) len a.off (fun i hi=>by
      obtain⟨cells,y,h1,h2⟩:=gL i hi;obtain⟨dV,_,fy,Uv,Qc,lf,de⟩:=Vs h1 oL;rw[xE]at lf de;simp only at lf de;rw[hh]at lf;cases lf;obtain⟨ts,h3,_,h4⟩:=PR n e vc h2;refine⟨cells,sf e.agg ts,dV,fun j v hv=>de j v hv,?_,ts,h3,rfl⟩;unfold sf;split
      ·simp only[ay];exact h4 0
      ·rename_i tQ;obtain⟨x,rfl,_⟩:=Wk h3 (by simpa using tQ);have:=h4 0;simp only[bZ]at this;obtain⟨v,rest,rfl,h9,rfl⟩:=this;exact h9)
     refine⟨[.l .n e.size es],⟨es,rfl,by omega,h7⟩,rfl,fun k=>?_⟩;simp only[bZ,ay];refine⟨_,[],rfl,⟨fun x=>by simp[Ob.own]at x,some a,cap,by rw[h5],by omega,(fun _ hk=>by cases hk),fun _=>⟨S2,?_,aG,ty,fr,vs,hh,fun x=>by simp[Ob.own]at x,h8,h6 0⟩⟩,rfl⟩;have:a.block<w.heap.size:=by
      rcases js a.block w.heap.size with h|h
      ·exact h
      ·rw[Array.getElem?_eq_none h]at hh;cases hh
     simp[qh,this,Ob.loc,Ob.own,Loc.ow]
  ·cases cn
end
open Go.ChangeShapes
def JZ:Ty->List T->Arg
 |.st _,ts=>.st ts
 |_,ts=>.x (ts.headD .u)
def agf (e:Ty) (x:Arg):Prop:=∃ts,dU e ts/\x=JZ e ts
def DN:List Ty->List Arg->Prop
 |[],as=>as=[]
 |e::es,as=>∃x xs,as=x::xs/\agf e x/\DN es xs
def pP (P:Program):List TypeId->List Ty->Bool
 |[],[]=>true
 |t::ts,e::es=>pO P t e&&P.readableRec t&&decide (t<P.types.size)&&pP P ts es
 |_,_=>false
section
variable {H:Type}{mf:TypeId×Value->H}{P:Program}{ae:Nat->FuncId}{W W':World}
theorem Gr {base:Nat}{e:Ty}{t:TypeId}{v:Value} (cn:pO P t e=true) (bf:Value.okWide P W .any base t v) {ts:List T} (oP:dU e ts) (hr:∀k,bZ ae eZ W (qh W) none k ts v.cells.toList) (i:Nat):
  oZ ae W (qh W) i (JZ e ts) v:=by
 have Lm:e.agg=false->(∀cs,v≠.agg cs)->oZ ae W (qh W) i (.x (ts.headD .u)) v:=fun ha hv=>by
  obtain⟨x,rfl,_⟩:=Wk oP ha;have hc:v.cells=#[v]:=by cases v<;>first|rfl|exact absurd rfl (hv _)
  have:=hr 0;rw[hc]at this;simp only[bZ]at this;obtain⟨u,rest,h1,h2,h3⟩:=this;simp at h1;obtain⟨rfl,rfl⟩:=h1;exact h2
 have dR:e.agg=false->∀cs,v≠.agg cs:=fun ha cs hv=>by
  subst hv;unfold Value.okWide at bf;cases e<;>simp only[pO,Y8,Ty.agg,Bool.true_eq_false]at cn ha;all_goals
   obtain⟨cn,_⟩:=cn;split at cn<;>first|(cases cn;done)|skip
   rename_i hu;simp[hu,Cell.okWide,Cell.ok]at bf
 cases e with
 |st fs=>
  simp only[pO,Y8]at cn;obtain⟨cn,_⟩:=cn;split at cn
  ·rename_i ff hu;unfold Value.okWide at bf;simp only[hu]at bf;obtain⟨cs,rfl,_⟩:=bf;exact⟨cs,rfl,hr 0⟩
  ·cases cn
 |i k=>exact Lm rfl (dR rfl)
 |b=>exact Lm rfl (dR rfl)
 |s=>exact Lm rfl (dR rfl)
 |l e=>exact Lm rfl (dR rfl)
theorem U3 {base alG:Nat}{sp:Nat->Bool}{held:Bool}:∀(es:List Ty) (ts:List TypeId) (vs:List Value) {ds:List (DataW H)}{ps:List MemPlace} (i:Nat),pP P ts es=true->(∀(j:Nat) t v,ts[j]?=some t->vs[j]?=some v->Value.okWide P W .any base t v)->
  DataW.TrodAll mf P W alG sp held ts vs ds ps->∃as,DN es as/\vs.length=as.length/\∀(k:Nat) x v,as[k]?=some x->vs[k]?=some v->oZ ae W (qh W) (i+k) x v
 |[],[],vs,ds,ps,i,cn,bf,h=>by
  obtain⟨rfl,_,_⟩:=trodAll_nil h;exact⟨[],rfl,rfl,fun k x v hx=>by simp at hx⟩
 |[],_::_,vs,ds,ps,i,cn,bf,h=>by simp[pP]at cn
 |_::_,[],vs,ds,ps,i,cn,bf,h=>by simp[pP]at cn
 |e::es,t::ts,vs,ds,ps,i,cn,bf,h=>by
  obtain⟨v,bE,d,P8,p,q,rfl,rfl,rfl,h1,h2⟩:=trodAll_cons h;simp only[pP,Y8]at cn;obtain⟨as,h3,h4,h5⟩:=U3 es ts bE (i+1) cn.2 (fun j t' v' hj hv=>bf (j+1) t' v' (by simpa using hj) (by simpa using hv)) h2;obtain⟨mg,h6⟩:=h1;obtain⟨tt,h7,_,h8⟩:=PR (ae:=ae) (mv:=eZ) mg e cn.1.1.1 h6;refine⟨JZ e tt::as,⟨_,_,rfl,⟨tt,h7,rfl⟩,h3⟩,by simp[h4],fun k x u hx hu=>?_⟩;cases k with
  |zero=>
   simp at hx hu;subst hx hu;exact Gr cn.1.1.1 (bf 0 t v rfl rfl) h7 h8 _
  |succ k=>
   have:=h5 k x u (by simpa using hx) (by simpa using hu);rw[show i+(k+1)=i+1+k by omega];exact this
theorem U4 (iC:laidOutB P=true) {A7:Nat->Bool}:∀(es:List Ty) (ts:List TypeId) (vs:List Value) {ds:List (DataW H)}{ps:List MemPlace},pP P ts es=true->DataW.TrodAll mf P W 0 (fun _=>true) true ts vs ds ps->(∀p∈ps,W.sameAt W' p)->(∀p∈ps,A7 p.block=true)->
  DataW.TrodAll mf P W' 0 A7 true ts vs ds ps
 |[],[],vs,ds,ps,cn,h,_,_=>by
  obtain⟨rfl,rfl,rfl⟩:=trodAll_nil h;rfl
 |[],_::_,vs,ds,ps,cn,h,_,_=>by simp[pP]at cn
 |_::_,[],vs,ds,ps,cn,h,_,_=>by simp[pP]at cn
 |e::es,t::ts,vs,ds,ps,cn,h,hs,hp=>by
  obtain⟨v,bE,d,P8,p,q,rfl,rfl,rfl,h1,h2⟩:=trodAll_cons h;simp only[pP,Y8,decide_eq_true_eq]at cn;exact⟨p,q,WideElems.Trod_stays iC cn.1.1.2 cn.1.2 h1 (fun x hx=>hs x (pf _ hx)) (fun x hx=>hp x (pf _ hx)),
   U4 iC es ts bE cn.2 h2 (fun x hx=>hs x (nX _ hx)) (fun x hx=>hp x (nX _ hx)),rfl⟩
def Up (P:Program) (fn:Func):Bool:=
 match fn.resultTypes.toList with
 |[tb]=>match P.underlying tb with
  |some .bool=>true
  |_=>false
 |_=>false
theorem Zlr {P:Program}{fn:Func} (h:Up P fn=true):∃tb,fn.resultTypes=#[tb]/\P.underlying tb=some .bool:=by
 unfold Up at h;split at h
 ·rename_i tb hl;split at h
  ·rename_i hu;exact⟨tb,by rw[<-Array.toArray_toList (xs:=fn.resultTypes),hl],hu⟩
  ·cases h
 ·cases h
theorem U1:∀{es:List Ty}{as:List Arg}{i g:Nat},DN es as->as[i]?=some (.fb g)->False
 |[],as,i,g,h,hi=>by cases h;simp at hi
 |e::es,as,i,g,h,hi=>by
  obtain⟨x,xs,rfl,⟨ts,_,rfl⟩,h2⟩:=h;cases i with
  |zero=>
   simp only[kE,aR]at hi;cases e<;>simp[JZ]at hi
  |succ i=>exact U1 h2 (by simpa using hi)
theorem Zdg (iC:laidOutB P=true) {g:Nat}{f:FuncId}{F:aB}{fn:Func} (hF:ik P ae g F) (hg:ae g=f) {es:List Ty} (cn:pP P fn.params.toList es=true) (aoh:Up P fn=true)
  (ant:∀as,DN es as->F as=some ⟨[.one (.b true)],[]⟩) {s:ChangeSpec} (va:s.vars=[]) (S1:∀ds:List (DataW H),ds.length=es.length->s.fn H ds={results:=[.lit (.bool true)],args:=ds})
  {base:Nat}{args:Array Value}{ds gs:List (DataW H)}{before:List MemPlace} (cC:∀(j:Nat) t v,fn.params[j]?=some t->args[j]?=some v->Value.okWide P W .any base t v) (hW:DataW.Whole mf P fn.params.toList s.vars false W args.toList ds gs before):
  Calls P f args W fun e W'=>∃v,e=.returned v/\s.post mf P fn false true false false W args v W':=by
 obtain⟨tb,sI,htb⟩:=Zlr aoh;have q5:=hW;obtain⟨p,q,hA,hV,rfl,pw,oJ⟩:=hW;rw[va]at hV;obtain⟨rfl,rfl⟩:=trodVars_none hV;obtain⟨as,h1,h2,h3⟩:=U3 (ae:=ae) es fn.params.toList args.toList 0 cn (fun j t v hj hv=>cC j t v (by simpa using hj) (by simpa using hv)) hA;have Ar:∀(ts:List TypeId) (vs:List Value) (ds:List (DataW H)) (ps:List MemPlace) (es:List Ty),pP P ts es=true->DataW.TrodAll mf P W 0 (fun _=>true) true ts vs ds ps->ds.length=es.length:=by
  intro ts
  induction ts with
  |nil=>
   intro vs ds ps es ht h;obtain⟨_,rfl,_⟩:=trodAll_nil h;cases es with
   |nil=>rfl
   |cons=>simp[pP]at ht
  |cons t ts ih=>
   intro vs ds ps es ht h;obtain⟨v,bE,d,P8,p,q,rfl,rfl,rfl,_,h2⟩:=trodAll_cons h;cases es with
   |nil=>simp[pP]at ht
   |cons e es=>
    simp only[pP,Y8]at ht;simp[ih bE P8 q es ht.2 h2]
 have hlen:=Ar _ _ _ _ _ cn hA;have Da:=hF as args.toList W (qh W) _ (ant as h1) h2 (fun i x v hx hv=>by have:=h3 i x v hx hv;rwa [db]at this) (fun b hb=>by
  unfold qh at hb;split at hb
  ·assumption
  ·exact absurd rfl hb) (fun b r q hb=>by unfold qh at hb;split at hb<;>cases hb) (fun i g hi=>(U1 h1 hi).elim)
 rw[hg]at Da;refine Calls.mono Da fun e W' he=>?_;cases e with
 |panicked c=>exact he.elim
 |outgrown=>exact he.elim
 |returned v=>
  obtain⟨ap,Ah⟩:=he;have hv:v=.bool true:=by
   have:=Ah.dG;simpa[nU,jP,ay]using this
  subst hv;have iO:∀b,b<W.heap.size->W'.heap[b]?=W.heap[b]?:=fun b hb=>(Ah.z b (by simp[qh,hb])).2;have aF:∀x∈p++[],x.block<W.heap.size:=fun x hx=>q5.lt x hx;rw[nW]at aF;have aol:∀x∈p,W.sameAt W' x:=fun x hx=>by
   have h5:=iO x.block (aF x hx);cases x with
   |cell b o=>simp only[World.sameAt,World.cell?];rw[show W'.heap[b]?=W.heap[b]? from h5]
   |map b=>exact h5
  refine⟨_,rfl,ds,[],p++[],[],p,[],q5,?_,?_,?_,?_,fun h=>by cases h⟩
  ·rw[nW,S1 ds hlen,sI];refine trodAll_mk1 (v:=.bool true) ⟨1,?_⟩;simp[DataW.trod,htb,Value.cells]
  ·rw[nW,S1 ds hlen];exact U4 iC es _ _ cn hA aol (fun x hx=>by simpa using aF x hx)
  ·rw[nW,S1 ds hlen,va];rfl
  ·refine⟨Ah.os,Ah.output,fun i hi=>?_⟩;rw[iO i hi];cases W.heap[i]? with
   |none=>rfl
   |some o=>cases o<;>first|exact⟨rfl,rfl,rfl,fun _ _=>rfl⟩|exact .inr ⟨rfl,rfl⟩|rfl
end
end Go.Wr
namespace Go.Wr
def pH (M:Nat->Option (Nat×List Nat)) (G:Nat->Option (List Nat)) (mu:Bool) (ow:Nat->Ow):Nat->Ow:=fun b=>
 match ow b with
 |.no=>.no
 |.z=>.z
 |.own (.sl s) q=>if mu&&s==0 then .own (.ar 0) q else .no
 |.own (.ar n) q=>match M n with
  |some (j,p)=>.own (.rs j) (p++q)
  |none=>match G n with
   |some p=>.own (.ar 0) (p++q)
   |none=>.no
 |.own (.rs _) _=>.no
section
variable {X:Cx}{U:Nat->Prop}{J J':Nat}{σ aj aX:St}{a a' a2:Act}{w w' w2:World}{ow ap aU:Nat->Ow}{e:Nat}{o:Oper}
variable {M:Nat->Option (Nat×List Nat)}{G:Nat->Option (List Nat)}{mu:Bool}
theorem EM:Zs w ow w (pH M G mu ow):=fun b hb=>⟨by simp[pH,hb],rfl⟩
theorem O8 {n j:Nat}{p:List Nat} (hM:M n=some (j,p)):Tr w ow w (pH M G mu ow) (some (.ar n,[])) (some (.rs j,p)):=fun b q hb=>⟨by simp only[eC]at hb;simp[pH,hb,hM],rfl⟩
theorem Znp (ct:X.mv=eZ) {B j:Nat}{r:RV}{v:Value} (h:rR X w ow B M j r v):jP X.ae w (pH M G mu ow) j r v:=by
 unfold rR at h;rw[ct]at h;cases r with
 |bx cs=>
  obtain⟨n,_,h1,h2⟩:=h;exact h2.tr EM (O8 h1)
 |one t=>
  obtain⟨n,_,h1,h2⟩:=h;exact cB EM t (O8 h1) h2
 |st cs=>
  obtain⟨us,ix,rfl,h1,h2⟩:=h;refine⟨us,rfl,pj (by simpa using h1) fun k t u ht hu=>?_⟩;obtain⟨_,h3,h4⟩:=h2 k t u ht (by simpa using hu);rw[db];exact cB EM t (O8 h3) h4
theorem Znn {J1:Nat}{bB:Nat->Ow}{aZ:St} (hg:Gh X U J J1 σ a w ow aZ bB) {j:Nat}{r:RV}{v:Value} (h:rR X w ow J M j r v):rR X w bB J M j r v:=by
 unfold rR at h⊢;cases r with
 |bx cs=>
  obtain⟨n,h0,h1,h2⟩:=h;exact⟨n,h0,h1,h2.tr hg.z fun b q hb=>⟨hg.dw b n _ h0 hb,rfl⟩⟩
 |one t=>
  obtain⟨n,h0,h1,h2⟩:=h;exact⟨n,h0,h1,cB hg.z t (c:=some (.ar n,[])) (fun b q hb=>⟨hg.dw b n _ h0 hb,rfl⟩) h2⟩
 |st cs=>
  obtain⟨us,ix,rfl,h1,h2⟩:=h;refine⟨us,ix,rfl,h1,fun k t u ht hu=>?_⟩;obtain⟨h0,h3,h4⟩:=h2 k t u ht hu;exact⟨h0,h3,cB hg.z t (c:=some (.ar (ix k),[])) (fun b q hb=>⟨hg.dw b (ix k) _ h0 hb,rfl⟩) h4⟩
def gB (ix:Nat->Nat) (len lo:Nat) (i:Nat):Option (List Nat):=if lo<=i then((List.range len).find? (fun j=>ix j==i)).map fun j=>[j] else none
theorem Z9f {ix:Nat->Nat}{len lo j:Nat} (Gs:∀i j,i<len->j<len->ix i=ix j->i=j) (hj:j<len) (iC:lo<=ix j):gB ix len lo (ix j)=some [j]:=by
 unfold gB;rw[if_pos iC];cases h:(List.range len).find? (fun i=>ix i==ix j) with
 |none=>
  have:=BR.1 h j (mN.2 hj);simp at this
 |some i=>
  have h1:=wM h;have h2:=wR h;rw[mN]at h2;have:=Gs i j h2 hj (by simpa using h1);subst this;rfl
theorem Ve {ae:Nat->FuncId}{i:Nat}:∀(as:List Arg) (vs:List Value),vs.length=as.length->as.all Arg.rE=true->∀i,jN ae w ow i as vs []
 |[],[],_,_,i=>trivial
 |[],_::_,h,_,_=>by simp at h
 |_::_,[],h,_,_=>by simp at h
 |x::as,v::vs,hl,h,i=>by
  simp only[nV,Y8]at h;have ih:=Ve (ae:=ae) (i:=i) as vs (by simpa using hl) h.2 (i+1);cases x<;>simp only[Arg.rE,cX]at h<;>first|exact ih|exact h.1.elim
theorem Zdk (h:Rel X U J σ a w ow) (ct:X.mv=eZ) {f:aI}{fn:Func}{as:List Arg}{vs:List Value}{ga:Nat->Ow}{out:Out} (AN:X.ga=lp ga) (dl:∀b,ga b≠.no->b<X.w0.heap.size)
  (kY:X.args=vs.toArray) (my:vs.length<=1000) (hl:vs.length=as.length) (hp:X.cO=f.cO) (bf:E7 f as=true) (hA:∀(i:Nat) x v,as[i]?=some x->vs[i]?=some v->oZ X.ae X.w0 ga i x v)
  (ue:f.dG.length=fn.results.toList.length) (hx:∀(k:Nat) x y,f.dG[k]?=some x->fn.results.toList[k]?=some y->ya X.P x y=true) (aq:(AX f).run σ=some (out,aj)):
  ∃v ap,(Go.results fn a.tmps).run X.P w=.ok v w/\kw X.ae as vs out X.w0 ga w ap v:=by
 unfold AX at aq;obtain⟨rs,aZ,h1,h2⟩:=aW aq;obtain⟨cs,aX,h3,h4⟩:=aW h2;obtain⟨rfl,rfl⟩:=bS h4;unfold E7 at bf;simp only[Y8,beq_iff_eq]at bf;obtain⟨⟨qp,xJ⟩,hm⟩:=bf
 match as,vs,hl,hm,hA with
 |xa::as,v0::vs,hl,hm,hA=>
 simp only[Y8]at hm;obtain⟨xN,hSS⟩:=hm;have rj:=hA 0 xa v0 rfl rfl;obtain⟨us,J1,bB,M0,hJ,hg,xK,iD,S7,vp,Gb,Gc⟩:=Pr f.dG fn.results.toList 0 (fun _=>none) h ue hx h1;have hR:=hg.rel;obtain⟨M,amd,ame,hMr⟩:∃M:Nat->Option (Nat×List Nat),(∀n,J1<=n->M n=none)/\(∀n j p,M n=some (j,p)->j<rs.length)/\∀(k:Nat) r v,rs[k]?=some r->us[k]?=some v->rR X w bB J1 M k r v:=by
  refine⟨fun n=>if n<J1 then M0 n else none,fun n hn=>if_neg (by omega),fun n j p hn=>?_,fun k r v hr hv=>?_⟩
  ·by_cases tY:n<J1
   ·simp only[if_pos tY]at hn;by_cases SH:n<J
    ·rw[vp n SH]at hn;cases hn
    ·have:=Gb n j p (by omega) tY hn;omega
   ·simp only[if_neg tY,reduceCtorEq]at hn
  ·have h5:=Gc k r v hr hv;rw[db]at h5;unfold rR at h5⊢;cases r with
   |bx cs=>
    obtain⟨n,h6,h7,h8⟩:=h5;exact⟨n,h6,by simp only[if_pos h6,h7],h8⟩
   |one t=>
    obtain⟨n,h6,h7,h8⟩:=h5;exact⟨n,h6,by simp only[if_pos h6,h7],h8⟩
   |st cs=>
    obtain⟨vv,ix,h6,h7,h8⟩:=h5;refine⟨vv,ix,h6,h7,fun k t u ht hu=>?_⟩;obtain⟨h9,eU,lP⟩:=h8 k t u ht hu;exact⟨h9,by simp only[if_pos h9,eU],lP⟩
 have uc:bL a 0=v0:=by
  have:=hR.cO 0 (by rw[hp,xJ];simp);unfold bL;rw[if_pos (by omega),Array.getD_eq_getD_getElem?,this,kY];simp
 have fin:∀{J2:Nat}{aU:Nat->Ow}{G:Nat->Option (List Nat)}{mu:Bool},Gh X U J1 J2 aZ a w bB aj aU->jN X.ae w (pH M G mu aU) 0 (xa::as) (v0::vs) [cs]->
   ∃v ap,(Go.results fn a.tmps).run X.P w=.ok v w/\kw X.ae (xa::as) (v0::vs) ⟨rs,[cs]⟩ X.w0 ga w ap v:=fun{J2 aU G mu} fp An=>by
  have mV:=fp.rel;have Gy:∀b,b<X.w0.heap.size->(∀r q,X.ga b≠.own r q)->w.heap[b]?=X.w0.heap[b]?/\aU b=X.ga b:=mV.same;refine⟨_,pH M G mu aU,Yg rfl xK S7,?_,?_,?_,mV.grown,mV.os,mV.output,?_,An,?_⟩
  ·intro b hb;have jd:X.ga b=.z:=by rw[AN];simp[lp,hb]
   obtain⟨h5,h6⟩:=Gy b (dl b (by rw[hb];simp)) (fun r q=>by rw[jd];simp);exact⟨by simp[pH,h6,jd],h5⟩
  ·intro b aF hb;have jd:X.ga b=.no:=by rw[AN];simp[lp,hb]
   obtain⟨h5,h6⟩:=Gy b aF (fun r q=>by rw[jd];simp);exact⟨by simp[pH,h6,jd],h5⟩
  ·intro b hb;exact mV.low b fun e=>hb (by simp[pH,e])
  ·have gL:∀(k:Nat) r v,rs[k]?=some r->us[k]?=some v->jP X.ae w (pH M G mu aU) k r v:=fun k r v h5 h6=>Znp ct (Znn fp (hMr k r v h5 h6));unfold nU
   match rs,us,(iD.trans xK.symm:rs.length=us.length),gL with
   |[r],[v],_,gL=>exact gL 0 r v rfl rfl
   |[],[],_,gL=>exact⟨#[],rfl,rfl,fun j r u hr=>by simp at hr⟩
   |r::r2::rs,v::v2::us,hlen,gL=>exact⟨(v::v2::us).toArray,rfl,by simp at hlen;simp[hlen],fun j r u hr hu=>gL j r u hr (by simpa using hu)⟩
   |[_],_::_::_,hlen,_=>simp at hlen
   |_::_::_,[_],hlen,_=>simp at hlen
   |[],_::_,hlen,_=>simp at hlen
   |_::_,[],hlen,_=>simp at hlen
  ·intro b j q hb;unfold pH at hb;cases dq:aU b with
   |no=>simp[dq]at hb
   |z=>simp[dq]at hb
   |own r q'=>
    rw[dq]at hb;cases r with
    |sl s=>simp only at hb;split at hb<;>cases hb
    |rs s=>cases hb
    |ar n=>
     simp only at hb;split at hb
     ·rename_i j' p Gd;simp only[Ow.own.injEq,aJ.rs.injEq]at hb;have:=ame n j' p Gd;show j<rs.length;omega
     ·split at hb<;>cases hb
 have p5:∀{aU:Nat->Ow},jN X.ae w aU 1 as vs []:=Ve (ae:=X.ae) (i:=1) as vs (by simpa using hl) hSS 1;unfold ZW at h3;obtain⟨av,iU,h5,h6⟩:=aW h3;obtain⟨iK,e3⟩:=jv h5;rw[e3,iK]at h6;have rC:=hR.slot 0;rw[uc]at rC;cases aV:aZ 0<;>rw[aV]at h6 rC<;>try simp only[Pg.run,reduceCtorEq]at h6
 case own k t=>
  cases t<;>try simp only[Pg.run,reduceCtorEq]at h6
  rename_i o sz es;cases o<;>try simp only[Pg.run,reduceCtorEq]at h6
  obtain⟨rfl,rfl⟩:=bS h6;obtain⟨_,cJ⟩:=rC;obtain⟨A,C,hv,_⟩:=mO cJ;cases xa<;>simp only[Arg.GQ,cX]at xN
  case mu t0=>
   refine fin (G:=fun _=>none) (mu:=true) (Gh.refl hR (Nat.le_refl _)) ⟨⟨_,rfl,⟨_,_,rfl⟩,?_⟩,p5⟩;rw[ct]at cJ;exact cB EM _ (c:=some (.sl 0,[])) (c':=some (.ar 0,[])) (fun b q hb=>⟨by simp[pH,hb],rfl⟩) cJ
  case ms cs0=>
   obtain⟨vv,e1,_⟩:=rj;rw[e1]at hv;simp at hv
 case st cells=>
  obtain⟨vv,hv,_⟩:=rC;obtain⟨J2,aU,ix,hJ2,fp,cT⟩:=uM hR (x:=.t 0) (o:=.tmp 0) (by simp[aL.is]) h6;cases xa<;>simp only[Arg.GQ,cX]at xN
  case mu t0=>
   obtain⟨⟨sz,es,rfl⟩,cJ⟩:=rj;obtain⟨A,C,gQ,_⟩:=mO cJ;rw[hv]at gQ;simp at gQ
  case ms cs0=>
   have sA:a.eval (.tmp 0)=v0:=by
    rw[<-uc];exact tf (by omega)
   rw[sA,hv]at cT;refine fin (G:=gB ix cs.length J1) (mu:=false) fp ⟨⟨vv,hv,pj cT.len fun k t u ht hu=>?_⟩,p5⟩;have hk:=(bt.1 ht).1;have hb:=cT.pq k hk;have cJ:=cT.ay k t u ht hu;rw[ct]at cJ;rw[db];refine cB EM t (c:=some (.ar (ix k),[])) (c':=some (.ar 0,[k])) (fun b q r4=>⟨?_,rfl⟩) cJ;simp only[eC]at r4;simp only[pH,r4,amd (ix k) hb.1,Z9f cT.inj hk hb.1]
theorem Z8x {P:Program}{ae:Nat->FuncId}{g:Nat}{f:aI}{fn:Func} (qv:P.follows .mixedOrders=true) (hf:P.funcs[ae g]?=some fn) (vG:CP P ae f fn=true) (hF:∀p∈f.code.calls,ik P ae p.1 p.2):ik P ae g (nu f):=by
 intro as vs w ow out iz hl hA dl j3 Gn;unfold CP at vG;cases hb:fn.body with
 |none=>simp[hb]at vG
 |some c=>
  simp only[hb,Y8,decide_eq_true_eq]at vG;obtain⟨⟨⟨hc,sI⟩,har⟩,RR⟩:=vG;unfold nu at iz;split at iz
  ·rename_i bf;have AM:=bf;unfold E7 at AM;simp only[Y8,beq_iff_eq]at AM;obtain⟨⟨qp,xJ⟩,hm⟩:=AM;have oL:0<as.length:=by
    cases as with
    |nil=>simp at hm
    |cons _ _=>simp
   obtain⟨ue,hx⟩:=Pq sI
   let X:Cx:={P:=P,ae:=ae,mv:=eZ,w0:=w,ga:=lp ow,n:=fn.ntmps,args:=vs.toArray,cO:=f.cO}
   have kq:=Wq X rfl (as:=as) (vs:=vs) (w:=w) (ow:=ow) hl (by show as.length<=fn.ntmps;omega) RR rfl rfl rfl (fun i hi=>by
     have mW:i∈f.cO:=hi;rw[xJ]at mW;simp at mW;omega) hA dl j3 Gn (fun i g hi=>by
     exfalso
     match as,hm,hi with
     |x::as,hm,hi=>
      simp only[Y8]at hm;cases i with
      |zero=>
       simp only[kE,aR]at hi;subst hi;simp[Arg.GQ]at hm
      |succ i=>
       have:=eJ.1 hm.2 _ (cS (by simpa using hi));simp[Arg.rE]at this) (fun i t ht=>by
     exfalso
     match as,hm,ht with
     |x::as,hm,ht=>
      simp only[Y8]at hm;cases i with
      |zero=>
       simp only[kE,aR]at ht;subst ht;simp[Arg.GQ]at hm
      |succ i=>
       have:=eJ.1 hm.2 _ (cS (by simpa using ht));simp[Arg.rE]at this)
   have Az:Good X ⟨pB 0 as fun _=>.u,[]⟩ {tmps:=vs.toArray++Array.replicate (fn.ntmps-vs.toArray.size) undef,defers:=[]} w:=
    ⟨_,_,_,kq,fun id _ x hx h0=>by have:=hx.1;omega⟩
   refine calls_of_wp hf hb ?_;cases hd:den f.code ⟨pB 0 as fun _=>.u,[]⟩ with
   |none=>simp[hd]at iz
   |some r=>
    obtain⟨ex,s⟩:=r;have AG:(ex=.nx\/ex=.ret)/\∃aj,(AX f).run s.σ=some (out,aj):=by
     rw[hd]at iz;cases ex with
     |exit id=>simp at iz
     |nx=>
      simp only at iz;split at iz
      ·rename_i o aj hr;cases iz;exact⟨.inl rfl,aj,hr⟩
      ·cases iz
     |ret=>
      simp only at iz;split at iz
      ·rename_i o aj hr;cases iz;exact⟨.inr rfl,aj,hr⟩
      ·cases iz
    obtain⟨hex,aj,aq⟩:=AG;refine wX (X:=X) rfl qv f.code c hc hF Az hd fun a' w' hg=>?_;obtain⟨U,J,ap,hr,_⟩:=hg.out;obtain⟨v,aU,h1,h2⟩:=Zdk (X:=X) hr rfl (f:=f) (fn:=fn) (as:=as) (vs:=vs) (ga:=ow) rfl dl rfl (by omega) hl rfl bf hA ue hx aq;rcases hex with rfl|rfl
    ·exact⟨hr.defers,v,h1,aU,h2⟩
    ·exact⟨hr.defers,v,h1,aU,h2⟩
  ·cases iz
end
end Go.Wr

