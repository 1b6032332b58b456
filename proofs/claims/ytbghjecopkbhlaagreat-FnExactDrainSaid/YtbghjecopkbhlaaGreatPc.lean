/-
  What is proved: lemmas for the laws. No condition.
-/
import Derived.Test.YtbghjecopkbhlaaGreatPb
import Derived.Test.YtbghjecopkbhlaaGreatQd
set_option linter.unusedVariables false
set_option linter.unusedSimpArgs false
namespace Go.Wr
def kO (l:List Int):Nat:=l.countP fun x=>decide (0<x)
theorem Pd {l:List Int}{i:Nat}{x:Int} (h:l[i]?=some x):kO (l.take (i+1))=kO (l.take i)+if decide (0<x)=true then 1 else 0:=by
 unfold kO;rw[mb,h,List.countP_append];simp[List.countP_cons]
theorem Cg (l:List Int):kO l<=l.length:=List.countP_le_length
theorem Zia (a b:List Int):kO (a++b)=kO a+kO b:=List.countP_append
def qm (e:aa):Int:=if e.ok then 4+kO (e.aN.ca++e.aN.bX++e.aN.Rows.flatten)+2*e.aH.length else 0
def um (hi lo:Bool) (since LW:Int):Int×Int:=
 if(!(bq since 0 1000)|| !(bq LW 1 10))||(!hi&& !lo) then(-1,0) else if !lo then(0,0) else if !hi||decide (IntKind.i64.wrap (since+1)>=LW) then(1,0) else(0,IntKind.i64.wrap (since+1))
def mD (s:aD) (dI n:Int):aD×Bool:=if s.ok dI&&bq n 0 60 then(if({s with dM:=IntKind.i64.wrap (s.dM+n)}:aD).ok dI then({s with dM:=IntKind.i64.wrap (s.dM+n)},true) else(s,false)) else(s,false)
theorem Yx {s:aD}{dI n:Int} (h:(!s.ok dI|| !bq n 0 60)=true):mD s dI n=(s,false):=by
 unfold mD;rw[if_neg];intro h2;simp at h h2;simp_all
theorem Yy {s:aD}{dI n:Int} (h:(!s.ok dI|| !bq n 0 60)=false) (h2:(!({s with dM:=IntKind.i64.wrap (s.dM+n)}:aD).ok dI)=true):mD s dI n=(s,false):=by
 unfold mD;rw[if_pos (by simp at h⊢;exact h),if_neg (by simpa using h2)]
theorem Yz {s:aD}{dI n:Int} (h:(!s.ok dI|| !bq n 0 60)=false) (h2:(!({s with dM:=IntKind.i64.wrap (s.dM+n)}:aD).ok dI)=false):mD s dI n=({s with dM:=IntKind.i64.wrap (s.dM+n)},true):=by
 unfold mD;rw[if_pos (by simpa using h),if_pos (by simpa using h2)]
def jB (t:aK):aK:=⟨(IntKind.i64.wrap (t.At+1)).tmod 3,true,t.Left⟩
def jk (a b:aa):Bool:=a.Key==b.Key&&a.eo==b.eo
def kU (a b:aa):aa:=⟨a.Key,a.eo,jA a.aH b.aH,gR a.aN b.aN⟩
def aa.zero:aa:=⟨0,0,[],⟨0,0,0,0,[],[],[]⟩⟩
def xp (a b:aa):aa×Bool:=if a.ok&&b.ok&&jk a b&&jq a.aH b.aH then(kU a b,true) else(aa.zero,false)
theorem Z5b {a b:aa} (h:(((!a.ok|| !b.ok)||a.Key !=b.Key)||a.eo !=b.eo|| !jq a.aH b.aH)=true):xp a b=(aa.zero,false):=by
 unfold xp;rw[if_neg];simp only[jk];intro h2;simp at h h2;simp_all
theorem Z5c {a b:aa} (h:(((!a.ok|| !b.ok)||a.Key !=b.Key)||a.eo !=b.eo|| !jq a.aH b.aH)=false):xp a b=(kU a b,true):=by
 unfold xp;rw[if_pos];simp only[jk];simp at h⊢;simp_all
theorem Zct {a b:List af} (ha:dv a) (hb:dv b):pQ (a++b)=jA a b:=by
 obtain⟨h1,h2⟩:=IU ha hb;obtain⟨h3,h4⟩:=E3 (s:=a++b) (fun x hx=>(kF.1 hx).elim ha.span hb.span);exact Fa h3 h1 fun n=>by rw[h4,h2,qd]
def cM (l:List Int) (i:Int):Int:=l[i.toNat]?.getD 0
def fW (w:List Int) (q:Int) (t:aK):aK:=if t.nS then⟨t.At,false,t.Left.set t.At.toNat (min (IntKind.i64.wrap (cM t.Left t.At+IntKind.i64.wrap (q*cM w t.At))) 1000)⟩ else t
def Hk (s:List Int) (t:aK):aK:=⟨t.At,t.nS,t.Left.set t.At.toNat (IntKind.i64.wrap (cM t.Left t.At-cM s t.At))⟩
def ka:Nat->List Int->List Int->Int->aK->Option (Int×aK)
 |0,_,_,_,_=>none
 |n+1,s,w,q,t=>if cM s t.At==0 then ka n s w q (jB ⟨t.At,t.nS,t.Left.set t.At.toNat 0⟩)
  else if cM s t.At<=cM (fW w q t).Left t.At then some (t.At,Hk s (fW w q t)) else ka n s w q (jB (fW w q t))
theorem Jm {m:Nat}{s w:List Int}{q:Int}{t:aK} (h:(cM s t.At==0)=true):ka (m+1) s w q t=ka m s w q (jB ⟨t.At,t.nS,t.Left.set t.At.toNat 0⟩):=by rw[ka,if_pos h]
theorem Jl {m:Nat}{s w:List Int}{q:Int}{t:aK} (h:(cM s t.At==0)=false) (h2:decide (cM s t.At<=cM (fW w q t).Left t.At)=true):ka (m+1) s w q t=some (t.At,Hk s (fW w q t)):=by
 rw[ka,if_neg (by rw[h];simp),if_pos (by simpa using h2)]
theorem Jk {m:Nat}{s w:List Int}{q:Int}{t:aK} (h:(cM s t.At==0)=false) (h2:decide (cM s t.At<=cM (fW w q t).Left t.At)=false):ka (m+1) s w q t=ka m s w q (jB (fW w q t)):=by
 rw[ka,if_neg (by rw[h];simp),if_neg (by simpa using h2)]
structure ky (t:aK):Prop where
 ix:t.At=0\/t.At=1\/t.At=2
 len:t.Left.length=3
 left:∀x∈t.Left,0<=x/\x<=1000
theorem kH {l:List Int}{lo hi:Int}:ie l lo hi=true<->l.length=3/\∀x∈l,lo<=x/\x<=hi:=by
 simp only[ie,Y8,decide_eq_true_eq,eJ,bq]
theorem uU {t:aK}:t.ok=true<->ky t:=by
 simp only[aK.ok,Y8,kH,bq,decide_eq_true_eq];constructor
 ·rintro⟨h1,h2,h3⟩;exact⟨by omega,h2,h3⟩
 ·rintro⟨h1,h2,h3⟩;exact⟨by omega,h2,h3⟩
theorem Zg6 {t:aK} (h:t.At=0\/t.At=1\/t.At=2):((jB t).At=0\/(jB t).At=1\/(jB t).At=2)/\(t.At=0->(jB t).At=1)/\(t.At=1->(jB t).At=2)/\(t.At=2->(jB t).At=0):=by
 unfold jB
 dsimp only
 rcases h with h|h|h<;>rw[h]<;>decide
theorem Zoz {l:List Int}{i:Nat}{v:Int}{P:Int->Prop} (h:∀x∈l,P x) (hv:P v):∀x∈l.set i v,P x:=fun x hx=>(List.mem_or_eq_of_mem_set hx).elim (h x) (fun e=>e▸hv)
theorem w7 {t:aK} (h:ky t):ky (jB t):=⟨(Zg6 h.ix).1,h.len,h.left⟩
theorem Cs {t:aK} (h:ky t) {v:Int}{f:Bool} (hv:0<=v/\v<=1000):ky ⟨t.At,f,t.Left.set t.At.toNat v⟩:=⟨h.ix,by simpa using h.len,Zoz h.left hv⟩
theorem wV {l:List Int}{t:aK} (h:ky t) (hl:l.length=3):cM l t.At∈l/\l[t.At.toNat]?=some (cM l t.At):=by
 have:t.At.toNat<l.length:=by have:=h.ix;omega
 unfold cM;rw[bF this];exact⟨pZ this,rfl⟩
theorem Z1i {l:List Int}{t:aK} (h:ky t) (hl:l.length=3) (v:Int):cM (l.set t.At.toNat v) t.At=v:=by
 have:t.At.toNat<l.length:=by have:=h.ix;omega
 unfold cM;rw[il this];rfl
theorem U5 {l:List Int}{i k:Int} (v:Int) (hi:i=0\/i=1\/i=2) (hk:k=0\/k=1\/k=2) (bC:i≠k):cM (l.set i.toNat v) k=cM l k:=by
 unfold cM;rw[jQ (by omega)]
theorem IG {w:List Int}{q:Int}{t:aK} (h:ky t) (hw:∀x∈w,1<=x/\x<=4) (sJ:w.length=3) (hq:1<=q/\q<=60):ky (fW w q t)/\(fW w q t).At=t.At/\(fW w q t).nS=false/\
  (t.nS=true->cM (fW w q t).Left t.At>=min (cM t.Left t.At+1) 1000)/\(t.nS=false->fW w q t=t)/\∀k,(k=0\/k=1\/k=2)->k≠t.At->cM (fW w q t).Left k=cM t.Left k:=by
 have h1:=h.left _ (wV h h.len).1;have h2:=hw _ (wV h sJ).1;have hm:1<=q*cM w t.At/\q*cM w t.At<=240:=by
  have a1:q*1<=q*cM w t.At:=Int.mul_le_mul_of_nonneg_left h2.1 (by omega);have a2:q*cM w t.At<=q*4:=Int.mul_le_mul_of_nonneg_left h2.2 (by omega);omega
 have e1:IntKind.i64.wrap (q*cM w t.At)=q*cM w t.At:=dQ (by omega);have e2:IntKind.i64.wrap (cM t.Left t.At+q*cM w t.At)=cM t.Left t.At+q*cM w t.At:=dQ (by omega);cases hf:t.nS with
 |false=>
  have e:fW w q t=t:=by unfold fW;rw[hf];rfl
  rw[e];exact⟨h,rfl,hf,fun x=>(by cases x),fun _=>rfl,fun _ _ _=>rfl⟩
 |true=>
  have e:fW w q t=⟨t.At,false,t.Left.set t.At.toNat (min (cM t.Left t.At+q*cM w t.At) 1000)⟩:=by unfold fW;rw[hf,if_pos rfl,e1,e2]
  rw[e];refine⟨Cs h (by omega),rfl,rfl,fun _=>?_,fun x=>(by cases x),fun k hk bC=>U5 _ h.ix hk (Ne.symm bC)⟩;simp only;rw[Z1i h h.len];omega
def zP (i k:Int):Nat:=(Int.tmod (k-i+3) 3).toNat
def x9 (k:Int) (t:aK):Nat:=3*(1001-(cM t.Left k).toNat)+zP t.At k+(if t.nS then 0 else 3)
theorem VZ {t:aK} (h:t.At=0\/t.At=1\/t.At=2) {k:Int} (hk:k=0\/k=1\/k=2):(t.At≠k->zP (jB t).At k+1=zP t.At k)/\(t.At=k->zP (jB t).At k=2)/\zP t.At k<=2:=by
 unfold jB zP
 dsimp only
 rcases h with h|h|h<;>rw[h]<;>rcases hk with rfl|rfl|rfl<;>decide
theorem Zhp {s w:List Int}{q:Int} (hs:∀x∈s,0<=x/\x<=200) (fg:s.length=3) (hw:∀x∈w,1<=x/\x<=4) (sJ:w.length=3) (hq:1<=q/\q<=60) {k:Int} (hk:k=0\/k=1\/k=2) (KL:cM s k≠0):
  ∀(n:Nat) (t:aK),ky t->x9 k t<=n->∃r,ka (n+1) s w q t=some r:=by
 intro n
 induction n using Nat.strongRecOn with
 |ind n ih=>
 intro t ht hn;obtain⟨f1,f2,f3,f4,f5,f6⟩:=IG ht hw sJ hq;have de:=(wV ht fg).1;have nc:=hs _ de;have Df:=ht.left _ (wV ht ht.len).1;obtain⟨g1,g2,g3⟩:=VZ ht.ix hk;have oL:3<=x9 k t:=by
  have kt:ky ⟨k,true,t.Left⟩:=⟨hk,ht.len,ht.left⟩
  have:=ht.left _ (wV kt ht.len).1;simp only at this;unfold x9;omega
 have go:∀t',ky t'->x9 k t'<x9 k t->∃r,ka n s w q t'=some r:=fun t' h1 h2=>by
  obtain⟨m,rfl⟩:∃m,n=m+1:=⟨n-1,by omega⟩
  exact ih m (by omega) t' h1 (by omega)
 cases hz:cM s t.At==0 with
 |true=>
  rw[Jm hz];have bC:t.At≠k:=fun e=>KL (by rw[<-e];simpa using hz);have hr:ky ⟨t.At,t.nS,t.Left.set t.At.toNat 0⟩:=Cs ht ⟨by omega,by omega⟩;refine go _ (w7 hr) ?_;have e1:cM (t.Left.set t.At.toNat 0) k=cM t.Left k:=U5 _ ht.ix hk bC;have e2:(jB ⟨t.At,t.nS,t.Left.set t.At.toNat 0⟩).At=(jB t).At:=rfl;unfold x9;rw[e2];show 3*(1001-(cM (t.Left.set t.At.toNat 0) k).toNat)+_+0<_;rw[e1];have:=g1 bC;split<;>omega
 |false=>
  cases h2:decide (cM s t.At<=cM (fW w q t).Left t.At) with
  |true=>exact⟨_,Jl hz h2⟩
  |false=>
   rw[Jk hz h2];refine go _ (w7 f1) ?_;have h3:¬(cM s t.At<=cM (fW w q t).Left t.At):=by simpa using h2
   have e2:(jB (fW w q t)).At=(jB t).At:=by unfold jB;rw[f2]
   have gq:=f1.left _ (wV f1 f1.len).1;rw[f2]at gq;unfold x9;rw[e2];show 3*(1001-(cM (fW w q t).Left k).toNat)+_+0<_;by_cases bC:t.At=k
   ·have g4:=g2 bC;rw[<-bC]at g4⊢;have g5:zP t.At t.At=0:=by rcases ht.ix with h|h|h<;>rw[h]<;>decide
    cases hf:t.nS with
    |true=>
     have:=f4 hf;simp only[if_true];omega
    |false=>
     rw[f5 hf];simp only[cX,if_false];omega
   ·rw[f6 k hk (Ne.symm bC)];have:=g1 bC;split<;>omega
theorem Z5 {a b:aa} (ha:a.ok=true) (hb:b.ok=true):(kU a b).ok=true:=by
 have h1:=ha;simp only[aa.ok,Y8,decide_eq_true_eq]at h1;obtain⟨⟨⟨⟨h2,h3⟩,h4⟩,h5⟩,h6⟩:=h1;obtain⟨j1,j2⟩:=IU (jj ha) (jj hb);have bC:jA a.aH b.aH≠[]:=fun h=>by
  obtain⟨x,hx⟩:=List.exists_mem_of_ne_nil _ h5;have dg:=(jj ha).span hx;unfold fo at dg;have:=(j2 x.Lo).2 (.inl ⟨x,hx,by omega,by omega⟩);rw[h]at this;exact oi this
 have e1:=(tD _).2 j1;have e2:=Zf7 (ul ha) (ul hb);unfold aa.ok kU;simp only[h2,h3,e1,e2,bC,decide_true,gX,ne_eq,not_false_eq_true]
def lr (root:List aa) (e:aa):Nat:=root.findIdx fun x=>eK e x
def j7 (root:List aa) (e:aa):List aa:=match root.findIdx? (fun x=>jk x e) with
 |some k=>(match root[k]? with|some x=>root.set k (kU x e)|none=>root)
 |none=>root.take (lr root e)++e::root.drop (lr root e)
def DG (r:au):Int:=match r.bV with|[]=>0|e::_=>min (qm e) 200
def oX (h:aA) (c a:Nat):Int:=match h.Rows[a]? with
 |some rs=>(match rs[c]? with|some r=>DG r|none=>0)
 |none=>0
def fS (h:aA) (c:Nat):List Int:=[oX h c 0,oX h c 1,oX h c 2]
def eM (h:aA) (c:Nat):Bool:=h.Rows.any fun rs=>match rs[c]? with|some r=> !r.bV.isEmpty|none=>false
structure yO where
 gp:Nat
 lK:Nat
 since:Int
 oY:aK
def fD (h:aA):Int×Int:=um (eM h 0) (eM h 1) h.fT h.aT.iV
def A5 (h:aA):Option yO:=if(fD h).1<0 then none else match h.cI[(fD h).1.toNat]? with
 |some t=>(match ka 3020 (fS h (fD h).1.toNat) h.aT.dX h.aT.kx t with
  |some r=>some ⟨r.1.toNat,(fD h).1.toNat,(fD h).2,r.2⟩
  |none=>none)
 |none=>none
def Hl (h:aA) (x:yO):aA:={h with fT:=x.since,cI:=h.cI.set x.lK x.oY}
def qY (h:aA) (s:aD) (e:aa):aD:=if h.gT then(mD s h.aT.fm (gi e.aH)).1 else wi (mD s h.aT.fm (gi e.aH)).1 h.aT.fm
def rowOf (h:aA) (x:yO):List aa:=match h.Rows[x.gp]? with
 |some rs=>(match rs[x.lK]? with|some r=>r.bV|none=>[])
 |none=>[]
def lq (h:aA) (x:yO) (e:aa) (l:List aa):aA:=
 {Hl h x with Rows:=h.Rows.set x.gp (((h.Rows[x.gp]?).getD []).set x.lK ⟨l⟩),aJ:=j7 h.aJ e,bp:=h.bp.set x.gp (qY h ((h.bp[x.gp]?).getD aD.zero) e)}
def stepG (h:aA):Option aA:=match A5 h with
 |none=>none
 |some x=>(match rowOf h x with|e::l=>some (lq h x e l)|[]=>none)
def pN (h:aA):aA×Bool:=match stepG h with|some h'=>(h',true)|none=>(h,false)
structure ly (h:aA):Prop where
 ni:h.bp.length=3
 rows:h.Rows.length=3
 two:∀rs∈h.Rows,rs.length=2
 turns:h.cI.length=2
 oY:∀t∈h.cI,ky t
 since:0<=h.fT/\h.fT<=1000
 oA:∀rs∈h.Rows,∀r∈rs,∀e∈r.bV,e.ok=true
 root:∀e∈h.aJ,e.ok=true
 ord:h.aJ.Pairwise fun a b=>eK a b=true
 weights:h.aT.dX.length=3/\∀x∈h.aT.dX,1<=x/\x<=4
 LV:1<=h.aT.kx/\h.aT.kx<=60
 LW:1<=h.aT.iV/\h.aT.iV<=10
theorem Zc {a b c:aa} (h1:eK a b=true) (h2:eK b c=true):eK a c=true:=by
 simp only[eK,pW,Y8,decide_eq_true_eq,beq_iff_eq]at*;omega
theorem Zh6 {l:List aa} (h:eI l.length (nf l)=true):l.Pairwise fun a b=>eK a b=true:=by
 rw[Zm]at h;have hs:∀(i:Nat) x y,l[i]?=some x->l[i+1]?=some y->eK x y=true:=fun i x y hx hy=>by
  have:=h (i+1) (bt.1 hy).1;simpa only[nf,hx,hy]using this
 rw[qR];intro i j hi hj lg;obtain⟨d,rfl⟩:∃d,j=i+1+d:=⟨j-i-1,by omega⟩
 induction d with
 |zero=>exact hs i _ _ (bF hi) (bF hj)
 |succ d ih=>exact Zc (ih (by omega) (by omega)) (hs (i+1+d) _ _ (bF (by omega)) (bF hj))
theorem th {h:aA} (hh:fu h=true):ly h:=by
 have he:=Eu hh;rw[<-qU]at hh;simp only[li,Y8]at hh;obtain⟨⟨⟨⟨⟨⟨h1,h2⟩,h3⟩,h4⟩,h5⟩,h6⟩,h7⟩:=hh;simp only[gv,l9,Y8,decide_eq_true_eq,bq,Zm,eJ]at h2;obtain⟨⟨⟨⟨⟨⟨a1,a2⟩,a3⟩,a4⟩,a5⟩,hs⟩,ht⟩:=h2;simp only[bR.ok,Y8,kH,bq,decide_eq_true_eq]at h1;obtain⟨⟨⟨⟨⟨⟨⟨c1,c2⟩,c3⟩,c4⟩,c5⟩,c6⟩,c7⟩,c8⟩:=h1;have dD:∀e∈fR h,e.ok=true:=fun e hm=>he e (pf _ hm);refine⟨a1,a2,fun rs dY=>?_,a3,fun t htm=>uU.1 (ht t htm),a4,fun rs dY r hr e hm=>dD e ?_,fun e hm=>he e (nX _ (pf _ hm)),Zh6 h3,c4,c2,c3⟩
 ·obtain⟨i,hi⟩:=gZ.1 dY;have lT:=(bt.1 hi).1;exact(xe (bF (show i<h.bp.length by omega)) hi (hs i (by omega))).2.1
 ·exact BU.2 ⟨_,jt.2 ⟨rs,dY,rfl⟩,BU.2 ⟨_,jt.2 ⟨r,hr,rfl⟩,hm⟩⟩
theorem Z58 {e:aa} (h:e.ok=true):4<=qm e:=by
 unfold qm;rw[if_pos h];omega
theorem PJ (r:au) (hr:∀e∈r.bV,e.ok=true):0<=DG r/\DG r<=200/\(DG r=0<->r.bV=[]):=by
 unfold DG;cases hl:r.bV with
 |nil=>simp
 |cons e l=>
  have:=Z58 (hr e (by rw[hl];simp));simp only[reduceCtorEq,iff_false];omega
theorem Zp6 {h:aA} (hp:ly h) (c a:Nat):0<=oX h c a/\oX h c a<=200:=by
 unfold oX;split
 ·rename_i rs dY;split
  ·rename_i r hr;have:=PJ r (hp.oA rs (cS dY) r (cS hr));exact⟨this.1,this.2.1⟩
  ·omega
 ·omega
theorem YI {h:aA} (hp:ly h) (c:Nat):(fS h c).length=3/\∀x∈fS h c,0<=x/\x<=200:=by
 refine⟨rfl,fun x hx=>?_⟩;simp only[fS,iG,uF,or_false]at hx;rcases hx with rfl|rfl|rfl<;>exact Zp6 hp c _
theorem OO {h:aA} (hp:ly h) (c:Nat):eM h c= !ie (fS h c) 0 0:=by
 have key:∀a,a<3->(oX h c a=0<->∀rs,h.Rows[a]?=some rs->(match rs[c]? with|some r=> !r.bV.isEmpty|none=>false)=false):=fun a ha=>by
  have hx:=bF (show a<h.Rows.length by rw[hp.rows];exact ha);unfold oX;rw[hx];simp only[aR,forall_eq'];split
  ·rename_i r hr;rw[(PJ r (hp.oA _ (pZ _) r (cS hr))).2.2];cases r.bV<;>simp
  ·simp
 rw[ma,lC,<-yT,kH];unfold eM;rw[qN];constructor
 ·rintro⟨rs,dY,hx⟩ ⟨_,dD⟩;obtain⟨a,ha⟩:=gZ.1 dY;have qp:=(bt.1 ha).1;rw[hp.rows]at qp;have hz:oX h c a=0:=by
   have:oX h c a∈fS h c:=by
    match a,qp with
    |0,_=>simp[fS]
    |1,_=>simp[fS]
    |2,_=>simp[fS]
   have:=dD _ this;omega
  have:=(key a qp).1 hz rs ha;rw[hx]at this;cases this
 ·intro hn;apply Classical.byContradiction;intro dK;apply hn;refine⟨rfl,fun x hx=>?_⟩;have vX:∀a,a<3->oX h c a=0:=fun a ha=>(key a ha).2 fun rs dY=>by
   rw[yR];intro h2;exact dK ⟨rs,cS dY,h2⟩
  simp only[fS,iG,uF,or_false]at hx;rcases hx with rfl|rfl|rfl
  ·have:=vX 0 (by omega);omega
  ·have:=vX 1 (by omega);omega
  ·have:=vX 2 (by omega);omega
theorem Pa {s w:List Int}{q:Int} (hs:∀x∈s,0<=x/\x<=200) (fg:s.length=3) (hw:∀x∈w,1<=x/\x<=4) (sJ:w.length=3) (hq:1<=q/\q<=60):
  ∀(n:Nat) (t:aK) (r:Int×aK),ky t->ka n s w q t=some r->(r.1=0\/r.1=1\/r.1=2)/\cM s r.1≠0/\ky r.2
 |0,t,r,_,h=>by simp[ka]at h
 |n+1,t,r,ht,h=>by
  obtain⟨f1,f2,f3,_,_,_⟩:=IG ht hw sJ hq;cases hz:cM s t.At==0 with
  |true=>
   rw[Jm hz]at h;exact Pa hs fg hw sJ hq n _ r (w7 (Cs ht ⟨by omega,by omega⟩)) h
  |false=>
   cases h2:decide (cM s t.At<=cM (fW w q t).Left t.At) with
   |true=>
    rw[Jl hz h2]at h;simp only[aR]at h;subst h;have h3:cM s t.At<=cM (fW w q t).Left t.At:=by simpa using h2
    have nc:=hs _ (wV ht fg).1;have Df:=f1.left _ (wV f1 f1.len).1;rw[f2]at Df;refine⟨ht.ix,by simpa using hz,?_⟩;unfold Hk;rw[f2,dQ (by omega)];have:=Cs f1 (v:=cM (fW w q t).Left t.At-cM s t.At) (f:=(fW w q t).nS) ⟨by omega,by omega⟩;rw[f2]at this;exact this
   |false=>
    rw[Jk hz h2]at h;exact Pa hs fg hw sJ hq n _ r (w7 f1) h
theorem Zhr {s w:List Int}{q:Int} (hs:∀x∈s,0<=x/\x<=200) (fg:s.length=3) (hw:∀x∈w,1<=x/\x<=4) (sJ:w.length=3) (hq:1<=q/\q<=60) {t:aK} (ht:ky t) (hz:ie s 0 0=false):
  ∃r,ka 3020 s w q t=some r:=by
 obtain⟨k,hk,KL⟩:∃k:Int,(k=0\/k=1\/k=2)/\cM s k≠0:=by
  apply Classical.byContradiction;intro dK;have:∀k:Int,(k=0\/k=1\/k=2)->cM s k=0:=fun k hk=>Classical.byContradiction fun h=>dK ⟨k,hk,h⟩
  match s,fg with
  |[a,b,c],_=>
   have h0:a=0:=this 0 (.inl rfl);have h1:b=0:=this 1 (.inr (.inl rfl));have h2:c=0:=this 2 (.inr (.inr rfl));subst h0 h1 h2
   revert hz;decide
 refine Zhp hs fg hw sJ hq hk KL 3019 t ht ?_;have h1:=(VZ ht.ix hk).2.2;unfold x9;split<;>omega
theorem Vx {h:aA} (hp:ly h):((fD h).1=-1/\eM h 0=false/\eM h 1=false)\/(((fD h).1=0\/(fD h).1=1)/\eM h (fD h).1.toNat=true/\0<=(fD h).2/\(fD h).2<=1000):=by
 have h1:=hp.since;have h2:=hp.LW;have e1:bq h.fT 0 1000=true:=by unfold bq;simp;omega
 have e2:bq h.aT.iV 1 10=true:=by unfold bq;simp;omega
 have ew:IntKind.i64.wrap (h.fT+1)=h.fT+1:=dQ (by omega);unfold fD um;rw[e1,e2,ew];cases ha:eM h 0<;>cases hb:eM h 1<;>simp
 ·exact hb
 ·exact ha
 ·by_cases hc:h.aT.iV<=h.fT+1
  ·simp[hc,hb]
  ·simp[hc,ha];omega
structure Eb (h:aA) (x:yO):Prop where
 gp:x.gp<3
 lK:x.lK<2
 since:0<=x.since/\x.since<=1000
 oY:ky x.oY
 row:rowOf h x≠[]
theorem EK {h:aA} (hp:ly h) (hn:eM h 0=false/\eM h 1=false):A5 h=none/\(fD h).1=-1:=by
 rcases Vx hp with⟨h1,_⟩|⟨h1,h2,_⟩
 ·exact⟨by unfold A5;rw[if_pos (by omega)],h1⟩
 ·exfalso;rcases h1 with h1|h1<;>rw[h1]at h2
  ·rw[show(0:Int).toNat=0 from rfl,hn.1]at h2;cases h2
  ·rw[show(1:Int).toNat=1 from rfl,hn.2]at h2;cases h2
theorem Ja {h:aA} (hp:ly h) (hn:¬(eM h 0=false/\eM h 1=false)):
  ∃t r x,((fD h).1=0\/(fD h).1=1)/\h.cI[(fD h).1.toNat]?=some t/\ky t/\ie (fS h (fD h).1.toNat) 0 0=false/\ka 3020 (fS h (fD h).1.toNat) h.aT.dX h.aT.kx t=some r/\
   (r.1=0\/r.1=1\/r.1=2)/\x=⟨r.1.toNat,(fD h).1.toNat,(fD h).2,r.2⟩/\A5 h=some x/\Eb h x:=by
 rcases Vx hp with⟨h1,h2,h3⟩|⟨h1,h2,h3⟩
 ·exact absurd ⟨h2,h3⟩ hn
 ·have dx:(fD h).1.toNat<2:=by omega
  have ht:=bF (show(fD h).1.toNat<h.cI.length by rw[hp.turns];exact dx);generalize h.cI[(fD h).1.toNat]'_=t at ht;have oO:=hp.oY t (cS ht);have K0:=YI hp (fD h).1.toNat;have hz:ie (fS h (fD h).1.toNat) 0 0=false:=by
   have:=OO hp (fD h).1.toNat;rw[h2]at this;cases hx:ie (fS h (fD h).1.toNat) 0 0 with
   |false=>rfl
   |true=>rw[hx]at this;cases this
  obtain⟨r,hr⟩:=Zhr K0.2 K0.1 hp.weights.2 hp.weights.1 hp.LV oO hz;obtain⟨q1,q2,q3⟩:=Pa K0.2 K0.1 hp.weights.2 hp.weights.1 hp.LV 3020 t r oO hr;refine⟨t,r,_,h1,ht,oO,hz,hr,q1,rfl,?_,⟨by show r.1.toNat<3;omega,dx,h3,q3,?_⟩⟩
  ·unfold A5;rw[if_neg (by omega),ht];simp only[hr]
  ·unfold rowOf;simp only;have e:oX h (fD h).1.toNat r.1.toNat≠0:=by
    have:cM (fS h (fD h).1.toNat) r.1=oX h (fD h).1.toNat r.1.toNat:=by
     rcases q1 with q|q|q<;>rw[q]<;>rfl
    rw[<-this];exact q2
   unfold oX at e;split at e
   ·rename_i rs dY;split at e
    ·rename_i rw' KW
     try simp only[KW]
     intro sF;exact e ((PJ rw' (hp.oA rs (cS dY) rw' (cS KW))).2.2.2 sF)
    ·exact absurd rfl e
   ·exact absurd rfl e
theorem OS {h:aA} (hp:ly h):((fR h).length=0)<->(eM h 0=false/\eM h 1=false):=by
 rw[iY,fR,List.flatten_eq_nil_iff];unfold eM;simp only[wK,jt,forall_exists_index,and_imp,forall_apply_eq_imp_iff₂,List.flatten_eq_nil_iff];constructor
 ·intro dD;have key:∀c:Nat,∀rs∈h.Rows,¬((match rs[c]? with|some (r:au)=> !r.bV.isEmpty|none=>false)=true):=fun c rs dY=>by
   split
   ·rename_i r hr;have:=dD rs dY r (cS hr);simp[this]
   ·simp
  exact⟨key 0,key 1⟩
 ·rintro⟨h0,h1⟩ rs dY r hr;have h2:=hp.two rs dY
  match rs,h2 with
  |[a,b],_=>
   have a0:=h0 _ dY;have a1:=h1 _ dY;simp at a0 a1;simp only[iG,uF,or_false]at hr;rcases hr with rfl|rfl
   ·exact a0
   ·exact a1
theorem Zar {h:aA} (hh:fu h=true):(cD h).Pairwise fun a b=>pT a.aH b.aH:=by
 have he:=Eu hh;have h2:=hh;simp only[fu,Y8]at h2;exact(Z1 he).1 h2.1.1.2
theorem Zlw {h:aA} (hh:fu h=true) {e x:aa} (he:e∈fR h) (hx:x∈h.aJ):pT e.aH x.aH:=by
 have h1:=Zar hh;unfold cD at h1;exact(BV.1 h1).2.2 e he x (pf _ hx)
theorem Zlv {h:aA} (hh:fu h=true) {e x:aa} (he:e∈fR h) (hx:x∈h.aJ):jq x.aH e.aH=true:=by
 have bf:=Eu hh;have h1:=Zlw hh he hx;refine EX.2 ⟨jj (bf x ?_),jj (bf e (pf _ he)),fun n h=>h1 n ⟨h.2,h.1⟩⟩;exact nX _ (pf _ hx)
theorem OP {h:aA} (hh:fu h=true) {i:Nat}{rs:List au}{r:au} (hi:h.Rows[i]?=some rs) (hr:r∈rs):r.ok=true/\∀e∈r.bV,e∈fR h:=by
 have dY:=cS hi;refine⟨?_,fun e he=>BU.2 ⟨_,jt.2 ⟨rs,dY,rfl⟩,BU.2 ⟨_,jt.2 ⟨r,hr,rfl⟩,he⟩⟩⟩;rw[<-qU]at hh;simp only[li,Y8]at hh;have h2:=hh.1.1.1.1.1.2;simp only[gv,l9,Y8,decide_eq_true_eq,bq,Zm,eJ]at h2;obtain⟨⟨⟨⟨⟨⟨a1,a2⟩,a3⟩,a4⟩,a5⟩,hs⟩,ht⟩:=h2;have lT:=(bt.1 hi).1;exact Jy ((xe (bF (show i<h.bp.length by omega)) hi (hs i (by omega))).2.2 r hr)
structure o7 (h:aA):Prop where
 rf:h.aT.ok=true
 ni:h.bp.length=3
 rows:h.Rows.length=3
 turns:h.cI.length=2
 since:0<=h.fT/\h.fT<=1000
 clock:0<=h.kR/\h.kR<=100000
 sU:∀(a:Nat) s,h.bp[a]?=some s->s.ok h.aT.fm=true
 two:∀rs∈h.Rows,rs.length=2
 row:∀(a:Nat) rs,h.Rows[a]?=some rs->∀r∈rs,r.bV.length<=24/\∀e∈r.bV,∀n,In n e.aH->100*(a:Int)+1<=n/\n<=100*(a:Int)+60
 oY:∀t∈h.cI,t.ok=true
 ord:h.aJ.Pairwise fun a b=>eK a b=true
 oA:kf (cD h)
 taken:∀n,In n ((cD h).flatMap aa.aH)<->In n (fH h.bp 0)
 uh:∀(a:Nat) s,h.bp[a]?=some s->s.dM=(et ((fx h).flatMap aa.aH) a 60:Int)
 CX:∀(i:Nat) o,h.bz[i]?=some o->o.BI=(nR (h.bz.take i) o.bg.Key o.bg.eo:Int)
theorem Zhh {l:List aa} (h:l.Pairwise fun a b=>eK a b=true):eI l.length (nf l)=true:=by
 rw[Zm];intro j hj;rw[nf,bF hj];cases j with
 |zero=>rfl
 |succ k=>
  have hk:k<l.length:=by omega
  simp only[bF hk];exact qR.1 h k (k+1) hk hj (by omega)
theorem Zr {s:List af} (hs:dv s) {lo hi:Int}:mc s lo hi=true<->∀n,In n s->lo<=n/\n<=hi:=by
 simp only[mc,Y8,eJ,decide_eq_true_eq];constructor
 ·rintro⟨_,h⟩ n ⟨x,hx,h1⟩;have:=h x hx;omega
 ·intro h;refine⟨(tD s).2 hs,fun x hx=>?_⟩;have h1:=hs.span hx;unfold fo at h1;exact⟨(h x.Lo ⟨x,hx,by omega,by omega⟩).1,(h x.Hi ⟨x,hx,by omega,by omega⟩).2⟩
theorem tq {l:List aa}{n:Int}:In n (l.flatMap aa.aH)<->∃e∈l,In n e.aH:=by
 unfold In;simp only[uE];constructor
 ·rintro⟨x,⟨e,he,hx⟩,h⟩;exact⟨e,he,x,hx,h⟩
 ·rintro⟨e,he,x,hx,h⟩;exact⟨x,⟨e,he,hx⟩,h⟩
theorem Yl {a:Nat} (ha:a<=2) {r:au} (bf:r.ok=true):mc (qH r) (nI a 1) (nI a 60)=true<->∀e∈r.bV,∀n,In n e.aH->100*(a:Int)+1<=n/\n<=100*(a:Int)+60:=by
 rw[zg ha (by omega),zg ha (by omega),Zr (Pw r)];have e:qH r=j6 r.bV:=by unfold qH;rw[if_pos bf]
 rw[e];have h1:=(wY (l:=r.bV) fun e he=>BX (Cm bf) he).2;simp only[h1,tq];exact⟨fun h e he n hn=>h n ⟨e,he,hn⟩,fun h n ⟨e,he,hn⟩=>h e he n hn⟩
theorem Zmk {h:aA}{a:Nat}{rs:List au}{r:au} (ha:h.Rows[a]?=some rs) (hr:r∈rs):r.bV.Sublist (cD h):=by
 unfold cD fR;refine List.Sublist.trans ?_ (List.sublist_append_left _ _);have h1:(rs.map au.bV).flatten.Sublist (h.Rows.map fun rs=>(rs.map au.bV).flatten).flatten:=List.sublist_flatten_of_mem (jt.2 ⟨rs,cS ha,rfl⟩);exact(List.sublist_flatten_of_mem (jt.2 ⟨r,hr,rfl⟩)).trans h1
theorem Zo8 {l:List aD}{p:Int} (hl:l.length=3) (h:∀(a:Nat) s,l[a]?=some s->s.ok p=true):N9 l:=by
 refine⟨hl,fun s gP x hx=>?_⟩;obtain⟨i,hi⟩:=gZ.1 gP;have bf:=h i s hi;simp only[aD.ok,Y8,mc,eJ,bq,decide_eq_true_eq]at bf;obtain⟨⟨⟨⟨⟨⟨_,_⟩,hg⟩,Dg,SK⟩,_⟩,_⟩,_⟩:=bf;have h1:=SK x hx;have h2:=Cq Dg hx;omega
theorem Ew {h:aA}:fu h=true<->o7 h:=by
 constructor
 ·intro hh;have hR:=Zaq hh;have hP:=th hh;have KW:=fun i rs r=>@OP h hh i rs r;rw[<-qU]at hh;simp only[li,Y8,decide_eq_true_eq]at hh;obtain⟨⟨⟨⟨⟨⟨h1,h2⟩,h3⟩,h4⟩,h5⟩,h6⟩,h7⟩:=hh;have lk:=Jj h2;have hp:=h2;simp only[gv,l9,Y8,decide_eq_true_eq,bq,Zm,eJ]at hp;obtain⟨⟨⟨⟨⟨⟨a1,a2⟩,a3⟩,a4⟩,a5⟩,hs⟩,ht⟩:=hp;refine{rf:=h1,ni:=a1,rows:=a2,turns:=a3,since:=a4,clock:=a5,sU:=fun a s gP=>?_,two:=hP.two,row:=fun a rs dY r hr=>?_,oY:=ht,ord:=hP.ord,oA:=hR,taken:=fun n=>?_,uh:=fun a s gP=>?_,CX:=fun i o ho=>?_}
  ·have hl:=(bt.1 gP).1;exact(xe gP (bF (show a<h.Rows.length by omega)) (hs a (by omega))).1
  ·have hl:=(bt.1 dY).1;have h8:=(xe (bF (show a<h.bp.length by omega)) dY (hs a (by omega))).2.2 r hr;have h9:=Jy h8;simp only[ke,Y8]at h8;refine⟨?_,(Yl (by omega) h9).1 h8.2⟩;simp only[au.ok,Y8,decide_eq_true_eq]at h9;exact h9.1
  ·rw[<-(wY hR.ok).2,<-h6,(E3 (Cw (l:=h.bp) (a:=0) lk.2 (by omega))).2]
  ·have hl:=(bt.1 gP).1;have h8:=(Zm.1 h5) a (by omega);simp only[sM,gP,beq_iff_eq]at h8;rw[<-h8,Ej (wY (kf.right hR).ok).2]
  ·have h8:=(Zm.1 h7) i (bt.1 ho).1;simpa only[pt,ho,beq_iff_eq]using h8
 ·intro hh;have lk:=Zo8 hh.ni hh.sU;rw[<-qU];have aoi:∀(a:Nat) rs,h.Rows[a]?=some rs->∀r∈rs,r.ok=true:=fun a rs ha r hr=>by
   simp only[au.ok,Y8,decide_eq_true_eq];exact⟨(hh.row a rs ha r hr).1,yZ.2 (hh.oA.sub (Zmk ha hr))⟩
  simp only[li,Y8,decide_eq_true_eq];refine⟨⟨⟨⟨⟨⟨hh.rf,?_⟩,Zhh hh.ord⟩,yZ.2 hh.oA⟩,?_⟩,?_⟩,?_⟩
  ·simp only[gv,l9,Y8,decide_eq_true_eq,bq,Zm,eJ];refine⟨⟨⟨⟨⟨⟨hh.ni,hh.rows⟩,hh.turns⟩,hh.since⟩,hh.clock⟩,fun a ha=>?_⟩,hh.oY⟩;have h1:=bF (show a<h.bp.length by rw[hh.ni];exact ha);have h2:=bF (show a<h.Rows.length by rw[hh.rows];exact ha);unfold pL;rw[h1,h2];simp only[Y8,decide_eq_true_eq,eJ];refine⟨⟨hh.sU a _ h1,hh.two _ (cS h2)⟩,fun r hr=>?_⟩;have h3:=aoi a _ h2 r hr;simp only[ke,Y8];exact⟨h3,(Yl (by omega) h3).2 (hh.row a _ h2 r hr).2⟩
  ·rw[Zm];intro a ha;have h1:=bF (show a<h.bp.length by rw[hh.ni];exact ha);unfold sM;rw[h1];simp only[beq_iff_eq];rw[hh.uh a _ h1,Ej (wY (kf.right hh.oA).ok).2]
  ·have h1:=E3 (Cw (l:=h.bp) (a:=0) lk.2 (by rw[lk.1];omega));have h2:=wY hh.oA.ok;refine Fa h1.1 h2.1 fun n=>?_;rw[h1.2,h2.2,hh.taken]
  ·rw[Zm];intro i hi;have h1:=bF hi;unfold pt;rw[h1];simp only[beq_iff_eq];exact hh.CX i _ h1
theorem BY {a b:List aa} (hp:a.Perm b) (h:kf a):kf b:=⟨fun e he=>h.ok e (hp.mem_iff.2 he),hp.pairwise h.uZ fun h1=>h1.symm⟩
theorem PI {α β:Type}{f:α->List β}{b:β}{x y:α} (hp:(f x).Perm (b::f y)):∀{l:List α}{i:Nat},l[i]?=some x->(l.map f).flatten.Perm (b::((l.set i y).map f).flatten)
 |[],i,h=>by simp at h
 |z::l,0,h=>by
  simp only[kE,aR]at h;subst h;simp only[fc,pd,List.set_cons_zero];exact hp.append_right _
 |z::l,i+1,h=>by
  simp only[wN]at h;simp only[fc,pd,List.set_cons_succ];exact((PI hp h).append_left (f z)).trans List.perm_middle
theorem Zmn {h:aA}{i j:Nat}{rs:List au}{e:aa}{l:List aa} (hi:h.Rows[i]?=some rs) (hj:rs[j]?=some ⟨e::l⟩):
  (fR h).Perm (e::((h.Rows.set i (rs.set j ⟨l⟩)).map nh).flatten):=
 PI (f:=nh) (PI (f:=au.bV) (List.Perm.refl _) hj) hi
theorem Wz {rt:List aa}{e:aa} (h:rt.findIdx? (fun x=>jk x e)=none):j7 rt e=rt.take (lr rt e)++e::rt.drop (lr rt e):=by
 unfold j7;rw[h]
theorem WB {rt:List aa}{e x:aa}{k:Nat} (h:rt.findIdx? (fun x=>jk x e)=some k) (hx:rt[k]?=some x):j7 rt e=rt.set k (kU x e):=by
 unfold j7;rw[h];simp only[hx]
theorem Zd {a b:aa} (h1:jk a b=false) (h2:eK b a=false):eK a b=true:=by
 simp only[eK,jk,pW,Y8,decide_eq_true_eq,beq_iff_eq,Bool.or_eq_false_iff,Y7,decide_eq_false_iff_not,beq_eq_false_iff_ne]at*;omega
theorem Zce {rt:List aa}{e:aa} (ho:rt.Pairwise fun a b=>eK a b=true):(j7 rt e).Pairwise fun a b=>eK a b=true:=by
 cases hf:rt.findIdx? (fun x=>jk x e) with
 |some k=>
  obtain⟨hk,_,_⟩:=qO.1 hf;have hx:=bF hk;rw[WB hf hx];rw[qR]at ho⊢;intro i j hi hj lg;rw[wQ]at hi hj;have h1:=ho i j hi hj lg;rw[List.getElem_set,List.getElem_set];split<;>split
  ·omega
  ·rename_i q _;subst q;exact h1
  ·rename_i q;subst q;exact h1
  ·exact h1
 |none=>
  rw[Wz hf];have hn:∀x∈rt,jk x e=false:=fun x hx=>by simpa using uC.1 hf x hx
  have h1:∀x∈rt.take (lr rt e),eK x e=true:=fun x hx=>by
   obtain⟨j,hj,rfl⟩:=List.mem_take_iff_getElem.1 hx;refine Zd (hn _ (pZ _)) ?_;have h2:=List.not_of_lt_findIdx (p:=fun x=>eK e x) (xs:=rt) (show j<rt.findIdx _ by unfold lr at hj;omega);simpa using h2
  have h2:∀x∈rt.drop (lr rt e),eK e x=true:=fun x hx=>by
   obtain⟨j,hj,rfl⟩:=List.mem_drop_iff_getElem.1 hx;have hm:lr rt e<rt.length:=by omega
   have h3:eK e rt[lr rt e]=true:=List.findIdx_getElem (p:=fun x=>eK e x) (xs:=rt) (w:=hm);rcases Nat.eq_zero_or_pos j with rfl|oL
   ·simpa using h3
   ·exact Zc h3 (qR.1 ho _ _ hm (by omega) (by omega))
  rw[BV];refine⟨ho.sublist (List.take_sublist _ _),qQ.2 ⟨h2,ho.sublist (List.drop_sublist _ _)⟩,fun x hx y hy=>?_⟩;rcases iG.1 hy with rfl|hy
  ·exact h1 x hx
  ·exact Zc (h1 x hx) (h2 y hy)
theorem Zcf (rt:List aa) (e:aa):(j7 rt e).Perm (e::rt)\/∃x r,rt.Perm (x::r)/\(j7 rt e).Perm (kU x e::r)/\jk x e=true:=by
 cases hf:rt.findIdx? (fun x=>jk x e) with
 |some k=>
  right;obtain⟨hk,hs,_⟩:=qO.1 hf;have hx:=bF hk;rw[WB hf hx];have e1:rt=rt.take k++rt[k]::rt.drop (k+1):=by rw[List.getElem_cons_drop,uG]
  have e2:rt.set k (kU rt[k] e)=rt.take k++kU rt[k] e::rt.drop (k+1):=by rw[List.set_eq_take_append_cons_drop,if_pos hk]
  refine⟨rt[k],rt.take k++rt.drop (k+1),?_,?_,hs⟩
  ·have h3:(rt.take k++rt[k]::rt.drop (k+1)).Perm (rt[k]::(rt.take k++rt.drop (k+1))):=List.perm_middle
   rwa [<-e1]at h3
  ·rw[e2];exact List.perm_middle
 |none=>
  left;rw[Wz hf];have h1:(rt.take (lr rt e)++e::rt.drop (lr rt e)).Perm (e::(rt.take (lr rt e)++rt.drop (lr rt e))):=List.perm_middle
  rwa [uG]at h1
theorem Z4 {x e:aa} (hx:x.ok=true) (he:e.ok=true) (n:Int):In n (kU x e).aH<->In n x.aH\/In n e.aH:=(IU (jj hx) (jj he)).2 n
theorem Wx {rt rest:List aa}{e:aa} (h:kf (e::(rt++rest))):kf (j7 rt e++rest)/\(∀n,In n ((j7 rt e++rest).flatMap aa.aH)<->In n e.aH\/In n ((rt++rest).flatMap aa.aH)):=by
 rcases Zcf rt e with hp|⟨x,r,h1,h2,_⟩
 ·have fk:(e::(rt++rest)).Perm (j7 rt e++rest):=(hp.symm.append_right rest)
  refine⟨BY fk h,fun n=>?_⟩;simp only[tq,<-fk.mem_iff,iG];constructor
  ·rintro⟨y,rfl|hy,hn⟩
   ·exact .inl hn
   ·exact .inr ⟨y,hy,hn⟩
  ·rintro(hn|⟨y,hy,hn⟩)
   ·exact⟨e,.inl rfl,hn⟩
   ·exact⟨y,.inr hy,hn⟩
 ·have oK:(e::(rt++rest)).Perm (e::x::(r++rest)):=(h1.append_right rest).cons e;have fk:(kU x e::(r++rest)).Perm (j7 rt e++rest):=(h2.symm.append_right rest)
  have hE:=BY oK h;have he:=hE.ok e (by simp);have hx:=hE.ok x (by simp);obtain⟨d1,d2⟩:=qQ.1 hE.uZ;obtain⟨d3,d4⟩:=qQ.1 d2;have kq:=Z4 hx he;refine⟨BY fk ⟨fun y hy=>?_,qQ.2 ⟨fun y hy n hn=>?_,d4⟩⟩,fun n=>?_⟩
  ·rcases iG.1 hy with rfl|hy
   ·exact Z5 hx he
   ·exact hE.ok y (by simp only[iG];exact .inr (.inr hy))
  ·rcases(kq n).1 hn.1 with q|q
   ·exact d3 y hy n ⟨q,hn.2⟩
   ·exact d1 y (fJ _ hy) n ⟨q,hn.2⟩
  ·simp only[tq,<-fk.mem_iff,(h1.append_right rest).mem_iff,iG,gf];constructor
   ·rintro⟨y,rfl|hy,hn⟩
    ·rcases(kq n).1 hn with q|q
     ·exact .inr ⟨x,.inl rfl,q⟩
     ·exact .inl q
    ·exact .inr ⟨y,.inr hy,hn⟩
   ·rintro(hn|⟨y,rfl|hy,hn⟩)
    ·exact⟨_,.inl rfl,(kq n).2 (.inr hn)⟩
    ·exact⟨_,.inl rfl,(kq n).2 (.inl hn)⟩
    ·exact⟨y,.inr hy,hn⟩
theorem Ez:∀{l:List aD}{b:Nat}{n:Int},In n (fH l b)<->∃(i:Nat) (s:aD),l[i]?=some s/\In (n-100*((b+i:Nat):Int)) s.bK
 |[],b,n=>by simp[fH,oi]
 |t::l,b,n=>by
  have AP:In n (t.bK.map (mE b))<->In (n-100*(b:Int)) t.bK:=by
   unfold In;simp only[jt];constructor
   ·rintro⟨_,⟨x,hx,rfl⟩,h1,h2⟩;simp only[mE]at h1 h2;exact⟨x,hx,by omega,by omega⟩
   ·rintro⟨x,hx,h1,h2⟩;exact⟨_,⟨x,hx,rfl⟩,by simp only[mE];omega,by simp only[mE];omega⟩
  rw[fH,qd,AP,Ez];constructor
  ·rintro(h|⟨i,s,hs,h⟩)
   ·exact⟨0,t,rfl,by simpa using h⟩
   ·exact⟨i+1,s,by simpa using hs,by rwa [show b+(i+1)=b+1+i by omega]⟩
  ·rintro⟨i,s,hs,h⟩;cases i with
   |zero=>simp only[kE,aR]at hs;subst hs;exact .inl (by simpa using h)
   |succ i=>exact .inr ⟨i,s,by simpa using hs,by rwa [show b+1+i=b+(i+1) by omega]⟩
structure rS (s:aD) (p:Int):Prop where
 dI:1<=p/\p<=8
 aam:0<=s.o6/\s.o6<=1000
 granted:0<=s.jO/\s.jO<=60
 set:dv s.bK
 taken:∀n,In n s.bK->1<=n/\n<=s.jO
 uh:0<=s.dM/\s.dM<=gi s.bK
 afh:s.jO<=s.dM+p
 last:0<=s.yK/\s.yK<=1000000
theorem uS {s:aD}{p:Int}:s.ok p=true<->rS s p:=by
 simp only[aD.ok,Y8,bq,decide_eq_true_eq];constructor
 ·rintro⟨⟨⟨⟨⟨⟨h1,h2⟩,h3⟩,h4⟩,h5⟩,h6⟩,h7⟩;have hs:dv s.bK:=by
   simp only[mc,Y8]at h4;exact(tD _).1 h4.1
  exact⟨h1,h2,h3,hs,(Zr hs).1 h4,h5,h6,h7⟩
 ·rintro⟨h1,h2,h3,hs,h4,h5,h6,h7⟩;exact⟨⟨⟨⟨⟨⟨h1,h2⟩,h3⟩,(Zr hs).2 h4⟩,h5⟩,h6⟩,h7⟩
theorem Ir (s:List af) (a:Int) (m:Nat):et s a m<=m:=by
 unfold et;exact eQ List.countP_le_length (by rw[List.length_range];exact Nat.le_refl _)
theorem Vy {s:List af} (hs:dv s) {a:Int} (h:∀n,In n s->100*a+1<=n/\n<=100*a+60):(et s a 60:Int)=gi s:=by
 rw[Ol hs];have h1:=Xh hs a;rw[(Zr hs).2 h]at h1;simpa using h1
theorem Z43 {s:List af} (hs:dv s) (h:∀n,In n s->1<=n/\n<=60):(et s 0 60:Int)=gi s:=Vy hs (a:=0) (by simpa using h)
theorem rS.size {s:aD}{p:Int} (h:rS s p):(et s.bK 0 60:Int)=gi s.bK:=Z43 h.set fun n hn=>by
 have:=h.taken n hn;have:=h.granted;omega
theorem rS.qD {s:aD}{p:Int} (h:rS s p):gi s.bK<=60:=by
 rw[<-h.size];have:=Ir s.bK 0 60;omega
theorem Z3y {s:List af}{a:Int} (h:∀n,In n s->¬(100*a+1<=n/\n<=100*a+60)):et s a 60=0:=by
 unfold et;rw[List.countP_eq_zero];intro k hk h2;have vI:=mN.1 hk;exact h _ (zC.1 h2) (by omega)
theorem Zrm {h:aA} (hs:∀(a:Nat) s,h.bp[a]?=some s->s.ok h.aT.fm=true) {a:Nat}{s:aD} (ha:h.bp[a]?=some s) {k:Int} (hk:1<=k/\k<=60):In (100*(a:Int)+k) (fH h.bp 0)<->In k s.bK:=by
 rw[Ez];constructor
 ·rintro⟨i,t,ht,h1⟩;have h2:=uS.1 (hs i t ht);have h3:=h2.taken _ h1;have h4:=h2.granted;have:i=a:=by omega
  subst this;rw[ha]at ht;cases ht
  rwa [show 100*(i:Int)+k-100*((0+i:Nat):Int)=k by omega]at h1
 ·intro h1;exact⟨a,s,ha,by rwa [show 100*(a:Int)+k-100*((0+a:Nat):Int)=k by omega]⟩
theorem Z3w {h:aA} (hs:∀(a:Nat) s,h.bp[a]?=some s->s.ok h.aT.fm=true) {a:Nat}{s:aD} (ha:h.bp[a]?=some s) {X:List af} (hX:∀n,In n X->In n (fH h.bp 0)):(et X a 60:Int)<=gi s.bK:=by
 rw[<-(uS.1 (hs a s ha)).size];have:et X a 60<=et s.bK 0 60:=by
  unfold et;refine List.countP_mono_left fun k hk h1=>?_;have vI:=mN.1 hk;rw[zC]at h1⊢;have:=(Zrm hs ha (k:=(k:Int)+1) (by omega)).1 (hX _ h1)
  rwa [show(100*(0:Int)+((k:Int)+1))=(k:Int)+1 by omega]
 omega
theorem Zo3 {s:aD}{p n:Int} (h:rS s p) (hn:0<=n) (hm:s.dM+n<=gi s.bK):
  mD s p n=({s with dM:=s.dM+n},true)/\rS {s with dM:=s.dM+n} p/\wi {s with dM:=s.dM+n} p={s with dM:=s.dM+n,jO:=min 60 (s.dM+n+p)}/\rS {s with dM:=s.dM+n,jO:=min 60 (s.dM+n+p)} p:=by
 have h1:=h.qD;have h2:=h.uh;have h3:=h.granted;have h4:=h.afh;have h5:=h.dI;have hA:rS {s with dM:=s.dM+n} p:=⟨h.dI,h.aam,h.granted,h.set,h.taken,⟨by simp only;omega,hm⟩,by simp only;omega,h.last⟩
 have e1:IntKind.i64.wrap (s.dM+n)=s.dM+n:=dQ (by omega);refine⟨?_,hA,?_,?_⟩
 ·unfold mD;rw[if_pos (by rw[uS.2 h];simp[bq];omega),e1,if_pos (uS.2 hA)]
 ·unfold wi;rw[if_pos (uS.2 hA)];simp only;rw[dQ (by omega)]
 ·exact⟨h.dI,h.aam,by simp only;omega,h.set,fun n hn=>(by have:=h.taken n hn;simp only;omega),hA.uh,by simp only;omega,h.last⟩
theorem Z9 {h:aA}{s:aD}{e:aa} (hs:rS s h.aT.fm) (hm:s.dM+gi e.aH<=gi s.bK) (hn:0<=gi e.aH):rS (qY h s e) h.aT.fm/\(qY h s e).bK=s.bK/\(qY h s e).dM=s.dM+gi e.aH/\(qY h s e).o6=s.o6/\(qY h s e).yK=s.yK/\s.jO<=(qY h s e).jO:=by
 obtain⟨h1,h2,h3,h4⟩:=Zo3 hs hn hm;have h5:=hs.afh;have h6:=hs.granted;unfold qY;rw[h1];split
 ·exact⟨h2,rfl,rfl,rfl,rfl,Int.le_refl _⟩
 ·rw[h3];exact⟨h4,rfl,rfl,rfl,rfl,by simp only;omega⟩
theorem Zmg {h:aA}{x:yO}{e:aa}{l:List aa} (bf:Eb h x) (h3:h.Rows.length=3) (gO:rowOf h x=e::l):∃rs,h.Rows[x.gp]?=some rs/\rs[x.lK]?=some ⟨e::l⟩:=by
 have hi:=bF (show x.gp<h.Rows.length by rw[h3];exact bf.gp);refine⟨_,hi,?_⟩;unfold rowOf at gO;rw[hi]at gO;simp only at gO;split at gO
 ·rename_i r hr;rw[hr];obtain⟨L⟩:=r;simp only at gO;rw[gO]
 ·cases gO
theorem Zf9 {h:aA} (hh:o7 h) {x:yO}{e:aa}{l:List aa} (bf:Eb h x) (gO:rowOf h x=e::l):o7 (lq h x e l)/\(fR (lq h x e l)).length+1=(fR h).length:=by
 obtain⟨rs,hi,hj⟩:=Zmg bf hh.rows gO;have SV:=Zmn hi hj;have tQ:=bf.gp;have vT:=bF (show x.gp<h.bp.length by rw[hh.ni];exact tQ);generalize h.bp[x.gp]'_=s at vT;have hrm:=cS hj;have vz:∀n,In n e.aH->100*(x.gp:Int)+1<=n/\n<=100*(x.gp:Int)+60:=(hh.row _ rs hi _ hrm).2 e (by simp);have Kz:(lq h x e l).Rows=h.Rows.set x.gp (rs.set x.lK ⟨l⟩):=by unfold lq;rw[hi];rfl
 have KA:(lq h x e l).bp=h.bp.set x.gp (qY h s e):=by unfold lq;rw[vT];rfl
 have auq:(lq h x e l).aJ=j7 h.aJ e:=rfl;have aup:(lq h x e l).bz=h.bz:=rfl;generalize RZ:((h.Rows.set x.gp (rs.set x.lK ⟨l⟩)).map nh).flatten=R' at SV;have hre:fR (lq h x e l)=R':=by rw[zx,Kz,RZ]
 have dD:cD (lq h x e l)=R'++(j7 h.aJ e++h.bz.map aC.bg):=by unfold cD fx;rw[hre];rfl
 have oK:(cD h).Perm (e::(h.aJ++(R'++h.bz.map aC.bg))):=by
  unfold cD fx;refine(SV.append_right _).trans ?_;rw[gf];exact(List.perm_append_comm_assoc R' h.aJ _).cons e
 have hE:=BY oK hh.oA;obtain⟨g1,g2⟩:=Wx hE;have fk:(j7 h.aJ e++(R'++h.bz.map aC.bg)).Perm (cD (lq h x e l)):=by
  rw[dD];exact List.perm_append_comm_assoc _ _ _
 have KK:∀n,In n ((cD (lq h x e l)).flatMap aa.aH)<->In n ((cD h).flatMap aa.aH):=fun n=>by
  have q1:In n ((cD (lq h x e l)).flatMap aa.aH)<->In n ((j7 h.aJ e++(R'++h.bz.map aC.bg)).flatMap aa.aH):=by simp only[tq,fk.mem_iff]
  have q2:In n ((cD h).flatMap aa.aH)<->In n ((e::(h.aJ++(R'++h.bz.map aC.bg))).flatMap aa.aH):=by simp only[tq,oK.mem_iff]
  rw[q1,q2,g2,uD,qd]
 have Av:=hE.ok e (by simp);have xE:∀n,In n ((fx (lq h x e l)).flatMap aa.aH)<->In n (e.aH++(fx h).flatMap aa.aH):=fun n=>by
  have RX:kf (e::(h.aJ++h.bz.map aC.bg)):=hE.sub (List.Sublist.cons_cons e ((List.Sublist.refl _).append (List.sublist_append_right _ _)));have q:=(Wx RX).2 n;rw[qd];exact q
 have amW:pT e.aH ((fx h).flatMap aa.aH):=fun n ⟨n1,n2⟩=>by
  obtain⟨y,hy,n2⟩:=tq.1 n2;have hd:=(qQ.1 hE.uZ).1 y (by
   unfold fx at hy;rcases kF.1 hy with q|q
   ·exact pf _ q
   ·exact nX _ (nX _ q))
  exact hd n ⟨n1,n2⟩
 have Gj:∀a:Int,(et ((fx (lq h x e l)).flatMap aa.aH) a 60:Int)=et e.aH a 60+et ((fx h).flatMap aa.aH) a 60:=fun a=>by
  rw[Ej xE,BW amW];omega
 have dW:(et e.aH x.gp 60:Int)=gi e.aH:=Vy (jj Av) vz;have hsP:=uS.1 (hh.sU _ s vT);have tX:=hh.uh _ s vT;have mz:∀n,In n ((fx (lq h x e l)).flatMap aa.aH)->In n (fH h.bp 0):=fun n hn=>by
  rw[<-hh.taken,<-KK];obtain⟨y,hy,hn⟩:=tq.1 hn;exact tq.2 ⟨y,nX _ hy,hn⟩
 have hle:=Z3w hh.sU vT mz;rw[Gj,dW,<-tX]at hle;have aom:0<=gi e.aH:=by rw[<-dW];omega
 obtain⟨p1,p2,p3,p4,p5,p6⟩:=Z9 (e:=e) hsP (by omega) aom;have rB:∀(a:Nat) t,(h.bp.set x.gp (qY h s e))[a]?=some t->(a=x.gp/\t=qY h s e)\/(a≠x.gp/\h.bp[a]?=some t):=fun a t ht=>by
  rw[yV]at ht;split at ht
  ·rename_i q;split at ht
   ·exact .inl ⟨q.symm,by simpa using ht.symm⟩
   ·cases ht
  ·rename_i q;exact .inr ⟨fun q2=>q q2.symm,ht⟩
 refine⟨{rf:=hh.rf,ni:=by rw[KA,wQ];exact hh.ni,rows:=by rw[Kz,wQ];exact hh.rows,turns:=by show(h.cI.set _ _).length=2;rw[wQ];exact hh.turns,since:=bf.since,clock:=hh.clock,sU:=fun a t ht=>?_,two:=fun q hq=>?_,row:=fun a q ha r hr=>?_,oY:=fun t ht=>?_,ord:=Zce hh.ord,oA:=BY fk g1,taken:=fun n=>?_,uh:=fun a t ht=>?_,CX:=hh.CX},?_⟩
 ·rw[KA]at ht;rcases rB a t ht with⟨_,rfl⟩|⟨_,q⟩
  ·exact uS.2 p1
  ·exact hh.sU a t q
 ·rw[Kz]at hq;rcases List.mem_or_eq_of_mem_set hq with q2|rfl
  ·exact hh.two q q2
  ·rw[wQ];exact hh.two rs (cS hi)
 ·rw[Kz,yV]at ha;split at ha
  ·rename_i q2;subst q2;split at ha
   ·simp only[aR]at ha;subst ha;rcases List.mem_or_eq_of_mem_set hr with q3|rfl
    ·exact hh.row _ rs hi r q3
    ·obtain⟨b1,b2⟩:=hh.row _ rs hi _ hrm;exact⟨by simp only[dH]at b1⊢;omega,fun y hy=>b2 y (by simp[hy])⟩
   ·cases ha
  ·exact hh.row a q ha r hr
 ·rcases List.mem_or_eq_of_mem_set (show t∈h.cI.set x.lK x.oY from ht) with q|rfl
  ·exact hh.oY t q
  ·exact uU.2 bf.oY
 ·rw[KK,hh.taken,KA,Ez,Ez];constructor
  ·rintro⟨i,t,ht,hn⟩;by_cases hia:i=x.gp
   ·subst hia;rw[vT]at ht;cases ht;exact⟨_,qY h s e,by rw[il (by rw[hh.ni];exact tQ)],by rw[p2];exact hn⟩
   ·exact⟨i,t,by rw[jQ (fun q=>hia q.symm)];exact ht,hn⟩
  ·rintro⟨i,t,ht,hn⟩;rcases rB i t ht with⟨rfl,rfl⟩|⟨_,q⟩
   ·exact⟨_,s,vT,by rw[<-p2];exact hn⟩
   ·exact⟨i,t,q,hn⟩
 ·rw[KA]at ht;rw[Gj];rcases rB a t ht with⟨rfl,rfl⟩|⟨q1,q⟩
  ·rw[p3,dW,tX];omega
  ·have h0:et e.aH a 60=0:=Z3y fun n hn=>by have:=vz n hn;omega
   rw[hh.uh a t q,h0];simp
 ·rw[hre,SV.length_eq,dH]
theorem YQ {h h':aA} (hh:o7 h) (hs:stepG h=some h'):o7 h'/\(fR h').length+1=(fR h).length:=by
 have hp:=th (Ew.2 hh);by_cases hn:eM h 0=false/\eM h 1=false
 ·have:=(EK hp hn).1;unfold stepG at hs;rw[this]at hs;cases hs
 ·obtain⟨t,r,x,_,_,_,_,_,_,rfl,hx,bf⟩:=Ja hp hn;obtain⟨e,l,gO⟩:=List.exists_cons_of_ne_nil bf.row;unfold stepG at hs;rw[hx]at hs;simp only[gO,aR]at hs;subst hs;exact Zf9 hh bf gO
theorem Zqd {h:aA} (hh:o7 h):(∃h',stepG h=some h')<->(fR h).length≠0:=by
 have hp:=th (Ew.2 hh);rw[Ne,OS hp];constructor
 ·rintro⟨h',hs⟩ hn;have:=(EK hp hn).1;unfold stepG at hs;rw[this]at hs;cases hs
 ·intro hn;obtain⟨t,r,x,_,_,_,_,_,_,rfl,hx,bf⟩:=Ja hp hn;obtain⟨e,l,gO⟩:=List.exists_cons_of_ne_nil bf.row;exact⟨lq h ⟨r.1.toNat,(fD h).1.toNat,(fD h).2,r.2⟩ e l,by unfold stepG;rw[hx];simp only[gO]⟩
theorem Z40 {s:List af}{a:Int}{n:Int} (hn:In n s) (h:100*a+1<=n/\n<=100*a+60):1<=et s a 60:=by
 unfold et;refine List.countP_pos_iff.2 ⟨(n-100*a-1).toNat,mN.2 (by omega),?_⟩;rw[zC,show 100*a+(((n-100*a-1).toNat:Int)+1)=n by omega];exact hn
theorem VO:∀{l:List aa},kf l->(∀n,In n (l.flatMap aa.aH)->∃a:Nat,a<3/\100*(a:Int)+1<=n/\n<=100*(a:Int)+60)->
  l.length<=et (l.flatMap aa.aH) 0 60+et (l.flatMap aa.aH) 1 60+et (l.flatMap aa.aH) 2 60
 |[],_,_=>by simp
 |e::l,h,kq=>by
  obtain⟨h1,h2⟩:=qQ.1 h.uZ;have hl:kf l:=⟨fun x hx=>h.ok x (fJ _ hx),h2⟩
  have ih:=VO hl fun n hn=>kq n (by rw[uD,qd];exact .inr hn);have he:=h.ok e fe;have bC:e.aH≠[]:=by
   simp only[aa.ok,Y8,decide_eq_true_eq]at he;exact he.1.2
  obtain⟨x,hx⟩:=List.exists_mem_of_ne_nil _ bC;have dg:=(jj he).span hx;unfold fo at dg;have hn:In x.Lo e.aH:=⟨x,hx,by omega,by omega⟩
  obtain⟨a,ha,hb⟩:=kq x.Lo (by rw[uD,qd];exact .inl hn);have hp:=Z40 hn hb;rw[uD,BW (Iu h1),BW (Iu h1),BW (Iu h1),dH]
  match a,ha with
  |0,_=>
   have:et e.aH ((0:Nat):Int) 60=et e.aH 0 60:=rfl;omega
  |1,_=>
   have:et e.aH ((1:Nat):Int) 60=et e.aH 1 60:=rfl;omega
  |2,_=>
   have:et e.aH ((2:Nat):Int) 60=et e.aH 2 60:=rfl;omega
theorem ZE {h:aA} (hh:o7 h) {n:Int} (hn:In n (fH h.bp 0)):∃a:Nat,a<3/\100*(a:Int)+1<=n/\n<=100*(a:Int)+60:=by
 obtain⟨i,s,hs,h1⟩:=Ez.1 hn;have h2:=uS.1 (hh.sU i s hs);have h3:=h2.taken _ h1;have h4:=h2.granted;have:=(bt.1 hs).1;have:=hh.ni;exact⟨i,by omega,by omega,by omega⟩
theorem few {h:aA} (hh:o7 h):(cD h).length<=180:=by
 have h1:=VO hh.oA fun n hn=>ZE hh ((hh.taken n).1 hn);have:=Ir ((cD h).flatMap aa.aH) 0 60;have:=Ir ((cD h).flatMap aa.aH) 1 60;have:=Ir ((cD h).flatMap aa.aH) 2 60;omega
theorem Il {α:Type}{f:α->Nat}{m:Nat}:∀{l:List α},(∀x∈l,f x<=m)->aS f l<=l.length*(m+1)
 |[],_=>by simp[aS]
 |x::l,h=>by
  have h1:=h x fe;have h2:=Il (l:=l) fun y hy=>h y (fJ _ hy);have e:aS f (x::l)=aS f l+f x+1:=by simp only[aS,fc,im,dH];omega
  rw[e,dH,iW];omega
theorem Ik {α:Type} (f:α->Nat) (a b:List α):aS f (a++b)=aS f a+aS f b:=by
 simp only[aS,kh,List.sum_append,jR];omega
theorem Vi {α:Type} (f:α->Nat):∀l:List (List α),aS (aS f) l=l.length+aS f l.flatten
 |[]=>rfl
 |x::l=>by
  have e:aS (aS f) (x::l)=aS (aS f) l+aS f x+1:=by simp only[aS,fc,im,dH];omega
  rw[e,Vi f l,pd,Ik,dH];omega
theorem WO:∀{s:List af},(∀x∈s,x.Lo<=x.Hi)->(s.length:Int)<=gD s
 |[],_=>by simp[gD]
 |x::s,h=>by
  have h1:=h x fe;have h2:=WO (s:=s) fun y hy=>h y (fJ _ hy);simp only[gD,fc,im,dH]at h2⊢;omega
theorem Z5a {h:aA} (hh:o7 h) {e:aa} (he:e∈cD h):e.al<=400:=by
 have bf:=hh.oA.ok e he;have hs:=jj bf;have h1:∀x∈e.aH,(0:Int)<=x.Lo/\x.Hi<=260:=fun x hx=>by
  have dg:=hs.span hx;unfold fo at dg;obtain⟨a,ha,hb⟩:=ZE hh ((hh.taken x.Hi).1 (tq.2 ⟨e,he,x,hx,by omega,by omega⟩));exact⟨dg.1,by omega⟩
 have h2:=PM hs h1 (by omega);have h3:=WO (s:=e.aH) fun x hx=>by have:=hs.span hx;unfold fo at this;omega
 have h4:=Ct ((r7 _).1 (ul bf));unfold aa.al;omega
theorem Wm {h:aA} (hh:o7 h):h.al<=200000:=by
 have bf:∀e∈cD h,aa.al e<=400:=fun e he=>Z5a hh he;have h1:=Il bf;have h2:=few hh;have h3:aS aa.al (cD h)<=72180:=by
  have:=kC 401 h2;omega
 have aoo:∀s∈h.bp,aD.al s<=10000:=fun s hs=>by
  obtain⟨i,hi⟩:=gZ.1 hs;exact tE (uS.1 (hh.sU i s hi)).set
 have h4:=Il aoo;rw[hh.ni]at h4;have aoy:∀t∈h.cI,aK.al t<=3:=fun t ht=>by
  have:=(uU.1 (hh.oY t ht)).len;simp only[aK.al];omega
 have h5:=Il aoy;rw[hh.turns]at h5;have hP:=th (Ew.2 hh);have h6:h.aT.al=3:=hP.weights.1;have KW:aS (aS au.al) h.Rows=9+aS aa.al (fR h):=by
  obtain⟨a,b,c,hR⟩:∃a b c,h.Rows=[a,b,c]:=by
   match hT:h.Rows,hh.rows with
   |[a,b,c],_=>exact⟨a,b,c,rfl⟩
  have dY:∀rs:List au,aS au.al rs=rs.length+aS aa.al (nh rs):=fun rs=>by
   have:=Vi aa.al (rs.map au.bV);rw[cL]at this;rw[nh,<-this];exact(Oh (f:=aS aa.al) (g:=au.bV) (k:=au.al) (fun _=>rfl) rs).symm
  have h7:=hh.two;rw[hR]at h7;rw[zx,hR];have e:aS (aS au.al) [a,b,c]=3+aS au.al a+aS au.al b+aS au.al c:=by simp only[aS,fc,im,dH,s8,List.sum_nil,p7];omega
  rw[e,dY a,dY b,dY c,h7 a (by simp),h7 b (by simp),h7 c (by simp)];simp only[fc,s8,pd,List.flatten_nil,Ik,nW];omega
 have anZ:aS aC.al h.bz=aS aa.al (h.bz.map aC.bg):=(Oh (f:=aa.al) (g:=aC.bg) (k:=aC.al) (fun _=>rfl) _).symm;have aby:aS aa.al (cD h)=aS aa.al (fR h)+(aS aa.al h.aJ+aS aC.al h.bz):=by
  unfold cD fx;rw[Ik,Ik,anZ]
 unfold aA.al;omega
def ir (h:aA):Option aA:=if fu h&&h.gT then(match stepG h with|some h'=>some h'|none=>if h.aJ.isEmpty then none else some (kJ (fun _=>true) h)) else none
theorem OB (t:aa->Bool):∀(rt:List aa) (p:List aa×List aC),(rt.foldl (mS t) p).1=p.1++rt.filter fun e=> !t e
 |[],p=>by simp
 |e::rt,p=>by
  rw[qP,OB t rt];unfold mS;cases h:t e<;>simp[h]
theorem V9 (t:aa->Bool):∀(rt:List aa) (p:List aa×List aC),((rt.foldl (mS t) p).1++(rt.foldl (mS t) p).2.map aC.bg).Perm ((p.1++p.2.map aC.bg)++rt)
 |[],p=>by simp
 |e::rt,p=>by
  rw[qP];refine(V9 t rt (mS t p e)).trans ?_;rw[show p.1++p.2.map aC.bg++e::rt=(p.1++p.2.map aC.bg++[e])++rt by simp];refine List.Perm.append_right rt ?_;unfold mS;split
  ·simp
  ·simp only[gY];have hc:([e]++p.2.map aC.bg).Perm (p.2.map aC.bg++[e]):=List.perm_append_comm;exact hc.append_left p.1
def H9 (l:List aC):Prop:=∀(i:Nat) o,l[i]?=some o->o.BI=(nR (l.take i) o.bg.Key o.bg.eo:Int)
theorem Z9p {l:List aC}{e:aa} (h:H9 l):H9 (l++[⟨nR l e.Key e.eo,e⟩]):=fun i o ho=>by
 rcases js i l.length with hi|hi
 ·rw[nl hi]at ho;rw[List.take_append_of_le_length (by omega)];exact h i o ho
 ·rw[kD hi]at ho;have:i=l.length:=by
   have:=(bt.1 ho).1;simp only[dH,p7]at this;omega
  subst this;simp only[wH,kE,aR]at ho;subst ho;rw[List.take_left]
theorem V8 (t:aa->Bool):∀(rt:List aa) (p:List aa×List aC),H9 p.2->H9 (rt.foldl (mS t) p).2
 |[],p,h=>h
 |e::rt,p,h=>by
  rw[qP];refine V8 t rt _ ?_;unfold mS;split
  ·exact Z9p h
  ·exact h
theorem Xy {a b:List aa} (h:a.Perm b) (n:Int):In n (a.flatMap aa.aH)<->In n (b.flatMap aa.aH):=by simp only[tq,h.mem_iff]
theorem Z88 {h:aA} (hh:o7 h) (t:aa->Bool):o7 (kJ t h):=by
 have hp:(fx (kJ t h)).Perm (fx h):=by
  have:=V9 t h.aJ ([],h.bz);simp only[eC]at this;exact this.trans List.perm_append_comm
 have fk:(cD (kJ t h)).Perm (cD h):=hp.append_left (fR h);refine{rf:=hh.rf,ni:=hh.ni,rows:=hh.rows,turns:=hh.turns,since:=hh.since,clock:=hh.clock,sU:=hh.sU,two:=hh.two,row:=hh.row,oY:=hh.oY,ord:=?_,oA:=BY fk.symm hh.oA,taken:=fun n=>?_,uh:=fun a s hs=>?_,CX:=V8 t h.aJ ([],h.bz) hh.CX}
 ·show List.Pairwise _ (sh t h.aJ h.bz).1;unfold sh;rw[OB];exact hh.ord.sublist List.filter_sublist
 ·rw[Xy fk];exact hh.taken n
 ·rw[Ej (Xy hp)];exact hh.uh a s hs
theorem Z85 (h:aA):(kJ (fun _=>true) h).aJ=[]:=by
 show(sh (fun _=>true) h.aJ h.bz).1=[];unfold sh;rw[OB];simp
theorem Z3i {h h':aA} (hs:stepG h=some h'):h'.gT=h.gT/\h'.aT=h.aT:=by
 unfold stepG at hs;split at hs
 ·cases hs
 ·split at hs
  ·simp only[aR]at hs;subst hs;exact⟨rfl,rfl⟩
  ·cases hs
theorem Oq {h h':aA} (hs:ir h=some h'):o7 h/\h.gT=true/\o7 h'/\h'.gT=true:=by
 unfold ir at hs;split at hs
 ·rename_i hc;simp only[Y8]at hc;have hh:=Ew.1 hc.1;refine⟨hh,hc.2,?_⟩;split at hs
  ·rename_i h2 h3;simp only[aR]at hs;subst hs;exact⟨(YQ hh h3).1,(Z3i h3).1.trans hc.2⟩
  ·split at hs
   ·cases hs
   ·simp only[aR]at hs;subst hs;exact⟨Z88 hh _,hc.2⟩
 ·cases hs
def CL (h:aA):Nat:=(fR h).length+(if(fR h).length=0/\h.aJ=[] then 0 else 1)
theorem VH {h h':aA} (hs:ir h=some h'):CL h'<CL h:=by
 have hR:=Oq hs;unfold ir at hs;rw[if_pos (by rw[Ew.2 hR.1,hR.2.1];rfl)]at hs;split at hs
 ·rename_i h2 h3;simp only[aR]at hs;subst hs;have:=(YQ hR.1 h3).2;unfold CL;rw[if_neg (c:=(fR h).length=0/\h.aJ=[]) (by omega)];split<;>omega
 ·rename_i h3;have h0:(fR h).length=0:=Classical.byContradiction fun bC=>by
   obtain⟨h',q⟩:=(Zqd hR.1).2 bC;rw[h3]at q;cases q
  split at hs
  ·cases hs
  ·rename_i hr;simp only[aR]at hs;subst hs;have e1:(fR (kJ (fun _=>true) h)).length=0:=h0;unfold CL;rw[Z85,e1,h0,if_pos ⟨rfl,rfl⟩,if_neg (by rintro⟨_,q⟩;rw[q]at hr;exact hr rfl)];omega
def tJ:Nat->aA->aA
 |0,h=>h
 |n+1,h=>match ir h with|some h'=>tJ n h'|none=>h
theorem Oo {n:Nat}{h h':aA} (hs:ir h=some h'):tJ (n+1) h=tJ n h':=by
 show(match ir h with|some h'=>tJ n h'|none=>h)=_;rw[hs]
theorem On {n:Nat}{h:aA} (hs:ir h=none):tJ n h=h:=by
 cases n with
 |zero=>rfl
 |succ n=>
  show(match ir h with|some h'=>tJ n h'|none=>h)=_;rw[hs]
theorem VD:∀(n:Nat) {h:aA},CL h<=n->ir (tJ n h)=none
 |0,h,hn=>by
  show ir h=none;cases hs:ir h with
  |none=>rfl
  |some h'=>have:=VH hs;omega
 |n+1,h,hn=>by
  cases hs:ir h with
  |none=>rw[On hs,hs]
  |some h'=>
   have:=VH hs;rw[Oo hs];exact VD n (by omega)
theorem VE {m:Nat} (hm:200000<=m):∀(n:Nat) {h:aA},h.al<=m->(tJ n h).al<=m
 |0,h,hl=>hl
 |n+1,h,hl=>by
  cases hs:ir h with
  |none=>rw[On hs];exact hl
  |some h'=>
   have:=Wm (Oq hs).2.2.1;rw[Oo hs];exact VE hm n (by omega)
def CK (h:aA):aA:=tJ (CL (rb h)) (rb h)
theorem Z4g {m:Nat} (hm:200000<=m) {h:aA} (hl:h.al<=m):(CK h).al<=m:=VE hm _ (by rw[Oj];exact hl)
end Go.Wr

